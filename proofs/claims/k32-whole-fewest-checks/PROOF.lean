import PyProof.Rows.All
import Wide.All
import OpenK.AllK
import Wide.FinOn
import HandS.ForMost
import KE.DataMinMax
import HandS.TupAny
import HandS.TupMul
import HandS.Style
import HandS.Wide
import HandS.Flow
import HandS.Deep
import HandS.CallSlots
import HandS.ExcOwn
import HandS.WordsExc
import HandS.AnyAll
import HandS.Nested
import HandS.IsInst
import HandS.Text
import HandS.Strs
import HandS.More
import HandS.Replace
import PyProof.AutoSeq1
import HandS.Conv
import KE.GoesMore
import HandS.Zip
import HandS.Iter
import HandS.Small
import HandS.GenList
import HandS.SortInts
import HandS.ExcCtx
import HandS.ExcInit
import HandS.ExcIs
import HandS.ExcField
import KE.KExcIs
import HandS.Defaults
import HandS.Head0
import HandS.HeadHook4
import HandS.Head1
import HandS.Head2
import HandS.HeadEnd
import HandS.HeadHook1
import HandS.HeadHook2
import HandS.HeadHook3
import HandS.HeadWalk
import PySem.Challenge.RW_cutledger_k32_whole_fewest_checks
set_option Elab.async false
set_option linter.all false
set_option maxRecDepth 100000
set_option maxHeartbeats 0
/-! A clean evaluator of a part of Python: values without addresses, a store of lists. -/
namespace Cut
open PySem

inductive Ty where
  | int | bool | str | tuple | list | dict | none
  deriving DecidableEq, Inhabited
def Ty.name : Ty → String
  | .int => "int" | .bool => "bool" | .str => "str" | .tuple => "tuple" | .list => "list" | .dict => "dict" | .none => "NoneType"
inductive D where
  | non | bl (b : Bool) | int (i : Int) | str (s : List Nat) | tup (xs : List D) | ref (n : Nat) | ty (t : Ty)
  deriving Inhabited

mutual
def D.deq : (a b : D) → Decidable (a = b)
  | .non, .non => Decidable.isTrue rfl
  | .bl a, .bl b => if h : a = b then Decidable.isTrue (by rw [h]) else Decidable.isFalse fun q => h (D.bl.inj q)
  | .int a, .int b => if h : a = b then Decidable.isTrue (by rw [h]) else Decidable.isFalse fun q => h (D.int.inj q)
  | .str a, .str b => if h : a = b then Decidable.isTrue (by rw [h]) else Decidable.isFalse fun q => h (D.str.inj q)
  | .tup a, .tup b => match D.deqs a b with
    | Decidable.isTrue h => Decidable.isTrue (by rw [h])
    | Decidable.isFalse h => Decidable.isFalse fun q => h (D.tup.inj q)
  | .ref a, .ref b => if h : a = b then Decidable.isTrue (by rw [h]) else Decidable.isFalse fun q => h (D.ref.inj q)
  | .ty a, .ty b => if h : a = b then Decidable.isTrue (by rw [h]) else Decidable.isFalse fun q => h (D.ty.inj q)
  | .non, .bl _ | .non, .int _ | .non, .str _ | .non, .tup _ | .non, .ref _ | .non, .ty _ => Decidable.isFalse fun q => nomatch q
  | .bl _, .non | .bl _, .int _ | .bl _, .str _ | .bl _, .tup _ | .bl _, .ref _ | .bl _, .ty _ => Decidable.isFalse fun q => nomatch q
  | .int _, .non | .int _, .bl _ | .int _, .str _ | .int _, .tup _ | .int _, .ref _ | .int _, .ty _ => Decidable.isFalse fun q => nomatch q
  | .str _, .non | .str _, .bl _ | .str _, .int _ | .str _, .tup _ | .str _, .ref _ | .str _, .ty _ => Decidable.isFalse fun q => nomatch q
  | .tup _, .non | .tup _, .bl _ | .tup _, .int _ | .tup _, .str _ | .tup _, .ref _ | .tup _, .ty _ => Decidable.isFalse fun q => nomatch q
  | .ref _, .non | .ref _, .bl _ | .ref _, .int _ | .ref _, .str _ | .ref _, .tup _ | .ref _, .ty _ => Decidable.isFalse fun q => nomatch q
  | .ty _, .non | .ty _, .bl _ | .ty _, .int _ | .ty _, .str _ | .ty _, .tup _ | .ty _, .ref _ => Decidable.isFalse fun q => nomatch q
def D.deqs : (a b : List D) → Decidable (a = b)
  | [], [] => Decidable.isTrue rfl
  | [], _ :: _ => Decidable.isFalse fun q => nomatch q
  | _ :: _, [] => Decidable.isFalse fun q => nomatch q
  | x :: xs, y :: ys => match D.deq x y, D.deqs xs ys with
    | Decidable.isTrue h, Decidable.isTrue k => Decidable.isTrue (by rw [h, k])
    | Decidable.isFalse h, _ => Decidable.isFalse fun q => h (List.cons.inj q).1
    | _, Decidable.isFalse k => Decidable.isFalse fun q => k (List.cons.inj q).2
end
instance : DecidableEq D := D.deq

inductive Cell where
  | lst (xs : List D)
  | dic (kvs : List (L2.Key × D))
  | ins (c : Nat) (fs : List (Nat × D))
  | clo (f : Nat) (ds : List D)
  | dead
  deriving Inhabited, DecidableEq

structure Store where
  lim : Nat
  cs : List Cell

inductive R (α : Type) where
  | ok (a : α) (G : Store)
  | exc (c : Nat) (fs : List D) (G : Store)
  | stuck

def R.bind {α β : Type} (r : R α) (f : α → Store → R β) : R β := match r with
  | .ok a G => f a G
  | .exc c fs G => .exc c fs G
  | .stuck => .stuck

abbrev Env := List (Option D)

def Store.lst? (G : Store) (n : Nat) : Option (List D) := match G.cs[n]? with
  | some (.lst xs) => some xs
  | _ => none
def Store.dic? (G : Store) (n : Nat) : Option (List (L2.Key × D)) := match G.cs[n]? with
  | some (.dic kvs) => some kvs
  | _ => none
def keyD : D → Option L2.Key
  | .int i => some (.inl i)
  | .str s => some (.inr ⟨s.toArray⟩)
  | _ => none
def keyV : L2.Key → D
  | .inl i => .int i
  | .inr x => .str x.cps.toList
def putD (kvs : List (L2.Key × D)) (k : L2.Key) (d : D) : List (L2.Key × D) :=
  if (kvs.any fun kv => decide (kv.1 = k)) = true then kvs.map (fun kv => if kv.1 = k then (kv.1, d) else kv) else kvs ++ [(k, d)]
def Store.put (G : Store) (n : Nat) (c : Cell) : Store := { G with cs := G.cs.set n c }
def Store.new (G : Store) (c : Cell) : Store := { G with cs := G.cs ++ [c] }

/-! ### data for == -/
mutual
def pyW (r : Nat → Option PyData) : D → Option PyData
  | .non => some .none
  | .bl b => some (.bool b)
  | .int i => some (.int i)
  | .str s => some (.str ⟨s.toArray⟩)
  | .tup xs => (pyWs r xs).map .tuple
  | .ref n => r n
  | .ty _ => none
def pyWs (r : Nat → Option PyData) : List D → Option (List PyData)
  | [] => some []
  | x :: xs => match pyW r x, pyWs r xs with
    | some d, some ds => some (d :: ds)
    | _, _ => none
end
def pyD : Nat → Store → D → Option PyData
  | 0, _ => pyW fun _ => none
  | n + 1, G => pyW fun k => match G.lst? k with
    | some xs => (pyWs (fun j => pyD n G (.ref j)) xs).map .list
    | none => none
def eqD (G : Store) (a b : D) : Option Bool := match pyD 8 G a, pyD 8 G b with
  | some x, some y => if SeqAt.shaped x && SeqAt.shaped y then some (PyData.eqv x y) else none
  | _, _ => none

/-! ### operators -/
inductive Op2 where
  | add | sub | mul | fdiv | mod | pow | xor | eq | ne | lt | le | gt | ge | is | isnot | in_ | notin | ix
  deriving DecidableEq

def truthy (d : D) (G : Store) : Option Bool := match d with
  | .non => some false
  | .bl b => some b
  | .int i => some (i != 0)
  | .str s => if s.length ≤ sizeLine then some (!s.isEmpty) else none
  | .tup xs => some (!xs.isEmpty)
  | .ref n => (match G.lst? n with
    | some xs => some (!xs.isEmpty)
    | none => (G.dic? n).map fun kvs => !kvs.isEmpty)
  | .ty _ => none

def okB (b : Bool) (G : Store) : R D := .ok (.bl b) G
def okO (o : Option Bool) (G : Store) : R D := match o with
  | some b => .ok (.bl b) G
  | none => .stuck
def okD (o : Option D) (G : Store) : R D := match o with
  | some d => .ok d G
  | none => .stuck
def newL (xs : List D) (G : Store) : R D := if xs.length ≤ sizeLine then .ok (.ref G.cs.length) (G.new (.lst xs)) else .stuck
def flatD : D → Bool
  | .non | .bl _ | .int _ | .str _ => true
  | _ => false
/-- == of flat values -/
def eqF : D → D → Bool
  | .non, .non => true
  | .bl a, .bl b => a == b
  | .bl a, .int b => (if a then 1 else 0) == b
  | .int a, .bl b => a == (if b then 1 else 0)
  | .int a, .int b => a == b
  | .str a, .str b => a == b
  | _, _ => false
def items (d : D) (G : Store) : Option (List D) := match d with
  | .tup xs => some xs
  | .ref n => G.lst? n
  | _ => none
/-- alike data that hold no list of the store (and no None at the top) -/
def notNon : PyData → Bool
  | .none => false
  | _ => true
def cmpD (G : Store) (a b : D) (f : PyData → PyData → Bool) : Option Bool := match pyD 8 G a, pyD 8 G b with
  | some x, some y => if SeqAt.shaped x && (SeqAt.shaped y && (PySem.W.alike x y && notNon x)) then some (f x y) else none
  | _, _ => none
mutual
def ofPy : PyData → Option D
  | .none => some .non
  | .bool b => some (.bl b)
  | .int i => some (.int i)
  | .str s => some (.str s.cps.toList)
  | .tuple xs => (ofPys xs).map .tup
  | _ => none
def ofPys : List PyData → Option (List D)
  | [] => some []
  | x :: xs => match ofPy x, ofPys xs with
    | some d, some ds => some (d :: ds)
    | _, _ => none
end
def inD (G : Store) (x y : D) : Option Bool := match x, y with
  | .str [c], .str s => some (decide (c ∈ s))
  | x, y => match items y G with
    | some xs => if flatD x && xs.all flatD then some (xs.any fun y => eqF y x) else none
    | none => none
def ixAt {α : Type} (xs : List α) (i : Int) : Option α := L2.atI xs i
def intsD : List D → Option (List Int)
  | [] => some []
  | .int i :: r => (intsD r).map (i :: ·)
  | _ => none

def op2 (o : Op2) (a b : D) (G : Store) : R D := match o with
  | .add => (match a, b with
    | .int i, .int j => .ok (.int (i + j)) G
    | .str x, .str y => if x.length + y.length ≤ sizeLine then .ok (.str (x ++ y)) G else .stuck
    | .tup xs, .tup ys => if xs.length + ys.length ≤ sizeLine then .ok (.tup (xs ++ ys)) G else .stuck
    | .ref m, .ref n => (match G.lst? m, G.lst? n with
      | some xs, some ys => if G.lim ≤ m ∧ G.lim ≤ n then newL (xs ++ ys) G else .stuck
      | _, _ => .stuck)
    | _, _ => .stuck)
  | .sub => (match a, b with
    | .int i, .int j => .ok (.int (i - j)) G
    | _, _ => .stuck)
  | .mul => (match a, b with
    | .int i, .int j => if i.natAbs.log2 + j.natAbs.log2 < 1000000 then .ok (.int (i * j)) G else .stuck
    | .tup xs, .int k => if xs ≠ [] ∧ 2 ≤ k ∧ k ≤ 1000000 ∧ xs.length * k.toNat ≤ 1000000 then .ok (.tup (List.replicate k.toNat xs).flatten) G else .stuck
    | .str s, .int k => if 0 ≤ k ∧ k ≤ 1000000 ∧ s.length ≤ 1000 ∧ s.length * k.toNat ≤ 1000000 then .ok (.str (List.replicate k.toNat s).flatten) G else .stuck
    | .ref m, .int k => (match G.lst? m with
      | some xs => if G.lim ≤ m ∧ -(2 ^ 63) ≤ k ∧ k < 2 ^ 63 ∧ xs.length * k.toNat ≤ sizeLine then newL (List.replicate k.toNat xs).flatten G else .stuck
      | none => .stuck)
    | _, _ => .stuck)
  | .fdiv => (match a, b with
    | .int i, .int j => if 0 < j ∧ j.natAbs.log2 < 9000 then .ok (.int (i / j)) G else .stuck
    | _, _ => .stuck)
  | .mod => (match a, b with
    | .int i, .int j => if 0 < j then .ok (.int (i % j)) G else .stuck
    | _, _ => .stuck)
  | .pow => (match a, b with
    | .int i, .int j => if 0 ≤ j ∧ j ≤ 1000000 ∧ i.natAbs < 2 ^ 64 then .ok (.int (i ^ j.toNat)) G else .stuck
    | _, _ => .stuck)
  | .xor => (match a, b with
    | .int i, .int j => .ok (.int (Spec.bitXor i j)) G
    | _, _ => .stuck)
  | .eq => okO (eqD G a b) G
  | .ne => okO ((eqD G a b).map (!·)) G
  | .lt => (match a, b with
    | .int i, .int j => .ok (.bl (decide (i < j))) G
    | a, b => okO (cmpD G a b PySem.W.dataLt) G)
  | .le => (match a, b with
    | .int i, .int j => .ok (.bl (decide (i ≤ j))) G
    | a, b => okO (cmpD G a b fun x y => !PySem.W.dataLt y x) G)
  | .gt => (match a, b with
    | .int i, .int j => .ok (.bl (decide (j < i))) G
    | a, b => okO (cmpD G a b fun x y => PySem.W.dataLt y x) G)
  | .ge => (match a, b with
    | .int i, .int j => .ok (.bl (decide (j ≤ i))) G
    | a, b => okO (cmpD G a b fun x y => !PySem.W.dataLt x y) G)
  | .is => (match a, b with
    | .non, .non => .ok (.bl true) G
    | _, .non => .ok (.bl false) G
    | .bl x, .bl y => .ok (.bl (decide (x = y))) G
    | _, _ => .stuck)
  | .isnot => (match a, b with
    | .non, .non => .ok (.bl false) G
    | _, .non => .ok (.bl true) G
    | .bl x, .bl y => .ok (.bl (!decide (x = y))) G
    | _, _ => .stuck)
  | .in_ => okO (inD G a b) G
  | .notin => okO ((inD G a b).map (!·)) G
  | .ix => (match a, b with
    | .tup xs, .int i => okD (ixAt xs i) G
    | .str s, .int i => if s.length ≤ sizeLine then okD ((ixAt s i).map fun c => .str [c]) G else .stuck
    | .ref n, .int i => (match G.lst? n with
      | some xs => okD (ixAt xs i) G
      | none => .stuck)
    | _, _ => .stuck)

inductive Op1 where
  | not | neg
  deriving DecidableEq
def op1 (o : Op1) (a : D) (G : Store) : R D := match o with
  | .not => (match truthy a G with
    | some b => .ok (.bl (!b)) G
    | none => .stuck)
  | .neg => (match a with
    | .int i => .ok (.int (-i)) G
    | _ => .stuck)

/-- a[lo:hi] -/
def cutD {α : Type} (xs : List α) (lo hi : Option Int) : List α := (xs.drop (HT.sIx xs.length 0 lo)).take (HT.sIx xs.length xs.length hi - HT.sIx xs.length 0 lo)
def opSl (a : D) (lo hi : Option Int) (G : Store) : R D := match a with
  | .tup xs => .ok (.tup (cutD xs lo hi)) G
  | .str s => if s.length ≤ sizeLine then .ok (.str (cutD s lo hi)) G else .stuck
  | .ref n => (match G.lst? n with
    | some xs => newL (cutD xs lo hi) G
    | none => .stuck)
  | _ => .stuck
/-- a[::-1] of a list -/
def opRev (a : D) (G : Store) : R D := match a with
  | .ref n => (match G.lst? n with
    | some xs => newL xs.reverse G
    | none => .stuck)
  | _ => .stuck

/-! ### built-ins -/
def tyOf (d : D) (G : Store) : Option Ty := match d with
  | .non => some .none
  | .bl _ => some .bool
  | .int _ => some .int
  | .str _ => some .str
  | .tup _ => some .tuple
  | .ref n => (match G.lst? n with
    | some _ => some .list
    | none => (G.dic? n).map fun _ => .dict)
  | .ty _ => none
def isTy (a b : Ty) : Bool := a == b || (a == .bool && b == .int)
def isTys (a : Ty) : List D → Option Bool
  | [] => some false
  | .ty b :: r => (isTys a r).map fun x => isTy a b || x
  | _ => none
inductive Bf where
  | len | int | tuple | list | min | max | isin | any | sorted | sum | minL | maxL
  deriving DecidableEq
def b0 (g : Store → R D) (xs : List D) (G : Store) : R D := match xs with
  | [] => g G
  | _ => .stuck
def b1 (g : D → Store → R D) (xs : List D) (G : Store) : R D := match xs with
  | [d] => g d G
  | _ => .stuck
def b2 (g : D → D → Store → R D) (xs : List D) (G : Store) : R D := match xs with
  | [d, e] => g d e G
  | _ => .stuck
def lenD (d : D) (G : Store) : R D := match d with
  | .tup xs => .ok (.int xs.length) G
  | .str s => if s.length ≤ sizeLine then .ok (.int s.length) G else .stuck
  | .ref n => (match G.lst? n with
    | some xs => .ok (.int xs.length) G
    | none => .stuck)
  | _ => .stuck
def intD (d : D) (G : Store) : R D := match d with
  | .int i => .ok (.int i) G
  | .bl b => .ok (.int (if b then 1 else 0)) G
  | _ => .stuck
def tupD (d : D) (G : Store) : R D := match d with
  | .tup xs => .ok (.tup xs) G
  | .ref n => (match G.lst? n with
    | some xs => .ok (.tup xs) G
    | none => .stuck)
  | _ => .stuck
def lstD (d : D) (G : Store) : R D := match d with
  | .tup xs => newL xs G
  | .ref n => (match G.lst? n with
    | some xs => newL xs G
    | none => (match G.dic? n with
      | some kvs => newL (kvs.map fun kv => keyV kv.1) G
      | none => .stuck))
  | _ => .stuck
def isinD (d e : D) (G : Store) : R D := match e with
  | .ty b => okO ((tyOf d G).map fun a => isTy a b) G
  | .tup ts => (match tyOf d G with
    | some a => okO (isTys a ts) G
    | none => .stuck)
  | _ => .stuck
def minD (d e : D) (G : Store) : R D := match d, e with
  | .int i, .int j => .ok (.int (if j < i then j else i)) G
  | _, _ => .stuck
def maxD (d e : D) (G : Store) : R D := match d, e with
  | .int i, .int j => .ok (.int (if j > i then j else i)) G
  | _, _ => .stuck
def anyD (d : D) (G : Store) : R D := match items d G with
  | some xs => (match intsD xs with
    | some ns => .ok (.bl (ns.any fun i => i != 0)) G
    | none => .stuck)
  | none => .stuck
def sortI (ns : List Int) : List Int := ns.mergeSort fun a b => decide (a ≤ b)
def lstI (d : D) (G : Store) : Option (List Int) := match d with
  | .ref n => (G.lst? n).bind intsD
  | _ => none
def sortedD (d : D) (G : Store) : R D := match lstI d G with
  | some ns => newL ((sortI ns).map .int) G
  | none => .stuck
def sumD (d : D) (G : Store) : R D := match lstI d G with
  | some ns => .ok (.int ns.sum) G
  | none => .stuck
def leastI : List Int → Int
  | [] => 0
  | [i] => i
  | i :: j :: r => if i ≤ leastI (j :: r) then i else leastI (j :: r)
def mostI : List Int → Int
  | [] => 0
  | [i] => i
  | i :: j :: r => if mostI (j :: r) ≤ i then i else mostI (j :: r)
def dataL (d : D) (G : Store) : Option (PyData × List PyData) := match d with
  | .ref n => (match (G.lst? n).bind (pyWs fun _ => none) with
    | some (p :: ps) => if ((p :: ps).all fun x => notNon x && (p :: ps).all fun y => PySem.W.alike x y) && (SeqAt.shaped p && PyData.canLayAll0 (p :: ps) && decide (PyData.depthAll (p :: ps) ≤ 60)) then some (p, ps) else none
    | _ => none)
  | _ => none
def minLD (d : D) (G : Store) : R D := match lstI d G with
  | some ns => if ns = [] then .stuck else .ok (.int (leastI ns)) G
  | none => (match dataL d G with
    | some (p, ps) => okD (ofPy (PySem.W.minD p ps)) G
    | none => .stuck)
def maxLD (d : D) (G : Store) : R D := match lstI d G with
  | some ns => if ns = [] then .stuck else .ok (.int (mostI ns)) G
  | none => (match dataL d G with
    | some (p, ps) => okD (ofPy (PySem.W.maxD p ps)) G
    | none => .stuck)
def bf (f : Bf) : List D → Store → R D := match f with
  | .len => b1 lenD
  | .int => b1 intD
  | .tuple => b1 tupD
  | .list => b1 lstD
  | .isin => b2 isinD
  | .min => b2 minD
  | .max => b2 maxD
  | .any => b1 anyD
  | .sorted => b1 sortedD
  | .sum => b1 sumD
  | .minL => b1 minLD
  | .maxL => b1 maxLD

inductive Mt where
  | append | extend | indexL | indexS | indexT | pop | join | upper | countL | popAt
  deriving DecidableEq
def strsD : List D → Option (List (List Nat))
  | [] => some []
  | .str s :: r => (strsD r).map (s :: ·)
  | _ => none
def joinS (sep : List Nat) : List (List Nat) → List Nat
  | [] => []
  | [x] => x
  | x :: y :: r => x ++ sep ++ joinS sep (y :: r)
def appendD (o d : D) (G : Store) : R D := match o with
  | .ref n => (match G.lst? n with
    | some ys => if G.lim ≤ n ∧ ys.length < sizeLine then .ok .non (G.put n (.lst (ys ++ [d]))) else .stuck
    | none => .stuck)
  | _ => .stuck
def ownItems (d : D) (G : Store) : Option (List D) := match d with
  | .tup xs => some xs
  | .ref n => if G.lim ≤ n then G.lst? n else none
  | _ => none
def extendD (o d : D) (G : Store) : R D := match o with
  | .ref n => (match G.lst? n, ownItems d G with
    | some ys, some zs => if G.lim ≤ n ∧ ys.length + zs.length ≤ sizeLine then .ok .non (G.put n (.lst (ys ++ zs))) else .stuck
    | _, _ => .stuck)
  | _ => .stuck
def popD (o : D) (G : Store) : R D := match o with
  | .ref n => (match G.lst? n with
    | some ys => (match ys[ys.length - 1]? with
      | some d => if G.lim ≤ n then .ok d (G.put n (.lst ys.dropLast)) else .stuck
      | none => .stuck)
    | none => .stuck)
  | _ => .stuck
def popAtD (o d : D) (G : Store) : R D := match o, d with
  | .ref n, .int i => (match G.lst? n with
    | some ys => (match L2.ixN ys.length i with
      | some k => (match ys[k]? with
        | some d => if G.lim ≤ n ∧ -(2 ^ 63) ≤ i ∧ i < 2 ^ 63 then .ok d (G.put n (.lst (ys.eraseIdx k))) else .stuck
        | none => .stuck)
      | none => .stuck)
    | none => .stuck)
  | _, _ => .stuck
def indexSD (o d : D) (G : Store) : R D := match o, d with
  | .str s, .str [c] => (match Builtin.Str.occurrences ⟨s.toArray⟩ ⟨#[c]⟩ 0 s.length 1 with
    | i :: _ => .ok (.int (i : Int)) G
    | [] => .stuck)
  | _, _ => .stuck
def indexLD (o y : D) (G : Store) : R D := match o with
  | .ref n => (match G.lst? n with
    | some ys => if flatD y && ys.all flatD then okD ((ys.findIdx? fun z => eqF z y).map fun (i : Nat) => D.int (i : Int)) G else .stuck
    | none => .stuck)
  | _ => .stuck
def countLD (o y : D) (G : Store) : R D := match o with
  | .ref n => (match G.lst? n with
    | some ys => if flatD y && ys.all flatD then .ok (.int ((ys.filter fun z => eqF z y).length : Int)) G else .stuck
    | none => .stuck)
  | _ => .stuck
def indexTD (o y : D) (G : Store) : R D := match o, y with
  | .tup ys, .str z => (match strsD ys with
    | some ss => okD ((ss.findIdx? (· == z)).map fun (i : Nat) => D.int (i : Int)) G
    | none => .stuck)
  | _, _ => .stuck
def joinD (o d : D) (G : Store) : R D := match o with
  | .str sep => (match items d G with
    | some ys => (match strsD ys with
      | some ss => if (ss.map List.length).sum + ss.length * sep.length ≤ 16777216 then .ok (.str (joinS sep ss)) G else .stuck
      | none => .stuck)
    | none => .stuck)
  | _ => .stuck
def upperD (o : D) (G : Store) : R D := match o with
  | .str s => if s.length ≤ 5592405 then .ok (.str (Txt.upper ⟨s.toArray⟩).cps.toList) G else .stuck
  | _ => .stuck
def mt (m : Mt) (o : D) : List D → Store → R D := match m with
  | .append => b1 (appendD o)
  | .extend => b1 (extendD o)
  | .pop => b0 (popD o)
  | .popAt => b1 (popAtD o)
  | .indexS => b1 (indexSD o)
  | .indexL => b1 (indexLD o)
  | .countL => b1 (countLD o)
  | .indexT => b1 (indexTD o)
  | .join => b1 (joinD o)
  | .upper => b0 (upperD o)

/-! ### what is walked -/
inductive Src where
  | fix (ds : List D)
  | cell (n : Nat)
inductive Itv where
  | one (s : Src)
  | enum (s : Src)
  | zip (s t : Src)
  | rng (lo : Int) (n : Nat)
def Src.at (s : Src) (i : Nat) (G : Store) : Option (Option D) := match s with
  | .fix ds => some ds[i]?
  | .cell n => (G.lst? n).map fun xs => xs[i]?
/-- the i-th item: none: stuck, some none: it ends -/
def Itv.at (v : Itv) (i : Nat) (G : Store) : Option (Option D) := match v with
  | .one s => s.at i G
  | .enum s => (s.at i G).map fun o => o.map fun d => .tup [.int i, d]
  | .zip s t => match s.at i G, t.at i G with
    | some (some a), some (some b) => some (some (.tup [a, b]))
    | some _, some _ => some none
    | _, _ => none
  | .rng lo n => some (if i < n then some (.int (lo + i)) else none)
def srcOf (d : D) (G : Store) : Option Src := match d with
  | .tup xs => some (.fix xs)
  | .str s => if s.length ≤ sizeLine then some (.fix (s.map fun c => .str [c])) else none
  | .ref n => (G.lst? n).map fun _ => .cell n
  | _ => none

/-! ### targets -/
inductive Tg where
  | v (i : Nat)
  | tup (ts : List Nat)
  | nest (ts : List (Nat ⊕ List Nat))
def bindN : List Nat → List D → Env → Option Env
  | [], [], ρ => some ρ
  | i :: is, d :: ds, ρ => bindN is ds (ρ.set i (some d))
  | _, _, _ => none
def bindX : List (Nat ⊕ List Nat) → List D → Env → Option Env
  | [], [], ρ => some ρ
  | .inl i :: ts, d :: ds, ρ => bindX ts ds (ρ.set i (some d))
  | .inr is :: ts, .tup es :: ds, ρ => match bindN is es ρ with
    | some ρ1 => bindX ts ds ρ1
    | none => none
  | _, _, _ => none
def Tg.bind (t : Tg) (d : D) (ρ : Env) : Option Env := match t with
  | .v i => some (ρ.set i (some d))
  | .tup is => (match d with
    | .tup ds => bindN is ds ρ
    | _ => none)
  | .nest ts => (match d with
    | .tup ds => bindX ts ds ρ
    | _ => none)
def wipeE (ρ : Env) : List Nat → Env
  | [] => ρ
  | v :: vs => (wipeE ρ vs).set v none

/-! ### the text -/
mutual
inductive Ex where
  | k (d : D)
  | v (i : Nat)
  | un (o : Op1) (a : Ex)
  | bin (o : Op2) (a b : Ex)
  | and (a b : Ex)
  | or (a b : Ex)
  | ite (c a b : Ex)
  | chain (o p : Op2) (a b c : Ex)
  | tup (es : Exs)
  | lst (es : Exs)
  | dic0
  | sl (a : Ex) (lo hi : Exo)
  | rev (a : Ex)
  | call (f : Nat) (es : Exs)
  | callD (f : Nat) (es : Exs) (ds : List Int)
  | bf (f : Bf) (es : Exs)
  | mt (m : Mt) (o : Ex) (es : Exs)
  | comp (t : Tg) (it : It) (c : Exo) (e : Ex) (own : List Nat)
  | gen (all : Bool) (t : Tg) (it : It) (e : Ex) (own : List Nat)
  | callV (i : Nat)
  | isE (i k : Nat)
  | fldE (i m : Nat)
  | rng1D (t : Bool) (hi : Ex)
  | rng2D (t : Bool) (lo hi : Ex)
inductive Exs where
  | nil
  | cons (e : Ex) (es : Exs)
inductive Exo where
  | none
  | some (e : Ex)
inductive It where
  | one (e : Ex)
  | enum (e : Ex)
  | zip (e f : Ex)
  | rng1 (e : Ex)
  | rng2 (e f : Ex)
end
mutual
inductive Sm where
  | pass
  | expr (e : Ex)
  | set (t : Tg) (e : Ex)
  | par (is : List Nat) (es : Exs)
  | setIx (a i e : Ex)
  | setKey (a i e : Ex)
  | aug (i : Nat) (o : Op2) (e : Ex)
  | augIx (a i : Ex) (o : Op2) (e : Ex)
  | ifs (c : Ex) (a b : Sms)
  | whil (c : Ex) (a : Sms)
  | for_ (t : Tg) (it : It) (a : Sms)
  | ret (e : Ex)
  | retN
  | brk
  | cnt
  | raise (k : Nat) (es : Exs)
  | tryAs (a : Sms) (k : Option Nat) (i : Nat) (h : Sms)
  | lams (ls : List (Nat × List Nat))
  | never
inductive Sms where
  | nil
  | cons (s : Sm) (ss : Sms)
end

/-! ### meanings -/
abbrev ME := Env → Store → R D
abbrev MEs := Env → Store → R (List D)
abbrev MEo := Env → Store → R (Option Int)
abbrev MI := Env → Store → R Itv
inductive RS where
  | nx (ρ : Env) (G : Store)
  | rt (d : D) (G : Store)
  | bk (ρ : Env) (G : Store)
  | ct (ρ : Env) (G : Store)
  | exc (c : Nat) (fs : List D) (ρ : Env) (G : Store)
  | stuck
abbrev MS := Env → Store → RS

def noExc {α : Type} (r : R α) : R α := match r with
  | .exc _ _ _ => .stuck
  | .ok a G => .ok a G
  | .stuck => .stuck
def mK (d : D) : ME := fun _ G => .ok d G
def mV (i : Nat) : ME := fun ρ G => match ρ[i]? with
  | some (some d) => .ok d G
  | _ => .stuck
def mUn (o : Op1) (a : ME) : ME := fun ρ G => (a ρ G).bind fun x G1 => noExc (op1 o x G1)
def mBin (o : Op2) (a b : ME) : ME := fun ρ G => (a ρ G).bind fun x G1 => (b ρ G1).bind fun y G2 => noExc (op2 o x y G2)
def mAnd (a b : ME) : ME := fun ρ G => (a ρ G).bind fun x G1 => match truthy x G1 with
  | some true => b ρ G1
  | some false => .ok x G1
  | none => .stuck
def mOr (a b : ME) : ME := fun ρ G => (a ρ G).bind fun x G1 => match truthy x G1 with
  | some false => b ρ G1
  | some true => .ok x G1
  | none => .stuck
def mIte (c a b : ME) : ME := fun ρ G => (c ρ G).bind fun x G1 => match truthy x G1 with
  | some true => a ρ G1
  | some false => b ρ G1
  | none => .stuck
def mChain (o p : Op2) (a b c : ME) : ME := fun ρ G => (a ρ G).bind fun x G1 => (b ρ G1).bind fun y G2 => (noExc (op2 o x y G2)).bind fun z G3 => match z with
  | .bl true => (c ρ G3).bind fun w G4 => noExc (op2 p y w G4)
  | .bl false => .ok (.bl false) G3
  | _ => .stuck
def mNil : MEs := fun _ G => .ok [] G
def mCons (a : ME) (b : MEs) : MEs := fun ρ G => (a ρ G).bind fun x G1 => (b ρ G1).bind fun xs G2 => .ok (x :: xs) G2
def mTup (a : MEs) : ME := fun ρ G => (a ρ G).bind fun xs G1 => if xs.length ≤ sizeLine then .ok (.tup xs) G1 else .stuck
def mLst (a : MEs) : ME := fun ρ G => (a ρ G).bind fun xs G1 => newL xs G1
def mDic0 : ME := fun _ G => .ok (.ref G.cs.length) (G.new (.dic []))
def mNo : MEo := fun _ G => .ok none G
def mSome (a : ME) : MEo := fun ρ G => (a ρ G).bind fun x G1 => match x with
  | .int i => .ok (some i) G1
  | _ => .stuck
def mSl (a : ME) (lo hi : MEo) : ME := fun ρ G => (a ρ G).bind fun x G1 => (lo ρ G1).bind fun l G2 => (hi ρ G2).bind fun h G3 => noExc (opSl x l h G3)
def mRev (a : ME) : ME := fun ρ G => (a ρ G).bind fun x G1 => noExc (opRev x G1)
def rgD (a b : Int) : List D := (List.range (b - a).toNat).map fun i => D.int (a + (i : Nat))
def rngVD (t : Bool) (i j : Int) (G : Store) : R D := if -(2 ^ 62) ≤ i ∧ i < 2 ^ 62 ∧ -(2 ^ 62) ≤ j ∧ j < 2 ^ 62 ∧ (j - i).toNat ≤ 2 ^ 24 then (if t then .ok (.tup (rgD i j)) G else newL (rgD i j) G) else .stuck
/-- tuple(range(..)), list(range(..)) -/
def mRng1D (t : Bool) (hi : ME) : ME := fun ρ G => (hi ρ G).bind fun x G2 => match x with
  | .int j => noExc (rngVD t 0 j G2)
  | _ => .stuck
def mRng2D (t : Bool) (lo hi : ME) : ME := fun ρ G => (lo ρ G).bind fun y G1 => (hi ρ G1).bind fun x G2 => match y, x with
  | .int i, .int j => noExc (rngVD t i j G2)
  | _, _ => .stuck
def mArgs (f : List D → Store → R D) (a : MEs) : ME := fun ρ G => (a ρ G).bind fun xs G1 => f xs G1
def mtTy (m : Mt) (d : D) (G : Store) : Bool := match m, d with
  | .append, .ref n | .extend, .ref n | .pop, .ref n | .popAt, .ref n | .indexL, .ref n | .countL, .ref n => (G.lst? n).isSome
  | .indexS, .str _ | .join, .str _ | .upper, .str _ => true
  | .indexT, .tup _ => true
  | _, _ => false
def mMt (m : Mt) (o : ME) (a : MEs) : ME := fun ρ G => (o ρ G).bind fun x G1 => if mtTy m x G1 then (a ρ G1).bind fun xs G2 => noExc (mt m x xs G2) else .stuck
def mOne (a : ME) : MI := fun ρ G => (a ρ G).bind fun x G1 => match srcOf x G1 with
  | some s => .ok (.one s) G1
  | none => .stuck
def mEnum (a : ME) : MI := fun ρ G => (a ρ G).bind fun x G1 => match x with
  | .tup xs => .ok (.enum (.fix xs)) G1
  | .ref n => if (G1.lst? n).isSome then .ok (.enum (.cell n)) G1 else .stuck
  | _ => .stuck
def mZip (a b : ME) : MI := fun ρ G => (a ρ G).bind fun x G1 => (b ρ G1).bind fun y G2 => match x, y with
  | .tup xs, .tup ys => .ok (.zip (.fix xs) (.fix ys)) G2
  | .ref m, .ref n => if (G2.lst? m).isSome ∧ (G2.lst? n).isSome then .ok (.zip (.cell m) (.cell n)) G2 else .stuck
  | _, _ => .stuck
def mRng1 (a : ME) : MI := fun ρ G => (a ρ G).bind fun x G1 => match x with
  | .int j => if -(2 ^ 62) ≤ j ∧ j < 2 ^ 62 then .ok (.rng 0 j.toNat) G1 else .stuck
  | _ => .stuck
def mRng2 (a b : ME) : MI := fun ρ G => (a ρ G).bind fun x G1 => (b ρ G1).bind fun y G2 => match x, y with
  | .int i, .int j => if -(2 ^ 62) ≤ i ∧ i < 2 ^ 62 ∧ -(2 ^ 62) ≤ j ∧ j < 2 ^ 62 then .ok (.rng i (j - i).toNat) G2 else .stuck
  | _, _ => .stuck

/-- a comprehension's turns from the i-th on: acc is what the new list (at n) holds so far -/
def compGo (t : Tg) (v : Itv) (c : Option ME) (e : ME) (ρ : Env) (n : Nat) : Nat → Nat → Store → R Unit
  | 0, _, _ => .stuck
  | f + 1, i, G => match v.at i G with
    | some none => .ok () G
    | some (some d) => (match t.bind d ρ with
      | some ρ1 => ((match c with
          | none => R.ok true G
          | some m => (m ρ1 G).bind fun x G1 => match truthy x G1 with
            | some b => .ok b G1
            | none => .stuck)).bind fun b G1 => if b then (e ρ1 G1).bind fun x G2 => (match G2.lst? n with
              | some ys => if G2.lim ≤ n ∧ ys.length < sizeLine then compGo t v c e ρ n f (i + 1) (G2.put n (.lst (ys ++ [x]))) else .stuck
              | none => .stuck) else compGo t v c e ρ n f (i + 1) G1
      | none => .stuck)
    | none => .stuck
def loopFuel : Nat := 2 ^ 25
def mComp (t : Tg) (it : MI) (c : Option ME) (e : ME) (own : List Nat) : ME := fun ρ G => (it ρ G).bind fun v G1 =>
  (noExc (compGo t v c e (wipeE ρ own) G1.cs.length loopFuel 0 (G1.new (.lst [])))).bind fun _ G2 => .ok (.ref G1.cs.length) G2
/-- all(..), any(..) of a generator expression: nothing that stood before is changed -/
def genGo (all : Bool) (t : Tg) (v : Itv) (e : ME) (ρ : Env) : Nat → Nat → Store → R D
  | 0, _, _ => .stuck
  | f + 1, i, G => match v.at i G with
    | some none => .ok (.bl all) G
    | some (some d) => (match t.bind d ρ with
      | some ρ1 => (e ρ1 G).bind fun x G1 => (match x with
        | .bl b => if b = all then genGo all t v e ρ f (i + 1) G1 else .ok (.bl (!all)) G1
        | _ => .stuck)
      | none => .stuck)
    | none => .stuck
def mGen (all : Bool) (t : Tg) (it : MI) (e : ME) (own : List Nat) : ME := fun ρ G => (it ρ G).bind fun v G1 =>
  noExc (genGo all t v e (wipeE ρ own) loopFuel 0 G1)

/-! closures -/
def Cell.kill : Cell → Cell
  | .clo _ _ => .dead
  | c => c
def Store.kill (G : Store) : Store := { G with cs := G.cs.map Cell.kill }
def revL : List Cell → List Cell → List Cell
  | .clo f ds :: a, _ :: b => .clo f ds :: revL a b
  | _ :: a, c :: b => c :: revL a b
  | _, b => b
def Store.rev (G G' : Store) : Store := { G' with cs := revL G.cs G'.cs }
def revR (G : Store) (r : R D) : R D := match r with
  | .ok d G' => if G'.lim = G.lim then .ok d (G.rev G') else .stuck
  | .exc k fs G' => if G'.lim = G.lim then .exc k fs (G.rev G') else .stuck
  | .stuck => .stuck
def mCallV (C : Nat → List D → Store → R D) (i : Nat) : ME := fun ρ G => match ρ[i]? with
  | some (some (.ref n)) => (match G.cs[n]? with
    | some (.clo f ds) => revR G (C f ds G.kill)
    | _ => .stuck)
  | _ => .stuck
/-! the exception that is handled: nothing is known of its slot, the calls' place tells of it -/
def excIs : Nat := 1000000
def excFld : Nat := 1000001
def mIsE (C : Nat → List D → Store → R D) (i k : Nat) : ME := fun ρ G => if ρ[i]? = some none then C excIs [.int k] G else .stuck
def mFldE (C : Nat → List D → Store → R D) (i m : Nat) : ME := fun ρ G => if ρ[i]? = some none then C excFld [.int m] G else .stuck
def hC (c : Nat) (fs : List D) : Nat → List D → Store → R D := fun f ds G => if f = excIs then (match ds with
    | [.int k] => .ok (.bl (decide ((c : Int) = k))) G
    | _ => .stuck) else if f = excFld then (match ds, fs with
    | [.int m], [d] => if ((c / 100 : Nat) : Int) = m then .ok d G else .stuck
    | _, _ => .stuck) else .stuck
/-! statements -/
def RS.ofR {α : Type} (r : R α) (ρ : Env) (f : α → Store → RS) : RS := match r with
  | .ok a G => f a G
  | .exc c fs G => .exc c fs ρ G
  | .stuck => .stuck
def sPass : MS := fun ρ G => .nx ρ G
def sSeq (a b : MS) : MS := fun ρ G => match a ρ G with
  | .nx ρ1 G1 => b ρ1 G1
  | r => r
def sExpr (e : ME) : MS := fun ρ G => RS.ofR (e ρ G) ρ fun _ G1 => .nx ρ G1
def sSet (t : Tg) (e : ME) : MS := fun ρ G => RS.ofR (e ρ G) ρ fun x G1 => match t.bind x ρ with
  | some ρ1 => .nx ρ1 G1
  | none => .stuck
def sPar (is : List Nat) (a : MEs) : MS := fun ρ G => RS.ofR (a ρ G) ρ fun xs G1 => match bindN is xs ρ with
  | some ρ1 => .nx ρ1 G1
  | none => .stuck
def setAt (o i d : D) (G : Store) : Option Store := match o, i with
  | .ref n, .int k => (match G.lst? n with
    | some xs => (match L2.ixN xs.length k with
      | some j => if G.lim ≤ n then some (G.put n (.lst (xs.set j d))) else none
      | none => none)
    | none => none)
  | _, _ => none
def sSetIx (a i e : ME) : MS := fun ρ G => RS.ofR (e ρ G) ρ fun d G1 => RS.ofR (a ρ G1) ρ fun o G2 => RS.ofR (i ρ G2) ρ fun k G3 => match setAt o k d G3 with
  | some G4 => .nx ρ G4
  | none => .stuck
def setKeyAt (o i d : D) (G : Store) : Option Store := match o with
  | .ref n => (match G.dic? n, keyD i with
    | some kvs, some k => if G.lim ≤ n ∧ kvs.length < sizeLine then some (G.put n (.dic (putD kvs k d))) else none
    | _, _ => none)
  | _ => none
def sSetKey (a i e : ME) : MS := fun ρ G => RS.ofR (e ρ G) ρ fun d G1 => RS.ofR (a ρ G1) ρ fun o G2 => RS.ofR (i ρ G2) ρ fun k G3 => match setKeyAt o k d G3 with
  | some G4 => .nx ρ G4
  | none => .stuck
def augOk (o : Op2) (a b : D) : Bool := match o, a, b with
  | .add, .int _, .int _ => true
  | .sub, .int _, .int _ => true
  | .mul, .int _, .int _ => true
  | .fdiv, .int _, .int _ => true
  | .mod, .int _, .int _ => true
  | .xor, .int _, .int _ => true
  | .add, .tup _, .tup _ => true
  | .add, .str _, .str _ => true
  | _, _, _ => false
def opAug (o : Op2) (a b : D) (G : Store) : R D := if augOk o a b then op2 o a b G else .stuck
def sAug (i : Nat) (o : Op2) (e : ME) : MS := fun ρ G => match ρ[i]? with
  | some (some x) => RS.ofR (e ρ G) ρ fun y G1 => RS.ofR (noExc (opAug o x y G1)) ρ fun z G2 => .nx (ρ.set i (some z)) G2
  | _ => .stuck
def sAugIx (a i : ME) (o : Op2) (e : ME) : MS := fun ρ G => RS.ofR (a ρ G) ρ fun p G1 => RS.ofR (i ρ G1) ρ fun k G2 => RS.ofR (noExc (op2 .ix p k G2)) ρ fun x G3 => RS.ofR (e ρ G3) ρ fun y G4 => RS.ofR (noExc (opAug o x y G4)) ρ fun z G5 => match setAt p k z G5 with
  | some G6 => .nx ρ G6
  | none => .stuck
def sIf (c : ME) (a b : MS) : MS := fun ρ G => RS.ofR (c ρ G) ρ fun x G1 => match truthy x G1 with
  | some true => a ρ G1
  | some false => b ρ G1
  | none => .stuck
def whileGo (c : ME) (a : MS) : Nat → MS
  | 0, _, _ => .stuck
  | f + 1, ρ, G => RS.ofR (c ρ G) ρ fun x G1 => match truthy x G1 with
    | some true => (match a ρ G1 with
      | .nx ρ2 G2 => whileGo c a f ρ2 G2
      | .ct ρ2 G2 => whileGo c a f ρ2 G2
      | .bk ρ2 G2 => .nx ρ2 G2
      | r => r)
    | some false => .nx ρ G1
    | none => .stuck
def sWhile (c : ME) (a : MS) : MS := whileGo c a loopFuel
def forGo (t : Tg) (v : Itv) (a : MS) : Nat → Nat → MS
  | 0, _, _, _ => .stuck
  | f + 1, i, ρ, G => match v.at i G with
    | some none => .nx ρ G
    | some (some d) => (match t.bind d ρ with
      | some ρ1 => (match a ρ1 G with
        | .nx ρ2 G2 => forGo t v a f (i + 1) ρ2 G2
        | .ct ρ2 G2 => forGo t v a f (i + 1) ρ2 G2
        | .bk ρ2 G2 => .nx ρ2 G2
        | r => r)
      | none => .stuck)
    | none => .stuck
def sFor (t : Tg) (it : MI) (a : MS) : MS := fun ρ G => RS.ofR (it ρ G) ρ fun v G1 => forGo t v a loopFuel 0 ρ G1
def sRaise (k : Nat) (a : MEs) : MS := fun ρ G => RS.ofR (a ρ G) ρ fun ds G1 => .exc k ds ρ G1
def sTry (a : MS) (k : Option Nat) (i : Nat) (h : Nat → List D → MS) : MS := fun ρ G => match a ρ G with
  | .exc c fs ρ1 G1 => if k = none ∨ k = some c then (match h c fs (ρ1.set i none) G1 with
      | .nx ρ2 G2 => .nx (ρ2.set i none) G2
      | .rt d G2 => .rt d G2
      | _ => .stuck) else .exc c fs ρ1 G1
  | r => r
def lamsGo (ρ : Env) : List (Nat × List Nat) → List D → Store → Option (List D × Store)
  | [], acc, G => some (acc, G)
  | (f, js) :: r, acc, G => match js.mapM fun j => (ρ[j]?).join with
    | some ds => lamsGo ρ r (acc ++ [.ref G.cs.length]) (G.new (.clo f ds))
    | none => none
def sLams (ls : List (Nat × List Nat)) : MS := fun ρ G => match lamsGo ρ ls [] G with
  | some (ds, G1) => .rt (.ref G1.cs.length) (G1.new (.lst ds))
  | none => .stuck
def sRet (e : ME) : MS := fun ρ G => RS.ofR (e ρ G) ρ fun x G1 => .rt x G1

/-! ### the evaluator -/
abbrev CallF := Nat → List D → Store → R D
mutual
def ev (C : CallF) : Ex → ME
  | .k d => mK d
  | .v i => mV i
  | .un o a => mUn o (ev C a)
  | .bin o a b => mBin o (ev C a) (ev C b)
  | .and a b => mAnd (ev C a) (ev C b)
  | .or a b => mOr (ev C a) (ev C b)
  | .ite c a b => mIte (ev C c) (ev C a) (ev C b)
  | .chain o p a b c => mChain o p (ev C a) (ev C b) (ev C c)
  | .tup es => mTup (evs C es)
  | .lst es => mLst (evs C es)
  | .dic0 => mDic0
  | .sl a lo hi => mSl (ev C a) (evo C lo) (evo C hi)
  | .rev a => mRev (ev C a)
  | .call f es => mArgs (C f) (evs C es)
  | .callD f es ds => mArgs (fun xs G => C f (xs ++ ds.map .int) G) (evs C es)
  | .bf f es => mArgs (fun xs G => noExc (bf f xs G)) (evs C es)
  | .mt m o es => mMt m (ev C o) (evs C es)
  | .comp t it c e own => mComp t (evi C it) (evc C c) (ev C e) own
  | .gen all t it e own => mGen all t (evi C it) (ev C e) own
  | .callV i => mCallV C i
  | .isE i k => mIsE C i k
  | .fldE i m => mFldE C i m
  | .rng1D t hi => mRng1D t (ev C hi)
  | .rng2D t lo hi => mRng2D t (ev C lo) (ev C hi)
def evs (C : CallF) : Exs → MEs
  | .nil => mNil
  | .cons e es => mCons (ev C e) (evs C es)
def evo (C : CallF) : Exo → MEo
  | .none => mNo
  | .some e => mSome (ev C e)
def evc (C : CallF) : Exo → Option ME
  | .none => none
  | .some e => some (ev C e)
def evi (C : CallF) : It → MI
  | .one e => mOne (ev C e)
  | .enum e => mEnum (ev C e)
  | .zip e f => mZip (ev C e) (ev C f)
  | .rng1 e => mRng1 (ev C e)
  | .rng2 e f => mRng2 (ev C e) (ev C f)
end
mutual
def ex (C : CallF) : Sm → MS
  | .pass => sPass
  | .expr e => sExpr (ev C e)
  | .set t e => sSet t (ev C e)
  | .par is es => sPar is (evs C es)
  | .setIx a i e => sSetIx (ev C a) (ev C i) (ev C e)
  | .setKey a i e => sSetKey (ev C a) (ev C i) (ev C e)
  | .aug i o e => sAug i o (ev C e)
  | .augIx a i o e => sAugIx (ev C a) (ev C i) o (ev C e)
  | .ifs c a b => sIf (ev C c) (exs C a) (exs C b)
  | .whil c a => sWhile (ev C c) (exs C a)
  | .for_ t it a => sFor t (evi C it) (exs C a)
  | .ret e => sRet (ev C e)
  | .retN => fun _ G => .rt .non G
  | .brk => fun ρ G => .bk ρ G
  | .cnt => fun ρ G => .ct ρ G
  | .raise k es => sRaise k (evs C es)
  | .tryAs a k i h => sTry (exs C a) k i fun c fs => exs (hC c fs) h
  | .lams ls => sLams ls
  | .never => fun _ _ => .stuck
def exs (C : CallF) : Sms → MS
  | .nil => sPass
  | .cons s ss => sSeq (ex C s) (exs C ss)
end

/-! ### calls -/
mutual
def below (n : Nat) : D → Bool
  | .ref m => decide (m < n)
  | .tup xs => belows n xs
  | _ => true
def belows (n : Nat) : List D → Bool
  | [] => true
  | x :: xs => below n x && belows n xs
end
def cellBelow (n : Nat) : Cell → Bool
  | .lst xs => belows n xs
  | .dic kvs => belows n (kvs.map (·.2))
  | .ins _ fs => fs.all fun p => below n p.2
  | .clo _ ds => belows n ds
  | .dead => true
/-- one def: how many parameters, how many slots, its body -/
structure Fd where
  ps : Nat
  ns : Nat
  body : Sms
def start (ns : Nat) (ds : List D) : Env := ds.map some ++ List.replicate (ns - ds.length) none
def finish (r : RS) : R D := match r with
  | .nx _ G => .ok .non G
  | .rt d G => .ok d G
  | .exc c fs _ G => .exc c fs G
  | _ => .stuck
/-- behind a call: what it made and nobody reaches is forgotten -/
def gcOk (n : Nat) : List Cell → List Cell → Bool
  | [], _ => true
  | c :: cs, c' :: cs' => (decide (c = c') || cellBelow n c') && gcOk n cs cs'
  | _ :: _, [] => false
def gc (G : Store) (r : R D) : R D := match r with
  | .ok d G' => if decide (G'.lim = G.lim) && gcOk G.cs.length G.cs G'.cs then
      (if below G.cs.length d then .ok d { G' with cs := G'.cs.take G.cs.length }
      else match d with
        | .ref m => (match G'.cs[m]? with
          | some c => if G.cs.length ≤ m ∧ cellBelow G.cs.length c then .ok (.ref G.cs.length) { G' with cs := G'.cs.take G.cs.length ++ [c] } else .ok d G'
          | none => .ok d G')
        | _ => .ok d G')
    else .ok d G'
  | .exc c fs G' => if decide (G'.lim = G.lim) && gcOk G.cs.length G.cs G'.cs && belows G.cs.length fs then .exc c fs { G' with cs := G'.cs.take G.cs.length } else .exc c fs G'
  | .stuck => .stuck
def run (T : List Fd) : Nat → CallF
  | 0, _, _, _ => .stuck
  | k + 1, f, ds, G => match T[f]? with
    | some fd => if ds.length = fd.ps then gc G (finish (exs (run T k) fd.body (start fd.ns ds) G)) else .stuck
    | none => .stuck
end Cut
/-! The clean evaluator against the model: what a clean value, store, environment stands for; each operation by its rule of the hand layer. -/
namespace Cut
open PySem PySem.Spec PyProof.Rows L2

/-! ### what stands for what -/
mutual
def RD (K : PySem.W.Frag) (H : Hp) (μ : List Addr) : D → V → Prop
  | .non, v => v = .non
  | .bl b, v => v = .bl b
  | .int i, v => v = .int i
  | .str s, v => v = .str ⟨s.toArray⟩
  | .tup ds, v => ∃ a vs, v = .ref a ∧ SqT K H a vs ∧ RDs K H μ ds vs
  | .ref n, v => ∃ a, v = .ref a ∧ μ[n]? = some a
  | .ty s, v => v = .ty s.name
def RDs (K : PySem.W.Frag) (H : Hp) (μ : List Addr) : List D → List V → Prop
  | [], vs => vs = []
  | d :: ds, vs => ∃ v ws, vs = v :: ws ∧ RD K H μ d v ∧ RDs K H μ ds ws
end
/-- a lambda: the names it takes from around, its text -/
structure Lm where
  qual : Str
  params : Arguments
  body : Expr
  scope : Scope
  fr : List Str
/-- the tables of code objects that stand tracked; those of lambdas; the lambdas -/
class Tbl where
  ps : List Addr
  lt : List (Addr × Str)
  lm : Nat → Option Lm
  dis : ∀ P ∈ ps, ∀ q ∈ lt, q.1 ≠ P
variable [Tbl]
theorem tabS_ext {H H' : Hp} {P : Addr} {q : Str} (t : LamX.TabS H P q) (h1 : ∀ ps, H P = some (.tbl ps) → H' P = some (.tbl ps)) (h2 : ∀ a φ, H a = some (.ext φ) → H' a = some (.ext φ)) : LamX.TabS H' P q := by
  obtain ⟨ps, e, t, k⟩ := t
  exact ⟨ps, h1 _ e, t, fun pos cv h => by
    obtain ⟨c, e1, e2⟩ := k pos cv h
    exact ⟨c, e1, h2 _ _ e2⟩⟩
/-- the heap has grown, or a list has changed: tuples and locked things stay -/
structure XT (H H' : Hp) : Prop where
  tbl : ∀ b, GxR.TabG H b → GxR.TabG H' b
  tup : ∀ a xs, H a = some (.tup xs) → H' a = some (.tup xs)
  frz : ∀ a o u, H a = some (.frz o u) → H' a = some (.frz o u)
  ext : ∀ a φ, H a = some (.ext φ) → H' a = some (.ext φ)
  xd : ∀ a fs, H a = some (.xd fs) → H' a = some (.xd fs)
  lam : ∀ p ∈ Tbl.lt, LamX.TabS H p.1 p.2 → LamX.TabS H' p.1 p.2
theorem XT.refl (H : Hp) : XT H H := ⟨fun _ h => h, fun _ _ h => h, fun _ _ _ h => h, fun _ _ h => h, fun _ _ h => h, fun _ _ h => h⟩
theorem XT.trans {H H1 H2 : Hp} (a : XT H H1) (b : XT H1 H2) : XT H H2 := ⟨fun c h => b.tbl c (a.tbl c h), fun c xs h => b.tup c xs (a.tup c xs h), fun c o u h => b.frz c o u (a.frz c o u h), fun c o h => b.ext c o (a.ext c o h), fun c o h => b.xd c o (a.xd c o h), fun c o h => b.lam c o (a.lam c o h)⟩
/-- one entry changes that is nothing of these -/
theorem XT.one {H : Hp} {p : Addr} {o : HO} (h : ∀ u, H p = some u → (∀ xs, u ≠ .tup xs) ∧ (∀ o v, u ≠ .frz o v) ∧ (∀ φ, u ≠ .ext φ) ∧ (∀ fs, u ≠ .xd fs) ∧ (∀ ps, u ≠ .tbl ps)) : XT H (upd H p o) := by
  have ne : ∀ {a u}, H a = some u → ((∃ xs, u = .tup xs) ∨ (∃ o v, u = .frz o v) ∨ (∃ φ, u = .ext φ) ∨ (∃ fs, u = .xd fs) ∨ (∃ ps, u = .tbl ps)) → a ≠ p := fun {a u} e k z => by
    subst z
    obtain ⟨h1, h2, h3, h4, h5⟩ := h u e
    rcases k with ⟨x, q⟩ | ⟨x, y, q⟩ | ⟨x, q⟩ | ⟨x, q⟩ | ⟨x, q⟩
    · exact h1 _ q
    · exact h2 _ _ q
    · exact h3 _ q
    · exact h4 _ q
    · exact h5 _ q
  have ext : ∀ a φ, H a = some (.ext φ) → upd H p o a = some (.ext φ) := fun a φ e => by rw [upd_ne (ne e (.inr (.inr (.inl ⟨_, rfl⟩))))]; exact e
  have tb : ∀ a ps, H a = some (.tbl ps) → upd H p o a = some (.tbl ps) := fun a φ e => by rw [upd_ne (ne e (.inr (.inr (.inr (.inr ⟨_, rfl⟩)))))]; exact e
  exact ⟨fun b ⟨ps, e, t⟩ => ⟨ps, tb _ _ e, t⟩, fun a xs e => by rw [upd_ne (ne e (.inl ⟨_, rfl⟩))]; exact e, fun a o u e => by rw [upd_ne (ne e (.inr (.inl ⟨_, _, rfl⟩)))]; exact e, ext,
    fun a fs e => by rw [upd_ne (ne e (.inr (.inr (.inr (.inl ⟨_, rfl⟩)))))]; exact e, fun q _ t => tabS_ext t (tb _) ext⟩
theorem XT.new {H : Hp} {p : Addr} {o : HO} (h : H p = none) : XT H (upd H p o) := .one fun u e => by rw [h] at e; cases e
theorem XT.lst {H : Hp} {p : Addr} {o : HO} {xs : List V} (h : H p = some (.lst xs)) : XT H (upd H p o) := .one fun u e => by
  rw [h] at e; cases e; exact ⟨(fun _ q => nomatch q), (fun _ _ q => nomatch q), (fun _ q => nomatch q), (fun _ q => nomatch q), (fun _ q => nomatch q)⟩
theorem XT.dK {H : Hp} {p : Addr} {o : HO} {kvs : List (L2.Key × V)} (h : H p = some (.dK kvs)) : XT H (upd H p o) := .one fun u e => by
  rw [h] at e; cases e; exact ⟨(fun _ q => nomatch q), (fun _ _ q => nomatch q), (fun _ q => nomatch q), (fun _ q => nomatch q), (fun _ q => nomatch q)⟩
theorem XT.sqT {K : PySem.W.Frag} {H H' : Hp} (x : XT H H') {a : Addr} {xs : List V} (h : SqT K H a xs) : SqT K H' a xs := by
  rcases h with (h | ⟨o, h⟩) | h
  · exact .inl (.inl (x.tup _ _ h))
  · exact .inl (.inr ⟨o, x.frz _ _ _ h⟩)
  · exact .inr h
theorem pre_get {α : Type} {l l' : List α} (h : l <+: l') {n : Nat} {a : α} (e : l[n]? = some a) : l'[n]? = some a := by
  obtain ⟨t, rfl⟩ := h
  have hl := (List.getElem?_eq_some_iff.mp e).1
  rw [List.getElem?_append_left hl]; exact e
mutual
theorem RD.mono {K : PySem.W.Frag} {H H' : Hp} {μ μ' : List Addr} (x : XT H H') (p : μ <+: μ') : ∀ {d : D} {v : V}, RD K H μ d v → RD K H' μ' d v
  | .non, _, h => h
  | .bl _, _, h => h
  | .int _, _, h => h
  | .str _, _, h => h
  | .tup _, _, ⟨a, vs, e, s, r⟩ => ⟨a, vs, e, x.sqT s, RDs.mono x p r⟩
  | .ref _, _, ⟨a, e, m⟩ => ⟨a, e, pre_get p m⟩
  | .ty _, _, h => h
theorem RDs.mono {K : PySem.W.Frag} {H H' : Hp} {μ μ' : List Addr} (x : XT H H') (p : μ <+: μ') : ∀ {ds : List D} {vs : List V}, RDs K H μ ds vs → RDs K H' μ' ds vs
  | [], _, h => h
  | _ :: _, _, ⟨v, ws, e, r, rs⟩ => ⟨v, ws, e, RD.mono x p r, RDs.mono x p rs⟩
end
section
variable {K : PySem.W.Frag} {H H' : Hp} {μ μ' : List Addr}
theorem RDs.len : ∀ {ds : List D} {vs : List V}, RDs K H μ ds vs → vs.length = ds.length
  | [], _, h => by have e : _ = [] := h; rw [e]; rfl
  | _ :: _, _, ⟨_, _, e, _, rs⟩ => by rw [e, List.length_cons, List.length_cons, rs.len]
theorem RDs.app : ∀ {ds es : List D} {vs ws : List V}, RDs K H μ ds vs → RDs K H μ es ws → RDs K H μ (ds ++ es) (vs ++ ws)
  | [], _, _, _, h, k => by have e : _ = [] := h; rw [e]; exact k
  | _ :: _, _, _, _, ⟨v, us, e, r, rs⟩, k => ⟨v, us ++ _, by rw [e]; rfl, r, rs.app k⟩
theorem RDs.one {d : D} {v : V} (r : RD K H μ d v) : RDs K H μ [d] [v] := ⟨v, [], rfl, r, rfl⟩
theorem RDs.get : ∀ {ds : List D} {vs : List V} {i : Nat} {d : D}, RDs K H μ ds vs → ds[i]? = some d → ∃ v, vs[i]? = some v ∧ RD K H μ d v
  | [], _, _, _, _, e => by simp at e
  | _ :: _, _, 0, _, ⟨v, ws, e, r, _⟩, q => by
    simp at q; subst q; rw [e]; exact ⟨v, rfl, r⟩
  | _ :: _, _, i + 1, _, ⟨v, ws, e, _, rs⟩, q => by
    obtain ⟨u, h1, h2⟩ := rs.get (i := i) (by simpa using q)
    rw [e]; exact ⟨u, by simpa using h1, h2⟩
theorem RDs.set {d : D} {v : V} (r : RD K H μ d v) : ∀ {ds : List D} {vs : List V} (i : Nat), RDs K H μ ds vs → RDs K H μ (ds.set i d) (vs.set i v)
  | [], _, _, h => by have e : _ = [] := h; rw [e]; rfl
  | _ :: _, _, 0, ⟨_, ws, e, _, rs⟩ => by rw [e]; exact ⟨v, ws, rfl, r, rs⟩
  | _ :: _, _, i + 1, ⟨u, ws, e, r', rs⟩ => by rw [e]; exact ⟨u, ws.set i v, rfl, r', rs.set r i⟩
theorem RDs.take : ∀ {ds : List D} {vs : List V} (n : Nat), RDs K H μ ds vs → RDs K H μ (ds.take n) (vs.take n)
  | _, _, 0, _ => by simp only [List.take_zero]; rfl
  | [], _, _ + 1, h => by have e : _ = [] := h; rw [e]; rfl
  | _ :: _, _, n + 1, ⟨u, ws, e, r', rs⟩ => by rw [e]; exact ⟨u, ws.take n, rfl, r', rs.take n⟩
theorem RDs.drop : ∀ {ds : List D} {vs : List V} (n : Nat), RDs K H μ ds vs → RDs K H μ (ds.drop n) (vs.drop n)
  | _, _, 0, h => h
  | [], _, _ + 1, h => by have e : _ = [] := h; rw [e]; rfl
  | _ :: _, _, n + 1, ⟨u, ws, e, r', rs⟩ => by rw [e]; exact rs.drop n
theorem RDs.rev {ds : List D} : ∀ {vs : List V}, RDs K H μ ds vs → RDs K H μ ds.reverse vs.reverse := by
  induction ds with
  | nil => intro vs h; have e : vs = [] := h; rw [e]; rfl
  | cons d ds ih =>
    rintro vs ⟨v, ws, rfl, r, rs⟩
    rw [List.reverse_cons, List.reverse_cons]
    exact (ih rs).app (.one r)
theorem RDs.rep {ds : List D} {vs : List V} (r : RDs K H μ ds vs) : ∀ n : Nat, RDs K H μ (List.replicate n ds).flatten (List.replicate n vs).flatten
  | 0 => rfl
  | n + 1 => by rw [List.replicate_succ, List.replicate_succ, List.flatten_cons, List.flatten_cons]; exact r.app (r.rep n)
theorem RDs.init {ds : List D} {vs : List V} (r : RDs K H μ ds vs) : RDs K H μ ds.dropLast vs.dropLast := by
  rw [List.dropLast_eq_take, List.dropLast_eq_take, r.len]; exact r.take _
theorem RDs.cut {ds : List D} {vs : List V} (r : RDs K H μ ds vs) (lo hi : Option Int) : RDs K H μ (cutD ds lo hi) (cutV vs lo hi) := by
  unfold cutD cutV
  rw [r.len]
  exact (r.drop _).take _
theorem RDs.at {ds : List D} {vs : List V} {i : Int} {d : D} (r : RDs K H μ ds vs) (h : ixAt ds i = some d) : ∃ v, atI vs i = some v ∧ RD K H μ d v := by
  unfold ixAt atI at h
  unfold atI
  rw [r.len]
  cases e : ixN ds.length i with
  | none => rw [e] at h; cases h
  | some j =>
    rw [e] at h
    exact r.get h
end

/-! ### the store -/
/-- a list that nobody writes -/
def Fz (K : PySem.W.Frag) (H : Hp) (a : Addr) (xs : List V) : Prop := (∃ o, H a = some (.frz o (.lst xs))) ∨
  ∃ (o : Obj) (its : Array Value) (n : Nat), K.lookup a = some o ∧ o.cls = .type "list" ∧ o.dict = none ∧ o.data = .seq its n ∧ its.size ≤ sizeLine ∧ Vals xs its.toList
theorem Fz.sq {K : PySem.W.Frag} {H : Hp} {a : Addr} {xs : List V} (h : Fz K H a xs) : SqL K H a xs := by
  rcases h with ⟨o, h⟩ | h
  · exact .inl (.inr ⟨o, h⟩)
  · exact .inr h
theorem Fz.ext {K : PySem.W.Frag} {H H' : Hp} (x : XT H H') {a : Addr} {xs : List V} (h : Fz K H a xs) : Fz K H' a xs := by
  rcases h with ⟨o, h⟩ | h
  · exact .inl ⟨o, x.frz _ _ _ h⟩
  · exact .inr h
/-- what a dict holds -/
def RKs (K : PySem.W.Frag) (H : Hp) (μ : List Addr) (kvs : List (L2.Key × D)) (ws : List (L2.Key × V)) : Prop := ws.map (·.1) = kvs.map (·.1) ∧ RDs K H μ (kvs.map (·.2)) (ws.map (·.2))
theorem RKs.mono {K : PySem.W.Frag} {H H' : Hp} {μ μ' : List Addr} (x : XT H H') (p : μ <+: μ') {kvs : List (L2.Key × D)} {ws : List (L2.Key × V)} (h : RKs K H μ kvs ws) : RKs K H' μ' kvs ws := ⟨h.1, h.2.mono x p⟩
theorem RKs.put {K : PySem.W.Frag} {H : Hp} {μ : List Addr} {k : L2.Key} {d : D} {v : V} (r : RD K H μ d v) {kvs : List (L2.Key × D)} {ws : List (L2.Key × V)} (h : RKs K H μ kvs ws) : RKs K H μ (putD kvs k d) (putK ws k v) := by
  have ha : ∀ {α : Type} (l : List (L2.Key × α)), (l.any fun kv => decide (kv.1 = k)) = ((l.map (·.1)).any fun x => decide (x = k)) := fun l => by rw [List.any_map]; rfl
  unfold putD putK
  rw [ha kvs, ha ws, h.1]
  split
  · have go : ∀ (kvs : List (L2.Key × D)) (ws : List (L2.Key × V)), RKs K H μ kvs ws → RKs K H μ (kvs.map fun kv => if kv.1 = k then (kv.1, d) else kv) (ws.map fun kv => if kv.1 = k then (kv.1, v) else kv) := by
      intro kvs
      induction kvs with
      | nil =>
        intro ws h
        have : ws = [] := by have := h.1; simpa using this
        subst this; exact h
      | cons p kvs ih =>
        intro ws h
        obtain ⟨h1, v0, vs, h2, h3, h4⟩ := h
        cases ws with
        | nil => cases h2
        | cons q ws =>
          simp only [List.map_cons, List.cons.injEq] at h1 h2
          have hr := ih ws ⟨h1.2, by rw [h2.2]; exact h4⟩
          rw [List.map_cons, List.map_cons, h1.1]
          by_cases e : p.1 = k
          · rw [if_pos e, if_pos e]
            exact ⟨by rw [List.map_cons, List.map_cons, hr.1], v, _, rfl, r, hr.2⟩
          · rw [if_neg e, if_neg e]
            exact ⟨by rw [List.map_cons, List.map_cons, hr.1, h1.1], q.2, _, rfl, by rw [h2.1]; exact h3, hr.2⟩
    exact go kvs ws h
  · refine ⟨by rw [List.map_append, List.map_append, h.1]; rfl, ?_⟩
    rw [List.map_append, List.map_append]
    exact h.2.app (.one r)
/-- a list or a dict of one's own -/
def Own (o : HO) : Prop := (∃ xs, o = .lst xs) ∨ ∃ ws, o = .dK ws
theorem Own.xt {H : Hp} {p : Addr} {u o : HO} (w : Own u) (h : H p = some u) : XT H (upd H p o) := by
  rcases w with ⟨xs, rfl⟩ | ⟨ws, rfl⟩
  · exact .lst h
  · exact .dK h
/-- a lambda's object -/
def LamO (a : Addr) (L : Lm) (cl : List (Str × Addr)) (c : Addr) : HO := .ext fun h => ∃ pm ctv, h.get? a = some (PySem.W.kla_obj "<lambda>" L.qual L.params L.body L.scope cl pm c ctv)
/-- a cell whose frame is gone -/
def CellO (c : Addr) (v : V) : HO := .ext fun h => ∃ u o, RelV v u ∧ h.get? c = some o ∧ o.data = .cell (some u)
/-- a lambda that stands without its frame: what it has taken along -/
def RClo (K : PySem.W.Frag) (H : Hp) (μ : List Addr) (a : Addr) (f : Nat) (ds : List D) : Prop :=
  ∃ (L : Lm) (cl : List (Str × Addr)) (c : Addr) (vs : List V), Tbl.lm f = some L ∧ H a = some (LamO a L cl c) ∧ H c = some (LamX.CodeO c L.qual) ∧ RDs K H μ ds vs ∧ L.fr.length = ds.length ∧
    (∀ (x y : Str) (b : Addr), cl.lookup x = some b → cl.lookup y = some b → x = y) ∧ (∀ (x : Str) (b : Addr), cl.lookup x = some b → ∃ v, H b = some (CellO b v)) ∧
    ∀ (i : Nat) (x : Str), L.fr[i]? = some x → ∃ b v, cl.lookup x = some b ∧ vs[i]? = some v ∧ H b = some (CellO b v)
theorem RClo.mono {K : PySem.W.Frag} {H H' : Hp} {μ μ' : List Addr} (x : XT H H') (p : μ <+: μ') {a : Addr} {f : Nat} {ds : List D} (h : RClo K H μ a f ds) : RClo K H' μ' a f ds := by
  obtain ⟨L, cl, c, vs, h1, h2, h3, h4, h5, h6, h7, h8⟩ := h
  exact ⟨L, cl, c, vs, h1, x.ext _ _ h2, x.ext _ _ h3, h4.mono x p, h5, h6, fun y b e => by
    obtain ⟨v, q⟩ := h7 y b e
    exact ⟨v, x.ext _ _ q⟩, fun i y e => by
    obtain ⟨b, v, q1, q2, q3⟩ := h8 i y e
    exact ⟨b, v, q1, q2, x.ext _ _ q3⟩⟩
def RC (K : PySem.W.Frag) (H : Hp) (μ : List Addr) (fz : Bool) (a : Addr) : Cell → Prop
  | .lst ds => ∃ vs, RDs K H μ ds vs ∧ (fz = true → Fz K H a vs) ∧ (fz = false → H a = some (.lst vs))
  | .dic kvs => fz = false ∧ ∃ ws, RKs K H μ kvs ws ∧ H a = some (.dK ws)
  | .clo f ds => fz = false ∧ RClo K H μ a f ds
  | .dead => fz = false ∧ ∃ L cl c, H a = some (LamO a L cl c)
  | .ins _ _ => False
structure RG (K : PySem.W.Frag) (H : Hp) (μ : List Addr) (G : Store) : Prop where
  len : μ.length = G.cs.length
  nd : ∀ (i j : Nat) (a : Addr), G.lim ≤ i → G.lim ≤ j → μ[i]? = some a → μ[j]? = some a → i = j
  lim : G.lim ≤ G.cs.length
  cell : ∀ (n : Nat) (c : Cell) (a : Addr), G.cs[n]? = some c → μ[n]? = some a → RC K H μ (decide (n < G.lim)) a c
  tab : ∀ P ∈ Tbl.ps, GxR.TabG H P
  lam : ∀ p ∈ Tbl.lt, LamX.TabS H p.1 p.2
section
variable {K : PySem.W.Frag} {H H' : Hp} {μ μ' : List Addr} {G G' : Store}
theorem lst?_some {n : Nat} {xs : List D} : G.lst? n = some xs ↔ G.cs[n]? = some (.lst xs) := by
  unfold Store.lst?
  constructor
  · intro h
    split at h
    · rename_i ys e
      rw [e]; cases h; rfl
    · cases h
  · intro h
    rw [h]
theorem RG.at (g : RG K H μ G) {n : Nat} {c : Cell} (h : G.cs[n]? = some c) : ∃ a, μ[n]? = some a := by
  have hl := (List.getElem?_eq_some_iff.mp h).1
  rw [← g.len] at hl
  exact ⟨_, List.getElem?_eq_getElem hl⟩
theorem RG.sq (g : RG K H μ G) {n : Nat} {xs : List D} (h : G.lst? n = some xs) {a : Addr} (ha : μ[n]? = some a) : ∃ vs, RDs K H μ xs vs ∧ SqL K H a vs ∧ (G.lim ≤ n → H a = some (.lst vs)) := by
  obtain ⟨vs, r, f1, f2⟩ := g.cell n _ a (lst?_some.mp h) ha
  refine ⟨vs, r, ?_, fun q => f2 (decide_eq_false (by omega))⟩
  cases e : decide (n < G.lim) with
  | true => exact (f1 e).sq
  | false => exact .inl (.inl (f2 e))
/-- a cell that may be written is a tracked list -/
theorem RG.own (g : RG K H μ G) {n : Nat} {a : Addr} (hn : G.lim ≤ n) (ha : μ[n]? = some a) : ∃ o, H a = some o := by
  have hl := (List.getElem?_eq_some_iff.mp ha).1
  rw [g.len] at hl
  have := g.cell n _ a (List.getElem?_eq_getElem hl) ha
  cases hc : G.cs[n] with
  | lst ds =>
    rw [hc] at this
    obtain ⟨vs, r, f1, f2⟩ := this
    exact ⟨_, f2 (decide_eq_false (by omega))⟩
  | dic _ =>
    rw [hc] at this
    obtain ⟨_, ws, _, h⟩ := this
    exact ⟨_, h⟩
  | ins _ _ => rw [hc] at this; exact this.elim
  | clo _ _ =>
    rw [hc] at this
    obtain ⟨_, _, _, _, _, _, h, _⟩ := this
    exact ⟨_, h⟩
  | dead =>
    rw [hc] at this
    obtain ⟨_, _, _, _, h⟩ := this
    exact ⟨_, h⟩
/-- nothing of the store has changed -/
theorem RG.ext (g : RG K H μ G) (x : XT H H') (hk : ∀ (n : Nat) (a : Addr) (o : HO), μ[n]? = some a → Own o → H a = some o → H' a = some o) : RG K H' μ G where
  tab := fun P h => x.tbl P (g.tab P h)
  lam := fun P h => x.lam P h (g.lam P h)
  len := g.len
  nd := g.nd
  lim := g.lim
  cell := fun n c a h1 h2 => by
    have := g.cell n c a h1 h2
    cases c with
    | lst ds =>
      obtain ⟨vs, r, f1, f2⟩ := this
      exact ⟨vs, r.mono x (List.prefix_refl _), fun e => (f1 e).ext x, fun e => hk n a _ h2 (.inl ⟨_, rfl⟩) (f2 e)⟩
    | dic _ =>
      obtain ⟨h0, ws, r, h⟩ := this
      exact ⟨h0, ws, r.mono x (List.prefix_refl _), hk n a _ h2 (.inr ⟨_, rfl⟩) h⟩
    | ins _ _ => exact this.elim
    | clo _ _ => exact ⟨this.1, this.2.mono x (List.prefix_refl _)⟩
    | dead => exact ⟨this.1, this.2.imp fun _ h => h.imp fun _ h => h.imp fun _ h => x.ext _ _ h⟩
theorem RG.fresh (g : RG K H μ G) {p : Addr} {o : HO} (hp : H p = none) : RG K (upd H p o) μ G :=
  g.ext (.new hp) fun n a xs h1 _ h2 => by rw [upd_ne (ne_of_none h2 hp)]; exact h2
theorem RG.newC (g : RG K H μ G) {p : Addr} {c0 : Cell} {o : HO} (hp : H p = none) (r : RC K (upd H p o) (μ ++ [p]) false p c0) : RG K (upd H p o) (μ ++ [p]) (G.new c0) where
  tab := fun P h => (XT.new hp).tbl P (g.tab P h)
  lam := fun P h => (XT.new hp).lam P h (g.lam P h)
  len := by rw [List.length_append, g.len]; show _ = (G.cs ++ [_]).length; rw [List.length_append]; rfl
  nd := fun i j b hi hj h1 h2 => by
    have old : ∀ {i : Nat} {b : Addr}, G.lim ≤ i → (μ ++ [p])[i]? = some b → (μ[i]? = some b ∧ b ≠ p ∧ i < μ.length) ∨ (i = μ.length ∧ b = p) := fun {i b} hi h => by
      by_cases hl : i < μ.length
      · rw [List.getElem?_append_left hl] at h
        obtain ⟨vs, e⟩ := g.own hi h
        exact .inl ⟨h, ne_of_none e hp, hl⟩
      · have hb := (List.getElem?_eq_some_iff.mp h).1
        rw [List.length_append, List.length_singleton] at hb
        have e : i = μ.length := by omega
        subst e
        rw [List.getElem?_append_right (Nat.le_refl _), Nat.sub_self] at h
        exact .inr ⟨rfl, by simpa using h.symm⟩
    rcases old hi h1 with ⟨k1, k2, _⟩ | ⟨k1, k2⟩ <;> rcases old hj h2 with ⟨m1, m2, _⟩ | ⟨m1, m2⟩
    · exact g.nd i j b hi hj k1 m1
    · exact absurd m2 k2
    · exact absurd k2 m2
    · rw [k1, m1]
  lim := by have := g.lim; show G.lim ≤ (G.cs ++ [_]).length; rw [List.length_append]; omega
  cell := fun n c a h1 h2 => by
    have h1 : (G.cs ++ [c0])[n]? = some c := h1
    have x : XT H (upd H p o) := .new hp
    by_cases hn : n < G.cs.length
    · rw [List.getElem?_append_left hn] at h1
      rw [List.getElem?_append_left (by rw [g.len]; exact hn)] at h2
      have := g.cell n c a h1 h2
      cases c with
      | lst ds =>
        obtain ⟨us, r', f1, f2⟩ := this
        refine ⟨us, r'.mono x (List.prefix_append _ _), fun e => (f1 e).ext x, fun e => ?_⟩
        · rw [upd_ne (ne_of_none (f2 e) hp)]; exact f2 e
      | dic _ =>
        obtain ⟨h0, ws, r, h⟩ := this
        exact ⟨h0, ws, r.mono x (List.prefix_append _ _), by rw [upd_ne (ne_of_none h hp)]; exact h⟩
      | ins _ _ => exact this.elim
      | clo _ _ => exact ⟨this.1, this.2.mono x (List.prefix_append _ _)⟩
      | dead => exact ⟨this.1, this.2.imp fun _ h => h.imp fun _ h => h.imp fun _ h => x.ext _ _ h⟩
    · have hn' : n = G.cs.length := by
        have := (List.getElem?_eq_some_iff.mp h1).1
        rw [List.length_append, List.length_singleton] at this
        omega
      subst hn'
      rw [List.getElem?_append_right (Nat.le_refl _), Nat.sub_self] at h1
      rw [List.getElem?_append_right (by rw [g.len]; exact Nat.le_refl _), g.len, Nat.sub_self] at h2
      cases h1; cases h2
      have q : decide (G.cs.length < (G.new c0).lim) = false := decide_eq_false (by show ¬ G.cs.length < G.lim; have := g.lim; omega)
      rw [q]
      exact r
theorem RG.new (g : RG K H μ G) {p : Addr} {ds : List D} {vs : List V} (hp : H p = none) (r : RDs K H μ ds vs) : RG K (upd H p (.lst vs)) (μ ++ [p]) (G.new (.lst ds)) :=
  g.newC hp ⟨vs, r.mono (.new hp) (List.prefix_append _ _), (fun e => nomatch e), fun _ => upd_same⟩
theorem RG.newD (g : RG K H μ G) {p : Addr} (hp : H p = none) : RG K (upd H p (.dK [])) (μ ++ [p]) (G.new (.dic [])) :=
  g.newC hp ⟨rfl, [], ⟨rfl, rfl⟩, upd_same⟩
theorem RG.putC (g : RG K H μ G) {n : Nat} (hn : G.lim ≤ n) {a : Addr} (ha : μ[n]? = some a) {c0 : Cell} {u o : HO} (hH : H a = some u) (w : Own u) (r : RC K (upd H a o) μ false a c0) : RG K (upd H a o) μ (G.put n c0) where
  tab := fun P h => (w.xt hH).tbl P (g.tab P h)
  lam := fun P h => (w.xt hH).lam P h (g.lam P h)
  len := by rw [g.len]; show _ = (G.cs.set n _).length; rw [List.length_set]
  nd := g.nd
  lim := by have := g.lim; show G.lim ≤ (G.cs.set n _).length; rw [List.length_set]; exact this
  cell := fun m c b h1 h2 => by
    have h1 : (G.cs.set n c0)[m]? = some c := h1
    have x : XT H (upd H a o) := w.xt hH
    by_cases hm : m = n
    · subst hm
      rw [ha] at h2; cases h2
      have hl : m < G.cs.length := by rw [← g.len]; exact (List.getElem?_eq_some_iff.mp ha).1
      rw [List.getElem?_set_self hl] at h1
      cases h1
      have q : decide (m < (G.put m c0).lim) = false := decide_eq_false (by show ¬ m < G.lim; omega)
      rw [q]
      exact r
    · rw [List.getElem?_set_ne (Ne.symm hm)] at h1
      have := g.cell m c b h1 h2
      cases c with
      | lst ds =>
        obtain ⟨us, r', f1, f2⟩ := this
        refine ⟨us, r'.mono x (List.prefix_refl _), fun e => (f1 e).ext x, fun e => ?_⟩
        have ne : b ≠ a := fun z => hm (g.nd m n a (Nat.le_of_not_lt fun q => by exact absurd (decide_eq_true (show m < (G.put n c0).lim from q)) (by rw [e]; exact Bool.false_ne_true)) hn (z ▸ h2) ha)
        rw [upd_ne ne]; exact f2 e
      | dic _ =>
        obtain ⟨e, ws, r, h⟩ := this
        have ne : b ≠ a := fun z => hm (g.nd m n a (Nat.le_of_not_lt fun q => by exact absurd (decide_eq_true (show m < (G.put n c0).lim from q)) (by show ¬ decide (m < G.lim) = true; rw [e]; exact Bool.false_ne_true)) hn (z ▸ h2) ha)
        exact ⟨e, ws, r.mono x (List.prefix_refl _), by rw [upd_ne ne]; exact h⟩
      | ins _ _ => exact this.elim
      | clo _ _ => exact ⟨this.1, this.2.mono x (List.prefix_refl _)⟩
      | dead => exact ⟨this.1, this.2.imp fun _ h => h.imp fun _ h => h.imp fun _ h => x.ext _ _ h⟩
theorem RG.put (g : RG K H μ G) {n : Nat} (hn : G.lim ≤ n) {a : Addr} (ha : μ[n]? = some a) {xs vs : List V} {ds : List D} (hH : H a = some (.lst xs)) (r : RDs K H μ ds vs) : RG K (upd H a (.lst vs)) μ (G.put n (.lst ds)) :=
  g.putC hn ha hH (.inl ⟨_, rfl⟩) ⟨vs, r.mono (.lst hH) (List.prefix_refl _), (fun e => nomatch e), fun _ => upd_same⟩
theorem RG.putD (g : RG K H μ G) {n : Nat} (hn : G.lim ≤ n) {a : Addr} (ha : μ[n]? = some a) {xs vs : List (L2.Key × V)} {ds : List (L2.Key × D)} (hH : H a = some (.dK xs)) (r : RKs K H μ ds vs) : RG K (upd H a (.dK vs)) μ (G.put n (.dic ds)) :=
  g.putC hn ha hH (.inr ⟨_, rfl⟩) ⟨rfl, vs, r.mono (.dK hH) (List.prefix_refl _), upd_same⟩
theorem dic?_some {n : Nat} {xs : List (L2.Key × D)} : G.dic? n = some xs ↔ G.cs[n]? = some (.dic xs) := by
  unfold Store.dic?
  constructor
  · intro h
    split at h
    · rename_i ys e
      rw [e]; cases h; rfl
    · cases h
  · intro h
    rw [h]
theorem RG.dq (g : RG K H μ G) {n : Nat} {xs : List (L2.Key × D)} (h : G.dic? n = some xs) {a : Addr} (ha : μ[n]? = some a) : ∃ ws, RKs K H μ xs ws ∧ H a = some (.dK ws) := by
  obtain ⟨_, ws, r, e⟩ := g.cell n _ a (dic?_some.mp h) ha
  exact ⟨ws, r, e⟩

end

/-! ### the slots -/
/-- the exception that is handled just now: its slot, where it stands, what is known of it -/
class Cur where
  at_ : Option (Nat × Addr)
  rel : Hp → List Addr → Prop
  mono : ∀ {H H' μ μ'}, XT H H' → μ <+: μ' → rel H μ → rel H' μ'
variable [Cur]
structure RE (K : PySem.W.Frag) (H : Hp) (μ : List Addr) (ρ : Env) (σ : L2.St) : Prop where
  len : ρ.length = σ.length
  at_ : ∀ (i : Nat) (d : D), ρ[i]? = some (some d) → ∃ v, σ[i]? = some (some v) ∧ RD K H μ d v
  cur : ∀ i a, Cur.at_ = some (i, a) → ρ[i]? = some none → σ[i]? = some (some (.ref a))
  rel : Cur.rel H μ
section
variable {K : PySem.W.Frag} {H H' : Hp} {μ μ' : List Addr} {ρ : Env} {σ : L2.St}
theorem RE.mono (x : XT H H') (p : μ <+: μ') (h : RE K H μ ρ σ) : RE K H' μ' ρ σ := ⟨h.len, fun i d e => by
  obtain ⟨v, q, r⟩ := h.at_ i d e
  exact ⟨v, q, r.mono x p⟩, h.cur, Cur.mono x p h.rel⟩
theorem RE.set {d : D} {v : V} (h : RE K H μ ρ σ) (r : RD K H μ d v) (i : Nat) : RE K H μ (ρ.set i (some d)) (σ.set i (some v)) := by
  refine ⟨by rw [List.length_set, List.length_set]; exact h.len, fun j e q => ?_, fun j a hj q => ?_, h.rel⟩
  · by_cases hj : j = i
    · subst hj
      have hl : j < ρ.length := by
        have := (List.getElem?_eq_some_iff.mp q).1
        rwa [List.length_set] at this
      rw [List.getElem?_set_self hl] at q
      cases q
      exact ⟨v, by rw [List.getElem?_set_self (by rw [← h.len]; exact hl)], r⟩
    · rw [List.getElem?_set_ne (Ne.symm hj)] at q
      rw [List.getElem?_set_ne (Ne.symm hj)]
      exact h.at_ j e q
  · by_cases hji : j = i
    · subst hji
      have hl : j < ρ.length := by
        have := (List.getElem?_eq_some_iff.mp q).1
        rwa [List.length_set] at this
      rw [List.getElem?_set_self hl] at q
      cases q
    · rw [List.getElem?_set_ne (Ne.symm hji)] at q
      rw [List.getElem?_set_ne (Ne.symm hji)]
      exact h.cur j a hj q
theorem RE.unset (hc : Cur.at_ = none) (h : RE K H μ ρ σ) (i : Nat) : RE K H μ (ρ.set i none) (σ.set i none) := by
  refine ⟨by rw [List.length_set, List.length_set]; exact h.len, fun j e q => ?_, fun j a hj => (by rw [hc] at hj; cases hj), h.rel⟩
  by_cases hj : j = i
  · subst hj
    have hl : j < ρ.length := by
      have := (List.getElem?_eq_some_iff.mp q).1
      rwa [List.length_set] at this
    rw [List.getElem?_set_self hl] at q
    cases q
  · rw [List.getElem?_set_ne (Ne.symm hj)] at q
    rw [List.getElem?_set_ne (Ne.symm hj)]
    exact h.at_ j e q
theorem RE.wipe (hc : Cur.at_ = none) (h : RE K H μ ρ σ) : ∀ vs : List Nat, RE K H μ (wipeE ρ vs) (L2.wipe σ vs)
  | [] => h
  | v :: vs => (h.wipe hc vs).unset hc v
theorem RE.start (hc : Cur.at_ = none) (hr : Cur.rel H μ) {ds : List D} {vs : List V} (r : RDs K H μ ds vs) (N : List Str) : RE K H μ (Cut.start N.length ds) (L2.start N vs) := by
  refine ⟨?_, fun i d e => ?_, fun j a hj => (by rw [hc] at hj; cases hj), hr⟩
  · unfold Cut.start L2.start
    rw [List.length_append, List.length_append, List.length_map, List.length_map, List.length_replicate, List.length_replicate, r.len]
  · unfold Cut.start at e
    unfold L2.start
    by_cases hi : i < ds.length
    · rw [List.getElem?_append_left (by simpa using hi), List.getElem?_map] at e
      cases q : ds[i]? with
      | none => rw [q] at e; cases e
      | some d' =>
        rw [q] at e
        cases e
        obtain ⟨v, h1, h2⟩ := r.get q
        exact ⟨v, by rw [List.getElem?_append_left (by simpa [r.len] using hi), List.getElem?_map, h1]; rfl, h2⟩
    · rw [List.getElem?_append_right (by simpa using hi), List.getElem?_replicate] at e
      split at e <;> cases e
end

/-! ### wishes -/
/-- how an exception of ours stands behind one of theirs -/
abbrev XRel := Nat → List D → Hp → List Addr → Value → Option Addr → Prop
structure Ct where
  K : PySem.W.Frag
  ξ : XRel
  W : WX
def Aft (K : PySem.W.Frag) (H : Hp) (μ : List Addr) (G' : Store) (P : Hp → List Addr → Prop) : Prop := ∀ H' μ', XT H H' → μ <+: μ' → RG K H' μ' G' → P H' μ'
theorem Aft.mono {K : PySem.W.Frag} {H H1 : Hp} {μ μ1 : List Addr} {G' : Store} {P : Hp → List Addr → Prop} (x : XT H H1) (p : μ <+: μ1) (h : Aft K H μ G' P) : Aft K H1 μ1 G' P :=
  fun H' μ' x' p' g => h H' μ' (x.trans x') (p.trans p') g
theorem Aft.imp {K : PySem.W.Frag} {H : Hp} {μ : List Addr} {G' : Store} {P P' : Hp → List Addr → Prop} (h : Aft K H μ G' P) (k : ∀ H' μ', XT H H' → μ <+: μ' → RG K H' μ' G' → P H' μ' → P' H' μ') : Aft K H μ G' P' :=
  fun H' μ' x' p' g => k H' μ' x' p' g (h H' μ' x' p' g)
def Post {α : Type} (c : Ct) (σ : L2.St) (H : Hp) (μ : List Addr) (r : R α) (P : α → Store → Hp → List Addr → Prop) : Prop := match r with
  | .ok a G' => Aft c.K H μ G' (P a G')
  | .exc n fs G' => Aft c.K H μ G' fun H' μ' => ∀ cls dd, c.ξ n fs H' μ' cls dd → c.W cls dd σ H'
  | .stuck => False
def Post0 {α : Type} (K : PySem.W.Frag) (H : Hp) (μ : List Addr) (r : R α) (P : α → Store → Hp → List Addr → Prop) : Prop := match r with
  | .ok a G' => Aft K H μ G' (P a G')
  | _ => False
section
variable {α β : Type} {c : Ct} {σ : L2.St} {H H1 : Hp} {μ μ1 : List Addr} {r : R α} {P P' : α → Store → Hp → List Addr → Prop}
theorem Post.mono (x : XT H H1) (p : μ <+: μ1) (h : Post c σ H μ r P) : Post c σ H1 μ1 r P := by
  cases r with
  | ok a G => exact Aft.mono x p h
  | exc n fs G => exact Aft.mono x p h
  | stuck => exact h
theorem Post.imp (h : Post c σ H μ r P) (k : ∀ a G' H' μ', XT H H' → μ <+: μ' → RG c.K H' μ' G' → P a G' H' μ' → P' a G' H' μ') : Post c σ H μ r P' := by
  cases r with
  | ok a G => exact Aft.imp h fun H' μ' => k a G H' μ'
  | exc n fs G => exact h
  | stuck => exact h
theorem Post.bind {f : α → Store → R β} {P : β → Store → Hp → List Addr → Prop} (h : Post c σ H μ (r.bind f) P) : Post c σ H μ r fun a G' H' μ' => Post c σ H' μ' (f a G') P := by
  cases r with
  | ok a G => exact fun H' μ' x p g => Post.mono x p h
  | exc n fs G => exact h
  | stuck => exact h
theorem Post.no (h : Post c σ H μ (noExc r) P) : Post0 c.K H μ r P := by
  cases r with
  | ok a G => exact h
  | exc n fs G => exact h
  | stuck => exact h
theorem Post0.mono {K : PySem.W.Frag} (x : XT H H1) (p : μ <+: μ1) (h : Post0 K H μ r P) : Post0 K H1 μ1 r P := by
  cases r with
  | ok a G => exact Aft.mono x p h
  | exc n fs G => exact h
  | stuck => exact h
end

/-! ### readings -/
def rE (c : Ct) (f : ME) : TE := fun σ H Q => ∃ ρ G μ, RE c.K H μ ρ σ ∧ RG c.K H μ G ∧ Post c σ H μ (f ρ G) fun d _ H' μ' => ∀ v, RD c.K H' μ' d v → Q v H'
def rT (c : Ct) (f : ME) : TT := fun σ H Q => ∃ ρ G μ, RE c.K H μ ρ σ ∧ RG c.K H μ G ∧ Post c σ H μ (f ρ G) fun d G' H' _ => ∃ b, truthy d G' = some b ∧ Q b H'
def rA (c : Ct) (f : MEs) : TA := fun σ H Q => ∃ ρ G μ, RE c.K H μ ρ σ ∧ RG c.K H μ G ∧ Post c σ H μ (f ρ G) fun ds _ H' μ' => ∀ vs, RDs c.K H' μ' ds vs → Q vs H'
def rO (c : Ct) (f : MEo) : TO := fun σ H Q => ∃ ρ G μ, RE c.K H μ ρ σ ∧ RG c.K H μ G ∧ Post c σ H μ (f ρ G) fun o _ H' _ => Q o H'
/-- an operation by values -/
def r1 (K : PySem.W.Frag) (g : D → Store → R D) : V → Hp → VK → Prop := fun x H Q => ∃ d G μ, RG K H μ G ∧ RD K H μ d x ∧ Post0 K H μ (g d G) fun d _ H' μ' => ∀ v, RD K H' μ' d v → Q v H'
def r2 (K : PySem.W.Frag) (g : D → D → Store → R D) : R2 := fun x y H Q => ∃ d e G μ, RG K H μ G ∧ RD K H μ d x ∧ RD K H μ e y ∧ Post0 K H μ (g d e G) fun d _ H' μ' => ∀ v, RD K H' μ' d v → Q v H'
def rN (K : PySem.W.Frag) (g : List D → Store → R D) : List V → Hp → VK → Prop := fun xs H Q => ∃ ds G μ, RG K H μ G ∧ RDs K H μ ds xs ∧ Post0 K H μ (g ds G) fun d _ H' μ' => ∀ v, RD K H' μ' d v → Q v H'
def rM (K : PySem.W.Frag) (g : D → List D → Store → R D) : V → List V → Hp → VK → Prop := fun x xs H Q => ∃ d ds G μ, RG K H μ G ∧ RD K H μ d x ∧ RDs K H μ ds xs ∧ Post0 K H μ (g d ds G) fun d _ H' μ' => ∀ v, RD K H' μ' d v → Q v H'

theorem PE.imp {X : Cx} {e : Expr} {t t' : TE} (h : PE X e t) (k : ∀ σ H Q, t' σ H Q → t σ H Q) : PE X e t' := ⟨fun pins s σ H Q I q => h.run pins s σ H Q I (k _ _ _ q)⟩
theorem PT.imp {X : Cx} {e : Expr} {t t' : TT} (h : PT X e t) (k : ∀ σ H Q, t' σ H Q → t σ H Q) : PT X e t' := ⟨fun pins s σ H Q I q => h.run pins s σ H Q I (k _ _ _ q)⟩
theorem PW.imp {X : Cx} {e : Expr} {t t' : TT} (h : PW X e t) (k : ∀ σ H Q, t' σ H Q → t σ H Q) : PW X e t' := ⟨fun wh pins s σ H Q I q => h.run wh pins s σ H Q I (k _ _ _ q)⟩
theorem PA.imp {X : Cx} {e : List Expr} {t t' : TA} (h : PA X e t) (k : ∀ σ H Q, t' σ H Q → t σ H Q) : PA X e t' := ⟨fun pos pins s σ H Q I q => h.run pos pins s σ H Q I (k _ _ _ q)⟩
theorem PO.imp {X : Cx} {e : Option Expr} {t t' : TO} (h : PO X e t) (k : ∀ σ H Q, t' σ H Q → t σ H Q) : PO X e t' := ⟨fun pins s σ H Q I q => h.run pins s σ H Q I (k _ _ _ q)⟩
theorem PS.imp {X : Cx} {e : Stmt} {t t' : TS} (h : PS X e t) (k : ∀ D σ H, t' D σ H → t D σ H) : PS X e t' := ⟨fun pins s σ H D I q => h.run pins s σ H D I (k _ _ _ q)⟩
theorem PSs.imp {X : Cx} {e : List Stmt} {t t' : TS} (h : PSs X e t) (k : ∀ D σ H, t' D σ H → t D σ H) : PSs X e t' := ⟨fun pins s σ H D I q => h.run pins s σ H D I (k _ _ _ q)⟩
theorem PI.imp {X : Cx} {tg e : Expr} {t t' : TI} (h : PI X tg e t) (k : ∀ σ H Q, t' σ H Q → t σ H Q) : PI X tg e t' := ⟨fun pins s σ H Q I q => h.run pins s σ H Q I (k _ _ _ q)⟩
end Cut
/-! Each operation of the evaluator by a rule of the hand layer. -/
namespace Cut
open PySem PySem.Spec PyProof.Rows L2
variable [Tbl]
section
variable {K : PySem.W.Frag} {H : Hp} {μ : List Addr} {G : Store} {Q : VK}
abbrev Wn (K : PySem.W.Frag) (Q : VK) : D → Store → Hp → List Addr → Prop := fun d _ H' μ' => ∀ v, RD K H' μ' d v → Q v H'
theorem P0.here {d : D} {v : V} (g : RG K H μ G) (h : Post0 K H μ (.ok d G) (Wn K Q)) (r : RD K H μ d v) : Q v H := h H μ (.refl _) (List.prefix_refl _) g v r
theorem P0.newT {ds : List D} {vs : List V} (g : RG K H μ G) (h : Post0 K H μ (.ok (.tup ds) G) (Wn K Q)) (r : RDs K H μ ds vs) : ∀ p, H p = none → Q (.ref p) (upd H p (.tup vs)) := fun p hp =>
  h _ μ (.new hp) (List.prefix_refl _) (g.fresh hp) _ ⟨p, vs, rfl, .inl (.inl upd_same), r.mono (.new hp) (List.prefix_refl _)⟩
theorem P0.newL {ds : List D} {vs : List V} (g : RG K H μ G) (h : Post0 K H μ (Cut.newL ds G) (Wn K Q)) (r : RDs K H μ ds vs) : vs.length ≤ sizeLine ∧ ∀ p, H p = none → Q (.ref p) (upd H p (.lst vs)) := by
  unfold Cut.newL at h
  split at h
  · rename_i hl
    refine ⟨by rw [r.len]; exact hl, fun p hp => ?_⟩
    exact h _ _ (.new hp) (List.prefix_append _ _) (g.new hp r) _ ⟨p, rfl, by rw [← g.len, List.getElem?_append_right (Nat.le_refl _), Nat.sub_self]; rfl⟩
  · exact h.elim
theorem P0.put {d : D} {v : V} {n : Nat} {a : Addr} {xs vs : List V} {ds : List D} (g : RG K H μ G) (hn : G.lim ≤ n) (ha : μ[n]? = some a) (hH : H a = some (.lst xs)) (r : RDs K H μ ds vs) (h : Post0 K H μ (.ok d (G.put n (.lst ds))) (Wn K Q)) (rd : RD K H μ d v) : Q v (upd H a (.lst vs)) :=
  h _ μ (.lst hH) (List.prefix_refl _) (g.put hn ha hH r) v (rd.mono (.lst hH) (List.prefix_refl _))

/-! ### data -/
theorem dp_str (s : List Nat) : Dp K H (.str ⟨s.toArray⟩) (.str ⟨s.toArray⟩) := .str _
mutual
theorem pyW_dp {r : Nat → Option PyData} (hr : ∀ n p a, r n = some p → μ[n]? = some a → Dp K H (.ref a) p) : ∀ (d : D) (v : V) (p : PyData), pyW r d = some p → RD K H μ d v → Dp K H v p
  | .non, v, p, h, rd => by
    have e : v = _ := rd
    simp only [pyW, Option.some.injEq] at h; subst h; subst e; exact .non
  | .bl b, v, p, h, rd => by
    have e : v = _ := rd
    simp only [pyW, Option.some.injEq] at h; subst h; subst e; exact .bl b
  | .int i, v, p, h, rd => by
    have e : v = _ := rd
    simp only [pyW, Option.some.injEq] at h; subst h; subst e; exact .int i
  | .str s, v, p, h, rd => by
    have e : v = _ := rd
    simp only [pyW, Option.some.injEq] at h; subst h; subst e; exact .str _
  | .tup xs, v, p, h, rd => by
    obtain ⟨a, vs, e, s, rs⟩ := rd
    simp only [pyW, Option.map_eq_some_iff] at h
    obtain ⟨ps, h1, h2⟩ := h
    subst h2; subst e
    exact .tup s (pyWs_dp hr xs vs ps h1 rs)
  | .ref n, v, p, h, rd => by
    obtain ⟨a, e, m⟩ := rd
    simp only [pyW] at h
    subst e
    exact hr n p a h m
  | .ty s, v, p, h, rd => by simp only [pyW] at h; cases h
theorem pyWs_dp {r : Nat → Option PyData} (hr : ∀ n p a, r n = some p → μ[n]? = some a → Dp K H (.ref a) p) : ∀ (ds : List D) (vs : List V) (ps : List PyData), pyWs r ds = some ps → RDs K H μ ds vs → DpAll K H vs ps
  | [], vs, ps, h, rd => by
    have e : vs = _ := rd
    simp only [pyWs, Option.some.injEq] at h; subst h; subst e; exact .nil
  | x :: xs, vs, ps, h, rd => by
    obtain ⟨v, ws, e, r1, rs⟩ := rd
    simp only [pyWs] at h
    split at h
    · rename_i d ds h1 h2
      cases h
      subst e
      exact .cons (pyW_dp hr x v d h1 r1) (pyWs_dp hr xs ws ds h2 rs)
    · cases h
end
theorem pyD_dp (g : RG K H μ G) : ∀ (n : Nat) (d : D) (v : V) (p : PyData), pyD n G d = some p → RD K H μ d v → Dp K H v p
  | 0, d, v, p, h, rd => pyW_dp (fun n p a e _ => by cases e) d v p h rd
  | n + 1, d, v, p, h, rd => pyW_dp (fun k q a e m => by
    have e : (match G.lst? k with
      | some xs => (pyWs (fun j => pyD n G (.ref j)) xs).map PyData.list
      | none => none) = some q := e
    split at e
    · rename_i xs hx
      rw [Option.map_eq_some_iff] at e
      obtain ⟨ps, h1, h2⟩ := e
      subst h2
      obtain ⟨vs, r, s, _⟩ := g.sq hx m
      exact .lst s (pyWs_dp (fun j p a e m => pyD_dp g n (.ref j) _ p e ⟨a, rfl, m⟩) xs vs ps h1 r)
    · cases e) d v p h rd
theorem eqD_dp (g : RG K H μ G) {d e : D} {x y : V} {b : Bool} (h : eqD G d e = some b) (rx : RD K H μ d x) (ry : RD K H μ e y) : ∃ p q, Dp K H x p ∧ Dp K H y q ∧ SeqAt.shaped p = true ∧ SeqAt.shaped q = true ∧ PyData.eqv p q = b := by
  unfold eqD at h
  split at h
  · rename_i p q h1 h2
    split at h
    · rename_i hs
      obtain ⟨s1, s2⟩ := Bool.and_eq_true_iff.mp hs
      exact ⟨p, q, pyD_dp g _ _ _ _ h1 rx, pyD_dp g _ _ _ _ h2 ry, s1, s2, Option.some.inj h⟩
    · cases h
  · cases h
theorem flat_rd {d : D} {v : V} (f : flatD d = true) (r : RD K H μ d v) : flatV v = true := by
  cases d <;> first | (have e : v = _ := r; subst e; rfl) | cases f
theorem flats_rd : ∀ {ds : List D} {vs : List V}, ds.all flatD = true → RDs K H μ ds vs → vs.all flatV = true
  | [], _, _, h => by have e : _ = [] := h; rw [e]; rfl
  | d :: ds, _, f, ⟨v, ws, e, r, rs⟩ => by
    rw [List.all_cons, Bool.and_eq_true] at f
    rw [e, List.all_cons, Bool.and_eq_true]
    exact ⟨flat_rd f.1 r, flats_rd f.2 rs⟩
theorem str_beq (a b : List Nat) : ((⟨a.toArray⟩ : Str) == ⟨b.toArray⟩) = (a == b) := by
  by_cases h : a = b
  · subst h; simp
  · have : ¬ ((⟨a.toArray⟩ : Str) = ⟨b.toArray⟩) := fun e => h (by injection e with e; exact List.toArray_inj e)
    rw [beq_eq_false_iff_ne.mpr this, beq_eq_false_iff_ne.mpr h]
theorem eqF_rd {d e : D} {x y : V} (f : flatD d = true) (f' : flatD e = true) (r : RD K H μ d x) (r' : RD K H μ e y) : eqV x y = eqF d e := by
  cases d <;> try (simp [flatD] at f; done)
  all_goals
    cases e <;> try (simp [flatD] at f'; done)
    all_goals
      have e1 : x = _ := r
      have e2 : y = _ := r'
      subst e1; subst e2
      first | rfl | exact str_beq _ _
theorem anyF_rd {d : D} {x : V} (f : flatD d = true) (r : RD K H μ d x) : ∀ {ds : List D} {vs : List V}, ds.all flatD = true → RDs K H μ ds vs → (vs.any fun y => eqV y x) = ds.any fun y => eqF y d
  | [], _, _, h => by have e : _ = [] := h; rw [e]; rfl
  | e :: ds, _, fs, ⟨v, ws, q, r1, rs⟩ => by
    rw [List.all_cons, Bool.and_eq_true] at fs
    rw [q, List.any_cons, List.any_cons, eqF_rd fs.1 f r1 r, anyF_rd f r fs.2 rs]
theorem items_rd (g : RG K H μ G) {d : D} {v : V} {xs : List D} (h : items d G = some xs) (r : RD K H μ d v) : ∃ p vs, v = .ref p ∧ (SqL K H p vs ∨ SqT K H p vs) ∧ RDs K H μ xs vs := by
  cases d with
  | tup ds =>
    obtain ⟨a, vs, e, s, rs⟩ := r
    cases h
    exact ⟨a, vs, e, .inr s, rs⟩
  | ref n =>
    obtain ⟨a, e, m⟩ := r
    obtain ⟨vs, rs, s, _⟩ := g.sq (show G.lst? n = some xs from h) m
    exact ⟨a, vs, e, .inl s, rs⟩
  | _ => cases h
theorem okO_some {K : PySem.W.Frag} {H : Hp} {μ : List Addr} {o : Option Bool} {P : D → Store → Hp → List Addr → Prop} (h : Post0 K H μ (okO o G) P) : ∃ b, o = some b ∧ Post0 K H μ (.ok (.bl b) G) P := by
  cases o with
  | none => exact h.elim
  | some b => exact ⟨b, rfl, h⟩
theorem okD_some {K : PySem.W.Frag} {H : Hp} {μ : List Addr} {o : Option D} {P : D → Store → Hp → List Addr → Prop} (h : Post0 K H μ (okD o G) P) : ∃ b, o = some b ∧ Post0 K H μ (.ok b G) P := by
  cases o with
  | none => exact h.elim
  | some b => exact ⟨b, rfl, h⟩
end

/-! ### binary operators -/
section
variable {X : Cx}
theorem ok_add : OpR X (binaryOp .Add) (r2 X.K (op2 .add)) := by
  rintro pins s σ H x y v u Q I rx ry ⟨d, e, G, μ, g, r, r', h⟩
  cases d <;> cases e <;> try exact h.elim
  case int.int i j =>
    have e1 : x = _ := r; have e2 : y = _ := r'; subst e1; subst e2
    exact op_add pins s σ H _ _ v u Q I rx ry ⟨i, j, rfl, rfl, P0.here g h rfl⟩
  case str.str a b =>
    have e1 : x = _ := r; have e2 : y = _ := r'; subst e1; subst e2
    simp only [op2] at h
    split at h
    · rename_i hl
      exact op_add_str pins s σ H _ _ v u Q I rx ry ⟨_, _, rfl, rfl, by simpa [Str.length] using hl, P0.here g h (by show V.str _ = V.str _; congr 1; show Str.append _ _ = _; simp [Str.append])⟩
    · exact h.elim
  case tup.tup xs ys =>
    obtain ⟨a, vs, rfl, s1, rs⟩ := r
    obtain ⟨b, ws, rfl, s2, rs'⟩ := r'
    simp only [op2] at h
    split at h
    · rename_i hl
      refine op_catA pins s σ H _ _ v u Q I rx ry ⟨a, b, vs, ws, rfl, rfl, s1, s2, by rw [rs.len, rs'.len]; exact hl, fun e => ?_, fun _ e => ?_, fun _ _ => P0.newT g h (rs.app rs')⟩
      · subst e
        have : xs = [] := List.eq_nil_of_length_eq_zero (by rw [← rs.len]; rfl)
        subst this
        exact P0.here g h ⟨b, ws, rfl, s2, rs'⟩
      · subst e
        have : ys = [] := List.eq_nil_of_length_eq_zero (by rw [← rs'.len]; rfl)
        subst this
        rw [List.append_nil] at h
        exact P0.here g h ⟨a, vs, rfl, s1, rs⟩
    · exact h.elim
  case ref.ref m n =>
    obtain ⟨a, rfl, ma⟩ := r
    obtain ⟨b, rfl, mb⟩ := r'
    simp only [op2] at h
    split at h
    · rename_i xs ys hx hy
      split at h
      · rename_i hl
        obtain ⟨vs, rs, _, f⟩ := g.sq hx ma
        obtain ⟨ws, rs', _, f'⟩ := g.sq hy mb
        have z := P0.newL g h (rs.app rs')
        exact op_cat pins s σ H _ _ v u Q I rx ry ⟨a, b, vs, ws, rfl, rfl, f hl.1, f' hl.2, by have := z.1; rwa [List.length_append] at this, z.2⟩
      · exact h.elim
    · exact h.elim
theorem ok_sub : OpR X (binaryOp .Sub) (r2 X.K (op2 .sub)) := by
  rintro pins s σ H x y v u Q I rx ry ⟨d, e, G, μ, g, r, r', h⟩
  cases d <;> cases e <;> try exact h.elim
  case int.int i j =>
    have e1 : x = _ := r; have e2 : y = _ := r'; subst e1; subst e2
    exact op_sub pins s σ H _ _ v u Q I rx ry ⟨i, j, rfl, rfl, P0.here g h rfl⟩
theorem ok_xor : OpR X (binaryOp .BitXor) (r2 X.K (op2 .xor)) := by
  rintro pins s σ H x y v u Q I rx ry ⟨d, e, G, μ, g, r, r', h⟩
  cases d <;> cases e <;> try exact h.elim
  case int.int i j =>
    have e1 : x = _ := r; have e2 : y = _ := r'; subst e1; subst e2
    exact op_xor pins s σ H _ _ v u Q I rx ry ⟨i, j, rfl, rfl, P0.here g h rfl⟩
theorem rep_fold (s : List Nat) : ∀ (k : Nat) (acc : Array Nat), (List.replicate k s.toArray).foldl (· ++ ·) acc = acc ++ (List.replicate k s).flatten.toArray
  | 0, acc => by simp
  | k + 1, acc => by
    rw [List.replicate_succ, List.replicate_succ, List.foldl_cons, List.flatten_cons, rep_fold s k]
    simp
theorem txt_mul {s : List Nat} {k : Int} (h0 : 0 ≤ k) : Txt.mul ⟨s.toArray⟩ k = ⟨((List.replicate k.toNat s).flatten).toArray⟩ := by
  unfold Txt.mul
  by_cases h1 : k < 1
  · have : k = 0 := by omega
    subst this
    rw [if_pos (by omega)]; rfl
  · rw [if_neg h1]
    split
    · rename_i hc
      rw [Bool.or_eq_true] at hc
      rcases hc with hc | hc
      · have : k = 1 := by simpa using hc
        subst this
        show (⟨s.toArray⟩ : Str) = ⟨((List.replicate 1 s).flatten).toArray⟩
        simp
      · have hs : s = [] := by
          have : (⟨s.toArray⟩ : Str).length = 0 := by simpa using hc
          simpa [Str.length] using this
        subst hs
        congr 1
        have : ∀ n : Nat, (List.replicate n ([] : List Nat)).flatten = [] := fun n => by induction n with
          | zero => rfl
          | succ n ih => rw [List.replicate_succ, List.flatten_cons, ih]; rfl
        rw [this]
    · rw [rep_fold]
      simp
/-- tuple * int, of any size that the model bears -/
theorem rep_any : OpR X (binaryOp .Mult) fun x y H Q => ∃ (l : Addr) (k : Int) (xs : List V), x = .ref l ∧ y = .int k ∧ SqT X.K H l xs ∧
    (xs ≠ [] ∧ 2 ≤ k ∧ k ≤ 1000000 ∧ xs.length * k.toNat ≤ 1000000) ∧ ∀ p, H p = none → Q (.ref p) (upd H p (.tup (List.replicate k.toNat xs).flatten)) := by
  rintro pins s σ H _ _ v u Q I rx ry ⟨l, k, xs, rfl, rfl, sq, ⟨ne, lo, hi, few⟩, fin⟩
  cases rx
  obtain ⟨tk, rfl⟩ := ry
  obtain ⟨its, vals, ⟨ob, at_, isT, n, isD⟩, _⟩ := I.tuple sq
  obtain ⟨_, dd, _, sl⟩ := ob
  dsimp only at isT isD
  subst isT; subst isD
  have same : its.length = xs.length := vals.length.symm
  have full : its.toArray.isEmpty = false := by
    rcases its with _ | ⟨a, b⟩
    · exact absurd (List.eq_nil_of_length_eq_zero same.symm) ne
    · rfl
  have count : its.toArray.size = xs.length := by rw [List.size_toArray, same]
  have kn : k = (k.toNat : Int) := by omega
  have prod : ((its.toArray.size : Nat) : Int) * k ≤ 1000000 := by
    rw [count, kn]
    exact Int.ofNat_le.mpr few
  have flat : (List.replicate k.toNat its).flatten.length ≤ sizeLine := by
    rw [PyProof.Rows.lm_len_rep_flat, same, sizeLine_eq, Nat.mul_comm]
    omega
  have w0 : (decide (k < -(2 ^ 63)) || decide (k ≥ 2 ^ 63)) = false := by rw [decide_eq_false (by omega), decide_eq_false (by omega)]; rfl
  have w1 : (its.toArray.isEmpty || k == 1) = false := by rw [full, Bool.false_or]; exact beq_eq_false_iff_ne.mpr (by omega)
  have w2 : (decide (k ≤ 0) || its.toArray.isEmpty) = false := by rw [full, Bool.or_false]; exact decide_eq_false (by omega)
  have w4 : Builtin.Tuple.tupleTooMany (((its.toArray.size : Nat) : Int) * k) = false := decide_eq_false (by rw [sizeLine_eq]; omega)
  have step := tuple_mulW l its.toArray n dd sl k tk w0 w1 w2 (by omega) w4 (by rw [size_rep, List.size_toArray]; exact flat)
  have back := int_rmul_tuple k tk l its.toArray n dd sl
  refine wpAny_binaryOp_repeat_ref (T := "tuple") (U := "int") (by decide) ⟨_, at_, rfl⟩ (fun z => typeIs_int z k tk) noFill_tuple_mul
    F.fills_int_mul F.slot_int_rmul repeat_tuple F.slot_int_index.lookup
    (call_meets F.slot_int_rmul (typeIs_int s k tk) F.entry_int_rmul (F.args_int_rmul_2 _ _) back
      ⟨at_, rfl, ⟨_, at_, rfl⟩,
        call_meets F.slot_tuple_mul ⟨_, at_, rfl⟩ F.entry_tuple_mul (F.args_tuple_mul_2 _ _) step ⟨at_, ?_⟩⟩)
  rw [size_rep]
  have laid := I.laid (t' := s.toks) (o := .tup (List.replicate k.toNat xs).flatten) (fun b ob q => Heap.get?_push_of_some ({ cls := .type "tuple", data := .seq (List.replicate k.toNat its).flatten.toArray } : Obj) q) (Nat.le_refl s.heap.objs.size)
    ⟨by rw [PyProof.Rows.lm_len_rep_flat, sizeLine_eq, Nat.mul_comm]; omega, _, vals.rep k.toNat, IsTup.new _ _⟩
  exact ⟨.ref s.heap.objs.size, _, laid, rfl, fin _ (I.hok.fresh (Nat.le_refl _))⟩
theorem ok_mul : OpR X (binaryOp .Mult) (r2 X.K (op2 .mul)) := by
  rintro pins s σ H x y v u Q I rx ry ⟨d, e, G, μ, g, r, r', h⟩
  cases d <;> cases e <;> try exact h.elim
  case int.int i j =>
    have e1 : x = _ := r; have e2 : y = _ := r'; subst e1; subst e2
    simp only [op2] at h
    split at h
    · rename_i hl
      exact op_mulW pins s σ H _ _ v u Q I rx ry ⟨i, j, rfl, rfl, hl, P0.here g h rfl⟩
    · exact h.elim
  case str.int a k =>
    have e1 : x = _ := r; have e2 : y = _ := r'; subst e1; subst e2
    simp only [op2] at h
    split at h
    · rename_i hl
      obtain ⟨t, rfl⟩ := rx
      obtain ⟨t', rfl⟩ := ry
      obtain ⟨h0, h1, h2, h3⟩ := hl
      have hsz : (⟨a.toArray⟩ : Str).length = a.length := by simp [Str.length]
      refine PySem.SB.mul ⟨?_, fun hk _ => ?_, fun hk _ => ?_⟩ fun t2 tk => ⟨.str (Txt.mul ⟨a.toArray⟩ k), H, I.tok _, ⟨_, rfl⟩, P0.here g h ?_⟩
      · rw [Bool.or_eq_false_iff, decide_eq_false_iff_not, decide_eq_false_iff_not]
        exact ⟨by omega, by omega⟩
      · rw [hsz]
        have : (1000 : Int) ≤ (2 ^ 63 - 1) / k := by
          rw [Int.le_ediv_iff_mul_le (by omega)]
          omega
        omega
      · rw [hsz]
        exact decide_eq_false (Nat.not_lt.mpr (Nat.le_trans h3 (by decide)))
      · show V.str _ = V.str _
        rw [txt_mul h0]
    · exact h.elim
  case tup.int xs k =>
    obtain ⟨a, vs, rfl, s1, rs⟩ := r
    have e2 : y = _ := r'; subst e2
    simp only [op2] at h
    split at h
    · rename_i hl
      exact rep_any pins s σ H _ _ v u Q I rx ry ⟨a, k, vs, rfl, rfl, s1, ⟨fun e => hl.1 (List.eq_nil_of_length_eq_zero (by rw [← rs.len, e]; rfl)), hl.2.1, hl.2.2.1, by rw [rs.len]; exact hl.2.2.2⟩, P0.newT g h (rs.rep _)⟩
    · exact h.elim
  case ref.int m k =>
    obtain ⟨a, rfl, ma⟩ := r
    have e2 : y = _ := r'; subst e2
    simp only [op2] at h
    split at h
    · rename_i xs hx
      split at h
      · rename_i hl
        obtain ⟨vs, rs, _, f⟩ := g.sq hx ma
        exact op_rep pins s σ H _ _ v u Q I rx ry ⟨a, k, vs, rfl, rfl, f hl.1, hl.2.1, hl.2.2.1, by rw [rs.len]; exact hl.2.2.2, (P0.newL g h (rs.rep _)).2⟩
      · exact h.elim
    · exact h.elim
theorem ok_fdiv : OpR X (binaryOp .FloorDiv) (r2 X.K (op2 .fdiv)) := by
  rintro pins s σ H x y v u Q I rx ry ⟨d, e, G, μ, g, r, r', h⟩
  cases d <;> cases e <;> try exact h.elim
  case int.int i j =>
    have e1 : x = _ := r; have e2 : y = _ := r'; subst e1; subst e2
    simp only [op2] at h
    split at h
    · rename_i hl
      exact op_fdivW pins s σ H _ _ v u Q I rx ry ⟨i, j, rfl, rfl, hl, P0.here g h rfl⟩
    · exact h.elim
theorem ok_mod : OpR X (binaryOp .Mod) (r2 X.K (op2 .mod)) := by
  rintro pins s σ H x y v u Q I rx ry ⟨d, e, G, μ, g, r, r', h⟩
  cases d <;> cases e <;> try exact h.elim
  case int.int i j =>
    have e1 : x = _ := r; have e2 : y = _ := r'; subst e1; subst e2
    simp only [op2] at h
    split at h
    · rename_i hl
      exact op_mod pins s σ H _ _ v u Q I rx ry ⟨i, j, rfl, rfl, hl, P0.here g h rfl⟩
    · exact h.elim
theorem ok_pow : OpR X (binaryOp .Pow) (r2 X.K (op2 .pow)) := by
  rintro pins s σ H x y v u Q I rx ry ⟨d, e, G, μ, g, r, r', h⟩
  cases d <;> cases e <;> try exact h.elim
  case int.int i j =>
    have e1 : x = _ := r; have e2 : y = _ := r'; subst e1; subst e2
    simp only [op2] at h
    split at h
    · rename_i hl
      exact op_pow pins s σ H _ _ v u Q I rx ry ⟨i, j, rfl, rfl, hl, P0.here g h rfl⟩
    · exact h.elim
theorem cmpD_dp {K : PySem.W.Frag} {H : Hp} {μ : List Addr} {G : Store} (g : RG K H μ G) {d e : D} {x y : V} {f : PyData → PyData → Bool} {b : Bool} (h : cmpD G d e f = some b) (rx : RD K H μ d x) (ry : RD K H μ e y) : ∃ p q, Dp K H x p ∧ Dp K H y q ∧ SeqAt.shaped p = true ∧ SeqAt.shaped q = true ∧ PySem.W.alike p q = true ∧ p ≠ .none ∧ f p q = b := by
  unfold cmpD at h
  split at h
  · rename_i p q h1 h2
    split at h
    · rename_i hs
      simp only [Bool.and_eq_true] at hs
      obtain ⟨s1, s2, s3, s4⟩ := hs
      exact ⟨p, q, pyD_dp g _ _ _ _ h1 rx, pyD_dp g _ _ _ _ h2 ry, s1, s2, s3, (fun e => by subst e; cases s4), Option.some.inj h⟩
    · cases h
  · cases h
def rCmpD (K : PySem.W.Frag) (f : PyData → PyData → Bool) : R2 := fun x y H Q => ∃ d e, Dp K H x d ∧ Dp K H y e ∧ SeqAt.shaped d = true ∧ SeqAt.shaped e = true ∧ PySem.W.alike d e = true ∧ d ≠ .none ∧ Q (.bl (f d e)) H
theorem room_cmp {n : Nat} {d e : PyData} (hu : n + 64 < cLine) (h : SeqAt.shaped d = true) : n + min d.depth e.depth < cLine := by
  have h := Bool.and_eq_true_iff.mp (show (d.canLay0 && decide (d.depth ≤ 64)) = true from h)
  have := of_decide_eq_true h.2
  have := Nat.min_le_left d.depth e.depth
  omega
theorem op_ltD (hu : X.A.units + 64 < cLine) : OpR X (compareOp .Lt) (rCmpD X.K PySem.W.dataLt) := by
  intro pins s σ H x y v u Q I rx ry h
  obtain ⟨d, e, hd, he, sd, se, ha, hn, q⟩ := h
  obtain ⟨as, r1⟩ := Dp.reads I d x v hd rx
  obtain ⟨bs, r2⟩ := Dp.reads I e y u he ry
  exact PySem.W.lt_data r1 r2 ha hn (room_cmp hu sd) ⟨.bl _, H, I, rfl, q⟩
theorem ok_lt (hu : X.A.units + 64 < cLine) : OpR X (compareOp .Lt) (r2 X.K (op2 .lt)) := by
  rintro pins s σ H x y v u Q I rx ry ⟨d, e, G, μ, g, r, r', h⟩
  by_cases hi : ∃ i j, d = .int i ∧ e = .int j
  · obtain ⟨i, j, rfl, rfl⟩ := hi
    have e1 : x = _ := r; have e2 : y = _ := r'; subst e1; subst e2
    exact op_lt pins s σ H _ _ v u Q I rx ry ⟨i, j, rfl, rfl, P0.here g h rfl⟩
  · have h : Post0 X.K H μ (okO (cmpD G d e PySem.W.dataLt) G) (Wn X.K Q) := by
      cases d <;> cases e <;> first | exact h | exact absurd ⟨_, _, rfl, rfl⟩ hi
    obtain ⟨b, hb, h⟩ := okO_some h
    obtain ⟨p, q, h1, h2, s1, s2, s3, s4, rfl⟩ := cmpD_dp g hb r r'
    exact op_ltD hu pins s σ H x y v u Q I rx ry ⟨p, q, h1, h2, s1, s2, s3, s4, P0.here g h rfl⟩
theorem op_leD (hu : X.A.units + 64 < cLine) : OpR X (compareOp .LtE) (rCmpD X.K (fun x y => !PySem.W.dataLt y x)) := by
  intro pins s σ H x y v u Q I rx ry h
  obtain ⟨d, e, hd, he, sd, se, ha, hn, q⟩ := h
  obtain ⟨as, r1⟩ := Dp.reads I d x v hd rx
  obtain ⟨bs, r2⟩ := Dp.reads I e y u he ry
  exact PySem.W.le_data r1 r2 ha hn (room_cmp hu sd) ⟨.bl _, H, I, rfl, q⟩
theorem ok_le (hu : X.A.units + 64 < cLine) : OpR X (compareOp .LtE) (r2 X.K (op2 .le)) := by
  rintro pins s σ H x y v u Q I rx ry ⟨d, e, G, μ, g, r, r', h⟩
  by_cases hi : ∃ i j, d = .int i ∧ e = .int j
  · obtain ⟨i, j, rfl, rfl⟩ := hi
    have e1 : x = _ := r; have e2 : y = _ := r'; subst e1; subst e2
    exact op_le pins s σ H _ _ v u Q I rx ry ⟨i, j, rfl, rfl, P0.here g h rfl⟩
  · have h : Post0 X.K H μ (okO (cmpD G d e (fun x y => !PySem.W.dataLt y x)) G) (Wn X.K Q) := by
      cases d <;> cases e <;> first | exact h | exact absurd ⟨_, _, rfl, rfl⟩ hi
    obtain ⟨b, hb, h⟩ := okO_some h
    obtain ⟨p, q, h1, h2, s1, s2, s3, s4, rfl⟩ := cmpD_dp g hb r r'
    exact op_leD hu pins s σ H x y v u Q I rx ry ⟨p, q, h1, h2, s1, s2, s3, s4, P0.here g h rfl⟩
theorem op_gtD (hu : X.A.units + 64 < cLine) : OpR X (compareOp .Gt) (rCmpD X.K (fun x y => PySem.W.dataLt y x)) := by
  intro pins s σ H x y v u Q I rx ry h
  obtain ⟨d, e, hd, he, sd, se, ha, hn, q⟩ := h
  obtain ⟨as, r1⟩ := Dp.reads I d x v hd rx
  obtain ⟨bs, r2⟩ := Dp.reads I e y u he ry
  exact PySem.W.gt_data r1 r2 ha hn (room_cmp hu sd) ⟨.bl _, H, I, rfl, q⟩
theorem ok_gt (hu : X.A.units + 64 < cLine) : OpR X (compareOp .Gt) (r2 X.K (op2 .gt)) := by
  rintro pins s σ H x y v u Q I rx ry ⟨d, e, G, μ, g, r, r', h⟩
  by_cases hi : ∃ i j, d = .int i ∧ e = .int j
  · obtain ⟨i, j, rfl, rfl⟩ := hi
    have e1 : x = _ := r; have e2 : y = _ := r'; subst e1; subst e2
    exact op_gt pins s σ H _ _ v u Q I rx ry ⟨i, j, rfl, rfl, P0.here g h rfl⟩
  · have h : Post0 X.K H μ (okO (cmpD G d e (fun x y => PySem.W.dataLt y x)) G) (Wn X.K Q) := by
      cases d <;> cases e <;> first | exact h | exact absurd ⟨_, _, rfl, rfl⟩ hi
    obtain ⟨b, hb, h⟩ := okO_some h
    obtain ⟨p, q, h1, h2, s1, s2, s3, s4, rfl⟩ := cmpD_dp g hb r r'
    exact op_gtD hu pins s σ H x y v u Q I rx ry ⟨p, q, h1, h2, s1, s2, s3, s4, P0.here g h rfl⟩
theorem op_geD (hu : X.A.units + 64 < cLine) : OpR X (compareOp .GtE) (rCmpD X.K (fun x y => !PySem.W.dataLt x y)) := by
  intro pins s σ H x y v u Q I rx ry h
  obtain ⟨d, e, hd, he, sd, se, ha, hn, q⟩ := h
  obtain ⟨as, r1⟩ := Dp.reads I d x v hd rx
  obtain ⟨bs, r2⟩ := Dp.reads I e y u he ry
  exact PySem.W.ge_data r1 r2 ha hn (room_cmp hu sd) ⟨.bl _, H, I, rfl, q⟩
theorem ok_ge (hu : X.A.units + 64 < cLine) : OpR X (compareOp .GtE) (r2 X.K (op2 .ge)) := by
  rintro pins s σ H x y v u Q I rx ry ⟨d, e, G, μ, g, r, r', h⟩
  by_cases hi : ∃ i j, d = .int i ∧ e = .int j
  · obtain ⟨i, j, rfl, rfl⟩ := hi
    have e1 : x = _ := r; have e2 : y = _ := r'; subst e1; subst e2
    exact op_ge pins s σ H _ _ v u Q I rx ry ⟨i, j, rfl, rfl, P0.here g h rfl⟩
  · have h : Post0 X.K H μ (okO (cmpD G d e (fun x y => !PySem.W.dataLt x y)) G) (Wn X.K Q) := by
      cases d <;> cases e <;> first | exact h | exact absurd ⟨_, _, rfl, rfl⟩ hi
    obtain ⟨b, hb, h⟩ := okO_some h
    obtain ⟨p, q, h1, h2, s1, s2, s3, s4, rfl⟩ := cmpD_dp g hb r r'
    exact op_geD hu pins s σ H x y v u Q I rx ry ⟨p, q, h1, h2, s1, s2, s3, s4, P0.here g h rfl⟩
theorem ok_eq (hu : X.A.units + 64 < cLine) : OpR X (compareOp .Eq) (r2 X.K (op2 .eq)) := by
  rintro pins s σ H x y v u Q I rx ry ⟨d, e, G, μ, g, r, r', h⟩
  obtain ⟨b, hb, h⟩ := okO_some h
  obtain ⟨p, q, h1, h2, s1, s2, rfl⟩ := eqD_dp g hb r r'
  exact op_eqD hu pins s σ H x y v u Q I rx ry ⟨p, q, h1, h2, s1, s2, P0.here g h rfl⟩
theorem ok_ne (hu : X.A.units + 64 < cLine) : OpR X (compareOp .NotEq) (r2 X.K (op2 .ne)) := by
  rintro pins s σ H x y v u Q I rx ry ⟨d, e, G, μ, g, r, r', h⟩
  obtain ⟨b, hb, h⟩ := okO_some h
  rw [Option.map_eq_some_iff] at hb
  obtain ⟨b', hb, rfl⟩ := hb
  obtain ⟨p, q, h1, h2, s1, s2, rfl⟩ := eqD_dp g hb r r'
  exact op_neD hu pins s σ H x y v u Q I rx ry ⟨p, q, h1, h2, s1, s2, P0.here g h rfl⟩
theorem non_iff {K : PySem.W.Frag} {H : Hp} {μ : List Addr} {d : D} {x : V} (r : RD K H μ d x) (h : d ≠ .non) : decide (x = V.non) = false := by
  refine decide_eq_false fun e => ?_
  subst e
  cases d with
  | non => exact h rfl
  | tup xs => obtain ⟨a, vs, e, _⟩ := r; cases e
  | ref n => obtain ⟨a, e, _⟩ := r; cases e
  | _ => cases r
theorem ok_is : OpR X (compareOp .Is) (r2 X.K (op2 .is)) := by
  rintro pins s σ H x y v u Q I rx ry ⟨d, e, G, μ, g, r, r', h⟩
  cases e with
  | non =>
    have e2 : y = _ := r'; subst e2
    refine op_isN pins s σ H _ _ v u Q I rx ry ⟨rfl, ?_⟩
    cases d with
    | non =>
      have e1 : x = _ := r; subst e1
      exact P0.here g h rfl
    | _ => rw [non_iff r (by intro z; cases z)]; exact P0.here g h rfl
  | bl b =>
    cases d with
    | bl a =>
      have e1 : x = _ := r; have e2 : y = _ := r'; subst e1; subst e2
      exact op_isBl pins s σ H _ _ v u Q I rx ry ⟨a, b, rfl, rfl, P0.here g h rfl⟩
    | _ => exact h.elim
  | _ => cases d <;> exact h.elim
theorem ok_isnot : OpR X (compareOp .IsNot) (r2 X.K (op2 .isnot)) := by
  rintro pins s σ H x y v u Q I rx ry ⟨d, e, G, μ, g, r, r', h⟩
  cases e with
  | non =>
    have e2 : y = _ := r'; subst e2
    refine op_notN pins s σ H _ _ v u Q I rx ry ⟨rfl, ?_⟩
    cases d with
    | non =>
      have e1 : x = _ := r; subst e1
      exact P0.here g h rfl
    | _ => rw [non_iff r (by intro z; cases z)]; exact P0.here g h rfl
  | bl b =>
    cases d with
    | bl a =>
      have e1 : x = _ := r; have e2 : y = _ := r'; subst e1; subst e2
      exact op_notBl pins s σ H _ _ v u Q I rx ry ⟨a, b, rfl, rfl, P0.here g h rfl⟩
    | _ => exact h.elim
  | _ => cases d <;> exact h.elim
end
end Cut
/-! More operations: in, items, slices, truth, built-ins, methods. -/
namespace Cut
open PySem PySem.Spec PyProof.Rows L2
variable [Tbl]
section
variable {X : Cx}
theorem sz_str (s : List Nat) : (⟨s.toArray⟩ : Str).length = s.length := by simp [Str.length]
theorem ok_in : OpR X (compareOp .In) (r2 X.K (op2 .in_)) := by
  rintro pins s σ H x y v u Q I rx ry ⟨d, e, G, μ, g, r, r', h⟩
  obtain ⟨b, hb, h⟩ := okO_some h
  have seq : ∀ xs, items e G = some xs → (if flatD d && xs.all flatD then some (xs.any fun y => eqF y d) else none) = some b → wpAny (model X.prog X.w) X.A (compareOp .In v u) (EP X pins σ Q) X.xe s := by
    intro xs hx hb
    split at hb
    · rename_i hf
      rw [Bool.and_eq_true] at hf
      cases hb
      obtain ⟨p, vs, rfl, hq, rs⟩ := items_rd g hx r'
      exact op_in_seq pins s σ H _ _ v u Q I rx ry ⟨p, vs, rfl, hq, flat_rd hf.1 r, flats_rd hf.2 rs, by
        show Q (.bl (inV x vs)) H
        unfold inV
        rw [anyF_rd hf.1 r hf.2 rs]
        exact P0.here g h rfl⟩
    · cases hb
  unfold inD at hb
  split at hb
  · rename_i c z
    cases hb
    have e1 : x = _ := r; have e2 : y = _ := r'; subst e1; subst e2
    exact op_in_sign pins s σ H _ _ v u Q I rx ry ⟨c, ⟨z.toArray⟩, rfl, rfl, P0.here g h rfl⟩
  · split at hb
    · rename_i xs hx
      exact seq xs hx hb
    · cases hb
theorem ok_notin : OpR X (compareOp .NotIn) (r2 X.K (op2 .notin)) := by
  rintro pins s σ H x y v u Q I rx ry ⟨d, e, G, μ, g, r, r', h⟩
  obtain ⟨b0, hb0, h⟩ := okO_some h
  rw [Option.map_eq_some_iff] at hb0
  obtain ⟨b, hb, rfl⟩ := hb0
  have seq : ∀ xs, items e G = some xs → (if flatD d && xs.all flatD then some (xs.any fun y => eqF y d) else none) = some b → wpAny (model X.prog X.w) X.A (compareOp .NotIn v u) (EP X pins σ Q) X.xe s := by
    intro xs hx hb
    split at hb
    · rename_i hf
      rw [Bool.and_eq_true] at hf
      cases hb
      obtain ⟨p, vs, rfl, hq, rs⟩ := items_rd g hx r'
      exact op_notIn_seq pins s σ H _ _ v u Q I rx ry ⟨p, vs, rfl, hq, flat_rd hf.1 r, flats_rd hf.2 rs, by
        show Q (.bl (!inV x vs)) H
        unfold inV
        rw [anyF_rd hf.1 r hf.2 rs]
        exact P0.here g h rfl⟩
    · cases hb
  unfold inD at hb
  split at hb
  · rename_i c z
    cases hb
    have e1 : x = _ := r; have e2 : y = _ := r'; subst e1; subst e2
    exact op_notIn_str pins s σ H _ _ v u Q I rx ry ⟨⟨#[c]⟩, ⟨z.toArray⟩, rfl, rfl, by
      rw [PySem.StrLaws.found_one]
      exact P0.here g h rfl⟩
  · split at hb
    · rename_i xs hx
      exact seq xs hx hb
    · cases hb
theorem ok_ix : IxR X (r2 X.K (op2 .ix)) := by
  rintro value slice pins s σ H x y v u Q I rx ry ⟨d, e, G, μ, g, r, r', h⟩ hs
  cases d <;> cases e <;> try exact h.elim
  case str.int z i =>
    have e1 : x = _ := r; have e2 : y = _ := r'; subst e1; subst e2
    simp only [op2] at h
    split at h
    · rename_i hl
      obtain ⟨b, hb, h⟩ := okD_some h
      rw [Option.map_eq_some_iff] at hb
      obtain ⟨c, hc, rfl⟩ := hb
      exact ix_str value slice pins s σ H _ _ v u Q I rx ry ⟨_, i, c, rfl, rfl, by rw [sz_str]; exact hl, hc, P0.here g h rfl⟩ hs
    · exact h.elim
  case tup.int xs i =>
    obtain ⟨a, vs, rfl, s1, rs⟩ := r
    have e2 : y = _ := r'; subst e2
    obtain ⟨b, hb, h⟩ := okD_some h
    obtain ⟨w, hw, rw'⟩ := rs.at hb
    exact ix_tup value slice pins s σ H _ _ v u Q I rx ry ⟨a, vs, i, w, rfl, rfl, s1, hw, P0.here g h rw'⟩ hs
  case ref.int n i =>
    obtain ⟨a, rfl, ma⟩ := r
    have e2 : y = _ := r'; subst e2
    simp only [op2] at h
    split at h
    · rename_i xs hx
      obtain ⟨vs, rs, sq, _⟩ := g.sq hx ma
      obtain ⟨b, hb, h⟩ := okD_some h
      obtain ⟨w, hw, rw'⟩ := rs.at hb
      exact ix_list value slice pins s σ H _ _ v u Q I rx ry ⟨a, vs, i, w, rfl, rfl, sq, hw, P0.here g h rw'⟩ hs
    · exact h.elim
def rSlD (K : PySem.W.Frag) : V → Option Int → Option Int → Hp → VK → Prop := fun x lo hi H Q => ∃ d G μ, RG K H μ G ∧ RD K H μ d x ∧ Post0 K H μ (opSl d lo hi G) fun d _ H' μ' => ∀ v, RD K H' μ' d v → Q v H'
theorem ok_sl : SlR X (rSlD X.K) := by
  rintro pins s σ H x v vl vu lo hi sl Q I rx hs pl pu ⟨d, G, μ, g, r, h⟩
  cases d <;> try exact h.elim
  case str z =>
    have e1 : x = _ := r; subst e1
    simp only [opSl] at h
    split at h
    · rename_i hl
      refine sl_str pins s σ H _ v vl vu lo hi sl Q I rx hs pl pu ⟨_, rfl, by rw [sz_str]; exact hl, ?_⟩
      refine P0.here g h ?_
      show V.str _ = V.str _
      congr 1
    · exact h.elim
  case tup xs =>
    obtain ⟨a, vs, rfl, s1, rs⟩ := r
    refine sl_tupA pins s σ H _ v vl vu lo hi sl Q I rx hs pl pu ⟨a, vs, rfl, s1, fun hw => ?_, fun _ => P0.newT g h (rs.cut lo hi)⟩
    have e : cutV vs lo hi = vs := by
      unfold cutV
      rw [hw.1, hw.2, List.drop_zero, Nat.sub_zero, List.take_length]
    exact P0.here g h ⟨a, vs, rfl, s1, by have := rs.cut lo hi; rw [e] at this; exact this⟩
  case ref n =>
    obtain ⟨a, rfl, ma⟩ := r
    simp only [opSl] at h
    split at h
    · rename_i xs hx
      obtain ⟨vs, rs, sq, _⟩ := g.sq hx ma
      exact sl_list pins s σ H _ v vl vu lo hi sl Q I rx hs pl pu ⟨a, vs, rfl, sq, (P0.newL g h (rs.cut lo hi)).2⟩
    · exact h.elim
theorem tru_rd {K : PySem.W.Frag} {H : Hp} {μ : List Addr} {G : Store} (g : RG K H μ G) {d : D} {x : V} {b : Bool} (h : truthy d G = some b) (r : RD K H μ d x) : TruV K x H b := by
  cases d with
  | non => have e1 : x = _ := r; subst e1; cases h; rfl
  | bl c => have e1 : x = _ := r; subst e1; cases h; rfl
  | int i => have e1 : x = _ := r; subst e1; cases h; rfl
  | str z =>
    have e1 : x = _ := r; subst e1
    simp only [truthy] at h
    split at h
    · rename_i hl
      cases h
      refine ⟨by rw [sz_str]; exact hl, ?_⟩
      rw [sz_str]
      cases z <;> simp
      all_goals omega
    · cases h
  | tup xs =>
    obtain ⟨a, vs, rfl, s1, rs⟩ := r
    cases h
    refine .inr (.inl ⟨vs, s1, ?_⟩)
    have := rs.len
    cases xs <;> cases vs <;> simp_all
  | ref n =>
    obtain ⟨a, rfl, ma⟩ := r
    simp only [truthy] at h
    split at h
    · rename_i xs hx
      cases h
      obtain ⟨vs, rs, sq, _⟩ := g.sq hx ma
      refine .inl ⟨vs, sq, ?_⟩
      have := rs.len
      cases xs <;> cases vs <;> simp_all
    · obtain ⟨kvs, hx, rfl⟩ := Option.map_eq_some_iff.mp h
      obtain ⟨ws, rk, e⟩ := g.dq hx ma
      refine .inr (.inr ⟨ws, e, ?_⟩)
      have := congrArg List.length rk.1
      rw [List.length_map, List.length_map] at this
      cases kvs <;> cases ws <;> simp_all
  | ty _ => cases h
theorem ok_neg : UnR X (unaryOp .USub) (r1 X.K (op1 .neg)) := by
  rintro pins s σ H x v Q I rx ⟨d, G, μ, g, r, h⟩
  cases d <;> try exact h.elim
  case int i =>
    have e1 : x = _ := r; subst e1
    exact un_neg pins s σ H _ v Q I rx ⟨i, rfl, P0.here g h rfl⟩

/-! ### built-ins -/
theorem RDs.nil {K : PySem.W.Frag} {H : Hp} {μ : List Addr} {vs : List V} (h : RDs K H μ [] vs) : vs = [] := h
theorem RDs.c1 {K : PySem.W.Frag} {H : Hp} {μ : List Addr} {d : D} {vs : List V} (h : RDs K H μ [d] vs) : ∃ v, vs = [v] ∧ RD K H μ d v := by
  obtain ⟨v, ws, e, r, rs⟩ := h
  exact ⟨v, by rw [e, rs.nil], r⟩
theorem RDs.c2 {K : PySem.W.Frag} {H : Hp} {μ : List Addr} {d e : D} {vs : List V} (h : RDs K H μ [d, e] vs) : ∃ v w, vs = [v, w] ∧ RD K H μ d v ∧ RD K H μ e w := by
  obtain ⟨v, ws, q, r, rs⟩ := h
  obtain ⟨w, q2, r2⟩ := RDs.c1 rs
  exact ⟨v, w, by rw [q, q2], r, r2⟩
theorem P0.b1 {g : D → Store → R D} {xs : List D} {G : Store} {K : PySem.W.Frag} {H : Hp} {μ : List Addr} {P : D → Store → Hp → List Addr → Prop} (h : Post0 K H μ (b1 g xs G) P) : ∃ d, xs = [d] ∧ Post0 K H μ (g d G) P := by
  match xs, h with
  | [], h => exact h.elim
  | [d], h => exact ⟨d, rfl, h⟩
  | _ :: _ :: _, h => exact h.elim
theorem P0.b2 {g : D → D → Store → R D} {xs : List D} {G : Store} {K : PySem.W.Frag} {H : Hp} {μ : List Addr} {P : D → Store → Hp → List Addr → Prop} (h : Post0 K H μ (b2 g xs G) P) : ∃ d e, xs = [d, e] ∧ Post0 K H μ (g d e G) P := by
  match xs, h with
  | [], h => exact h.elim
  | [d], h => exact h.elim
  | [d, e], h => exact ⟨d, e, rfl, h⟩
  | _ :: _ :: _ :: _, h => exact h.elim
theorem P0.b0 {g : Store → R D} {xs : List D} {G : Store} {K : PySem.W.Frag} {H : Hp} {μ : List Addr} {P : D → Store → Hp → List Addr → Prop} (h : Post0 K H μ (b0 g xs G) P) : xs = [] ∧ Post0 K H μ (g G) P := by
  match xs, h with
  | [], h => exact ⟨rfl, h⟩
  | _ :: _, h => exact h.elim
theorem ok_len : CallR X (.builtin "len") (rN X.K (bf .len)) := by
  rintro pins s σ H xs us Q I rs ⟨ds, G, μ, g, r0, h0⟩
  obtain ⟨d, rfl, h⟩ := P0.b1 (show Post0 X.K H μ (b1 _ ds G) _ from h0)
  clear h0
  obtain ⟨x, rfl, r⟩ := RDs.c1 r0
  clear r0
  cases d <;> try exact h.elim
  case str z =>
    have e1 : x = _ := r; subst e1
    simp only [lenD, tupD, lstD] at h
    split at h
    · rename_i hl
      exact call_len_str pins s σ H _ us Q I rs ⟨_, rfl, by rw [sz_str]; exact hl, by rw [sz_str]; exact P0.here g h rfl⟩
    · exact h.elim
  case tup ys =>
    obtain ⟨a, vs, rfl, s1, r⟩ := r
    exact call_len_seq pins s σ H _ us Q I rs ⟨a, vs, rfl, .inr s1, by rw [r.len]; exact P0.here g h rfl⟩
  case ref n =>
    obtain ⟨a, rfl, ma⟩ := r
    simp only [lenD, tupD, lstD] at h
    split at h
    · rename_i ys hx
      obtain ⟨vs, r, sq, _⟩ := g.sq hx ma
      exact call_len_seq pins s σ H _ us Q I rs ⟨a, vs, rfl, .inl sq, by rw [r.len]; exact P0.here g h rfl⟩
    · exact h.elim
theorem ok_int : CallR X (.type "int") (rN X.K (bf .int)) := by
  rintro pins s σ H xs us Q I rs ⟨ds, G, μ, g, r0, h0⟩
  obtain ⟨d, rfl, h⟩ := P0.b1 (show Post0 X.K H μ (b1 _ ds G) _ from h0)
  clear h0
  obtain ⟨x, rfl, r⟩ := RDs.c1 r0
  clear r0
  cases d <;> try exact h.elim
  case int i =>
    have e1 : x = _ := r; subst e1
    exact call_int1 pins s σ H _ us Q I rs (.inl ⟨i, rfl, P0.here g h rfl⟩)
  case bl i =>
    have e1 : x = _ := r; subst e1
    exact call_int1 pins s σ H _ us Q I rs (.inr ⟨i, rfl, P0.here g h rfl⟩)
theorem ok_tuple : CallR X (.type "tuple") (rN X.K (bf .tuple)) := by
  rintro pins s σ H xs us Q I rs ⟨ds, G, μ, g, r0, h0⟩
  obtain ⟨d, rfl, h⟩ := P0.b1 (show Post0 X.K H μ (b1 _ ds G) _ from h0)
  clear h0
  obtain ⟨x, rfl, r⟩ := RDs.c1 r0
  clear r0
  cases d <;> try exact h.elim
  case tup ys =>
    obtain ⟨a, vs, rfl, s1, r⟩ := r
    exact call_tuple_of pins s σ H _ us Q I rs ⟨a, vs, rfl, .inr ⟨s1, P0.here g h ⟨a, vs, rfl, s1, r⟩⟩⟩
  case ref n =>
    obtain ⟨a, rfl, ma⟩ := r
    simp only [lenD, tupD, lstD] at h
    split at h
    · rename_i ys hx
      obtain ⟨vs, r, sq, _⟩ := g.sq hx ma
      exact call_tuple_of pins s σ H _ us Q I rs ⟨a, vs, rfl, .inl ⟨sq, P0.newT g h r⟩⟩
    · exact h.elim
theorem rds_keys {K : PySem.W.Frag} {H : Hp} {μ : List Addr} : ∀ ks : List L2.Key, RDs K H μ (ks.map keyV) (ks.map kV)
  | [] => rfl
  | .inl i :: ks => ⟨_, _, rfl, rfl, rds_keys ks⟩
  | .inr x :: ks => ⟨_, _, rfl, (show V.str x = V.str ⟨x.cps.toList.toArray⟩ by simp), rds_keys ks⟩
theorem ok_list (hc : X.calm = true) : CallR X (.type "list") (rN X.K (bf .list)) := by
  rintro pins s σ H xs us Q I rs ⟨ds, G, μ, g, r0, h0⟩
  obtain ⟨d, rfl, h⟩ := P0.b1 (show Post0 X.K H μ (b1 _ ds G) _ from h0)
  clear h0
  obtain ⟨x, rfl, r⟩ := RDs.c1 r0
  clear r0
  cases d <;> try exact h.elim
  case tup ys =>
    obtain ⟨a, vs, rfl, s1, r⟩ := r
    exact call_list_of pins s σ H _ us Q I rs ⟨a, vs, rfl, .inr s1, (P0.newL g h r).2⟩
  case ref n =>
    obtain ⟨a, rfl, ma⟩ := r
    simp only [lenD, tupD, lstD] at h
    split at h
    · rename_i ys hx
      obtain ⟨vs, r, sq, _⟩ := g.sq hx ma
      exact call_list_of pins s σ H _ us Q I rs ⟨a, vs, rfl, .inl sq, (P0.newL g h r).2⟩
    · split at h
      · rename_i kvs hd
        obtain ⟨ws, rk, hH⟩ := g.dq hd ma
        have e1 : (kvs.map fun kv => keyV kv.1) = (ws.map (·.1)).map keyV := by rw [rk.1, List.map_map]; rfl
        have e2 : (ws.map fun kv => kV kv.1) = (ws.map (·.1)).map kV := by rw [List.map_map]; rfl
        rw [e1] at h
        refine call_listD hc pins s σ H _ us Q I rs ⟨a, ws, rfl, .inl hH, ?_⟩
        rw [e2]
        exact (P0.newL g h (rds_keys _)).2
      · exact h.elim
theorem ok_min (hc : X.calm = true) : CallR X (.builtin "min") (rN X.K (bf .min)) := by
  rintro pins s σ H xs us Q I rs ⟨ds, G, μ, g, r0, h0⟩
  obtain ⟨d, e, rfl, h⟩ := P0.b2 (show Post0 X.K H μ (b2 _ ds G) _ from h0)
  clear h0
  obtain ⟨x, y, rfl, r, r'⟩ := RDs.c2 r0
  clear r0
  cases d <;> cases e <;> try exact h.elim
  case int.int i j =>
    have e1 : x = _ := r; have e2 : y = _ := r'; subst e1; subst e2
    exact call_min2 hc pins s σ H _ us Q I rs ⟨i, j, rfl, P0.here g h rfl⟩
theorem ok_max (hc : X.calm = true) : CallR X (.builtin "max") (rN X.K (bf .max)) := by
  rintro pins s σ H xs us Q I rs ⟨ds, G, μ, g, r0, h0⟩
  obtain ⟨d, e, rfl, h⟩ := P0.b2 (show Post0 X.K H μ (b2 _ ds G) _ from h0)
  clear h0
  obtain ⟨x, y, rfl, r, r'⟩ := RDs.c2 r0
  clear r0
  cases d <;> cases e <;> try exact h.elim
  case int.int i j =>
    have e1 : x = _ := r; have e2 : y = _ := r'; subst e1; subst e2
    exact call_max2 hc pins s σ H _ us Q I rs ⟨i, j, rfl, P0.here g h rfl⟩
theorem kit_is (K : PySem.W.Frag) (a b : Ty) : PySem.W.kitOne K (.type a.name) (.type b.name) = some (isTy a b) := by
  cases a <;> cases b <;> exact kit_ty (by decide +kernel)
theorem kits_is (K : PySem.W.Frag) {H : Hp} {μ : List Addr} (a : Ty) : ∀ {ts : List D} {b : Bool} {vs : List V}, isTys a ts = some b → RDs K H μ ts vs → ∃ us, Paired ClsV vs us ∧ PySem.W.kitAny K (.type a.name) us = some b
  | [], b, vs, h, r => by rw [r.nil]; cases h; exact ⟨[], .nil, rfl⟩
  | t :: ts, b, vs, h, ⟨v, ws, e, r, rs⟩ => by
    cases t <;> try (cases h; done)
    case ty t =>
      simp only [isTys, Option.map_eq_some_iff] at h
      obtain ⟨b', h1, h2⟩ := h
      obtain ⟨us, p, k⟩ := kits_is K a h1 rs
      have e1 : v = _ := r
      subst e1; subst e
      refine ⟨.type t.name :: us, .cons (.ty _) p, ?_⟩
      unfold PySem.W.kitAny
      rw [kit_is]
      cases q : isTy a t with
      | true => rw [q] at h2; simp at h2; subst h2; rfl
      | false => rw [q] at h2; simp at h2; subst h2; exact k
theorem ty_rd {K : PySem.W.Frag} {H : Hp} {μ : List Addr} {G : Store} (g : RG K H μ G) {d : D} {x : V} {a : Ty} (h : tyOf d G = some a) (r : RD K H μ d x) : TyX K H x (.type a.name) := by
  cases d with
  | non => have e1 : x = _ := r; subst e1; cases h; exact .base .non
  | bl c => have e1 : x = _ := r; subst e1; cases h; exact .base (.bl _)
  | int i => have e1 : x = _ := r; subst e1; cases h; exact .base (.int _)
  | str z => have e1 : x = _ := r; subst e1; cases h; exact .base (.str _)
  | tup xs =>
    obtain ⟨a, vs, rfl, s1, rs⟩ := r
    cases h
    rcases s1 with (s1 | ⟨o, s1⟩) | ⟨o, its, n, h1, h2, _⟩
    · exact .base (.tup s1)
    · exact .fTuple s1
    · exact .kTuple h1 h2
  | ref n =>
    obtain ⟨a, rfl, ma⟩ := r
    simp only [tyOf] at h
    split at h
    · rename_i xs hx
      cases h
      obtain ⟨vs, rs, sq, _⟩ := g.sq hx ma
      rcases sq with (s1 | ⟨o, s1⟩) | ⟨o, its, n, h1, h2, _⟩
      · exact .base (.lst s1)
      · exact .base (.frz s1)
      · exact .kList h1 h2
    · obtain ⟨kvs, hx, rfl⟩ := Option.map_eq_some_iff.mp h
      obtain ⟨ws, _, e⟩ := g.dq hx ma
      exact .base (.dK e)
  | ty _ => cases h
theorem call_isiA {X : Cx} : CallR X (.builtin "isinstance") (fun xs H Q => ∃ (x : V) (tp : Addr) (cs : List V) (t : Value) (us : List Value) (b : Bool), xs = [x, .ref tp] ∧ SqT X.K H tp cs ∧ Paired ClsV cs us ∧ TyX X.K H x t ∧ PySem.W.kitAny X.K t us = some b ∧ Q (.bl b) H) := by
  intro pins s σ H xs us Q I r h
  obtain ⟨x, tp, cs, t, ws, b, rfl, hT, k, ty, e, q⟩ := h
  obtain ⟨u1, u2, rfl, r1, r2⟩ := vals2 r
  cases (show u2 = Value.ref tp from r2)
  obtain ⟨P, Z, p, hx⟩ := kit_of I r1 ty
  obtain ⟨its, rv, ⟨o, h1, h2, n, h3⟩, _⟩ := I.tuple hT
  have e3 := ClsV.all k rv
  subst e3
  obtain ⟨oc, od, dt, sl⟩ := o
  simp only at h2 h3
  subst h2 h3
  exact PySem.W.kia_tup Z I.kIn p h1 e hx fun tk => ⟨.bl b, H, I.tok tk, rfl, q⟩
theorem ok_isin : CallR X (.builtin "isinstance") (rN X.K (bf .isin)) := by
  rintro pins s σ H xs us Q I rs ⟨ds, G, μ, g, r0, h0⟩
  obtain ⟨d, e, rfl, h⟩ := P0.b2 (show Post0 X.K H μ (b2 _ ds G) _ from h0)
  clear h0
  obtain ⟨x, y, rfl, r, r'⟩ := RDs.c2 r0
  clear r0
  cases e <;> try exact h.elim
  case ty b =>
    obtain ⟨c, hc, h⟩ := okO_some (show Post0 X.K H μ (okO ((tyOf d G).map fun a => isTy a b) G) _ from h)
    rw [Option.map_eq_some_iff] at hc
    obtain ⟨a, ha, rfl⟩ := hc
    have e2 : y = _ := r'; subst e2
    exact call_isi pins s σ H _ us Q I rs ⟨x, _, _, _, _, rfl, .ty _, ty_rd g ha r, kit_is _ a b, P0.here g h rfl⟩
  case tup ts =>
    have h : Post0 X.K H μ (match tyOf d G with
      | some a => okO (isTys a ts) G
      | none => .stuck) _ := h
    split at h
    · rename_i a ha
      obtain ⟨c, hc, h⟩ := okO_some h
      obtain ⟨tp, cs, rfl, s1, rs'⟩ := r'
      obtain ⟨us', p, k⟩ := kits_is X.K a hc rs'
      exact call_isiA pins s σ H _ us Q I rs ⟨x, tp, cs, _, us', c, rfl, s1, p, ty_rd g ha r, k, P0.here g h rfl⟩
    · exact h.elim
end
end Cut
/-! Expressions. -/
namespace Cut
open PySem PySem.Spec PyProof.Rows L2
variable [Tbl] [Cur]
section
variable {X : Cx} {c : Ct}

theorem bind_ok {α β : Type} {r : R α} {f : α → Store → R β} {d : β} {G' : Store} (h : r.bind f = .ok d G') : ∃ a G, r = .ok a G ∧ f a G = .ok d G' := by
  cases r with
  | ok a G => exact ⟨a, G, rfl, h⟩
  | exc _ _ _ => cases h
  | stuck => cases h
theorem noExc_ok {α : Type} {r : R α} {d : α} {G' : Store} (h : noExc r = .ok d G') : r = .ok d G' := by
  cases r with
  | ok a G => exact h
  | exc _ _ _ => cases h
  | stuck => cases h
/-! ### binding of readings -/
theorem rE.k {d : D} {v : V} (h : ∀ H μ, RD c.K H μ d v) {σ : L2.St} {H : Hp} {Q : VK} (q : rE c (mK d) σ H Q) : tC v σ H Q := by
  obtain ⟨ρ, G, μ, re, rg, p⟩ := q
  exact p H μ (.refl _) (List.prefix_refl _) rg v (h H μ)
theorem rE.v {i : Nat} {σ : L2.St} {H : Hp} {Q : VK} (q : rE c (mV i) σ H Q) : tVar i σ H Q := by
  obtain ⟨ρ, G, μ, re, rg, p⟩ := q
  unfold mV at p
  split at p
  · rename_i d e
    obtain ⟨v, h1, h2⟩ := re.at_ i d e
    exact ⟨v, h1, p H μ (.refl _) (List.prefix_refl _) rg v h2⟩
  · exact p.elim
theorem rE.un {g : D → Store → R D} {f : ME} {σ : L2.St} {H : Hp} {Q : VK} (q : rE c (fun ρ G => (f ρ G).bind fun x G1 => noExc (g x G1)) σ H Q) : tUn (r1 c.K g) (rE c f) σ H Q := by
  obtain ⟨ρ, G, μ, re, rg, p⟩ := q
  refine ⟨ρ, G, μ, re, rg, p.bind.imp fun d G1 H1 μ1 x1 p1 g1 q1 v rv => ?_⟩
  exact ⟨d, G1, μ1, g1, rv, q1.no⟩
theorem rE.bin {g : D → D → Store → R D} {f f' : ME} {σ : L2.St} {H : Hp} {Q : VK} (q : rE c (fun ρ G => (f ρ G).bind fun x G1 => (f' ρ G1).bind fun y G2 => noExc (g x y G2)) σ H Q) : tOp (r2 c.K g) (rE c f) (rE c f') σ H Q := by
  obtain ⟨ρ, G, μ, re, rg, p⟩ := q
  refine ⟨ρ, G, μ, re, rg, p.bind.imp fun d G1 H1 μ1 x1 p1 g1 q1 v rv => ?_⟩
  refine ⟨ρ, G1, μ1, re.mono x1 p1, g1, q1.bind.imp fun e G2 H2 μ2 x2 p2 g2 q2 w rw' => ?_⟩
  exact ⟨d, e, G2, μ2, g2, rv.mono x2 p2, rw', q2.no⟩
theorem rA.nil {σ : L2.St} {H : Hp} {Q : List V → Hp → Prop} (q : rA c mNil σ H Q) : tNil σ H Q := by
  obtain ⟨ρ, G, μ, re, rg, p⟩ := q
  exact p H μ (.refl _) (List.prefix_refl _) rg [] rfl
theorem rA.cons {f : ME} {fs : MEs} {σ : L2.St} {H : Hp} {Q : List V → Hp → Prop} (q : rA c (mCons f fs) σ H Q) : tCons (rE c f) (rA c fs) σ H Q := by
  obtain ⟨ρ, G, μ, re, rg, p⟩ := q
  refine ⟨ρ, G, μ, re, rg, p.bind.imp fun d G1 H1 μ1 x1 p1 g1 q1 v rv => ?_⟩
  refine ⟨ρ, G1, μ1, re.mono x1 p1, g1, q1.bind.imp fun ds G2 H2 μ2 x2 p2 g2 q2 vs rvs => ?_⟩
  exact q2 H2 μ2 (.refl _) (List.prefix_refl _) g2 (v :: vs) ⟨v, vs, rfl, rv.mono x2 p2, rvs⟩
theorem rA.call {g : List D → Store → R D} {fs : MEs} {σ : L2.St} {H : Hp} {Q : VK} (q : rE c (mArgs (fun xs G => noExc (g xs G)) fs) σ H Q) : tCB (rN c.K g) (rA c fs) σ H Q := by
  obtain ⟨ρ, G, μ, re, rg, p⟩ := q
  refine ⟨ρ, G, μ, re, rg, p.bind.imp fun ds G1 H1 μ1 x1 p1 g1 q1 vs rvs => ?_⟩
  exact ⟨ds, G1, μ1, g1, rvs, q1.no⟩
theorem rE.tup {fs : MEs} {σ : L2.St} {H : Hp} {Q : VK} (q : rE c (mTup fs) σ H Q) : tTup (rA c fs) σ H Q := by
  obtain ⟨ρ, G, μ, re, rg, p⟩ := q
  refine ⟨ρ, G, μ, re, rg, p.bind.imp fun ds G1 H1 μ1 x1 p1 g1 q1 vs rvs => ?_⟩
  split at q1
  · rename_i hl
    exact ⟨by rw [rvs.len]; exact hl, fun a ha => P0.newT (Q := Q) g1 q1 rvs a ha⟩
  · exact q1.elim
theorem rE.dic0 {σ : L2.St} {H : Hp} {Q : VK} (q : rE c mDic0 σ H Q) : tDNewK σ H Q := by
  obtain ⟨ρ, G, μ, re, rg, p⟩ := q
  intro a ha
  exact p _ _ (.new ha) (List.prefix_append _ _) (rg.newD ha) _ ⟨a, rfl, by rw [← rg.len, List.getElem?_append_right (Nat.le_refl _), Nat.sub_self]; rfl⟩
theorem rE.lst {fs : MEs} {σ : L2.St} {H : Hp} {Q : VK} (q : rE c (mLst fs) σ H Q) : tLst (rA c fs) σ H Q := by
  obtain ⟨ρ, G, μ, re, rg, p⟩ := q
  refine ⟨ρ, G, μ, re, rg, p.bind.imp fun ds G1 H1 μ1 x1 p1 g1 q1 vs rvs => ?_⟩
  have q2 : Post0 c.K H1 μ1 (newL ds G1) (Wn c.K Q) := by
    unfold newL at q1 ⊢
    split
    · rename_i hl; rw [if_pos hl] at q1; exact q1
    · rename_i hl; rw [if_neg hl] at q1; exact q1
  exact P0.newL g1 q2 rvs
theorem rO.no {σ : L2.St} {H : Hp} {Q : Option Int → Hp → Prop} (q : rO c mNo σ H Q) : tNoPart σ H Q := by
  obtain ⟨ρ, G, μ, re, rg, p⟩ := q
  exact p H μ (.refl _) (List.prefix_refl _) rg
theorem rO.some {f : ME} {σ : L2.St} {H : Hp} {Q : Option Int → Hp → Prop} (q : rO c (mSome f) σ H Q) : tPart (rE c f) σ H Q := by
  obtain ⟨ρ, G, μ, re, rg, p⟩ := q
  refine ⟨ρ, G, μ, re, rg, p.bind.imp fun d G1 H1 μ1 x1 p1 g1 q1 v rv => ?_⟩
  cases d <;> try exact q1.elim
  case int i =>
    have e : v = _ := rv
    exact ⟨i, e, q1 H1 μ1 (.refl _) (List.prefix_refl _) g1⟩
theorem rE.sl {f : ME} {l h : MEo} {σ : L2.St} {H : Hp} {Q : VK} (q : rE c (mSl f l h) σ H Q) : tSl (rSlD c.K) (rE c f) (rO c l) (rO c h) σ H Q := by
  obtain ⟨ρ, G, μ, re, rg, p⟩ := q
  refine ⟨ρ, G, μ, re, rg, p.bind.imp fun d G1 H1 μ1 x1 p1 g1 q1 v rv => ?_⟩
  refine ⟨ρ, G1, μ1, re.mono x1 p1, g1, q1.bind.imp fun e G2 H2 μ2 x2 p2 g2 q2 => ?_⟩
  refine ⟨ρ, G2, μ2, (re.mono x1 p1).mono x2 p2, g2, q2.bind.imp fun e3 G3 H3 μ3 x3 p3 g3 q3 => ?_⟩
  exact ⟨d, G3, μ3, g3, (rv.mono x2 p2).mono x3 p3, q3.no⟩
theorem rds_rg {K : PySem.W.Frag} {H : Hp} {μ : List Addr} (a b : Int) : RDs K H μ (rgD a b) (rgV a b) := by
  unfold rgD rgV
  generalize List.range (b - a).toNat = l
  induction l with
  | nil => exact rfl
  | cons n l ih => exact ⟨_, _, rfl, rfl, ih⟩
theorem P0.rngV {K : PySem.W.Frag} {H : Hp} {μ : List Addr} {G : Store} {Q : VK} {t : Bool} {i j : Int} (g : RG K H μ G) (h : Post0 K H μ (rngVD t i j G) (Wn K Q)) : RgOk i j ∧ (if t then ∀ q, H q = none → Q (.ref q) (upd H q (.tup (rgV i j))) else ∀ q, H q = none → Q (.ref q) (upd H q (.lst (rgV i j)))) := by
  unfold rngVD at h
  split at h
  · rename_i hr
    refine ⟨hr, ?_⟩
    cases t with
    | true => simp only [if_true] at h ⊢; exact P0.newT g h (rds_rg i j)
    | false => simp only [Bool.false_eq_true, if_false] at h ⊢; exact (P0.newL g h (rds_rg i j)).2
  · exact h.elim
theorem rE.rng1 {t : Bool} {f : ME} {σ : L2.St} {H : Hp} {Q : VK} (q : rE c (mRng1D t f) σ H Q) : tRg1 (rE c f) σ H fun i n H1 => RgOk i n ∧ (if t then ∀ q, H1 q = none → Q (.ref q) (upd H1 q (.tup (rgV i n))) else ∀ q, H1 q = none → Q (.ref q) (upd H1 q (.lst (rgV i n)))) := by
  obtain ⟨ρ, G, μ, re, rg, p⟩ := q
  refine ⟨ρ, G, μ, re, rg, p.bind.imp fun d G1 H1 μ1 x1 p1 g1 q1 v rv => ?_⟩
  cases d <;> try exact q1.elim
  case int j =>
    have e1 : v = _ := rv
    subst e1
    exact ⟨j, rfl, P0.rngV (K := c.K) (Q := Q) g1 q1.no⟩
theorem rE.rng2 {t : Bool} {f1 f : ME} {σ : L2.St} {H : Hp} {Q : VK} (q : rE c (mRng2D t f1 f) σ H Q) : tRg2 (rE c f1) (rE c f) σ H fun i j H2 => RgOk i j ∧ (if t then ∀ q, H2 q = none → Q (.ref q) (upd H2 q (.tup (rgV i j))) else ∀ q, H2 q = none → Q (.ref q) (upd H2 q (.lst (rgV i j)))) := by
  obtain ⟨ρ, G, μ, re, rg, p⟩ := q
  refine ⟨ρ, G, μ, re, rg, p.bind.imp fun d G1 H1 μ1 x1 p1 g1 q1 v rv => ?_⟩
  refine ⟨ρ, G1, μ1, re.mono x1 p1, g1, q1.bind.imp fun d2 G2 H2 μ2 x2 p2 g2 q2 v2 rv2 => ?_⟩
  cases d <;> cases d2 <;> try exact q2.elim
  case int.int i j =>
    have e1 : v = _ := rv
    have e2 : v2 = _ := rv2
    subst e1; subst e2
    exact ⟨i, j, rfl, rfl, P0.rngV (K := c.K) (Q := Q) g2 q2.no⟩
theorem rE.rev {f : ME} {σ : L2.St} {H : Hp} {Q : VK} (q : rE c (mRev f) σ H Q) : tRevL c.K (rE c f) σ H Q := by
  obtain ⟨ρ, G, μ, re, rg, p⟩ := q
  refine ⟨ρ, G, μ, re, rg, p.bind.imp fun d G1 H1 μ1 x1 p1 g1 q1 v rv => ?_⟩
  have q1 := q1.no
  cases d <;> try exact q1.elim
  case ref n =>
    obtain ⟨a, rfl, ma⟩ := rv
    simp only [opRev] at q1
    split at q1
    · rename_i xs hx
      obtain ⟨vs, rs, sq, _⟩ := g1.sq hx ma
      exact ⟨a, vs, rfl, sq, (P0.newL g1 q1 rs.rev).2⟩
    · exact q1.elim

/-! ### truth -/
theorem rT.of {f : ME} {σ : L2.St} {H : Hp} {Q : Bool → Hp → Prop} (hK : c.K = X.K) (q : rT c f σ H Q) : rE c f σ H fun x H' => ∃ k, TruV X.K x H' k ∧ Q k H' := by
  obtain ⟨ρ, G, μ, re, rg, p⟩ := q
  refine ⟨ρ, G, μ, re, rg, p.imp fun d G1 H1 μ1 x1 p1 g1 q1 v rv => ?_⟩
  obtain ⟨b, hb, q1⟩ := q1
  exact ⟨b, hK ▸ tru_rd g1 hb rv, q1⟩
theorem pt_of {e : Expr} {f : ME} (hK : c.K = X.K) (h : PE X e (rE c f)) (he : ∀ whole, isTrue e X.env whole = (do let v ← whole; standAt e.pos; holding [v] (PySem.truthy v))) : PT X e (rT c f) :=
  PT.imp (pt_truth h he) fun σ H Q q => rT.of hK q
theorem rT.not {f : ME} {σ : L2.St} {H : Hp} {Q : Bool → Hp → Prop} (q : rT c (mUn .not f) σ H Q) : tNot (rT c f) σ H Q := by
  obtain ⟨ρ, G, μ, re, rg, p⟩ := q
  refine ⟨ρ, G, μ, re, rg, p.bind.imp fun d G1 H1 μ1 x1 p1 g1 q1 => ?_⟩
  have q1 := q1.no
  unfold op1 at q1
  simp only at q1
  split at q1
  · rename_i b hb
    obtain ⟨b', e, q2⟩ := q1 H1 μ1 (.refl _) (List.prefix_refl _) g1
    cases e
    exact ⟨b, hb, q2⟩
  · exact q1.elim
theorem rE.not {f : ME} {σ : L2.St} {H : Hp} {Q : VK} (hK : c.K = X.K) (q : rE c (mUn .not f) σ H Q) : tNotT X.K (rE c f) σ H Q := by
  obtain ⟨ρ, G, μ, re, rg, p⟩ := q
  refine ⟨ρ, G, μ, re, rg, p.bind.imp fun d G1 H1 μ1 x1 p1 g1 q1 v rv => ?_⟩
  have q1 := q1.no
  unfold op1 at q1
  simp only at q1
  split at q1
  · rename_i b hb
    exact ⟨b, hK ▸ tru_rd g1 hb rv, q1 H1 μ1 (.refl _) (List.prefix_refl _) g1 _ rfl⟩
  · exact q1.elim
theorem rT.and {f g : ME} {σ : L2.St} {H : Hp} {Q : Bool → Hp → Prop} (q : rT c (mAnd f g) σ H Q) : tAnd (rT c f) (rT c g) σ H Q := by
  obtain ⟨ρ, G, μ, re, rg, p⟩ := q
  refine ⟨ρ, G, μ, re, rg, p.bind.imp fun d G1 H1 μ1 x1 p1 g1 q1 => ?_⟩
  split at q1
  · rename_i hb
    exact ⟨true, hb, iteT (⟨ρ, G1, μ1, re.mono x1 p1, g1, q1⟩)⟩
  · rename_i hb
    obtain ⟨b, e, q2⟩ := q1 H1 μ1 (.refl _) (List.prefix_refl _) g1
    rw [hb] at e
    cases e
    exact ⟨false, hb, iteF (q2)⟩
  · exact q1.elim
theorem rT.or {f g : ME} {σ : L2.St} {H : Hp} {Q : Bool → Hp → Prop} (q : rT c (mOr f g) σ H Q) : tOr (rT c f) (rT c g) σ H Q := by
  obtain ⟨ρ, G, μ, re, rg, p⟩ := q
  refine ⟨ρ, G, μ, re, rg, p.bind.imp fun d G1 H1 μ1 x1 p1 g1 q1 => ?_⟩
  split at q1
  · rename_i hb
    exact ⟨false, hb, iteF (⟨ρ, G1, μ1, re.mono x1 p1, g1, q1⟩)⟩
  · rename_i hb
    obtain ⟨b, e, q2⟩ := q1 H1 μ1 (.refl _) (List.prefix_refl _) g1
    rw [hb] at e
    cases e
    exact ⟨true, hb, iteT (q2)⟩
  · exact q1.elim
theorem rE.and {f g : ME} {σ : L2.St} {H : Hp} {Q : VK} (hK : c.K = X.K) (q : rE c (mAnd f g) σ H Q) : tAndT X.K (rE c f) (rE c g) σ H Q := by
  obtain ⟨ρ, G, μ, re, rg, p⟩ := q
  refine ⟨ρ, G, μ, re, rg, p.bind.imp fun d G1 H1 μ1 x1 p1 g1 q1 v rv => ?_⟩
  split at q1
  · rename_i hb
    exact ⟨true, hK ▸ tru_rd g1 hb rv, iteT (⟨ρ, G1, μ1, re.mono x1 p1, g1, q1⟩)⟩
  · rename_i hb
    exact ⟨false, hK ▸ tru_rd g1 hb rv, iteF (q1 H1 μ1 (.refl _) (List.prefix_refl _) g1 v rv)⟩
  · exact q1.elim
theorem rE.or {f g : ME} {σ : L2.St} {H : Hp} {Q : VK} (hK : c.K = X.K) (q : rE c (mOr f g) σ H Q) : tOrT X.K (rE c f) (rE c g) σ H Q := by
  obtain ⟨ρ, G, μ, re, rg, p⟩ := q
  refine ⟨ρ, G, μ, re, rg, p.bind.imp fun d G1 H1 μ1 x1 p1 g1 q1 v rv => ?_⟩
  split at q1
  · rename_i hb
    exact ⟨false, hK ▸ tru_rd g1 hb rv, iteF (⟨ρ, G1, μ1, re.mono x1 p1, g1, q1⟩)⟩
  · rename_i hb
    exact ⟨true, hK ▸ tru_rd g1 hb rv, iteT (q1 H1 μ1 (.refl _) (List.prefix_refl _) g1 v rv)⟩
  · exact q1.elim
theorem rE.ite {f g h : ME} {σ : L2.St} {H : Hp} {Q : VK} (q : rE c (mIte f g h) σ H Q) : tIf (rT c f) (rE c g) (rE c h) σ H Q := by
  obtain ⟨ρ, G, μ, re, rg, p⟩ := q
  refine ⟨ρ, G, μ, re, rg, p.bind.imp fun d G1 H1 μ1 x1 p1 g1 q1 => ?_⟩
  split at q1
  · rename_i hb
    exact ⟨true, hb, iteT (⟨ρ, G1, μ1, re.mono x1 p1, g1, q1⟩)⟩
  · rename_i hb
    exact ⟨false, hb, iteF (⟨ρ, G1, μ1, re.mono x1 p1, g1, q1⟩)⟩
  · exact q1.elim
def tIfT (t ta tb : TT) : TT := fun σ H Q => t σ H fun c H1 => if c = true then ta σ H1 Q else tb σ H1 Q
theorem pt_ifExp {t a b : Expr} {pos : Pos} {tt ta tb : TT} (ht : PT X t tt) (ha : PT X a ta) (hb : PT X b tb) : PT X (.IfExp t a b pos) (tIfT tt ta tb) := by
  refine ⟨fun pins s σ H Q I h => ?_⟩
  show wpAny _ _ (do if ← isTrue t X.env (eval t X.env) then isTrue a X.env (eval a X.env) else isTrue b X.env (eval b X.env)) _ _ _
  refine wpAny_bind (thn (ht.run pins s σ H _ I h) fun d s1 ⟨H1, I1, q1⟩ => ?_)
  cases d with
  | true =>
    rw [if_pos rfl] at q1
    exact ha.run pins s1 σ H1 Q I1 q1
  | false =>
    rw [if_neg (by decide)] at q1
    exact hb.run pins s1 σ H1 Q I1 q1
theorem rT.ite {f g h : ME} {σ : L2.St} {H : Hp} {Q : Bool → Hp → Prop} (q : rT c (mIte f g h) σ H Q) : tIfT (rT c f) (rT c g) (rT c h) σ H Q := by
  obtain ⟨ρ, G, μ, re, rg, p⟩ := q
  refine ⟨ρ, G, μ, re, rg, p.bind.imp fun d G1 H1 μ1 x1 p1 g1 q1 => ?_⟩
  split at q1
  · rename_i hb
    exact ⟨true, hb, iteT (⟨ρ, G1, μ1, re.mono x1 p1, g1, q1⟩)⟩
  · rename_i hb
    exact ⟨false, hb, iteF (⟨ρ, G1, μ1, re.mono x1 p1, g1, q1⟩)⟩
  · exact q1.elim

/-! ### comparisons -/
def cmpOf : Op2 → Option CmpOp
  | .eq => some .Eq | .ne => some .NotEq | .lt => some .Lt | .le => some .LtE | .gt => some .Gt | .ge => some .GtE
  | .is => some .Is | .isnot => some .IsNot | .in_ => some .In | .notin => some .NotIn
  | _ => none
def binOf : Op2 → Option Operator
  | .add => some .Add | .sub => some .Sub | .mul => some .Mult | .fdiv => some .FloorDiv | .mod => some .Mod | .pow => some .Pow | .xor => some .BitXor
  | _ => none
theorem op2_bl {o : Op2} {p : CmpOp} (h : cmpOf o = some p) {a b d : D} {G G' : Store} (e : op2 o a b G = .ok d G') : ∃ k, d = .bl k := by
  cases o <;> (try (cases h; done))
  case eq | ne | in_ | notin =>
    simp only [op2, okO] at e
    split at e
    · cases e; exact ⟨_, rfl⟩
    · cases e
  all_goals
    simp only [op2] at e
    split at e <;> first | (cases e; done) | (cases e; exact ⟨_, rfl⟩) | (unfold okO at e; split at e <;> first | (cases e; done) | (cases e; exact ⟨_, rfl⟩))
theorem ok_cmp (hu : X.A.units + 64 < cLine) {o : Op2} {p : CmpOp} (h : cmpOf o = some p) : OpR X (compareOp p) (r2 X.K (op2 o)) := by
  cases o <;> first | (cases h; done) | (cases h; first | exact ok_lt hu | exact ok_le hu | exact ok_gt hu | exact ok_ge hu | exact ok_is | exact ok_isnot | exact ok_in | exact ok_notin | exact ok_eq hu | exact ok_ne hu)
theorem ok_bin {o : Op2} {p : Operator} (h : binOf o = some p) : OpR X (binaryOp p) (r2 X.K (op2 o)) := by
  cases o <;> first | (cases h; done) | (cases h; first | exact ok_add | exact ok_sub | exact ok_mul | exact ok_fdiv | exact ok_mod | exact ok_pow | exact ok_xor)
theorem rT.cmp {o : Op2} {p : CmpOp} (ho : cmpOf o = some p) {f g : ME} {σ : L2.St} {H : Hp} {Q : Bool → Hp → Prop} (q : rT c (mBin o f g) σ H Q) : tTest (tOp (r2 c.K (op2 o)) (rE c f) (rE c g)) σ H Q := by
  obtain ⟨ρ, G, μ, re, rg, p⟩ := q
  refine ⟨ρ, G, μ, re, rg, p.bind.imp fun d G1 H1 μ1 x1 p1 g1 q1 v rv => ?_⟩
  refine ⟨ρ, G1, μ1, re.mono x1 p1, g1, q1.bind.imp fun e G2 H2 μ2 x2 p2 g2 q2 w rw' => ?_⟩
  refine ⟨d, e, G2, μ2, g2, rv.mono x2 p2, rw', ?_⟩
  have q3 := q2.no
  cases q : op2 o d e G2 with
  | ok z G3 =>
    rw [q] at q3
    obtain ⟨k, rfl⟩ := op2_bl ho q
    intro H3 μ3 x3 p3 g3 u ru
    obtain ⟨b, e1, q4⟩ := q3 H3 μ3 x3 p3 g3
    cases e1
    exact ⟨k, ru, q4⟩
  | exc n fs G3 => rw [q] at q3; exact q3.elim
  | stuck => rw [q] at q3; exact q3.elim
theorem rE.chain {o o' : Op2} {p : CmpOp} (ho : cmpOf o = some p) {f g h : ME} {σ : L2.St} {H : Hp} {Q : VK} (q : rE c (mChain o o' f g h) σ H Q) : tChain (r2 c.K (op2 o)) (r2 c.K (op2 o')) (rE c f) (rE c g) (rE c h) σ H Q := by
  obtain ⟨ρ, G, μ, re, rg, p⟩ := q
  refine ⟨ρ, G, μ, re, rg, p.bind.imp fun d G1 H1 μ1 x1 p1 g1 q1 v rv => ?_⟩
  have re1 := re.mono x1 p1
  refine ⟨ρ, G1, μ1, re1, g1, q1.bind.imp fun e G2 H2 μ2 x2 p2 g2 q2 w rw' => ?_⟩
  have re2 := re1.mono x2 p2
  refine ⟨d, e, G2, μ2, g2, rv.mono x2 p2, rw', ?_⟩
  have q3 := q2.bind.no
  cases q : op2 o d e G2 with
  | ok z G3 =>
    rw [q] at q3
    obtain ⟨k, rfl⟩ := op2_bl ho q
    intro H3 μ3 x3 p3 g3 u ru
    have e1 : u = _ := ru
    refine ⟨k, e1, ?_⟩
    have q4 := q3 H3 μ3 x3 p3 g3
    cases k with
    | true =>
      rw [if_pos rfl]
      refine ⟨ρ, G3, μ3, re2.mono x3 p3, g3, q4.bind.imp fun a G4 H4 μ4 x4 p4 g4 q5 t rt => ?_⟩
      exact ⟨e, a, G4, μ4, g4, (rw'.mono x3 p3).mono x4 p4, rt, q5.no⟩
    | false =>
      rw [if_neg (by decide)]
      exact q4 H3 μ3 (.refl _) (List.prefix_refl _) g3 _ rfl
  | exc n fs G3 => rw [q] at q3; exact q3.elim
  | stuck => rw [q] at q3; exact q3.elim
theorem rT.chain {o o' : Op2} {p p' : CmpOp} (ho : cmpOf o = some p) (ho' : cmpOf o' = some p') {f g h : ME} {σ : L2.St} {H : Hp} {Q : Bool → Hp → Prop} (q : rT c (mChain o o' f g h) σ H Q) : tTest (tChain (r2 c.K (op2 o)) (r2 c.K (op2 o')) (rE c f) (rE c g) (rE c h)) σ H Q := by
  refine rE.chain ho ?_
  obtain ⟨ρ, G, μ, re, rg, p⟩ := q
  refine ⟨ρ, G, μ, re, rg, ?_⟩
  have bl : ∀ d G', mChain o o' f g h ρ G = .ok d G' → ∃ k, d = .bl k := by
    intro d G' e
    obtain ⟨x, G1, e1, e⟩ := bind_ok e
    obtain ⟨y, G2, e2, e⟩ := bind_ok e
    obtain ⟨z, G3, e3, e⟩ := bind_ok e
    split at e
    · obtain ⟨w, G4, e4, e⟩ := bind_ok e
      exact op2_bl ho' (noExc_ok e)
    · cases e; exact ⟨_, rfl⟩
    · cases e
  cases q : mChain o o' f g h ρ G with
  | ok z G3 =>
    rw [q] at p
    obtain ⟨k, rfl⟩ := bl _ _ q
    intro H3 μ3 x3 p3 g3 u ru
    obtain ⟨b, e1, q4⟩ := p H3 μ3 x3 p3 g3
    cases e1
    exact ⟨k, ru, q4⟩
  | exc n fs G3 => rw [q] at p; exact p
  | stuck => rw [q] at p; exact p
end
end Cut
/-! enumerate of a tuple. -/
namespace Cut
open PySem PySem.Spec PyProof.Rows L2
open AutoSeq1 (wpAny_loadPart')
theorem meets_enumerate_newT (l : Addr) (o : Obj) (items : Array Value) (n : Nat) (hc : o.cls = .type "tuple") (hd : o.data = .seq items n) :
    Meets (Builtin.«enumerate.__new__» ⟨[.type "enumerate", .ref l], []⟩) (fun _ R s => s.heap.get? l = some o ∧
      R (.ok (.ret (.ref (s.heap.push { cls := .type "tuple_iterator", data := .fields #[.ref l, .int 0 0] }).objs.size)))
        { s with heap := (s.heap.push { cls := .type "tuple_iterator", data := .fields #[.ref l, .int 0 0] }).push { cls := .type "enumerate", data := .fields #[.none, .bool false, .ref s.heap.objs.size, rawInt 0, .none, .none] } }) :=
  .of_wp fun prog w A R s h => by
    obtain ⟨hp, g, d, tk, os⟩ := s; obtain ⟨hl, h⟩ := h
    obtain ⟨cls, dct, dt, sl⟩ := o
    simp only at hc hd
    subst hc hd
    have hsub := sub_enumerate
    have hL : Heap.IsTuple (Shared.heap ⟨hp, g, d, tk, os⟩) l items := ⟨_, hl, rfl, n, rfl⟩
    wp_walk using wpAny_loadPart' hl
    refine wpAny_stack_any fun st => wpAny_pure ?_
    split
    · rename_i c _ _ _ _ _
      cases (c == Value.type "enumerate")
      · wp_walk using wpAny_loadPart' hl, wpAny_pyIter_tuple hL
        exact ⟨_, rfl, h⟩
      · wp_walk using wpAny_loadPart' hl, wpAny_pyIter_tuple hL
        exact ⟨_, rfl, h⟩
    · wp_walk using wpAny_loadPart' hl, wpAny_pyIter_tuple hL
      exact ⟨_, rfl, h⟩
theorem call_enumerate_tuple {prog : Program} {w : World} {A : Around} {E : Value → Shared → Prop} {s : Shared} {l : Addr} {items : Array Value} {Q : Value → Shared → Prop} (hL : s.heap.IsTuple l items)
    (h : ∀ h', IsEnum h' (s.heap.objs.size + 1) s.heap.objs.size 0 .none → h'.IsTupleIter s.heap.objs.size l 0 → h'.objs.size = s.heap.objs.size + 2 →
      (∀ b o, s.heap.get? b = some o → h'.get? b = some o) → Q (.ref (s.heap.objs.size + 1)) { s with heap := h' }) :
    wpAny (model prog w) A (call (.type "enumerate") [.ref l]) Q E s := by
  obtain ⟨o, hl, hc, n, hd⟩ := hL
  refine callType_new F.called_enumerate (by decide) (F.typeCall_enumerate_1 _) (F.newCall_enumerate_1 _) (fun obj => F.args_object_init_2 obj _) F.entry_enumerate_new
    (meets_enumerate_newT l o items n hc hd) ⟨hl, ?_⟩
  have hz : (s.heap.push { cls := .type "tuple_iterator", data := .fields #[.ref l, .int 0 0] }).objs.size = s.heap.objs.size + 1 := Heap.size_push ..
  show _ ∧ _
  rw [hz]
  have he : IsEnum ((s.heap.push { cls := .type "tuple_iterator", data := .fields #[.ref l, .int 0 0] }).push
      { cls := .type "enumerate", data := .fields #[.none, .bool false, .ref s.heap.objs.size, rawInt 0, .none, .none] }) (s.heap.objs.size + 1) s.heap.objs.size 0 .none := by
    have := Heap.get?_push_size (s.heap.push { cls := .type "tuple_iterator", data := .fields #[.ref l, .int 0 0] })
      (o := { cls := .type "enumerate", data := .fields #[.none, .bool false, .ref s.heap.objs.size, rawInt 0, .none, .none] }) rfl
    rw [hz] at this; exact this
  refine ⟨⟨_, he, rfl⟩, h _ he ⟨_, Heap.get?_push_of_some _ (Heap.get?_push_size _ rfl), rfl, rfl⟩ (by rw [Heap.size_push, hz]) fun b o x => Heap.get?_push_of_some _ (Heap.get?_push_of_some _ x)⟩
/-- the tuple at a as it stands at each turn, each item in a new pair -/
def IteT (K : PySem.W.Frag) (a : Addr) : L2.It :=
  ⟨fun i H => ∃ (xs : List V) (x : V), SqT K H a xs ∧ xs[i]? = some x, fun i H v H' => ∃ T x, v = .ref T ∧ H T = none ∧ H' = upd H T (.tup [.int (i : Nat), x]) ∧ ∀ xs, SqT K H a xs → xs[i]? = some x, fun i H => ∃ xs : List V, SqT K H a xs ∧ xs.length ≤ i⟩
theorem turn_enumT {P : Program} {w : World} {K : PySem.W.Frag} {elts : List Expr} {kk : Nat} {tpos : Pos} (a e it : Addr) :
    Turn P w K (.Tuple elts kk tpos) (IteT K a) [e, it] e (fun i h => (∃ old, IsEnum h e it ((i : Nat) : Int) old) ∧ h.IsTupleIter it a i ∧ e ≠ it) where
  mem := by simp
  obj := fun i h st b hb => by
    obtain ⟨⟨old, he⟩, ⟨o, ho, hc, hd⟩, _⟩ := st
    have e' : b = e ∨ b = it := by simpa using hb
    rcases e' with z | z
    · rw [z]; exact ⟨_, he, fun v q => nomatch q⟩
    · rw [z]; exact ⟨o, ho, fun v q => by rw [hd] at q; cases q⟩
  keep := fun i h h' st k => let ⟨⟨old, he⟩, hi, hne⟩ := st; ⟨⟨old, k e (by simp) _ he⟩, hi.at fun o q => k it (by simp) o q, hne⟩
  item := by
    intro X hP hw hK hc i pins s σ H E I hf st hg
    subst hP hw hK
    obtain ⟨⟨old, he⟩, hit, hne⟩ := st
    obtain ⟨xs, x, hq, hx⟩ := hg
    obtain ⟨its, rv, p, hz⟩ := I.tuple hq
    obtain ⟨u, hu, ru⟩ := rv.get hx
    have hel : e < s.heap.objs.size := Heap.lt_size he
    have hil : it < s.heap.objs.size := by obtain ⟨_, q, _⟩ := hit; exact Heap.lt_size q
    have hea : e ≠ a := fun z => by
      subst z
      obtain ⟨o, ho, hc', _⟩ := id p
      have e1 : some _ = some o := he.symm.trans ho
      cases e1
      exact absurd (Value.type.inj hc') (by decide)
    have hai : a ≠ it := fun z => by
      subst z
      obtain ⟨o, ho, hc', _⟩ := id p
      obtain ⟨o2, ho2, hc2, _⟩ := id hit
      have e1 : some o2 = some o := ho2.symm.trans ho
      cases e1
      rw [hc2] at hc'
      exact absurd (Value.type.inj hc') (by decide)
    have hlt : i < its.toArray.size := by simpa using (List.getElem?_eq_some_iff.mp hu).1
    refine wpAny_pyNext_enum_itemD (Draws.tuple (A := X.A.in1) (I.ok.hd hc) it a hai its.toArray) he ⟨hit, p⟩ hlt hne (by simp; exact ⟨hne, hea⟩) fun u' h' tk hu' ho hit' hT hsz hk => ?_
    have eu : u' = u := by
      have h1 : its[i]? = some u' := by simpa using hu'
      rw [hu] at h1
      exact (Option.some.inj h1).symm
    subst eu
    refine ⟨_, rfl, wpAny_letOwnedTupleGo_enum (s := { s with heap := h', toks := tk + 1 }) ho fun h'' he' sb => ?_⟩
    have hT2 : h''.get? s.heap.objs.size = some { cls := .type "tuple", data := .seq #[.int i tk, u'] } := (sb.2 _ (Nat.ne_of_gt hel)).trans hT
    have new : ObjOk X.prog X.w (upd H s.heap.objs.size (.tup [.int (i : Nat), x])) h'' s.heap.objs.size (.tup [.int (i : Nat), x]) :=
      ⟨by show 2 ≤ sizeLine; decide, [.int i tk, u'], .cons ⟨_, rfl⟩ (.cons ru .nil), ⟨_, hT2, rfl, _, rfl⟩⟩
    have I1 : Inv X pins σ (upd H s.heap.objs.size (.tup [.int (i : Nat), x])) { s with heap := h'', toks := tk + 1 } :=
      I.turnedNew (ch := [e, it]) (fun b ob hb q => (sb.2 b (fun z => hb (by simp [z]))).trans (hk b ob (fun z => hb (by simp [z])) (fun z => hb (by simp [z])) q)) hf (Nat.le_refl _) new
    refine ⟨.ref s.heap.objs.size, _, I1, rfl, ⟨_, x, rfl, I.hok.fresh (Nat.le_refl _), rfl, fun ys hy => by rw [I.tuple_inj hy hq]; exact hx⟩, ⟨⟨u', ?_⟩, hit'.1.at fun o q => (sb.2 it (Ne.symm hne)).trans q, hne⟩, fun b hb => ?_⟩
    · have e1 : ((i + 1 : Nat) : Int) = (i : Int) + 1 := by omega
      rw [e1]; exact he'
    · have hb' : b < s.heap.objs.size := by
        have e' : b = e ∨ b = it := by simpa using hb
        rcases e' with z | z
        · rw [z]; exact hel
        · rw [z]; exact hil
      rw [upd_ne (Nat.ne_of_lt hb')]
      exact (hf b hb).1
  done := by
    intro X hP hw hK hc i pins s σ H E I hf st hg
    subst hP hw hK
    obtain ⟨⟨old, he⟩, hit, hne⟩ := st
    obtain ⟨xs, hq, hx⟩ := hg
    obtain ⟨its, rv, p, hz⟩ := I.tuple hq
    obtain ⟨f0, f1, f2, f3, f4, f5⟩ := hf it (by simp)
    have hl := rv.length
    have hai : a ≠ it := fun z => by
      subst z
      obtain ⟨o, ho, hc', _⟩ := id p
      obtain ⟨o2, ho2, hc2, _⟩ := id hit
      have e1 : some o2 = some o := ho2.symm.trans ho
      cases e1
      rw [hc2] at hc'
      exact absurd (Value.type.inj hc') (by decide)
    -- the rest of the tuple is none: Draws with n := i for the first i items
    refine wpAny_pyNext_enum_endD (n := i) (P := fun _ _ => True) (St := fun j h => j = i ∧ h.IsTupleIter it a i ∧ h.IsTuple a its.toArray) (fp := [it, a]) ?_ he ⟨rfl, hit, p⟩ fun h' eb => ⟨rfl, I.turned (t' := s.toks) (fun b o hb q => eb b o hb q) f0 f1 f3 f4 f5⟩
    exact
      { live := fun _ _ st => let ⟨_, ⟨o, ho, _⟩, _⟩ := st; ⟨o, ho⟩
        frame := fun _ _ _ st hk => ⟨st.1, st.2.1.at fun o e => hk it (by simp) o e, st.2.2.at fun o e => hk a (by simp) o e⟩
        item := fun j s Q E hj st hQ => absurd st.1 (Nat.ne_of_lt hj)
        done := fun s Q E st hE => wpAny_nextOf_tuple_end (I.ok.hd hc) st.2.1 st.2.2 (by simp; omega) hE }
  self := fun A i s Q E st h => let ⟨⟨_, he⟩, _⟩ := st; wpAny_pyIter_enum he h
def iEnumA (K : PySem.W.Frag) (ta : TA) : TI := fun σ H R => ta σ H fun vs H1 => ∃ a xs, vs = [.ref a] ∧ ((SqL K H1 a xs ∧ R (Ite K a) H1) ∨ (SqT K H1 a xs ∧ R (IteT K a) H1))
theorem pi_enumA {X : Cx} {e : Expr} {ta : TA} {p pos tpos : Pos} {elts : List Expr} {kk : Nat} (hg : Gl X "enumerate") (hm : X.mg "enumerate" = none) (ha : PA X [e] ta) (hs : starEach [e] X.env = [(false, eval e X.env)] := by rfl) :
    PI X (.Tuple elts kk tpos) (.Call (.Name "enumerate" p) [e] [] pos) (iEnumA X.K ta) := by
  refine ⟨fun pins s σ H R I h => ?_⟩
  refine Call_ (ld_blt I hg hm boot_enumerate (PyProof.Rows.callWith_type1 (thn (ha.run pos pins s σ H _ I h) fun us s1 ⟨vs, H1, I1, r1, q1⟩ => ?_) hs rfl))
  obtain ⟨a, xs, ex, q1⟩ := q1
  subst ex
  cases r1 with
  | cons r rr =>
    cases rr
    cases r
    have fr : ∀ b ∈ [s1.heap.objs.size + 1, s1.heap.objs.size], FpOk X pins H1 b := fun b hb => by
      have e' : b = s1.heap.objs.size + 1 ∨ b = s1.heap.objs.size := by simpa using hb
      have hle : s1.heap.objs.size ≤ b := by
        rcases e' with z | z
        · rw [z]; exact Nat.le_add_right _ _
        · rw [z]; exact Nat.le_refl _
      exact I1.fpOk hle (I1.hok.fresh hle)
    rcases q1 with ⟨hq, q⟩ | ⟨hq, q⟩
    · obtain ⟨its, rv, p', hz⟩ := I1.list hq
      refine call_enumerate_list p'.isList fun h' he hit hsz hk => wpAny_pyIter_enum he ?_
      have I2 : Inv X pins σ H1 { s1 with heap := h' } := I1.kept (t' := s1.toks) hk
      exact ⟨s1.heap.objs.size + 1, [s1.heap.objs.size + 1, s1.heap.objs.size], _, _, H1, rfl, I2, turn_enum a (s1.heap.objs.size + 1) s1.heap.objs.size, ⟨⟨.none, he⟩, hit, Nat.succ_ne_self _⟩, fr, q⟩
    · obtain ⟨its, rv, p', hz⟩ := I1.tuple hq
      refine call_enumerate_tuple (show s1.heap.IsTuple a its.toArray from p') fun h' he hit hsz hk => wpAny_pyIter_enum he ?_
      have I2 : Inv X pins σ H1 { s1 with heap := h' } := I1.kept (t' := s1.toks) hk
      exact ⟨s1.heap.objs.size + 1, [s1.heap.objs.size + 1, s1.heap.objs.size], _, _, H1, rfl, I2, turn_enumT a (s1.heap.objs.size + 1) s1.heap.objs.size, ⟨⟨.none, he⟩, hit, Nat.succ_ne_self _⟩, fr, q⟩
end Cut
/-! What is walked; targets; comprehensions. -/
namespace Cut
open PySem PySem.Spec PyProof.Rows L2
variable [Tbl] [Cur]

/-- a walk of theirs does what a walk of ours tells -/
structure JV (K : PySem.W.Frag) (J : L2.It) (v : Itv) (H0 : Hp) (μ0 : List Addr) : Prop where
  go : ∀ (i : Nat) (H : Hp) (μ : List Addr) (G : Store) (d : D), XT H0 H → μ0 <+: μ → RG K H μ G → v.at i G = some (some d) → J.go i H ∧ ∀ x H', J.yld i H x H' → XT H H' ∧ RG K H' μ G ∧ RD K H' μ d x
  stop : ∀ (i : Nat) (H : Hp) (μ : List Addr) (G : Store), XT H0 H → μ0 <+: μ → RG K H μ G → v.at i G = some none → J.stop i H
def rI (c : Ct) (f : MI) : TI := fun σ H R => ∃ ρ G μ, RE c.K H μ ρ σ ∧ RG c.K H μ G ∧ Post c σ H μ (f ρ G) fun v _ H' μ' => ∀ J, JV c.K J v H' μ' → R J H'

section
variable {K : PySem.W.Frag} {H : Hp} {μ : List Addr} {G : Store}
/-- what a source is of theirs -/
inductive SV (K : PySem.W.Frag) (H : Hp) (μ : List Addr) : Src → V → Prop where
  | tup {a : Addr} {ds : List D} {vs : List V} (h : SqT K H a vs) (r : RDs K H μ ds vs) : SV K H μ (.fix ds) (.ref a)
  | lst {n : Nat} {a : Addr} (h : μ[n]? = some a) : SV K H μ (.cell n) (.ref a)
  | str (s : List Nat) : SV K H μ (.fix (s.map fun c => .str [c])) (.str ⟨s.toArray⟩)
theorem src_sv (g : RG K H μ G) {d : D} {s : Src} {v : V} (h : srcOf d G = some s) (r : RD K H μ d v) : SV K H μ s v := by
  cases d with
  | tup xs => obtain ⟨a, vs, rfl, s1, rs⟩ := r; cases h; exact .tup s1 rs
  | str z =>
    have e : v = _ := r
    subst e
    simp only [srcOf] at h
    split at h
    · cases h; exact .str z
    · cases h
  | ref n =>
    obtain ⟨a, rfl, ma⟩ := r
    simp only [srcOf, Option.map_eq_some_iff] at h
    obtain ⟨xs, _, rfl⟩ := h
    exact .lst ma
  | _ => cases h
theorem sqT_inj {X : Cx} {pins : List (Addr × Obj)} {σ : L2.St} {s : Shared} (I : Inv X pins σ H s) {a : Addr} {xs ys : List V} (h : SqT X.K H a xs) (h' : SqT X.K H a ys) : xs = ys := I.tuple_inj h h'
theorem cell_at {n i : Nat} {d : D} (h : (Src.cell n).at i G = some (some d)) : ∃ xs, G.lst? n = some xs ∧ xs[i]? = some d := by
  simp only [Src.at, Option.map_eq_some_iff] at h
  exact h
theorem cell_end {n i : Nat} (h : (Src.cell n).at i G = some none) : ∃ xs, G.lst? n = some xs ∧ xs.length ≤ i := by
  simp only [Src.at, Option.map_eq_some_iff] at h
  obtain ⟨xs, h1, h2⟩ := h
  exact ⟨xs, h1, List.getElem?_eq_none_iff.mp h2⟩
end
section
variable {X : Cx} {c : Ct} {tg e : Expr}
def iSeq (K : PySem.W.Frag) (te : TE) : TI := fun σ H R => te σ H fun x H1 => (∃ a, x = .ref a ∧ (∃ xs, SqL K H1 a xs) ∧ R (Itl K a) H1) ∨ (∃ a, x = .ref a ∧ (∃ xs, SqT K H1 a xs) ∧ R (Itt K a) H1) ∨ ∃ z, x = .str z ∧ R (Its z) H1
theorem pi_any {te : TE} (he : PE X e te) : PI X tg e (iSeq X.K te) := by
  refine ⟨fun pins s σ H R I h => thn (he.run pins s σ H _ I h) fun v s1 ⟨x, H1, I1, r1, q1⟩ => ?_⟩
  rcases q1 with ⟨a, ex, ⟨xs, hx⟩, q⟩ | ⟨a, ex, ⟨xs, hx⟩, q⟩ | ⟨z, ex, q⟩ <;> subst ex
  · cases r1
    obtain ⟨its, _, pl, _⟩ := I1.list hx
    exact wpAny_pyIter_list pl.isList (pi_one (tk := s1.toks) I1 _ (turn_list a _) ⟨_, Heap.get?_push_size _ rfl, rfl, rfl⟩ q)
  · cases r1
    obtain ⟨its, _, pl, _⟩ := I1.tuple hx
    exact wpAny_pyIter_tuple (show s1.heap.IsTuple a its.toArray from pl) (pi_one (tk := s1.toks) I1 _ (turn_tuple a _) ⟨_, Heap.get?_push_size _ rfl, rfl, rfl⟩ q)
  · obtain ⟨t, rfl⟩ := r1
    cases ha : z.cps.all (· < 128) with
    | false => exact wpAny_pyIter_wide ha (pi_one (tk := s1.toks) I1 _ (turn_str _ z t _ (.inr rfl)) ⟨_, Heap.get?_push_size _ rfl, rfl, rfl⟩ q)
    | true => exact wpAny_pyIter_ascii ha (pi_one (tk := s1.toks) I1 _ (turn_str _ z t _ (.inl rfl)) ⟨_, Heap.get?_push_size _ rfl, rfl, rfl⟩ q)

/-! ### each walk of ours by one of theirs -/
section
variable {K : PySem.W.Frag} {H0 : Hp} {μ0 : List Addr}
theorem jv_tup {a : Addr} {ds : List D} {vs : List V} (h : SqT K H0 a vs) (r : RDs K H0 μ0 ds vs) : JV K (Itt K a) (.one (.fix ds)) H0 μ0 where
  go := fun i H μ G d x p g e => by
    have e : ds[i]? = some d := Option.some.inj e
    obtain ⟨v, h1, h2⟩ := r.get e
    refine ⟨⟨vs, v, x.sqT h, h1⟩, fun y H' hy => ?_⟩
    obtain ⟨rfl, hy⟩ := hy
    have := hy vs (x.sqT h)
    rw [h1] at this
    cases this
    exact ⟨.refl _, g, h2.mono x p⟩
  stop := fun i H μ G x p g e => by
    have e : ds[i]? = none := Option.some.inj e
    exact ⟨vs, x.sqT h, by rw [r.len]; exact List.getElem?_eq_none_iff.mp e⟩
theorem jv_lst {n : Nat} {a : Addr} (h : μ0[n]? = some a) : JV K (Itl K a) (.one (.cell n)) H0 μ0 where
  go := fun i H μ G d x p g e => by
    obtain ⟨xs, h1, h2⟩ := cell_at e
    obtain ⟨vs, rs, sq, _⟩ := g.sq h1 (pre_get p h)
    obtain ⟨v, h3, h4⟩ := rs.get h2
    refine ⟨⟨vs, v, sq, h3⟩, fun y H' hy => ?_⟩
    obtain ⟨rfl, hy⟩ := hy
    have := hy vs sq
    rw [h3] at this
    cases this
    exact ⟨.refl _, g, h4⟩
  stop := fun i H μ G x p g e => by
    obtain ⟨xs, h1, h2⟩ := cell_end e
    obtain ⟨vs, rs, sq, _⟩ := g.sq h1 (pre_get p h)
    exact ⟨vs, sq, by rw [rs.len]; exact h2⟩
theorem jv_str (s : List Nat) : JV K (Its ⟨s.toArray⟩) (.one (.fix (s.map fun c => .str [c]))) H0 μ0 where
  go := fun i H μ G d x p g e => by
    have e : (s.map fun c => D.str [c])[i]? = some d := Option.some.inj e
    rw [List.getElem?_map, Option.map_eq_some_iff] at e
    obtain ⟨c, hc, rfl⟩ := e
    have hl := (List.getElem?_eq_some_iff.mp hc).1
    refine ⟨by show i < s.toArray.size; simpa using hl, fun y H' hy => ?_⟩
    obtain ⟨rfl, c', h1, rfl⟩ := hy
    have h1 : s.toArray[i]? = some c' := h1
    rw [List.getElem?_toArray, hc] at h1
    cases h1
    exact ⟨.refl _, g, rfl⟩
  stop := fun i H μ G x p g e => by
    have e : (s.map fun c => D.str [c])[i]? = none := Option.some.inj e
    rw [List.getElem?_eq_none_iff, List.length_map] at e
    show s.toArray.size ≤ i
    simpa using e
theorem jv_rng (lo : Int) (n : Nat) : JV K (Itr lo n) (.rng lo n) H0 μ0 where
  go := fun i H μ G d x p g e => by
    have e : (if i < n then some (D.int (lo + i)) else none) = some d := Option.some.inj e
    split at e
    · rename_i hi
      cases e
      refine ⟨hi, fun y H' hy => ?_⟩
      obtain ⟨rfl, rfl⟩ := hy
      exact ⟨.refl _, g, rfl⟩
    · cases e
  stop := fun i H μ G x p g e => by
    have e : (if i < n then some (D.int (lo + i)) else none) = none := Option.some.inj e
    split at e
    · cases e
    · rename_i hi
      exact Nat.le_of_not_lt hi
theorem pair_new {H : Hp} {μ : List Addr} {G : Store} {T : Addr} {d e : D} {v w : V} (g : RG K H μ G) (hT : H T = none) (r : RD K H μ d v) (r' : RD K H μ e w) : XT H (upd H T (.tup [v, w])) ∧ RG K (upd H T (.tup [v, w])) μ G ∧ RD K (upd H T (.tup [v, w])) μ (.tup [d, e]) (.ref T) :=
  ⟨.new hT, g.fresh hT, T, [v, w], rfl, .inl (.inl upd_same), v, [w], rfl, r.mono (.new hT) (List.prefix_refl _), w, [], rfl, r'.mono (.new hT) (List.prefix_refl _), rfl⟩
theorem jv_enum {n : Nat} {a : Addr} (h : μ0[n]? = some a) : JV K (Ite K a) (.enum (.cell n)) H0 μ0 where
  go := fun i H μ G d x p g e => by
    simp only [Itv.at, Option.map_eq_some_iff] at e
    obtain ⟨o, h1, d', h2, rfl⟩ := e
    subst h2
    obtain ⟨xs, h1, h2⟩ := cell_at h1
    obtain ⟨vs, rs, sq, _⟩ := g.sq h1 (pre_get p h)
    obtain ⟨v, h3, h4⟩ := rs.get h2
    refine ⟨⟨vs, v, sq, h3⟩, fun y H' hy => ?_⟩
    obtain ⟨T, z, rfl, hT, rfl, hy⟩ := hy
    have := hy vs sq
    rw [h3] at this
    cases this
    exact pair_new g hT rfl h4
  stop := fun i H μ G x p g e => by
    simp only [Itv.at, Option.map_eq_some_iff] at e
    obtain ⟨o, h1, q⟩ := e
    rw [Option.map_eq_none_iff] at q
    subst q
    obtain ⟨xs, h1, h2⟩ := cell_end h1
    obtain ⟨vs, rs, sq, _⟩ := g.sq h1 (pre_get p h)
    exact ⟨vs, sq, by rw [rs.len]; exact h2⟩
theorem jv_enumT {a : Addr} {ds : List D} {vs : List V} (h : SqT K H0 a vs) (r : RDs K H0 μ0 ds vs) : JV K (IteT K a) (.enum (.fix ds)) H0 μ0 where
  go := fun i H μ G d x p g e => by
    simp only [Itv.at, Src.at, Option.map_some] at e
    cases ed : ds[i]? with
    | none => rw [ed] at e; cases e
    | some d' =>
      rw [ed] at e
      cases e
      obtain ⟨v, h3, h4⟩ := (r.mono x p).get ed
      refine ⟨⟨vs, v, x.sqT h, h3⟩, fun y H' hy => ?_⟩
      obtain ⟨T, z, rfl, hT, rfl, hy⟩ := hy
      have := hy vs (x.sqT h)
      rw [h3] at this
      cases this
      exact pair_new g hT rfl h4
  stop := fun i H μ G x p g e => by
    simp only [Itv.at, Src.at, Option.map_some] at e
    cases ed : ds[i]? with
    | none => exact ⟨vs, x.sqT h, by rw [r.len]; exact List.getElem?_eq_none_iff.mp ed⟩
    | some d' => rw [ed] at e; cases e
theorem jv_zipT {a b : Addr} {ds es : List D} {vs ws : List V} (h1 : SqT K H0 a vs) (r1 : RDs K H0 μ0 ds vs) (h2 : SqT K H0 b ws) (r2 : RDs K H0 μ0 es ws) : JV K (RZ.ItzT K a b) (.zip (.fix ds) (.fix es)) H0 μ0 where
  go := fun i H μ G d x p g e => by
    simp only [Itv.at, Src.at] at e
    cases ed : ds[i]? with
    | none => rw [ed] at e; cases e
    | some d1 =>
      cases ee : es[i]? with
      | none => rw [ed, ee] at e; cases e
      | some d2 =>
        rw [ed, ee] at e
        cases e
        obtain ⟨v, g1, g2⟩ := r1.get ed
        obtain ⟨w, k1, k2⟩ := r2.get ee
        refine ⟨⟨vs, ws, v, w, x.sqT h1, x.sqT h2, g1, k1⟩, fun y H' hy => ?_⟩
        obtain ⟨T, z1, z2, rfl, hT, rfl, hy1, hy2⟩ := hy
        have e1 := hy1 vs (x.sqT h1)
        rw [g1] at e1; cases e1
        have e2 := hy2 ws (x.sqT h2)
        rw [k1] at e2; cases e2
        exact pair_new g hT (g2.mono x p) (k2.mono x p)
  stop := fun i H μ G x p g e => by
    simp only [Itv.at, Src.at] at e
    refine ⟨vs, ws, x.sqT h1, x.sqT h2, ?_⟩
    rw [r1.len, r2.len]
    cases ed : ds[i]? with
    | none => exact .inl (List.getElem?_eq_none_iff.mp ed)
    | some d1 =>
      cases ee : es[i]? with
      | none => exact .inr (List.getElem?_eq_none_iff.mp ee)
      | some d2 => rw [ed, ee] at e; cases e
theorem jv_zipL {m n : Nat} {a b : Addr} (h1 : μ0[m]? = some a) (h2 : μ0[n]? = some b) : JV K (Itz K a b) (.zip (.cell m) (.cell n)) H0 μ0 where
  go := fun i H μ G d x p g e => by
    simp only [Itv.at] at e
    cases ed : (Src.cell m).at i G with
    | none => rw [ed] at e; simp at e
    | some o1 =>
      cases ee : (Src.cell n).at i G with
      | none => rw [ed, ee] at e; cases o1 <;> simp at e
      | some o2 =>
        rw [ed, ee] at e
        cases o1 with
        | none => simp at e
        | some d1 =>
          cases o2 with
          | none => simp at e
          | some d2 =>
            cases e
            obtain ⟨xs, a1, a2⟩ := cell_at ed
            obtain ⟨ys, b1, b2⟩ := cell_at ee
            obtain ⟨vs, rs, sq, _⟩ := g.sq a1 (pre_get p h1)
            obtain ⟨ws, rs', sq', _⟩ := g.sq b1 (pre_get p h2)
            obtain ⟨v, g1, g2⟩ := rs.get a2
            obtain ⟨w, k1, k2⟩ := rs'.get b2
            refine ⟨⟨vs, ws, v, w, sq, sq', g1, k1⟩, fun y H' hy => ?_⟩
            obtain ⟨T, z1, z2, rfl, hT, rfl, hy1, hy2⟩ := hy
            have e1 := hy1 vs sq
            rw [g1] at e1; cases e1
            have e2 := hy2 ws sq'
            rw [k1] at e2; cases e2
            exact pair_new g hT g2 k2
  stop := fun i H μ G x p g e => by
    simp only [Itv.at] at e
    cases ed : (Src.cell m).at i G with
    | none => rw [ed] at e; simp at e
    | some o1 =>
      cases ee : (Src.cell n).at i G with
      | none => rw [ed, ee] at e; cases o1 <;> simp at e
      | some o2 =>
        have c1 : ∃ xs, G.lst? m = some xs ∧ xs[i]? = o1 := by
          simp only [Src.at, Option.map_eq_some_iff] at ed
          exact ed
        have c2 : ∃ xs, G.lst? n = some xs ∧ xs[i]? = o2 := by
          simp only [Src.at, Option.map_eq_some_iff] at ee
          exact ee
        obtain ⟨xs, a1, a2⟩ := c1
        obtain ⟨ys, b1, b2⟩ := c2
        obtain ⟨vs, rs, sq, _⟩ := g.sq a1 (pre_get p h1)
        obtain ⟨ws, rs', sq', _⟩ := g.sq b1 (pre_get p h2)
        refine ⟨vs, ws, sq, sq', ?_⟩
        rw [rs.len, rs'.len]
        rw [ed, ee] at e
        cases o1 with
        | none => exact .inl (List.getElem?_eq_none_iff.mp a2)
        | some d1 =>
          cases o2 with
          | none => exact .inr (List.getElem?_eq_none_iff.mp b2)
          | some d2 => simp at e
end
theorem rI.one {f : ME} {σ : L2.St} {H : Hp} {R : L2.It → Hp → Prop} (q : rI c (mOne f) σ H R) : iSeq c.K (rE c f) σ H R := by
  obtain ⟨ρ, G, μ, re, rg, p⟩ := q
  refine ⟨ρ, G, μ, re, rg, p.bind.imp fun d G1 H1 μ1 x1 p1 g1 q1 v rv => ?_⟩
  split at q1
  · rename_i s hs
    have q2 := q1 H1 μ1 (.refl _) (List.prefix_refl _) g1
    cases src_sv g1 hs rv with
    | tup h r => exact .inr (.inl ⟨_, rfl, ⟨_, h⟩, q2 _ (jv_tup h r)⟩)
    | @lst n a h =>
      cases d <;> first | (cases hs; done) | skip
      case str => simp only [srcOf] at hs; split at hs <;> cases hs
      case ref m =>
        simp only [srcOf, Option.map_eq_some_iff] at hs
        obtain ⟨xs, hx, e⟩ := hs
        cases e
        obtain ⟨vs, rs, sq, _⟩ := g1.sq hx h
        exact .inl ⟨_, rfl, ⟨_, sq⟩, q2 _ (jv_lst h)⟩
    | str s => exact .inr (.inr ⟨_, rfl, q2 _ (jv_str s)⟩)
  · exact q1.elim
theorem pi_mone {f : ME} (hK : c.K = X.K) (h : PE X e (rE c f)) : PI X tg e (rI c (mOne f)) := PI.imp (pi_any h) fun σ H R q => hK ▸ rI.one q
theorem pi_mzip {f f' : ME} {e2 : Expr} {p pos tpos : Pos} {elts : List Expr} {kk : Nat} (hK : c.K = X.K) (hg : Gl X "zip") (hm : X.mg "zip" = none) (h : PE X e (rE c f)) (h' : PE X e2 (rE c f')) (hs : starEach [e, e2] X.env = (false, eval e X.env) :: starEach [e2] X.env) (hs2 : starEach [e2] X.env = (false, eval e2 X.env) :: starEach [] X.env) : PI X (.Tuple elts kk tpos) (.Call (.Name "zip" p) [e, e2] [] pos) (rI c (mZip f f')) := by
  refine PI.imp (RZ.pi_zipA hg hm (pa_cons h (pa_cons h' pa_nil hs2) hs) hs (by rw [hs2]; rfl)) fun σ H R q => ?_
  obtain ⟨ρ, G, μ, re, rg, p⟩ := q
  refine ⟨ρ, G, μ, re, rg, p.bind.imp fun d G1 H1 μ1 x1 p1 g1 q1 v rv => ?_⟩
  refine ⟨ρ, G1, μ1, re.mono x1 p1, g1, q1.bind.imp fun d2 G2 H2 μ2 x2 p2 g2 q2 v2 rv2 => ?_⟩
  have rv' := rv.mono x2 p2
  split at q2
  · obtain ⟨a, vs, rfl, s1, rs⟩ := rv'
    obtain ⟨b, ws, rfl, s2, rs2⟩ := rv2
    have q3 := q2 H2 μ2 (.refl _) (List.prefix_refl _) g2
    rw [hK] at s1 s2 rs rs2
    refine ⟨a, b, vs, ws, rfl, .inr ⟨s1, s2, ?_⟩⟩
    rw [← hK]
    exact q3 _ (by rw [hK]; exact jv_zipT s1 rs s2 rs2)
  · split at q2
    · rename_i hl
      obtain ⟨a, rfl, ma⟩ := rv'
      obtain ⟨b, rfl, mb⟩ := rv2
      have q3 := q2 H2 μ2 (.refl _) (List.prefix_refl _) g2
      obtain ⟨xs, hx⟩ := Option.isSome_iff_exists.mp hl.1
      obtain ⟨ys, hy⟩ := Option.isSome_iff_exists.mp hl.2
      obtain ⟨vs, _, sq, _⟩ := g2.sq hx ma
      obtain ⟨ws, _, sq', _⟩ := g2.sq hy mb
      rw [hK] at sq sq'
      refine ⟨a, b, vs, ws, rfl, .inl ⟨sq, sq', ?_⟩⟩
      rw [← hK]
      exact q3 _ (jv_zipL ma mb)
    · exact q2.elim
  · exact q2.elim
theorem pi_menum {f : ME} {p pos tpos : Pos} {elts : List Expr} {kk : Nat} (hK : c.K = X.K) (hg : Gl X "enumerate") (hm : X.mg "enumerate" = none) (h : PE X e (rE c f)) (hs : starEach [e] X.env = (false, eval e X.env) :: starEach [] X.env) : PI X (.Tuple elts kk tpos) (.Call (.Name "enumerate" p) [e] [] pos) (rI c (mEnum f)) := by
  refine PI.imp (pi_enumA hg hm (pa_cons h pa_nil hs) hs) fun σ H R q => ?_
  obtain ⟨ρ, G, μ, re, rg, p⟩ := q
  refine ⟨ρ, G, μ, re, rg, p.bind.imp fun d G1 H1 μ1 x1 p1 g1 q1 v rv => ?_⟩
  split at q1
  · obtain ⟨a, vs, rfl, sq, rs⟩ := rv
    have q3 := q1 H1 μ1 (.refl _) (List.prefix_refl _) g1
    refine ⟨a, vs, rfl, .inr ⟨by rw [← hK]; exact sq, ?_⟩⟩
    rw [← hK]
    exact q3 _ (jv_enumT sq rs)
  · split at q1
    · rename_i hl
      obtain ⟨a, rfl, ma⟩ := rv
      have q3 := q1 H1 μ1 (.refl _) (List.prefix_refl _) g1
      obtain ⟨xs, hx⟩ := Option.isSome_iff_exists.mp hl
      obtain ⟨vs, _, sq, _⟩ := g1.sq hx ma
      rw [hK] at sq
      refine ⟨a, vs, rfl, .inl ⟨sq, ?_⟩⟩
      rw [← hK]
      exact q3 _ (jv_enum ma)
    · exact q1.elim
  · exact q1.elim
theorem pi_mrng1 {f : ME} {p pos : Pos} (hK : c.K = X.K) (hg : Gl X "range") (hm : X.mg "range" = none) (h : PE X e (rE c f)) (hs : starEach [e] X.env = (false, eval e X.env) :: starEach [] X.env) : PI X tg (.Call (.Name "range" p) [e] [] pos) (rI c (mRng1 f)) := by
  refine PI.imp (pi_range1 hg hm (pa_cons h pa_nil hs) hs) fun σ H R q => ?_
  obtain ⟨ρ, G, μ, re, rg, p⟩ := q
  refine ⟨ρ, G, μ, re, rg, p.bind.imp fun d G1 H1 μ1 x1 p1 g1 q1 v rv => ?_⟩
  cases d <;> try exact q1.elim
  case int j =>
    have e : v = _ := rv
    subst e
    simp only at q1
    split at q1
    · rename_i hj
      exact ⟨j, rfl, hj.1, hj.2, q1 H1 μ1 (.refl _) (List.prefix_refl _) g1 _ (jv_rng 0 _)⟩
    · exact q1.elim
theorem pi_mrng2 {f f' : ME} {e' : Expr} {p pos : Pos} (hK : c.K = X.K) (hg : Gl X "range") (hm : X.mg "range" = none) (h : PE X e (rE c f)) (h' : PE X e' (rE c f')) (hs : starEach [e, e'] X.env = (false, eval e X.env) :: starEach [e'] X.env) (hs' : starEach [e'] X.env = (false, eval e' X.env) :: starEach [] X.env) :
    PI X tg (.Call (.Name "range" p) [e, e'] [] pos) (rI c (mRng2 f f')) := by
  refine PI.imp (pi_range2 hg hm (pa_cons h (pa_cons h' pa_nil hs') hs) (by rw [hs, hs']; rfl) hs') fun σ H R q => ?_
  obtain ⟨ρ, G, μ, re, rg, p⟩ := q
  refine ⟨ρ, G, μ, re, rg, p.bind.imp fun d G1 H1 μ1 x1 p1 g1 q1 v rv => ?_⟩
  refine ⟨ρ, G1, μ1, re.mono x1 p1, g1, q1.bind.imp fun d' G2 H2 μ2 x2 p2 g2 q2 v' rv' => ?_⟩
  cases d <;> try exact q2.elim
  case int i =>
    cases d' <;> try exact q2.elim
    case int j =>
      have e : v = _ := rv
      have e' : v' = _ := rv'
      subst e; subst e'
      simp only at q2
      split at q2
      · rename_i hj
        exact ⟨i, j, rfl, hj, q2 H2 μ2 (.refl _) (List.prefix_refl _) g2 _ (jv_rng i _)⟩
      · exact q2.elim

/-! ### targets -/
def gsOf : List Nat → TGs
  | [] => gNil
  | i :: is => gCons (gName i) (gsOf is)
def gxOf (K : PySem.W.Frag) : List (Nat ⊕ List Nat) → TGs
  | [] => gNil
  | .inl i :: ts => gCons (gName i) (gxOf K ts)
  | .inr is :: ts => gCons (gTup K is.length (gsOf is)) (gxOf K ts)
def gOf (K : PySem.W.Frag) : Tg → TG
  | .v i => gName i
  | .tup is => gTup K is.length (gsOf is)
  | .nest ts => gTup K ts.length (gxOf K ts)
theorem binds_ok {K : PySem.W.Frag} {H : Hp} {μ : List Addr} : ∀ {is : List Nat} {ds : List D} {vs : List V} {ρ ρ' : Env} {σ : L2.St} {Q : L2.St → Hp → Prop}, bindN is ds ρ = some ρ' → RDs K H μ ds vs → RE K H μ ρ σ → (∀ σ', RE K H μ ρ' σ' → Q σ' H) → gsOf is vs σ H Q
  | [], [], _, _, _, _, _, h, r, re, q => by cases h; exact ⟨r, q _ re⟩
  | [], _ :: _, _, _, _, _, _, h, _, _, _ => by cases h
  | _ :: _, [], _, _, _, _, _, h, _, _, _ => by cases h
  | i :: is, d :: ds, _, _, _, _, _, h, ⟨v, ws, e, r, rs⟩, re, q => ⟨v, ws, e, binds_ok h rs (re.set r i) q⟩
theorem binds_len {is : List Nat} : ∀ {ds : List D} {ρ ρ' : Env}, bindN is ds ρ = some ρ' → ds.length = is.length := by
  induction is with
  | nil => intro ds ρ ρ' h; cases ds with | nil => rfl | cons _ _ => cases h
  | cons i is ih => intro ds ρ ρ' h; cases ds with | nil => cases h | cons d ds => rw [List.length_cons, List.length_cons, ih h]
theorem bindX_len {ts : List (Nat ⊕ List Nat)} : ∀ {ds : List D} {ρ ρ' : Env}, bindX ts ds ρ = some ρ' → ds.length = ts.length := by
  induction ts with
  | nil => intro ds ρ ρ' h; cases ds with | nil => rfl | cons _ _ => cases h
  | cons t ts ih =>
    intro ds ρ ρ' h
    cases ds with
    | nil => cases t <;> cases h
    | cons d ds =>
      cases t with
      | inl i => rw [List.length_cons, List.length_cons, ih h]
      | inr is =>
        cases d <;> try (cases h; done)
        case tup es =>
          unfold bindX at h
          cases e : bindN is es ρ with
          | none => rw [e] at h; cases h
          | some ρ1 => rw [e] at h; rw [List.length_cons, List.length_cons, ih h]
theorem bindX_ok {K : PySem.W.Frag} {H : Hp} {μ : List Addr} : ∀ {ts : List (Nat ⊕ List Nat)} {ds : List D} {vs : List V} {ρ ρ' : Env} {σ : L2.St} {Q : L2.St → Hp → Prop}, bindX ts ds ρ = some ρ' → RDs K H μ ds vs → RE K H μ ρ σ → (∀ σ', RE K H μ ρ' σ' → Q σ' H) → gxOf K ts vs σ H Q
  | [], [], _, _, _, _, _, h, r, re, q => by cases h; exact ⟨r, q _ re⟩
  | [], _ :: _, _, _, _, _, _, h, _, _, _ => by cases h
  | .inl _ :: _, [], _, _, _, _, _, h, _, _, _ => by cases h
  | .inr _ :: _, [], _, _, _, _, _, h, _, _, _ => by cases h
  | .inl i :: ts, d :: ds, _, _, _, _, _, h, ⟨v, ws, e, r, rs⟩, re, q => ⟨v, ws, e, bindX_ok h rs (re.set r i) q⟩
  | .inr is :: ts, d :: ds, _, ρ, _, _, _, h, ⟨v, ws, e, r, rs⟩, re, q => by
    cases d <;> try (cases h; done)
    case tup es =>
      unfold bindX at h
      cases e1 : bindN is es ρ with
      | none => rw [e1] at h; cases h
      | some ρ1 =>
        rw [e1] at h
        obtain ⟨a, vs', rfl, s, rs'⟩ := r
        exact ⟨_, ws, e, a, vs', rfl, s, by rw [rs'.len]; exact binds_len e1, binds_ok e1 rs' re fun σ' re' => bindX_ok h rs re' q⟩
theorem bind_to {K : PySem.W.Frag} {H : Hp} {μ : List Addr} {t : Tg} {d : D} {v : V} {ρ ρ' : Env} {σ : L2.St} {Q : L2.St → Hp → Prop} (h : t.bind d ρ = some ρ') (r : RD K H μ d v) (re : RE K H μ ρ σ) (q : ∀ σ', RE K H μ ρ' σ' → Q σ' H) : gOf K t v σ H Q := by
  cases t with
  | v i => cases h; exact q _ (re.set r i)
  | tup is =>
    cases d <;> try (cases h; done)
    case tup ds =>
      obtain ⟨a, vs, rfl, s, rs⟩ := r
      exact ⟨a, vs, rfl, s, by rw [rs.len]; exact binds_len h, binds_ok h rs re q⟩
  | nest ts =>
    cases d <;> try (cases h; done)
    case tup ds =>
      obtain ⟨a, vs, rfl, s, rs⟩ := r
      exact ⟨a, vs, rfl, s, by rw [rs.len]; exact bindX_len h, bindX_ok h rs re q⟩

/-! ### comprehensions -/
section
variable {α β : Type} {K : PySem.W.Frag} {H : Hp} {μ : List Addr} {σ : L2.St}
theorem Post0.imp {r : R α} {P P' : α → Store → Hp → List Addr → Prop} (h : Post0 K H μ r P) (k : ∀ a G' H' μ', XT H H' → μ <+: μ' → RG K H' μ' G' → P a G' H' μ' → P' a G' H' μ') : Post0 K H μ r P' := by
  cases r with
  | ok a G => exact Aft.imp h fun H' μ' => k a G H' μ'
  | exc n fs G => exact h
  | stuck => exact h
theorem Post0.bind {r : R α} {f : α → Store → R β} {P : β → Store → Hp → List Addr → Prop} (h : Post0 K H μ (r.bind f) P) : Post0 K H μ r fun a G' H' μ' => Post0 K H' μ' (f a G') P := by
  cases r with
  | ok a G => exact fun H' μ' x p g => Post0.mono x p h
  | exc n fs G => exact h
  | stuck => exact h
theorem Post0.any {ξ : XRel} {W : WX} {r : R α} {P : α → Store → Hp → List Addr → Prop} (h : Post0 K H μ r P) : Post ⟨K, ξ, W⟩ σ H μ r P := by
  cases r with
  | ok a G => exact h
  | exc n fs G => exact h.elim
  | stuck => exact h
end
abbrev Ct.quiet (c : Ct) : Ct := ⟨c.K, c.ξ, fun _ _ _ _ => False⟩
def tgIn (own : List Nat) : Tg → Bool
  | .v i => own.contains i
  | .tup is => is.all own.contains
  | .nest ts => ts.all fun t => match t with
    | .inl i => own.contains i
    | .inr is => is.all own.contains
theorem wipe_set {own : List Nat} {i : Nat} (h : i ∈ own) (σ : L2.St) (v : Option V) : L2.wipe (σ.set i v) own = L2.wipe σ own := by
  induction own with
  | nil => cases h
  | cons j own ih =>
    show (L2.wipe (σ.set i v) own).set j none = (L2.wipe σ own).set j none
    by_cases hj : i ∈ own
    · rw [ih hj]
    · have e : i = j := by
        rcases List.mem_cons.mp h with h | h
        · exact h
        · exact absurd h hj
      subst e
      have : ∀ (l : List Nat), i ∉ l → L2.wipe (σ.set i v) l = (L2.wipe σ l).set i v := by
        intro l
        induction l with
        | nil => intro _; rfl
        | cons k l ihl =>
          intro hk
          rw [List.mem_cons, not_or] at hk
          show (L2.wipe (σ.set i v) l).set k none = ((L2.wipe σ l).set k none).set i v
          rw [ihl hk.2, List.set_comm _ _ hk.1]
      rw [this own hj, List.set_set]
theorem wipe_wipe (own : List Nat) (σ : L2.St) : L2.wipe (L2.wipe σ own) own = L2.wipe σ own := by
  induction own with
  | nil => rfl
  | cons j own ih => 
    show (L2.wipe ((L2.wipe σ own).set j none) own).set j none = (L2.wipe σ own).set j none
    by_cases hj : j ∈ own
    · rw [wipe_set hj, ih]
    · have : ∀ (l : List Nat) (τ : L2.St), j ∉ l → L2.wipe (τ.set j none) l = (L2.wipe τ l).set j none := by
        intro l
        induction l with
        | nil => intro _ _; rfl
        | cons k l ihl =>
          intro τ hk
          rw [List.mem_cons, not_or] at hk
          show (L2.wipe (τ.set j none) l).set k none = ((L2.wipe τ l).set k none).set j none
          rw [ihl τ hk.2, List.set_comm _ _ hk.1]
      rw [this own _ hj, ih, List.set_set]
theorem gs_wipe {own : List Nat} : ∀ {is : List Nat}, is.all own.contains = true → ∀ {vs : List V} {σ : L2.St} {H : Hp} {Q : L2.St → Hp → Prop}, gsOf is vs σ H Q → gsOf is vs σ H fun σ' H' => L2.wipe σ' own = L2.wipe σ own ∧ Q σ' H'
  | [], _, vs, σ, H, Q, ⟨e, q⟩ => ⟨e, rfl, q⟩
  | i :: is, h, vs, σ, H, Q, ⟨v, r, e, q⟩ => by
    rw [List.all_cons, Bool.and_eq_true] at h
    have hi : i ∈ own := by simpa using h.1
    refine ⟨v, r, e, ?_⟩
    have := gs_wipe h.2 q
    rw [wipe_set hi] at this
    exact this
theorem gx_wipe {own : List Nat} {K : PySem.W.Frag} : ∀ {ts : List (Nat ⊕ List Nat)}, (ts.all fun t => match t with
    | .inl i => own.contains i
    | .inr is => is.all own.contains) = true → ∀ {vs : List V} {σ : L2.St} {H : Hp} {Q : L2.St → Hp → Prop}, gxOf K ts vs σ H Q → gxOf K ts vs σ H fun σ' H' => L2.wipe σ' own = L2.wipe σ own ∧ Q σ' H'
  | [], _, vs, σ, H, Q, ⟨e, q⟩ => ⟨e, rfl, q⟩
  | .inl i :: ts, h, vs, σ, H, Q, ⟨v, r, e, q⟩ => by
    rw [List.all_cons, Bool.and_eq_true] at h
    have hi : i ∈ own := by simpa using h.1
    refine ⟨v, r, e, ?_⟩
    have := gx_wipe h.2 q
    rw [wipe_set hi] at this
    exact this
  | .inr is :: ts, h, vs, σ, H, Q, ⟨v, r, e, a, xs, e1, s, hl, q⟩ => by
    rw [List.all_cons, Bool.and_eq_true] at h
    refine ⟨v, r, e, a, xs, e1, s, hl, ?_⟩
    have q1 := gs_wipe h.1 q
    have mono : ∀ {is : List Nat} {vs : List V} {σ : L2.St} {H : Hp} {Q Q' : L2.St → Hp → Prop}, (∀ σ H, Q σ H → Q' σ H) → gsOf is vs σ H Q → gsOf is vs σ H Q' := by
      intro is
      induction is with
      | nil => intro vs σ H Q Q' k ⟨e, q⟩; exact ⟨e, k _ _ q⟩
      | cons i is ih => intro vs σ H Q Q' k ⟨v, r, e, q⟩; exact ⟨v, r, e, ih k q⟩
    refine mono (fun σ' H' hq => ?_) q1
    obtain ⟨w, q2⟩ := hq
    have := gx_wipe h.2 q2
    rw [w] at this
    exact this
theorem g_wipe {own : List Nat} {K : PySem.W.Frag} {t : Tg} (h : tgIn own t = true) {v : V} {σ : L2.St} {H : Hp} {Q : L2.St → Hp → Prop} (q : gOf K t v σ H Q) : gOf K t v σ H fun σ' H' => L2.wipe σ' own = L2.wipe σ own ∧ Q σ' H' := by
  cases t with
  | v i => exact ⟨wipe_set (by simpa [tgIn] using h) _ _, q⟩
  | tup is =>
    obtain ⟨a, xs, e, s, hl, q⟩ := q
    exact ⟨a, xs, e, s, hl, gs_wipe h q⟩
  | nest ts =>
    obtain ⟨a, xs, e, s, hl, q⟩ := q
    exact ⟨a, xs, e, s, hl, gx_wipe h q⟩
def tOpt (c : Ct) : Option ME → TT
  | none => tYes
  | some m => rT c m
theorem rE.comp (hcc : Cur.at_ = none) {t : Tg} {mi : MI} {cd : Option ME} {el : ME} {own : List Nat} (ht : tgIn own t = true) {σ : L2.St} {H : Hp} {Q : VK} (q : rE c (mComp t mi cd el own) σ H Q) : tLc (rI c mi) (gOf c.K t) (tOpt c.quiet cd) (rE c.quiet el) own σ H Q := by
  obtain ⟨ρ, G, μ, re, rg, p⟩ := q
  refine ⟨ρ, G, μ, re, rg, p.bind.imp fun v G1 H1 μ1 x1 p1 g1 q1 J hJ D hD => ?_⟩
  have q2 := q1.bind.no
  clear q1 p
  have re1 := (re.mono x1 p1).wipe hcc own
  have len1 := g1.len
  refine ⟨fun i m H => ∃ G μ, XT (upd H1 D (.lst [])) H ∧ μ1 ++ [D] <+: μ ∧ RG c.K H μ G ∧ Post0 c.K H μ (compGo t v cd el (wipeE ρ own) G1.cs.length m i G) (fun _ _ H' _ => Q (.ref D) H'), ⟨loopFuel, _, _, .refl _, List.prefix_refl _, g1.new hD (show RDs c.K H1 μ1 [] [] from rfl), ?_⟩, ?_⟩
  · refine Post0.imp (Post0.mono (.new hD) (List.prefix_append _ _) q2) fun a G2 H2 μ2 x2 p2 g2 q3 => ?_
    refine q3 H2 μ2 (.refl _) (List.prefix_refl _) g2 _ ⟨D, rfl, pre_get p2 ?_⟩
    rw [← len1, List.getElem?_append_right (Nat.le_refl _), Nat.sub_self]; rfl
  rintro i m H2 ⟨G2, μ2, x2, p2, g2, q3⟩
  have xx : XT H1 H2 := (XT.new hD).trans x2
  have pp : μ1 <+: μ2 := (List.prefix_append _ _).trans p2
  have atD : ∀ {μ3 : List Addr}, μ2 <+: μ3 → μ3[G1.cs.length]? = some D := fun p3 => pre_get (p2.trans p3) (by rw [← len1, List.getElem?_append_right (Nat.le_refl _), Nat.sub_self]; rfl)
  cases m with
  | zero => exact q3.elim
  | succ m =>
    unfold compGo at q3
    cases hv : v.at i G2 with
    | none => rw [hv] at q3; exact q3.elim
    | some o =>
      cases o with
      | none =>
        rw [hv] at q3
        exact .inl ⟨hJ.stop i H2 μ2 G2 xx pp g2 hv, q3 H2 μ2 (.refl _) (List.prefix_refl _) g2⟩
      | some d =>
        rw [hv] at q3
        obtain ⟨go, yl⟩ := hJ.go i H2 μ2 G2 d xx pp g2 hv
        refine .inr ⟨go, fun H' => ∃ G μ, XT (upd H1 D (.lst [])) H' ∧ μ1 ++ [D] <+: μ ∧ RG c.K H' μ G ∧ Post0 c.K H' μ (compGo t v cd el (wipeE ρ own) G1.cs.length m (i + 1) G) (fun _ _ H' _ => Q (.ref D) H'), fun H' h => ⟨m, Nat.lt_succ_self m, h⟩, fun x H3 hx => ?_⟩
        obtain ⟨x3, g3, rx⟩ := yl x H3 hx
        simp only at q3
        cases hb : t.bind d (wipeE ρ own) with
        | none => rw [hb] at q3; exact q3.elim
        | some ρ1 =>
          rw [hb] at q3
          simp only at q3
          have q4 := Post0.mono x3 (List.prefix_refl _) q3
          have step : ∀ (σ2 : L2.St), RE c.K H3 μ2 ρ1 σ2 → ∀ (b : Bool) (H4 : Hp) (μ4 : List Addr) (G4 : Store), XT H3 H4 → μ2 <+: μ4 → RG c.K H4 μ4 G4 →
              Post0 c.K H4 μ4 (if b = true then (el ρ1 G4).bind fun x G5 => (match G5.lst? G1.cs.length with
                | some ys => if G5.lim ≤ G1.cs.length ∧ ys.length < sizeLine then compGo t v cd el (wipeE ρ own) G1.cs.length m (i + 1) (G5.put G1.cs.length (.lst (ys ++ [x]))) else .stuck
                | none => .stuck) else compGo t v cd el (wipeE ρ own) G1.cs.length m (i + 1) G4) (fun _ _ H' _ => Q (.ref D) H') →
              if b = true then rE c.quiet el σ2 H4 fun y H5 => ∃ acc, H5 D = some (.lst acc) ∧ acc.length < sizeLine ∧
                ∃ G μ, XT (upd H1 D (.lst [])) (upd H5 D (.lst (acc ++ [y]))) ∧ μ1 ++ [D] <+: μ ∧ RG c.K (upd H5 D (.lst (acc ++ [y]))) μ G ∧ Post0 c.K (upd H5 D (.lst (acc ++ [y]))) μ (compGo t v cd el (wipeE ρ own) G1.cs.length m (i + 1) G) (fun _ _ H' _ => Q (.ref D) H')
              else ∃ G μ, XT (upd H1 D (.lst [])) H4 ∧ μ1 ++ [D] <+: μ ∧ RG c.K H4 μ G ∧ Post0 c.K H4 μ (compGo t v cd el (wipeE ρ own) G1.cs.length m (i + 1) G) (fun _ _ H' _ => Q (.ref D) H') := by
            intro σ2 re2 b H4 μ4 G4 x4 p4 g4 q5
            cases b with
            | false => exact iteF ⟨G4, μ4, (x2.trans x3).trans x4, p2.trans p4, g4, q5⟩
            | true =>
              refine iteT ⟨ρ1, G4, μ4, re2.mono x4 p4, g4, Post0.any ((Post0.bind q5).imp fun d' G5 H5 μ5 x5 p5 g5 q6 y ry => ?_)⟩
              have mD := atD (p4.trans p5)
              split at q6
              · rename_i ys hys
                split at q6
                · rename_i hl
                  obtain ⟨vs, rvs, _, hH⟩ := g5.sq hys mD
                  have hD5 := hH hl.1
                  refine ⟨vs, hD5, by rw [rvs.len]; exact hl.2, _, μ5, (((x2.trans x3).trans x4).trans x5).trans (.lst hD5), (p2.trans p4).trans p5, g5.put hl.1 mD hD5 (rvs.app (.one ry)), ?_⟩
                  exact Post0.mono (.lst hD5) (List.prefix_refl _) q6
                · exact q6.elim
              · exact q6.elim
          have key := g_wipe (own := own) ht (bind_to (Q := fun σ2 H4 => tOpt c.quiet cd σ2 H4 fun b H5 => if b = true then rE c.quiet el σ2 H5 fun y H6 => ∃ acc, H6 D = some (.lst acc) ∧ acc.length < sizeLine ∧
                ∃ G μ, XT (upd H1 D (.lst [])) (upd H6 D (.lst (acc ++ [y]))) ∧ μ1 ++ [D] <+: μ ∧ RG c.K (upd H6 D (.lst (acc ++ [y]))) μ G ∧ Post0 c.K (upd H6 D (.lst (acc ++ [y]))) μ (compGo t v cd el (wipeE ρ own) G1.cs.length m (i + 1) G) (fun _ _ H' _ => Q (.ref D) H')
              else ∃ G μ, XT (upd H1 D (.lst [])) H5 ∧ μ1 ++ [D] <+: μ ∧ RG c.K H5 μ G ∧ Post0 c.K H5 μ (compGo t v cd el (wipeE ρ own) G1.cs.length m (i + 1) G) (fun _ _ H' _ => Q (.ref D) H'))
            hb rx ((re1.mono xx pp).mono x3 (List.prefix_refl _)) fun σ2 re2 => ?_)
          · simp only [wipe_wipe] at key
            exact key
          · cases cd with
            | none => exact step σ2 re2 true H3 μ2 G2 (.refl _) (List.prefix_refl _) g3 q4
            | some mm =>
              refine ⟨ρ1, G2, μ2, re2, g3, Post0.any ((Post0.bind (Post0.bind q4)).imp fun d' G5 H5 μ5 x5 p5 g5 q6 => ?_)⟩
              split at q6
              · rename_i b hbb
                exact ⟨b, hbb, step σ2 re2 b H5 μ5 G5 x5 p5 g5 (q6 H5 μ5 (.refl _) (List.prefix_refl _) g5)⟩
              · exact q6.elim
end
end Cut
/-! Statements. -/
namespace Cut
open PySem PySem.Spec PyProof.Rows L2
variable [Tbl] [Cur]
def PostS (c : Ct) (D : Ends) (H : Hp) (μ : List Addr) (r : RS) : Prop := match r with
  | .nx ρ' G' => Aft c.K H μ G' fun H' μ' => ∀ σ', RE c.K H' μ' ρ' σ' → D.nx σ' H'
  | .rt d G' => Aft c.K H μ G' fun H' μ' => ∀ v, RD c.K H' μ' d v → D.rt v H'
  | .bk ρ' G' => Aft c.K H μ G' fun H' μ' => ∀ σ', RE c.K H' μ' ρ' σ' → D.bk σ' H'
  | .ct ρ' G' => Aft c.K H μ G' fun H' μ' => ∀ σ', RE c.K H' μ' ρ' σ' → D.ct σ' H'
  | .exc n fs ρ' G' => Aft c.K H μ G' fun H' μ' => ∀ σ' cls dd, RE c.K H' μ' ρ' σ' → c.ξ n fs H' μ' cls dd → c.W cls dd σ' H'
  | .stuck => False
def rS (c : Ct) (g : MS) : TS := fun D σ H => ∃ ρ G μ, RE c.K H μ ρ σ ∧ RG c.K H μ G ∧ PostS c D H μ (g ρ G)
section
variable {c : Ct} {D : Ends} {H H1 : Hp} {μ μ1 : List Addr} {σ : L2.St} {ρ : Env} {G : Store}
theorem PostS.mono {r : RS} (x : XT H H1) (p : μ <+: μ1) (h : PostS c D H μ r) : PostS c D H1 μ1 r := by
  cases r with
  | stuck => exact h
  | _ => exact Aft.mono x p h
theorem PostS.ofR {α : Type} {r : R α} {k : α → Store → RS} (re : RE c.K H μ ρ σ) (h : PostS c D H μ (RS.ofR r ρ k)) : Post c σ H μ r fun a G' H' μ' => PostS c D H' μ' (k a G') := by
  cases r with
  | ok a G' => exact fun H' μ' x p g => PostS.mono x p h
  | exc n fs G' => exact fun H' μ' x p g cls dd hx => h H' μ' x p g σ cls dd (re.mono x p) hx
  | stuck => exact h
theorem Aft.here {P : Hp → List Addr → Prop} {K : PySem.W.Frag} (g : RG K H μ G) (h : Aft K H μ G P) : P H μ := h H μ (.refl _) (List.prefix_refl _) g

theorem rS.nil (q : rS c sPass D σ H) : tNext D σ H := by
  obtain ⟨ρ, G, μ, re, rg, p⟩ := q
  exact Aft.here rg p σ re
theorem rS.seq {a b : MS} (q : rS c (sSeq a b) D σ H) : tSeq (rS c a) (rS c b) D σ H := by
  obtain ⟨ρ, G, μ, re, rg, p⟩ := q
  refine ⟨ρ, G, μ, re, rg, ?_⟩
  unfold sSeq at p
  cases h : a ρ G with
  | nx ρ1 G1 =>
    rw [h] at p
    exact fun H' μ' x p' g σ' re' => ⟨ρ1, G1, μ', re', g, PostS.mono x p' p⟩
  | rt d G1 => rw [h] at p; exact p
  | bk ρ1 G1 => rw [h] at p; exact p
  | ct ρ1 G1 => rw [h] at p; exact p
  | exc n fs ρ1 G1 => rw [h] at p; exact p
  | stuck => rw [h] at p; exact p
theorem rS.expr {f : ME} (q : rS c (sExpr f) D σ H) : tDrop (rE c f) D σ H := by
  obtain ⟨ρ, G, μ, re, rg, p⟩ := q
  exact ⟨ρ, G, μ, re, rg, (p.ofR re).imp fun d G1 H1 μ1 x1 p1 g1 q1 v rv => Aft.here g1 q1 σ (re.mono x1 p1)⟩
theorem rS.set {t : Tg} {f : ME} (q : rS c (sSet t f) D σ H) : tAsg (rE c f) (gOf c.K t) D σ H := by
  obtain ⟨ρ, G, μ, re, rg, p⟩ := q
  refine ⟨ρ, G, μ, re, rg, (p.ofR re).imp fun d G1 H1 μ1 x1 p1 g1 q1 v rv => ?_⟩
  split at q1
  · rename_i ρ1 hb
    exact bind_to hb rv (re.mono x1 p1) fun σ' re' => Aft.here g1 q1 σ' re'
  · exact q1.elim
/-- name = [..], the list's own slots and the name apart -/
theorem rS.par {is : List Nat} {fs : MEs} (q : rS c (sPar is fs) D σ H) : rA c fs σ H fun vs H1 => gsOf is vs σ H1 D.nx := by
  obtain ⟨ρ, G, μ, re, rg, p⟩ := q
  refine ⟨ρ, G, μ, re, rg, (p.ofR re).imp fun ds G1 H1 μ1 x1 p1 g1 q1 vs rvs => ?_⟩
  split at q1
  · rename_i ρ1 hb
    exact binds_ok hb rvs (re.mono x1 p1) fun σ' re' => Aft.here g1 q1 σ' re'
  · exact q1.elim
theorem rS.par2 {i j : Nat} {fs : MEs} (q : rS c (sPar [i, j] fs) D σ H) : tPar i j (rA c fs) D σ H := by
  obtain ⟨ρ, G, μ, re, rg, p⟩ := q
  refine ⟨ρ, G, μ, re, rg, (p.ofR re).imp fun ds G1 H1 μ1 x1 p1 g1 q1 vs rvs => ?_⟩
  split at q1
  · rename_i ρ1 hb
    obtain ⟨v, r, rfl, w, r', rfl, rfl, q⟩ := binds_ok hb rvs (re.mono x1 p1) fun σ' re' => Aft.here g1 q1 σ' re'
    exact ⟨v, w, rfl, q⟩
  · exact q1.elim
theorem rS.par3 {i j k : Nat} {fs : MEs} (q : rS c (sPar [i, j, k] fs) D σ H) : tPar3 i j k (rA c fs) D σ H := by
  obtain ⟨ρ, G, μ, re, rg, p⟩ := q
  refine ⟨ρ, G, μ, re, rg, (p.ofR re).imp fun ds G1 H1 μ1 x1 p1 g1 q1 vs rvs => ?_⟩
  split at q1
  · rename_i ρ1 hb
    obtain ⟨v, r, rfl, w, r', rfl, u, r2, rfl, rfl, q⟩ := binds_ok hb rvs (re.mono x1 p1) fun σ' re' => Aft.here g1 q1 σ' re'
    exact ⟨v, w, u, rfl, q⟩
  · exact q1.elim
theorem set_at {K : PySem.W.Frag} {o i d : Cut.D} {G' : Store} {x y v : V} {Q : Hp → Prop} (g : RG K H μ G) (h : setAt o i d G = some G') (ro : RD K H μ o x) (ri : RD K H μ i y) (rd : RD K H μ d v) (q : ∀ H', XT H H' → RG K H' μ G' → Q H') : rSetL x y v H Q := by
  cases o <;> try (cases h; done)
  case ref n =>
    cases i <;> try (cases h; done)
    case int k =>
      obtain ⟨a, rfl, ma⟩ := ro
      have e : y = _ := ri
      subst e
      simp only [setAt] at h
      split at h
      · rename_i xs hx
        split at h
        · rename_i j hj
          split at h
          · rename_i hl
            cases h
            obtain ⟨vs, rs, _, f⟩ := g.sq hx ma
            have hH := f hl
            exact ⟨a, vs, k, j, rfl, rfl, hH, by rw [rs.len]; exact hj, q _ (.lst hH) (g.put hl ma hH (rs.set rd j))⟩
          · cases h
        · cases h
      · cases h
theorem rS.setIx {a i e : ME} (q : rS c (sSetIx a i e) D σ H) : tAsg (rE c e) (gSub (rE c a) (rE c i) rSetL) D σ H := by
  obtain ⟨ρ, G, μ, re, rg, p⟩ := q
  refine ⟨ρ, G, μ, re, rg, (p.ofR re).imp fun d G1 H1 μ1 x1 p1 g1 q1 v rv => ?_⟩
  have re1 := re.mono x1 p1
  refine ⟨ρ, G1, μ1, re1, g1, (q1.ofR re1).imp fun o G2 H2 μ2 x2 p2 g2 q2 ov ro => ?_⟩
  have re2 := re1.mono x2 p2
  refine ⟨ρ, G2, μ2, re2, g2, (q2.ofR re2).imp fun k G3 H3 μ3 x3 p3 g3 q3 kv rk => ?_⟩
  split at q3
  · rename_i G4 h4
    exact set_at g3 h4 (ro.mono x3 p3) rk ((rv.mono x2 p2).mono x3 p3) fun H' x' g' => q3 H' μ3 x' (List.prefix_refl _) g' σ ((re2.mono x3 p3).mono x' (List.prefix_refl _))
  · exact q3.elim
theorem rS.setKey {a i e : ME} (q : rS c (sSetKey a i e) D σ H) : tAsg (rE c e) (gSub (rE c a) (rE c i) rSetD) D σ H := by
  obtain ⟨ρ, G, μ, re, rg, p⟩ := q
  refine ⟨ρ, G, μ, re, rg, (p.ofR re).imp fun d G1 H1 μ1 x1 p1 g1 q1 v rv => ?_⟩
  have re1 := re.mono x1 p1
  refine ⟨ρ, G1, μ1, re1, g1, (q1.ofR re1).imp fun o G2 H2 μ2 x2 p2 g2 q2 ov ro => ?_⟩
  have re2 := re1.mono x2 p2
  refine ⟨ρ, G2, μ2, re2, g2, (q2.ofR re2).imp fun k G3 H3 μ3 x3 p3 g3 q3 kv rk => ?_⟩
  split at q3
  · rename_i G4 h4
    have ro := ro.mono x3 p3
    have rv := (rv.mono x2 p2).mono x3 p3
    cases o <;> try (cases h4; done)
    case ref n =>
      obtain ⟨a, rfl, ma⟩ := ro
      simp only [setKeyAt] at h4
      split at h4
      · rename_i kvs κ hd hk
        split at h4
        · rename_i hl
          cases h4
          obtain ⟨ws, rws, hH⟩ := g3.dq hd ma
          have hkv : kv = kV κ := by
            cases k <;> try (cases hk; done)
            case int i => cases hk; exact rk
            case str z => cases hk; exact rk
          have hwl : ws.length < sizeLine := by
            have := congrArg List.length rws.1
            rw [List.length_map, List.length_map] at this
            rw [this]; exact hl.2
          refine ⟨a, _, rfl, .inl ⟨ws, κ, hH, hkv, hwl, rfl⟩, ?_⟩
          have x' : XT H3 (upd H3 a (.dK (putK ws κ v))) := .dK hH
          exact q3 _ μ3 x' (List.prefix_refl _) (g3.putD hl.1 ma hH (rws.put rv)) σ ((re2.mono x3 p3).mono x' (List.prefix_refl _))
        · cases h4
      · cases h4
  · exact q3.elim
theorem rS.aug {i : Nat} {o : Op2} {e : ME} (q : rS c (sAug i o e) D σ H) : tAug i (rE c e) (r2 c.K (opAug o)) D σ H := by
  obtain ⟨ρ, G, μ, re, rg, p⟩ := q
  unfold sAug at p
  split at p
  · rename_i d hd
    obtain ⟨v, hv, rv⟩ := re.at_ i d hd
    refine ⟨v, hv, ρ, G, μ, re, rg, (p.ofR re).imp fun d' G1 H1 μ1 x1 p1 g1 q1 w rw' => ?_⟩
    have re1 := re.mono x1 p1
    refine ⟨d, d', G1, μ1, g1, rv.mono x1 p1, rw', ?_⟩
    have q2 := (q1.ofR re1)
    cases hz : opAug o d d' G1 with
    | ok z G2 =>
      rw [hz] at q2
      exact fun H' μ' x' p' g' u ru => Aft.here g' (q2 H' μ' x' p' g') _ ((re1.mono x' p').set ru i)
    | exc n fs G2 => rw [hz] at q2; exact q2.elim
    | stuck => rw [hz] at q2; exact q2.elim
  · exact p.elim
theorem rS.augIx {a i : ME} {o : Op2} {e : ME} (q : rS c (sAugIx a i o e) D σ H) : tAugS (rE c a) (rE c i) (rE c e) (r2 c.K (op2 .ix)) (r2 c.K (opAug o)) rSetL D σ H := by
  obtain ⟨ρ, G, μ, re, rg, p⟩ := q
  refine ⟨ρ, G, μ, re, rg, (p.ofR re).imp fun da G1 H1 μ1 x1 p1 g1 q1 va rva => ?_⟩
  have re1 := re.mono x1 p1
  refine ⟨ρ, G1, μ1, re1, g1, (q1.ofR re1).imp fun di G2 H2 μ2 x2 p2 g2 q2 vi rvi => ?_⟩
  have re2 := re1.mono x2 p2
  refine ⟨da, di, G2, μ2, g2, rva.mono x2 p2, rvi, ?_⟩
  have q3 := q2.ofR re2
  cases hz : op2 .ix da di G2 with
  | ok dx G3 =>
    rw [hz] at q3
    intro H3 μ3 x3 p3 g3 vx rvx
    have re3 := re2.mono x3 p3
    refine ⟨ρ, G3, μ3, re3, g3, ((q3 H3 μ3 x3 p3 g3).ofR re3).imp fun dy G4 H4 μ4 x4 p4 g4 q4 vy rvy => ?_⟩
    have re4 := re3.mono x4 p4
    refine ⟨dx, dy, G4, μ4, g4, rvx.mono x4 p4, rvy, ?_⟩
    have q5 := q4.ofR re4
    cases hw : opAug o dx dy G4 with
    | ok dz G5 =>
      rw [hw] at q5
      intro H5 μ5 x5 p5 g5 vz rvz
      have q6 : PostS c D H5 μ5 (match setAt da di dz G5 with
        | some G6 => RS.nx ρ G6
        | none => RS.stuck) := q5 H5 μ5 x5 p5 g5
      split at q6
      · rename_i G6 h6
        exact set_at g5 h6 ((((rva.mono x2 p2).mono x3 p3).mono x4 p4).mono x5 p5) (((rvi.mono x3 p3).mono x4 p4).mono x5 p5) rvz fun H' x' g' => q6 H' μ5 x' (List.prefix_refl _) g' σ ((re4.mono x5 p5).mono x' (List.prefix_refl _))
      · exact q6.elim
    | exc n fs G5 => rw [hw] at q5; exact q5.elim
    | stuck => rw [hw] at q5; exact q5.elim
  | exc n fs G3 => rw [hz] at q3; exact q3.elim
  | stuck => rw [hz] at q3; exact q3.elim
theorem rS.ret {f : ME} (q : rS c (sRet f) D σ H) : tRet (rE c f) D σ H := by
  obtain ⟨ρ, G, μ, re, rg, p⟩ := q
  exact ⟨ρ, G, μ, re, rg, (p.ofR re).imp fun d G1 H1 μ1 x1 p1 g1 q1 v rv => Aft.here g1 q1 v rv⟩
theorem rS.retN (q : rS c (fun _ G => .rt .non G) D σ H) : tRetN D σ H := by
  obtain ⟨ρ, G, μ, re, rg, p⟩ := q
  exact Aft.here rg p .non rfl
theorem rS.brk (q : rS c (fun ρ G => .bk ρ G) D σ H) : tBreak D σ H := by
  obtain ⟨ρ, G, μ, re, rg, p⟩ := q
  exact Aft.here rg p σ re
theorem rS.cnt (q : rS c (fun ρ G => .ct ρ G) D σ H) : tCont D σ H := by
  obtain ⟨ρ, G, μ, re, rg, p⟩ := q
  exact Aft.here rg p σ re
theorem rS.ifs {f : ME} {a b : MS} (q : rS c (sIf f a b) D σ H) : tIfS (rT c f) (rS c a) (rS c b) D σ H := by
  obtain ⟨ρ, G, μ, re, rg, p⟩ := q
  refine ⟨ρ, G, μ, re, rg, (p.ofR re).imp fun d G1 H1 μ1 x1 p1 g1 q1 => ?_⟩
  split at q1
  · rename_i hb
    exact ⟨true, hb, iteT ⟨ρ, G1, μ1, re.mono x1 p1, g1, q1⟩⟩
  · rename_i hb
    exact ⟨false, hb, iteF ⟨ρ, G1, μ1, re.mono x1 p1, g1, q1⟩⟩
  · exact q1.elim
theorem rS.while {f : ME} {a : MS} (q : rS c (sWhile f a) D σ H) : tWhile (rT c f) (rS c a) D σ H := by
  obtain ⟨ρ, G, μ, re, rg, p⟩ := q
  refine ⟨fun m σ H => ∃ ρ G μ, RE c.K H μ ρ σ ∧ RG c.K H μ G ∧ PostS c D H μ (whileGo f a m ρ G), ⟨loopFuel, ρ, G, μ, re, rg, p⟩, ?_⟩
  rintro m σ1 H1 ⟨ρ1, G1, μ1, re1, g1, p1⟩
  cases m with
  | zero => exact p1.elim
  | succ m =>
    unfold whileGo at p1
    refine ⟨ρ1, G1, μ1, re1, g1, (p1.ofR re1).imp fun d G2 H2 μ2 x2 p2 g2 q2 => ?_⟩
    have re2 := re1.mono x2 p2
    split at q2
    · rename_i hb
      refine ⟨true, hb, iteT ⟨fun σ H => ∃ ρ G μ, RE c.K H μ ρ σ ∧ RG c.K H μ G ∧ PostS c D H μ (whileGo f a m ρ G), fun σ' H' h => ⟨m, Nat.lt_succ_self m, h⟩, ρ1, G2, μ2, re2, g2, ?_⟩⟩
      cases ha : a ρ1 G2 with
      | nx ρ3 G3 => rw [ha] at q2; exact fun H' μ' x' p' g' σ' re' => ⟨ρ3, G3, μ', re', g', PostS.mono x' p' q2⟩
      | ct ρ3 G3 => rw [ha] at q2; exact fun H' μ' x' p' g' σ' re' => ⟨ρ3, G3, μ', re', g', PostS.mono x' p' q2⟩
      | bk ρ3 G3 => rw [ha] at q2; exact q2
      | rt d3 G3 => rw [ha] at q2; exact q2
      | exc n fs ρ3 G3 => rw [ha] at q2; exact q2
      | stuck => rw [ha] at q2; exact q2
    · rename_i hb
      exact ⟨false, hb, iteF (Aft.here g2 q2 σ1 re2)⟩
    · exact q2.elim
theorem rS.for {t : Tg} {mi : MI} {a : MS} (q : rS c (sFor t mi a) D σ H) : tFor (rI c mi) (gOf c.K t) (rS c a) D σ H := by
  obtain ⟨ρ, G, μ, re, rg, p⟩ := q
  refine ⟨ρ, G, μ, re, rg, (p.ofR re).imp fun v G1 H1 μ1 x1 p1 g1 q1 J hJ => ?_⟩
  refine ⟨fun i m σ H => ∃ ρ G μ, XT H1 H ∧ μ1 <+: μ ∧ RE c.K H μ ρ σ ∧ RG c.K H μ G ∧ PostS c D H μ (forGo t v a m i ρ G), ⟨loopFuel, ρ, G1, μ1, .refl _, List.prefix_refl _, re.mono x1 p1, g1, q1⟩, ?_⟩
  rintro i m σ2 H2 ⟨ρ2, G2, μ2, x2, p2, re2, g2, q2⟩
  cases m with
  | zero => exact q2.elim
  | succ m =>
    unfold forGo at q2
    cases hv : v.at i G2 with
    | none => rw [hv] at q2; exact q2.elim
    | some o =>
      cases o with
      | none =>
        rw [hv] at q2
        exact .inl ⟨hJ.stop i H2 μ2 G2 x2 p2 g2 hv, Aft.here g2 q2 σ2 re2⟩
      | some d =>
        rw [hv] at q2
        simp only at q2
        obtain ⟨go, yl⟩ := hJ.go i H2 μ2 G2 d x2 p2 g2 hv
        refine .inr ⟨go, fun σ H => ∃ ρ G μ, XT H1 H ∧ μ1 <+: μ ∧ RE c.K H μ ρ σ ∧ RG c.K H μ G ∧ PostS c D H μ (forGo t v a m (i + 1) ρ G), fun σ' H' h => ⟨m, Nat.lt_succ_self m, h⟩, fun x H3 hx => ?_⟩
        obtain ⟨x3, g3, rx⟩ := yl x H3 hx
        cases hb : t.bind d ρ2 with
        | none => rw [hb] at q2; exact q2.elim
        | some ρ3 =>
          rw [hb] at q2
          simp only at q2
          have q3 := PostS.mono x3 (List.prefix_refl _) q2
          refine bind_to hb rx (re2.mono x3 (List.prefix_refl _)) fun σ4 re4 => ⟨ρ3, G2, μ2, re4, g3, ?_⟩
          cases ha : a ρ3 G2 with
          | nx ρ5 G5 => rw [ha] at q3; exact fun H' μ' x' p' g' σ' re' => ⟨ρ5, G5, μ', (x2.trans x3).trans x', p2.trans p', re', g', PostS.mono x' p' q3⟩
          | ct ρ5 G5 => rw [ha] at q3; exact fun H' μ' x' p' g' σ' re' => ⟨ρ5, G5, μ', (x2.trans x3).trans x', p2.trans p', re', g', PostS.mono x' p' q3⟩
          | bk ρ5 G5 => rw [ha] at q3; exact q3
          | rt d5 G5 => rw [ha] at q3; exact q3
          | exc n fs ρ5 G5 => rw [ha] at q3; exact q3
          | stuck => rw [ha] at q3; exact q3
end
section
variable {X : Cx}
/-! ### op= -/
theorem no_tup_iadd : typeLookup (.type "tuple") (dunderI "add") = pure none := by rw [typeLookup_type, builtinLookup_eq_fast]; kernel_rfl
theorem icat_tup {prog : Program} {w : World} {A : Around} {E : Value → Shared → Prop} {s : Shared} {t b : Addr} {vs ws : List Value} {Q : Value → Shared → Prop} (ht : IsTup s.heap t vs.toArray) (hb : IsTup s.heap b ws.toArray)
    (h0 : vs = [] → Q (.ref b) s) (h1 : vs ≠ [] → ws = [] → Q (.ref t) s) (h2 : vs ≠ [] → ws ≠ [] → Q (.ref s.heap.objs.size) { s with heap := s.heap.push { cls := .type "tuple", data := .seq (vs ++ ws).toArray } })
    (hsz : vs.length + ws.length ≤ sizeLine) : wpAny (model prog w) A (inplaceOp .Add (.ref t) (.ref b)) Q E s := by
  obtain ⟨⟨cls, dd, data, sl⟩, ho, hc, n, hd⟩ := id ht
  obtain ⟨⟨cls2, dd2, data2, sl2⟩, ho2, hc2, n2, hd2⟩ := id hb
  simp only at hc hd hc2 hd2
  subst hc hd hc2 hd2
  have e : vs.toArray ++ ws.toArray = (vs ++ ws).toArray := by simp
  by_cases hv : vs = []
  · exact PyProof.Rows.inplaceOp_concat ⟨_, ho, rfl⟩ ⟨_, ho2, rfl⟩ no_tup_iadd noFill_tuple_add seq_tuple_add (call_meets PySem.F.slot_tuple_add ⟨_, ho, rfl⟩ PySem.F.entry_tuple_add (PySem.F.args_tuple_add_2 _ _) (tuple_addW0 t b vs.toArray ws.toArray n n2 dd dd2 sl sl2 (by simp [hv])) ⟨ho, ho2, h0 hv⟩)
  by_cases hw : ws = []
  · exact PyProof.Rows.inplaceOp_concat ⟨_, ho, rfl⟩ ⟨_, ho2, rfl⟩ no_tup_iadd noFill_tuple_add seq_tuple_add (call_meets PySem.F.slot_tuple_add ⟨_, ho, rfl⟩ PySem.F.entry_tuple_add (PySem.F.args_tuple_add_2 _ _) (tuple_addW1 t b vs.toArray ws.toArray n n2 dd dd2 sl sl2 (by simpa using hv) (by simp [hw])) ⟨ho, ho2, h1 hv hw⟩)
  · refine PyProof.Rows.inplaceOp_concat ⟨_, ho, rfl⟩ ⟨_, ho2, rfl⟩ no_tup_iadd noFill_tuple_add seq_tuple_add (call_meets PySem.F.slot_tuple_add ⟨_, ho, rfl⟩ PySem.F.entry_tuple_add (PySem.F.args_tuple_add_2 _ _) (tuple_addW2 t b vs.toArray ws.toArray n n2 dd dd2 sl sl2 (by simpa using hv) (by simpa using hw) (by rw [List.size_toArray, List.size_toArray]; exact hsz)) ⟨ho, ho2, ?_⟩)
    rw [e]
    exact h2 hv hw
theorem iop_catA : OpR X (inplaceOp .Add) (rCatA X.K) := by
  intro pins s σ H x y v u Q I rx ry h
  obtain ⟨a, b, xs, ys, rfl, rfl, ha, hb, hz, q0, q1, q2⟩ := h
  cases rx
  cases ry
  obtain ⟨its, r1, p1, _⟩ := I.tuple ha
  obtain ⟨its2, r2, p2, _⟩ := I.tuple hb
  refine icat_tup p1 p2 (fun z => ⟨.ref b, H, I, rfl, q0 (r1.nil_iff.mp z)⟩) (fun z z' => ⟨.ref a, H, I, rfl, q1 (fun k => z (r1.nil_iff.mpr k)) (r2.nil_iff.mp z')⟩) (fun z z' => ?_) (by rw [← r1.length, ← r2.length]; exact hz)
  refine ⟨.ref s.heap.objs.size, _, I.laid (t' := s.toks) (o := .tup (xs ++ ys)) (fun b ob q => Heap.get?_push_of_some _ q) (Nat.le_refl _) ?_, rfl, q2 (fun w => z (r1.nil_iff.mpr w)) (fun w => z' (r2.nil_iff.mpr w)) _ (I.hok.fresh (Nat.le_refl _))⟩
  exact ⟨by rw [List.length_append]; exact hz, _, r1.append r2, IsTup.new _ _⟩
theorem ok_aug {o : Op2} {p : Operator} (h : binOf o = some p) : PIp X p (r2 X.K (opAug o)) := by
  rintro pins s σ H x y v u Q I rx ry ⟨d, e, G, μ, g, r, r', q⟩
  unfold opAug at q
  split at q
  · rename_i hk
    cases o <;> try (cases h; done)
    all_goals (cases d <;> try (cases hk; done))
    all_goals (cases e <;> try (cases hk; done))
    case add.str.str a b =>
      cases h
      have e1 : x = _ := r; have e2 : y = _ := r'; subst e1; subst e2
      simp only [op2] at q
      split at q
      · rename_i hl
        exact iop_add_str pins s σ H _ _ v u Q I rx ry ⟨_, _, rfl, rfl, by simpa [Str.length] using hl, P0.here g q (by show V.str _ = V.str _; congr 1; show Str.append _ _ = _; simp [Str.append])⟩
      · exact q.elim
    case add.tup.tup xs ys =>
      cases h
      obtain ⟨a, vs, rfl, s1, rs⟩ := r
      obtain ⟨b, ws, rfl, s2, rs'⟩ := r'
      simp only [op2] at q
      split at q
      · rename_i hl
        refine iop_catA pins s σ H _ _ v u Q I rx ry ⟨a, b, vs, ws, rfl, rfl, s1, s2, by rw [rs.len, rs'.len]; exact hl, fun e => ?_, fun _ e => ?_, fun _ _ => P0.newT g q (rs.app rs')⟩
        · subst e
          have : xs = [] := List.eq_nil_of_length_eq_zero (by rw [← rs.len]; rfl)
          subst this
          exact P0.here g q ⟨b, ws, rfl, s2, rs'⟩
        · subst e
          have : ys = [] := List.eq_nil_of_length_eq_zero (by rw [← rs'.len]; rfl)
          subst this
          rw [List.append_nil] at q
          exact P0.here g q ⟨a, vs, rfl, s1, rs⟩
      · exact q.elim
    all_goals
      rename_i i j
      have e1 : x = _ := r; have e2 : y = _ := r'
      subst e1; subst e2
      cases h
    · exact iop_add pins s σ H _ _ v u Q I rx ry ⟨i, j, rfl, rfl, P0.here g q rfl⟩
    · exact iop_sub pins s σ H _ _ v u Q I rx ry ⟨i, j, rfl, rfl, P0.here g q rfl⟩
    · simp only [op2] at q
      split at q
      · rename_i hl
        obtain ⟨t, rfl⟩ := rx
        obtain ⟨t', rfl⟩ := ry
        exact imul_int ⟨.int _, H, I.tok _, ⟨_, rfl⟩, P0.here g q rfl⟩ (CMulW.ok hl)
      · exact q.elim
    · simp only [op2] at q
      split at q
      · rename_i hl
        obtain ⟨t, rfl⟩ := rx
        obtain ⟨t', rfl⟩ := ry
        refine ifloordiv_int (by omega) ?_ (.inl (PyProof.noPylong_of_log2 hl.2))
        rw [Int.fdiv_eq_ediv_of_nonneg i (by omega)]
        exact ⟨.int _, H, I.tok _, ⟨_, rfl⟩, P0.here g q rfl⟩
      · exact q.elim
    · simp only [op2] at q
      split at q
      · rename_i hl
        exact iop_mod pins s σ H _ _ v u Q I rx ry ⟨i, j, rfl, rfl, hl, P0.here g q rfl⟩
      · exact q.elim
    · exact iop_xor pins s σ H _ _ v u Q I rx ry ⟨i, j, rfl, rfl, P0.here g q rfl⟩
  · exact q.elim
end
end Cut
/-! Methods of lists and texts; calls. -/
namespace PySem.AutoSeq1
open PySem
theorem list_extend_tupW (l : Addr) (items : Array Value) (n : Nat) (b : Addr) (items2 : Array Value) (n2 : Nat) (dd : Option Addr) (sl : Array (Option Value)) (hs0 : ¬(!items.isEmpty && Builtin.List.listTooLong (items.size + items2.size)) = true) (hs1 : items.size ≤ sizeLine) (hs2 : items.size + items2.size ≤ sizeLine + 1) :
    Meets (Builtin.«list.extend» ⟨[.ref l, .ref b], []⟩) (fun _ R s => s.heap.get? l = some { cls := .type "list", dict := none, data := .seq items n, slots := #[] } ∧ s.heap.get? b = some { cls := .type "tuple", dict := dd, data := .seq items2 n2, slots := sl } ∧ R (.ok (.ret Value.none)) { s with heap := s.heap.update l (Obj.mapSeq fun x => x ++ items2), toks := s.toks }) :=
  .of_wp fun prog w A R s h => by
    obtain ⟨hp, g, d, tk, os⟩ := s; obtain ⟨hl, hb, h⟩ := h; have f1 := idx_int; have f2 := sub_tuple_tuple; have f3 := sub_list_list; have f4 := sub_tuple_list; have f5 := sub_list_tuple;
    have hz' : (items ++ items2).size ≤ sizeLine + 1 := by rw [Array.size_append]; exact hs2
    wp_walk using (wpAny_updateSeq hl rfl (hz := hs1) (_hz' := hz')), wpAny_loadPart' hl, wpAny_loadPart' hb; exact ⟨_, rfl, h⟩
end PySem.AutoSeq1
namespace Cut
open PySem PySem.Spec PyProof.Rows L2
variable [Tbl] [Cur]
section
variable {X : Cx}
theorem ok_append : MtR X "list.append" (rM X.K (mt .append)) := by
  rintro pins s σ H x xs v us Q I rx rs ⟨d, ds, G, μ, g, r, r0, h0⟩
  obtain ⟨e, rfl, h⟩ := P0.b1 (show Post0 X.K H μ (b1 _ ds G) _ from h0)
  obtain ⟨y, rfl, r'⟩ := RDs.c1 r0
  clear r0 h0
  cases d <;> try exact h.elim
  case ref n =>
    obtain ⟨a, rfl, ma⟩ := r
    simp only [appendD] at h
    split at h
    · rename_i ys hx
      split at h
      · rename_i hl
        obtain ⟨vs, rv, _, f⟩ := g.sq hx ma
        have hH := f hl.1
        exact mt_append pins s σ H _ _ v us Q I rx rs ⟨a, vs, y, rfl, rfl, hH, by rw [rv.len]; exact hl.2, P0.put g hl.1 ma hH (rv.app (.one r')) h rfl⟩
      · exact h.elim
    · exact h.elim
theorem ok_pop : MtR X "list.pop" (rM X.K (mt .pop)) := by
  rintro pins s σ H x xs v us Q I rx rs ⟨d, ds, G, μ, g, r, r0, h0⟩
  obtain ⟨rfl, h⟩ := P0.b0 (show Post0 X.K H μ (b0 _ ds G) _ from h0)
  have e0 := RDs.nil r0
  subst e0
  clear r0 h0
  cases d <;> try exact h.elim
  case ref n =>
    obtain ⟨a, rfl, ma⟩ := r
    simp only [popD] at h
    split at h
    · rename_i ys hx
      split at h
      · rename_i e he
        split at h
        · rename_i hl
          obtain ⟨vs, rv, _, f⟩ := g.sq hx ma
          have hH := f hl
          obtain ⟨w, hw, rw'⟩ := rv.get he
          exact mt_pop pins s σ H _ _ v us Q I rx rs ⟨a, vs, w, rfl, rfl, hH, by rw [rv.len]; exact hw, P0.put g hl ma hH rv.init h rw'⟩
        · exact h.elim
      · exact h.elim
    · exact h.elim
theorem RDs.erase {K : PySem.W.Frag} {H : Hp} {μ : List Addr} : ∀ {ds : List D} {vs : List V} (i : Nat), RDs K H μ ds vs → RDs K H μ (ds.eraseIdx i) (vs.eraseIdx i)
  | [], _, _, h => by have e : _ = [] := h; rw [e]; rfl
  | _ :: _, _, 0, ⟨v, ws, e, r, rs⟩ => by rw [e]; exact rs
  | _ :: _, _, i + 1, ⟨v, ws, e, r, rs⟩ => by rw [e]; exact ⟨v, ws.eraseIdx i, rfl, r, rs.erase i⟩
theorem ok_popAt : MtR X "list.pop" (rM X.K (mt .popAt)) := by
  rintro pins s σ H x xs v us Q I rx rs ⟨d, ds, G, μ, g, r, r0, h0⟩
  obtain ⟨e, rfl, h⟩ := P0.b1 (show Post0 X.K H μ (b1 _ ds G) _ from h0)
  obtain ⟨y, rfl, r'⟩ := RDs.c1 r0
  clear r0 h0
  cases d <;> try exact h.elim
  case ref n =>
    cases e <;> try exact h.elim
    case int i =>
      obtain ⟨a, rfl, ma⟩ := r
      have e1 : y = _ := r'
      subst e1
      simp only [popAtD] at h
      split at h
      · rename_i ys hx
        split at h
        · rename_i k hk
          split at h
          · rename_i z hz
            split at h
            · rename_i hl
              obtain ⟨vs, rv, _, f⟩ := g.sq hx ma
              have hH := f hl.1
              obtain ⟨w, hw, rw'⟩ := rv.get hz
              exact mt_popAt pins s σ H _ _ v us Q I rx rs ⟨a, vs, i, k, w, rfl, rfl, hH, hl.2.1, hl.2.2, by rw [rv.len]; exact (ixN_seq hk).1, hw, P0.put g hl.1 ma hH (rv.erase k) h rw'⟩
            · exact h.elim
          · exact h.elim
        · exact h.elim
      · exact h.elim
theorem glue_fold (sep : List Nat) : ∀ (ss : List (List Nat)) (acc : List Nat), (ss.map fun s => (⟨s.toArray⟩ : Str)).foldl (fun (a : Array Nat) (p : Str) => a ++ sep.toArray ++ p.cps) acc.toArray = (acc ++ (ss.map fun s => sep ++ s).flatten).toArray
  | [], acc => by simp
  | s :: ss, acc => by
    rw [List.map_cons, List.foldl_cons]
    have e : acc.toArray ++ sep.toArray ++ (⟨s.toArray⟩ : Str).cps = (acc ++ (sep ++ s)).toArray := by simp
    rw [e, glue_fold sep ss]
    simp
theorem joinS_cons (sep x : List Nat) : ∀ ss : List (List Nat), joinS sep (x :: ss) = x ++ (ss.map fun s => sep ++ s).flatten
  | [] => by simp [joinS]
  | y :: r => by
    show x ++ sep ++ joinS sep (y :: r) = _
    rw [joinS_cons sep y r]
    simp
theorem joinS_eq (sep : List Nat) (ss : List (List Nat)) : Txt.join ⟨sep.toArray⟩ (ss.map fun s => (⟨s.toArray⟩ : Str)) = ⟨(joinS sep ss).toArray⟩ := by
  cases ss with
  | nil => rfl
  | cons x r =>
    show (⟨((x :: r).map fun s => (⟨s.toArray⟩ : Str)).drop 1 |>.foldl (fun (a : Array Nat) (p : Str) => a ++ sep.toArray ++ p.cps) x.toArray⟩ : Str) = _
    rw [joinS_cons, List.map_cons, List.drop_succ_cons, List.drop_zero, glue_fold]
theorem strs_rd {K : PySem.W.Frag} {H : Hp} {μ : List Addr} : ∀ {ds : List D} {ss : List (List Nat)} {vs : List V}, strsD ds = some ss → RDs K H μ ds vs → vs = (ss.map fun s => (⟨s.toArray⟩ : Str)).map V.str
  | [], ss, vs, h, r => by cases h; exact r
  | d :: ds, ss, vs, h, ⟨v, ws, e, r, rs⟩ => by
    cases d <;> try (cases h; done)
    case str s =>
      simp only [strsD, Option.map_eq_some_iff] at h
      obtain ⟨ss', h1, rfl⟩ := h
      have e1 : v = _ := r
      rw [e, e1, strs_rd h1 rs]
      rfl
theorem ok_join : MtR X "str.join" (rM X.K (mt .join)) := by
  rintro pins s σ H x xs v us Q I rx rs ⟨d, ds, G, μ, g, r, r0, h0⟩
  obtain ⟨e, rfl, h⟩ := P0.b1 (show Post0 X.K H μ (b1 _ ds G) _ from h0)
  obtain ⟨y, rfl, r'⟩ := RDs.c1 r0
  clear r0 h0
  cases d <;> try exact h.elim
  case str sep =>
    have e1 : x = _ := r
    subst e1
    simp only [joinD] at h
    split at h
    · rename_i ys hy
      split at h
      · rename_i ss hss
        split at h
        · rename_i hl
          obtain ⟨p, vs, rfl, hq, rvs⟩ := items_rd g hy r'
          have e2 := strs_rd hss rvs
          subst e2
          refine mt_join pins s σ H _ _ v us Q I rx rs ⟨_, p, ss.map fun s => (⟨s.toArray⟩ : Str), rfl, rfl, hq, ?_, ?_⟩
          · rw [List.map_map, List.length_map, sz_str]
            have : (Str.length ∘ fun s : List Nat => (⟨s.toArray⟩ : Str)) = List.length := funext fun s => sz_str s
            show (List.map (Str.length ∘ fun s : List Nat => (⟨s.toArray⟩ : Str)) ss).sum + _ ≤ _
            rw [this]
            exact hl
          · rw [joinS_eq]
            exact P0.here g h rfl
        · exact h.elim
      · exact h.elim
    · exact h.elim
theorem find_rd {K : PySem.W.Frag} {H : Hp} {μ : List Addr} {d : D} {x : V} (f : flatD d = true) (r : RD K H μ d x) : ∀ {ds : List D} {vs : List V} {i : Nat}, ds.all flatD = true → RDs K H μ ds vs → ds.findIdx? (fun z => eqF z d) = some i →
    (∃ z, vs[i]? = some z ∧ eqV z x = true) ∧ ∀ (m : Nat) (z' : V), m < i → vs[m]? = some z' → eqV z' x = false
  | [], _, i, _, _, h => by simp at h
  | e :: ds, vs, i, fs, ⟨v, ws, q, r1, rs⟩, h => by
    rw [List.all_cons, Bool.and_eq_true] at fs
    rw [List.findIdx?_cons] at h
    have hv := eqF_rd fs.1 f r1 r
    subst q
    split at h
    · rename_i he
      cases h
      exact ⟨⟨v, rfl, by rw [hv]; exact he⟩, fun m z' hm => absurd hm (Nat.not_lt_zero _)⟩
    · rename_i he
      rw [Option.map_eq_some_iff] at h
      obtain ⟨j, h1, rfl⟩ := h
      obtain ⟨⟨z, h2, h3⟩, h4⟩ := find_rd f r fs.2 rs h1
      refine ⟨⟨z, by simpa using h2, h3⟩, fun m z' hm hz => ?_⟩
      cases m with
      | zero =>
        simp at hz
        subst hz
        rw [hv]
        simpa using he
      | succ m => exact h4 m z' (by omega) (by simpa using hz)
theorem ok_indexL : MtR X "list.index" (rM X.K (mt .indexL)) := by
  rintro pins s σ H x xs v us Q I rx rs ⟨d, ds, G, μ, g, r, r0, h0⟩
  obtain ⟨e, rfl, h⟩ := P0.b1 (show Post0 X.K H μ (b1 _ ds G) _ from h0)
  obtain ⟨y, rfl, r'⟩ := RDs.c1 r0
  clear r0 h0
  cases d <;> try exact h.elim
  case ref n =>
    obtain ⟨a, rfl, ma⟩ := r
    simp only [indexLD] at h
    split at h
    · rename_i ys hx
      split at h
      · rename_i hf
        rw [Bool.and_eq_true] at hf
        obtain ⟨b, hb, h⟩ := okD_some h
        rw [Option.map_eq_some_iff] at hb
        obtain ⟨i, hi, rfl⟩ := hb
        obtain ⟨vs, rv, sq, _⟩ := g.sq hx ma
        obtain ⟨⟨z, h1, h2⟩, h3⟩ := find_rd hf.1 r' hf.2 rv hi
        exact mt_index pins s σ H _ _ v us Q I rx rs ⟨a, vs, y, i, z, rfl, rfl, sq, flat_rd hf.1 r', flats_rd hf.2 rv, h1, h2, h3, P0.here g h rfl⟩
      · exact h.elim
    · exact h.elim
def ofVal : Value → V
  | .none => .non
  | .bool b => .bl b
  | .int i _ => .int i
  | .str a _ => .str a
  | _ => .ref 0
theorem ofVal_rel {v : V} {u : Value} (r : RelV v u) (f : flatV v = true) : ofVal u = v := by
  cases v <;> try (cases f; done)
  case non => have r : u = .none := r; subst r; rfl
  case bl b => have r : u = .bool b := r; subst r; rfl
  case int i => obtain ⟨t, rfl⟩ := (r : ∃ t, u = .int i t); rfl
  case str a => obtain ⟨t, rfl⟩ := (r : ∃ t, u = .str a t); rfl
theorem countP_vals {y : V} : ∀ {ys : List V} {its : List Value}, Vals ys its → ys.all flatV = true → its.countP (fun u => eqV (ofVal u) y) = (ys.filter fun z => eqV z y).length := by
  intro ys its r
  induction r with
  | nil => intro _; rfl
  | cons r _ ih =>
    intro f
    rw [List.all_cons, Bool.and_eq_true] at f
    rw [List.countP_cons, List.filter_cons, ih f.2, ofVal_rel r f.1]
    split <;> rfl
theorem filter_rd {K : PySem.W.Frag} {H : Hp} {μ : List Addr} {d : D} {x : V} (f : flatD d = true) (r : RD K H μ d x) : ∀ {ds : List D} {vs : List V}, ds.all flatD = true → RDs K H μ ds vs → (vs.filter fun z => eqV z x).length = (ds.filter fun z => eqF z d).length
  | [], vs, _, h => by have e : vs = [] := h; subst e; rfl
  | e :: ds, vs, fs, ⟨v, ws, q, r1, rs⟩ => by
    rw [List.all_cons, Bool.and_eq_true] at fs
    subst q
    rw [List.filter_cons, List.filter_cons, eqF_rd fs.1 f r1 r]
    split
    · rw [List.length_cons, List.length_cons, filter_rd f r fs.2 rs]
    · exact filter_rd f r fs.2 rs
theorem vals_mem : ∀ {ys : List V} {its : List Value}, Vals ys its → ∀ u ∈ its, ∃ z ∈ ys, RelV z u := by
  intro ys its r
  induction r with
  | nil => intro u h; cases h
  | cons r _ ih =>
    intro u h
    rcases List.mem_cons.mp h with rfl | h
    · exact ⟨_, List.mem_cons_self .., r⟩
    · obtain ⟨z, h1, h2⟩ := ih u h
      exact ⟨z, List.mem_cons_of_mem _ h1, h2⟩
theorem mt_countL : MtR X "list.count" (fun x xs H Q => ∃ (a : Addr) (ys : List V) (y : V), x = V.ref a ∧ xs = [y] ∧ SqL X.K H a ys ∧ flatV y = true ∧ ys.all flatV = true ∧ Q (.int ((ys.filter fun z => eqV z y).length : Nat)) H) := by
  intro pins s σ H x xs v us Q I rx rs h
  obtain ⟨a, ys, y, rfl, rfl, sq, fy, fys, q⟩ := h
  cases rx
  obtain ⟨u, rfl, ru⟩ := rs.one
  obtain ⟨its, rv, ⟨⟨cls, dd, dt, sl⟩, n, ho, hc, hd1, hd2⟩, hl⟩ := I.list sq
  simp only at hc hd1 hd2
  subst hc hd1 hd2
  refine call_meets PySem.F.slot_list_count ⟨_, ho, rfl⟩ PySem.F.entry_list_count (PySem.F.args_list_count_2 _ _) (PySem.SeqAt.list_countAt a its.toArray n none sl u fun w => eqV (ofVal w) y) ⟨ho, fun w hw => ?_, ?_⟩
  · obtain ⟨z, hz, rz⟩ := vals_mem rv w (by simpa using hw)
    have fz := List.all_eq_true.mp fys z hz
    rw [ofVal_rel rz fz]
    exact eqAt_V rz ru fz fy
  · refine ⟨.int ((its.countP fun w => eqV (ofVal w) y : Nat) : Int), _, I.tok _, ⟨_, rfl⟩, ?_⟩
    rw [countP_vals rv fys]
    exact q
theorem ok_countL : MtR X "list.count" (rM X.K (mt .countL)) := by
  rintro pins s σ H x xs v us Q I rx rs ⟨d, ds, G, μ, g, r, r0, h0⟩
  obtain ⟨e, rfl, h⟩ := P0.b1 (show Post0 X.K H μ (b1 _ ds G) _ from h0)
  obtain ⟨y, rfl, r'⟩ := RDs.c1 r0
  clear r0 h0
  cases d <;> try exact h.elim
  case ref n =>
    obtain ⟨a, rfl, ma⟩ := r
    simp only [countLD] at h
    split at h
    · rename_i ys hx
      split at h
      · rename_i hf
        rw [Bool.and_eq_true] at hf
        obtain ⟨vs, rv, sq, _⟩ := g.sq hx ma
        refine mt_countL pins s σ H _ _ v us Q I rx rs ⟨a, vs, y, rfl, rfl, sq, flat_rd hf.1 r', flats_rd hf.2 rv, ?_⟩
        rw [filter_rd hf.1 r' hf.2 rv]
        exact P0.here g h rfl
      · exact h.elim
    · exact h.elim
theorem mt_extendT : MtM X "list.extend" (fun x vs H Q => ∃ l b xs zs, x = .ref l ∧ vs = [.ref b] ∧ H l = some (.lst xs) ∧ SqT X.K H b zs ∧ xs.length + zs.length ≤ sizeLine ∧ Q .non (upd H l (.lst (xs ++ zs)))) := by
  intro pins s σ H x vs v us Q I rx rv h
  obtain ⟨l, b, xs, zs, rfl, rfl, hH, hB, hz, q⟩ := h
  cases rx
  obtain ⟨u, rfl, ru⟩ := rv.one
  cases ru
  obtain ⟨z, its, n, r, hl, e⟩ := I.lstM hH
  obtain ⟨its2, r2, ⟨⟨cls, dd, dt, sl⟩, ho, hc, n2, hd⟩, _⟩ := I.tuple hB
  simp only at hc hd
  subst hc hd
  have hl2 : its2.length = zs.length := r2.length.symm
  have hsz : its.toArray.size + its2.toArray.size ≤ sizeLine := by rw [List.size_toArray, List.size_toArray]; omega
  have hlong : ¬ (!its.toArray.isEmpty && Builtin.List.listTooLong (its.toArray.size + its2.toArray.size)) = true := by
    rw [notLongL hsz, Bool.and_false]
    exact Bool.false_ne_true
  refine call_meets PySem.F.slot_list_extend ⟨_, e, rfl⟩ PySem.F.entry_list_extend (PySem.F.args_list_extend_2 _ _)
    (PySem.AutoSeq1.list_extend_tupW l its.toArray n b its2.toArray n2 dd sl hlong (by rw [List.size_toArray]; omega) (by omega)) ⟨e, ho, ?_⟩
  refine ⟨.non, _, I.lset (its' := its ++ its2) hH e (by simp) (r.append r2) ?_, rfl, q⟩
  rw [List.length_append]
  omega
theorem ok_extend : MtR X "list.extend" (rM X.K (mt .extend)) := by
  rintro pins s σ H x xs v us Q I rx rs ⟨d, ds, G, μ, g, r, r0, h0⟩
  obtain ⟨e, rfl, h⟩ := P0.b1 (show Post0 X.K H μ (b1 _ ds G) _ from h0)
  obtain ⟨y, rfl, r'⟩ := RDs.c1 r0
  clear r0 h0
  cases d <;> try exact h.elim
  case ref n =>
    obtain ⟨a, rfl, ma⟩ := r
    simp only [extendD] at h
    split at h
    · rename_i ys zs hx hz
      split at h
      · rename_i hl
        obtain ⟨vs, rv, _, f⟩ := g.sq hx ma
        have hH := f hl.1
        cases e <;> try (cases hz; done)
        case tup zs' =>
          cases hz
          obtain ⟨b, ws, rfl, sq, rw'⟩ := r'
          exact mt_extendT pins s σ H _ _ v us Q I rx rs ⟨a, b, vs, ws, rfl, rfl, hH, sq, by rw [rv.len, rw'.len]; exact hl.2, P0.put g hl.1 ma hH (rv.app rw') h rfl⟩
        case ref m =>
          simp only [ownItems] at hz
          split at hz
          · rename_i hm
            obtain ⟨b, rfl, mb⟩ := r'
            obtain ⟨ws, rw', _, f'⟩ := g.sq hz mb
            exact mt_extend pins s σ H _ _ v us Q I rx rs ⟨a, b, vs, ws, rfl, rfl, hH, f' hm, by rw [rv.len, rw'.len]; exact hl.2, P0.put g hl.1 ma hH (rv.app rw') h rfl⟩
          · cases hz
      · exact h.elim
    · exact h.elim
theorem ok_upper : MtR X "str.upper" (rM X.K (mt .upper)) := by
  rintro pins s σ H x xs v us Q I rx rs ⟨d, ds, G, μ, g, r, r0, h0⟩
  obtain ⟨rfl, h⟩ := P0.b0 (show Post0 X.K H μ (b0 _ ds G) _ from h0)
  have e0 := RDs.nil r0
  subst e0
  clear r0 h0
  cases d <;> try exact h.elim
  case str a =>
    have e1 : x = _ := r
    subst e1
    simp only [upperD] at h
    split at h
    · rename_i hl
      refine mt_upper pins s σ H _ _ v us Q I rx rs ⟨_, rfl, rfl, by rw [sz_str]; exact hl, P0.here g h ?_⟩
      show V.str _ = V.str _
      simp
    · exact h.elim
theorem ok_indexS : MtR X "str.index" (rM X.K (mt .indexS)) := by
  rintro pins s σ H x xs v us Q I rx rs ⟨d, ds, G, μ, g, r, r0, h0⟩
  obtain ⟨e, rfl, h⟩ := P0.b1 (show Post0 X.K H μ (b1 _ ds G) _ from h0)
  obtain ⟨y, rfl, r'⟩ := RDs.c1 r0
  clear r0 h0
  cases d <;> try exact h.elim
  case str a =>
    have e1 : x = _ := r
    subst e1
    cases e <;> try exact h.elim
    case str z =>
      rcases z with _ | ⟨c, _ | ⟨c2, z⟩⟩ <;> try exact h.elim
      have e2 : y = _ := r'
      subst e2
      simp only [indexSD] at h
      split at h
      · rename_i i rest ho
        exact mt_sindex pins s σ H _ _ v us Q I rx rs ⟨_, _, i, rest, rfl, rfl, by rw [sz_str]; exact ho, P0.here g h rfl⟩
      · exact h.elim
theorem tup_find {K : PySem.W.Frag} {H : Hp} {μ : List Addr} {ss : List (List Nat)} {z : List Nat} {j : Nat} (h : ss.findIdx? (· == z) = some j) :
    (ss.map fun s => (⟨s.toArray⟩ : Str))[j]? = some ⟨z.toArray⟩ ∧ ∀ m, m < j → (ss.map fun s => (⟨s.toArray⟩ : Str))[m]? ≠ some ⟨z.toArray⟩ := by
  obtain ⟨hl, h1, h2⟩ := List.findIdx?_eq_some_iff_getElem.mp h
  refine ⟨?_, fun m hm => ?_⟩
  · rw [List.getElem?_map, List.getElem?_eq_getElem hl]
    have : ss[j] = z := by simpa using h1
    rw [this]; rfl
  · have hml : m < ss.length := by omega
    have := h2 m hm
    rw [List.getElem?_map, List.getElem?_eq_getElem hml]
    intro e
    apply this
    have e : (⟨ss[m].toArray⟩ : Str) = ⟨z.toArray⟩ := by simpa using e
    have : ss[m] = z := by simpa using congrArg (fun s : Str => s.cps.toList) e
    simp [this]
theorem ok_indexT : MtR X "tuple.index" (rM X.K (mt .indexT)) := by
  rintro pins s σ H x xs v us Q I rx rs ⟨d, ds, G, μ, g, r, r0, h0⟩
  obtain ⟨e, rfl, h⟩ := P0.b1 (show Post0 X.K H μ (b1 _ ds G) _ from h0)
  obtain ⟨y, rfl, r'⟩ := RDs.c1 r0
  clear r0 h0
  cases d <;> try exact h.elim
  case tup ys =>
    obtain ⟨a, vs, rfl, sq, rvs⟩ := r
    cases e <;> try exact h.elim
    case str z =>
      simp only [indexTD] at h
      split at h
      · rename_i ss hss
        obtain ⟨b, hb, h⟩ := okD_some h
        rw [Option.map_eq_some_iff] at hb
        obtain ⟨j, hj, rfl⟩ := hb
        have e2 := strs_rd hss rvs
        subst e2
        have e3 : y = .str ⟨z.toArray⟩ := r'
        subst e3
        obtain ⟨h1, h2⟩ := tup_find (K := X.K) (H := H) (μ := μ) hj
        exact mt_tup_index pins s σ H _ _ v us Q I rx rs ⟨a, _, _, j, rfl, rfl, sq, h1, h2, P0.here g h rfl⟩
      · exact h.elim
def mtT : Mt → String
  | .indexS | .join | .upper => "str"
  | .indexT => "tuple"
  | _ => "list"
theorem mtTy_rd {K : PySem.W.Frag} {H : Hp} {μ : List Addr} {G : Store} {m : Mt} (hm : m ≠ .indexT) (g : RG K H μ G) {d : D} {x : V} (h : mtTy m d G = true) (r : RD K H μ d x) : tyV K (mtT m) x H := by
  cases m <;> cases d <;> first | (cases h; done) | (exact absurd rfl hm) | skip
  all_goals first
    | (have e1 : x = _ := r; subst e1; rfl)
    | (rename_i n
       obtain ⟨a, rfl, ma⟩ := r
       obtain ⟨xs, hx⟩ := Option.isSome_iff_exists.mp (show (G.lst? n).isSome = true from h)
       obtain ⟨vs, rv, sq, _⟩ := g.sq hx ma
       exact .inl ⟨rfl, vs, sq⟩)
end
section
variable {X : Cx} {c : Ct}
theorem rE.mt {m : Mt} (hn : m ≠ .indexT) {f : ME} {fs : MEs} {σ : L2.St} {H : Hp} {Q : VK} (q : rE c (mMt m f fs) σ H Q) : tBM c.K (mtT m) (rM c.K (Cut.mt m)) (rE c f) (rA c fs) σ H Q := by
  obtain ⟨ρ, G, μ, re, rg, p⟩ := q
  refine ⟨ρ, G, μ, re, rg, p.bind.imp fun d G1 H1 μ1 x1 p1 g1 q1 v rv => ?_⟩
  split at q1
  · rename_i hm
    refine ⟨mtTy_rd hn g1 hm rv, ρ, G1, μ1, re.mono x1 p1, g1, q1.bind.imp fun ds G2 H2 μ2 x2 p2 g2 q2 vs rvs => ?_⟩
    exact ⟨d, ds, G2, μ2, g2, rv.mono x2 p2, rvs, q2.no⟩
  · exact q1.elim
/-- of a tuple of the module -/
theorem rE.ofTup {xs : List D} {v : V} (hv : ∀ H μ, RD c.K H μ (.tup xs) v) (ht : ∀ H, tyV c.K "tuple" v H) {fs : MEs} {σ : L2.St} {H : Hp} {Q : VK} (q : rE c (mMt .indexT (mK (.tup xs)) fs) σ H Q) : tBM c.K "tuple" (rM c.K (Cut.mt .indexT)) (fun _ H Q => Q v H) (rA c fs) σ H Q := by
  obtain ⟨ρ, G, μ, re, rg, p⟩ := q
  refine ⟨ht H, ρ, G, μ, re, rg, ?_⟩
  have p : Post c σ H μ ((fs ρ G).bind fun xs' G2 => noExc (Cut.mt .indexT (.tup xs) xs' G2)) _ := p
  refine p.bind.imp fun ds G2 H2 μ2 x2 p2 g2 q2 vs rvs => ?_
  exact ⟨_, ds, G2, μ2, g2, hv _ _, rvs, q2.no⟩
theorem rE.mt0 {m : Mt} (hn : m ≠ .indexT) {f : ME} {σ : L2.St} {H : Hp} {Q : VK} (q : rE c (mMt m f mNil) σ H Q) : tBM0 c.K (mtT m) (rM c.K (Cut.mt m)) (rE c f) σ H Q := by
  obtain ⟨ρ, G, μ, re, rg, p⟩ := q
  refine ⟨ρ, G, μ, re, rg, p.bind.imp fun d G1 H1 μ1 x1 p1 g1 q1 v rv => ?_⟩
  split at q1
  · rename_i hm
    refine ⟨mtTy_rd hn g1 hm rv, d, [], G1, μ1, g1, rv, rfl, Post.no (c := c) (σ := σ) ?_⟩
    exact q1
  · exact q1.elim
end
/-- a call by the evaluator -/
def spR (K : PySem.W.Frag) (ξ : XRel) (n : Nat) (F : List D → Store → R D) : Sp := fun vs H Q E => vs.length = n ∧ ∃ ds G μ, RG K H μ G ∧ RDs K H μ ds vs ∧ match F ds G with
  | .ok d G' => Aft K H μ G' fun H' μ' => ∀ v, RD K H' μ' d v → Q v H'
  | .exc k fs G' => Aft K H μ G' fun H' μ' => ∀ cls dd, ξ k fs H' μ' cls dd → E cls dd H'
  | .stuck => False
section
variable {X : Cx} {c : Ct}
theorem rE.own {n : Nat} {F : List D → Store → R D} {fs : MEs} {σ : L2.St} {H : Hp} {Q : VK} (hn : ∀ ds G, ds.length ≠ n → F ds G = .stuck) (q : rE c (mArgs F fs) σ H Q) : tCallS (spR c.K c.ξ n F) (WE c.W) (rA c fs) σ H Q := by
  obtain ⟨ρ, G, μ, re, rg, p⟩ := q
  refine ⟨ρ, G, μ, re, rg, p.bind.imp fun ds G1 H1 μ1 x1 p1 g1 q1 vs rvs => ?_⟩
  by_cases hl : ds.length = n
  · refine ⟨by rw [rvs.len]; exact hl, ds, G1, μ1, g1, rvs, ?_⟩
    cases h : F ds G1 with
    | ok d G2 => rw [h] at q1; exact q1
    | exc k fs G2 => rw [h] at q1; exact q1
    | stuck => rw [h] at q1; exact q1
  · rw [hn _ _ hl] at q1
    exact q1.elim
theorem rds_ints0 {K : PySem.W.Frag} {H : Hp} {μ : List Addr} : ∀ ns : List Int, RDs K H μ (ns.map D.int) (ns.map V.int)
  | [] => rfl
  | n :: ns => ⟨_, _, rfl, rfl, rds_ints0 ns⟩
theorem rE.ownD {n : Nat} {F : List D → Store → R D} {es : List Int} {fs : MEs} {σ : L2.St} {H : Hp} {Q : VK} (hn : ∀ ds G, ds.length ≠ n → F ds G = .stuck) (q : rE c (mArgs (fun xs G => F (xs ++ es.map .int) G) fs) σ H Q) : tCallSD (spR c.K c.ξ n F) (es.map V.int) (WE c.W) (rA c fs) σ H Q := by
  obtain ⟨ρ, G, μ, re, rg, p⟩ := q
  refine ⟨ρ, G, μ, re, rg, p.bind.imp fun ds G1 H1 μ1 x1 p1 g1 q1 vs rvs => ?_⟩
  have r2 : RDs c.K H1 μ1 (ds ++ es.map .int) (vs ++ es.map V.int) := rvs.app (rds_ints0 es)
  have q1 : Post c σ H1 μ1 (F (ds ++ es.map .int) G1) _ := q1
  by_cases hl : (ds ++ es.map D.int).length = n
  · refine ⟨by rw [r2.len]; exact hl, ds ++ es.map .int, G1, μ1, g1, r2, ?_⟩
    cases h : F (ds ++ es.map .int) G1 with
    | ok d G2 => rw [h] at q1; exact q1
    | exc k fs G2 => rw [h] at q1; exact q1
    | stuck => rw [h] at q1; exact q1
  · rw [hn _ _ hl] at q1
    exact q1.elim
theorem pe_call0S {CX : CXT} {k : Nat} {f : Addr} {fd : FuncData} {ps : List Str} {sp : Sp} {E : L2.St → XK} {x : Str} {p pos : Pos} (F : FnOk X.prog X.w X.K X.mg X.base CX k f fd ps sp) (hr : Room k X.A) (hg : Gl X x) (hm : X.mg x = some (.ref f)) (hk : PySem.W.keepIn X.K (.ref f) = true) (hb : Binds X.K fd ps []) (hx : ∀ σ, PassesAt CX X σ (E σ))
    (hdb : (x == ("__debug__" : Str)) = false) : PE X (.Call (.Name x p) [] [] pos) (tCallS sp E tNil) :=
  ⟨fun pins s σ H Q I h => wpAny_Call_Name_kw (ld_glob I hg hm (PySem.W.callWith_K0 I.kIn hk (run_fnS (us := []) F hr hb (hx σ) I .nil h)) hdb)⟩
end
end Cut
/-! all(..), any(..) of a generator expression over whatever the layer walks, its element any expression that gives a bool. -/
namespace Cut
open PySem PySem.Spec PyProof.Rows L2 GxR GenW

/-- the context of a generator expression's own frame -/
abbrev genX (X : Cx) (A : Around) (s : Shared) (H : Hp) (cenv : PySem.Env) (fp : List Addr) (pn : List (Addr × Obj)) : Cx :=
  { X with A := A, s_0 := s, H_0 := H, env := cenv, outer := X.stack, stack := cenv :: X.stack, ex := fp, fn := fun _ => false, pn := pn, xe := fun _ _ => False }
/-- the names of the expression's own frame -/
structure GenOk (N : List Str) (sc scope : Scope) (own : List (Str × Nat)) : Prop where
  b : BlkOk N sc scope own
  co : scope.isCoroutine = false
  nocell : ∀ y ∈ scope.names, y.2 ≠ .cell
  dot : scope.names.lookup (".0" : Str) = some NameKind.local

theorem over_gen {A : Around} {e it : Expr} {tg : Expr} {i : Value} {env : PySem.Env} {sc : Scope} {p : Pos} {l : List PySem.Env} (h : A.frames = some l) : (A.in1.in1.over (.compLoop (.GeneratorExp e [⟨tg, it, [], 0⟩] sc p) 0 i .none env) []).frames = some (env :: l) := by
  have e : ∀ (A : Around) (c : Code), (A.over c []).frames = pushEnvs c.envs (pushEnvs (envsOf []) A.frames) := fun _ _ => rfl
  rw [e]
  show pushEnvs _ (pushEnvs _ A.frames) = _
  rw [h]
  rfl
section
variable {X : Cx} {pins : List (Addr × Obj)} {σ : L2.St} {H : Hp} {s : Shared}
theorem gen_start {A : Around} {scope : Scope} {own : List (Str × Nat)} {fp : List Addr} {code : Value} {it : Value} {h' : Heap} {go : Obj} {g' : Array GenState} {t' : Nat} (I : Inv X pins σ H s) (ok : GenOk X.N X.env.scope scope own) (hN : X.N.Nodup) (hfp : ∀ b ∈ fp, FpOk X pins H b ∧ b < s.heap.objs.size)
    (hA : X.calm = true → A.handled = none) (hF : A.frames = some (genEnv scope (cloFrom X.env.cells scope.names []) s.heap.objs.size code builtinsNs X.env :: X.stack))
    (hn : h'.Ns s.heap.objs.size (fun y => if y = ".0" then some it else none)) (hs : Heap.SameBut s.heap.objs.size (s.heap.push { cls := .type "frame", data := .dict #[] }) h') (hgo : ∀ v, go.data ≠ .cell v) (hf : (h'.push go).get? h'.objs.size = some go) (hg : AllBare g') :
    Inv (genX X A s H (genEnv scope (cloFrom X.env.cells scope.names []) s.heap.objs.size code builtinsNs X.env) fp [(h'.objs.size, go)]) [] (wipe σ (own.map (·.2))) H { s with heap := h'.push go, gens := g', toks := t' } := by
  have hfree : ∀ y ∈ scope.names, y.2 = .free → ∃ c, X.env.cells.lookup y.1 = some c := fun y hy e => by
    rcases ok.b.free y hy e with k | k
    · exact I.ok.has _ (.inl k)
    · exact I.ok.has _ (.inr k)
  generalize hcenv : genEnv scope (cloFrom X.env.cells scope.names []) s.heap.objs.size code builtinsNs X.env = cenv at hF ⊢
  have hsz : h'.objs.size = s.heap.objs.size + 1 := by rw [hs.1, Heap.size_push]
  have kp0 : ∀ b o, s.heap.get? b = some o → h'.get? b = some o := fun b o e => hs.extBut b o (Nat.ne_of_lt (Heap.lt_size e)) (Heap.get?_push_of_some _ e)
  have kp : ∀ b o, s.heap.get? b = some o → (h'.push go).get? b = some o := fun b o e => Heap.get?_push_of_some _ (kp0 b o e)
  have hL : cenv.locals = s.heap.objs.size := by rw [← hcenv]; rfl
  have hcl : cenv.cells = cloFrom X.env.cells scope.names [] := by rw [← hcenv]; rfl
  have hsc : cenv.scope = scope := by rw [← hcenv]; rfl
  have cm : ∀ {y c}, (y, c) ∈ cloFrom X.env.cells scope.names [] → X.env.cells.lookup y = some c ∧ c < s.heap.objs.size := fun {y c} hm => by
    rcases cloFrom_mem hm with hm | ⟨h1, rfl⟩
    · cases hm
    · obtain ⟨c, hc⟩ := hfree _ h1 rfl
      rw [hc]
      obtain ⟨w, z⟩ := I.cell _ _ hc
      exact ⟨rfl, z.lt⟩
  have mem : ∀ {y c}, cenv.cells.lookup y = some c → X.env.cells.lookup y = some c ∧ c < s.heap.objs.size := fun {y c} e => by
    rw [hcl] at e
    exact cm (PySem.mem_of_lookup e)
  have look : ∀ {y}, scope.names.lookup y = some .free → ∃ c, cenv.cells.lookup y = some c ∧ X.env.cells.lookup y = some c := fun {y} hl => by
    have hy : (y, NameKind.free) ∈ scope.names := PySem.mem_of_lookup hl
    obtain ⟨c', e'⟩ := L2.mem_lookup (cloFrom_has (cells := X.env.cells) (acc := []) hy)
    rw [← hcl] at e'
    exact ⟨c', e', (mem e').1⟩
  have okB : (genX X A s H cenv fp [(h'.objs.size, go)]).Ok := by
    refine ⟨I.ok.mod, by show cenv.scope.kind = _; rw [hsc]; exact ok.b.kind, by show cenv.globals = _; rw [← hcenv]; exact I.ok.glob, by show cenv.builtins = _; rw [← hcenv]; rfl, by show s.heap.objs.size ≤ cenv.locals; rw [hL]; exact Nat.le_refl _,
      fun y z c e1 e2 => ?_, fun y hy => ?_, fun y c z e => ?_, hA, hF, .inr ⟨rfl, by show cenv.frame = some cenv.locals; rw [← hcenv]; rfl⟩, fun b hb => ⟨?_, fun y c e z => ?_⟩, I.bs, Nat.le_trans I.ok.bsz I.sz, fun b o e hb => ?_, fun b hb z => ?_, I.stack, I.stkFree⟩
    · exact I.ok.inj y z c (mem e1).1 (mem e2).1
    · have hy : scope.names.lookup y = some .cell ∨ scope.names.lookup y = some .free := by rw [← hsc]; exact hy
      rcases hy with hy | hy
      · exact absurd rfl (ok.nocell _ (PySem.mem_of_lookup hy))
      · obtain ⟨c, h1, _⟩ := look hy
        exact ⟨c, h1⟩
    · cases z
    · show b ≠ cenv.locals
      rw [hL]; exact Nat.ne_of_lt (hfp b hb).2
    · exact (hfp b hb).1.2.2.2.2.1 y c (mem e).1 z
    · rcases (hfp b hb).1.2.2.2.1 with z | z
      · exact I.ok.noex b o e z
      · exact absurd (Nat.lt_of_lt_of_le (Heap.lt_size e) (Nat.le_trans I.ok.bsz z)) (Nat.lt_irrefl _)
    · rcases List.mem_cons.mp (I.stkSub b z) with z | z
      · exact (hfp b hb).1.2.1 z
      · exact (hfp b hb).1.2.2.1 z
  refine ⟨okB, rfl, hg, Un.kept kp, ⟨fun y => if y = ".0" then some it else none, ?_, fun i y av e1 e2 e3 => ?_⟩, fun y c e => ?_, ?_, fun y c e => ?_, fun p hp => ?_, I.hok.kept kp, by rw [wipe_length]; exact I.len⟩
  · show Heap.Ns _ cenv.locals _
    rw [hL]
    exact hn.keeps fun b o e => Heap.get?_push_of_some _ e
  · obtain ⟨e2, hne⟩ := wipe_some e2
    have e3 : Vis cenv.scope y := e3
    rw [hsc] at e3
    have no : ∀ k, scope.names.lookup y = some k → ¬ (k = .local ∨ k = .cell) := fun k e hh => by
      rcases ok.b.own _ (PySem.mem_of_lookup e) hh with e' | e'
      · obtain ⟨p, hp, hpy⟩ := List.mem_map.mp e'
        have e3 := ok.b.ix p hp
        have : p.1 = y := hpy
        rw [this] at e3
        exact hne (List.mem_map.mpr ⟨p, hp, nodup_ix hN e3 e1⟩)
      · exact e' (List.mem_of_getElem? e1)
    rcases e3 with e3 | e3 | e3
    · exact absurd (.inl rfl) (no _ e3)
    · exact absurd (.inr rfl) (no _ e3)
    obtain ⟨m, hn, hl⟩ := I.loc
    have hvis : Vis X.env.scope y := (ok.b.free _ (PySem.mem_of_lookup e3) rfl).elim (fun k => .inr (.inl k)) (fun k => .inr (.inr k))
    obtain ⟨w, r, q⟩ := hl i y av e1 e2 hvis
    refine ⟨w, r, .inr ⟨.inr (show cenv.scope.names.lookup y = _ by rw [hsc]; exact e3), ?_⟩⟩
    obtain ⟨c, h1, h2⟩ := look e3
    rcases q with ⟨k, _⟩ | ⟨_, c', e', z⟩
    · have k : X.env.scope.names.lookup y = some .local := k
      rcases ok.b.free _ (PySem.mem_of_lookup e3) rfl with k' | k' <;> rw [show X.env.scope.names.lookup y = _ from k'] at k <;> cases k
    · rw [h2] at e'; cases e'
      exact ⟨c, h1, z.keeps kp⟩
  · obtain ⟨h1, _⟩ := mem e
    obtain ⟨w, z⟩ := I.cell y c h1
    exact ⟨w, z.keeps kp⟩
  · show H cenv.locals = none
    rw [hL]; exact I.hok.fresh (Nat.le_refl _)
  · exact I.freeC y c (mem e).1
  · have hp : p = (h'.objs.size, go) := by simpa using hp
    subst hp
    refine ⟨hf, I.hok.fresh (by rw [hsz]; exact Nat.le_succ _), ?_, fun z => ?_, hgo⟩
    · show h'.objs.size ≠ cenv.locals
      rw [hL, hsz]; exact Nat.succ_ne_self _
    · rcases List.mem_cons.mp (I.stkSub _ z) with e | e
      · have h1 := I.lt
        rw [← e, hsz] at h1
        exact absurd (Nat.lt_of_succ_lt h1) (Nat.lt_irrefl _)
      · exact I.nofs (a := h'.objs.size) (by rw [hsz]; exact Nat.le_succ _) e

/-- all(elt for target in iter), any(..): W by the turn and a measure, Nx what a turn is to reach; the def's table may have grown ahead of the first turn -/
def tGen (al : Bool) (P : Addr) (wi : TI) (g : TG) (te : TE) (vs : List Nat) : TE := fun σ H Q => wi σ H fun J H1 => TabG H1 P ∧ ∀ H2, Tabbed P H1 H2 → ∃ W : Nat → Nat → Hp → Prop, (∃ m, W 0 m H2) ∧ ∀ i m H, W i m H →
  (J.stop i H ∧ Q (.bl al) H) ∨ (J.go i H ∧ ∃ Nx : Hp → Prop, (∀ H', Nx H' → ∃ m', m' < m ∧ W (i + 1) m' H') ∧ ∀ x H', J.yld i H x H' → g x (wipe σ vs) H' fun σ2 H2 => wipe σ2 vs = wipe σ vs ∧ te σ2 H2 fun y H3 =>
    ∃ b : Bool, y = .bl b ∧ (if b = al then Nx H3 else Q (.bl (!al)) H3))
end

/-! ### the generator's run -/
section
variable {X : Cx} {σw : L2.St} {elt tg iter : Expr} {scope : Scope} {pos : Pos} {J : L2.It} {it : Addr} {fp : List Addr} {tn : Nat → Heap → Prop} {W : Nat → Nat → Hp → Prop} {Q : VK} {al : Bool} {g : TG} {te : TE} {vs : List Nat}
def RGen (X : Cx) (σw : L2.St) (Q : VK) (al : Bool) : GenEnd := fun n s₀ r s1 => r = .ok .next ∧ ∃ H', Inv X [] σw H' s1 ∧ Q (.bl al) H'
def YGen (X : Cx) (σw : L2.St) (Q : VK) (al : Bool) : Protocol := fun n s₀ v s1 kap => ∃ (b : Bool) (H' : Hp), v = .bool b ∧ Inv X [] σw H' s1 ∧
  (b = al → ∀ s'', s''.os = s1.os → AllBare s''.gens → (∀ c o, s1.heap.get? c = some o → s''.heap.get? c = some o) → kap (.send .none) s'') ∧ (b ≠ al → Q (.bl (!al)) H')
/-- the turns of W -/
def Turns (X : Cx) (J : L2.It) (W : Nat → Nat → Hp → Prop) (σw : L2.St) (Q : VK) (al : Bool) (g : TG) (te : TE) (vs : List Nat) : Prop := ∀ i m H, W i m H →
  (J.stop i H ∧ Q (.bl al) H) ∨ (J.go i H ∧ ∃ Nx : Hp → Prop, (∀ H', Nx H' → ∃ m', m' < m ∧ W (i + 1) m' H') ∧ ∀ x H', J.yld i H x H' → g x σw H' fun σ2 H2 => wipe σ2 vs = σw ∧ te σ2 H2 fun y H3 =>
    ∃ b : Bool, y = .bl b ∧ (if b = al then Nx H3 else Q (.bl (!al)) H3))
theorem seg_gen {A : Around} {σ : L2.St} (hA : A.over (.compLoop (.GeneratorExp elt [⟨tg, iter, [], 0⟩] scope pos) 0 (.ref it) .none X.env) [] = X.A) (hc : X.calm = true) (hxe : X.xe = fun _ _ => False) (hpn : ∀ p ∈ X.pn, p.1 ∉ fp) (hfp : X.ex = fp)
    (T : Turn X.prog X.w X.K tg J fp it tn) (hsw : σw = wipe σ vs) (hco : X.env.scope.isCoroutine = false) (pg : PG X tg g) (pe : PE X elt te) (turn : Turns X J W σw Q al g te vs) :
    ∀ (n m i : Nat) (s₀ s : Shared) (H : Hp), m < n → Inv X [] σw H s → tn i s.heap → (∀ b ∈ fp, H b = none) → W i m H →
      Seg (model X.prog X.w) A (RGen X σw Q al) (YGen X σw Q al) n s₀ (.compLoop (.GeneratorExp elt [⟨tg, iter, [], 0⟩] scope pos) 0 (.ref it) .none X.env)
        ((model X.prog X.w).den (.compLoop (.GeneratorExp elt [⟨tg, iter, [], 0⟩] scope pos) 0 (.ref it) .none X.env)) [] s := by
  have stat : ∀ {σ' : L2.St} {H' : Hp} {s' : Shared}, Inv X [] σ' H' s' → (∀ b ∈ fp, H' b = none) → ∀ b ∈ fp, FpOk X [] H' b := fun {σ' H' s'} I' hn b hb =>
    ⟨hn b hb, (I'.ok.exf b (hfp ▸ hb)).1, I'.ok.exfs b (hfp ▸ hb), .inl (hfp ▸ hb), fun x c e => (I'.ok.exf b (hfp ▸ hb)).2 x c e, fun p hp e => by
      rw [List.append_nil] at hp
      exact hpn p hp (e ▸ hb)⟩
  intro n
  induction n with
  | zero => intro m i s₀ s H hm; exact absurd hm (Nat.not_lt_zero _)
  | succ n ih =>
    intro m i s₀ s H hm I st hn hw
    show Seg _ A _ _ _ s₀ _ ((compTurn (.GeneratorExp elt [⟨tg, iter, [], 0⟩] scope pos) 0 (.ref it) .none X.env).onRaise (leaving X.env)) [] s
    rw [compTurn_gen, Sem.onRaise_eq_wrap]
    refine seg_bind_wrap (wpAny_standAt ?_)
    refine seg_bind_wrap ?_
    rw [hA]
    rcases turn i m H hw with ⟨stop, qq⟩ | ⟨go, Nx, hNx, step⟩
    · refine thnF (T.done X rfl rfl rfl hc i [] s _ H (fun _ _ => False) I (stat I hn) st stop) fun r s6 ⟨hr, I6⟩ => ?_
      subst hr
      exact seg_end (.ok .next) ⟨rfl, H, I6, qq⟩
    · refine thnF (T.item X rfl rfl rfl hc i [] s _ H (fun _ _ => False) I (stat I hn) st go) fun r s6 ⟨u, hr, h6⟩ => ?_
      subst hr
      refine seg_bind_wrap ?_
      rw [hA]
      refine thnF h6 fun _ s7 ⟨x, H7, I7, r7, y7, st7, n7⟩ => ?_
      have I7' := I7.pinned (stat I7 n7) (T.obj _ _ st7)
      refine seg_bind_wrap ?_
      rw [hA]
      have pgr := pg.run _ s7 _ H7 x u _ I7' r7 (step x H7 y7)
      rw [hxe] at pgr
      refine thnF pgr fun _ s8 ⟨σ8, H8, I8, hw8, q8⟩ => ?_
      refine seg_bind_wrap (wpAny_tests_nil ?_)
      simp only [if_true]
      have hy : ∀ v, yieldOut X.env v = yieldValue v := fun v => by simp only [yieldOut, hco, Bool.false_eq_true, if_false]
      simp only [hy]
      rw [Sem.bind_eq_wrap', Sem.bind_eq_wrap', Sem.wrap_wrap, Sem.wrap_wrap]
      refine seg_wrap ?_
      rw [hA]
      have per := pe.run _ s8 σ8 H8 _ I8 q8
      rw [hxe] at per
      refine thnF per fun v s9 ⟨y, H9, I9, ry, b, ey, hb⟩ => ?_
      subst ey
      have ev : v = .bool b := ry
      subst ev
      have hl : σw.length = σ8.length := by rw [← hw8, wipe_length]
      have I9' : Inv X [] σw H9 s9 := (I9.unpinned (pins := [])).weak hl (fun j v e => by rw [← hw8] at e; exact (wipe_some e).1)
      have pin' : ∀ b ∈ fp, ∀ o, s7.heap.get? b = some o → s9.heap.get? b = some o ∧ H9 b = none := fun b hb o e =>
        let z := I9.pin (b, o) (List.mem_append_right _ (List.mem_append_right _ (mem_pinsAt hb e)))
        ⟨z.1, z.2.1⟩
      have st9 : tn (i + 1) s9.heap := T.keep _ _ _ st7 fun b hb o e => (pin' b hb o e).1
      have n9 : ∀ b ∈ fp, H9 b = none := fun b hb => by
        obtain ⟨o, e, _⟩ := T.obj _ _ st7 b hb
        exact (pin' b hb o e).2
      refine seg_at (seg_yield rfl rfl rfl ?_)
      refine ⟨b, H9, rfl, I9', fun hba s'' ho hg hk => ?_, fun hba => ?_⟩
      · rw [if_pos hba] at hb
        obtain ⟨m', hm', w'⟩ := hNx H9 hb
        refine seg_again rfl (ih m' (i + 1) s'' s'' H9 (by omega) ?_ (T.keep _ _ _ st9 fun b _ o e => hk b o e) n9 w')
        exact I9'.call' (ch := []) ho (Un.kept hk) (I9'.hok.kept hk) hg fun b z => by simp at z
      · rw [if_neg hba] at hb
        exact hb
/-- from its beginning -/
theorem seg_gen0 {A : Around} {σ : L2.St} (hA : A.over (.compLoop (.GeneratorExp elt [⟨tg, iter, [], 0⟩] scope pos) 0 (.ref it) .none X.env) [] = X.A) (hc : X.calm = true) (hxe : X.xe = fun _ _ => False) (hpn : ∀ p ∈ X.pn, p.1 ∉ fp) (hfp : X.ex = fp)
    (T : Turn X.prog X.w X.K tg J fp it tn) (hsw : σw = wipe σ vs) (hco : X.env.scope.isCoroutine = false) (pg : PG X tg g) (pe : PE X elt te) (turn : Turns X J W σw Q al g te vs) {n m i : Nat} {s₀ s : Shared} {H : Hp} (hm : m < n) (I : Inv X [] σw H s) (st : tn i s.heap) (hn : ∀ b ∈ fp, H b = none) (hw : W i m H) :
      Seg (model X.prog X.w) A (RGen X σw Q al) (YGen X σw Q al) n s₀ (.compStart (.GeneratorExp elt [⟨tg, iter, [], 0⟩] scope pos) 0 (.ref it) .none X.env)
        ((model X.prog X.w).den (.compStart (.GeneratorExp elt [⟨tg, iter, [], 0⟩] scope pos) 0 (.ref it) .none X.env)) [] s := by
  have loop := seg_gen hA hc hxe hpn hfp T hsw hco pg pe turn n m i s₀ _ H hm I st hn hw
  show Seg _ A _ _ _ s₀ _ ((compStart (.GeneratorExp elt [⟨tg, iter, [], 0⟩] scope pos) 0 (.ref it) .none X.env).onRaise (leaving X.env)) [] s
  unfold compStart
  rw [Sem.onRaise_eq_wrap]
  show Seg _ A _ _ _ s₀ _ ((ask >>= _).wrap _ _ _ _) [] s
  refine seg_bind_wrap (wpAny_askSetting ?_)
  split
  · exact seg_again rfl loop
  · first
      | exact seg_bind_wrap (wpAny_rule (seg_bind_wrap (wpAny_standAt (seg_bind_wrap (T.self _ i s _ _ st (seg_again rfl loop))))))
      | (refine seg_bind_wrap (wpAny_rule ?_); show Seg _ A _ _ _ s₀ _ ((standAt iter.pos >>= _).wrap _ _ _ _) [] s; exact seg_bind_wrap (wpAny_standAt (seg_bind_wrap (T.self _ i s _ _ st (seg_again rfl loop)))))

/-! ### all, any -/
/-- the generator at a, number g, sleeps or has not begun: its next run -/
def GAt (X : Cx) (σw : L2.St) (Q : VK) (al : Bool) (A : Around) (a : Addr) (gn n : Nat) (s : Shared) : Prop :=
  ∃ gs, s.gens[gn]? = some gs ∧ ∀ s'', s''.os = s.os → AllBare s''.gens → (∀ c o, s.heap.get? c = some o → s''.heap.get? c = some o) → gs.Goes (model X.prog X.w) A (RGen X σw Q al) (YGen X σw Q al) n (.send .none) s''
theorem next_gen {A : Around} {a : Addr} {gn n : Nat} {s : Shared} {P : Option Value → Shared → Prop} {E : Value → Shared → Prop} (hh : A.handled = none) (hd : A.depth < recursionLimit) (hl : s.heap.NoLimit) (hg : s.heap.IsGen a gn) (hb : AllBare s.gens) (hG : GAt X σw Q al A.in1 a gn n s)
    (hend : ∀ s' H', s'.os = X.s_0.os → AllBare s'.gens → Inv X [] σw H' s' → Q (.bl al) H' → P none s')
    (hgo : ∀ s' m, n = m + 1 → AllBare s'.gens → (∃ H', Inv X [] σw H' s') → GAt X σw Q al A.in1 a gn m s' → P (some (.bool al)) s')
    (hout : ∀ s' H', Inv X [] σw H' s' → Q (.bl (!al)) H' → P (some (.bool (!al))) s') : wpAny (model X.prog X.w) A (pyNext (.ref a)) P E s := by
  obtain ⟨gs, hgs, go⟩ := hG
  have hgl : gn < s.gens.size := (Array.getElem?_eq_some_iff.mp hgs).1
  refine wpAny_gsz (n := gn + 1) hgl (wpAny_pyNext_genexpQ (P := fun n s₀ s1 => ∃ H', Inv X [] σw H' s1 ∧ Q (.bl al) H') hh hl hd hg hgs (go (s.setGen gn .running) rfl (allBare_setGen hb rfl) fun _ _ e => e) (fun v s1 gs' hbare hv hsz => ?_) (fun s1 hp h' hk hsz => ?_))
  · obtain ⟨b, H', rfl, I', h1, h2⟩ := hv
    have I2 : Inv X [] σw H' (s1.setGen gn gs') := I'.call' (ch := []) rfl (Un.kept fun _ _ e => e) I'.hok (allBare_setGen I'.bare hbare) fun b z => by simp at z
    by_cases hba : b = al
    · subst hba
      have h1 := h1 rfl
      cases n with
      | zero => exact False.elim (h1 s1 rfl I'.bare fun _ _ e => e)
      | succ m => exact hgo _ m rfl I2.bare ⟨H', I2⟩ ⟨gs', setGen_at (by
          have q := setGen_size s1 gn gs'
          omega), fun s'' ho hg hk => h1 s'' ho hg hk⟩
    · have e : b = !al := by cases b <;> cases al <;> simp_all
      subst e
      exact hout _ H' I2 (h2 hba)
  · obtain ⟨H', I', q⟩ := hp
    have I2 : Inv X [] σw H' { s1.setGen gn .finished with heap := h' } := I'.call' (ch := []) rfl (Un.kept hk) (I'.hok.kept hk) (allBare_setGen I'.bare rfl) fun b z => by simp at z
    exact hend _ H' I2.os I2.bare I2 q
theorem loop_all {A : Around} {a : Addr} {gn : Nat} {go : Obj} {R : Result → Shared → Prop} (hh : A.handled = none) (hd : A.depth < recursionLimit) (hgo : (a, go) ∈ X.pn) (hgen : ∀ h : Heap, h.get? a = some go → h.IsGen a gn)
    (hR1 : ∀ s' H', Inv X [] σw H' s' → Q (.bl true) H' → R (.ok (.ret (.bool true))) s') (hR2 : ∀ s' H', Inv X [] σw H' s' → Q (.bl false) H' → R (.ok (.ret (.bool false))) s') :
    ∀ (n : Nat) (s : Shared) (H : Hp), Inv X [] σw H s → GAt X σw Q true A.in1.in1 a gn n s → codeAny (model X.prog X.w) A (.builtin "all.loop" ⟨[.ref a], []⟩) R s := by
  intro n
  induction n with
  | zero =>
    intro s H I hG
    have hg := hgen s.heap (I.pin (a, go) (List.mem_append_left _ hgo)).1
    refine codeAny_builtin F.entry_all_loop ?_
    rw [Around.under_plainId F.plain_all_loop _]
    show wpAny _ A.in1 (pyNext (.ref a) >>= _) _ _ s
    refine wpAny_bind (next_gen (A := A.in1) hh hd I.nolimit hg I.bare hG (fun s' H' _ _ I' q => ?_) (fun s' m e _ _ _ => by omega) (fun s' H' I' q => ?_))
    · exact wpAny_bind (wpAny_rule (wpAny_pure (hR1 s' H' I' q)))
    · refine wpAny_bind (wpAny_holding (wpAny_truthy_bool ?_))
      refine wpAny_bind (wpAny_letGo ?_)
      exact wpAny_bind (wpAny_rule (wpAny_pure (hR2 s' H' I' q)))
  | succ n ih =>
    intro s H I hG
    have hg := hgen s.heap (I.pin (a, go) (List.mem_append_left _ hgo)).1
    refine codeAny_builtin F.entry_all_loop ?_
    rw [Around.under_plainId F.plain_all_loop _]
    show wpAny _ A.in1 (pyNext (.ref a) >>= _) _ _ s
    refine wpAny_bind (next_gen (A := A.in1) hh hd I.nolimit hg I.bare hG (fun s' H' _ _ I' q => ?_) (fun s' m e _ ⟨H', I'⟩ hG' => ?_) (fun s' H' I' q => ?_))
    · exact wpAny_bind (wpAny_rule (wpAny_pure (hR1 s' H' I' q)))
    · have e : m = n := by omega
      subst e
      refine wpAny_bind (wpAny_holding (wpAny_truthy_bool ?_))
      refine wpAny_bind (wpAny_letGo ?_)
      simp only [if_true]
      exact wpAny_pure ⟨plainId_quiet F.plain_all_loop _, ih s' H' I' hG'⟩
    · refine wpAny_bind (wpAny_holding (wpAny_truthy_bool ?_))
      refine wpAny_bind (wpAny_letGo ?_)
      exact wpAny_bind (wpAny_rule (wpAny_pure (hR2 s' H' I' q)))
theorem loop_any {A : Around} {a : Addr} {gn : Nat} {go : Obj} {R : Result → Shared → Prop} (hh : A.handled = none) (hd : A.depth < recursionLimit) (hgo : (a, go) ∈ X.pn) (hgen : ∀ h : Heap, h.get? a = some go → h.IsGen a gn)
    (hR1 : ∀ s' H', Inv X [] σw H' s' → Q (.bl false) H' → R (.ok (.ret (.bool false))) s') (hR2 : ∀ s' H', Inv X [] σw H' s' → Q (.bl true) H' → R (.ok (.ret (.bool true))) s') :
    ∀ (n : Nat) (s : Shared) (H : Hp), Inv X [] σw H s → GAt X σw Q false A.in1.in1 a gn n s → codeAny (model X.prog X.w) A (.builtin "any.loop" ⟨[.ref a], []⟩) R s := by
  intro n
  induction n with
  | zero =>
    intro s H I hG
    have hg := hgen s.heap (I.pin (a, go) (List.mem_append_left _ hgo)).1
    refine codeAny_builtin F.entry_any_loop ?_
    rw [Around.under_plainId F.plain_any_loop _]
    show wpAny _ A.in1 (pyNext (.ref a) >>= _) _ _ s
    refine wpAny_bind (next_gen (A := A.in1) hh hd I.nolimit hg I.bare hG (fun s' H' _ _ I' q => ?_) (fun s' m e _ _ _ => by omega) (fun s' H' I' q => ?_))
    · exact wpAny_bind (wpAny_rule (wpAny_pure (hR1 s' H' I' q)))
    · refine wpAny_bind (wpAny_holding (wpAny_truthy_bool ?_))
      refine wpAny_bind (wpAny_letGo ?_)
      exact wpAny_bind (wpAny_rule (wpAny_pure (hR2 s' H' I' q)))
  | succ n ih =>
    intro s H I hG
    have hg := hgen s.heap (I.pin (a, go) (List.mem_append_left _ hgo)).1
    refine codeAny_builtin F.entry_any_loop ?_
    rw [Around.under_plainId F.plain_any_loop _]
    show wpAny _ A.in1 (pyNext (.ref a) >>= _) _ _ s
    refine wpAny_bind (next_gen (A := A.in1) hh hd I.nolimit hg I.bare hG (fun s' H' _ _ I' q => ?_) (fun s' m e _ ⟨H', I'⟩ hG' => ?_) (fun s' H' I' q => ?_))
    · exact wpAny_bind (wpAny_rule (wpAny_pure (hR1 s' H' I' q)))
    · have e : m = n := by omega
      subst e
      refine wpAny_bind (wpAny_holding (wpAny_truthy_bool ?_))
      refine wpAny_bind (wpAny_letGo ?_)
      simp only [Bool.false_eq_true, if_false]
      exact wpAny_pure ⟨plainId_quiet F.plain_any_loop _, ih s' H' I' hG'⟩
    · refine wpAny_bind (wpAny_holding (wpAny_truthy_bool ?_))
      refine wpAny_bind (wpAny_letGo ?_)
      exact wpAny_bind (wpAny_rule (wpAny_pure (hR2 s' H' I' q)))
end

/-! ### the expression -/
section
variable {X : Cx}
/-- where the element stands -/
structure InGen (X : Cx) (A : Around) : Prop where
  hd : A.handled = X.A.handled
  dp : A.depth = X.A.depth + 1
  un : A.units = X.A.units + 5
theorem InGen.room {X : Cx} {A : Around} {k : Nat} (h : InGen X A) (r : Room (k + 1) X.A) : Room k A := by
  obtain ⟨h1, h2, h3⟩ := h
  obtain ⟨r1, r2, r3⟩ := r
  exact ⟨h1.trans r1, by omega, by omega⟩
/-- the generator is made -/
def Made (X : Cx) (pins : List (Addr × Obj)) (σ : L2.St) (al : Bool) (Q : VK) (u : Value) (s5 : Shared) : Prop :=
  ∃ (Y : Cx) (σw : L2.St) (H5 : Hp) (a : Addr) (gn n : Nat) (go : Obj), Y.prog = X.prog ∧ Y.w = X.w ∧ u = .ref a ∧ (a, go) ∈ Y.pn ∧ (∀ h : Heap, h.get? a = some go → h.IsGen a gn) ∧ Inv Y [] σw H5 s5 ∧ GAt Y σw Q al X.A.in1.in1 a gn n s5 ∧ ∀ s' H', Inv Y [] σw H' s' → Inv X pins σ H' s'
theorem gen_made {c P : Addr} {elt tg iter : Expr} {scope : Scope} {own : List (Str × Nat)} {gpos : Pos} {wi : TI} {g : TG} {te : TE} {k : Nat} {al : Bool} {pins : List (Addr × Obj)} {s : Shared} {σ : L2.St} {H : Hp} {Q : VK}
    (hr : Room k X.A) (hc : X.calm = true) (hN : X.N.Nodup) (TB : GxR.TabB X.base X.mg c P) (hcode : X.env.code = .ref c) (ok : GenOk X.N X.env.scope scope own) (hi : PI X tg iter wi)
    (hg : ∀ (A : Around) (s : Shared) (H : Hp) (C : Addr) (cl : List (Str × Addr)) (cd : Value) (fp : List Addr) (pn : List (Addr × Obj)), InGen X A → PG (genX X A s H (genEnv scope cl C cd builtinsNs X.env) fp pn) tg g)
    (he : ∀ (A : Around) (s : Shared) (H : Hp) (C : Addr) (cl : List (Str × Addr)) (cd : Value) (fp : List Addr) (pn : List (Addr × Obj)), InGen X A → PE (genX X A s H (genEnv scope cl C cd builtinsNs X.env) fp pn) elt te)
    (hs : ∀ v, genFold iter X.env v = pure v) (I : Inv X pins σ H s) (h : tGen al P wi g te (own.map (·.2)) σ H Q) :
    wpAny (model X.prog X.w) X.A (eval (.GeneratorExp elt [⟨tg, iter, [], 0⟩] scope gpos) X.env) (Made X pins σ al Q) X.xe s := by
  have hfree : ∀ y ∈ scope.names, y.2 = .free → ∃ c, X.env.cells.lookup y.1 = some c := fun y hy e => by
    rcases ok.b.free y hy e with k | k
    · exact I.ok.has _ (.inl k)
    · exact I.ok.has _ (.inr k)
  refine wpAny_GeneratorExp_make ok.co (closure_ok hfree) ok.nocell ok.dot ok.b.kind (by have := hr.dp; omega) ?_ hs
  refine thn (hi.run pins s σ H _ I h) fun xv s1 hx => thn hx fun itv s2 h2 => ?_
  obtain ⟨it, fp, tn, J, H1, e, I2, T, st2, f2, ⟨ps, hP, ht⟩, q⟩ := h2
  subst e
  have hPs : s2.heap.get? P = some { cls := .none, data := .fields ps } := I2.hok P _ hP
  have hPlt : P < s2.heap.objs.size := Heap.lt_size hPs
  have cd : PySem.W.CodeHd s2.heap c P := TB.code.keeps fun b u e => I2.bk b u e
  refine ⟨I2.nolimit, ?_⟩
  have cont : ∀ (code : Value) (h3 : Heap) (tk : Nat) (ps' : Array Value), Heap.ExtBut P s2.heap h3 → s2.heap.objs.size ≤ h3.objs.size → h3.get? P = some { cls := .none, data := .fields ps' } → (∃ more, ps' = ps ++ more) → TriplesOk ps'.toList →
      wpAny (model X.prog X.w) X.A (builtinsFor X.env.globals X.env.builtins) (fun bi s₄ =>
        ∀ h', h'.Ns s₄.heap.objs.size (fun y => if y = ".0" then some (.ref it) else none) → Heap.SameBut s₄.heap.objs.size (s₄.heap.push { cls := .type "frame", data := .dict #[] }) h' →
          Made X pins σ al Q (.ref h'.objs.size) { s₄ with
            gens := s₄.gens.push (.fresh (.compStart (.GeneratorExp elt [⟨tg, iter, [], 0⟩] scope gpos) 0 (.ref it) .none (genEnv scope (cloFrom X.env.cells scope.names []) s₄.heap.objs.size code bi X.env))),
            toks := s₄.toks + 1 + 1 + 1,
            heap := h'.push { cls := .type "generator", data := .fields #[.int s₄.gens.size 0, .str "<genexpr>" (s₄.toks + 1), .str (X.env.qual ++ "<genexpr>") (s₄.toks + 1 + 1)] } }) X.xe { s2 with heap := h3, toks := tk } := by
    intro code h3 tk ps' hx hsz hP3 hmore ht3
    obtain ⟨bm, ob, e1, e2, e3, e4, e5, e6, e7, e8⟩ := TB.bm
    have hcP : cStatics ≠ P := fun e => by
      obtain ⟨_, hns, _⟩ := I2.nolimit
      obtain ⟨o', es, ep, ho, hd, _⟩ := hns
      rw [e, hPs] at ho
      cases ho
      cases hd
    have keep3 : ∀ b u, b ≠ P → s2.heap.get? b = some u → h3.get? b = some u := fun b u hb e => hx b u hb e
    obtain ⟨more, em⟩ := hmore
    have I3 : Inv X pins σ (upd H1 P (.tbl (ps ++ more))) { s2 with heap := h3, toks := tk } := inv_tab (g' := s2.gens) (d' := s2.drawn) I2 hP keep3 (by rw [← em]; exact hP3) I2.bare
    refine wpAny_builtinsFor (m := X.mg) (by rw [I2.ok.glob]; exact (I2.mod.glob.keeps I2.bk).extBut hx TB.gP) e1 e2 (keep3 _ _ e4 (I2.bk _ _ e5)) e6 e7 e8 ?_
    intro h' hn' hs'
    have hT : Tabbed P H1 (upd H1 P (.tbl (ps ++ more))) := ⟨⟨ps ++ more, upd_same, by rw [← em]; exact ht3⟩, fun b hb => upd_ne hb⟩
    obtain ⟨W, ⟨m0, w0⟩, turn⟩ := q _ hT
    have sz : ∀ b ∈ fp, b < s2.heap.objs.size := fun b hb => by
      obtain ⟨o, e, _⟩ := T.obj _ _ st2 b hb
      exact Heap.lt_size e
    have nP : ∀ b ∈ fp, b ≠ P := fun b hb z => by
      have := (f2 b hb).1
      rw [z, hP] at this
      cases this
    have f3 : ∀ b ∈ fp, FpOk X pins (upd H1 P (.tbl (ps ++ more))) b ∧ b < h3.objs.size := fun b hb => by
      refine ⟨⟨?_, (f2 b hb).2⟩, Nat.lt_of_lt_of_le (sz b hb) hsz⟩
      rw [upd_ne (nP b hb)]
      exact (f2 b hb).1
    have st3 : tn 0 h3 := T.keep _ _ _ st2 fun b hb o e => keep3 b o (nP b hb) e
    generalize hH3 : upd H1 P (.tbl (ps ++ more)) = H3 at I3 hT w0 turn f3
    generalize hs3 : ({ s2 with heap := h3, toks := tk } : Shared) = s3 at I3 hn' hs' ⊢
    have hh3 : s3.heap = h3 := by rw [← hs3]
    rw [← hh3] at st3 f3
    generalize hgo : ({ cls := .type "generator", data := .fields #[.int s3.gens.size 0, .str "<genexpr>" (s3.toks + 1), .str (X.env.qual ++ "<genexpr>") (s3.toks + 1 + 1)] } : Obj) = go
    have hgen : ∀ h : Heap, h.get? h'.objs.size = some go → h.IsGen h'.objs.size s3.gens.size := fun h e => ⟨go, _, _, e, by rw [← hgo], by rw [← hgo], by rw [← hgo]⟩
    have pushed : (h'.push go).get? h'.objs.size = some go := by rw [← hgo]; exact Heap.get?_push_size _ rfl
    have hsz' : h'.objs.size = s3.heap.objs.size + 1 := by rw [hs'.1, Heap.size_push]
    have I5 := gen_start (A := X.A.in1.in1.over (.compLoop (.GeneratorExp elt [⟨tg, iter, [], 0⟩] scope gpos) 0 (.ref it) .none (genEnv scope (cloFrom X.env.cells scope.names []) s3.heap.objs.size code builtinsNs X.env)) [])
      (code := code) (go := go) (g' := s3.gens.push (.fresh (.compStart (.GeneratorExp elt [⟨tg, iter, [], 0⟩] scope gpos) 0 (.ref it) .none (genEnv scope (cloFrom X.env.cells scope.names []) s3.heap.objs.size code builtinsNs X.env)))) (t' := s3.toks + 1 + 1 + 1) I3 ok hN f3
      (fun hcalm => I3.ok.hd hcalm) (over_gen I3.ok.frames) hn' hs' (fun v z => by rw [← hgo] at z; cases z) pushed (AllBare.push I3.bare rfl)
    generalize hce : genEnv scope (cloFrom X.env.cells scope.names []) s3.heap.objs.size code builtinsNs X.env = ce at I5 ⊢
    have hpg := hg (X.A.in1.in1.over (.compLoop (.GeneratorExp elt [⟨tg, iter, [], 0⟩] scope gpos) 0 (.ref it) .none ce) []) s3 H3 s3.heap.objs.size (cloFrom X.env.cells scope.names []) code fp [(h'.objs.size, go)] ⟨rfl, rfl, rfl⟩
    have hpe := he (X.A.in1.in1.over (.compLoop (.GeneratorExp elt [⟨tg, iter, [], 0⟩] scope gpos) 0 (.ref it) .none ce) []) s3 H3 s3.heap.objs.size (cloFrom X.env.cells scope.names []) code fp [(h'.objs.size, go)] ⟨rfl, rfl, rfl⟩
    rw [hce] at hpg hpe
    obtain ⟨vs, hvs⟩ : ∃ vs, vs = own.map (·.2) := ⟨_, rfl⟩
    rw [← hvs] at turn I5
    refine ⟨genX X (X.A.in1.in1.over (.compLoop (.GeneratorExp elt [⟨tg, iter, [], 0⟩] scope gpos) 0 (.ref it) .none ce) []) s3 H3 ce fp [(h'.objs.size, go)], wipe σ vs, H3, h'.objs.size, s3.gens.size, m0 + 1, go, rfl, rfl, rfl, ?_, hgen, I5, ⟨_, Array.getElem?_push_size .., fun s'' ho hb hk => ⟨rfl, ?_⟩⟩, fun s' H' I' => ?_⟩
    · exact List.mem_singleton.mpr rfl
    · refine seg_gen0 (X := genX X (X.A.in1.in1.over (.compLoop (.GeneratorExp elt [⟨tg, iter, [], 0⟩] scope gpos) 0 (.ref it) .none ce) []) s3 H3 ce fp [(h'.objs.size, go)]) (σ := σ) (σw := wipe σ vs) (Q := Q) (al := al) (vs := vs) (W := W) rfl hc rfl (fun p hp hb => ?_) rfl T rfl (by rw [← hce]; exact ok.co) hpg hpe turn (Nat.lt_succ_self m0) ?_ ?_ (fun b hb => (f3 b hb).1.1) w0
      · have hp : p = (h'.objs.size, go) := by simpa using hp
        subst hp
        have := (f3 _ hb).2
        rw [hsz'] at this
        exact absurd (Nat.lt_of_succ_lt this) (Nat.lt_irrefl _)
      · exact I5.call' (ch := []) ho (Un.kept hk) (I5.hok.kept hk) hb fun b z => by simp at z
      · refine T.keep _ _ _ st3 fun b hb o e => hk b o ?_
        exact Heap.get?_push_of_some _ (hs'.extBut b o (Nat.ne_of_lt (f3 b hb).2) (Heap.get?_push_of_some _ e))
    · exact I3.call' (ch := fp) I'.os I'.base I'.hok I'.bare fun b hb => ⟨(f3 b hb).1.2.2.2.1, (f3 b hb).1.2.1, (f3 b hb).1.2.2.2.2.1, (f3 b hb).1.2.2.2.2.2⟩
  cases hf : codeAmong gpos ps.toList with
  | none =>
    refine wpAny_genexprCodeX hcode (cd.code hPs ht) (cd.tab hPs) hf fun c' h' tk hx hge hlt hco' _ htab' _ => ?_
    obtain ⟨o1, vs, f1, tf, fl, tg, inF, tx, tt, op, _, _, _, _, _, _, _, _, _, htr, _⟩ := hco'
    exact cont _ h' tk _ hx (Nat.le_trans hge (Nat.le_of_lt hlt)) htab'.2 ⟨_, rfl⟩ htr
  | some cv =>
    refine wpAny_genexprCode_hit hcode (cd.code hPs ht) hf ?_
    exact cont cv s2.heap s2.toks ps (Heap.ExtBut.refl _ _) (Nat.le_refl _) hPs ⟨#[], by simp⟩ ht
theorem pe_all {c P : Addr} {elt tg iter : Expr} {scope : Scope} {own : List (Str × Nat)} {p pos gpos : Pos} {wi : TI} {g : TG} {te : TE} {k : Nat}
    (hr : Room k X.A) (hc : X.calm = true) (hN : X.N.Nodup) (hgl : Gl X "all") (hm : X.mg "all" = none) (TB : GxR.TabB X.base X.mg c P) (hcode : X.env.code = .ref c) (ok : GenOk X.N X.env.scope scope own) (hi : PI X tg iter wi)
    (hg : ∀ (A : Around) (s : Shared) (H : Hp) (C : Addr) (cl : List (Str × Addr)) (cd : Value) (fp : List Addr) (pn : List (Addr × Obj)), InGen X A → PG (genX X A s H (genEnv scope cl C cd builtinsNs X.env) fp pn) tg g)
    (he : ∀ (A : Around) (s : Shared) (H : Hp) (C : Addr) (cl : List (Str × Addr)) (cd : Value) (fp : List Addr) (pn : List (Addr × Obj)), InGen X A → PE (genX X A s H (genEnv scope cl C cd builtinsNs X.env) fp pn) elt te)
    (hs : ∀ v, genFold iter X.env v = pure v) : PE X (.Call (.Name "all" p) [.GeneratorExp elt [⟨tg, iter, [], 0⟩] scope gpos] [] pos) (tGen true P wi g te (own.map (·.2))) := by
  refine ⟨fun pins s σ H Q I h => ?_⟩
  refine wpAny_Call_Name_kw (ld_blt I hgl hm (show bootBuiltins "all" = some (.builtin "all") by decide +kernel) ?_)
  have hst : starEach [.GeneratorExp elt [⟨tg, iter, [], 0⟩] scope gpos] X.env = (false, eval (.GeneratorExp elt [⟨tg, iter, [], 0⟩] scope gpos) X.env) :: starEach [] X.env := by rfl
  refine PyProof.Rows.callWith_builtin1 ?_ hst (by rfl)
  rw [hst]
  show wpAny _ _ (spliced ((false, eval (.GeneratorExp elt [⟨tg, iter, [], 0⟩] scope gpos) X.env) :: backTo pos (starEach [] X.env))) _ _ s
  refine Calls.spliced_cons (thn (gen_made hr hc hN TB hcode ok hi hg he hs I h) fun u s5 hM => ?_)
  refine Calls.spliced_nil ?_
  obtain ⟨Y, σw, H5, a, gn, n, go, hp, hw, rfl, hgo, hgen, I5, hG, back⟩ := hM
  refine call_function_tree F.kind_all F.plain_all F.entry_all (F.args_all1 _) ?_
  unfold Builtin.«all»
  refine wpAny_bind (m := oneArg "all" _) (wpAny_pure ?_)
  refine wpAny_bind (wpAny_pyIter_gen (hgen _ (I5.pin (a, go) (List.mem_append_left _ hgo)).1) ?_)
  refine wpAny_pure ⟨plainId_quiet F.plain_all_loop _, ?_⟩
  rw [← hp, ← hw]
  exact loop_all hr.hd (by have := hr.dp; show X.A.depth < _; omega) hgo hgen (fun s' H' I' q => ⟨.bl true, H', back s' H' I', rfl, q⟩) (fun s' H' I' q => ⟨.bl false, H', back s' H' I', rfl, q⟩) n s5 H5 I5 hG
theorem pe_any {c P : Addr} {elt tg iter : Expr} {scope : Scope} {own : List (Str × Nat)} {p pos gpos : Pos} {wi : TI} {g : TG} {te : TE} {k : Nat}
    (hr : Room k X.A) (hc : X.calm = true) (hN : X.N.Nodup) (hgl : Gl X "any") (hm : X.mg "any" = none) (TB : GxR.TabB X.base X.mg c P) (hcode : X.env.code = .ref c) (ok : GenOk X.N X.env.scope scope own) (hi : PI X tg iter wi)
    (hg : ∀ (A : Around) (s : Shared) (H : Hp) (C : Addr) (cl : List (Str × Addr)) (cd : Value) (fp : List Addr) (pn : List (Addr × Obj)), InGen X A → PG (genX X A s H (genEnv scope cl C cd builtinsNs X.env) fp pn) tg g)
    (he : ∀ (A : Around) (s : Shared) (H : Hp) (C : Addr) (cl : List (Str × Addr)) (cd : Value) (fp : List Addr) (pn : List (Addr × Obj)), InGen X A → PE (genX X A s H (genEnv scope cl C cd builtinsNs X.env) fp pn) elt te)
    (hs : ∀ v, genFold iter X.env v = pure v) : PE X (.Call (.Name "any" p) [.GeneratorExp elt [⟨tg, iter, [], 0⟩] scope gpos] [] pos) (tGen false P wi g te (own.map (·.2))) := by
  refine ⟨fun pins s σ H Q I h => ?_⟩
  refine wpAny_Call_Name_kw (ld_blt I hgl hm (show bootBuiltins "any" = some (.builtin "any") from boot_any) ?_)
  have hst : starEach [.GeneratorExp elt [⟨tg, iter, [], 0⟩] scope gpos] X.env = (false, eval (.GeneratorExp elt [⟨tg, iter, [], 0⟩] scope gpos) X.env) :: starEach [] X.env := by rfl
  refine PyProof.Rows.callWith_builtin1 ?_ hst (by rfl)
  rw [hst]
  show wpAny _ _ (spliced ((false, eval (.GeneratorExp elt [⟨tg, iter, [], 0⟩] scope gpos) X.env) :: backTo pos (starEach [] X.env))) _ _ s
  refine Calls.spliced_cons (thn (gen_made hr hc hN TB hcode ok hi hg he hs I h) fun u s5 hM => ?_)
  refine Calls.spliced_nil ?_
  obtain ⟨Y, σw, H5, a, gn, n, go, hp, hw, rfl, hgo, hgen, I5, hG, back⟩ := hM
  refine call_function_tree F.kind_any F.plain_any F.entry_any (F.args_any1 _) ?_
  unfold Builtin.«any»
  refine wpAny_bind (m := oneArg "any" _) (wpAny_pure ?_)
  refine wpAny_bind (wpAny_pyIter_gen (hgen _ (I5.pin (a, go) (List.mem_append_left _ hgo)).1) ?_)
  refine wpAny_pure ⟨plainId_quiet F.plain_any_loop _, ?_⟩
  rw [← hp, ← hw]
  exact loop_any hr.hd (by have := hr.dp; show X.A.depth < _; omega) hgo hgen (fun s' H' I' q => ⟨.bl false, H', back s' H' I', rfl, q⟩) (fun s' H' I' q => ⟨.bl true, H', back s' H' I', rfl, q⟩) n s5 H5 I5 hG
end
end Cut
/-! The reading of all(..), any(..). -/
namespace Cut
open PySem PySem.Spec PyProof.Rows L2 GxR
variable [Tbl] [Cur]
section
variable {K : PySem.W.Frag} {H H' : Hp} {μ : List Addr} {G : Store} {P : Addr}
theorem XT.tabbed (hPs : P ∈ Tbl.ps) (h : TabG H P) (t : Tabbed P H H') : XT H H' := by
  obtain ⟨ps, hP, _⟩ := h
  have ext : ∀ a φ, H a = some (.ext φ) → H' a = some (.ext φ) := fun a φ e => by rw [t.2 a fun z => by rw [z, hP] at e; cases e]; exact e
  refine ⟨fun b hb => ?_, fun a xs e => ?_, fun a o u e => ?_, ext, fun a xs e => ?_, fun q hq h => tabS_ext h (fun ps e => by rw [t.2 q.1 (Tbl.dis P hPs q hq)]; exact e) ext⟩
  · by_cases e : b = P
    · rw [e]; exact t.1
    · obtain ⟨qs, h1, h2⟩ := hb
      exact ⟨qs, by rw [t.2 b e]; exact h1, h2⟩
  · rw [t.2 a fun z => by rw [z, hP] at e; cases e]; exact e
  · rw [t.2 a fun z => by rw [z, hP] at e; cases e]; exact e
  · rw [t.2 a fun z => by rw [z, hP] at e; cases e]; exact e
theorem RG.tabbed (hPs : P ∈ Tbl.ps) (g : RG K H μ G) (h : TabG H P) (t : Tabbed P H H') : RG K H' μ G := by
  refine g.ext (.tabbed hPs h t) fun n a o _ w e => ?_
  obtain ⟨ps, hP, _⟩ := h
  rw [t.2 a fun z => by rw [z, hP] at e; cases e; rcases w with ⟨_, w⟩ | ⟨_, w⟩ <;> cases w]; exact e
end
variable {c : Ct}
theorem rE.gen (hcc : Cur.at_ = none) {al : Bool} {P : Addr} (hP : P ∈ Tbl.ps) {t : Tg} {mi : MI} {el : ME} {own : List Nat} (ht : tgIn own t = true) {σ : L2.St} {H : Hp} {Q : VK} (q : rE c (mGen al t mi el own) σ H Q) : tGen al P (rI c mi) (gOf c.K t) (rE c.quiet el) own σ H Q := by
  obtain ⟨ρ, G, μ, re, rg, p⟩ := q
  refine ⟨ρ, G, μ, re, rg, p.bind.imp fun v G1 H1 μ1 x1 p1 g1 q1 J hJ => ⟨g1.tab P hP, fun H2 hT => ?_⟩⟩
  have q2 := q1.no
  clear q1 p
  have xT := XT.tabbed hP (g1.tab P hP) hT
  have gT := g1.tabbed hP (g1.tab P hP) hT
  have re1 := ((re.mono x1 p1).mono xT (List.prefix_refl _)).wipe hcc own
  refine ⟨fun i m H => ∃ G μ, XT H2 H ∧ μ1 <+: μ ∧ RG c.K H μ G ∧ Post0 c.K H μ (genGo al t v el (wipeE ρ own) m i G) (fun d _ H' μ' => ∀ v, RD c.K H' μ' d v → Q v H'), ⟨loopFuel, _, _, .refl _, List.prefix_refl _, gT, Post0.mono xT (List.prefix_refl _) q2⟩, ?_⟩
  rintro i m H3 ⟨G2, μ2, x2, p2, g2, q3⟩
  have xx : XT H1 H3 := xT.trans x2
  cases m with
  | zero => exact q3.elim
  | succ m =>
    unfold genGo at q3
    cases hv : v.at i G2 with
    | none => rw [hv] at q3; exact q3.elim
    | some o =>
      cases o with
      | none =>
        rw [hv] at q3
        exact .inl ⟨hJ.stop i H3 μ2 G2 xx p2 g2 hv, q3 H3 μ2 (.refl _) (List.prefix_refl _) g2 _ rfl⟩
      | some d =>
        rw [hv] at q3
        obtain ⟨go, yl⟩ := hJ.go i H3 μ2 G2 d xx p2 g2 hv
        refine .inr ⟨go, fun H' => ∃ G μ, XT H2 H' ∧ μ1 <+: μ ∧ RG c.K H' μ G ∧ Post0 c.K H' μ (genGo al t v el (wipeE ρ own) m (i + 1) G) (fun d _ H' μ' => ∀ v, RD c.K H' μ' d v → Q v H'), fun H' h => ⟨m, Nat.lt_succ_self m, h⟩, fun x H4 hx => ?_⟩
        obtain ⟨x3, g3, rx⟩ := yl x H4 hx
        simp only at q3
        cases hb : t.bind d (wipeE ρ own) with
        | none => rw [hb] at q3; exact q3.elim
        | some ρ1 =>
          rw [hb] at q3
          simp only at q3
          have q4 := Post0.mono x3 (List.prefix_refl _) q3
          have key := g_wipe (own := own) ht (bind_to (Q := fun σ2 H4 => rE c.quiet el σ2 H4 fun y H5 => ∃ b : Bool, y = .bl b ∧ (if b = al then ∃ G μ, XT H2 H5 ∧ μ1 <+: μ ∧ RG c.K H5 μ G ∧ Post0 c.K H5 μ (genGo al t v el (wipeE ρ own) m (i + 1) G) (fun d _ H' μ' => ∀ v, RD c.K H' μ' d v → Q v H') else Q (.bl (!al)) H5))
            hb rx ((re1.mono x2 p2).mono x3 (List.prefix_refl _)) fun σ2 re2 => ?_)
          · simp only [wipe_wipe] at key
            exact key
          · refine ⟨ρ1, G2, μ2, re2, g3, Post0.any ((Post0.bind q4).imp fun d' G5 H5 μ5 x5 p5 g5 q6 y ry => ?_)⟩
            cases d' <;> try exact q6.elim
            case bl b =>
              refine ⟨b, ry, ?_⟩
              simp only at q6
              by_cases hba : b = al
              · rw [if_pos hba] at q6 ⊢
                exact ⟨G5, μ5, (x2.trans x3).trans x5, p2.trans p5, g5, q6⟩
              · rw [if_neg hba] at q6 ⊢
                exact q6 H5 μ5 (.refl _) (List.prefix_refl _) g5 _ rfl
end Cut
/-! any, sorted, sum, min, max of what stands in a list (any: of a tuple too). -/
namespace Cut
open PySem PySem.Spec PyProof.Rows L2
variable [Tbl] [Cur]
section
variable {K : PySem.W.Frag} {H : Hp} {μ : List Addr}
theorem rds_intsD : ∀ {xs : List D} {ns : List Int} {vs : List V}, intsD xs = some ns → RDs K H μ xs vs → vs = ns.map V.int
  | [], ns, vs, h, r => by cases h; exact r
  | x :: xs, ns, vs, h, ⟨v, ws, e, r, rs⟩ => by
    cases x <;> try (cases h; done)
    case int i =>
      simp only [intsD, Option.map_eq_some_iff] at h
      obtain ⟨ms, h1, rfl⟩ := h
      have e1 : v = _ := r
      rw [e, e1, rds_intsD h1 rs]; rfl
theorem rds_of_ints : ∀ ns : List Int, RDs K H μ (ns.map D.int) (ns.map V.int)
  | [] => rfl
  | n :: ns => ⟨_, _, rfl, rfl, rds_of_ints ns⟩
end
section
variable {X : Cx}
theorem ints_vals : ∀ {ns : List Int} {its : List Value}, Vals (ns.map V.int) its → ∀ i v, its[i]? = some v → ∃ t, v = Value.int (ns.getD i 0) t
  | [], its, h, i, v, e => by cases h; simp at e
  | n :: ns, its, h, i, v, e => by
    cases h with
    | cons r rs =>
      cases i with
      | zero =>
        obtain ⟨t, rfl⟩ := r
        have e : some (Value.int n t) = some v := e
        cases e; exact ⟨t, rfl⟩
      | succ i => exact ints_vals rs i v (by simpa using e)
theorem any_range0 : ∀ ns : List Int, (List.range ns.length).any (fun i => ns.getD i 0 != 0) = ns.any fun i => i != 0
  | [] => rfl
  | n :: ns => by
    rw [List.length_cons, List.range_succ_eq_map, List.any_cons, List.any_map, List.any_cons, ← any_range0 ns]
    rfl
theorem truth_ints {prog : Program} {w : World} {A : Around} {ns : List Int} {its : List Value} (h : Vals (ns.map V.int) its) : TruthOf prog w A (fun i v => its.toArray[i]? = some v) (fun i => ns.getD i 0 != 0) := fun i v s Q E hv hq => by
  obtain ⟨t, rfl⟩ := ints_vals h i v (by simpa using hv)
  exact PySem.P.truthy_int hq
theorem any_tup (hc : X.calm = true) : CallR X (.builtin "any") (fun vs H Q => ∃ (a : Addr) (ns : List Int), vs = [V.ref a] ∧ SqT X.K H a (ns.map V.int) ∧ Q (.bl (ns.any fun i => i != 0)) H) := by
  intro pins s σ H vs us Q I r h
  obtain ⟨a, ns, rfl, hs, q⟩ := h
  obtain ⟨its, rv, hl, _⟩ := I.tuple hs
  rw [Vals.ref1 r]
  have hlt : a < s.heap.objs.size := hl.lt
  refine call_any_walk (iter_tuple hl ?_)
  have hne : a ≠ s.heap.objs.size := Nat.ne_of_lt hlt
  refine ⟨_, _, _, _, _, _, _, rfl, Walks.tuple (A := X.A.in1) (I.ok.hd hc) _ a hne its.toArray, ⟨⟨_, Heap.get?_push_size _ rfl, rfl, rfl⟩, hl.push _⟩, truth_ints rv, fun h' tk hk => ?_⟩
  refine ⟨.bl _, H, I.kept fun b o eo => hk b o (fun hmem => ?_) (Heap.get?_push_of_some _ eo), ?_, q⟩
  · rcases List.mem_cons.mp hmem with e1 | hmem
    · exact absurd (e1 ▸ Heap.lt_size eo) (Nat.lt_irrefl _)
    · cases hmem
  · show Value.bool _ = Value.bool _
    rw [← any_range0, List.size_toArray, ← rv.length, List.length_map]
theorem any_lst (hc : X.calm = true) : CallR X (.builtin "any") (fun vs H Q => ∃ (a : Addr) (ns : List Int), vs = [V.ref a] ∧ SqL X.K H a (ns.map V.int) ∧ Q (.bl (ns.any fun i => i != 0)) H) := by
  intro pins s σ H vs us Q I r h
  obtain ⟨a, ns, rfl, hs, q⟩ := h
  obtain ⟨its, rv, hl, _⟩ := I.list hs
  rw [Vals.ref1 r]
  refine call_any_walk (iter_any hl.isList fun s₂ e2 st hne => ?_)
  subst e2
  refine ⟨_, _, _, _, _, _, _, rfl, Walks.list (A := X.A.in1) (I.ok.hd hc) _ a hne its.toArray, st, truth_ints rv, fun h' tk hk => ?_⟩
  refine ⟨.bl _, H, I.kept fun b o eo => hk b o (fun hmem => ?_) (Heap.get?_push_of_some _ eo), ?_, q⟩
  · rcases List.mem_cons.mp hmem with e1 | hmem
    · exact absurd (e1 ▸ Heap.lt_size eo) (Nat.lt_irrefl _)
    · cases hmem
  · show Value.bool _ = Value.bool _
    rw [← any_range0, List.size_toArray, ← rv.length, List.length_map]
theorem ok_any (hc : X.calm = true) : CallR X (.builtin "any") (rN X.K (bf .any)) := by
  rintro pins s σ H xs us Q I rs ⟨ds, G, μ, g, r0, h0⟩
  obtain ⟨d, rfl, h⟩ := P0.b1 (show Post0 X.K H μ (b1 _ ds G) _ from h0)
  clear h0
  obtain ⟨x, rfl, r⟩ := RDs.c1 r0
  clear r0
  cases d <;> try exact h.elim
  case tup ys =>
    obtain ⟨a, vs, rfl, s1, r⟩ := r
    simp only [anyD, items] at h
    split at h
    · rename_i ns hn
      rw [rds_intsD hn r] at s1
      exact any_tup hc pins s σ H _ us Q I rs ⟨a, ns, rfl, s1, P0.here g h rfl⟩
    · exact h.elim
  case ref n =>
    obtain ⟨a, rfl, ma⟩ := r
    simp only [anyD, items] at h
    split at h
    · rename_i ys hx
      split at h
      · rename_i ns hn
        obtain ⟨vs, r, sq, _⟩ := g.sq hx ma
        rw [rds_intsD hn r] at sq
        exact any_lst hc pins s σ H _ us Q I rs ⟨a, ns, rfl, sq, P0.here g h rfl⟩
      · exact h.elim
    · exact h.elim
theorem lstI_some {K : PySem.W.Frag} {H : Hp} {μ : List Addr} {G : Store} {d : D} {ns : List Int} {x : V} (g : RG K H μ G) (h : lstI d G = some ns) (r : RD K H μ d x) : ∃ a, x = .ref a ∧ SqL K H a (ns.map V.int) := by
  cases d <;> try (cases h; done)
  case ref n =>
    obtain ⟨a, rfl, ma⟩ := r
    simp only [lstI, Option.bind_eq_some_iff] at h
    obtain ⟨xs, h1, h2⟩ := h
    obtain ⟨vs, r, sq, _⟩ := g.sq h1 ma
    rw [rds_intsD h2 r] at sq
    exact ⟨a, rfl, sq⟩
theorem sort_eq {ns ms : List Int} (h1 : ms.Perm ns) (h2 : ms.Pairwise (· ≤ ·)) : ms = sortI ns := by
  refine List.Perm.eq_of_pairwise (le := (· ≤ ·)) (fun a b _ _ h h' => Int.le_antisymm h h') h2 ?_ (h1.trans (List.mergeSort_perm ns _).symm)
  have := List.pairwise_mergeSort (le := fun a b : Int => decide (a ≤ b)) (fun a b c h h' => by simp only [decide_eq_true_eq] at h h' ⊢; omega) (fun a b => by simp only [Bool.or_eq_true, decide_eq_true_eq]; omega) ns
  exact this.imp fun h => of_decide_eq_true h
theorem ok_sorted : CallR X (.builtin "sorted") (rN X.K (bf .sorted)) := by
  rintro pins s σ H xs us Q I rs ⟨ds, G, μ, g, r0, h0⟩
  obtain ⟨d, rfl, h⟩ := P0.b1 (show Post0 X.K H μ (b1 _ ds G) _ from h0)
  clear h0
  obtain ⟨x, rfl, r⟩ := RDs.c1 r0
  clear r0
  simp only [sortedD] at h
  split at h
  · rename_i ns hn
    obtain ⟨a, rfl, sq⟩ := lstI_some g hn r
    refine cr_sortedI pins s σ H _ us Q I rs ⟨a, ns, rfl, sq, fun ms p h1 h2 hp => ?_⟩
    rw [sort_eq h1 h2]
    exact (P0.newL g h (rds_of_ints _)).2 p hp
  · exact h.elim
theorem ok_sum (hc : X.calm = true) : CallR X (.builtin "sum") (rN X.K (bf .sum)) := by
  rintro pins s σ H xs us Q I rs ⟨ds, G, μ, g, r0, h0⟩
  obtain ⟨d, rfl, h⟩ := P0.b1 (show Post0 X.K H μ (b1 _ ds G) _ from h0)
  clear h0
  obtain ⟨x, rfl, r⟩ := RDs.c1 r0
  clear r0
  simp only [sumD] at h
  split at h
  · rename_i ns hn
    obtain ⟨a, rfl, sq⟩ := lstI_some g hn r
    exact cr_sum hc pins s σ H _ us Q I rs ⟨a, ns, rfl, sq, P0.here g h rfl⟩
  · exact h.elim
theorem least_spec : ∀ {ns : List Int} {m : Int}, m ∈ ns → (∀ y ∈ ns, m ≤ y) → m = leastI ns
  | [], m, h, _ => nomatch h
  | [i], m, h, _ => by simpa [leastI] using h
  | i :: j :: r, m, h, k => by
    have hl : ∀ {ns : List Int}, ns ≠ [] → leastI ns ∈ ns := by
      intro ns
      induction ns with
      | nil => intro h; exact absurd rfl h
      | cons a l ih =>
        intro _
        cases l with
        | nil => simp [leastI]
        | cons b l =>
          simp only [leastI]
          split
          · exact List.mem_cons_self ..
          · exact List.mem_cons_of_mem _ (ih (by simp))
    rcases List.mem_cons.mp h with rfl | h
    · have := k _ (List.mem_cons_of_mem _ (hl (ns := j :: r) (by simp)))
      simp only [leastI, if_pos this]
    · have e := least_spec h fun y hy => k y (List.mem_cons_of_mem _ hy)
      have hi := k i (List.mem_cons_self ..)
      simp only [leastI]
      rw [← e]
      split <;> omega
theorem most_spec : ∀ {ns : List Int} {m : Int}, m ∈ ns → (∀ y ∈ ns, y ≤ m) → m = mostI ns
  | [], m, h, _ => nomatch h
  | [i], m, h, _ => by simpa [mostI] using h
  | i :: j :: r, m, h, k => by
    have hl : ∀ {ns : List Int}, ns ≠ [] → mostI ns ∈ ns := by
      intro ns
      induction ns with
      | nil => intro h; exact absurd rfl h
      | cons a l ih =>
        intro _
        cases l with
        | nil => simp [mostI]
        | cons b l =>
          simp only [mostI]
          split
          · exact List.mem_cons_self ..
          · exact List.mem_cons_of_mem _ (ih (by simp))
    rcases List.mem_cons.mp h with rfl | h
    · have := k _ (List.mem_cons_of_mem _ (hl (ns := j :: r) (by simp)))
      simp only [mostI, if_pos this]
    · have e := most_spec h fun y hy => k y (List.mem_cons_of_mem _ hy)
      have hi := k i (List.mem_cons_self ..)
      simp only [mostI]
      rw [← e]
      split <;> omega
mutual
theorem ofPy_pyW : ∀ {d : D} {p : PyData}, pyW (fun _ => none) d = some p → ofPy p = some d
  | .non, _, h => by cases h; rfl
  | .bl _, _, h => by cases h; rfl
  | .int _, _, h => by cases h; rfl
  | .str s, _, h => by cases h; rfl
  | .tup xs, _, h => by
    unfold pyW at h
    obtain ⟨ps, e, rfl⟩ := Option.map_eq_some_iff.mp h
    unfold ofPy
    rw [ofPys_pyWs e]; rfl
  | .ref _, _, h => by cases h
  | .ty _, _, h => by cases h
theorem ofPys_pyWs : ∀ {ds : List D} {ps : List PyData}, pyWs (fun _ => none) ds = some ps → ofPys ps = some ds
  | [], _, h => by cases h; rfl
  | d :: ds, ps, h => by
    unfold pyWs at h
    split at h
    · rename_i p qs e1 e2
      cases h
      unfold ofPys
      rw [ofPy_pyW e1, ofPys_pyWs e2]
    · cases h
end
theorem pyWs_at : ∀ {ds : List D} {ps : List PyData} {i : Nat} {d : D}, pyWs (fun _ => none) ds = some ps → ds[i]? = some d → ∃ p, ps[i]? = some p ∧ pyW (fun _ => none) d = some p
  | [], _, _, _, _, e => by simp at e
  | d :: ds, ps, i, x, h, e => by
    unfold pyWs at h
    split at h
    · rename_i p qs e1 e2
      cases h
      cases i with
      | zero => exact ⟨p, rfl, by have : d = x := by simpa using e
                                  rw [← this]; exact e1⟩
      | succ i => exact pyWs_at (i := i) e2 (by simpa using e)
    · cases h
theorem fold_mem {α : Type} (f : α → α → Bool) : ∀ (xs : List α) (x : α), xs.foldl (fun a y => if f y a then y else a) x ∈ x :: xs
  | [], x => List.mem_cons_self ..
  | y :: ys, x => by
    rw [List.foldl_cons]
    have := fold_mem f ys (if f y x then y else x)
    rcases List.mem_cons.mp this with h | h
    · rw [h]; split
      · exact List.mem_cons_of_mem _ (List.mem_cons_self ..)
      · exact List.mem_cons_self ..
    · exact List.mem_cons_of_mem _ (List.mem_cons_of_mem _ h)
theorem minD_mem (x : PyData) (xs : List PyData) : PySem.W.minD x xs ∈ x :: xs := fold_mem (fun y a => PySem.W.dataLt y a) xs x
theorem maxD_mem (x : PyData) (xs : List PyData) : PySem.W.maxD x xs ∈ x :: xs := fold_mem (fun y a => PySem.W.dataLt a y) xs x
theorem lay_mem : ∀ {ps : List PyData}, PyData.canLayAll0 ps = true → ∀ p ∈ ps, p.canLay0 = true
  | [], _, _, h => nomatch h
  | q :: qs, hc, p, h => by
    have hc := Bool.and_eq_true_iff.mp (show (q.canLay0 && PyData.canLayAll0 qs) = true by simpa [PyData.canLayAll0] using hc)
    rcases List.mem_cons.mp h with rfl | h
    · exact hc.1
    · exact lay_mem hc.2 p h
theorem dataL_dp {K : PySem.W.Frag} {H : Hp} {μ : List Addr} {G : Store} (g : RG K H μ G) {d : D} {p : PyData} {ps : List PyData} {x : V} (h : dataL d G = some (p, ps)) (r : RD K H μ d x) :
    ∃ a vs ds, x = .ref a ∧ SqL K H a vs ∧ DpAll K H vs (p :: ps) ∧ RDs K H μ ds vs ∧ pyWs (fun _ => none) ds = some (p :: ps) ∧ PySem.W.AlikeAll (p :: ps) ∧ PyData.canLayAll0 (p :: ps) = true ∧ PyData.depthAll (p :: ps) ≤ 60 := by
  cases d <;> try (cases h; done)
  case ref n =>
    obtain ⟨a, rfl, ma⟩ := r
    unfold dataL at h
    dsimp only at h
    split at h
    · rename_i q qs e
      obtain ⟨ds, e1, e2⟩ := Option.bind_eq_some_iff.mp e
      split at h
      · rename_i hc
        cases h
        simp only [Bool.and_eq_true, decide_eq_true_eq, List.all_eq_true] at hc
        obtain ⟨h1, ⟨_, h2⟩, h3⟩ := hc
        obtain ⟨vs, rv, sq, _⟩ := g.sq e1 ma
        refine ⟨a, vs, ds, rfl, sq, pyWs_dp (fun _ _ _ e _ => by cases e) ds vs _ e2 rv, rv, e2, ⟨fun x hx y hy => (h1 x hx).2 y hy, fun x hx z => ?_⟩, h2, h3⟩
        have := (h1 x hx).1
        rw [z] at this; cases this
      · cases h
    · cases h
def rminDt (K : PySem.W.Frag) : List V → Hp → VK → Prop := fun xs H Q => ∃ (a : Addr) (vs : List V) (p : PyData) (ps : List PyData), xs = [V.ref a] ∧ SqL K H a vs ∧ DpAll K H vs (p :: ps) ∧ PySem.W.AlikeAll (p :: ps) ∧ PyData.canLayAll0 (p :: ps) = true ∧ PyData.depthAll (p :: ps) ≤ 60 ∧ ∀ (i : Nat) (v : V), vs[i]? = some v → (p :: ps)[i]? = some (PySem.W.minD p ps) → Q v H
theorem cr_minDt (hc : X.calm = true) (hu : X.A.units + 64 < cLine) : CallR X (.builtin "min") (rminDt X.K) := by
  intro pins s σ H vs0 us Q I r h
  obtain ⟨a, vs, p, ps, rfl, hs, hd, ha, hcl, hdep, q⟩ := h
  obtain ⟨its, rv, hl, _⟩ := I.list hs
  rw [Vals.ref1 r]
  obtain ⟨as, hr⟩ := Dp.readsAll I (p :: ps) vs its hd rv
  refine PySem.W.min_list_data (I.ok.hd hc) hl.isList (show ReadsAll s.heap its.toArray.toList (p :: ps) as from hr) ha (by omega) fun i v h' tk bs hv rd hk => ?_
  have hv' : its[i]? = some v := by simpa using hv
  have hlen := rv.length
  have hi : i < vs.length := by have := (List.getElem?_eq_some_iff.mp hv').1; omega
  obtain ⟨u, hu', ru⟩ := rv.get (List.getElem?_eq_getElem hi)
  rw [hv'] at hu'
  cases hu'
  refine ⟨vs[i], H, I.kept hk, ru, q i _ (List.getElem?_eq_getElem hi) ?_⟩
  obtain ⟨bs', rd', hip, hmem, _⟩ := PySem.W.readsAll_at (show ReadsAll s.heap its (p :: ps) as from hr) i v hv'
  have e1 := SeqAt.readOf_eq (lay_mem hcl _ hmem) (PySem.W.reads_keeps hk rd')
  have e2 := SeqAt.readOf_eq (lay_mem hcl _ (minD_mem p ps)) rd
  have e3 : (p :: ps).getD i .none = PySem.W.minD p ps := e1.symm.trans e2
  rw [← e3, List.getD_eq_getElem?_getD, List.getElem?_eq_getElem hip]; rfl
def rmaxDt (K : PySem.W.Frag) : List V → Hp → VK → Prop := fun xs H Q => ∃ (a : Addr) (vs : List V) (p : PyData) (ps : List PyData), xs = [V.ref a] ∧ SqL K H a vs ∧ DpAll K H vs (p :: ps) ∧ PySem.W.AlikeAll (p :: ps) ∧ PyData.canLayAll0 (p :: ps) = true ∧ PyData.depthAll (p :: ps) ≤ 60 ∧ ∀ (i : Nat) (v : V), vs[i]? = some v → (p :: ps)[i]? = some (PySem.W.maxD p ps) → Q v H
theorem cr_maxDt (hc : X.calm = true) (hu : X.A.units + 64 < cLine) : CallR X (.builtin "max") (rmaxDt X.K) := by
  intro pins s σ H vs0 us Q I r h
  obtain ⟨a, vs, p, ps, rfl, hs, hd, ha, hcl, hdep, q⟩ := h
  obtain ⟨its, rv, hl, _⟩ := I.list hs
  rw [Vals.ref1 r]
  obtain ⟨as, hr⟩ := Dp.readsAll I (p :: ps) vs its hd rv
  refine PySem.W.max_list_data (I.ok.hd hc) hl.isList (show ReadsAll s.heap its.toArray.toList (p :: ps) as from hr) ha (by omega) fun i v h' tk bs hv rd hk => ?_
  have hv' : its[i]? = some v := by simpa using hv
  have hlen := rv.length
  have hi : i < vs.length := by have := (List.getElem?_eq_some_iff.mp hv').1; omega
  obtain ⟨u, hu', ru⟩ := rv.get (List.getElem?_eq_getElem hi)
  rw [hv'] at hu'
  cases hu'
  refine ⟨vs[i], H, I.kept hk, ru, q i _ (List.getElem?_eq_getElem hi) ?_⟩
  obtain ⟨bs', rd', hip, hmem, _⟩ := PySem.W.readsAll_at (show ReadsAll s.heap its (p :: ps) as from hr) i v hv'
  have e1 := SeqAt.readOf_eq (lay_mem hcl _ hmem) (PySem.W.reads_keeps hk rd')
  have e2 := SeqAt.readOf_eq (lay_mem hcl _ (maxD_mem p ps)) rd
  have e3 : (p :: ps).getD i .none = PySem.W.maxD p ps := e1.symm.trans e2
  rw [← e3, List.getD_eq_getElem?_getD, List.getElem?_eq_getElem hip]; rfl
theorem ok_minL (hc : X.calm = true) (hu : X.A.units + 64 < cLine) : CallR X (.builtin "min") (rN X.K (bf .minL)) := by
  rintro pins s σ H xs us Q I rs ⟨ds, G, μ, g, r0, h0⟩
  obtain ⟨d, rfl, h⟩ := P0.b1 (show Post0 X.K H μ (b1 _ ds G) _ from h0)
  clear h0
  obtain ⟨x, rfl, r⟩ := RDs.c1 r0
  clear r0
  simp only [minLD] at h
  split at h
  · rename_i ns hn
    split at h
    · exact h.elim
    · rename_i hne
      obtain ⟨a, rfl, sq⟩ := lstI_some g hn r
      refine cr_min hc pins s σ H _ us Q I rs ⟨a, ns, rfl, sq, List.length_pos_iff.mpr hne, fun m h1 h2 => ?_⟩
      rw [least_spec h1 h2]
      exact P0.here g h rfl
  · split at h
    · rename_i p ps hd
      obtain ⟨a, vs, ds, rfl, sq, hdp, rv, hw, ha, hcl, hdep⟩ := dataL_dp g hd r
      refine cr_minDt hc hu pins s σ H _ us Q I rs ⟨a, vs, p, ps, rfl, sq, hdp, ha, hcl, hdep, fun i v hv hp => ?_⟩
      have hi : i < ds.length := by have := (List.getElem?_eq_some_iff.mp hv).1; rw [rv.len] at this; exact this
      obtain ⟨v', hv', rd⟩ := rv.get (List.getElem?_eq_getElem hi)
      rw [hv] at hv'; cases hv'
      obtain ⟨p', hp', hw'⟩ := pyWs_at hw (List.getElem?_eq_getElem hi)
      rw [hp] at hp'; cases hp'
      rw [ofPy_pyW hw'] at h
      exact P0.here g h rd
    · exact h.elim
theorem ok_maxL (hc : X.calm = true) (hu : X.A.units + 64 < cLine) : CallR X (.builtin "max") (rN X.K (bf .maxL)) := by
  rintro pins s σ H xs us Q I rs ⟨ds, G, μ, g, r0, h0⟩
  obtain ⟨d, rfl, h⟩ := P0.b1 (show Post0 X.K H μ (b1 _ ds G) _ from h0)
  clear h0
  obtain ⟨x, rfl, r⟩ := RDs.c1 r0
  clear r0
  simp only [maxLD] at h
  split at h
  · rename_i ns hn
    split at h
    · exact h.elim
    · rename_i hne
      obtain ⟨a, rfl, sq⟩ := lstI_some g hn r
      refine cr_max hc pins s σ H _ us Q I rs ⟨a, ns, rfl, sq, List.length_pos_iff.mpr hne, fun m h1 h2 => ?_⟩
      rw [most_spec h1 h2]
      exact P0.here g h rfl
  · split at h
    · rename_i p ps hd
      obtain ⟨a, vs, ds, rfl, sq, hdp, rv, hw, ha, hcl, hdep⟩ := dataL_dp g hd r
      refine cr_maxDt hc hu pins s σ H _ us Q I rs ⟨a, vs, p, ps, rfl, sq, hdp, ha, hcl, hdep, fun i v hv hp => ?_⟩
      have hi : i < ds.length := by have := (List.getElem?_eq_some_iff.mp hv).1; rw [rv.len] at this; exact this
      obtain ⟨v', hv', rd⟩ := rv.get (List.getElem?_eq_getElem hi)
      rw [hv] at hv'; cases hv'
      obtain ⟨p', hp', hw'⟩ := pyWs_at hw (List.getElem?_eq_getElem hi)
      rw [hp] at hp'; cases hp'
      rw [ofPy_pyW hw'] at h
      exact P0.here g h rd
    · exact h.elim
end
end Cut
/-! Lambdas that stand without their frame: called, what they have taken along is untracked for the while. -/
namespace Cut
open PySem PySem.Spec PyProof.Rows L2
variable [Tbl]
def ResP (K : PySem.W.Frag) (ξ : XRel) (H : Hp) (μ : List Addr) (Q : VK) (E : XK) (r : R D) : Prop := match r with
  | .ok d G' => Aft K H μ G' fun H' μ' => ∀ v, RD K H' μ' d v → Q v H'
  | .exc k fs G' => Aft K H μ G' fun H' μ' => ∀ cls dd, ξ k fs H' μ' cls dd → E cls dd H'
  | .stuck => False
/-- what a lambda keeps to: called without arguments it does what our text does with what it has taken along -/
structure LOk (P : Program) (w : World) (K : PySem.W.Frag) (mg : Str → Option Value) (base : Heap) (ξ : XRel) (k : Nat) (L : Lm) (F : List D → Store → R D) : Prop where
  run : ∀ (A : Around) (outer : List PySem.Env) (s : Shared) (H : Hp) (μ : List Addr) (G : Store) (a c : Addr) (cl : List (Str × Addr)) (pm ctv : Value) (ds : List D) (vs : List V) (Q : VK) (E : XK),
    Room k A → Env0 P w K mg base A outer s H → s.heap.get? a = some (PySem.W.kla_obj "<lambda>" L.qual L.params L.body L.scope cl pm c ctv) → s.heap.CodeRec (.ref c) L.qual →
    NdefX.CellsAt cl L.fr (vs.map some) s.heap H → RG K H μ G → RDs K H μ ds vs → ResP K ξ H μ Q E (F ds G) →
    codeAny (model P w) A (Code.call (.ref a) { pos := [] }) (CR (L2.CX P w) outer P w H s Q E) s
section
variable {K : PySem.W.Frag} {H H' : Hp} {μ μ' : List Addr} {G : Store}
theorem sqT_imp {a : Addr} {xs : List V} (h1 : ∀ a xs, H a = some (.tup xs) → H' a = some (.tup xs)) (h2 : ∀ a o u, H a = some (.frz o u) → H' a = some (.frz o u)) (h : SqT K H a xs) : SqT K H' a xs := by
  rcases h with (h | ⟨o, h⟩) | h
  · exact .inl (.inl (h1 _ _ h))
  · exact .inl (.inr ⟨o, h2 _ _ _ h⟩)
  · exact .inr h
mutual
theorem RD.imp (x : ∀ a xs, SqT K H a xs → SqT K H' a xs) : ∀ {d : D} {v : V}, RD K H μ d v → RD K H' μ d v
  | .non, _, h => h
  | .bl _, _, h => h
  | .int _, _, h => h
  | .str _, _, h => h
  | .tup _, _, ⟨a, vs, e, s, r⟩ => ⟨a, vs, e, x _ _ s, RDs.imp x r⟩
  | .ref _, _, h => h
  | .ty _, _, h => h
theorem RDs.imp (x : ∀ a xs, SqT K H a xs → SqT K H' a xs) : ∀ {ds : List D} {vs : List V}, RDs K H μ ds vs → RDs K H' μ ds vs
  | [], _, h => h
  | _ :: _, _, ⟨v, ws, e, r, rs⟩ => ⟨v, ws, e, RD.imp x r, RDs.imp x rs⟩
end
/-- which cells a lambda holds -/
def IsCl (cl : List (Str × Addr)) (b : Addr) : Prop := ∃ x, cl.lookup x = some b
open Classical in
noncomputable def untr (cl : List (Str × Addr)) (H : Hp) : Hp := fun b => if IsCl cl b then none else H b
open Classical in
noncomputable def retr (cl : List (Str × Addr)) (H H1 : Hp) : Hp := fun b => if IsCl cl b then H b else H1 b
variable {cl : List (Str × Addr)}
theorem untr_no {b : Addr} (h : ¬ IsCl cl b) : untr cl H b = H b := if_neg h
theorem untr_is {b : Addr} (h : IsCl cl b) : untr cl H b = none := if_pos h
theorem retr_no {H1 : Hp} {b : Addr} (h : ¬ IsCl cl b) : retr cl H H1 b = H1 b := if_neg h
theorem retr_is {H1 : Hp} {b : Addr} (h : IsCl cl b) : retr cl H H1 b = H b := if_pos h
/-- every cell is tracked as one -/
def Cells (cl : List (Str × Addr)) (H : Hp) : Prop := ∀ b, IsCl cl b → ∃ v, H b = some (CellO b v)
theorem untr_keep (hc : Cells cl H) {b : Addr} {o : HO} (e : H b = some o) (h : ∀ φ, o ≠ .ext φ) : untr cl H b = some o := by
  rw [untr_no fun z => ?_]; · exact e
  obtain ⟨v, q⟩ := hc b z
  rw [e] at q
  cases q
  exact h _ rfl
/-- the object of a cell -/
theorem cell_obj {P : Program} {w : World} {h : Heap} {b : Addr} {v : V} (ok : HOk P w H h) (e : H b = some (CellO b v)) : ∃ u o, RelV v u ∧ h.get? b = some o ∧ o.data = .cell (some u) := (ok b _ e).1
theorem untr_data {P : Program} {w : World} {h : Heap} (ok : HOk P w H h) (hc : Cells cl H) {b : Addr} {o : HO} {ob : Obj} (e : H b = some o) (e2 : h.get? b = some ob) (hd : ∀ u, ob.data ≠ .cell u) : untr cl H b = some o := by
  rw [untr_no fun z => ?_]; · exact e
  obtain ⟨v, q⟩ := hc b z
  obtain ⟨u, o2, _, h2, h3⟩ := cell_obj ok q
  rw [h2] at e2
  cases e2
  exact hd _ h3
theorem untr_lam {P : Program} {w : World} {h : Heap} (ok : HOk P w H h) (hc : Cells cl H) {a : Addr} {L : Lm} {cl' : List (Str × Addr)} {c : Addr} (e : H a = some (LamO a L cl' c)) : untr cl H a = some (LamO a L cl' c) := by
  obtain ⟨pm, ctv, h2⟩ := (ok a _ e).1
  exact untr_data ok hc e h2 fun u z => nomatch z
theorem untr_code {P : Program} {w : World} {h : Heap} (ok : HOk P w H h) (hc : Cells cl H) {c : Addr} {q : Str} (e : H c = some (LamX.CodeO c q)) : untr cl H c = some (LamX.CodeO c q) := by
  obtain ⟨oc, vs, t, h2, h3, h4⟩ := (ok c _ e).1
  exact untr_data ok hc e h2 fun u z => by rw [h3] at z; cases z
theorem untr_sqT (hc : Cells cl H) (a : Addr) (xs : List V) (h : SqT K H a xs) : SqT K (untr cl H) a xs := sqT_imp (fun _ _ e => untr_keep hc e (fun _ z => nomatch z)) (fun _ _ _ e => untr_keep hc e (fun _ z => nomatch z)) h
theorem untr_hok {P : Program} {w : World} {h : Heap} (ok : HOk P w H h) (hc : Cells cl H) : HOk P w (untr cl H) h := fun a o e => by
  have hn : ¬ IsCl cl a := fun z => by rw [untr_is z] at e; cases e
  rw [untr_no hn] at e
  exact (ok a o e).stay (fun _ _ _ h => h) (fun b e => untr_keep hc e (fun _ z => nomatch z)) fun b xs e => untr_keep hc e (fun _ z => nomatch z)
theorem kill_at {G : Store} {n : Nat} {c : Cell} (h : G.kill.cs[n]? = some c) : ∃ c', G.cs[n]? = some c' ∧ c = c'.kill := by
  unfold Store.kill at h
  rw [List.getElem?_map] at h
  obtain ⟨c', h1, h2⟩ := Option.map_eq_some_iff.mp h
  exact ⟨c', h1, h2.symm⟩
theorem RG.kill {P : Program} {w : World} {h : Heap} (ok : HOk P w H h) (hc : Cells cl H) (g : RG K H μ G) : RG K (untr cl H) μ G.kill where
  len := by rw [g.len]; show _ = (G.cs.map _).length; rw [List.length_map]
  nd := g.nd
  lim := by have := g.lim; show G.lim ≤ (G.cs.map _).length; rw [List.length_map]; exact this
  tab := fun P hP => by
    obtain ⟨ps, e, t⟩ := g.tab P hP
    exact ⟨ps, untr_keep hc e (fun _ z => nomatch z), t⟩
  lam := fun p hp => by
    obtain ⟨ps, e, t, k⟩ := g.lam p hp
    exact ⟨ps, untr_keep hc e (fun _ z => nomatch z), t, fun pos cv q => by
      obtain ⟨c, e1, e2⟩ := k pos cv q
      exact ⟨c, e1, untr_code ok hc e2⟩⟩
  cell := fun n c a h1 h2 => by
    obtain ⟨c', h3, rfl⟩ := kill_at h1
    have r := g.cell n c' a h3 h2
    cases c' with
    | lst ds =>
      obtain ⟨vs, rs, f1, f2⟩ := r
      refine ⟨vs, rs.imp (untr_sqT hc), fun e => ?_, fun e => untr_keep hc (f2 e) (fun _ z => nomatch z)⟩
      rcases f1 e with ⟨o, f⟩ | f
      · exact .inl ⟨o, untr_keep hc f (fun _ z => nomatch z)⟩
      · exact .inr f
    | dic kvs =>
      obtain ⟨f0, ws, ⟨k1, k2⟩, e⟩ := r
      exact ⟨f0, ws, ⟨k1, k2.imp (untr_sqT hc)⟩, untr_keep hc e (fun _ z => nomatch z)⟩
    | ins _ _ => exact r.elim
    | clo f ds =>
      obtain ⟨f0, L, cl', c, vs, _, e, _⟩ := r
      exact ⟨f0, L, cl', c, untr_lam ok hc e⟩
    | dead =>
      obtain ⟨f0, L, cl', c, e⟩ := r
      exact ⟨f0, L, cl', c, untr_lam ok hc e⟩
theorem xt_retr {P : Program} {w : World} {h : Heap} {H1 : Hp} (ok : HOk P w H h) (hc : Cells cl H) (x : XT (untr cl H) H1) (h0 : ∀ b, IsCl cl b → H1 b = none) : XT H1 (retr cl H H1) ∧ XT H (retr cl H H1) := by
  have up : ∀ {b o}, H1 b = some o → retr cl H H1 b = some o := fun {b o} e => by
    rw [retr_no fun z => by rw [h0 b z] at e; cases e]; exact e
  have xt : XT H1 (retr cl H H1) := ⟨fun b ⟨ps, e, t⟩ => ⟨ps, up e, t⟩, fun _ _ e => up e, fun _ _ _ e => up e, fun _ _ e => up e, fun _ _ e => up e, fun p hp t => tabS_ext t (fun _ e => up e) fun _ _ e => up e⟩
  have ext : ∀ a φ, H a = some (.ext φ) → retr cl H H1 a = some (.ext φ) := fun a φ e => by
    by_cases z : IsCl cl a
    · rw [retr_is z]; exact e
    · exact up (x.ext _ _ (by rw [untr_no z]; exact e))
  have kp : ∀ {b o}, H b = some o → (∀ φ, o ≠ .ext φ) → untr cl H b = some o := fun e k => untr_keep hc e k
  refine ⟨xt, fun P ⟨ps, e, t⟩ => xt.tbl P (x.tbl P ⟨ps, kp e (fun _ z => nomatch z), t⟩), fun a xs e => up (x.tup _ _ (kp e (fun _ z => nomatch z))), fun a o u e => up (x.frz _ _ _ (kp e (fun _ z => nomatch z))), ext, fun a fs e => up (x.xd _ _ (kp e (fun _ z => nomatch z))), fun p hp t => xt.lam p hp (x.lam p hp ?_)⟩
  obtain ⟨ps, e, t, k⟩ := t
  exact ⟨ps, kp e (fun _ z => nomatch z), t, fun pos cv q => by
    obtain ⟨c, e1, e2⟩ := k pos cv q
    exact ⟨c, e1, untr_code ok hc e2⟩⟩
theorem revL_len : ∀ (a b : List Cell), (revL a b).length = b.length
  | [], b => by cases b <;> rfl
  | c :: a, [] => by cases c <;> rfl
  | c :: a, d :: b => by cases c <;> (show (revL a b).length + 1 = b.length + 1; rw [revL_len a b])
theorem revL_at : ∀ {a b : List Cell} {n : Nat} {c : Cell}, (revL a b)[n]? = some c → (∃ f ds, c = .clo f ds ∧ a[n]? = some c) ∨ b[n]? = some c
  | [], b, n, c, h => .inr (by cases b <;> exact h)
  | c' :: a, [], n, c, h => by cases c' <;> exact .inr h
  | .clo f ds :: a, d :: b, 0, c, h => .inl ⟨f, ds, by cases h; exact ⟨rfl, rfl⟩⟩
  | .lst _ :: a, d :: b, 0, c, h => .inr h
  | .dic _ :: a, d :: b, 0, c, h => .inr h
  | .ins _ _ :: a, d :: b, 0, c, h => .inr h
  | .dead :: a, d :: b, 0, c, h => .inr h
  | c' :: a, d :: b, n + 1, c, h => by
    have h' : (revL a b)[n]? = some c := by cases c' <;> exact h
    show (∃ f ds, c = .clo f ds ∧ a[n]? = some c) ∨ b[n]? = some c
    exact revL_at h'
theorem RG.rev {G G' : Store} {H2 : Hp} (x : XT H H2) (p : μ <+: μ') (hl : G'.lim = G.lim) (g : RG K H μ G) (g' : RG K H2 μ' G') : RG K H2 μ' (G.rev G') where
  len := by rw [g'.len]; exact (revL_len _ _).symm
  nd := g'.nd
  lim := by have := g'.lim; show G'.lim ≤ (revL _ _).length; rw [revL_len]; exact this
  tab := g'.tab
  lam := g'.lam
  cell := fun n c a h1 h2 => by
    rcases revL_at (show (revL G.cs G'.cs)[n]? = some c from h1) with ⟨f, ds, rfl, h3⟩ | h3
    · obtain ⟨b, hb⟩ := g.at h3
      have e := pre_get p hb
      rw [h2] at e
      cases e
      obtain ⟨f0, r⟩ := g.cell n _ a h3 hb
      exact ⟨by show decide (n < G'.lim) = false; rw [hl]; exact f0, r.mono x p⟩
    · exact g'.cell n c a h3 h2
/-- a lambda called where it is known -/
theorem call_clo {X : Cx} {ξ : XRel} {k : Nat} {F : Nat → List D → Store → R D} {pins : List (Addr × Obj)} {σ : L2.St} {s : Shared} {Q : VK} {E : XK} {n f : Nat} {a : Addr} {ds : List D}
    (hξm : ∀ k fs H H' μ cls dd, XT H H' → ξ k fs H μ cls dd → ξ k fs H' μ cls dd) (hl : ∀ L, Tbl.lm f = some L → LOk X.prog X.w X.K X.mg X.base ξ k L (F f)) (hr : Room k X.A) (hx : PassesAt (L2.CX X.prog X.w) X σ E) (I : L2.Inv X pins σ H s) (g : RG X.K H μ G) (hn : G.cs[n]? = some (.clo f ds)) (ha : μ[n]? = some a)
    (h : ResP X.K ξ H μ Q E (revR G (F f ds G.kill))) : wpAny (model X.prog X.w) X.A (call (.ref a) []) (EP X pins σ Q) X.xe s := by
  obtain ⟨_, L, cl, c, vs, h1, h2, h3, h4, h5, h6, h7, h8⟩ := g.cell n _ a hn ha
  have hc : Cells cl H := fun b ⟨x, e⟩ => h7 x b e
  have ok := I.hok
  have E0 := I.env0
  have nofr : ∀ b, IsCl cl b → b ∉ frs X.stack := fun b hb hf => by
    obtain ⟨v, q⟩ := hc b hb
    rw [E0.frf b hf] at q; cases q
  obtain ⟨pm, ctv, hob⟩ := (ok a _ h2).1
  have cr : s.heap.CodeRec (.ref c) L.qual := NdefX.codeO_at ok h3
  have ca : NdefX.CellsAt cl L.fr (vs.map some) s.heap (untr cl H) := by
    refine ⟨by rw [List.length_map, h4.len, h5], fun y b e => ?_, h6, fun i y e => ?_⟩
    · obtain ⟨v, q⟩ := h7 y b e
      obtain ⟨u, o, _, k1, k2⟩ := cell_obj ok q
      exact ⟨untr_is ⟨y, e⟩, _, o, k1, k2⟩
    · obtain ⟨b, v, q1, q2, q3⟩ := h8 i y e
      refine ⟨b, q1, fun v' hv => ?_⟩
      obtain ⟨u, o, k0, k1, k2⟩ := cell_obj ok q3
      rw [List.getElem?_map, q2] at hv
      cases hv
      exact ⟨u, k0, o, k1, k2⟩
  have E1 : Env0 X.prog X.w X.K X.mg X.base X.A X.stack s (untr cl H) := by
    refine ⟨E0.frames, E0.mod, fun b o e => ⟨(E0.bs b o e).1, ?_⟩, E0.bsz, E0.funs, fun b hb => ?_, untr_hok ok hc, E0.bare⟩
    · by_cases z : IsCl cl b
      · exact untr_is z
      · rw [untr_no z]; exact (E0.bs b o e).2
    · by_cases z : IsCl cl b
      · exact untr_is z
      · rw [untr_no z]; exact E0.frf b hb
  have post : ResP X.K ξ (untr cl H) μ (fun v H1 => (∀ b, IsCl cl b → H1 b = none) → Q v (retr cl H H1)) (fun cls dd H1 => (∀ b, IsCl cl b → H1 b = none) → E cls dd (retr cl H H1)) (F f ds G.kill) := by
    cases hF : F f ds G.kill with
    | stuck => rw [hF] at h; exact h
    | ok d G' =>
      rw [hF] at h
      simp only [revR] at h
      split at h
      · rename_i hlim
        intro H1 μ' x p g' v rv h0
        obtain ⟨x1, x2⟩ := xt_retr ok hc x h0
        have g2 := (g'.ext x1 fun n a o _ _ e => by rw [retr_no fun z => by rw [h0 _ z] at e; cases e]; exact e)
        exact h _ μ' x2 p (RG.rev x2 p hlim g g2) v (rv.mono x1 (List.prefix_refl _))
      · exact h.elim
    | exc kk fs G' =>
      rw [hF] at h
      simp only [revR] at h
      split at h
      · rename_i hlim
        intro H1 μ' x p g' cls dd hξ h0
        obtain ⟨x1, x2⟩ := xt_retr ok hc x h0
        have g2 := (g'.ext x1 fun n a o _ _ e => by rw [retr_no fun z => by rw [h0 _ z] at e; cases e]; exact e)
        exact h _ μ' x2 p (RG.rev x2 p hlim g g2) cls dd (hξm _ _ _ _ _ _ _ x1 hξ)
      · exact h.elim
  have run := (hl L h1).run X.A X.stack s (untr cl H) μ G.kill a c cl pm ctv ds vs _ _ hr E1 hob cr ca (g.kill ok hc) (h4.imp (untr_sqT hc)) post
  -- back among all that is tracked
  have hold : ∀ b, IsCl cl b → ∃ o, s.heap.get? b = some o ∧ untr cl H b = none ∧ b ∉ frs X.stack := fun b hb => by
    obtain ⟨v, q⟩ := hc b hb
    obtain ⟨u, o, _, k1, _⟩ := cell_obj ok q
    exact ⟨o, k1, untr_is hb, nofr b hb⟩
  have back : ∀ {H1 : Hp} {h' : Heap}, HOk X.prog X.w H1 h' → (∀ b, IsCl cl b → H1 b = none) → (∀ b o, s.heap.get? b = some o → untr cl H b = none → b ∉ frs X.stack → h'.get? b = some o) → HOk X.prog X.w (retr cl H H1) h' := fun {H1 h'} ok1 h0 kp b o e => by
    by_cases z : IsCl cl b
    · rw [retr_is z] at e
      obtain ⟨v, q⟩ := hc b z
      have q' := q
      rw [e] at q'
      cases q'
      obtain ⟨ob, k1, k2, k3⟩ := hold b z
      obtain ⟨f1, f2, f3⟩ := ok b _ q
      exact ⟨f3 s.heap h' f1 fun o2 e2 => (by rw [k1] at e2; cases e2; exact kp b _ k1 k2 k3), ⟨_, kp b _ k1 k2 k3⟩, f3⟩
    · rw [retr_no z] at e
      exact (ok1 b o e).stay (fun _ _ _ h => h) (fun b' e' => by rw [retr_no fun z' => by rw [h0 _ z'] at e'; cases e']; exact e') fun b' xs e' => by rw [retr_no fun z' => by rw [h0 _ z'] at e'; cases e']; exact e'
  have h2no : ∀ {b : Addr}, H b = none → ¬ IsCl cl b := fun {b} e z => by
    obtain ⟨v, q⟩ := hc b z
    rw [e] at q; cases q
  have un0 : ∀ {b : Addr}, H b = none → untr cl H b = none := fun {b} e => by rw [untr_no (h2no e)]; exact e
  refine wpAny_call (codeAny_mono run fun r s' hr' => ?_)
  cases r with
  | ok fl =>
    cases fl <;> try exact hr'.elim
    case ret u =>
      obtain ⟨v, H1, os, ba, un, ok1, rv, q⟩ := hr'
      have h0 : ∀ b, IsCl cl b → H1 b = none := fun b hb => by
        obtain ⟨o, k1, k2, _⟩ := hold b hb
        exact un.free b o k1 k2 (by simp)
      refine I.after ⟨v, retr cl H H1, os, ba, ?_, back ok1 h0 (fun b o e1 e2 e3 => un.keep b o e1 e2 e3 (by simp)), rv, q h0⟩
      have tl : ∀ {b : Addr} {o : HO}, H1 b = some o → retr cl H H1 b = some o := fun {b o} e => by rw [retr_no fun z => by rw [h0 b z] at e; cases e]; exact e
      refine ⟨fun b o e1 e2 => un.keep b o e1 (un0 e2), fun b o e1 e2 => un.slot b o e1 (un0 e2), fun b o e1 e2 e3 => ?_, un.there, fun b xs e => tl (un.tups b xs (untr_keep hc e (fun _ z => nomatch z))), fun b o u e => tl (un.frzs b o u (untr_keep hc e (fun _ z => nomatch z))), fun b ps e => ?_⟩
      · rw [retr_no (h2no e2)]; exact un.free b o e1 (un0 e2) e3
      · obtain ⟨m, q⟩ := un.tbls b ps (untr_keep hc e (fun _ z => nomatch z))
        exact ⟨m, tl q⟩
  | error e =>
    obtain ⟨a1, B, H1, cls, dd, rfl, fz, ok1, ub, ha1, os, ba, q⟩ := hr'
    have h0 : ∀ b, IsCl cl b → H1 b = none := fun b hb => by
      obtain ⟨o, k1, k2, _⟩ := hold b hb
      exact ub.free b o k1 k2
    have tl : ∀ {b : Addr} {o : HO}, H1 b = some o → retr cl H H1 b = some o := fun {b o} e => by rw [retr_no fun z => by rw [h0 b z] at e; cases e]; exact e
    refine hx pins H s _ s' I ⟨a1, B, retr cl H H1, cls, dd, rfl, fz, back ok1 h0 (fun b o e1 e2 e3 => ub.keep b o e1 e2 e3), ⟨fun b o e1 e2 => ub.keep b o e1 (un0 e2), ub.slot, fun b o e1 e2 => ?_, ub.there, fun b xs e => tl (ub.tups b xs (untr_keep hc e (fun _ z => nomatch z))), fun b o u e => tl (ub.frzs b o u (untr_keep hc e (fun _ z => nomatch z))), fun b ps e => ?_⟩, ?_, os, ba, q h0⟩
    · rw [retr_no (h2no e2)]; exact ub.free b o e1 (un0 e2)
    · obtain ⟨m, q⟩ := ub.tbls b ps (untr_keep hc e (fun _ z => nomatch z))
      exact ⟨m, tl q⟩
    · by_cases z : IsCl cl a1
      · obtain ⟨o, k1, k2, k3⟩ := hold a1 z
        have := ub.keep a1 o k1 k2 k3
        rw [fz.2.1] at this; cases this
      · rw [retr_no z]; exact ha1
end

/-! ### exceptions -/
/-- an __init__ that keeps its one argument -/
def spI (C : Addr) (f : Str) : Sp := fun vs H Q _ => ∃ a v, vs = [V.ref a, v] ∧ H a = some (exo a C none) ∧ ∀ dx, H dx = none → dx ≠ a → Q .non (upd (upd H dx (exd dx [(f, v)])) a (exo a C (some dx)))
/-- a class of exceptions: a plain one (its number below 100), one that keeps one thing -/
def ExcOk (tb : Bool) (X : Cx) (ξ : XRel) (x : Str) (k : Nat) : Prop := ∃ C : Addr, X.mg x = some (.ref C) ∧ PySem.W.keepIn X.K (.ref C) = true ∧
  (k < 100 → Raises X (.ref C) ∧ (∃ B newId initId bmB, ExcBaseFacts B newId initId bmB ∧ PySem.W.excIn X.K C bmB newId = true) ∧ ∀ H μ, ξ k [] H μ (.ref C) none) ∧
  (100 ≤ k → OexC X.K C ∧ ∃ fI fd k' f, PySem.W.findIn X.K (.ref C) "__init__" = some (some (.ref fI)) ∧ PySem.W.typeIn X.K (.ref fI) = some (.type "function") ∧ FnOk X.prog X.w X.K X.mg X.base (L2.CX X.prog X.w) k' fI fd ["self", f] (spI C f) ∧ Room (k' + 1 + if tb then 1 else 0) X.A ∧ Binds X.K fd ["self", f] [] ∧
    ∀ H μ dx d v, H dx = some (.xd [(f, v)]) → RD X.K H μ d v → ξ k [d] H μ (.ref C) (some dx))
section
variable {X : Cx}
/-- raise E(): an own class, nothing handed over -/
theorem pmk_own0 {C : Addr} {bmB : List Value} {B newId initId : String} {x : Str} {p pos : Pos} (F : ExcBaseFacts B newId initId bmB) (q : PySem.W.excIn X.K C bmB newId = true) (gC : X.mg x = some (.ref C)) (kC : PySem.W.keepIn X.K (.ref C) = true) (r : Raises X (.ref C)) (hg : Gl X x) (hd : (x == ("__debug__" : Str)) = false) :
    PMk X (.Call (.Name x p) [] [] pos) fun _ H Q => Q (.ref C) none H := by
  intro pins s σ H Q I h
  refine wpAny_Call_Name_kw (ld_glob I hg gC (PySem.W.callWith_K0 I.kIn kC ?_) hd)
  obtain ⟨bm, N, nm, qn, bs, hdct, sn, sub, ab, col, dd, k0, k1, k2, k3, k5, mN, e1, e2, e3, e4⟩ := exc_obj I.kIn q
  exact wpAny_call_exc_subT F e4 e1 e2 e3 fun h' e m => mk_of I m r h (by
    cases he : H e with
    | none => rfl
    | some o =>
      obtain ⟨ob, q⟩ := objOk_get (I.hok e o he)
      rw [m.new] at q; cases q)
theorem pmk_oexR {C fI : Addr} {k : Nat} {fd : FuncData} {f x : Str} {e : Expr} {te : TE} {p pos : Pos} (T : OexC X.K C) (iC : PySem.W.findIn X.K (.ref C) "__init__" = some (some (.ref fI))) (tI : PySem.W.typeIn X.K (.ref fI) = some (.type "function"))
    (F : FnOk X.prog X.w X.K X.mg X.base (L2.CX X.prog X.w) k fI fd ["self", f] (spI C f)) (hr : Room (k + 1) X.A) (hb : Binds X.K fd ["self", f] []) (hg : Gl X x) (hm : X.mg x = some (.ref C)) (hd : (x == ("__debug__" : Str)) = false) (he : PE X e te)
    (hs : starEach [e] X.env = (false, eval e X.env) :: starEach [] X.env) : PMk X (.Call (.Name x p) [e] [] pos) (tMkO C (spI C f) [] (tCons te tNil)) :=
  pmk_oex (ds := []) (dvs := []) T iC tI F hr hb .nil (fun pins σ H s e s' I h => (by
    obtain ⟨_, _, _, _, _, _, _, _, _, _, _, _, q⟩ := h
    exact q.elim)) hg hm (pa_cons he pa_nil hs) hd hs rfl
/-- what tMkO asks, said for one value -/
theorem mkO_of {C : Addr} {f : Str} {v : V} {H1 : Hp} {Q : XK} (h : ∀ dx, H1 dx = none → Q (.ref C) (some dx) (upd H1 dx (.xd [(f, v)]))) :
    [v].length ≤ 1000 ∧ ∀ a, H1 a = none → spI C f (.ref a :: ([v] ++ [])) (upd H1 a (exo a C none)) (fun v H2 => v = .non ∧ ∃ d fs, H2 a = some (exo a C (some d)) ∧ H2 d = some (exd d fs) ∧ H1 d = none ∧ Q (.ref C) (some d) (upd (del H2 a) d (.xd fs))) (fun _ _ _ => False) := by
  refine ⟨by show 1 ≤ 1000; decide, fun a ha => ⟨a, v, rfl, upd_same, fun dx hx hne => ⟨rfl, dx, [(f, v)], upd_same, ?_, ?_, ?_⟩⟩⟩
  · rw [upd_ne hne, upd_same]
  · rw [upd_ne hne] at hx; exact hx
  · have hx' : H1 dx = none := by rw [upd_ne hne] at hx; exact hx
    have e : upd (del (upd (upd (upd H1 a (exo a C none)) dx (exd dx [(f, v)])) a (exo a C (some dx))) a) dx (.xd [(f, v)]) = upd H1 dx (.xd [(f, v)]) := by
      funext b
      by_cases h1 : b = dx
      · subst h1; rw [upd_same, upd_same]
      · rw [upd_ne h1, upd_ne h1]
        unfold del
        by_cases h2 : b = a
        · rw [if_pos h2, h2, ha]
        · rw [if_neg h2, upd_ne h2, upd_ne h1, upd_ne h2]
    rw [e]
    exact h dx hx'
/-- isinstance(e, A) of what is handled, also of one that keeps something -/
theorem call_isE' {a D A : Addr} {dd : Option Addr} {oe : Obj} {pn : List (Addr × Obj)} {b : Bool} (C : ExcC X.K D) (hcl : (PySem.W.clsIn X.K D).isSome = true) (hz : Zc (.ref D) dd oe) (hf : ∃ vs, oe.data = .fields vs) (hk : PySem.W.kitOne X.K (.ref D) (.ref A) = some b) :
    CallR (X.suite a ((a, oe) :: pn)) (.builtin "isinstance") fun xs H Q => xs = [.ref a, .ref A] ∧ (∀ dx, dd = some dx → ∃ fs, H dx = some (.xd fs)) ∧ Q (.bl b) H := by
  intro pins s σ H xs us Q I rv h
  obtain ⟨rfl, hd, q⟩ := h
  have hp := (I.pin (a, oe) (by show _ ∈ ((a, oe) :: pn) ++ pins; simp)).1
  obtain ⟨vs, hvs⟩ := hf
  have od : ∃ od, PySem.W.InstAt s.heap a oe D od := by
    cases dd with
    | none => exact ⟨none, hp, hz.1, by unfold PySem.W.notCls; rw [hvs], by rw [hz.2]; trivial⟩
    | some dx =>
      obtain ⟨fs, e⟩ := hd dx rfl
      obtain ⟨mA, ⟨o, es, ep, e2, _⟩, _⟩ := I.hok dx _ e
      exact ⟨some o, hp, hz.1, by unfold PySem.W.notCls; rw [hvs], by rw [hz.2]; exact e2⟩
  obtain ⟨od, ia⟩ := od
  cases rv with
  | cons r1 rv =>
    cases rv with
    | cons r2 rv =>
      cases rv
      cases r1; cases r2
      exact PySem.W.kia_one (PySem.W.kitx_exc (ox := oe) (od := od) hcl C.hg C.hk C.hs C.ha C.hn C.ht C.hm) I.kIn ia hk (fun z => nomatch z) fun tk => ⟨.bl b, _, I.tok tk, rfl, q⟩
end
end Cut
/-! Does our text stand for theirs? A look, and what follows from it. -/
namespace Cut
open PySem PySem.Spec PyProof.Rows L2
variable [Tbl] [Cur]

structure Gx where
  con : List (Str × D)
  fns : List (Str × Nat)
  dfl : List (Str × List Int) := []
  hot : Bool := false
  slot : Nat := 0
  exB : Str := ""
  exs : List (Str × Nat) := []
  fld : List (Str × Nat) := []
def Gx.dflOf (Γ : Gx) (x : Str) : List Int := (Γ.dfl.lookup x).getD []

def dbg : Str := "__debug__"
def cdc : Str := "__classdict__"
def visB (sc : Scope) (x : Str) : Bool := match sc.names.lookup x with
  | some .local | some .cell | some .free => true
  | _ => false
def glB (sc : Scope) (x : Str) : Bool := decide (sc.names.lookup x = some .globalImplicit) && !(x == dbg)
def tyN (x : Str) : Option Ty := if x = ("int" : Str) then some .int else if x = ("bool" : Str) then some .bool else if x = ("str" : Str) then some .str else if x = ("tuple" : Str) then some .tuple else if x = ("list" : Str) then some .list else if x = ("dict" : Str) then some .dict else none
def constD : Const → Option D
  | .none => some .non
  | .bool b => some (.bl b)
  | .int i => some (.int i)
  | .str s => some (.str s.cps.toList)
  | _ => none
def notSet : Expr → Bool
  | .Set _ _ _ => false
  | _ => true
def notStar : Expr → Bool
  | .Starred _ _ => false
  | _ => true
def notComp : Expr → Bool
  | .ListComp .. | .SetComp .. | .DictComp .. => false
  | _ => true
def notSlice : Expr → Bool
  | .Slice .. => false
  | _ => true
def notTuple : Expr → Bool
  | .Tuple .. => false
  | _ => true
def notList : Expr → Bool
  | .List .. => false
  | _ => true
/-- no test of its own: truth of its value -/
def plainT : Expr → Bool
  | .UnaryOp .Not _ _ | .BoolOp .. | .IfExp .. | .Compare .. => false
  | _ => true
def baseOk : Expr → Bool
  | .Call (.Name x _) [] [] _ => x != "super"
  | _ => true
def bfN : Bf → Str
  | .len => "len" | .int => "int" | .tuple => "tuple" | .list => "list" | .min => "min" | .max => "max" | .isin => "isinstance" | .any => "any" | .sorted => "sorted" | .sum => "sum" | .minL => "min" | .maxL => "max"
def mtN : Mt → Str
  | .append => "append" | .extend => "extend" | .pop | .popAt => "pop" | .join => "join" | .indexL | .indexS | .indexT => "index" | .countL => "count" | .upper => "upper"
def mtOk : Mt → Bool
  | .append | .extend | .pop | .popAt | .join | .indexL | .indexS | .upper | .countL => true
  | _ => false
def isTup : Expr → Bool
  | .Tuple _ _ _ => true
  | _ => false
/-- .index of a tuple of the module -/
def conT (Γ : Gx) (sc : Scope) (m : Mt) (o : Ex) (f : Expr) : Bool := match m, o, f with
  | .indexT, .k (.tup xs), .Name x _ => glB sc x && decide (Γ.con.lookup x = some (.tup xs))
  | _, _, _ => false
def ownN (N : List Str) (own : List Nat) : List (Str × Nat) := own.filterMap fun i => (N[i]?).map fun x => (x, i)
def bltNames : List Str := ["len", "int", "tuple", "list", "min", "max", "isinstance", "bool", "str", "dict", "range", "all", "any", "enumerate", "zip", "sorted", "sum"]

/-- the names of a generator expression's own frame -/
def genC (N : List Str) (sc scope : Scope) (own : List (Str × Nat)) : Bool := blkC N sc scope own && (!scope.isCoroutine && ((scope.names.all fun y => !(y.2 == .cell)) && decide (scope.names.lookup (".0" : Str) = some .local)))
/-- a call of a name -/
def callOf : Expr → Option (Str × List Expr)
  | .Call (.Name x _) as [] _ => some (x, as)
  | _ => none
theorem callOf_ok {e : Expr} {x : Str} {as : List Expr} (h : callOf e = some (x, as)) : ∃ p pos, e = .Call (.Name x p) as [] pos := by
  unfold callOf at h
  split at h
  · cases h; exact ⟨_, _, rfl⟩
  · cases h
/-- f(g(..)) -/
def rngOf (e : Expr) : Option (Str × Str × List Expr) := match callOf e with
  | some (x, [a]) => (callOf a).map fun q => (x, q.1, q.2)
  | _ => none
theorem rngOf_ok {e : Expr} {x y : Str} {as : List Expr} (h : rngOf e = some (x, y, as)) : ∃ p p2 pos2 pos, e = .Call (.Name x p) [.Call (.Name y p2) as [] pos2] [] pos := by
  unfold rngOf at h
  split at h
  · rename_i x' a e1
    obtain ⟨q, e2, e3⟩ := Option.map_eq_some_iff.mp h
    cases e3
    obtain ⟨p, pos, rfl⟩ := callOf_ok e1
    obtain ⟨p2, pos2, rfl⟩ := callOf_ok e2
    exact ⟨p, p2, pos2, pos, rfl⟩
  · cases h
def withRng1 (e : Expr) (k : Str → Str → Expr → Bool) : Bool := match rngOf e with
  | some (x, y, [f]) => k x y f
  | _ => false
def withRng2 (e : Expr) (k : Str → Str → Expr → Expr → Bool) : Bool := match rngOf e with
  | some (x, y, [f, g]) => k x y f g
  | _ => false
theorem withRng1_ok {e : Expr} {k : Str → Str → Expr → Bool} (h : withRng1 e k = true) : ∃ x y f p p2 pos2 pos, e = .Call (.Name x p) [.Call (.Name y p2) [f] [] pos2] [] pos ∧ k x y f = true := by
  unfold withRng1 at h
  split at h
  · rename_i x y f e1
    obtain ⟨p, p2, pos2, pos, rfl⟩ := rngOf_ok e1
    exact ⟨x, y, f, p, p2, pos2, pos, rfl, h⟩
  · cases h
theorem withRng2_ok {e : Expr} {k : Str → Str → Expr → Expr → Bool} (h : withRng2 e k = true) : ∃ x y f g p p2 pos2 pos, e = .Call (.Name x p) [.Call (.Name y p2) [f, g] [] pos2] [] pos ∧ k x y f g = true := by
  unfold withRng2 at h
  split at h
  · rename_i x y f g e1
    obtain ⟨p, p2, pos2, pos, rfl⟩ := rngOf_ok e1
    exact ⟨x, y, f, g, p, p2, pos2, pos, rfl, h⟩
  · cases h
section
variable (Γ : Gx) (N : List Str)
/-- a slot that may be written here -/
def ckV (sc : Scope) (df : Bool) (i : Nat) (x : Str) : Bool := decide (N[i]? = some x) && (decide (sc.names.lookup x = some .local) || (df && decide (sc.names.lookup x = some .cell)))
def ckVs (sc : Scope) (df : Bool) : List Nat → List Expr → Bool
  | [], [] => true
  | i :: is, .Name x _ :: es => ckV N sc df i x && ckVs sc df is es
  | _, _ => false
def ckXs (sc : Scope) (df : Bool) : List (Nat ⊕ List Nat) → List Expr → Bool
  | [], [] => true
  | .inl i :: ts, .Name x _ :: es => ckV N sc df i x && ckXs sc df ts es
  | .inr is :: ts, .Tuple fs _ _ :: es => ckVs N sc df is fs && ckXs sc df ts es
  | _, _ => false
def ckTg (sc : Scope) (df : Bool) : Tg → Expr → Bool
  | .v i, .Name x _ => ckV N sc df i x
  | .tup is, .Tuple es _ _ => ckVs N sc df is es
  | .nest ts, .Tuple es _ _ => ckXs N sc df ts es
  | _, _ => false
mutual
def ckE (tb : Bool) (sc : Scope) : Ex → Expr → Bool
  | .k d, e => (match e with
    | .Constant c _ _ => decide (constD c = some d)
    | .Name x _ => glB sc x && (decide (Γ.con.lookup x = some d) || (decide ((tyN x).map D.ty = some d) && decide (Γ.con.lookup x = none)))
    | _ => false)
  | .v i, e => (match e with
    | .Name x _ => decide (N[i]? = some x) && (visB sc x && (!(x == dbg) && !(x == cdc)))
    | _ => false)
  | .un o a, e => (match o, e with
    | .not, .UnaryOp .Not f _ => ckE tb sc a f
    | .neg, .UnaryOp .USub f _ => ckE tb sc a f
    | _, _ => false)
  | .bin o a b, e => (match e with
    | .BinOp f p g _ => decide (binOf o = some p) && (ckE tb sc a f && ckE tb sc b g)
    | .Compare f [p] [g] _ => decide (cmpOf o = some p) && (notSet g && (ckE tb sc a f && ckE tb sc b g))
    | .Subscript f g _ => decide (o = .ix) && (notSlice g && (ckE tb sc a f && ckE tb sc b g))
    | _ => false)
  | .and a b, e => (match e with
    | .BoolOp .And [f, g] _ => ckE tb sc a f && ckE tb sc b g
    | .BoolOp .And (f :: g :: h :: r) pos => ckE tb sc a f && ckE tb sc b (.BoolOp .And (g :: h :: r) pos)
    | _ => false)
  | .or a b, e => (match e with
    | .BoolOp .Or [f, g] _ => ckE tb sc a f && ckE tb sc b g
    | .BoolOp .Or (f :: g :: h :: r) pos => ckE tb sc a f && ckE tb sc b (.BoolOp .Or (g :: h :: r) pos)
    | _ => false)
  | .ite t a b, e => (match e with
    | .IfExp h f g _ => ckE tb sc t h && (ckE tb sc a f && ckE tb sc b g)
    | _ => false)
  | .chain o p a b d, e => (match e with
    | .Compare f [o', p'] [g, h] _ => decide (cmpOf o = some o') && (decide (cmpOf p = some p') && (notSet h && (ckE tb sc a f && (ckE tb sc b g && ckE tb sc d h))))
    | _ => false)
  | .tup es, e => (match e with
    | .Tuple fs _ _ => ckEs tb sc es fs
    | _ => false)
  | .lst es, e => (match e with
    | .List fs _ => ckEs tb sc es fs
    | _ => false)
  | .dic0, e => (match e with
    | .Dict [] [] _ => true
    | _ => false)
  | .sl a l h, e => (match e with
    | .Subscript f (.Slice lo hi none _) _ => ckE tb sc a f && (ckO tb sc l lo && ckO tb sc h hi)
    | _ => false)
  | .rev a, e => (match e with
    | .Subscript f (.Slice none none (some (.UnaryOp .USub (.Constant (.int 1) _ _) _)) _) _ => ckE tb sc a f
    | _ => false)
  | .call n es, e => (match e with
    | .Call (.Name x _) fs [] _ => glB sc x && (decide (Γ.fns.lookup x = some n) && ckEs tb sc es fs)
    | _ => false)
  | .callD n es ds, e => (match e with
    | .Call (.Name x _) (f :: fs) [] _ => glB sc x && (decide (Γ.fns.lookup x = some n) && (decide ((Γ.dflOf x).drop ((Γ.dflOf x).length - ds.length) = ds) && ckEs tb sc es (f :: fs)))
    | _ => false)
  | .bf b es, e => (match e with
    | .Call (.Name x _) (f :: fs) [] _ => !Γ.hot && (glB sc x && (decide (x = bfN b) && ckEs tb sc es (f :: fs)))
    | _ => false)
  | .mt m o es, e => (match e with
    | .Call (.Attribute f nm apos) fs [] cpos => decide (nm = mtN m) && (mtOk m && ((apos.endLine == cpos.line) && (baseOk f && (decide (fs.length < 30) && (ckE tb sc o f && ckEs tb sc es fs))))) || (decide (nm = mtN m) && (conT Γ sc m o f && (!fs.isEmpty && ((apos.endLine == cpos.line) && (decide (fs.length < 30) && ckEs tb sc es fs)))))
    | _ => false)
  | .comp t it c el own, e => (match e with
    | .ListComp elt [⟨tg, iter, ifs, 0⟩] scope _ => !Γ.hot && (blkC N sc scope (ownN N own) && (decide ((ownN N own).map (·.2) = own) && (tgIn own t && (ckTg N (relS scope sc) false t tg && (ckI tb sc it iter tg && (notSet iter && (ckC tb (relS scope sc) c ifs && ckE tb (relS scope sc) el elt)))))))
    | _ => false)
  | .gen all t it el own, e => (match e with
    | .Call (.Name x _) [.GeneratorExp elt [⟨tg, iter, [], 0⟩] scope _] [] _ => !Γ.hot && (tb && (glB sc x && (decide (x = (if all then ("all" : Str) else "any")) && (genC N sc scope (ownN N own) && (decide ((ownN N own).map (·.2) = own) && (tgIn own t && (ckTg N scope false t tg && (ckI tb sc it iter tg && (notSet iter && (notList iter && ckE false scope el elt))))))))))
    | _ => false)
  | .callV i, e => (match e with
    | .Call (.Name x _) [] [] _ => !Γ.hot && (decide (N[i]? = some x) && (visB sc x && (!(x == dbg) && !(x == cdc))))
    | _ => false)
  | .isE i k, e => (match e with
    | .Call (.Name f _) [.Name x _, .Name y _] [] _ => Γ.hot && (decide (i = Γ.slot) && (glB sc f && (decide (f = ("isinstance" : Str)) && (decide (N[i]? = some x) && (visB sc x && (!(x == dbg) && (!(x == cdc) && (glB sc y && decide (Γ.exs.lookup y = some k)))))))))
    | _ => false)
  | .fldE i m, e => (match e with
    | .Attribute (.Name x p) n _ => Γ.hot && (decide (i = Γ.slot) && (decide (N[i]? = some x) && (visB sc x && (!(x == dbg) && (!(x == cdc) && (baseOk (.Name x p) && decide (Γ.fld.lookup n = some m)))))))
    | _ => false)
  | .rng1D t hi, e => withRng1 e fun x y f => !Γ.hot && (glB sc x && (decide (x = if t then ("tuple" : Str) else "list") && (glB sc y && (decide (y = ("range" : Str)) && (notStar f && ckE tb sc hi f)))))
  | .rng2D t lo hi, e => withRng2 e fun x y f k => !Γ.hot && (glB sc x && (decide (x = if t then ("tuple" : Str) else "list") && (glB sc y && (decide (y = ("range" : Str)) && (notStar f && (notStar k && (ckE tb sc lo f && ckE tb sc hi k)))))))
def ckEs (tb : Bool) (sc : Scope) : Exs → List Expr → Bool
  | .nil, es => es.isEmpty
  | .cons a as, es => (match es with
    | e :: r => notStar e && (ckE tb sc a e && ckEs tb sc as r)
    | [] => false)
def ckO (tb : Bool) (sc : Scope) : Exo → Option Expr → Bool
  | .none, e => e.isNone
  | .some a, e => (match e with
    | some f => ckE tb sc a f
    | none => false)
def ckC (tb : Bool) (sc : Scope) : Exo → List Expr → Bool
  | .none, e => e.isEmpty
  | .some a, e => (match e with
    | [f] => ckE tb sc a f
    | _ => false)
def ckI (tb : Bool) (sc : Scope) : It → Expr → Expr → Bool
  | .one a, e, _ => ckE tb sc a e
  | .rng1 a, e, _ => (match e with
    | .Call (.Name x _) [f] [] _ => glB sc x && (decide (x = ("range" : Str)) && (notStar f && ckE tb sc a f))
    | _ => false)
  | .rng2 a b, e, _ => (match e with
    | .Call (.Name x _) [f, g] [] _ => glB sc x && (decide (x = ("range" : Str)) && (notStar f && (notStar g && (ckE tb sc a f && ckE tb sc b g))))
    | _ => false)
  | .enum a, e, tg => isTup tg && (match e with
    | .Call (.Name x _) [f] [] _ => glB sc x && (decide (x = ("enumerate" : Str)) && (notStar f && ckE tb sc a f))
    | _ => false)
  | .zip a b, e, tg => isTup tg && (match e with
    | .Call (.Name x _) [f, g] [] _ => glB sc x && (decide (x = ("zip" : Str)) && (notStar f && (notStar g && (ckE tb sc a f && ckE tb sc b g))))
    | _ => false)
end

/-- no plain local name -/
def notLoc (sc : Scope) : Expr → Bool
  | .Name id _ => !(sc.names.lookup id == some .local)
  | _ => true
/-- a, b = x, y: the stores are not exchanged -/
def swN (sc : Scope) (ts vs : List Expr) : Bool := (!(ts.length == 2 || ts.length == 3) || vs.length != ts.length) || (vs.all (foldedForSure 8) || ts.any (notLoc sc))
/-- a, b = x, y: they are -/
def swY (vs : List Expr) : Bool := vs.all notStar && (!vs.all (foldedForSure 8) && !vs.all (constantsAlone 8))
def swE (sc : Scope) (ts : List Expr) : Expr → Bool
  | .Tuple vs _ _ => swN sc ts vs
  | _ => true
/-- is the list display's name stored within the comprehension's own run? -/
def swC (sc : Scope) (e : Expr) (x : Str) (py : Pos) : Bool := match e with
  | .ListComp _ _ scope pos => decide (sc.names.lookup x = some .local) && (py.line == pos.line && !(scope.names.any fun (n, k) => n == x && (k == .local || k == .cell)))
  | _ => false
mutual
def ckS (tb : Bool) (sc : Scope) : Sm → Stmt → Bool
  | .pass, s => (match s with
    | .Pass _ => true
    | .Expr (.Constant (.str _) _ _) _ => true
    | _ => false)
  | .expr a, s => (match s with
    | .Expr e _ => notComp e && ckE Γ N tb sc a e
    | _ => false)
  | .set t a, s => (match s with
    | .Assign [.Name x py] e pos => (match t with
      | .v i => ckV N sc true i x && ckE Γ N tb sc a e
      | _ => false)
    | .Assign [.Tuple ts _ _] e _ => (match t with
      | .tup is => !Γ.hot && (ckVs N sc true is ts && (swE sc ts e && (notComp e && ckE Γ N tb sc a e)))
      | _ => false)
    | _ => false)
  | .par is es, s => (match s with
    | .Assign [.Tuple ts _ _] (.Tuple vs _ _) _ => !Γ.hot && (match is, ts with
      | [i, j], [.Name x px, .Name y py] => decide (N[i]? = some x) && (decide (N[j]? = some y) && (decide (i ≠ j) && (decide (sc.names.lookup x = some .local) && (decide (sc.names.lookup y = some .local) && ((py.line == px.line && (!(x == y) && swY vs)) && (decide (vs.length = 2) && ckEs Γ N tb sc es vs))))))
      | [i, j, k], [.Name x px, .Name y py, .Name z pz] => decide (N[i]? = some x) && (decide (N[j]? = some y) && (decide (N[k]? = some z) && (decide (i ≠ j) && (decide (i ≠ k) && (decide (j ≠ k) && (decide (sc.names.lookup x = some .local) && (decide (sc.names.lookup y = some .local) && (decide (sc.names.lookup z = some .local) && ((py.line == px.line && (pz.line == px.line && (!(x == y) && (!(x == z) && (!(y == z) && swY vs))))) && (decide (vs.length = 3) && ckEs Γ N tb sc es vs))))))))))
      | _, _ => false)
    | _ => false)
  | .setIx a i e, s => (match s with
    | .Assign [.Subscript f g _] h _ => notSlice g && (notComp h && (ckE Γ N tb sc a f && (ckE Γ N tb sc i g && ckE Γ N tb sc e h)))
    | _ => false)
  | .setKey a i e, s => (match s with
    | .Assign [.Subscript f g _] h _ => notSlice g && (notComp h && (ckE Γ N tb sc a f && (ckE Γ N tb sc i g && ckE Γ N tb sc e h)))
    | _ => false)
  | .aug i o a, s => (match s with
    | .AugAssign (.Name x _) p e _ => ckV N sc true i x && (decide (binOf o = some p) && ckE Γ N tb sc a e)
    | _ => false)
  | .augIx a i o e, s => (match s with
    | .AugAssign (.Subscript f g _) p h _ => notSlice g && (decide (binOf o = some p) && (ckE Γ N tb sc a f && (ckE Γ N tb sc i g && ckE Γ N tb sc e h)))
    | _ => false)
  | .ifs t a b, s => (match s with
    | .If e s1 s2 _ => ckE Γ N tb sc t e && (ckSs tb sc a s1 && ckSs tb sc b s2)
    | _ => false)
  | .whil t a, s => (match s with
    | .While e s1 [] _ => ckE Γ N tb sc t e && ckSs tb sc a s1
    | _ => false)
  | .for_ t it a, s => (match s with
    | .For tg iter s1 [] _ => !Γ.hot && (ckTg N sc true t tg && (notSet iter && (ckI Γ N tb sc it iter tg && ckSs tb sc a s1)))
    | _ => false)
  | .ret a, s => (match s with
    | .Return (some e) _ => ckE Γ N tb sc a e
    | _ => false)
  | .retN, s => (match s with
    | .Return none _ => true
    | _ => false)
  | .brk, s => (match s with
    | .Break _ => true
    | _ => false)
  | .cnt, s => (match s with
    | .Continue _ => true
    | _ => false)
  | .raise k es, s => (match s with
    | .Raise (some (.Call (.Name x _) fs [] _)) none _ => !Γ.hot && (glB sc x && (decide (Γ.exs.lookup x = some k) && (match es, fs with
      | .nil, [] => decide (k < 100)
      | .nil, [.Constant (.str _) _ _] => decide (k < 100)
      | .cons a .nil, [f] => decide (100 ≤ k) && (notStar f && ckE Γ N tb sc a f)
      | _, _ => false)))
    | _ => false)
  | .tryAs _ _ _ _, _ => false
  | .lams _, _ => false
  | .never, _ => true
def ckSs (tb : Bool) (sc : Scope) : Sms → List Stmt → Bool
  | .nil, s => s.isEmpty
  | .cons a as, s => (match s with
    | b :: r => ckS tb sc a b && ckSs tb sc as r
    | [] => false)
end
end

/-! ### what the small looks say -/
theorem star_of {env : PySem.Env} : ∀ {e : Expr} {es : List Expr}, notStar e = true → starEach (e :: es) env = (false, eval e env) :: starEach es env := by
  intro e es h
  cases e <;> first | rfl | cases h
theorem set_of {env : PySem.Env} {e : Expr} (h : notSet e = true) (x : Value) : foldedSetIterable e env x = pure x := by
  cases e <;> first | rfl | cases h
theorem mark_of {op : CmpOp} {e : Expr} (h : notSet e = true) : behindInMarks op e = false := by
  cases e <;> first | rfl | cases h
theorem plain_of {env : PySem.Env} {e : Expr} (h : plainT e = true) (whole : Sem Value) : PySem.isTrue e env whole = (do let v ← whole; standAt e.pos; holding [v] (PySem.truthy v)) := by
  cases e <;> first | rfl | (cases h; done) | skip
  case UnaryOp op x pos => cases op <;> first | rfl | (cases h; done)
theorem comp_of {env : PySem.Env} {e : Expr} (h : notComp e = true) (t : Option Expr) (l : Nat) : swapsWith e t l env = pure false := by
  cases e <;> first | rfl | (cases h; done)
theorem notSet_comp : ∀ {e : Expr}, notComp e = false → ∃ s, (match e with
    | .ListComp _ _ s _ | .SetComp _ _ s _ | .DictComp _ _ _ s _ => some s
    | _ => none) = some s := by
  intro e h
  cases e <;> first | exact ⟨_, rfl⟩ | cases h
theorem slice_of {e : Expr} (h : notSlice e = true) : PlainIx e := by
  intro o i
  cases e <;> first | rfl | (cases h; done)
theorem base_of {env : PySem.Env} {e : Expr} (h : baseOk e = true) (nm : Str) (w : Sem Value) : attributeBase e nm env w = w := by
  cases e <;> first | rfl | skip
  case Call f as ks pos =>
    cases f <;> first | rfl | skip
    case Name x p =>
      cases as <;> first | rfl | skip
      cases ks <;> first | rfl | skip
      have h : (x != "super") = true := h
      unfold attributeBase
      simp only [h, Bool.true_or, if_true, bind_pure]
theorem splain {env : PySem.Env} {pos : Pos} {Γ : Gx} {N : List Str} {tb : Bool} {sc : Scope} : ∀ {as : Exs} {es : List Expr}, ckEs Γ N tb sc as es = true → (backTo pos (starEach es env)).any (·.1) = false ∧ (backTo pos (starEach es env)).all (fun x => !x.1) = true
  | .nil, es, h => by
    have e : es = [] := List.isEmpty_iff.mp (by simpa [ckEs] using h)
    subst e; exact ⟨rfl, rfl⟩
  | .cons a as, [], h => by simp [ckEs] at h
  | .cons a as, e :: r, h => by
    simp only [ckEs, Bool.and_eq_true] at h
    rw [star_of h.1]
    have := splain (env := env) (pos := pos) h.2.2
    exact ⟨by simpa [backTo] using this.1, by simpa [backTo] using this.2⟩
end Cut
/-! The look is right: expressions. -/
namespace Cut
open PySem PySem.Spec PyProof.Rows L2
variable [Tbl] [Cur]

/-- the exception that is handled: where it stands, what is known of it -/
def HotOk (Γ : Gx) (X : Cx) (C : CallF) : Prop := ∃ (a : Addr) (D : Addr) (dd : Option Addr) (oe : Obj) (pn : List (Addr × Obj)) (X0 : Cx), Cur.at_ = some (Γ.slot, a) ∧ X = X0.suite a ((a, oe) :: pn) ∧ Zc (.ref D) dd oe ∧ (∃ vs, oe.data = .fields vs) ∧ ExcC X.K D ∧ (PySem.W.clsIn X.K D).isSome = true ∧
  (∀ y k, Γ.exs.lookup y = some k → ∃ A b, X.mg y = some (.ref A) ∧ PySem.W.kitOne X.K (.ref D) (.ref A) = some b ∧ ∀ G, C excIs [.int k] G = .ok (.bl b) G) ∧
  (∀ n m, Γ.fld.lookup n = some m → ∀ G, C excFld [.int m] G = .stuck ∨ ∃ d, C excFld [.int m] G = .ok d G ∧ XfC X.K D ∧ PySem.W.findIn X.K (.ref D) n = some none ∧ ∀ H μ, Cur.rel H μ → ∃ dx fs v, dd = some dx ∧ H dx = some (.xd fs) ∧ fs.lookup n = some v ∧ RD X.K H μ d v) ∧
  (∀ dx, dd = some dx → ∀ H μ, Cur.rel H μ → ∃ fs, H dx = some (.xd fs))
def XMono (ξ : XRel) : Prop := ∀ k fs H H' (μ μ' : List Addr) cls dd, XT H H' → μ <+: μ' → ξ k fs H μ cls dd → ξ k fs H' μ' cls dd
structure Good (Γ : Gx) (N : List Str) (C : CallF) (tb : Bool) (X : Cx) (c : Ct) (sc : Scope) : Prop where
  hK : c.K = X.K
  hN : X.N = N
  nd : N.Nodup
  hsc : X.env.scope = sc
  calm : Γ.hot = false → X.calm = true
  cal : Γ.hot = false → Cur.at_ = none
  hu : X.A.units + 65 + (if tb then 5 else 0) < cLine
  tk : Takes X c.W
  con : ∀ x d, Γ.con.lookup x = some d → ∃ v u, X.mg x = some u ∧ RelV v u ∧ (∀ H μ, RD X.K H μ d v) ∧ ∀ xs, d = .tup xs → ∀ H, tyV X.K "tuple" v H
  blt : ∀ x ∈ bltNames, X.mg x = none
  fns : ∀ x n, Γ.fns.lookup x = some n → ∃ fa fd ps k, X.mg x = some (.ref fa) ∧ PySem.W.keepIn X.K (.ref fa) = true ∧ FnOk X.prog X.w X.K X.mg X.base (L2.CX X.prog X.w) k fa fd ps (spR X.K c.ξ ps.length (C n)) ∧ Room (k + if tb then 1 else 0) X.A ∧ (∀ j, j ≤ (Γ.dflOf x).length → ∃ us, Vals (((Γ.dflOf x).drop j).map V.int) us ∧ Binds X.K fd ps us) ∧ ∀ ds G, ds.length ≠ ps.length → C n ds G = .stuck
  ξm : XMono c.ξ
  lms : Γ.hot = false → ∀ f L, Tbl.lm f = some L → ∃ k, LOk X.prog X.w X.K X.mg X.base c.ξ k L (C f) ∧ Room (k + if tb then 1 else 0) X.A
  exs : Γ.hot = false → ∀ x k, Γ.exs.lookup x = some k → ExcOk tb X c.ξ x k
  hots : Γ.hot = true → HotOk Γ X C
  code : tb = true → ∃ cd P, GxR.TabB X.base X.mg cd P ∧ X.env.code = .ref cd ∧ P ∈ Tbl.ps ∧ Room 0 X.A
section
variable {Γ : Gx} {N : List Str} {C : CallF} {tb : Bool} {X : Cx} {c : Ct} {sc : Scope}
theorem Good.hu64 (g : Good Γ N C tb X c sc) : X.A.units + 64 < cLine := by have := g.hu; omega
theorem Good.blk (hh : Γ.hot = false) (g : Good Γ N C tb X c sc) (s : Shared) (H : Hp) (scope : Scope) (A : Addr) (cl : List (Str × Addr)) (fp : List Addr) : Good Γ N C tb (X.blk s H scope (compEnvC scope cl A X.env) fp) c.quiet (relS scope sc) :=
  ⟨g.hK, g.hN, g.nd, by rw [← g.hsc]; rfl, g.calm, g.cal, g.hu, takes0, g.con, g.blt, g.fns, g.ξm, g.lms, g.exs, (fun z => (by rw [hh] at z; cases z)), g.code⟩
theorem Good.gen (hh : Γ.hot = false) (g : Good Γ N C true X c sc) {A : Around} (hA : InGen X A) (s : Shared) (H : Hp) (scope : Scope) (C' : Addr) (cl : List (Str × Addr)) (cd : Value) (fp : List Addr) (pn : List (Addr × Obj)) : Good Γ N C false (genX X A s H (genEnv scope cl C' cd builtinsNs X.env) fp pn) c.quiet scope :=
  ⟨g.hK, g.hN, g.nd, rfl, g.calm, g.cal, by have h := g.hu; have h2 := hA.un; simp only [if_true] at h; show A.units + 65 + 0 < cLine; omega, takes0, g.con, g.blt, fun x n h => by
    obtain ⟨fa, fd, ps, k, h1, h2, h3, h4, r⟩ := g.fns x n h
    exact ⟨fa, fd, ps, k, h1, h2, h3, hA.room h4, r⟩, g.ξm, fun z f L e => by
    obtain ⟨k, h1, h2⟩ := g.lms z f L e
    exact ⟨k, h1, hA.room h2⟩, fun z x k e => by
    obtain ⟨D, h1, h2, h3, h4⟩ := g.exs z x k e
    refine ⟨D, h1, h2, h3, fun z => ?_⟩
    obtain ⟨p1, fI, fd, k', f, p2, p3, p4, p5, p6⟩ := h4 z
    exact ⟨p1, fI, fd, k', f, p2, p3, p4, hA.room p5, p6⟩, (fun z => (by rw [hh] at z; cases z)), (fun z => nomatch z)⟩
theorem genOk_of {N : List Str} {sc scope : Scope} {own : List (Str × Nat)} (h : genC N sc scope own = true) : GenOk N sc scope own := by
  unfold genC at h
  simp only [Bool.and_eq_true, Bool.not_eq_true', decide_eq_true_eq, List.all_eq_true] at h
  exact ⟨blkOk_by h.1, h.2.1, fun y hy e => (by have := h.2.2.1 y hy; rw [e] at this; cases this), h.2.2.2⟩
theorem Good.gl (g : Good Γ N C tb X c sc) {x : Str} (h : glB sc x = true) : Gl X x ∧ (x == ("__debug__" : Str)) = false := by
  unfold glB at h
  rw [Bool.and_eq_true] at h
  refine ⟨?_, by simpa [dbg] using h.2⟩
  show X.env.scope.names.lookup x = _
  rw [g.hsc]
  exact of_decide_eq_true h.1
theorem Good.vis (g : Good Γ N C tb X c sc) {x : Str} (h : visB sc x = true) : Vis X.env.scope x := by
  rw [g.hsc]
  unfold visB at h
  unfold Vis
  split at h
  · rename_i e; exact .inl e
  · rename_i e; exact .inr (.inl e)
  · rename_i e; exact .inr (.inr e)
  · cases h
theorem Good.loc (g : Good Γ N C tb X c sc) {df : Bool} {i : Nat} {x : Str} (h : ckV N sc df i x = true) (hf : df = true → ∀ x, X.fn x = true) :
    X.N[i]? = some x ∧ Loc X.env.scope x ∧ (X.fn x = true ∨ X.env.scope.names.lookup x = some .local) := by
  unfold ckV at h
  simp only [Bool.and_eq_true, Bool.or_eq_true, decide_eq_true_eq] at h
  rw [g.hN, g.hsc]
  refine ⟨h.1, ?_, ?_⟩
  · rcases h.2 with h | h
    · exact .inl h
    · exact .inr h.2
  · rcases h.2 with h | h
    · exact .inr h
    · exact .inl (hf h.1 x)
theorem Good.pgs (g : Good Γ N C tb X c sc) {df : Bool} (hf : df = true → ∀ x, X.fn x = true) : ∀ {is : List Nat} {es : List Expr}, ckVs N sc df is es = true → PGs X es (gsOf is) ∧ (assignEach es X.env).length = is.length ∧ (assignEach es X.env).findIdx? (·.1) = none
  | [], [], _ => ⟨pgs_nil, rfl, rfl⟩
  | [], _ :: _, h => by simp [ckVs] at h
  | _ :: _, [], h => by simp [ckVs] at h
  | i :: is, e :: es, h => by
    cases e <;> try (simp [ckVs] at h; done)
    case Name x p =>
      simp only [ckVs, Bool.and_eq_true] at h
      obtain ⟨h1, h2, h3⟩ := g.loc h.1 hf
      obtain ⟨k1, k2, k3⟩ := g.pgs hf h.2
      refine ⟨pgs_cons (pg_name (by rw [g.hN]; exact g.nd) h1 h2 h3) k1 rfl, by show (assignEach es X.env).length + 1 = is.length + 1; rw [k2], ?_⟩
      show ((false, assign (.Name x p) X.env) :: assignEach es X.env).findIdx? (·.1) = none
      rw [List.findIdx?_cons, k3]
      rfl
theorem Good.pgx (g : Good Γ N C tb X c sc) (hc : X.calm = true) {df : Bool} (hf : df = true → ∀ x, X.fn x = true) : ∀ {ts : List (Nat ⊕ List Nat)} {es : List Expr}, ckXs N sc df ts es = true → PGs X es (gxOf X.K ts) ∧ (assignEach es X.env).length = ts.length ∧ (assignEach es X.env).findIdx? (·.1) = none
  | [], [], _ => ⟨pgs_nil, rfl, rfl⟩
  | [], _ :: _, h => by simp [ckXs] at h
  | .inl _ :: _, [], h => by simp [ckXs] at h
  | .inr _ :: _, [], h => by simp [ckXs] at h
  | .inl i :: ts, e :: es, h => by
    cases e <;> try (simp [ckXs] at h; done)
    case Name x p =>
      simp only [ckXs, Bool.and_eq_true] at h
      obtain ⟨h1, h2, h3⟩ := g.loc h.1 hf
      obtain ⟨k1, k2, k3⟩ := g.pgx hc hf h.2
      refine ⟨pgs_cons (pg_name (by rw [g.hN]; exact g.nd) h1 h2 h3) k1 rfl, by show (assignEach es X.env).length + 1 = ts.length + 1; rw [k2], ?_⟩
      show ((false, assign (.Name x p) X.env) :: assignEach es X.env).findIdx? (·.1) = none
      rw [List.findIdx?_cons, k3]
      rfl
  | .inr is :: ts, e :: es, h => by
    cases e <;> try (simp [ckXs] at h; done)
    case Tuple fs k p =>
      simp only [ckXs, Bool.and_eq_true] at h
      obtain ⟨h1, h2, h3⟩ := g.pgs hf h.1
      obtain ⟨k1, k2, k3⟩ := g.pgx hc hf h.2
      refine ⟨pgs_cons (pg_tup hc h1 h2 h3) k1 rfl, by show (assignEach es X.env).length + 1 = ts.length + 1; rw [k2], ?_⟩
      show ((false, assign (.Tuple fs k p) X.env) :: assignEach es X.env).findIdx? (·.1) = none
      rw [List.findIdx?_cons, k3]
      rfl
theorem Good.pg (g : Good Γ N C tb X c sc) {df : Bool} (hf : df = true → ∀ x, X.fn x = true) {t : Tg} {e : Expr} (hc : X.calm = true) (h : ckTg N sc df t e = true) : PG X e (gOf X.K t) := by
  cases t with
  | v i =>
    cases e <;> try (simp [ckTg] at h; done)
    case Name x p =>
      obtain ⟨h1, h2, h3⟩ := g.loc (show ckV N sc df i x = true by simpa [ckTg] using h) hf
      exact pg_name (by rw [g.hN]; exact g.nd) h1 h2 h3
  | tup is =>
    cases e <;> try (simp [ckTg] at h; done)
    case Tuple es k p =>
      obtain ⟨k1, k2, k3⟩ := g.pgs hf (show ckVs N sc df is es = true by simpa [ckTg] using h)
      exact pg_tup hc k1 k2 k3
  | nest ts =>
    cases e <;> try (simp [ckTg] at h; done)
    case Tuple es k p =>
      obtain ⟨k1, k2, k3⟩ := g.pgx hc hf (show ckXs N sc df ts es = true by simpa [ckTg] using h)
      exact pg_tup hc k1 k2 k3
theorem PE.andOne {e : Expr} {t : TE} {pos : Pos} {o : BoolOp} (h : PE X e t) : PE X (.BoolOp o [e] pos) t := ⟨h.run⟩
theorem tyN_ok (g : Good Γ N C tb X c sc) {x : Str} {t : Ty} (h : tyN x = some t) : X.mg x = none ∧ bootBuiltins x = some (.type t.name) ∧ x ≠ "__name__" := by
  unfold tyN at h
  split at h
  · rename_i e; subst e; cases h; exact ⟨g.blt _ (by decide +kernel), boot_int, by decide +kernel⟩
  split at h
  · rename_i e; subst e; cases h; exact ⟨g.blt _ (by decide +kernel), boot_bool, by decide +kernel⟩
  split at h
  · rename_i e; subst e; cases h; exact ⟨g.blt _ (by decide +kernel), boot_str, by decide +kernel⟩
  split at h
  · rename_i e; subst e; cases h; exact ⟨g.blt _ (by decide +kernel), boot_tuple, by decide +kernel⟩
  split at h
  · rename_i e; subst e; cases h; exact ⟨g.blt _ (by decide +kernel), boot_list, by decide +kernel⟩
  split at h
  · rename_i e; subst e; cases h; exact ⟨g.blt _ (by decide +kernel), boot_dict, by decide +kernel⟩
  · cases h
theorem pe_const {k : Const} {d : D} {j : Nat} {p : Pos} (h : constD k = some d) : PE X (.Constant k j p) (rE c (mK d)) := by
  cases k <;> try (cases h; done)
  case none => cases h; exact PE.imp pe_non fun σ H Q q => rE.k (c := c) (d := .non) (v := .non) (fun _ _ => (rfl : V.non = V.non)) q
  case bool b => cases h; exact PE.imp pe_bl fun σ H Q q => rE.k (c := c) (d := .bl b) (v := .bl b) (fun _ _ => (rfl : V.bl b = V.bl b)) q
  case int i => cases h; exact PE.imp pe_int fun σ H Q q => rE.k (c := c) (d := .int i) (v := .int i) (fun _ _ => (rfl : V.int i = V.int i)) q
  case str s =>
    cases h
    refine PE.imp pe_str fun σ H Q q => rE.k (fun _ _ => ?_) q
    show V.str s = V.str ⟨s.cps.toList.toArray⟩
    simp
theorem ok_bf (g : Good Γ N C tb X c sc) (hc : X.calm = true) {b : Bf} {p pos : Pos} {f : Expr} {fs : List Expr} {t : TA} (hg : Gl X (bfN b)) (hd : (bfN b == ("__debug__" : Str)) = false) (ha : PA X (f :: fs) t)
    (hs : starEach (f :: fs) X.env = (false, eval f X.env) :: starEach fs X.env) (hpl : (backTo pos (starEach fs X.env)).any (·.1) = false) : PE X (.Call (.Name (bfN b) p) (f :: fs) [] pos) (tCB (rN X.K (bf b)) t) := by
  cases b
  · exact pe_callB ok_len hg (g.blt _ (by decide +kernel)) boot_len ha (by decide +kernel) hd hs hpl
  · exact pe_callTy ok_int hg (g.blt _ (by decide +kernel)) boot_int ha (by decide +kernel) hd hs hpl
  · exact pe_callTy ok_tuple hg (g.blt _ (by decide +kernel)) boot_tuple ha (by decide +kernel) hd hs hpl
  · exact pe_callTy (ok_list hc) hg (g.blt _ (by decide +kernel)) boot_list ha (by decide +kernel) hd hs hpl
  · exact pe_callB (ok_min hc) hg (g.blt _ (by decide +kernel)) boot_min ha (by decide +kernel) hd hs hpl
  · exact pe_callB (ok_max hc) hg (g.blt _ (by decide +kernel)) boot_max ha (by decide +kernel) hd hs hpl
  · exact pe_callB ok_isin hg (g.blt _ (by decide +kernel)) boot_isinstance ha (by decide +kernel) hd hs hpl
  · exact pe_callB (ok_any hc) hg (g.blt _ (by decide +kernel)) boot_any ha (by decide +kernel) hd hs hpl
  · exact pe_callB ok_sorted hg (g.blt _ (by decide +kernel)) (show bootBuiltins "sorted" = some (.builtin "sorted") by decide +kernel) ha (by decide +kernel) hd hs hpl
  · exact pe_callB (ok_sum hc) hg (g.blt _ (by decide +kernel)) (show bootBuiltins "sum" = some (.builtin "sum") by decide +kernel) ha (by decide +kernel) hd hs hpl
  · exact pe_callB (ok_minL hc g.hu64) hg (g.blt _ (by decide +kernel)) boot_min ha (by decide +kernel) hd hs hpl
  · exact pe_callB (ok_maxL hc g.hu64) hg (g.blt _ (by decide +kernel)) boot_max ha (by decide +kernel) hd hs hpl
theorem ok_mt {m : Mt} (hm : mtOk m = true) {f : Expr} {apos cpos : Pos} {to : TE} {ta : TA} {fs : List Expr} (ho : PE X f to) (ha : PA X fs ta) (hb : attributeBase f (mtN m) X.env (eval f X.env) = eval f X.env) (hl : (apos.endLine == cpos.line) = true) (hn : fs.length < 30)
    (hs : ∀ e es, fs = e :: es → starEach (e :: es) X.env = (false, eval e X.env) :: starEach es X.env ∧ (backTo cpos (starEach es X.env)).any (·.1) = false) (hall : (backTo cpos (starEach fs X.env)).all (fun x => !x.1) = true) :
    PE X (.Call (.Attribute f (mtN m) apos) fs [] cpos) (match fs with
      | [] => tBM0 X.K (mtT m) (rM X.K (mt m)) to
      | _ => tBM X.K (mtT m) (rM X.K (mt m)) to ta) := by
  cases fs with
  | nil =>
    cases m <;> first | (cases hm; done) | skip
    · exact pe_bm0 PySem.F.plainAttrs_list PySem.F.slot_list_append PySem.F.type_list_append ok_append ho hb hl
    · exact pe_bm0 PySem.F.plainAttrs_list PySem.F.slot_list_extend PySem.F.type_list_extend ok_extend ho hb hl
    · exact pe_bm0 PySem.F.plainAttrs_list PySem.F.slot_list_index PySem.F.type_list_index ok_indexL ho hb hl
    · exact pe_bm0 PySem.F.plainAttrs_str PySem.F.slot_str_index PySem.F.type_str_index ok_indexS ho hb hl
    · exact pe_bm0 PySem.F.plainAttrs_list PySem.F.slot_list_pop PySem.F.type_list_pop ok_pop ho hb hl
    · exact pe_bm0 PySem.F.plainAttrs_str PySem.F.slot_str_join PySem.F.type_str_join ok_join ho hb hl
    · exact pe_bm0 PySem.F.plainAttrs_str PySem.F.slot_str_upper PySem.F.type_str_upper ok_upper ho hb hl
    · exact pe_bm0 PySem.F.plainAttrs_list PySem.F.slot_list_count PySem.F.type_list_count ok_countL ho hb hl
    · exact pe_bm0 PySem.F.plainAttrs_list PySem.F.slot_list_pop PySem.F.type_list_pop ok_popAt ho hb hl
  | cons e es =>
    obtain ⟨h1, h2⟩ := hs e es rfl
    have few : ((backTo cpos (starEach (e :: es) X.env)).all (fun x => !x.1) && (backToKw cpos (keywordEach [] X.env)).all (fun x => x.1.isSome)
      && decide ((e :: es).length + ([] : List Keyword).length + (if ([] : List Keyword).isEmpty then 0 else 1) < 30)) = true := by
      rw [hall]
      simp only [Bool.and_eq_true, decide_eq_true_eq]
      exact ⟨⟨trivial, rfl⟩, by simpa using hn⟩
    cases m <;> first | (cases hm; done) | skip
    · exact pe_bm PySem.F.plainAttrs_list PySem.F.slot_list_append PySem.F.type_list_append ok_append ho ha hb few hl h1 h2
    · exact pe_bm PySem.F.plainAttrs_list PySem.F.slot_list_extend PySem.F.type_list_extend ok_extend ho ha hb few hl h1 h2
    · exact pe_bm PySem.F.plainAttrs_list PySem.F.slot_list_index PySem.F.type_list_index ok_indexL ho ha hb few hl h1 h2
    · exact pe_bm PySem.F.plainAttrs_str PySem.F.slot_str_index PySem.F.type_str_index ok_indexS ho ha hb few hl h1 h2
    · exact pe_bm PySem.F.plainAttrs_list PySem.F.slot_list_pop PySem.F.type_list_pop ok_pop ho ha hb few hl h1 h2
    · exact pe_bm PySem.F.plainAttrs_str PySem.F.slot_str_join PySem.F.type_str_join ok_join ho ha hb few hl h1 h2
    · exact pe_bm PySem.F.plainAttrs_str PySem.F.slot_str_upper PySem.F.type_str_upper ok_upper ho ha hb few hl h1 h2
    · exact pe_bm PySem.F.plainAttrs_list PySem.F.slot_list_count PySem.F.type_list_count ok_countL ho ha hb few hl h1 h2
    · exact pe_bm PySem.F.plainAttrs_list PySem.F.slot_list_pop PySem.F.type_list_pop ok_popAt ho ha hb few hl h1 h2
theorem ok_mtT {f f' : Expr} {apos cpos : Pos} {to : TE} {ta : TA} {fs : List Expr} (ho : PE X f to) (ha : PA X (f' :: fs) ta) (hl : (apos.endLine == cpos.line) = true) (hn : (f' :: fs).length < 30) (hb : attributeBase f "index" X.env (eval f X.env) = eval f X.env := by rfl)
    (h1 : starEach (f' :: fs) X.env = (false, eval f' X.env) :: starEach fs X.env) (h2 : (backTo cpos (starEach fs X.env)).any (·.1) = false) (hall : (backTo cpos (starEach (f' :: fs) X.env)).all (fun x => !x.1) = true) :
    PE X (.Call (.Attribute f "index" apos) (f' :: fs) [] cpos) (tBM X.K "tuple" (rM X.K (mt .indexT)) to ta) := by
  have few : ((backTo cpos (starEach (f' :: fs) X.env)).all (fun x => !x.1) && (backToKw cpos (keywordEach [] X.env)).all (fun x => x.1.isSome)
      && decide ((f' :: fs).length + ([] : List Keyword).length + (if ([] : List Keyword).isEmpty then 0 else 1) < 30)) = true := by
    rw [hall]
    simp only [Bool.and_eq_true, decide_eq_true_eq]
    exact ⟨⟨trivial, rfl⟩, by simpa using hn⟩
  exact pe_bm PySem.F.plainAttrs_tuple PySem.F.slot_tuple_index PySem.F.type_tuple_index ok_indexT ho ha hb few hl h1 h2
end
end Cut
/-! The look is right: all expressions. -/
namespace Cut
open PySem PySem.Spec PyProof.Rows L2
variable [Tbl] [Cur]
section
variable {Γ : Gx} {N : List Str} {C : CallF}
/-- value and truth -/
structure Both (X : Cx) (c : Ct) (e : Expr) (f : ME) : Prop where
  pe : PE X e (rE c f)
  t : PT X e (rT c f)
theorem Both.mk1 {tb : Bool} {X : Cx} {c : Ct} {sc : Scope} {e : Expr} {f : ME} (g : Good Γ N C tb X c sc) (h : PE X e (rE c f)) (hp : plainT e = true) : Both X c e f := ⟨h, pt_of g.hK h (plain_of hp)⟩
/-- .. of one item and of more: the test of a chain of and (or) -/
theorem pw_of1 {X : Cx} {e : Expr} {t : TT} {o : BoolOp} {pos : Pos} (h : PT X e t) : PW X (.BoolOp o [e] pos) t := by
  cases o with
  | And => exact pw_and1 h
  | Or => exact pw_or1 h
structure BothW (X : Cx) (c : Ct) (e : Expr) (f : ME) : Prop where
  pe : PE X e (rE c f)
  w : PW X e (rT c f)
theorem BothW.b {X : Cx} {c : Ct} {e : Expr} {f : ME} (h : BothW X c e f) : Both X c e f := ⟨h.pe, h.w.pt⟩
theorem fold_of {env : PySem.Env} {e : Expr} (h : notSet e = true) (h2 : notList e = true) (x : Value) : genFold e env x = pure x := by
  cases e <;> first | rfl | (cases h; done) | (cases h2; done)
theorem pe_rngT {tb : Bool} {X : Cx} {c : Ct} {sc : Scope} {t : Bool} {x y : Str} {p p2 pos pos2 : Pos} {as : List Expr} {te : L2.St → Hp → (Int → Int → Hp → Prop) → Prop} {f : ME} (g : Good Γ N C tb X c sc) (hh : Γ.hot = false) (h1 : glB sc x = true) (h2 : x = if t = true then ("tuple" : Str) else "list") (h3 : glB sc y = true) (h4 : y = ("range" : Str))
    (hp : Gl X "range" → X.mg "range" = none → PRg X (.Call (.Name "range" p2) as [] pos2) te) (hq : ∀ σ H Q, rE c f σ H Q → te σ H fun i j H1 => RgOk i j ∧ (if t then ∀ q, H1 q = none → Q (.ref q) (upd H1 q (.tup (rgV i j))) else ∀ q, H1 q = none → Q (.ref q) (upd H1 q (.lst (rgV i j))))) : PE X (.Call (.Name x p) [.Call (.Name y p2) as [] pos2] [] pos) (rE c f) := by
  obtain ⟨hg, hd⟩ := g.gl h1
  obtain ⟨hg2, hd2⟩ := g.gl h3
  subst h4
  have hcal := g.calm hh
  have hp := hp hg2 (g.blt _ (by decide +kernel))
  cases t with
  | true =>
    have h2 : x = ("tuple" : Str) := h2
    subst h2
    exact PE.imp (pe_tupRg hcal hg (g.blt _ (by decide +kernel)) hp) fun σ H Q q => hq σ H Q q
  | false =>
    have h2 : x = ("list" : Str) := h2
    subst h2
    exact PE.imp (pe_listRg hcal hg (g.blt _ (by decide +kernel)) hp) fun σ H Q q => hq σ H Q q
mutual
theorem sndE : ∀ (a : Ex) (e : Expr) (tb : Bool) (X : Cx) (c : Ct) (sc : Scope), ckE Γ N tb sc a e = true → Good Γ N C tb X c sc → Both X c e (ev C a)
  | .k d, e, tb, X, c, sc, h, g => by
    cases e <;> try (simp [ckE] at h; done)
    case Constant k j p =>
      exact .mk1 g (pe_const (by simpa [ckE] using h)) rfl
    case Name x p =>
      simp only [ckE, Bool.and_eq_true, Bool.or_eq_true, decide_eq_true_eq] at h
      obtain ⟨hg, hd⟩ := g.gl h.1
      refine .mk1 g ?_ rfl
      rcases h.2 with h2 | h2
      · obtain ⟨v, u, hm, rv, rd, _⟩ := g.con x d h2
        exact PE.imp (pe_glob hg hm rv hd) fun σ H Q q => rE.k (by rw [g.hK]; exact rd) q
      · obtain ⟨t, ht, rfl⟩ := Option.map_eq_some_iff.mp h2.1
        obtain ⟨k1, k2, k3⟩ := tyN_ok g ht
        exact PE.imp (pe_bltn hg k1 k2 (show RelV (.ty t.name) (.type t.name) from rfl) k3 hd) fun σ H Q q => rE.k (c := c) (d := .ty t) (v := .ty t.name) (fun _ _ => (rfl : V.ty t.name = V.ty t.name)) q
  | .v i, e, tb, X, c, sc, h, g => by
    cases e <;> try (simp [ckE] at h; done)
    case Name x p =>
      simp only [ckE, Bool.and_eq_true, decide_eq_true_eq] at h
      exact .mk1 g (PE.imp (pe_var (by rw [g.hN]; exact h.1) (g.vis h.2.1) (by simpa [dbg] using h.2.2.1) (by simpa [cdc] using h.2.2.2)) fun σ H Q q => rE.v q) rfl
  | .un o a, e, tb, X, c, sc, h, g => by
    cases e <;> try (cases o <;> simp [ckE] at h; done)
    case UnaryOp p f pos =>
      cases o with
      | not =>
        cases p <;> try (simp [ckE] at h; done)
        have b := sndE a f tb X c sc (by simpa [ckE] using h) g
        exact ⟨PE.imp (pe_notT b.pe) fun σ H Q q => rE.not g.hK q, PT.imp (pt_not b.t) fun σ H Q q => rT.not q⟩
      | neg =>
        cases p <;> try (simp [ckE] at h; done)
        have b := sndE a f tb X c sc (by simpa [ckE] using h) g
        exact .mk1 g (PE.imp (pe_un ok_neg b.pe) fun σ H Q q => g.hK ▸ rE.un q) rfl
  | .bin o a b, e, tb, X, c, sc, h, g => by
    cases e <;> try (simp [ckE] at h; done)
    case BinOp f p k pos =>
      simp only [ckE, Bool.and_eq_true, decide_eq_true_eq] at h
      have b1 := sndE a f tb X c sc h.2.1 g
      have b2 := sndE b k tb X c sc h.2.2 g
      exact .mk1 g (PE.imp (pe_op (ok_bin h.1) b1.pe b2.pe) fun σ H Q q => g.hK ▸ rE.bin q) rfl
    case Compare f ps ks pos =>
      match ps, ks, h with
      | [p], [k], h =>
        simp only [ckE, Bool.and_eq_true, decide_eq_true_eq] at h
        have b1 := sndE a f tb X c sc h.2.2.1 g
        have b2 := sndE b k tb X c sc h.2.2.2 g
        have hu : X.A.units + 64 < cLine := by have := g.hu; omega
        exact ⟨PE.imp (pe_cmpR (ok_cmp hu h.1) b1.pe b2.pe (mark_of h.2.1)) fun σ H Q q => g.hK ▸ rE.bin q, PT.imp (pt_cmpR (ok_cmp hu h.1) b1.pe b2.pe (mark_of h.2.1)) fun σ H Q q => g.hK ▸ rT.cmp h.1 q⟩
      | [], _, h => simp [ckE] at h
      | _ :: _ :: _, _, h => simp [ckE] at h
      | [_], [], h => simp [ckE] at h
      | [_], _ :: _ :: _, h => simp [ckE] at h
    case Subscript f k pos =>
      simp only [ckE, Bool.and_eq_true, decide_eq_true_eq] at h
      obtain ⟨rfl, h⟩ := h
      have b1 := sndE a f tb X c sc h.2.1 g
      have b2 := sndE b k tb X c sc h.2.2 g
      exact .mk1 g (PE.imp (pe_ix ok_ix b1.pe b2.pe (slice_of h.1)) fun σ H Q q => g.hK ▸ rE.bin q) rfl
  | .and a b, e, tb, X, c, sc, h, g => by
    cases e <;> try (simp [ckE] at h; done)
    case BoolOp o es pos =>
      match o, es, h with
      | .And, [f, k], h =>
        simp only [ckE, Bool.and_eq_true] at h
        have b1 := sndE a f tb X c sc h.1 g
        have b2 := sndE b k tb X c sc h.2 g
        exact BothW.b ⟨PE.imp (pe_andT b1.pe (PE.andOne b2.pe)) fun σ H Q q => rE.and g.hK q, PW.imp (pw_and b1.t (pw_of1 b2.t)) fun σ H Q q => rT.and q⟩
      | .And, f :: k :: l :: r, h =>
        simp only [ckE, Bool.and_eq_true] at h
        have b1 := sndE a f tb X c sc h.1 g
        have b2 := sndW b .And (k :: l :: r) pos tb X c sc h.2 g
        exact BothW.b ⟨PE.imp (pe_andT b1.pe b2.pe) fun σ H Q q => rE.and g.hK q, PW.imp (pw_and b1.t b2.w) fun σ H Q q => rT.and q⟩
      | .And, [], h => simp [ckE] at h
      | .And, [_], h => simp [ckE] at h
      | .Or, _, h => simp [ckE] at h
  | .or a b, e, tb, X, c, sc, h, g => by
    cases e <;> try (simp [ckE] at h; done)
    case BoolOp o es pos =>
      match o, es, h with
      | .Or, [f, k], h =>
        simp only [ckE, Bool.and_eq_true] at h
        have b1 := sndE a f tb X c sc h.1 g
        have b2 := sndE b k tb X c sc h.2 g
        exact BothW.b ⟨PE.imp (pe_orT b1.pe (PE.andOne b2.pe)) fun σ H Q q => rE.or g.hK q, PW.imp (pw_or b1.t (pw_of1 b2.t)) fun σ H Q q => rT.or q⟩
      | .Or, f :: k :: l :: r, h =>
        simp only [ckE, Bool.and_eq_true] at h
        have b1 := sndE a f tb X c sc h.1 g
        have b2 := sndW b .Or (k :: l :: r) pos tb X c sc h.2 g
        exact BothW.b ⟨PE.imp (pe_orT b1.pe b2.pe) fun σ H Q q => rE.or g.hK q, PW.imp (pw_or b1.t b2.w) fun σ H Q q => rT.or q⟩
      | .Or, [], h => simp [ckE] at h
      | .Or, [_], h => simp [ckE] at h
      | .And, _, h => simp [ckE] at h
  | .ite t a b, e, tb, X, c, sc, h, g => by
    cases e <;> try (simp [ckE] at h; done)
    case IfExp k f l pos =>
      simp only [ckE, Bool.and_eq_true] at h
      have b0 := sndE t k tb X c sc h.1 g
      have b1 := sndE a f tb X c sc h.2.1 g
      have b2 := sndE b l tb X c sc h.2.2 g
      exact ⟨PE.imp (pe_ifExp b0.t b1.pe b2.pe) fun σ H Q q => rE.ite q, PT.imp (pt_ifExp b0.t b1.t b2.t) fun σ H Q q => rT.ite q⟩
  | .chain o p a b d, e, tb, X, c, sc, h, g => by
    cases e <;> try (simp [ckE] at h; done)
    case Compare f ps ks pos =>
      match ps, ks, h with
      | [o', p'], [k, l], h =>
        simp only [ckE, Bool.and_eq_true, decide_eq_true_eq] at h
        have b1 := sndE a f tb X c sc h.2.2.2.1 g
        have b2 := sndE b k tb X c sc h.2.2.2.2.1 g
        have b3 := sndE d l tb X c sc h.2.2.2.2.2 g
        have hu : X.A.units + 64 < cLine := by have := g.hu; omega
        have hl : lastMarks [o', p'] [k, l] = false := mark_of h.2.2.1
        exact ⟨PE.imp (pe_chain (ok_cmp hu h.1) (ok_cmp hu h.2.1) b1.pe b2.pe b3.pe hl) fun σ H Q q => g.hK ▸ rE.chain h.1 q, PT.imp (pt_chain (ok_cmp hu h.1) (ok_cmp hu h.2.1) b1.pe b2.pe b3.pe hl) fun σ H Q q => g.hK ▸ rT.chain h.1 h.2.1 q⟩
      | [], _, h => simp [ckE] at h
      | [_], _, h => simp [ckE] at h
      | _ :: _ :: _ :: _, _, h => simp [ckE] at h
      | [_, _], [], h => simp [ckE] at h
      | [_, _], [_], h => simp [ckE] at h
      | [_, _], _ :: _ :: _ :: _, h => simp [ckE] at h
  | .tup es, e, tb, X, c, sc, h, g => by
    cases e <;> try (simp [ckE] at h; done)
    case Tuple fs k pos =>
      exact .mk1 g (PE.imp (pe_tup (sndEs es fs tb X c sc (by simpa [ckE] using h) g)) fun σ H Q q => rE.tup q) rfl
  | .lst es, e, tb, X, c, sc, h, g => by
    cases e <;> try (simp [ckE] at h; done)
    case List fs pos =>
      exact .mk1 g (PE.imp (pe_lst (sndEs es fs tb X c sc (by simpa [ckE] using h) g)) fun σ H Q q => rE.lst q) rfl
  | .dic0, e, tb, X, c, sc, h, g => by
    unfold ckE at h
    split at h
    · exact .mk1 g (PE.imp pe_dnewK fun σ H Q q => rE.dic0 q) rfl
    · cases h
  | .sl a l hh, e, tb, X, c, sc, h, g => by
    cases e <;> try (simp [ckE] at h; done)
    case Subscript f k pos =>
      cases k <;> try (simp [ckE] at h; done)
      case Slice lo hi st p2 =>
        cases st <;> try (simp [ckE] at h; done)
        simp only [ckE, Bool.and_eq_true] at h
        have b1 := sndE a f tb X c sc h.1 g
        exact .mk1 g (PE.imp (pe_slice ok_sl b1.pe (sndO l lo tb X c sc h.2.1 g) (sndO hh hi tb X c sc h.2.2 g)) fun σ H Q q => g.hK ▸ rE.sl q) rfl
  | .rev a, e, tb, X, c, sc, h, g => by
    unfold ckE at h
    split at h
    · have b1 := sndE a _ tb X c sc h g
      exact .mk1 g (PE.imp (pe_revL b1.pe) fun σ H Q q => g.hK ▸ rE.rev q) rfl
    · cases h
  | .rng1D t hi, e, tb, X, c, sc, h, g => by
    unfold ckE at h
    obtain ⟨x, y, f, p, p2, pos2, pos, rfl, h'⟩ := withRng1_ok h
    clear h
    have h := h'
    simp only [Bool.and_eq_true, Bool.not_eq_true', decide_eq_true_eq] at h
    obtain ⟨hh, h1, h2, h3, h4, h5, h6⟩ := h
    have b1 := sndE hi f tb X c sc h6 g
    exact .mk1 g (pe_rngT g hh h1 h2 h3 h4 (fun hg2 hmr => prg_1 hg2 hmr b1.pe (star_of h5)) fun σ H Q q => rE.rng1 q) rfl
  | .rng2D t lo hi, e, tb, X, c, sc, h, g => by
    unfold ckE at h
    obtain ⟨x, y, f, k, p, p2, pos2, pos, rfl, h'⟩ := withRng2_ok h
    clear h
    have h := h'
    simp only [Bool.and_eq_true, Bool.not_eq_true', decide_eq_true_eq] at h
    obtain ⟨hh, h1, h2, h3, h4, h5, h6, h7, h8⟩ := h
    have b1 := sndE lo f tb X c sc h7 g
    have b2 := sndE hi k tb X c sc h8 g
    have hs := star_of (env := X.env) (es := []) h6
    exact .mk1 g (pe_rngT g hh h1 h2 h3 h4 (fun hg2 hmr => prg_2 hg2 hmr b1.pe b2.pe (star_of h5) hs (by rw [hs]; rfl)) fun σ H Q q => rE.rng2 q) rfl
  | .call n es, e, tb, X, c, sc, h, g => by
    unfold ckE at h
    split at h
    · rename_i x p fs pos
      simp only [Bool.and_eq_true, decide_eq_true_eq] at h
      obtain ⟨hg, hd⟩ := g.gl h.1
      obtain ⟨fa, fd, ps, k, hm, hk, F, hr, hb', hn⟩ := g.fns x n h.2.1
      obtain ⟨us0, v0, hb⟩ := hb' _ (Nat.le_refl _)
      rw [List.drop_length] at v0
      cases v0
      refine .mk1 g ?_ rfl
      have hA := sndEs es fs tb X c sc h.2.2 g
      cases fs with
      | nil =>
        cases es with
        | nil =>
          refine PE.imp (pe_call0S F (hr.mono (Nat.le_add_right _ _)) hg hm hk hb (fun σ => passAt g.tk σ) hd) fun σ H Q q => ?_
          obtain ⟨ρ, G, μ, re, rg, q2⟩ := rE.own hn q
          have := q2 H μ (.refl _) (List.prefix_refl _) rg [] rfl
          exact g.hK ▸ this
        | cons a as => simp [ckEs] at h
      | cons f fs =>
        refine PE.imp (pe_callS F (hr.mono (Nat.le_add_right _ _)) hg hm hk hb (fun σ => passAt g.tk σ) hA hd ?_ ?_) fun σ H Q q => g.hK ▸ rE.own hn q
        · cases es with
          | nil => simp [ckEs] at h
          | cons a as => simp only [ckEs, Bool.and_eq_true] at h; exact star_of h.2.2.1
        · cases es with
          | nil => simp [ckEs] at h
          | cons a as => simp only [ckEs, Bool.and_eq_true] at h; exact (splain h.2.2.2.2).1
    · cases h
  | .callD n es ds, e, tb, X, c, sc, h, g => by
    unfold ckE at h
    split at h
    · rename_i x p f fs pos
      simp only [Bool.and_eq_true, decide_eq_true_eq] at h
      obtain ⟨hg, hd⟩ := g.gl h.1
      obtain ⟨fa, fd, ps, k, hm, hk, F, hr, hb', hn⟩ := g.fns x n h.2.1
      obtain ⟨us0, v0, hb⟩ := hb' ((Γ.dflOf x).length - ds.length) (Nat.sub_le _ _)
      rw [h.2.2.1] at v0
      refine .mk1 g ?_ rfl
      have hA := sndEs es (f :: fs) tb X c sc h.2.2.2 g
      refine PE.imp (pe_callSD F (hr.mono (Nat.le_add_right _ _)) hg hm hk hb v0 (fun σ => passAt g.tk σ) hA hd ?_ ?_) fun σ H Q q => g.hK ▸ rE.ownD hn q
      · cases es with
        | nil => simp [ckEs] at h
        | cons a as => simp only [ckEs, Bool.and_eq_true] at h; exact star_of h.2.2.2.1
      · cases es with
        | nil => simp [ckEs] at h
        | cons a as => simp only [ckEs, Bool.and_eq_true] at h; exact (splain h.2.2.2.2.2).1
    · cases h
  | .bf b es, e, tb, X, c, sc, h, g => by
    unfold ckE at h
    split at h
    · rename_i x p f fs pos
      simp only [Bool.and_eq_true, Bool.not_eq_true', decide_eq_true_eq] at h
      obtain ⟨hh, h1, rfl, h3⟩ := h
      obtain ⟨hg, hd⟩ := g.gl h1
      have hA := sndEs es (f :: fs) tb X c sc h3 g
      refine .mk1 g ?_ rfl
      cases es with
      | nil => simp [ckEs] at h3
      | cons a as =>
        simp only [ckEs, Bool.and_eq_true] at h3
        exact PE.imp (ok_bf g (g.calm hh) hg hd hA (star_of h3.1) (splain h3.2.2).1) fun σ H Q q => g.hK ▸ rA.call q
    · cases h
  | .mt m o es, e, tb, X, c, sc, h, g => by
    unfold ckE at h
    split at h
    · rename_i f nm apos fs cpos
      rw [Bool.or_eq_true] at h
      rcases h with h | h
      case inr =>
        simp only [Bool.and_eq_true, decide_eq_true_eq] at h
        obtain ⟨rfl, h2, h3, h4, h5, h7⟩ := h
        unfold conT at h2
        split at h2
        · rename_i xs x p
          rw [Bool.and_eq_true, decide_eq_true_eq] at h2
          obtain ⟨hg, hd⟩ := g.gl h2.1
          obtain ⟨v, u, hm, rv, rd, ht⟩ := g.con x _ h2.2
          have hA := sndEs es fs tb X c sc h7 g
          refine .mk1 g ?_ rfl
          cases fs with
          | nil => cases h3
          | cons f' fs' =>
            cases es with
            | nil => simp [ckEs] at h7
            | cons a as =>
              have h7' := h7
              simp only [ckEs, Bool.and_eq_true] at h7
              exact PE.imp (ok_mtT (pe_glob hg hm rv hd) hA h4 h5 (by rfl) (star_of h7.1) (splain h7.2.2).1 (splain h7').2) fun σ H Q q => g.hK ▸ rE.ofTup (by rw [g.hK]; exact rd) (by rw [g.hK]; exact ht _ rfl) q
        · cases h2
      simp only [Bool.and_eq_true, decide_eq_true_eq] at h
      obtain ⟨rfl, h2, h3, h4, h5, h6, h7⟩ := h
      have hnT : m ≠ .indexT := by rintro rfl; cases h2
      have b1 := sndE o f tb X c sc h6 g
      have hA := sndEs es fs tb X c sc h7 g
      refine .mk1 g (PE.imp (ok_mt h2 b1.pe hA (base_of h4 _ _) h3 h5 (fun e' es' he => ?_) (splain h7).2) fun σ H Q q => ?_) rfl
      · subst he
        cases es with
        | nil => simp [ckEs] at h7
        | cons a as =>
          simp only [ckEs, Bool.and_eq_true] at h7
          exact ⟨star_of h7.1, (splain h7.2.2).1⟩
      · cases fs with
        | nil =>
          cases es with
          | nil => exact g.hK ▸ rE.mt0 hnT q
          | cons a as => simp [ckEs] at h7
        | cons f' fs' => exact g.hK ▸ rE.mt hnT q
    · cases h
  | .comp t it cd el own, e, tb, X, c, sc, h, g => by
    unfold ckE at h
    split at h
    · rename_i elt tg iter ifs scope pos
      simp only [Bool.and_eq_true, Bool.not_eq_true', decide_eq_true_eq] at h
      obtain ⟨hh, h1, h2, h3, h4, h5, h6, h7, h8⟩ := h
      have hcal := g.calm hh
      refine .mk1 g ?_ rfl
      have ok : BlkOk X.N X.env.scope scope (ownN N own) := by rw [g.hN, g.hsc]; exact blkOk_by h1
      refine PE.imp (pe_lc hcal (by rw [g.hN]; exact g.nd) (sndI it iter tg tb X c sc h5 g) ok (g := gOf X.K t) (fun s H C' cl fp => (g.blk hh s H scope C' cl fp).pg (df := false) (fun z => nomatch z) hcal h4)
        (fun s H C' cl fp => sndC cd ifs tb _ c.quiet _ h7 (g.blk hh s H scope C' cl fp)) (fun s H C' cl fp => (sndE el elt tb _ c.quiet _ h8 (g.blk hh s H scope C' cl fp)).pe) (fun x => set_of h6 x)) fun σ H Q q => ?_
      rw [h2]
      exact g.hK ▸ rE.comp (g.cal hh) h3 q
    · cases h
  | .gen al t it el own, e, tb, X, c, sc, h, g => by
    unfold ckE at h
    split at h
    · rename_i x p elt tg iter scope gpos pos
      simp only [Bool.and_eq_true, Bool.not_eq_true', decide_eq_true_eq] at h
      obtain ⟨hh, rfl, h1, rfl, h2, h3, h4, h5, h6, h7, h8, h9⟩ := h
      have hcal := g.calm hh
      obtain ⟨hgl, _⟩ := g.gl h1
      obtain ⟨cd, P, TB, hcd, hP, hr⟩ := g.code rfl
      have ok : GenOk X.N X.env.scope scope (ownN N own) := by rw [g.hN, g.hsc]; exact genOk_of h2
      refine .mk1 g ?_ rfl
      cases al with
      | true =>
        refine PE.imp (pe_all hr hcal (by rw [g.hN]; exact g.nd) hgl (g.blt _ (by decide +kernel)) TB hcd ok (sndI it iter tg true X c sc h6 g) (g := gOf X.K t) (fun A s H C' cl cd fp pn hA => (g.gen hh hA s H scope C' cl cd fp pn).pg (df := false) (fun z => nomatch z) (by exact hcal) h5)
          (fun A s H C' cl cd fp pn hA => (sndE el elt false _ c.quiet _ h9 (g.gen hh hA s H scope C' cl cd fp pn)).pe) (fun v => fold_of h7 h8 v)) fun σ H Q q => ?_
        rw [h3]; exact g.hK ▸ rE.gen (g.cal hh) hP h4 q
      | false =>
        refine PE.imp (pe_any hr hcal (by rw [g.hN]; exact g.nd) hgl (g.blt _ (by decide +kernel)) TB hcd ok (sndI it iter tg true X c sc h6 g) (g := gOf X.K t) (fun A s H C' cl cd fp pn hA => (g.gen hh hA s H scope C' cl cd fp pn).pg (df := false) (fun z => nomatch z) (by exact hcal) h5)
          (fun A s H C' cl cd fp pn hA => (sndE el elt false _ c.quiet _ h9 (g.gen hh hA s H scope C' cl cd fp pn)).pe) (fun v => fold_of h7 h8 v)) fun σ H Q q => ?_
        rw [h3]; exact g.hK ▸ rE.gen (g.cal hh) hP h4 q
    · cases h
  | .callV i, e, tb, X, c, sc, h, g => by
    unfold ckE at h
    split at h
    · rename_i x p pos
      simp only [Bool.and_eq_true, Bool.not_eq_true', decide_eq_true_eq] at h
      obtain ⟨hh, h1, h2, h3, h4⟩ := h
      refine .mk1 g ⟨fun pins s σ H Q I q => ?_⟩ rfl
      obtain ⟨ρ, G, μ, re, rg, q⟩ := q
      have q : Post c σ H μ (mCallV C i ρ G) _ := q
      unfold mCallV at q
      split at q
      · rename_i n hn
        split at q
        · rename_i f ds hf
          obtain ⟨v, e1, r⟩ := re.at_ _ _ hn
          obtain ⟨a, rfl, ha⟩ := r
          have rv := (pe_var (pos := p) (by rw [g.hN]; exact h1) (g.vis h2) (by simpa [dbg] using h3) (by simpa [cdc] using h4)).run pins s σ H (fun v H' => v = .ref a ∧ H' = H) I ⟨_, e1, rfl, rfl⟩
          refine wpAny_Call_ofName (wpAny_mono rv ?_ fun _ _ z => z)
          rintro u s' ⟨v, H', I', ru, rfl, rfl⟩
          have ru : u = .ref a := ru
          subst ru
          obtain ⟨_, L, cl, cc, vs, e2, e3, _⟩ := rg.cell n _ a hf ha
          obtain ⟨pm, ctv, e4⟩ := (I'.hok a _ e3).1
          refine PySem.W.callWith_F0 ⟨_, _, _, _, e4⟩ ?_
          obtain ⟨k, lok, room⟩ := g.lms hh f L e2
          refine call_clo (ξ := c.ξ) (k := k) (F := C) (E := WE c.W σ) (fun _ _ _ _ _ _ _ x h => g.ξm _ _ _ _ _ _ _ _ x (List.prefix_refl _) h) (fun L' e' => by rw [e2] at e'; cases e'; exact lok) (room.mono (Nat.le_add_right _ _)) (passAt g.tk σ) I' (g.hK ▸ rg) hf ha ?_
          rw [← g.hK]
          cases hr : revR G (C f ds G.kill) with
          | ok d G' => rw [hr] at q; exact q
          | exc kk fs G' => rw [hr] at q; exact q
          | stuck => rw [hr] at q; exact q
        · exact q.elim
      · exact q.elim
    · cases h
  | .isE i k, e, tb, X, c, sc, h, g => by
    unfold ckE at h
    split at h
    · rename_i fn p0 x p1 y p2 pos
      simp only [Bool.and_eq_true, decide_eq_true_eq] at h
      obtain ⟨hh, rfl, h1, rfl, h2, h3, h4, h5, h6, h7⟩ := h
      obtain ⟨a, D, dd, oe, pn, X0, hc, hX, hz, hf, hec, hcl, his, _, hdx⟩ := g.hots hh
      obtain ⟨A, b, k1, k2, k3⟩ := his y k h7
      obtain ⟨hg, hd⟩ := g.gl h1
      obtain ⟨hg2, hd2⟩ := g.gl h6
      refine .mk1 g ?_ rfl
      have hv := pe_var (X := X) (pos := p1) (by rw [g.hN]; exact h2) (g.vis h3) (by simpa [dbg] using h4) (by simpa [cdc] using h5)
      have hy := pe_glob (v := .ref A) (pos := p2) hg2 k1 rfl hd2
      have hcall : CallR X (.builtin "isinstance") fun xs H Q => xs = [.ref a, .ref A] ∧ (∀ dx, dd = some dx → ∃ fs, H dx = some (.xd fs)) ∧ Q (.bl b) H := by
        subst hX
        exact call_isE' hec hcl hz hf k2
      refine PE.imp (pe_callB hcall hg (g.blt _ (by decide +kernel)) boot_isinstance (pa_cons hv (pa_cons hy pa_nil rfl) rfl) (by decide +kernel) hd rfl rfl) fun σ H Q q => ?_
      obtain ⟨ρ, G, μ, re, rg, q⟩ := q
      have q : Post c σ H μ (mIsE C Γ.slot k ρ G) _ := q
      unfold mIsE at q
      split at q
      · rename_i hn
        rw [k3] at q
        refine ⟨_, re.cur _ _ hc hn, rfl, fun dx e => hdx dx e H μ re.rel, ?_⟩
        exact Aft.here rg q _ rfl
      · exact q.elim
    · cases h
  | .fldE i m, e, tb, X, c, sc, h, g => by
    unfold ckE at h
    split at h
    · rename_i x p1 n pos
      simp only [Bool.and_eq_true, decide_eq_true_eq] at h
      obtain ⟨hh, rfl, h2, h3, h4, h5, h6, h7⟩ := h
      obtain ⟨a, D, dd, oe, pn, X0, hc, hX, hz, hf, hec, hcl, _, hfl, _⟩ := g.hots hh
      refine .mk1 g ⟨fun pins s σ H Q I q => ?_⟩ rfl
      obtain ⟨ρ, G, μ, re, rg, q⟩ := q
      have q : Post c σ H μ (mFldE C Γ.slot m ρ G) _ := q
      unfold mFldE at q
      split at q
      · rename_i hn
        rcases hfl n m h7 G with e | ⟨d, e, xf, hno, hrel⟩
        · rw [e] at q; exact q.elim
        · rw [e] at q
          obtain ⟨dx, fs, v, e1, e2, e3, rv⟩ := hrel H μ re.rel
          subst hX
          have hv := pe_var (X := X0.suite a ((a, oe) :: pn)) (pos := p1) (by rw [g.hN]; exact h2) (g.vis h3) (by simpa [dbg] using h4) (by simpa [cdc] using h5)
          refine (pe_xf (pos := pos) xf hno hz hf hv (base_of h6 _ _)).run pins s σ H Q I ⟨_, re.cur _ _ hc hn, rfl, rfl, dx, fs, v, e1, e2, e3, ?_⟩
          exact Aft.here rg q v (g.hK ▸ rv)
      · exact q.elim
    · cases h
theorem sndW : ∀ (a : Ex) (o : BoolOp) (es : List Expr) (pos : Pos) (tb : Bool) (X : Cx) (c : Ct) (sc : Scope), ckE Γ N tb sc a (.BoolOp o es pos) = true → Good Γ N C tb X c sc → BothW X c (.BoolOp o es pos) (ev C a)
  | .and a b, o, es, pos, tb, X, c, sc, h, g => by
    match o, es, h with
    | .And, [f, k], h =>
      simp only [ckE, Bool.and_eq_true] at h
      have b1 := sndE a f tb X c sc h.1 g
      have b2 := sndE b k tb X c sc h.2 g
      exact ⟨PE.imp (pe_andT b1.pe (PE.andOne b2.pe)) fun σ H Q q => rE.and g.hK q, PW.imp (pw_and b1.t (pw_of1 b2.t)) fun σ H Q q => rT.and q⟩
    | .And, f :: k :: l :: r, h =>
      simp only [ckE, Bool.and_eq_true] at h
      have b1 := sndE a f tb X c sc h.1 g
      have b2 := sndW b .And (k :: l :: r) pos tb X c sc h.2 g
      exact ⟨PE.imp (pe_andT b1.pe b2.pe) fun σ H Q q => rE.and g.hK q, PW.imp (pw_and b1.t b2.w) fun σ H Q q => rT.and q⟩
    | .And, [], h => simp [ckE] at h
    | .And, [_], h => simp [ckE] at h
    | .Or, _, h => simp [ckE] at h
  | .or a b, o, es, pos, tb, X, c, sc, h, g => by
    match o, es, h with
    | .Or, [f, k], h =>
      simp only [ckE, Bool.and_eq_true] at h
      have b1 := sndE a f tb X c sc h.1 g
      have b2 := sndE b k tb X c sc h.2 g
      exact ⟨PE.imp (pe_orT b1.pe (PE.andOne b2.pe)) fun σ H Q q => rE.or g.hK q, PW.imp (pw_or b1.t (pw_of1 b2.t)) fun σ H Q q => rT.or q⟩
    | .Or, f :: k :: l :: r, h =>
      simp only [ckE, Bool.and_eq_true] at h
      have b1 := sndE a f tb X c sc h.1 g
      have b2 := sndW b .Or (k :: l :: r) pos tb X c sc h.2 g
      exact ⟨PE.imp (pe_orT b1.pe b2.pe) fun σ H Q q => rE.or g.hK q, PW.imp (pw_or b1.t b2.w) fun σ H Q q => rT.or q⟩
    | .Or, [], h => simp [ckE] at h
    | .Or, [_], h => simp [ckE] at h
    | .And, _, h => simp [ckE] at h
  | .k _, _, _, _, _, _, _, _, h, _ => by simp [ckE] at h
  | .v _, _, _, _, _, _, _, _, h, _ => by simp [ckE] at h
  | .un o _, _, _, _, _, _, _, _, h, _ => by cases o <;> simp [ckE] at h
  | .bin _ _ _, _, _, _, _, _, _, _, h, _ => by simp [ckE] at h
  | .ite _ _ _, _, _, _, _, _, _, _, h, _ => by simp [ckE] at h
  | .rng1D _ _, _, _, _, _, _, _, _, h, _ => by simp [ckE, withRng1, rngOf, callOf] at h
  | .rng2D _ _ _, _, _, _, _, _, _, _, h, _ => by simp [ckE, withRng2, rngOf, callOf] at h
  | .chain _ _ _ _ _, _, _, _, _, _, _, _, h, _ => by simp [ckE] at h
  | .tup _, _, _, _, _, _, _, _, h, _ => by simp [ckE] at h
  | .lst _, _, _, _, _, _, _, _, h, _ => by simp [ckE] at h
  | .dic0, _, _, _, _, _, _, _, h, _ => by simp [ckE] at h
  | .sl _ _ _, _, _, _, _, _, _, _, h, _ => by simp [ckE] at h
  | .rev _, _, _, _, _, _, _, _, h, _ => by simp [ckE] at h
  | .call _ _, _, _, _, _, _, _, _, h, _ => by simp [ckE] at h
  | .bf _ _, _, _, _, _, _, _, _, h, _ => by simp [ckE] at h
  | .callD _ _ _, _, _, _, _, _, _, _, h, _ => by simp [ckE] at h
  | .mt _ _ _, _, _, _, _, _, _, _, h, _ => by simp [ckE] at h
  | .comp _ _ _ _ _, _, _, _, _, _, _, _, h, _ => by simp [ckE] at h
  | .gen _ _ _ _ _, _, _, _, _, _, _, _, h, _ => by simp [ckE] at h
  | .callV _, _, _, _, _, _, _, _, h, _ => by simp [ckE] at h
  | .isE _ _, _, _, _, _, _, _, _, h, _ => by simp [ckE] at h
  | .fldE _ _, _, _, _, _, _, _, _, h, _ => by simp [ckE] at h
theorem sndEs : ∀ (as : Exs) (es : List Expr) (tb : Bool) (X : Cx) (c : Ct) (sc : Scope), ckEs Γ N tb sc as es = true → Good Γ N C tb X c sc → PA X es (rA c (evs C as))
  | .nil, es, tb, X, c, sc, h, g => by
    have e : es = [] := List.isEmpty_iff.mp (by simpa [ckEs] using h)
    subst e
    exact PA.imp pa_nil fun σ H Q q => rA.nil q
  | .cons a as, [], tb, X, c, sc, h, g => by simp [ckEs] at h
  | .cons a as, e :: es, tb, X, c, sc, h, g => by
    simp only [ckEs, Bool.and_eq_true] at h
    exact PA.imp (pa_cons (sndE a e tb X c sc h.2.1 g).pe (sndEs as es tb X c sc h.2.2 g) (star_of h.1)) fun σ H Q q => rA.cons q
theorem sndO : ∀ (a : Exo) (e : Option Expr) (tb : Bool) (X : Cx) (c : Ct) (sc : Scope), ckO Γ N tb sc a e = true → Good Γ N C tb X c sc → PO X e (rO c (evo C a))
  | .none, e, tb, X, c, sc, h, g => by
    have e0 : e = none := Option.isNone_iff_eq_none.mp (by simpa [ckO] using h)
    subst e0
    exact PO.imp po_none fun σ H Q q => rO.no q
  | .some a, none, tb, X, c, sc, h, g => by simp [ckO] at h
  | .some a, some e, tb, X, c, sc, h, g => PO.imp (po_some (sndE a e tb X c sc (by simpa [ckO] using h) g).pe) fun σ H Q q => rO.some q
theorem sndC : ∀ (a : Exo) (e : List Expr) (tb : Bool) (X : Cx) (c : Ct) (sc : Scope), ckC Γ N tb sc a e = true → Good Γ N C tb X c sc → PTs X e (tOpt c (evc C a))
  | .none, e, tb, X, c, sc, h, g => by
    have e0 : e = [] := List.isEmpty_iff.mp (by simpa [ckC] using h)
    subst e0
    exact pts_nil
  | .some a, [], tb, X, c, sc, h, g => by simp [ckC] at h
  | .some a, _ :: _ :: _, tb, X, c, sc, h, g => by simp [ckC] at h
  | .some a, [e], tb, X, c, sc, h, g => pts_one (sndE a e tb X c sc (by simpa [ckC] using h) g).t
theorem sndI : ∀ (a : It) (e tg : Expr) (tb : Bool) (X : Cx) (c : Ct) (sc : Scope), ckI Γ N tb sc a e tg = true → Good Γ N C tb X c sc → PI X tg e (rI c (evi C a))
  | .one a, e, tg, tb, X, c, sc, h, g => pi_mone g.hK (sndE a e tb X c sc (by simpa [ckI] using h) g).pe
  | .rng1 a, e, tg, tb, X, c, sc, h, g => by
    unfold ckI at h
    split at h
    · simp only [Bool.and_eq_true, decide_eq_true_eq] at h
      obtain ⟨h1, rfl, h3, h4⟩ := h
      exact pi_mrng1 g.hK (g.gl h1).1 (g.blt _ (by decide +kernel)) (sndE a _ tb X c sc h4 g).pe (star_of h3)
    · cases h
  | .rng2 a b, e, tg, tb, X, c, sc, h, g => by
    unfold ckI at h
    split at h
    · simp only [Bool.and_eq_true, decide_eq_true_eq] at h
      obtain ⟨h1, rfl, h3, h4, h5, h6⟩ := h
      exact pi_mrng2 g.hK (g.gl h1).1 (g.blt _ (by decide +kernel)) (sndE a _ tb X c sc h5 g).pe (sndE b _ tb X c sc h6 g).pe (star_of h3) (star_of h4)
    · cases h
  | .enum a, e, tg, tb, X, c, sc, h, g => by
    unfold ckI at h
    rw [Bool.and_eq_true] at h
    obtain ⟨ht, h⟩ := h
    cases tg <;> first | (cases ht; done) | skip
    split at h
    · simp only [Bool.and_eq_true, decide_eq_true_eq] at h
      obtain ⟨h1, rfl, h3, h4⟩ := h
      exact pi_menum g.hK (g.gl h1).1 (g.blt _ (by decide +kernel)) (sndE a _ tb X c sc h4 g).pe (star_of h3)
    · cases h
  | .zip a b, e, tg, tb, X, c, sc, h, g => by
    unfold ckI at h
    rw [Bool.and_eq_true] at h
    obtain ⟨ht, h⟩ := h
    cases tg <;> first | (cases ht; done) | skip
    split at h
    · simp only [Bool.and_eq_true, decide_eq_true_eq] at h
      obtain ⟨h1, rfl, h3, h4, h5, h6⟩ := h
      exact pi_mzip g.hK (g.gl h1).1 (g.blt _ (by decide +kernel)) (sndE a _ tb X c sc h5 g).pe (sndE b _ tb X c sc h6 g).pe (star_of h3) (star_of h4)
    · cases h
end
end
end Cut
/-! The look is right: all statements. -/
namespace Cut
open PySem PySem.Spec PyProof.Rows L2
variable [Tbl] [Cur]
structure GoodS (Γ : Gx) (N : List Str) (C : CallF) (tb : Bool) (X : Cx) (c : Ct) (sc : Scope) : Prop where
  g : Good Γ N C tb X c sc
  fn : ∀ x, X.fn x = true
  hp : PassesOwn (model X.prog X.w) X.A X.env X.xe
  kind : sc.kind = .function
section
variable {Γ : Gx} {N : List Str} {C : CallF} {tb : Bool} {X : Cx} {c : Ct} {sc : Scope}
theorem GoodS.bk (g : GoodS Γ N C tb X c sc) : X.env.blockKind = .function := by
  unfold Env.blockKind
  rw [g.g.hsc, g.kind]
  rfl
theorem GoodS.swF (g : GoodS Γ N C tb X c sc) {e : Expr} {x : Str} {py : Pos} {l : Nat} (h : (match e with
    | .SetComp .. | .DictComp .. => false
    | _ => true) = true) (hs : swC sc e x py = false) : swapsWith e (some (.Name x py)) l X.env = pure false := by
  cases e <;> first | rfl | (cases h; done) | skip
  case ListComp elt gs scope pos =>
    unfold swC at hs
    unfold swapsWith
    have hk : X.env.kindOf x = sc.names.lookup x := by unfold Env.kindOf; rw [g.g.hsc]
    simp only [g.bk, hk, Expr.pos]
    have e : (sc.names.lookup x == some NameKind.local) = decide (sc.names.lookup x = some .local) := by
      by_cases q : sc.names.lookup x = some .local
      · rw [q]; rfl
      · rw [decide_eq_false q]; exact beq_eq_false_iff_ne.mpr q
    rw [e]
    simp only [Bool.and_eq_false_iff] at hs
    show pure (ScopeKind.function == ScopeKind.function && _ && _ && _) = pure false
    congr 1
    rcases hs with hs | hs | hs <;> simp [hs]
theorem star_any {vs : List Expr} (h : vs.all notStar = true) : (vs.any fun | .Starred .. => true | _ => false) = false := by
  induction vs with
  | nil => rfl
  | cons a vs ih =>
    simp only [List.all_cons, Bool.and_eq_true] at h
    rw [List.any_cons, ih h.2]
    cases a <;> first | rfl | cases h.1
theorem ite_same {α : Type} {c : Prop} [Decidable c] {a b : α} (h : b = a) : (if c then a else b) = a := by
  by_cases q : c
  · rw [if_pos q]
  · rw [if_neg q, h]
theorem few_of {α β : Type} {f : α → Option β} : ∀ {l : List α}, (∃ x ∈ l, f x = none) → (l.filterMap f).length < l.length
  | [], ⟨_, h, _⟩ => nomatch h
  | a :: l, ⟨x, h, e⟩ => by
    rw [List.filterMap_cons]
    rcases List.mem_cons.mp h with h | h
    · subst h
      rw [e]
      exact Nat.lt_succ_of_le (List.length_filterMap_le f l)
    · have := few_of (f := f) ⟨x, h, e⟩
      cases f a with
      | none => exact Nat.lt_succ_of_lt this
      | some b => exact Nat.succ_lt_succ this
theorem sw_none (g : GoodS Γ N C tb X c sc) {ts vs : List Expr} {k k2 p p2} (h : swN sc ts vs = true) : swappedStores [.Tuple ts k p] (.Tuple vs k2 p2) X.env = pure none := by
  unfold swN at h
  have h : ((!(ts.length == 2 || ts.length == 3) || vs.length != ts.length) = true) ∨ (vs.all (foldedForSure 8) = true ∨ ts.any (notLoc sc) = true) :=
    (Bool.or_eq_true_iff.mp h).imp id fun z => Bool.or_eq_true_iff.mp z
  unfold swappedStores
  rcases h with h | h | h
  · show (if (!(ts.length == 2 || ts.length == 3) || vs.length != ts.length || X.env.blockKind != .function) = true then _ else _) = _
    rw [if_pos (by rw [h]; rfl)]
  · refine ite_same (ite_same (ite_same ?_))
    rw [if_pos h]
  · refine ite_same (ite_same ?_)
    refine if_pos ?_
    rw [Bool.or_eq_true]
    refine .inl ?_
    rw [bne_iff_ne]
    refine Nat.ne_of_lt (few_of ?_)
    obtain ⟨x, hx, e⟩ := List.any_eq_true.mp h
    refine ⟨x, hx, ?_⟩
    cases x <;> try rfl
    case Name id pos =>
      have hk : X.env.kindOf id = sc.names.lookup id := by unfold Env.kindOf; rw [g.g.hsc]
      have e : (!(sc.names.lookup id == some NameKind.local)) = true := e
      simp only [hk]
      rw [Bool.not_eq_true'] at e
      rw [e, Bool.false_and]; rfl
theorem sw_two (g : GoodS Γ N C tb X c sc) {x y : Str} {px py p p2 : Pos} {k k2} {a b : Expr} (hx : X.env.scope.names.lookup x = some .local) (hy : X.env.scope.names.lookup y = some .local) (hl : (py.line == px.line) = true) (hn : (x == y) = false) (h : swY [a, b] = true) :
    swappedStores [.Tuple [.Name x px, .Name y py] k p] (.Tuple [a, b] k2 p2) X.env = pure (some [x, y]) := by
  unfold swY at h
  simp only [Bool.and_eq_true, Bool.not_eq_true'] at h
  obtain ⟨h1, h2, h3⟩ := h
  have hx : X.env.kindOf x = some .local := hx
  have hy : X.env.kindOf y = some .local := hy
  have hn' : (y == x) = false := by rw [Bool.eq_false_iff] at hn ⊢; intro z; exact hn (by rw [eq_of_beq z]; exact beq_self_eq_true _)
  have s1 := star_any h1
  simp only [List.any, Bool.or_false] at s1
  unfold swappedStores
  simp only [g.bk, hx, hy, hl, h2, h3, List.filterMap, List.head?, Option.map, Option.getD, Expr.pos, beq_self_eq_true, List.length, List.eraseDups, List.eraseDupsBy, List.eraseDupsBy.loop, List.any, hn, hn', Bool.false_or, Bool.or_false, bne_self_eq_false, Bool.and_self, if_true, if_false, List.reverse, List.reverseAux]
  refine (if_neg (by decide)).trans ((if_neg (fun z => by have z' := s1.symm.trans z; cases z')).trans ?_)
  refine (if_neg (by decide)).trans ((if_neg (by decide)).trans ((if_neg (by decide)).trans rfl))
theorem sw_three (g : GoodS Γ N C tb X c sc) {x y z : Str} {px py pz p p2 : Pos} {k k2} {a b d : Expr} (hx : X.env.scope.names.lookup x = some .local) (hy : X.env.scope.names.lookup y = some .local) (hz : X.env.scope.names.lookup z = some .local) (hl : (py.line == px.line) = true) (hl2 : (pz.line == px.line) = true) (hn : (x == y) = false) (hn2 : (x == z) = false) (hn3 : (y == z) = false) (h : swY [a, b, d] = true) :
    swappedStores [.Tuple [.Name x px, .Name y py, .Name z pz] k p] (.Tuple [a, b, d] k2 p2) X.env = pure (some [x, y, z]) := by
  unfold swY at h
  simp only [Bool.and_eq_true, Bool.not_eq_true'] at h
  obtain ⟨h1, h2, h3⟩ := h
  have hx : X.env.kindOf x = some .local := hx
  have hy : X.env.kindOf y = some .local := hy
  have hz : X.env.kindOf z = some .local := hz
  have sy : ∀ {u v : Str}, (u == v) = false → (v == u) = false := fun {u v} hn => by rw [Bool.eq_false_iff] at hn ⊢; intro z; exact hn (by rw [eq_of_beq z]; exact beq_self_eq_true _)
  have s1 := star_any h1
  simp only [List.any, Bool.or_false] at s1
  unfold swappedStores
  simp only [g.bk, hx, hy, hz, hl, hl2, h2, h3, List.filterMap, List.head?, Option.map, Option.getD, Expr.pos, beq_self_eq_true, List.length, List.eraseDups, List.eraseDupsBy, List.eraseDupsBy.loop, List.any, hn, hn2, hn3, sy hn, sy hn2, sy hn3, Bool.false_or, Bool.or_false, bne_self_eq_false, Bool.and_self, if_true, if_false, List.reverse, List.reverseAux]
  refine (if_neg (by decide)).trans ((if_neg (fun z => by have z' := s1.symm.trans z; cases z')).trans ?_)
  refine (if_neg (by decide)).trans ((if_neg (by decide)).trans ((if_neg (by decide)).trans rfl))
theorem get_ix : PGet X (r2 X.K (op2 .ix)) := by
  rintro pins s σ H x y v u Q I rx ry ⟨d, e, G, μ, g, r, r', h⟩
  cases d <;> cases e <;> try exact h.elim
  case str.int z i =>
    have e1 : x = _ := r; have e2 : y = _ := r'; subst e1; subst e2
    simp only [op2] at h
    split at h
    · rename_i hl
      obtain ⟨b, hb, h⟩ := okD_some h
      rw [Option.map_eq_some_iff] at hb
      obtain ⟨c, hc, rfl⟩ := hb
      obtain ⟨t, rfl⟩ := rx
      obtain ⟨t', rfl⟩ := ry
      obtain ⟨j, h1, h2, h3, h4, h5⟩ := atI_get hc
      have hn := line63
      exact getItem_str (c := c) (by
        have e1 : decide (i < -(2 ^ 63 : Int)) = false := decide_eq_false (by omega)
        have e2 : decide (i ≥ 2 ^ 63) = false := decide_eq_false (by omega)
        rw [e1, e2, Bool.or_false]) (by rw [show (⟨z.toArray⟩ : Str).length = z.length from by simp [Str.length], h1]; simpa using h2) ⟨.str ⟨#[c]⟩, H, I.tok _, ⟨_, rfl⟩, P0.here g h rfl⟩
    · exact h.elim
  case tup.int xs i =>
    obtain ⟨a, vs, rfl, s1, rs⟩ := r
    have e2 : y = _ := r'; subst e2
    obtain ⟨b, hb, h⟩ := okD_some h
    obtain ⟨w, hw, rw'⟩ := rs.at hb
    cases rx
    obtain ⟨t, rfl⟩ := ry
    obtain ⟨its, r, pl, hz⟩ := I.tuple s1
    obtain ⟨j, h1, h2, h3, h4, h5⟩ := atI_get hw
    obtain ⟨w', ew, rw''⟩ := r.get h2
    have hl := r.length
    have hn := line63
    exact getItem_tuple (j := j) pl (by omega) (by omega) (by rw [List.size_toArray, ← hl]; exact h1) (by simpa using ew) ⟨w, H, I, rw'', P0.here g h rw'⟩
  case ref.int n i =>
    obtain ⟨a, rfl, ma⟩ := r
    have e2 : y = _ := r'; subst e2
    simp only [op2] at h
    split at h
    · rename_i xs hx
      obtain ⟨vs, rs, sq, _⟩ := g.sq hx ma
      obtain ⟨b, hb, h⟩ := okD_some h
      obtain ⟨w, hw, rw'⟩ := rs.at hb
      cases rx
      obtain ⟨t, rfl⟩ := ry
      obtain ⟨its, r, pl, hz⟩ := I.list sq
      obtain ⟨j, h1, h2, h3, h4, h5⟩ := atI_get hw
      obtain ⟨w', ew, rw''⟩ := r.get h2
      have hl := r.length
      have hn := line63
      have fin : EP X pins σ Q w' s := ⟨w, H, I, rw'', P0.here g h rw'⟩
      by_cases h0 : 0 ≤ i
      · have hj : i.toNat = j := by
          rw [seqIndex_of h0 h5] at h1
          exact Option.some.inj h1
        exact wpAny_getItem_list pl.isList h0 (by omega) (by rw [hj]; simpa using ew) fin
      · have hj : (i + (its.toArray.size : Int)).toNat = j := by
          rw [seqIndex_neg (by omega) h4] at h1
          rw [List.size_toArray, ← hl]
          exact Option.some.inj h1
        exact wpAny_getItem_list_neg pl.isList (by omega) (by rw [List.size_toArray] <;> omega) (by omega) (by rw [hj]; simpa using ew) fin
    · exact h.elim
mutual
theorem sndS : ∀ (a : Sm) (s : Stmt), ckS Γ N tb sc a s = true → GoodS Γ N C tb X c sc → PS X s (rS c (ex C a))
  | .pass, s, h, g => by
    unfold ckS at h
    split at h
    · exact PS.imp ps_pass fun D σ H q => rS.nil q
    · exact PS.imp ps_doc fun D σ H q => rS.nil q
    · cases h
  | .expr a, s, h, g => by
    unfold ckS at h
    split at h
    · simp only [Bool.and_eq_true] at h
      exact PS.imp (ps_expr (sndE a _ tb X c sc h.2 g.g).pe (comp_of h.1 _ _)) fun D σ H q => rS.expr q
    · cases h
  | .set t a, s, h, g => by
    unfold ckS at h
    split at h
    · rename_i x py e pos
      split at h
      · rename_i i
        simp only [Bool.and_eq_true] at h
        obtain ⟨k1, k2, k3⟩ := g.g.loc h.1 (fun _ => g.fn)
        cases hs : swC sc e x py with
        | false =>
          refine PS.imp (ps_set (by rw [g.g.hN]; exact g.g.nd) k1 k2 (sndE a e tb X c sc h.2 g.g).pe (g.swF ?_ hs) k3) fun D σ H q => ?_
          · cases e <;> first | rfl | (cases a <;> first | (rename_i o _; cases o <;> simp [ckE, withRng1, withRng2, rngOf, callOf] at h; done) | (simp [ckE, withRng1, withRng2, rngOf, callOf] at h; done))
          · have : gOf X.K (.v i) = gName i := rfl
            rw [← this, ← g.g.hK]; exact rS.set q
        | true =>
          unfold swC at hs
          split at hs
          · rename_i elt gs scope pos'
            simp only [Bool.and_eq_true, decide_eq_true_eq] at hs
            cases a <;> first | (rename_i o _; cases o <;> simp [ckE, withRng1, withRng2, rngOf, callOf] at h; done) | (simp [ckE, withRng1, withRng2, rngOf, callOf] at h; done) | skip
            case comp t it cd el own =>
              have h2 := h.2
              unfold ckE at h2
              split at h2
              · rename_i elt' tg iter ifs scope' pos'' heq
                cases heq
                simp only [Bool.and_eq_true, Bool.not_eq_true', decide_eq_true_eq] at h2
                obtain ⟨hh, h1, h2, h3, h4, h5, h6, h7, h8⟩ := h2
                have ok : BlkOk X.N X.env.scope scope (ownN N own) := by rw [g.g.hN, g.g.hsc]; exact blkOk_by h1
                have hl : X.env.scope.names.lookup x = some .local := by rw [g.g.hsc]; exact hs.1
                refine PS.imp (ps_setLc (g.g.calm hh) (by rw [g.g.hN]; exact g.g.nd) k1 hl (sw_true (by rw [g.g.hsc]; exact g.kind) hl hs.2.1 (by simpa using hs.2.2)) (sndI it iter tg tb X c sc h5 g.g) ok (g := gOf X.K t) (fun s H C' cl fp => (g.g.blk hh s H scope C' cl fp).pg (df := false) (fun z => nomatch z) (g.g.calm hh) h4)
                  (fun s H C' cl fp => sndC cd ifs tb _ c.quiet _ h7 (g.g.blk hh s H scope C' cl fp)) (fun s H C' cl fp => (sndE el elt tb _ c.quiet _ h8 (g.g.blk hh s H scope C' cl fp)).pe) (fun x => set_of h6 x)) fun D σ H q => ?_
                have q := rS.set (t := .v i) (f := ev C (.comp t it cd el own)) q
                rw [h2]
                have q : rE c (ev C (.comp t it cd el own)) σ H fun v H1 => gName i v σ H1 D.nx := q
                exact g.g.hK ▸ rE.comp (g.g.cal hh) h3 q
              · cases h2
          · cases hs
      · cases h
    · rename_i ts k p e pos
      split at h
      · rename_i is
        simp only [Bool.and_eq_true, Bool.not_eq_true', Bool.or_eq_true, decide_eq_true_eq] at h
        obtain ⟨hh, h⟩ := h
        obtain ⟨k1, k2, k3⟩ := g.g.pgs (df := true) (fun _ => g.fn) h.1
        have hsw : swapsWithSole [.Tuple ts k p] e pos.line X.env = pure false := by
          show swapsWith e (some (.Tuple ts k p)) pos.line X.env = pure false
          exact comp_of h.2.2.1 _ _
        refine PS.imp (ps_asg (sndE a e tb X c sc h.2.2.2 g.g).pe (pg_tup (g.g.calm hh) k1 k2 k3) hsw ?_) fun D σ H q => ?_
        · cases e <;> first | rfl | skip
          case Tuple vs k2 p2 => exact sw_none g h.2.1
        · have := rS.set q
          rw [g.g.hK] at this
          exact this
      · cases h
    · cases h
  | .par is es, s, h, g => by
    unfold ckS at h
    split at h
    · rename_i ts k p vs k2 p2 pos
      rw [Bool.and_eq_true, Bool.not_eq_true'] at h
      obtain ⟨hh, h⟩ := h
      split at h
      · rename_i i j x px y py
        simp only [Bool.and_eq_true, decide_eq_true_eq] at h
        obtain ⟨h1, h2, h3, h4, h5, h6, h7, h8⟩ := h
        match vs, h7, h8, h6 with
        | [a, b], _, h8, h6 =>
        have hx : X.env.scope.names.lookup x = some .local := by rw [g.g.hsc]; exact h4
        have hy : X.env.scope.names.lookup y = some .local := by rw [g.g.hsc]; exact h5
        simp only [Bool.and_eq_true, Bool.not_eq_true'] at h6
        have e1 := sw_two g (k := k) (k2 := k2) (p := p) (p2 := p2) hx hy h6.1 h6.2.1 h6.2.2
        exact PS.imp (ps_par (g.g.calm hh) (by rw [g.g.hN]; exact g.g.nd) (by rw [g.g.hN]; exact h1) (by rw [g.g.hN]; exact h2) h3 hx hy (sndEs es _ tb X c sc h8 g.g) e1) fun D σ H q => rS.par2 q
      · rename_i i j l x px y py z pz
        simp only [Bool.and_eq_true, decide_eq_true_eq] at h
        obtain ⟨h1, h2, h2', h3, h3', h3'', h4, h5, h5', h6, h7, h8⟩ := h
        match vs, h7, h8, h6 with
        | [a, b, d], _, h8, h6 =>
        have hx : X.env.scope.names.lookup x = some .local := by rw [g.g.hsc]; exact h4
        have hy : X.env.scope.names.lookup y = some .local := by rw [g.g.hsc]; exact h5
        have hz : X.env.scope.names.lookup z = some .local := by rw [g.g.hsc]; exact h5'
        simp only [Bool.and_eq_true, Bool.not_eq_true'] at h6
        have e1 := sw_three g (k := k) (k2 := k2) (p := p) (p2 := p2) hx hy hz h6.1 h6.2.1 h6.2.2.1 h6.2.2.2.1 h6.2.2.2.2.1 h6.2.2.2.2.2
        exact PS.imp (ps_par3 (g.g.calm hh) (by rw [g.g.hN]; exact g.g.nd) (by rw [g.g.hN]; exact h1) (by rw [g.g.hN]; exact h2) (by rw [g.g.hN]; exact h2') h3 h3' h3'' hx hy hz (sndEs es _ tb X c sc h8 g.g) e1) fun D σ H q => rS.par3 q
      · cases h
    · cases h
  | .setIx a i e, s, h, g => by
    unfold ckS at h
    split at h
    · rename_i f k p e' pos
      simp only [Bool.and_eq_true] at h
      obtain ⟨h1, h2, h3, h4, h5⟩ := h
      have hsw : swapsWithSole [.Subscript f k p] e' pos.line X.env = pure false := comp_of (env := X.env) h2 (some (.Subscript f k p)) pos.line
      refine PS.imp (ps_asg (sndE e e' tb X c sc h5 g.g).pe (pg_sub (sndE a f tb X c sc h3 g.g).pe (sndE i k tb X c sc h4 g.g).pe set_list ?_) hsw) fun D σ H q => ?_
      · intro v
        cases k <;> first | rfl | cases h1
      · exact rS.setIx q
    · cases h
  | .setKey a i e, s, h, g => by
    unfold ckS at h
    split at h
    · rename_i f k p e' pos
      simp only [Bool.and_eq_true] at h
      obtain ⟨h1, h2, h3, h4, h5⟩ := h
      have hsw : swapsWithSole [.Subscript f k p] e' pos.line X.env = pure false := comp_of (env := X.env) h2 (some (.Subscript f k p)) pos.line
      have hu : X.A.units + 1 < cLine := by have := g.g.hu; omega
      refine PS.imp (ps_asg (sndE e e' tb X c sc h5 g.g).pe (pg_sub (sndE a f tb X c sc h3 g.g).pe (sndE i k tb X c sc h4 g.g).pe (set_dict hu) ?_) hsw) fun D σ H q => ?_
      · intro v
        cases k <;> first | rfl | cases h1
      · exact rS.setKey q
    · cases h
  | .aug i o a, s, h, g => by
    unfold ckS at h
    split at h
    · simp only [Bool.and_eq_true, decide_eq_true_eq] at h
      obtain ⟨k1, k2, k3⟩ := g.g.loc h.1 (fun _ => g.fn)
      exact PS.imp (ps_aug (by rw [g.g.hN]; exact g.g.nd) k1 k2 (sndE a _ tb X c sc h.2.2 g.g).pe (ok_aug h.2.1) k3) fun D σ H q => g.g.hK ▸ rS.aug q
    · cases h
  | .augIx a i o e, s, h, g => by
    unfold ckS at h
    split at h
    · rename_i f k p op e' pos
      simp only [Bool.and_eq_true, decide_eq_true_eq] at h
      obtain ⟨h1, h2, h3, h4, h5⟩ := h
      refine PS.imp (ps_augS (sndE a f tb X c sc h3 g.g).pe (sndE i k tb X c sc h4 g.g).pe (tget := r2 X.K (op2 .ix)) ?_ (sndE e e' tb X c sc h5 g.g).pe (ok_aug h2) set_list ?_) fun D σ H q => ?_
      · exact get_ix
      · intro ov iv new
        cases k <;> first | rfl | cases h1
      · exact g.g.hK ▸ rS.augIx q
    · cases h
  | .ifs t a b, s, h, g => by
    unfold ckS at h
    split at h
    · simp only [Bool.and_eq_true] at h
      exact PS.imp (ps_if (sndE t _ tb X c sc h.1 g.g).t (sndSs a _ h.2.1 g) (sndSs b _ h.2.2 g)) fun D σ H q => rS.ifs q
    · cases h
  | .whil t a, s, h, g => by
    unfold ckS at h
    split at h
    · simp only [Bool.and_eq_true] at h
      exact PS.imp (ps_while g.hp (sndE t _ tb X c sc h.1 g.g).t (sndSs a _ h.2 g)) fun D σ H q => rS.while q
    · cases h
  | .for_ t it a, s, h, g => by
    unfold ckS at h
    split at h
    · simp only [Bool.and_eq_true, Bool.not_eq_true'] at h
      obtain ⟨hh, h1, h2, h3, h4⟩ := h
      exact PS.imp (ps_for g.hp (g.g.calm hh) (sndI it _ _ tb X c sc h3 g.g) (g.g.pg (df := true) (fun _ => g.fn) (g.g.calm hh) h1) (sndSs a _ h4 g) (fun x => set_of h2 x)) fun D σ H q => g.g.hK ▸ rS.for q
    · cases h
  | .ret a, s, h, g => by
    unfold ckS at h
    split at h
    · exact PS.imp (ps_ret (sndE a _ tb X c sc h g.g).pe) fun D σ H q => rS.ret q
    · cases h
  | .retN, s, h, g => by
    unfold ckS at h
    split at h
    · exact PS.imp ps_retN fun D σ H q => rS.retN q
    · cases h
  | .brk, s, h, g => by
    unfold ckS at h
    split at h
    · exact PS.imp ps_break fun D σ H q => rS.brk q
    · cases h
  | .cnt, s, h, g => by
    unfold ckS at h
    split at h
    · exact PS.imp ps_continue fun D σ H q => rS.cnt q
    · cases h
  | .raise k es, s, h, g => by
    unfold ckS at h
    split at h
    · rename_i x p0 fs p1 p2
      rw [Bool.and_eq_true, Bool.not_eq_true', Bool.and_eq_true, Bool.and_eq_true, decide_eq_true_eq] at h
      obtain ⟨hh, h1, h2, h⟩ := h
      obtain ⟨hg, hd⟩ := g.g.gl h1
      obtain ⟨D, hm, hk, hp, hi⟩ := g.g.exs hh x k h2
      have hcal := g.g.calm hh
      split at h
      · obtain ⟨hr, ⟨B, nI, iI, bmB, hB, he⟩, hξ⟩ := hp (of_decide_eq_true h)
        refine PS.imp (ps_raise hcal g.g.tk (pmk_own0 hB he hm hk hr hg hd)) fun Dd σ H q => ?_
        obtain ⟨ρ, G, μ, re, rg, q⟩ := q
        exact Aft.here rg q σ _ _ re (hξ H μ)
      · obtain ⟨hr, ⟨B, nI, iI, bmB, hB, he⟩, hξ⟩ := hp (of_decide_eq_true h)
        refine PS.imp (ps_raise hcal g.g.tk (pmk_own hB he hm hk hr hg hd)) fun Dd σ H q => ?_
        obtain ⟨ρ, G, μ, re, rg, q⟩ := q
        exact Aft.here rg q σ _ _ re (hξ H μ)
      · rename_i a f
        simp only [Bool.and_eq_true, decide_eq_true_eq] at h
        obtain ⟨h3, h4, h5⟩ := h
        obtain ⟨T, fI, fd, k', nm, iC, tI, F, hr, hb, hξ⟩ := hi h3
        refine PS.imp (ps_raise hcal g.g.tk (pmk_oexR T iC tI F (hr.mono (Nat.le_add_right _ _)) hb hg hm hd (sndE a f tb X c sc h5 g.g).pe (star_of h4))) fun Dd σ H q => ?_
        obtain ⟨ρ, G, μ, re, rg, q⟩ := q
        have q := Post.bind (f := fun x G1 => (mNil ρ G1).bind fun xs G2 => R.ok (x :: xs) G2) (PostS.ofR re (show PostS c Dd H μ (RS.ofR ((ev C a ρ G).bind fun x G1 => (mNil ρ G1).bind fun xs G2 => .ok (x :: xs) G2) ρ fun ds G1 => .exc k ds ρ G1) from q))
        refine ⟨ρ, G, μ, re, rg, q.imp fun d G1 H1 μ1 x1 p1 g1 q1 v rv => ?_⟩
        refine mkO_of (C := D) (f := nm) (v := v) (H1 := H1) (Q := fun cls dd H' => c.W cls dd σ H') fun dx hdx => ?_
        have xn := XT.new (o := .xd [(nm, v)]) hdx
        have q2 := Aft.here g1 q1
        exact q2 _ μ1 xn (List.prefix_refl _) (g1.fresh hdx) σ _ _ ((re.mono x1 p1).mono xn (List.prefix_refl _)) (hξ _ _ _ _ _ upd_same (g.g.hK ▸ rv.mono xn (List.prefix_refl _)))
      · cases h
    · cases h
  | .tryAs _ _ _ _, s, h, g => by simp [ckS] at h
  | .lams _, s, h, g => by simp [ckS] at h
  | .never, s, h, g => PS.imp ps_never fun D σ H q => by
    obtain ⟨ρ, G, μ, re, rg, p⟩ := q
    exact p
theorem sndSs : ∀ (a : Sms) (s : List Stmt), ckSs Γ N tb sc a s = true → GoodS Γ N C tb X c sc → PSs X s (rS c (exs C a))
  | .nil, s, h, g => by
    have e : s = [] := List.isEmpty_iff.mp (by simpa [ckSs] using h)
    subst e
    exact PSs.imp pss_nil fun D σ H q => rS.nil q
  | .cons a as, [], h, g => by simp [ckSs] at h
  | .cons a as, b :: r, h, g => by
    simp only [ckSs, Bool.and_eq_true] at h
    exact PSs.imp (pss_cons (sndS a b h.1 g) (sndSs as r h.2 g)) fun D σ H q => rS.seq q
end
end
end Cut
/-! A body with try: its statements one by one. -/
namespace Cut
open PySem PySem.Spec PyProof.Rows L2
variable [Tbl]
def Gx.heat (Γ : Gx) (i : Nat) : Gx := { Γ with hot := true, slot := i, fns := [] }
def ckB (Γ : Gx) (N : List Str) (tb : Bool) (sc : Scope) : Sms → List Stmt → Bool
  | .nil, s => s.isEmpty
  | .cons a as, s => (match s with
    | b :: r => (match a, b with
      | .tryAs t k i h, .Try body [.ExceptHandler (some (.Name x _)) (some n) (b₀ :: suite) _] [] [] _ => !Γ.hot && (ckSs Γ N tb sc t body && (decide (N[i]? = some n) && (decide (sc.names.lookup n = some .local) && (glB sc x && ((match k with
        | none => decide (x = Γ.exB ∧ Γ.exB ≠ "")
        | some c => decide (Γ.exs.lookup x = some c)) && ckSs (Γ.heat i) N false sc h (b₀ :: suite))))))
      | _, _ => ckS Γ N tb sc a b) && ckB Γ N tb sc as r
    | [] => false)
/-- what is known of the exceptions of ours -/
structure TryOk (X : Cx) (Γ : Gx) (ξ : XRel) : Prop where
  cls : ∀ kk fs H μ cls dd, ξ kk fs H μ cls dd → ∃ A0, cls = .ref A0 ∧ ExcC X.K A0 ∧ (PySem.W.clsIn X.K A0).isSome = true ∧
    (∀ n m, Γ.fld.lookup n = some m → kk / 100 = m → ∀ d, fs = [d] → XfC X.K A0 ∧ PySem.W.findIn X.K (.ref A0) n = some none ∧ ∃ dx fs' v, dd = some dx ∧ H dx = some (.xd fs') ∧ fs'.lookup n = some v ∧ RD X.K H μ d v) ∧
    (∀ dx, dd = some dx → ∃ fs', H dx = some (.xd fs'))
  each : ∀ y k', Γ.exs.lookup y = some k' → ∃ A, X.mg y = some (.ref A) ∧ ∀ kk fs H μ cls dd, ξ kk fs H μ cls dd → PySem.W.kitOne X.K cls (.ref A) = some (decide (kk = k')) ∧ PySem.W.exmOne X.K cls (.ref A) = some (decide (kk = k'))
  base : Γ.exB ≠ "" → ∃ A, X.mg Γ.exB = some (.ref A) ∧ ∀ kk fs H μ cls dd, ξ kk fs H μ cls dd → PySem.W.exmOne X.K cls (.ref A) = some true
/-- while an exception is handled -/
@[reducible] def hotCur (ξ : XRel) (hm : XMono ξ) (i : Nat) (a : Addr) (kk : Nat) (fs : List D) (cls : Value) (dd : Option Addr) : Cur := ⟨some (i, a), fun H μ => ξ kk fs H μ cls dd, fun x p h => hm _ _ _ _ _ _ _ _ x p h⟩
section
variable [Cur] {Γ : Gx} {N : List Str} {C : CallF} {tb : Bool} {X : Cx} {c : Ct} {sc : Scope}
theorem hot_good (g : GoodS Γ N C tb X c sc) (hξm : XMono c.ξ) (to : TryOk X Γ c.ξ) {i : Nat} {a : Addr} {oe : Obj} {cls : Value} {dd : Option Addr} {pn : List (Addr × Obj)} {kk : Nat} {fs : List D} {H : Hp} {μ : List Addr} (hz : Zc cls dd oe) (hf : ∃ vs, oe.data = .fields vs) (hx : c.ξ kk fs H μ cls dd) :
    @GoodS _ (hotCur c.ξ hξm i a kk fs cls dd) (Γ.heat i) N (hC kk fs) false (X.suite a ((a, oe) :: pn)) ⟨c.K, c.ξ, fun _ _ _ _ => False⟩ sc := by
  obtain ⟨⟨hK, hN, nd, hsc, _, _, hu, _, con, blt, _, _, _, _, _, _⟩, fn, _, kind⟩ := g
  obtain ⟨A0, rfl, h1, h2, h6, h7⟩ := to.cls _ _ _ _ _ _ hx
  refine @GoodS.mk _ (hotCur c.ξ hξm i a kk fs (.ref A0) dd) _ _ _ _ _ _ _ (@Good.mk _ (hotCur c.ξ hξm i a kk fs (.ref A0) dd) _ _ _ _ _ _ _ hK hN nd hsc (fun z => nomatch z) (fun z => nomatch z) ?_ takes0 con blt (fun x n z => nomatch z) hξm (fun z => nomatch z) (fun z => nomatch z) (fun _ => ?_) (fun z => nomatch z)) fn (fun e s' z => z.elim) kind
  · show X.A.units + 65 + 0 < cLine
    omega
  · refine ⟨a, A0, dd, oe, pn, X, rfl, rfl, hz, hf, h1, h2, fun y k e => ?_, fun n m e G => ?_, fun dx e H' μ' r => ?_⟩
    · obtain ⟨A, k1, k2⟩ := to.each y k e
      refine ⟨A, _, k1, (k2 _ _ _ _ _ _ hx).1, fun G => ?_⟩
      show R.ok (D.bl (decide ((kk : Int) = (k : Int)))) G = _
      have : decide ((kk : Int) = (k : Int)) = decide (kk = k) := decide_eq_decide.mpr (by omega)
      rw [this]
    · by_cases hm : kk / 100 = m
      · match fs, h6, to with
        | [], _, _ => exact .inl rfl
        | [d], h6, to =>
          refine .inr ⟨d, ?_, ?_⟩
          · show (if ((kk / 100 : Nat) : Int) = (m : Int) then R.ok d G else .stuck) = _
            rw [if_pos (by omega)]
          · obtain ⟨k1, k2, _⟩ := h6 n m e hm d rfl
            refine ⟨k1, k2, fun H' μ' r => ?_⟩
            obtain ⟨D', e', _, _, h6', _⟩ := to.cls kk [d] H' μ' (.ref A0) dd r
            cases e'
            exact (h6' n m e hm d rfl).2.2
        | _ :: _ :: _, _, _ => exact .inl rfl
      · match fs with
        | [] => exact .inl rfl
        | [d] =>
          refine .inl ?_
          show (if ((kk / 100 : Nat) : Int) = (m : Int) then R.ok d G else .stuck) = _
          rw [if_neg (by omega)]
        | _ :: _ :: _ => exact .inl rfl
    · obtain ⟨D', e', _, _, _, h7'⟩ := to.cls kk fs H' μ' (.ref A0) dd r
      exact h7' dx e
theorem sndB (hξm : XMono c.ξ) (to : TryOk X Γ c.ξ) (hs : X.stack = X.env :: X.outer) (hfr : X.env.frame = some X.env.locals) : ∀ (a : Sms) (s : List Stmt), ckB Γ N tb sc a s = true → GoodS Γ N C tb X c sc → PSs X s (rS c (exs C a))
  | .nil, s, h, g => by
    have e : s = [] := List.isEmpty_iff.mp (by simpa [ckB] using h)
    subst e
    exact PSs.imp pss_nil fun D σ H q => rS.nil q
  | .cons a as, [], h, g => by simp [ckB] at h
  | .cons a as, b :: r, h, g => by
    unfold ckB at h
    rw [Bool.and_eq_true] at h
    refine PSs.imp (pss_cons (?_ : PS X b (rS c (ex C a))) (sndB hξm to hs hfr as r h.2 g)) fun D σ H q => rS.seq q
    replace h := h.1
    split at h
    · rename_i t k i hd body x np n b0 suite pos' pos
      simp only [Bool.and_eq_true, Bool.not_eq_true', decide_eq_true_eq] at h
      obtain ⟨hh, h1, h2, h3, h4, h5, h6⟩ := h
      obtain ⟨hg, hdb⟩ := g.g.gl h4
      have hcat : ∃ A, X.mg x = some (.ref A) ∧ ∀ kk fs H μ cls dd, c.ξ kk fs H μ cls dd → PySem.W.exmOne X.K cls (.ref A) = some (decide (k = none ∨ k = some kk)) := by
        cases k with
        | none =>
          have h5 : x = Γ.exB ∧ Γ.exB ≠ "" := of_decide_eq_true h5
          obtain ⟨A, hA, q⟩ := to.base h5.2
          exact ⟨A, by rw [h5.1]; exact hA, fun kk fs H μ cls dd hx => by rw [q _ _ _ _ _ _ hx]; simp⟩
        | some cx =>
          have h5 : Γ.exs.lookup x = some cx := of_decide_eq_true h5
          obtain ⟨A, hA, q⟩ := to.each x cx h5
          refine ⟨A, hA, fun kk fs H μ cls dd hx => ?_⟩
          rw [(q _ _ _ _ _ _ hx).2]
          congr 1
          exact decide_eq_decide.mpr (by simp [eq_comm])
      obtain ⟨A, hA, hcat⟩ := hcat
      refine PS.imp (ps_try_as (c := .ref A) (i := i) (Wout := c.W) (tb := fun W => rS ⟨c.K, c.ξ, W⟩ (exs C t)) (ts := fun a cls dd D σ H => ∃ kk fs μ, c.ξ kk fs H μ cls dd ∧ @rS _ (hotCur c.ξ hξm i a kk fs cls dd) ⟨c.K, c.ξ, fun _ _ _ _ => False⟩ (exs (hC kk fs) hd) D σ H) hs hfr (by rw [g.g.hN]; exact g.g.nd) (by rw [g.g.hN]; exact h2) (by show X.env.scope.names.lookup n = _; rw [g.g.hsc]; exact h3) ⟨hg, hdb, .inl hA⟩ g.g.tk (fun W pn xe tk hp => ?_) (fun a oe cls dd pn hz hf => ?_)) fun D σ H q => ?_
      · exact sndSs t body h1 ⟨⟨g.g.hK, g.g.hN, g.g.nd, g.g.hsc, g.g.calm, g.g.cal, g.g.hu, tk, g.g.con, g.g.blt, g.g.fns, hξm, g.g.lms, g.g.exs, fun z => (by rw [hh] at z; cases z), g.g.code⟩, g.fn, hp, g.kind⟩
      · refine ⟨fun pins s σ H D I q => ?_⟩
        obtain ⟨kk, fs, μ, hx, q⟩ := q
        exact (@sndSs _ (hotCur c.ξ hξm i a kk fs cls dd) _ _ _ _ _ _ _ hd (b0 :: suite) h6 (hot_good g hξm to hz hf hx)).run pins s σ H D I q
      · obtain ⟨ρ, G, μ, re, rg, q⟩ := q
        refine ⟨ρ, G, μ, re, rg, ?_⟩
        have q : PostS c D H μ (sTry (exs C t) k i (fun kk fs => exs (hC kk fs) hd) ρ G) := q
        unfold sTry at q
        show PostS ⟨c.K, c.ξ, wAs X.K (.ref A) i _ c.W D⟩ D H μ (exs C t ρ G)
        cases hb : exs C t ρ G with
        | nx ρ1 G1 => rw [hb] at q; exact q
        | rt d G1 => rw [hb] at q; exact q
        | bk ρ1 G1 => rw [hb] at q; exact q
        | ct ρ1 G1 => rw [hb] at q; exact q
        | stuck => rw [hb] at q; exact q
        | exc kk fs ρ1 G1 =>
          rw [hb] at q
          intro H1 μ1 x1 p1 g1 σ1 cls dd re1 hx
          refine ⟨_, hcat kk fs H1 μ1 cls dd hx, fun hk a ha => ?_, fun hk => ?_⟩
          · have hk := of_decide_eq_true hk
            simp only [if_pos hk] at q
            have re2 : @RE _ (hotCur c.ξ hξm i a kk fs cls dd) c.K H1 μ1 (ρ1.set i none) (σ1.set i (some (.ref a))) := by
              refine @RE.mk _ (hotCur c.ξ hξm i a kk fs cls dd) _ _ _ _ _ (by rw [List.length_set, List.length_set]; exact re1.len) (fun j d e => ?_) (fun j b e e' => ?_) hx
              · by_cases hj : j = i
                · subst hj
                  have hl : j < ρ1.length := by
                    have := (List.getElem?_eq_some_iff.mp e).1
                    rwa [List.length_set] at this
                  rw [List.getElem?_set_self hl] at e; cases e
                · rw [List.getElem?_set_ne (Ne.symm hj)] at e
                  rw [List.getElem?_set_ne (Ne.symm hj)]
                  exact re1.at_ j d e
              · cases e
                have hl := (List.getElem?_eq_some_iff.mp e').1
                rw [List.length_set, re1.len] at hl
                rw [List.getElem?_set_self hl]
            refine ⟨kk, fs, μ1, hx, ρ1.set i none, G1, μ1, re2, g1, ?_⟩
            have back : ∀ {ρ2 σ2 H2 μ2}, XT H1 H2 → μ1 <+: μ2 → @RE _ (hotCur c.ξ hξm i a kk fs cls dd) c.K H2 μ2 ρ2 σ2 → RE c.K H2 μ2 (ρ2.set i none) (σ2.set i none) := fun {ρ2 σ2 H2 μ2} x2 p2 r => by
              obtain ⟨r1, r2, _, _⟩ := r
              refine ⟨by rw [List.length_set, List.length_set]; exact r1, fun j d e => ?_, fun j b e => (by rw [g.g.cal hh] at e; cases e), Cur.mono x2 p2 re1.rel⟩
              by_cases hj : j = i
              · subst hj
                have hl : j < ρ2.length := by
                  have := (List.getElem?_eq_some_iff.mp e).1
                  rwa [List.length_set] at this
                rw [List.getElem?_set_self hl] at e; cases e
              · rw [List.getElem?_set_ne (Ne.symm hj)] at e
                rw [List.getElem?_set_ne (Ne.symm hj)]
                exact r2 j d e
            cases hr : exs (hC kk fs) hd (ρ1.set i none) G1 with
            | nx ρ2 G2 =>
              rw [hr] at q
              intro H2 μ2 x2 p2 g2 σ2 r
              exact q H2 μ2 (x1.trans x2) (p1.trans p2) g2 _ (back x2 p2 r)
            | rt d G2 =>
              rw [hr] at q
              exact fun H2 μ2 x2 p2 g2 v rv => q H2 μ2 (x1.trans x2) (p1.trans p2) g2 v rv
            | bk ρ2 G2 => rw [hr] at q; exact q.elim
            | ct ρ2 G2 => rw [hr] at q; exact q.elim
            | exc _ _ _ _ => rw [hr] at q; exact q.elim
            | stuck => rw [hr] at q; exact q.elim
          · have hk := of_decide_eq_false hk
            simp only [if_neg hk] at q
            exact q H1 μ1 x1 p1 g1 σ1 cls dd re1 hx
    · exact sndS a b h g
end
end Cut
/-! Behind a call what nobody reaches is forgotten; every def keeps its promise. -/
namespace Cut
open PySem PySem.Spec PyProof.Rows L2
variable [Tbl]
section
variable {K : PySem.W.Frag} {H H' : Hp} {μ μ' : List Addr} {G G' : Store}
mutual
theorem RD.below : ∀ {d : D} {v : V}, RD K H μ d v → Cut.below μ.length d = true
  | .non, _, _ | .bl _, _, _ | .int _, _, _ | .str _, _, _ | .ty _, _, _ => rfl
  | .tup _, _, ⟨_, _, _, _, r⟩ => by unfold Cut.below; exact RDs.below r
  | .ref _, _, ⟨a, _, m⟩ => by unfold Cut.below; exact decide_eq_true (List.getElem?_eq_some_iff.mp m).1
theorem RDs.below : ∀ {ds : List D} {vs : List V}, RDs K H μ ds vs → Cut.belows μ.length ds = true
  | [], _, _ => rfl
  | _ :: _, _, ⟨_, _, _, r, rs⟩ => by unfold Cut.belows; rw [RD.below r, RDs.below rs]; rfl
end
mutual
theorem RD.cutB (p : μ <+: μ') : ∀ {d : D} {v : V}, Cut.below μ.length d = true → RD K H μ' d v → RD K H μ d v
  | .non, _, _, h | .bl _, _, _, h | .int _, _, _, h | .str _, _, _, h | .ty _, _, _, h => h
  | .tup _, _, b, ⟨a, vs, e, s, r⟩ => ⟨a, vs, e, s, RDs.cutB p (by unfold Cut.below at b; exact b) r⟩
  | .ref n, _, b, ⟨a, e, m⟩ => ⟨a, e, by
    unfold Cut.below at b
    have hb : n < μ.length := of_decide_eq_true b
    have e2 := pre_get p (List.getElem?_eq_getElem hb)
    rw [m] at e2
    rw [List.getElem?_eq_getElem hb]; exact e2.symm⟩
theorem RDs.cutB (p : μ <+: μ') : ∀ {ds : List D} {vs : List V}, Cut.belows μ.length ds = true → RDs K H μ' ds vs → RDs K H μ ds vs
  | [], _, _, h => h
  | _ :: _, _, b, ⟨v, ws, e, r, rs⟩ => by
    unfold Cut.belows at b
    rw [Bool.and_eq_true] at b
    exact ⟨v, ws, e, RD.cutB p b.1 r, RDs.cutB p b.2 rs⟩
end
theorem RClo.below {a : Addr} {f : Nat} {ds : List D} (h : RClo K H μ a f ds) : Cut.belows μ.length ds = true := by
  obtain ⟨_, _, _, _, _, _, _, r, _⟩ := h
  exact r.below
theorem RClo.cutB (p : μ <+: μ') {a : Addr} {f : Nat} {ds : List D} (b : Cut.belows μ.length ds = true) (h : RClo K H μ' a f ds) : RClo K H μ a f ds := by
  obtain ⟨L, cl, c, vs, h1, h2, h3, r, h4⟩ := h
  exact ⟨L, cl, c, vs, h1, h2, h3, RDs.cutB p b r, h4⟩
theorem gcOk_at : ∀ {n : Nat} {l l' : List Cell} {i : Nat} {c : Cell}, gcOk n l l' = true → l[i]? = some c → ∃ c', l'[i]? = some c' ∧ (c = c' ∨ cellBelow n c' = true)
  | _, [], _, _, _, _, h => by simp at h
  | _, _ :: _, [], _, _, h, _ => by simp [gcOk] at h
  | n, c :: cs, c' :: cs', 0, d, h, e => by
    simp only [gcOk, Bool.and_eq_true, Bool.or_eq_true, decide_eq_true_eq] at h
    cases e
    exact ⟨c', rfl, h.1⟩
  | n, c :: cs, c' :: cs', i + 1, d, h, e => by
    simp only [gcOk, Bool.and_eq_true] at h
    exact gcOk_at (i := i) h.2 (by simpa using e)
theorem gcOk_len : ∀ {n : Nat} {l l' : List Cell}, gcOk n l l' = true → l.length ≤ l'.length
  | _, [], _, _ => Nat.zero_le _
  | _, _ :: _, [], h => by simp [gcOk] at h
  | n, c :: cs, c' :: cs', h => by
    simp only [gcOk, Bool.and_eq_true] at h
    exact Nat.succ_le_succ (gcOk_len h.2)
/-- the old cells alone -/
theorem RG.old (g : RG K H μ G) (p : μ <+: μ') (g' : RG K H' μ' G') (hl : G'.lim = G.lim) (ok : gcOk G.cs.length G.cs G'.cs = true) : RG K H' μ { G' with cs := G'.cs.take G.cs.length } where
  tab := g'.tab
  lam := g'.lam
  len := by rw [g.len]; show _ = (G'.cs.take _).length; rw [List.length_take, Nat.min_eq_left (gcOk_len ok)]
  nd := fun i j a hi hj h1 h2 => g'.nd i j a hi hj (pre_get p h1) (pre_get p h2)
  lim := by show G'.lim ≤ (G'.cs.take _).length; rw [List.length_take, Nat.min_eq_left (gcOk_len ok), hl]; exact g.lim
  cell := fun n c a h1 h2 => by
    have hn : n < G.cs.length := by rw [← g.len]; exact (List.getElem?_eq_some_iff.mp h2).1
    have h1 : (G'.cs.take G.cs.length)[n]? = some c := h1
    rw [List.getElem?_take_of_lt hn] at h1
    have r := g'.cell n c a h1 (pre_get p h2)
    obtain ⟨c', e1, e2⟩ := gcOk_at ok (List.getElem?_eq_getElem hn)
    rw [h1] at e1
    cases e1
    cases c with
    | lst ds =>
      obtain ⟨vs, rs, f1, f2⟩ := r
      refine ⟨vs, RDs.cutB p ?_ rs, f1, f2⟩
      rcases e2 with e2 | e2
      · have r0 := g.cell n _ a (List.getElem?_eq_getElem hn) h2
        rw [e2] at r0
        obtain ⟨vs0, rs0, _⟩ := r0
        exact rs0.below
      · rw [g.len]; exact e2
    | dic kvs =>
      obtain ⟨f0, ws, ⟨rk1, rk2⟩, hH⟩ := r
      refine ⟨f0, ws, ⟨rk1, RDs.cutB p ?_ rk2⟩, hH⟩
      rcases e2 with e2 | e2
      · have r0 := g.cell n _ a (List.getElem?_eq_getElem hn) h2
        rw [e2] at r0
        obtain ⟨_, ws0, ⟨_, rs0⟩, _⟩ := r0
        exact rs0.below
      · rw [g.len]; exact e2
    | ins _ _ => exact r.elim
    | clo f ds =>
      refine ⟨r.1, r.2.cutB p ?_⟩
      rcases e2 with e2 | e2
      · have r0 := g.cell n _ a (List.getElem?_eq_getElem hn) h2
        rw [e2] at r0
        exact r0.2.below
      · rw [g.len]; exact e2
    | dead => exact r
/-- .. and one new list -/
theorem RG.old1 (g : RG K H μ G) (p : μ <+: μ') (g' : RG K H' μ' G') (hl : G'.lim = G.lim) (ok : gcOk G.cs.length G.cs G'.cs = true) {m : Nat} {c : Cell} {a : Addr} (hm : G.cs.length ≤ m) (hc : G'.cs[m]? = some c) (hb : cellBelow G.cs.length c = true) (ha : μ'[m]? = some a) :
    RG K H' (μ ++ [a]) { G' with cs := G'.cs.take G.cs.length ++ [c] } where
  tab := g'.tab
  lam := g'.lam
  len := by
    have e := (g.old p g' hl ok).len
    show _ = (G'.cs.take _ ++ [c]).length
    rw [List.length_append, List.length_append, e]; rfl
  nd := fun i j b hi hj h1 h2 => by
    have old : ∀ {i : Nat}, (μ ++ [a])[i]? = some b → (μ[i]? = some b ∧ i < μ.length) ∨ (i = μ.length ∧ b = a) := fun {i} h => by
      by_cases hl : i < μ.length
      · rw [List.getElem?_append_left hl] at h
        exact .inl ⟨h, hl⟩
      · have hb := (List.getElem?_eq_some_iff.mp h).1
        rw [List.length_append, List.length_singleton] at hb
        have e : i = μ.length := by omega
        subst e
        rw [List.getElem?_append_right (Nat.le_refl _), Nat.sub_self] at h
        exact .inr ⟨rfl, by simpa using h.symm⟩
    have hi' : G'.lim ≤ i := hi
    have hj' : G'.lim ≤ j := hj
    have hm' : G'.lim ≤ m := by rw [hl]; exact Nat.le_trans g.lim hm
    have gl := g.len
    rcases old h1 with ⟨k1, k2⟩ | ⟨k1, k2⟩ <;> rcases old h2 with ⟨m1, m2⟩ | ⟨m1, m2⟩
    · exact g'.nd i j b hi hj (pre_get p k1) (pre_get p m1)
    · have := g'.nd i m b hi' hm' (pre_get p k1) (by rw [m2]; exact ha)
      omega
    · have := g'.nd m j b hm' hj' (by rw [k2]; exact ha) (pre_get p m1)
      omega
    · rw [k1, m1]
  lim := by
    have h := (g.old p g' hl ok).lim
    show G'.lim ≤ (G'.cs.take _ ++ [c]).length
    rw [List.length_append]; exact Nat.le_trans h (Nat.le_add_right _ _)
  cell := fun n d b h1 h2 => by
    have h1 : (G'.cs.take G.cs.length ++ [c])[n]? = some d := h1
    have o := g.old p g' hl ok
    have ol : μ.length = (G'.cs.take G.cs.length).length := o.len
    by_cases hn : n < μ.length
    · rw [List.getElem?_append_left hn] at h2
      rw [List.getElem?_append_left (by rw [← ol]; exact hn)] at h1
      have r := o.cell n d b h1 h2
      cases d with
      | lst ds =>
        obtain ⟨vs, rs, f1, f2⟩ := r
        exact ⟨vs, rs.mono (.refl _) (List.prefix_append _ _), f1, f2⟩
      | dic _ =>
        obtain ⟨f0, ws, rk, hH⟩ := r
        exact ⟨f0, ws, rk.mono (.refl _) (List.prefix_append _ _), hH⟩
      | ins _ _ => exact r.elim
      | clo _ _ => exact ⟨r.1, r.2.mono (.refl _) (List.prefix_append _ _)⟩
      | dead => exact r
    · have hb' := (List.getElem?_eq_some_iff.mp h2).1
      rw [List.length_append, List.length_singleton] at hb'
      have e : n = μ.length := by omega
      subst e
      rw [List.getElem?_append_right (Nat.le_refl _), Nat.sub_self] at h2
      rw [List.getElem?_append_right (by rw [← ol]; exact Nat.le_refl _), ← ol, Nat.sub_self] at h1
      cases h1; cases h2
      have r := g'.cell m c a hc ha
      cases c with
      | lst ds =>
        obtain ⟨vs, rs, f1, f2⟩ := r
        have gl := g.len
        have glim := g.lim
        refine ⟨vs, (RDs.cutB p (by rw [g.len]; exact hb) rs).mono (.refl _) (List.prefix_append _ _), fun e => ?_, fun _ => f2 (decide_eq_false (by omega))⟩
        have q : μ.length < G'.lim := of_decide_eq_true e
        omega
      | dic kvs =>
        obtain ⟨f0, ws, ⟨rk1, rk2⟩, hH⟩ := r
        have gl := g.len
        have glim := g.lim
        exact ⟨decide_eq_false (by show ¬ μ.length < G'.lim; omega), ws, ⟨rk1, (RDs.cutB p (by rw [g.len]; exact hb) rk2).mono (.refl _) (List.prefix_append _ _)⟩, hH⟩
      | ins _ _ => exact r.elim
      | clo f ds =>
        have gl := g.len
        have glim := g.lim
        exact ⟨decide_eq_false (by show ¬ μ.length < G'.lim; omega), (r.2.cutB p (by rw [g.len]; exact hb)).mono (.refl _) (List.prefix_append _ _)⟩
      | dead =>
        have gl := g.len
        have glim := g.lim
        exact ⟨decide_eq_false (by show ¬ μ.length < G'.lim; omega), r.2⟩
/-- exceptions of ours do not look beyond what they hold -/
def XCut (ξ : XRel) : Prop := ∀ n fs H (μ μ' : List Addr) cls dd, belows μ.length fs = true → μ <+: μ' → ξ n fs H μ' cls dd → ξ n fs H μ cls dd
theorem gc_ok {ξ : XRel} (hξ : XCut ξ) {E : XK} {Q : VK} {r : R D} (g : RG K H μ G) (h : ResP K ξ H μ Q E (gc G r)) : ResP K ξ H μ Q E r := by
  have gl := g.len
  cases r with
  | stuck => exact h
  | ok d G' =>
    simp only [gc] at h
    unfold ResP at h ⊢
    by_cases hk : (decide (G'.lim = G.lim) && gcOk G.cs.length G.cs G'.cs) = true
    · rw [if_pos hk] at h
      simp only [Bool.and_eq_true, decide_eq_true_eq] at hk
      by_cases hb : Cut.below G.cs.length d = true
      · rw [if_pos hb] at h
        intro H' μ' x p g' v rv
        exact h H' μ x (List.prefix_refl _) (g.old p g' hk.1 hk.2) v (RD.cutB p (by rw [gl]; exact hb) rv)
      · rw [if_neg hb] at h
        cases d with
        | ref m =>
          simp only at h
          cases hc : G'.cs[m]? with
          | none => rw [hc] at h; exact h
          | some c =>
            rw [hc] at h
            simp only at h
            by_cases hm : G.cs.length ≤ m ∧ cellBelow G.cs.length c = true
            · rw [if_pos hm] at h
              rintro H' μ' x p g' v ⟨a, rfl, ha⟩
              exact h H' (μ ++ [a]) x (List.prefix_append _ _) (g.old1 p g' hk.1 hk.2 hm.1 hc hm.2 ha) _ ⟨a, rfl, by rw [← gl, List.getElem?_append_right (Nat.le_refl _), Nat.sub_self]; rfl⟩
            · rw [if_neg hm] at h; exact h
        | _ => exact h
    · rw [if_neg hk] at h; exact h
  | exc k fs G' =>
    simp only [gc] at h
    unfold ResP at h ⊢
    by_cases hk : (decide (G'.lim = G.lim) && gcOk G.cs.length G.cs G'.cs && belows G.cs.length fs) = true
    · rw [if_pos hk] at h
      simp only [Bool.and_eq_true, decide_eq_true_eq] at hk
      intro H' μ' x p g' cls dd hx
      exact h H' μ x (List.prefix_refl _) (g.old p g' hk.1.1 hk.1.2) cls dd (hξ k fs H' μ μ' cls dd (by rw [gl]; exact hk.2) p hx)
    · rw [if_neg hk] at h; exact h
end
end Cut
/-! Lambdas: made, and what they keep to. -/
namespace Cut
open PySem PySem.Spec PyProof.Rows L2
variable [Tbl]
/-- what a lambda's making leaves -/
structure Lmd (P : Addr) (L : Lm) (cl : List (Str × Addr)) (H H1 : Hp) (f c : Addr) : Prop where
  keep : ∀ b o, H b = some o → b ≠ P → H1 b = some o
  tbl : ∃ ps, H P = some (.tbl ps)
  tab : LamX.TabS H1 P L.qual
  new : H f = none
  lam : H1 f = some (LamO f L cl c)
  code : H1 c = some (LamX.CodeO c L.qual)
theorem Lmd.xt {P : Addr} {L : Lm} {cl : List (Str × Addr)} {H H1 : Hp} {f c : Addr} (m : Lmd P L cl H H1 f c) (hu : ∀ p ∈ Tbl.lt, p.1 = P → p.2 = L.qual) : XT H H1 := by
  obtain ⟨ps, hP⟩ := m.tbl
  have kp : ∀ {b o}, H b = some o → (∀ qs, o ≠ .tbl qs) → H1 b = some o := fun {b o} e k => m.keep b o e fun z => by
    rw [z, hP] at e; cases e; exact k _ rfl
  have ext : ∀ a φ, H a = some (.ext φ) → H1 a = some (.ext φ) := fun a φ e => kp e (fun _ z => nomatch z)
  refine ⟨fun b hb => ?_, fun a xs e => kp e (fun _ z => nomatch z), fun a o u e => kp e (fun _ z => nomatch z), ext, fun a xs e => kp e (fun _ z => nomatch z), fun p hp t => ?_⟩
  · by_cases z : b = P
    · subst z
      obtain ⟨qs, e, t, _⟩ := m.tab
      exact ⟨qs, e, t⟩
    · obtain ⟨qs, e, t⟩ := hb
      exact ⟨qs, m.keep b _ e z, t⟩
  · by_cases z : p.1 = P
    · rw [z, hu p hp z]; exact m.tab
    · obtain ⟨qs, e, t, k⟩ := t
      exact ⟨qs, m.keep _ _ e z, t, fun pos cv q => by
        obtain ⟨c, e1, e2⟩ := k pos cv q
        exact ⟨c, e1, ext _ _ e2⟩⟩
section
variable {X : Cx}
theorem pe_lam {P c : Addr} {L : Lm} {pos : Pos} (TB : LamX.TabB X.base X.mg c P) (hcode : X.env.code = .ref c) (hq : L.qual = X.env.qual ++ "<lambda>") (hd : defaultsOf L.params X.env = ([], []))
    (hfree : ∀ y ∈ L.scope.names, y.2 = .free → X.env.scope.names.lookup y.1 = some .cell ∨ X.env.scope.names.lookup y.1 = some .free) :
    PE X (.Lambda L.params L.body L.scope pos) fun σ H Q => LamX.TabS H P L.qual ∧ ∀ f c' H1, Lmd P L (cloFrom X.env.cells L.scope.names []) H H1 f c' → Q (.ref f) H1 := by
  refine ⟨fun pins s σ H Q I h => ?_⟩
  obtain ⟨⟨ps, hP, ht, hk⟩, q⟩ := h
  have hfr : ∀ y ∈ L.scope.names, y.2 = .free → ∃ c, X.env.cells.lookup y.1 = some c := fun y hy e => by
    rcases hfree y hy e with k | k
    · exact I.ok.has _ (.inl k)
    · exact I.ok.has _ (.inr k)
  have hPs : s.heap.get? P = some { cls := .none, data := .fields ps } := I.hok P _ hP
  have hPlt : P < s.heap.objs.size := Heap.lt_size hPs
  refine PySem.W.kla_eval hd ?_
  rw [← hq]
  cases hcd : codeAmong pos ps.toList with
  | none =>
    refine PySem.W.kla_makeFunction (mg := X.mg) (closure_ok hfr) I.ok.glob (I.mod.glob.keeps I.bk) hcode (TB.code.keeps I.bk) hPs ht hcd TB.gP (TB.bm.keeps I.bk) fun c' ctv h' tk hx h1 h2 h3 h4 => ?_
    obtain ⟨c2, o2, vs2, t2, e0, e1, e2, e3⟩ := h3
    cases e0
    have I1 := LamX.inv_table (t' := tk) I hP (fun b o hb e => hx b o hb e) h4 h1 ⟨o2, vs2, t2, e1, e2, e3⟩
    have I2 := I1.laid (h' := h'.push (PySem.W.kla_obj "<lambda>" L.qual L.params L.body L.scope (cloFrom X.env.cells L.scope.names []) ((X.mg "__name__").getD .none) c' ctv)) (a := h'.objs.size) (o := LamO h'.objs.size L (cloFrom X.env.cells L.scope.names []) c') (t' := tk) (fun b u e => Heap.get?_push_of_some _ e) (Nat.le_refl _) ⟨⟨_, ctv, Heap.get?_push_size _ rfl⟩, ⟨_, Heap.get?_push_size _ rfl⟩, fun h1 h2 ⟨pm, ct, e⟩ k => ⟨pm, ct, k _ e⟩⟩
    have hc'P : c' ≠ P := fun z => absurd (Nat.lt_of_le_of_lt h1 (z ▸ hPlt)) (Nat.lt_irrefl _)
    have hc' : H c' = none := I.hok.fresh h1
    have hfn : H h'.objs.size = none := I.hok.fresh (Nat.le_trans h1 (Nat.le_of_lt h2))
    have hfc : h'.objs.size ≠ c' := fun z => by rw [z] at h2; exact absurd h2 (Nat.lt_irrefl _)
    have hfP : h'.objs.size ≠ P := fun z => absurd (Nat.lt_trans (Nat.lt_of_le_of_lt h1 h2) (z ▸ hPlt)) (Nat.lt_irrefl _)
    refine ⟨.ref h'.objs.size, _, I2, rfl, q _ c' _ ⟨fun b o e hb => ?_, ⟨ps, hP⟩, ⟨ps ++ #[rawInt pos.line, rawInt pos.col, .ref c'], ?_, (by rw [Array.toList_append]; exact TriplesOk_snoc _ _ _ _ ht), fun pos' cv e => ?_⟩, hfn, upd_same, ?_⟩⟩
    · rw [upd_ne (ne_of_none e hfn), upd_ne (ne_of_none e hc'), upd_ne hb]; exact e
    · rw [upd_ne hfP.symm, upd_ne hc'P.symm, upd_same]
    · rw [Array.toList_append] at e
      rcases LamX.among_app _ ht e with e | e
      · obtain ⟨b, e1, e2⟩ := hk pos' cv e
        refine ⟨b, e1, ?_⟩
        rw [upd_ne (ne_of_none e2 hfn), upd_ne (ne_of_none e2 hc'), upd_ne fun z => by rw [z, hP] at e2; exact LamX.codeO_ne _ (Option.some.inj e2).symm]; exact e2
      · exact ⟨c', e, by rw [upd_ne hfc.symm, upd_same]⟩
    · rw [upd_ne hfc.symm, upd_same]
  | some cv =>
    obtain ⟨c', rfl, hc'⟩ := hk pos cv hcd
    refine PySem.W.kla_makeFunctionHit (mg := X.mg) (closure_ok hfr) I.ok.glob (I.mod.glob.keeps I.bk) hcode (TB.code.keeps I.bk) hPs ht hcd (TB.bm.keeps I.bk) fun ctv h' tk hx h1 => ?_
    have I1 : L2.Inv X pins σ H { s with heap := h', toks := tk } := I.kept hx
    have I2 := I1.laid (h' := h'.push (PySem.W.kla_obj "<lambda>" L.qual L.params L.body L.scope (cloFrom X.env.cells L.scope.names []) ((X.mg "__name__").getD .none) c' ctv)) (a := h'.objs.size) (o := LamO h'.objs.size L (cloFrom X.env.cells L.scope.names []) c') (t' := tk) (fun b u e => Heap.get?_push_of_some _ e) (Nat.le_refl _) ⟨⟨_, ctv, Heap.get?_push_size _ rfl⟩, ⟨_, Heap.get?_push_size _ rfl⟩, fun h1 h2 ⟨pm, ct, e⟩ k => ⟨pm, ct, k _ e⟩⟩
    have hfn : H h'.objs.size = none := I.hok.fresh h1
    have kp : ∀ {b o}, H b = some o → upd H h'.objs.size (LamO h'.objs.size L (cloFrom X.env.cells L.scope.names []) c') b = some o := fun {b o} e => by rw [upd_ne (ne_of_none e hfn)]; exact e
    exact ⟨.ref h'.objs.size, _, I2, rfl, q _ c' _ ⟨fun b o e hb => kp e, ⟨ps, hP⟩, ⟨ps, kp hP, ht, fun pos' cv e => by
      obtain ⟨c, e1, e2⟩ := hk pos' cv e
      exact ⟨c, e1, kp e2⟩⟩, hfn, upd_same, kp hc'⟩⟩
end
@[reducible] def noCur : Cur := ⟨none, fun _ _ => True, fun _ _ h => h⟩
/-- the frame of a lambda -/
@[reducible] def lmNF (L : Lm) (cl : List (Str × Addr)) (c : Addr) : NdefX.NF := ⟨"<lambda>", L.qual, L.params, [], L.scope, cl, c⟩
theorem lok_of {P : Program} {w : World} {K : PySem.W.Frag} {mg : Str → Option Value} {base : Heap} {ξ : XRel} {k : Nat} {L : Lm} {F : List D → Store → R D} {f : ME} (hξ : XCut ξ)
    (S : NdefX.NScope L.fr [] L.fr L.scope) (hbd : ∀ pm cv ctv cl, bindArgs (PySem.W.kla_fn "<lambda>" L.qual L.params L.body L.scope cl pm cv ctv) { pos := [] } = pure [])
    (hF : ∀ ds G, ds.length = L.fr.length → F ds G = gc G (f (ds.map some) G))
    (hpe : ∀ (A : Around) (outer : List PySem.Env) (s : Shared) (H : Hp) (E : XK) (a c : Addr) (cl : List (Str × Addr)), Room k (A.deeper (NdefX.envF (lmNF L cl c) a s.heap.objs.size)) →
      PE (NdefX.ncx (L2.CX P w) P w K mg base L.fr (lmNF L cl c) a A outer s H E) L.body (@rE _ noCur ⟨K, ξ, fun cls d _ H' => E cls d H'⟩ f)) : LOk P w K mg base ξ (k + 1) L F := by
  refine ⟨fun A outer s H μ G a c cl pm ctv ds vs Q E hr E0 hob cr ca rg rds post => ?_⟩
  have hlen : ds.length = L.fr.length := by rw [← rds.len, ← ca.len, List.length_map]
  rw [hF ds G hlen] at post
  have post := gc_ok hξ rg post
  refine PySem.W.kla_callFunE (by have := hr.dp; omega) hob rfl S.co S.gen rfl cr ?_
  rw [hbd]
  refine wpAny_pure (wpAny_newFunctionEnv S.nocell (fun x h => nomatch h) (fun h' hn hs => ?_) S.kind)
  have kp : ∀ (b : Addr) (o : Obj), s.heap.get? b = some o → h'.get? b = some o := fun b o e => by
    have hb : b ≠ s.heap.objs.size := Nat.ne_of_lt (Heap.lt_size e)
    rw [hs.2 b hb]
    exact Heap.get?_push_of_some _ e
  refine ⟨(E0.mod.nolimit.keeps fun b o e => kp b o (E0.bs b o e).1), PySem.W.kla_codeExpr ?_⟩
  have I := NdefX.inv_startN (CX := L2.CX P w) (N := L.fr) (F := lmNF L cl c) (f := a) (E := E) (tk := s.toks + 0) (us := []) (vs := []) S hr.hd E0 rfl .nil ca hn kp
  have room : Room k (A.deeper (NdefX.envF (lmNF L cl c) a s.heap.objs.size)) := by
    obtain ⟨h1, h2, h3⟩ := hr
    exact ⟨h1, by show A.depth + 1 + 3 * k + 5 < _; omega, by show A.units + 3 + 16 * k + 200 < _; omega⟩
  have re : @RE _ noCur K H μ (ds.map some) (NdefX.startF L.fr [] (vs.map some)) := by
    refine @RE.mk _ noCur _ _ _ _ _ ?_ (fun i d e => ?_) (fun i b e => nomatch e) trivial
    · unfold NdefX.startF
      simp only [List.map_nil, List.nil_append, List.length_append, List.length_map, List.length_replicate, List.length_nil]
      rw [hlen, rds.len, hlen]; omega
    · rw [List.getElem?_map] at e
      obtain ⟨d', h1, h2⟩ := Option.map_eq_some_iff.mp e
      cases h2
      obtain ⟨v, h3, h4⟩ := rds.get h1
      refine ⟨v, ?_, h4⟩
      unfold NdefX.startF
      have hl := (List.getElem?_eq_some_iff.mp h3).1
      rw [List.map_nil, List.nil_append, List.getElem?_append_left (by rw [List.length_map]; exact hl), List.getElem?_map, h3]; rfl
  have q : @rE _ noCur ⟨K, ξ, fun cls d _ H' => E cls d H'⟩ f (NdefX.startF L.fr [] (vs.map some)) H Q := by
    refine ⟨_, G, μ, re, rg, ?_⟩
    cases hr : f (ds.map some) G with
    | ok d G' => rw [hr] at post; exact post
    | exc kk fs G' => rw [hr] at post; exact post
    | stuck => rw [hr] at post; exact post
  have hrun := (hpe A outer s H E a c cl room).run [] _ _ H Q I q
  refine wpAny_mono hrun ?_ fun e s' h => h
  rintro u s' ⟨v, H', I', rv, hq⟩
  exact ⟨v, H', I'.os, I'.bare, I'.base, I'.hok, rv, hq⟩
end Cut
/-! A def that makes a list of lambdas and gives it back. -/
namespace Cut
open PySem PySem.Spec PyProof.Rows L2
variable [Tbl]
structure WS (H0 : Hp) (P : Addr) (q : Str) (cl : Lm → List (Str × Addr)) (done : List Lm) (wa : Addr) (fs : List Addr) (H : Hp) : Prop where
  keep : ∀ b o, H0 b = some o → b ≠ P → H b = some o
  ptbl : ∃ ps, H0 P = some (.tbl ps)
  tab : LamX.TabS H P q
  newW : H0 wa = none
  lst : H wa = some (.lst (fs.map .ref))
  len : fs.length = done.length
  clo : ∀ (i : Nat) f L, fs[i]? = some f → done[i]? = some L → H0 f = none ∧ ∃ c, H f = some (LamO f L (cl L) c) ∧ H c = some (LamX.CodeO c L.qual)
  nd : fs.Nodup
/-- w.append(lambda: ..) -/
def AppSt (w : Str) (st : Stmt) (L : Lm) : Prop := ∃ npos apos lpos cpos pos, st = .Expr (.Call (.Attribute (.Name w npos) "append" apos) [.Lambda L.params L.body L.scope lpos] [] cpos) pos ∧ (apos.endLine == cpos.line) = true
section
variable {X : Cx}
theorem works_app {P c : Addr} {q w : Str} {wi : Nat} {pins : List (Addr × Obj)} {σ : L2.St} {H0 : Hp} {wa : Addr} {rp np : Pos} (TB : LamX.TabB X.base X.mg c P) (hcode : X.env.code = .ref c) (hw : X.N[wi]? = some w) (hv : Vis X.env.scope w) (hd1 : (w == ("__debug__" : Str)) = false) (hd2 : (w == ("__classdict__" : Str)) = false)
    (hσ : σ[wi]? = some (some (.ref wa))) : ∀ (as : List Stmt) (Ls done : List Lm) (fs : List Addr) (H : Hp) (s : Shared), as.length = Ls.length → (∀ (i : Nat) st L, as[i]? = some st → Ls[i]? = some L → AppSt w st L ∧ L.qual = q ∧ q = X.env.qual ++ "<lambda>" ∧ defaultsOf L.params X.env = ([], []) ∧ ∀ y ∈ L.scope.names, y.2 = .free → X.env.scope.names.lookup y.1 = some .cell ∨ X.env.scope.names.lookup y.1 = some .free) →
    done.length + Ls.length ≤ 1000 → L2.Inv X pins σ H s → WS H0 P q (fun L => cloFrom X.env.cells L.scope.names []) done wa fs H →
    wpAny (model X.prog X.w) X.A (execs (as ++ [.Return (some (.Name w np)) rp]) X.env) (fun fl s' => ∃ fs' H', fl = .ret (.ref wa) ∧ L2.Inv X pins σ H' s' ∧ WS H0 P q (fun L => cloFrom X.env.cells L.scope.names []) (done ++ Ls) wa fs' H') X.xe s
  | [], [], done, fs, H, s, _, _, _, I, ws => by
    refine wpAny_execs_cons (wpAny_Return_some (wpAny_mono ((pe_var hw hv hd1 hd2).run pins s σ H (fun v H' => v = .ref wa ∧ H' = H) I ⟨_, hσ, rfl, rfl⟩) ?_ fun _ _ h => h))
    rintro u s' ⟨v, H', I', rv, rfl, rfl⟩
    have rv : u = .ref wa := rv
    subst rv
    exact ⟨fs, H', rfl, I', by rw [List.append_nil]; exact ws⟩
  | [], _ :: _, _, _, _, _, hl, _, _, _, _ => by simp at hl
  | _ :: _, [], _, _, _, _, hl, _, _, _, _ => by simp at hl
  | st :: as, L :: Ls, done, fs, H, s, hl, ha, hn, I, ws => by
    obtain ⟨⟨npos, apos, lpos, cpos, pos, rfl, hline⟩, hq, hq2, hdf, hfree⟩ := ha 0 st L rfl rfl
    have hlam := pe_lam (L := L) (pos := lpos) TB hcode (hq.trans hq2) hdf hfree
    have hp := pe_bm (name := "append") (apos := apos) (cpos := cpos) PySem.F.plainAttrs_list PySem.F.slot_list_append PySem.F.type_list_append mt_append (pe_var (X := X) (pos := npos) hw hv hd1 hd2) (pa_cons hlam pa_nil rfl) rfl rfl hline rfl rfl
    have hps := ps_expr (pos := pos) hp rfl
    refine wpAny_execs_cons (wpAny_mono (hps.run pins s σ H ⟨fun σ' H' => σ' = σ ∧ ∃ fs', WS H0 P q (fun L => cloFrom X.env.cells L.scope.names []) (done ++ [L]) wa fs' H', fun _ _ => False, fun _ _ => False, fun _ _ => False⟩ I ?_) ?_ fun _ _ h => h)
    · refine ⟨_, hσ, .inl ⟨rfl, _, .inl (.inl ws.lst)⟩, by rw [hq]; exact ws.tab, fun f c' H1 m => ?_⟩
      have hwaP : wa ≠ P := fun z => by
        obtain ⟨ps, e, _⟩ := ws.tab
        rw [← z, ws.lst] at e; cases e
      have h1w : H1 wa = some (.lst (fs.map .ref)) := m.keep _ _ ws.lst hwaP
      have hf0 : H0 f = none := by
        cases e : H0 f with
        | none => rfl
        | some o =>
          by_cases z : f = P
          · obtain ⟨ps, e2, _⟩ := ws.tab
            have := m.new
            rw [z, e2] at this; cases this
          · have := ws.keep f o e z
            rw [m.new] at this; cases this
      have hfw : f ≠ wa := fun z => by have := m.new; rw [z, ws.lst] at this; cases this
      refine ⟨wa, fs.map .ref, .ref f, rfl, rfl, h1w, ?_, rfl, fs ++ [f], ?_⟩
      · have : fs.length ≤ 1000 := by rw [ws.len]; omega
        exact Nat.lt_of_le_of_lt (by rw [List.length_map]; exact this) (by decide)
      · have xl : XT H1 (upd H1 wa (.lst (fs.map .ref ++ [.ref f]))) := .lst h1w
        refine ⟨fun b o e hb => ?_, ws.ptbl, ?_, ws.newW, ?_, by rw [List.length_append, List.length_append, ws.len]; rfl, fun i f' L' e1 e2 => ?_, ?_⟩
        · rw [upd_ne fun z => by rw [z, ws.newW] at e; cases e]
          exact m.keep b o (ws.keep b o e hb) hb
        · rw [← hq]
          exact tabS_ext m.tab (fun ps e => by rw [upd_ne hwaP.symm]; exact e) xl.ext
        · rw [upd_same, List.map_append]; rfl
        · by_cases hi : i < fs.length
          · rw [List.getElem?_append_left hi] at e1
            rw [List.getElem?_append_left (by rw [← ws.len]; exact hi)] at e2
            obtain ⟨k1, c1, k2, k3⟩ := ws.clo i f' L' e1 e2
            have nP : ∀ {b φ}, H b = some (.ext φ) → b ≠ P := fun {b φ} e z => by
              obtain ⟨ps, e2, _⟩ := ws.tab
              rw [z, e2] at e; cases e
            exact ⟨k1, c1, xl.ext _ _ (m.keep _ _ k2 (nP k2)), xl.ext _ _ (m.keep _ _ k3 (nP k3))⟩
          · have h3 := (List.getElem?_eq_some_iff.mp e1).1
            rw [List.length_append, List.length_singleton] at h3
            have h4 : i = fs.length := by omega
            subst h4
            rw [List.getElem?_append_right (Nat.le_refl _), Nat.sub_self] at e1
            rw [ws.len, List.getElem?_append_right (Nat.le_refl _), Nat.sub_self] at e2
            cases e1; cases e2
            exact ⟨hf0, c', xl.ext _ _ m.lam, xl.ext _ _ m.code⟩
        · rw [List.nodup_append]
          refine ⟨ws.nd, by simp, fun a ha b hb => ?_⟩
          have : b = f := by simpa using hb
          rw [this]
          rintro rfl
          obtain ⟨i, hi, e⟩ := List.getElem_of_mem ha
          have e1 : fs[i]? = some a := by rw [List.getElem?_eq_getElem hi, e]
          obtain ⟨_, c1, k2, _⟩ := ws.clo i a _ e1 (List.getElem?_eq_getElem (by rw [← ws.len]; exact hi))
          rw [m.new] at k2; cases k2
    · intro fl s' h
      cases fl with
      | next =>
        obtain ⟨σ', H', I', rfl, fs', ws'⟩ := h
        have := works_app (rp := rp) (np := np) TB hcode hw hv hd1 hd2 hσ as Ls (done ++ [L]) fs' H' s' (by simpa using hl) (fun i st L' e1 e2 => ha (i + 1) st L' (by simpa using e1) (by simpa using e2)) (by rw [List.length_append, List.length_singleton]; have : (L :: Ls).length = Ls.length + 1 := rfl; omega) I' ws'
        rw [List.append_assoc] at this
        exact this
      | ret u => obtain ⟨_, _, _, _, _, h⟩ := h; exact h.elim
      | brk => obtain ⟨_, _, _, h⟩ := h; exact h.elim
      | cont => obtain ⟨_, _, _, h⟩ := h; exact h.elim
end
end Cut
/-! A def that makes a list of lambdas: its promise. -/
namespace Cut
open PySem PySem.Spec PyProof.Rows L2
variable [Tbl]
/-- such a def: its parameters and then the list's name; of each lambda which parameters it takes along, and our text -/
structure Wk where
  name : Str
  st : Stmt
  N : List Str
  lams : List (List Nat × Ex)
def Wk.np (w : Wk) : Nat := w.N.length - 1
def Wk.ps (w : Wk) : List Str := w.N.take w.np
def Wk.q (w : Wk) : Str := w.name ++ ".<locals>." ++ "<lambda>"
def lamEx : Stmt → Option (Arguments × Expr × Scope)
  | .Expr (.Call (.Attribute _ _ _) [.Lambda ps b sc _] [] _) _ => some (ps, b, sc)
  | _ => none
def Wk.apps (w : Wk) : List Stmt := ((defBody w.st).drop 1).dropLast
def Wk.lm (w : Wk) (i : Nat) : Option Lm := match w.lams[i]?, (w.apps[i]?).bind lamEx with
  | some (js, _), some (ps, b, sc) => some ⟨w.q, ps, b, sc, js.filterMap (w.N[·]?)⟩
  | _, _ => none
/-- what is run: the def at n0, its lambdas behind -/
def Wk.ls (w : Wk) (n0 : Nat) : List (Nat × List Nat) := (List.range w.lams.length).zipWith (fun i l => (n0 + 1 + i, l.1)) w.lams
def Wk.fd (w : Wk) (n0 : Nat) : Fd := ⟨w.np, w.np, .cons (.lams (w.ls n0)) .nil⟩
def Wk.fds (w : Wk) : List Fd := w.lams.map fun l => ⟨l.1.length, l.1.length, .cons (.ret l.2) .nil⟩
def noArgs : Arguments → Bool
  | ⟨[], [], none, [], [], none, []⟩ => true
  | _ => false
def isRet (x : Str) : Option Stmt → Bool
  | some (.Return (some (.Name y _)) _) => y == x
  | _ => false
def isApp (x : Str) : Stmt → Bool
  | .Expr (.Call (.Attribute (.Name y _) nm apos) [.Lambda _ _ _ _] [] cpos) _ => y == x && (nm == ("append" : Str) && apos.endLine == cpos.line)
  | _ => false
def Wk.ckLm (Γ : Gx) (w : Wk) (sc : Scope) (i : Nat) : Bool := match w.lams[i]?, w.lm i with
  | some (js, e), some L => noArgs L.params && (NdefX.nscB L.fr [] L.fr L.scope && ((L.scope.names.all fun y => !(y.2 == .free) || decide (sc.names.lookup y.1 = some .cell)) && (decide (L.fr.length = js.length) && ((js.all fun j => decide (j < w.np)) && ckE Γ L.fr false L.scope e L.body))))
  | _, _ => false
def headOk : List Stmt → Option Str
  | .Assign [.Name x _] (.List [] _) _ :: _ => some x
  | _ => none
def Wk.ck (Γ : Gx) (w : Wk) : Bool :=
  decide ((defScope w.st).kind = .function) && (!(defScope w.st).isCoroutine && (!(defScope w.st).isGenerator && (decide w.N.Nodup && (decide (0 < w.N.length) && ((w.ps.all fun x => decide ((defScope w.st).names.lookup x = some .local) || decide ((defScope w.st).names.lookup x = some .cell)) &&
    (((defScope w.st).names.all fun y => !(y.2 == .free)) && (((defScope w.st).names.all fun y => !(y.2 == .cell) || (decide (y.1 ∈ w.ps) && decide ((defScope w.st).names.lookup y.1 = some .cell))) && (match headOk (defBody w.st) with
      | some x => decide (w.N[w.np]? = some x) && (decide ((defScope w.st).names.lookup x = some .local) && (!(x == dbg) && (!(x == cdc) && (isRet x ((defBody w.st).drop 1).getLast? && (decide (w.apps.length = w.lams.length) && (decide (w.lams.length ≤ 1000) && ((w.apps.all (isApp x)) && (List.range w.lams.length).all (w.ckLm Γ (defScope w.st)))))))))
      | none => false))))))))
section
variable {Γ : Gx} {w : Wk}
structure WkOk (Γ : Gx) (w : Wk) (x : Str) : Prop where
  sc : FnScope w.N w.ps (defScope w.st)
  len : w.ps.length = w.np
  cell : ∀ y ∈ (defScope w.st).names, y.2 = .cell → y.1 ∈ w.ps ∧ (defScope w.st).names.lookup y.1 = some .cell
  body : ∃ (p2 p3 p4 rp np : Pos), defBody w.st = .Assign [.Name x p2] (.List [] p3) p4 :: (w.apps ++ [.Return (some (.Name x np)) rp])
  at_ : w.N[w.np]? = some x
  loc : (defScope w.st).names.lookup x = some .local
  d1 : (x == ("__debug__" : Str)) = false
  d2 : (x == ("__classdict__" : Str)) = false
  n : w.apps.length = w.lams.length
  few : w.lams.length ≤ 1000
  app : ∀ s ∈ w.apps, isApp x s = true
  lam : ∀ i, i < w.lams.length → w.ckLm Γ (defScope w.st) i = true
theorem Wk.ok (h : w.ck Γ = true) : ∃ x, WkOk Γ w x := by
  unfold Wk.ck at h
  simp only [Bool.and_eq_true, Bool.or_eq_true, Bool.not_eq_true', decide_eq_true_eq, List.all_eq_true] at h
  obtain ⟨h1, h2, h3, h4, h5, h6, h7, h8, h9⟩ := h
  have hl : w.ps.length = w.np := by unfold Wk.ps Wk.np; rw [List.length_take]; omega
  cases hx : headOk (defBody w.st) with
  | none => rw [hx] at h9; cases h9
  | some x =>
    rw [hx] at h9
    simp only [Bool.and_eq_true, Bool.not_eq_true', decide_eq_true_eq, List.all_eq_true] at h9
    obtain ⟨k1, k2, k3, k4, k5, k6, k7, k8, k9⟩ := h9
    refine ⟨x, ⟨⟨h1, h2, h3, h4, by rw [hl]; rfl, h6, fun y hy e => ?_⟩, hl, fun y hy e => ?_, ?_, k1, k2, k3, k4, k6, k7, k8, fun i hi => k9 i (List.mem_range.mpr hi)⟩⟩
    · have := h7 y hy
      rw [e] at this; cases this
    · rcases h8 y hy with q | q
      · rw [e] at q; cases q
      · exact q
    · unfold Wk.apps
      generalize defBody w.st = B at hx k5
      unfold headOk at hx
      split at hx
      · rename_i x' p2 p3 p4 r
        cases hx
        have k5 : isRet x (r.getLast?) = true := k5
        show ∃ _ _ _ _ _, _ = _ :: (r.dropLast ++ _)
        cases hr : r.getLast? with
        | none => rw [hr] at k5; cases k5
        | some z =>
          rw [hr] at k5
          unfold isRet at k5
          split at k5
          · rename_i y np rp e
            cases e
            have := beq_iff_eq.mp k5
            subst this
            refine ⟨p2, p3, p4, rp, np, ?_⟩
            congr 1
            have hne : r ≠ [] := fun z => by rw [z] at hr; cases hr
            have e2 := List.dropLast_concat_getLast hne
            rw [List.getLast?_eq_some_getLast hne] at hr
            rw [Option.some.inj hr] at e2
            exact e2.symm
          · cases k5
      · cases hx
end
/-! what is left behind the call -/
section
variable {K : PySem.W.Frag} {H H2 : Hp} {μ μ' : List Addr} {G : Store}
theorem RC.pre {fz : Bool} {a : Addr} (p : μ <+: μ') : ∀ {c : Cell}, RC K H μ fz a c → RC K H μ' fz a c
  | .lst _, ⟨vs, r, f1, f2⟩ => ⟨vs, r.mono (.refl _) p, f1, f2⟩
  | .dic _, ⟨f0, ws, rk, h⟩ => ⟨f0, ws, rk.mono (.refl _) p, h⟩
  | .clo _ _, r => ⟨r.1, r.2.mono (.refl _) p⟩
  | .dead, r => r
  | .ins _ _, r => r
theorem RG.more (g : RG K H μ G) (x : XT H H2) (hk : ∀ (n : Nat) (a : Addr) (o : HO), μ[n]? = some a → Own o → H a = some o → H2 a = some o) {as : List Addr} {cs : List Cell} (hl : as.length = cs.length) (nd : as.Nodup) (nw : ∀ a ∈ as, H a = none)
    (hc : ∀ (i : Nat) (c : Cell) (a : Addr), cs[i]? = some c → as[i]? = some a → RC K H2 (μ ++ as) false a c) : RG K H2 (μ ++ as) { G with cs := G.cs ++ cs } where
  tab := fun P h => x.tbl P (g.tab P h)
  lam := fun P h => x.lam P h (g.lam P h)
  len := by rw [List.length_append, g.len, hl]; exact (List.length_append).symm
  lim := by have := g.lim; show G.lim ≤ (G.cs ++ cs).length; rw [List.length_append]; omega
  nd := fun i j b hi hj h1 h2 => by
    have gl := g.len
    have hi' : G.lim ≤ i := hi
    have hj' : G.lim ≤ j := hj
    by_cases hi : i < μ.length <;> by_cases hj : j < μ.length
    · rw [List.getElem?_append_left hi] at h1
      rw [List.getElem?_append_left hj] at h2
      exact g.nd i j b hi' hj' h1 h2
    · rw [List.getElem?_append_left hi] at h1
      rw [List.getElem?_append_right (Nat.le_of_not_lt hj)] at h2
      obtain ⟨o, e⟩ := g.own hi' h1
      rw [nw b (List.mem_of_getElem? h2)] at e; cases e
    · rw [List.getElem?_append_right (Nat.le_of_not_lt hi)] at h1
      rw [List.getElem?_append_left hj] at h2
      obtain ⟨o, e⟩ := g.own hj' h2
      rw [nw b (List.mem_of_getElem? h1)] at e; cases e
    · rw [List.getElem?_append_right (Nat.le_of_not_lt hi)] at h1
      rw [List.getElem?_append_right (Nat.le_of_not_lt hj)] at h2
      have := (List.getElem?_inj (List.getElem?_eq_some_iff.mp h1).1 nd).mp (h1.trans h2.symm)
      omega
  cell := fun n c a h1 h2 => by
    have gl := g.len
    have glim := g.lim
    have h1 : (G.cs ++ cs)[n]? = some c := h1
    by_cases hn : n < μ.length
    · rw [List.getElem?_append_left (by omega)] at h1
      rw [List.getElem?_append_left hn] at h2
      exact ((g.ext x hk).cell n c a h1 h2).pre (List.prefix_append _ _)
    · rw [List.getElem?_append_right (by omega)] at h1
      rw [List.getElem?_append_right (Nat.le_of_not_lt hn)] at h2
      have q : decide (n < G.lim) = false := decide_eq_false (by omega)
      show RC K H2 (μ ++ as) (decide (n < G.lim)) a c
      rw [q]
      exact hc _ c a h1 (by rw [← gl]; exact h2)
end
def Holds (cells : List (Str × Addr)) (ps : List Str) (vs : List V) (b : Addr) (v : V) : Prop := ∃ (i : Nat) (x : Str), ps[i]? = some x ∧ vs[i]? = some v ∧ cells.lookup x = some b
open Classical in
noncomputable def cellH (cells : List (Str × Addr)) (ps : List Str) (vs : List V) (H' : Hp) : Hp := fun b => if h : ∃ v, Holds cells ps vs b v then some (CellO b h.choose) else H' b
section
variable {cells : List (Str × Addr)} {ps : List Str} {vs : List V} {H' : Hp}
theorem Holds.inj (nd : ps.Nodup) (hi : ∀ x y c, cells.lookup x = some c → cells.lookup y = some c → x = y) {b : Addr} {v v' : V} (h : Holds cells ps vs b v) (h' : Holds cells ps vs b v') : v = v' := by
  obtain ⟨i, x, h1, h2, h3⟩ := h
  obtain ⟨j, y, k1, k2, k3⟩ := h'
  have := hi x y b h3 k3
  subst this
  have := (List.getElem?_inj (List.getElem?_eq_some_iff.mp h1).1 nd).mp (h1.trans k1.symm)
  subst this
  rw [h2] at k2; cases k2; rfl
theorem cellH_is (nd : ps.Nodup) (hi : ∀ x y c, cells.lookup x = some c → cells.lookup y = some c → x = y) {b : Addr} {v : V} (h : Holds cells ps vs b v) : cellH cells ps vs H' b = some (CellO b v) := by
  have hx : ∃ v, Holds cells ps vs b v := ⟨v, h⟩
  unfold cellH
  rw [dif_pos hx]
  rw [hx.choose_spec.inj nd hi h]
theorem cellH_no {b : Addr} (h : ∀ x, cells.lookup x ≠ some b) : cellH cells ps vs H' b = H' b := by
  unfold cellH
  exact dif_neg fun ⟨v, i, x, _, _, e⟩ => h x e
theorem cellH_or (b : Addr) : (∃ v, Holds cells ps vs b v ∧ cellH cells ps vs H' b = some (CellO b v)) ∨ cellH cells ps vs H' b = H' b := by
  by_cases hx : ∃ v, Holds cells ps vs b v
  · refine .inl ⟨hx.choose, hx.choose_spec, ?_⟩
    unfold cellH
    rw [dif_pos hx]
  · refine .inr ?_
    unfold cellH
    rw [dif_neg hx]
end
theorem lamsGo_at {ρ : Env} : ∀ {ls : List (Nat × List Nat)} {acc ds' : List D} {G G1 : Store}, lamsGo ρ ls acc G = some (ds', G1) → ∃ clos, G1 = { G with cs := G.cs ++ clos } ∧ ds' = acc ++ (List.range ls.length).map (fun i => .ref (G.cs.length + i)) ∧ clos.length = ls.length ∧
    ∀ (i f : Nat) (js : List Nat), ls[i]? = some (f, js) → ∃ es, clos[i]? = some (.clo f es) ∧ (js.mapM fun j => (ρ[j]?).join) = some es
  | [], acc, ds', G, G1, h => by
    cases h
    exact ⟨[], by simp, by simp, rfl, fun i f js e => by simp at e⟩
  | (f, js) :: r, acc, ds', G, G1, h => by
    unfold lamsGo at h
    cases hm : js.mapM fun j => (ρ[j]?).join with
    | none => rw [hm] at h; cases h
    | some es =>
      rw [hm] at h
      obtain ⟨clos, rfl, rfl, hl, hc⟩ := lamsGo_at h
      refine ⟨.clo f es :: clos, ?_, ?_, by rw [List.length_cons, List.length_cons, hl], fun i g js' e => ?_⟩
      · show ({ lim := _, cs := (G.cs ++ [_]) ++ clos } : Store) = _
        rw [List.append_assoc]; rfl
      · have hs : (G.new (.clo f es)).cs.length = G.cs.length + 1 := by show (G.cs ++ [_]).length = _; rw [List.length_append]; rfl
        rw [hs, List.length_cons, List.range_succ_eq_map, List.map_cons, List.map_map, List.append_assoc]
        congr 2
        show _ :: _ = _ :: _
        congr 1
        refine List.map_congr_left fun i _ => ?_
        show D.ref _ = D.ref _
        congr 1
        show G.cs.length + 1 + i = G.cs.length + (i + 1)
        omega
      · cases i with
        | zero => cases e; exact ⟨es, rfl, hm⟩
        | succ i => exact hc i g js' e
theorem caught {K : PySem.W.Frag} {H : Hp} {μ : List Addr} {ds : List D} {vs : List V} (r : RDs K H μ ds vs) : ∀ {js : List Nat} {es : List D}, (js.mapM fun j => ((ds.map some)[j]?).join) = some es →
    es.length = js.length ∧ ∃ ws, RDs K H μ es ws ∧ ∀ (t j : Nat), js[t]? = some j → ∃ v, vs[j]? = some v ∧ ws[t]? = some v
  | [], es, h => by
    cases h
    exact ⟨rfl, [], rfl, fun t j e => by simp at e⟩
  | j :: js, es, h => by
    rw [List.mapM_cons] at h
    cases hd : ((ds.map some)[j]?).join with
    | none => rw [hd] at h; cases h
    | some d =>
      rw [hd] at h
      cases hm : js.mapM fun j => ((ds.map some)[j]?).join with
      | none => rw [hm] at h; cases h
      | some es' =>
        rw [hm] at h
        cases h
        obtain ⟨hl, ws, rw', hw⟩ := caught r hm
        rw [List.getElem?_map] at hd
        have hd' : ds[j]? = some d := by
          cases q : ds[j]? with
          | none => rw [q] at hd; cases hd
          | some d' => rw [q] at hd; cases hd; rfl
        obtain ⟨v, hv, rv⟩ := r.get hd'
        refine ⟨by rw [List.length_cons, List.length_cons, hl], v :: ws, ⟨v, ws, rfl, rv, rw'⟩, fun t j' e => ?_⟩
        cases t with
        | zero => cases e; exact ⟨v, hv, rfl⟩
        | succ t => exact hw t j' e
theorem all_some {α : Type} {f : Nat → Option α} : ∀ {n : Nat}, (∀ i, i < n → (f i).isSome = true) → ∃ Ls : List α, Ls.length = n ∧ ∀ i, i < n → Ls[i]? = f i
  | 0, _ => ⟨[], rfl, fun i h => absurd h (Nat.not_lt_zero _)⟩
  | n + 1, h => by
    obtain ⟨Ls, h1, h2⟩ := all_some (n := n) fun i hi => h i (Nat.lt_succ_of_lt hi)
    obtain ⟨a, ha⟩ := Option.isSome_iff_exists.mp (h n (Nat.lt_succ_self _))
    refine ⟨Ls ++ [a], by rw [List.length_append, h1]; rfl, fun i hi => ?_⟩
    by_cases hi' : i < n
    · rw [List.getElem?_append_left (by rw [h1]; exact hi')]; exact h2 i hi'
    · have : i = n := by omega
      subst this
      rw [List.getElem?_append_right (by rw [h1]; exact Nat.le_refl _), h1, Nat.sub_self, ha]; rfl
end Cut
/-! A def that makes a list of lambdas: it keeps its promise. -/
namespace Cut
open PySem PySem.Spec PyProof.Rows L2
variable [Tbl]
section
variable {K : PySem.W.Frag} {H H' : Hp} {μ : List Addr} {G : Store} {Γ : Gx} {w : Wk} {x : Str} {n0 : Nat}
theorem cloFrom_look {cells : List (Str × Addr)} {names : List (Str × NameKind)} {y : Str} {b : Addr} (h : (cloFrom cells names []).lookup y = some b) (hf : ∀ z ∈ names, z.2 = .free → ∃ c, cells.lookup z.1 = some c) : cells.lookup y = some b := by
  have hm := PySem.mem_of_lookup h
  rcases cloFrom_mem hm with z | ⟨h1, h2⟩
  · cases z
  · obtain ⟨c, hc⟩ := hf _ h1 rfl
    rw [h2, hc]; rfl
theorem cloFrom_of {cells : List (Str × Addr)} {names : List (Str × NameKind)} {y : Str} {b : Addr} (h : (y, .free) ∈ names) (hc : cells.lookup y = some b) (hf : ∀ z ∈ names, z.2 = .free → ∃ c, cells.lookup z.1 = some c) : (cloFrom cells names []).lookup y = some b := by
  obtain ⟨c', e⟩ := mem_lookup (cloFrom_has (cells := cells) (acc := []) h)
  have := cloFrom_look e hf
  rw [hc] at this; cases this
  exact e
/-- the heap behind the call -/
theorem works_heap (O : WkOk Γ w x) {cells : List (Str × Addr)} {ds : List D} {vs : List V} {wa Pt : Addr} {fs : List Addr} {Ls : List Lm} (g : RG K H μ G) (rds : RDs K H μ ds vs) (hlen : vs.length = w.ps.length)
    (ws : WS H Pt w.q (fun L => cloFrom cells L.scope.names []) Ls wa fs H') (hu : ∀ p ∈ Tbl.lt, p.1 = Pt → p.2 = w.q)
    (hinj : ∀ x y c, cells.lookup x = some c → cells.lookup y = some c → x = y) (hfree : ∀ x c, cells.lookup x = some c → H' c = none) (hfree0 : ∀ x c, cells.lookup x = some c → H c = none) (hcell : ∀ x, (defScope w.st).names.lookup x = some .cell → ∃ c, cells.lookup x = some c) (hcs : ∀ x c, cells.lookup x = some c → x ∈ w.ps)
    (hl : Ls.length = w.lams.length) (hL : ∀ i, i < w.lams.length → Ls[i]? = w.lm i) (hlm : ∀ i, i < w.lams.length → Tbl.lm (n0 + 1 + i) = w.lm i) {ρ : Env} (hρ : ρ = ds.map some) {ds' : List D} {G1 : Store} (hgo : lamsGo ρ (w.ls n0) [] G = some (ds', G1)) :
    XT H (cellH cells w.ps vs H') ∧ RG K (cellH cells w.ps vs H') (μ ++ (fs ++ [wa])) (G1.new (.lst ds')) ∧ (μ ++ (fs ++ [wa]))[G1.cs.length]? = some wa := by
  have ndP : w.ps.Nodup := O.sc.nd.sublist (List.take_sublist _ _)
  have kp : ∀ {b o}, H' b = some o → cellH cells w.ps vs H' b = some o := fun {b o} e => by
    rw [cellH_no fun z hz => by rw [hfree z b hz] at e; cases e]; exact e
  have keep : ∀ {b o}, H b = some o → (∀ qs, o ≠ .tbl qs) → cellH cells w.ps vs H' b = some o := fun {b o} e k => kp (ws.keep b o e fun z => by
    obtain ⟨ps, hP⟩ := ws.ptbl
    rw [z, hP] at e; cases e; exact k _ rfl)
  have ext : ∀ a φ, H a = some (.ext φ) → cellH cells w.ps vs H' a = some (.ext φ) := fun a φ e => keep e (fun _ z => nomatch z)
  have x1 : XT H (cellH cells w.ps vs H') := by
    refine ⟨fun b hb => ?_, fun a xs e => keep e (fun _ z => nomatch z), fun a o u e => keep e (fun _ z => nomatch z), ext, fun a xs e => keep e (fun _ z => nomatch z), fun p hp t => ?_⟩
    · by_cases z : b = Pt
      · subst z
        obtain ⟨qs, e, t, _⟩ := ws.tab
        exact ⟨qs, kp e, t⟩
      · obtain ⟨qs, e, t⟩ := hb
        exact ⟨qs, kp (ws.keep b _ e z), t⟩
    · by_cases z : p.1 = Pt
      · rw [z, hu p hp z]
        exact tabS_ext ws.tab (fun _ e => kp e) fun _ _ e => kp e
      · obtain ⟨qs, e, t, k⟩ := t
        exact ⟨qs, kp (ws.keep _ _ e z), t, fun pos cv q => by
          obtain ⟨c, e1, e2⟩ := k pos cv q
          exact ⟨c, e1, ext _ _ e2⟩⟩
  obtain ⟨clos, hG1, hds', hcl, hcat⟩ := lamsGo_at hgo
  have hlsl : (w.ls n0).length = w.lams.length := by unfold Wk.ls; simp
  have hfs : fs.length = w.lams.length := by rw [ws.len, hl]
  have hwaf : ∀ i f, fs[i]? = some f → f ≠ wa := fun i f e z => by
    have hi := (List.getElem?_eq_some_iff.mp e).1
    obtain ⟨_, c, k2, _⟩ := ws.clo i f _ e (List.getElem?_eq_getElem (by rw [← ws.len]; exact hi))
    rw [z, ws.lst] at k2; cases k2
  have hG : G1.new (.lst ds') = { G with cs := G.cs ++ (clos ++ [.lst ds']) } := by
    rw [hG1]
    show ({ lim := _, cs := (G.cs ++ clos) ++ [_] } : Store) = _
    rw [List.append_assoc]
  have hgl := g.len
  refine ⟨x1, ?_, ?_⟩
  · rw [hG]
    refine g.more x1 (fun n a o hn ho e => keep e ?_) (by rw [List.length_append, List.length_append, hcl, hlsl, hfs]; rfl) ?_ (fun a ha => ?_) fun i c a hc ha => ?_
    · rintro qs rfl
      rcases ho with ⟨_, z⟩ | ⟨_, z⟩ <;> cases z
    · rw [List.nodup_append]
      refine ⟨ws.nd, by simp, fun a ha b hb => ?_⟩
      have : b = wa := by simpa using hb
      rw [this]
      obtain ⟨i, hi⟩ := List.mem_iff_getElem?.mp ha
      exact hwaf i a hi
    · rcases List.mem_append.mp ha with ha | ha
      · obtain ⟨i, hi⟩ := List.mem_iff_getElem?.mp ha
        have hi' := (List.getElem?_eq_some_iff.mp hi).1
        exact (ws.clo i a _ hi (List.getElem?_eq_getElem (by rw [← ws.len]; exact hi'))).1
      · have : a = wa := by simpa using ha
        rw [this]; exact ws.newW
    · by_cases hi : i < clos.length
      · rw [List.getElem?_append_left hi] at hc
        rw [List.getElem?_append_left (by rw [hfs, ← hlsl, ← hcl]; exact hi)] at ha
        have hi2 : i < w.lams.length := by rw [← hlsl, ← hcl]; exact hi
        have hck := O.lam i hi2
        unfold Wk.ckLm at hck
        cases hwl : w.lams[i]? with
        | none => rw [hwl] at hck; cases hck
        | some jse =>
          obtain ⟨js, e⟩ := jse
          cases hwm : w.lm i with
          | none => rw [hwl, hwm] at hck; cases hck
          | some L =>
            rw [hwl, hwm] at hck
            simp only [Bool.and_eq_true, Bool.or_eq_true, Bool.not_eq_true', decide_eq_true_eq, List.all_eq_true] at hck
            obtain ⟨_, hns, hfr, hfl, hjs, _⟩ := hck
            have S := NdefX.nscope_by hns
            have hLi : Ls[i]? = some L := by rw [hL i hi2, hwm]
            have hls : (w.ls n0)[i]? = some (n0 + 1 + i, js) := by
              unfold Wk.ls
              rw [List.getElem?_zipWith, List.getElem?_range hi2, hwl]
            obtain ⟨es, hes, hm⟩ := hcat i _ js hls
            rw [hc] at hes
            cases hes
            rw [hρ] at hm
            obtain ⟨hel, us, rus, hus⟩ := caught rds hm
            obtain ⟨_, c, k2, k3⟩ := ws.clo i a L ha hLi
            have hLfr : L.fr = js.filterMap (w.N[·]?) := by
              unfold Wk.lm at hwm
              rw [hwl] at hwm
              split at hwm
              · rename_i e1 _
                cases e1
                cases hwm; rfl
              · cases hwm
            have hf : ∀ z ∈ L.scope.names, z.2 = .free → ∃ c, cells.lookup z.1 = some c := fun z hz ez => by
              rcases hfr z hz with q | q
              · rw [ez] at q; cases q
              · exact hcell _ q
            have frAt : ∀ t j, js[t]? = some j → ∃ y, w.N[j]? = some y ∧ L.fr[t]? = some y := fun t j ht => by
              have hall : ∀ j ∈ js, ∃ y, w.N[j]? = some y := fun j hj => by
                have := hjs j hj
                exact ⟨_, List.getElem?_eq_getElem (by unfold Wk.np at this; omega)⟩
              have gen : ∀ (js : List Nat) (t j : Nat), (∀ j ∈ js, ∃ y, w.N[j]? = some y) → js[t]? = some j → ∃ y, w.N[j]? = some y ∧ (js.filterMap (w.N[·]?))[t]? = some y := by
                intro js
                induction js with
                | nil => intro t j _ h; simp at h
                | cons j0 js ih =>
                  intro t j hall h
                  obtain ⟨y0, hy0⟩ := hall j0 List.mem_cons_self
                  rw [List.filterMap_cons, hy0]
                  cases t with
                  | zero => cases h; exact ⟨y0, hy0, rfl⟩
                  | succ t => exact ih t j (fun j hj => hall j (List.mem_cons_of_mem _ hj)) h
              rw [hLfr]
              exact gen js t j hall ht
            refine ⟨rfl, L, _, c, us, by rw [hlm i hi2, hwm], kp k2, kp k3, rus.mono x1 (List.prefix_append _ _), by rw [hel]; exact hfl, fun y z b h1 h2 => ?_, fun y b h1 => ?_, fun t y ht => ?_⟩
            · exact hinj y z b (cloFrom_look h1 hf) (cloFrom_look h2 hf)
            · have hy := cloFrom_look h1 hf
              have hyp := hcs y b hy
              obtain ⟨j, hj⟩ := List.mem_iff_getElem?.mp hyp
              have hjl := (List.getElem?_eq_some_iff.mp hj).1
              exact ⟨_, cellH_is ndP hinj ⟨j, y, hj, List.getElem?_eq_getElem (by rw [hlen]; exact hjl), hy⟩⟩
            · have htl := (List.getElem?_eq_some_iff.mp ht).1
              obtain ⟨y', h1, h2⟩ := frAt t _ (List.getElem?_eq_getElem (by rw [← hfl]; exact htl))
              rw [ht] at h2; cases h2
              obtain ⟨v, h3, h4⟩ := hus t _ (List.getElem?_eq_getElem (by rw [← hfl]; exact htl))
              have hmem : (y, NameKind.free) ∈ L.scope.names := PySem.mem_of_lookup (S.frk y (List.mem_of_getElem? ht))
              obtain ⟨b, hb⟩ := hf _ hmem rfl
              refine ⟨b, v, cloFrom_of hmem hb hf, h4, cellH_is ndP hinj ⟨_, y, ?_, h3, hb⟩⟩
              have hjb := hjs _ (List.getElem_mem (h := by rw [← hfl]; exact htl))
              unfold Wk.ps
              rw [List.getElem?_take_of_lt hjb]; exact h1
      · have hic := (List.getElem?_eq_some_iff.mp hc).1
        rw [List.length_append, List.length_singleton] at hic
        have hi3 : i = clos.length := by omega
        subst hi3
        rw [List.getElem?_append_right (Nat.le_refl _), Nat.sub_self] at hc
        rw [List.getElem?_append_right (by rw [hfs, hcl, hlsl]; exact Nat.le_refl _), hfs, hcl, hlsl, Nat.sub_self] at ha
        cases hc; cases ha
        refine ⟨fs.map .ref, ?_, (fun z => nomatch z), fun _ => kp ws.lst⟩
        rw [hds', List.nil_append, hlsl]
        have gen : ∀ (n k : Nat) (fs : List Addr) (μ' : List Addr), fs.length = n → (∀ i f, fs[i]? = some f → μ'[k + i]? = some f) → RDs K (cellH cells w.ps vs H') μ' ((List.range n).map fun i => .ref (k + i)) (fs.map .ref) := by
          intro n
          induction n with
          | zero => intro k fs μ' h _; rw [List.eq_nil_of_length_eq_zero h]; rfl
          | succ n ih =>
            intro k fs μ' h hk
            cases fs with
            | nil => cases h
            | cons f fs =>
              rw [List.range_succ_eq_map, List.map_cons, List.map_cons, List.map_map]
              refine ⟨_, _, rfl, ⟨f, rfl, hk 0 f rfl⟩, ?_⟩
              have := ih (k + 1) fs μ' (by simpa using h) fun i g hg => by
                have := hk (i + 1) g hg
                rwa [show k + 1 + i = k + (i + 1) by omega]
              refine (congrArg (fun l => RDs K (cellH cells w.ps vs H') μ' l _) (List.map_congr_left fun i _ => ?_)).mp this
              show D.ref _ = D.ref _
              congr 1; omega
        refine gen w.lams.length G.cs.length fs _ hfs fun i f hf => ?_
        have hil := (List.getElem?_eq_some_iff.mp hf).1
        rw [List.getElem?_append_right (by omega), hgl, Nat.add_sub_cancel_left, List.getElem?_append_left hil]; exact hf
  · have : G1.cs.length = μ.length + fs.length := by
      rw [hG1]
      show (G.cs ++ clos).length = _
      rw [List.length_append, hcl, hlsl, hfs, hgl]
    rw [this, List.getElem?_append_right (by omega), Nat.add_sub_cancel_left, List.getElem?_append_right (Nat.le_refl _), Nat.sub_self]; rfl
end
theorem cellsFrom_in : ∀ {names : List (Str × NameKind)} {n : Nat} {acc : List (Str × Addr)} {x : Str} {c : Addr}, (x, c) ∈ cellsFrom n names acc → (x, c) ∈ acc ∨ (x, .cell) ∈ names
  | [], _, _, _, _, h => .inl h
  | (m, k) :: r, n, acc, x, c, h => by
    unfold cellsFrom at h
    split at h
    · rename_i hk
      have hk : k = .cell := by simpa using hk
      rcases cellsFrom_in h with h | h
      · rcases List.mem_cons.mp h with e | h
        · cases e; exact .inr (hk ▸ List.mem_cons_self)
        · exact .inl h
      · exact .inr (List.mem_cons_of_mem _ h)
    · rcases cellsFrom_in h with h | h
      · exact .inl h
      · exact .inr (List.mem_cons_of_mem _ h)
theorem isApp_ok {x : Str} {s : Stmt} (h : isApp x s = true) : ∃ L : Arguments × Expr × Scope, lamEx s = some L ∧ ∃ npos apos lpos cpos pos, s = .Expr (.Call (.Attribute (.Name x npos) "append" apos) [.Lambda L.1 L.2.1 L.2.2 lpos] [] cpos) pos ∧ (apos.endLine == cpos.line) = true := by
  unfold isApp at h
  split at h
  · simp only [Bool.and_eq_true] at h
    obtain ⟨h1, h2, h3⟩ := h
    have h1 := beq_iff_eq.mp h1
    have h2 := beq_iff_eq.mp h2
    subst h1; subst h2
    exact ⟨(_, _, _), rfl, _, _, _, _, _, rfl, h3⟩
  · cases h
theorem noArgs_ok {ps : Arguments} (h : noArgs ps = true) : ps = ⟨[], [], none, [], [], none, []⟩ := by
  unfold noArgs at h
  split at h
  · rfl
  · cases h
theorem works_fn {P : Program} {wd : World} {K : PySem.W.Frag} {mg : Str → Option Value} {base : Heap} {ξ : XRel} (hξ : XCut ξ) {Γ : Gx} {w : Wk} {x : Str} {fa : Addr} {fd : FuncData} {T : List Fd} {n0 k : Nat} (O : WkOk Γ w x) (hT : T[n0]? = some (w.fd n0))
    (F : FunD K w.name w.name (defArgs w.st) (defBody w.st) (defScope w.st) [] [] fa fd) {c Pt : Addr} (hcd : fd.code = .ref c) (TB : LamX.TabB base mg c Pt) (hlt : (Pt, w.q) ∈ Tbl.lt) (hu : ∀ p ∈ Tbl.lt, p.1 = Pt → p.2 = w.q)
    (hlm : ∀ i, i < w.lams.length → Tbl.lm (n0 + 1 + i) = w.lm i) : FnOk P wd K mg base (L2.CX P wd) 1 fa fd w.ps (spR K ξ w.ps.length (run T (k + 1) n0)) := by
  obtain ⟨oc, od, dV, kV, doc, pm, an, cdv, ct, osl, rfl, lk, hcd', _, _⟩ := F.ex
  have hcd : cdv = .ref c := hcd
  subst hcd
  have S := O.sc
  refine ⟨fun vs H Q E h => h.1, fun A outer s H args us vs Q E hr e0 hb r hsp => ?_⟩
  obtain ⟨hlen, ds, G, μ, rg, rds, h⟩ := hsp
  have KX : K.In s.heap := e0.mod.kin.keeps fun b o e => (e0.bs b o e).1
  have lim : s.heap.NoLimit := e0.mod.nolimit.keeps fun b o e => (e0.bs b o e).1
  have hkind : ∀ y ∈ w.ps.zip us, (defScope w.st).names.lookup y.1 = some .local ∨ ((defScope w.st).names.lookup y.1 = some .cell ∧ ((cellsFrom (s.heap.objs.size + 1) (defScope w.st).names []).lookup y.1).isSome = true) := fun ⟨n, v⟩ hy => by
    rcases S.par n (List.of_mem_zip hy).1 with q | q
    · exact .inl q
    · exact .inr ⟨q, PySem.W.cellsFrom_some _ _ _ (.inl q)⟩
  refine codeAny_call_function hr.depth (KX _ _ lk) rfl S.co S.gen rfl (PySem.W.codeRec_of KX hcd') (hb _ _ _ _ ?_)
  refine wpAny_newFunctionEnv_cells S.kind hkind fun env he s1 xx => ?_
  subst he
  refine ⟨lim.keeps xx.toInCall.keep, codeAny_func ?_⟩
  have hlds : ds.length = w.np := by rw [← rds.len, hlen, O.len]
  have post : ResP K ξ H μ Q E (finish (exs (run T k) (w.fd n0).body (Cut.start w.np ds) G)) := by
    unfold run at h
    rw [hT] at h
    have e : ds.length = (w.fd n0).ps := hlds
    simp only [if_pos e] at h
    exact gc_ok hξ rg h
  have hst : Cut.start w.np ds = ds.map some := by
    unfold Cut.start
    rw [hlds, Nat.sub_self]; simp
  rw [hst] at post
  obtain ⟨ds', G1, hgo, post⟩ : ∃ ds' G1, lamsGo (ds.map some) (w.ls n0) [] G = some (ds', G1) ∧ ResP K ξ H μ Q E (.ok (.ref G1.cs.length) (G1.new (.lst ds'))) := by
    have e : exs (run T k) (w.fd n0).body (ds.map some) G = sSeq (sLams (w.ls n0)) sPass (ds.map some) G := rfl
    rw [e] at post
    unfold sSeq sLams at post
    cases hg : lamsGo (ds.map some) (w.ls n0) [] G with
    | none => rw [hg] at post; exact post.elim
    | some p =>
      obtain ⟨ds', G1⟩ := p
      rw [hg] at post
      exact ⟨ds', G1, rfl, post⟩
  have I : L2.Inv (cxOf (L2.CX P wd) P wd K mg base w.N w.name (defScope w.st) fa (.ref c) A outer s H E) [] (L2.start w.N vs) H s1 := inv_start S hr.hd e0 hlen r xx
  obtain ⟨p2, p3, p4, rp, np, hbody⟩ := O.body
  show wpAny _ _ (execs (defBody w.st) _) _ _ _
  rw [hbody]
  generalize hX : cxOf (L2.CX P wd) P wd K mg base w.N w.name (defScope w.st) fa (.ref c) A outer s H E = X at I
  have eP : X.prog = P := by rw [← hX]; rfl
  obtain ⟨Ls, hLl, hLs⟩ := all_some (f := w.lm) (n := w.lams.length) fun i hi => by
    have := O.lam i hi
    unfold Wk.ckLm at this
    cases q : w.lm i with
    | none => rw [q] at this; split at this <;> first | cases this | (rename_i e; cases e)
    | some L => rfl
  have main : wpAny (model X.prog X.w) X.A (execs (.Assign [.Name x p2] (.List [] p3) p4 :: (w.apps ++ [.Return (some (.Name x np)) rp])) X.env)
      (fun fl s' => ∃ wa fs H', fl = .ret (.ref wa) ∧ L2.Inv X [] ((L2.start w.N vs).set w.np (some (.ref wa))) H' s' ∧ WS H Pt w.q (fun L => cloFrom X.env.cells L.scope.names []) Ls wa fs H') X.xe s1 := by
    have eN : X.N = w.N := by rw [← hX]; rfl
    have eS : X.env.scope = defScope w.st := by rw [← hX]; rfl
    have eF : ∀ x, X.fn x = true := fun x => by rw [← hX]; rfl
    refine wpAny_execs_cons (wpAny_mono ((ps_set (X := X) (i := w.np) (by rw [eN]; exact S.nd) (by rw [eN]; exact O.at_) (.inl (by show X.env.scope.names.lookup x = _; rw [eS]; exact O.loc)) (pe_lst (pos := p3) pa_nil) (hf := .inl (eF x))).run [] s1 _ H ⟨fun σ' H' => ∃ wa, H wa = none ∧ σ' = (L2.start w.N vs).set w.np (some (.ref wa)) ∧ H' = upd H wa (.lst []), fun _ _ => False, fun _ _ => False, fun _ _ => False⟩ I ?_) ?_ fun _ _ h => h)
    · exact ⟨Nat.zero_le _, fun wa hwa => ⟨wa, hwa, rfl, rfl⟩⟩
    intro fl s3 h3
    cases fl with
    | ret u => obtain ⟨_, _, _, _, _, h⟩ := h3; exact h.elim
    | brk => obtain ⟨_, _, _, h⟩ := h3; exact h.elim
    | cont => obtain ⟨_, _, _, h⟩ := h3; exact h.elim
    | next =>
      obtain ⟨σ3, H3, I3, wa, hwa, rfl, rfl⟩ := h3
      have hNl : w.np < w.N.length := (List.getElem?_eq_some_iff.mp O.at_).1
      have tb := rg.lam _ hlt
      have ws0 : WS H Pt w.q (fun L => cloFrom X.env.cells L.scope.names []) [] wa [] (upd H wa (.lst [])) := by
        have xn : XT H (upd H wa (.lst [])) := .new hwa
        refine ⟨fun b o e _ => by rw [upd_ne (ne_of_none e hwa)]; exact e, ?_, xn.lam _ hlt tb, hwa, upd_same, rfl, fun i f L e => by simp at e, List.nodup_nil⟩
        obtain ⟨ps, e, _⟩ := tb
        exact ⟨ps, e⟩
      have eq : w.q = X.env.qual ++ "<lambda>" := by rw [← hX]; rfl
      have TB' : LamX.TabB X.base X.mg c Pt := by rw [← hX]; exact TB
      have ec : X.env.code = .ref c := by rw [← hX]; rfl
      refine wpAny_mono (works_app (rp := rp) (np := np) (wi := w.np) TB' ec (by rw [eN]; exact O.at_) (.inl (by rw [eS]; exact O.loc)) O.d1 O.d2 (List.getElem?_set_self (by unfold L2.start; rw [List.length_append, List.length_map, List.length_replicate, hlen, O.len]; omega)) w.apps Ls [] [] _ s3 (by rw [O.n, hLl]) (fun i st L e1 e2 => ?_) (by rw [hLl]; simpa using O.few) I3 ws0) ?_ fun _ _ h => h
      · have hi : i < w.lams.length := by rw [← O.n]; exact (List.getElem?_eq_some_iff.mp e1).1
        have hwm : w.lm i = some L := by rw [← hLs i hi]; exact e2
        have hck := O.lam i hi
        unfold Wk.ckLm at hck
        have hap := isApp_ok (O.app st (List.mem_of_getElem? e1))
        obtain ⟨L3, hlx, npos, apos, lpos, cpos, pos, hst', hline⟩ := hap
        cases hwl : w.lams[i]? with
        | none => rw [hwl] at hck; cases hck
        | some jse =>
          obtain ⟨js, e⟩ := jse
          rw [hwl, hwm] at hck
          simp only [Bool.and_eq_true, Bool.or_eq_true, Bool.not_eq_true', decide_eq_true_eq, List.all_eq_true] at hck
          obtain ⟨hna, hns, hfr, _⟩ := hck
          unfold Wk.lm at hwm
          rw [hwl, e1] at hwm
          simp only [Option.bind_some, hlx] at hwm
          obtain ⟨a1, a2, a3⟩ := L3
          cases hwm
          refine ⟨⟨npos, apos, lpos, cpos, pos, hst', hline⟩, rfl, eq, ?_, fun y hy ey => ?_⟩
          · rw [noArgs_ok hna]; rfl
          · rcases hfr y hy with q | q
            · rw [ey] at q; cases q
            · exact .inl (by rw [eS]; exact q)
      · rintro fl s' ⟨fs', H', rfl, I', ws'⟩
        exact ⟨wa, fs', H', rfl, I', ws'⟩
  subst hX
  refine wpAny_mono main ?_ fun _ _ h => h
  rintro fl s' ⟨wa, fs, H', rfl, I', ws'⟩
  have ecells : (cxOf (L2.CX P wd) P wd K mg base w.N w.name (defScope w.st) fa (.ref c) A outer s H E).env.cells = cellsFrom (s.heap.objs.size + 1) (defScope w.st).names [] := rfl
  have cab : ∀ y b, (cxOf (L2.CX P wd) P wd K mg base w.N w.name (defScope w.st) fa (.ref c) A outer s H E).env.cells.lookup y = some b → s.heap.objs.size ≤ b := fun y b e => I'.ok.cab y b rfl e
  have hcs : ∀ y b, (cxOf (L2.CX P wd) P wd K mg base w.N w.name (defScope w.st) fa (.ref c) A outer s H E).env.cells.lookup y = some b → y ∈ w.ps ∧ (defScope w.st).names.lookup y = some .cell := fun y b e => by
    rw [ecells] at e
    rcases cellsFrom_in (PySem.mem_of_lookup e) with z | z
    · cases z
    · exact O.cell _ z rfl
  have hfr0 : ∀ y b, (cxOf (L2.CX P wd) P wd K mg base w.N w.name (defScope w.st) fa (.ref c) A outer s H E).env.cells.lookup y = some b → H b = none := fun y b e => e0.hok.fresh (cab y b e)
  obtain ⟨x1, rg1, hwa⟩ := works_heap (vs := vs) O rg rds hlen ws' hu I'.ok.inj I'.freeC hfr0 (fun y hy => I'.ok.has y (.inl hy)) (fun y b e => (hcs y b e).1) hLl hLs hlm rfl hgo
  have U := I'.base
  have kp : ∀ {b o}, H' b = some o → cellH (cellsFrom (s.heap.objs.size + 1) (defScope w.st).names []) w.ps vs H' b = some o := fun {b o} e => by
    rw [cellH_no fun z hz => by rw [I'.freeC z b hz] at e; cases e]; exact e
  refine (show CE outer P wd H s Q (.ref wa) s' from ⟨.ref wa, _, I'.os, I'.bare, ⟨U.keep, U.slot, fun b o e n hx => ?_, U.there, fun b xs e => kp (U.tups b xs e), fun b o u e => kp (U.frzs b o u e), fun b ps e => ?_⟩, fun b o e => ?_, rfl, post _ _ x1 (List.prefix_append _ _) rg1 (.ref wa) ⟨wa, rfl, hwa⟩⟩)
  · have e1 : cellH (cellsFrom (s.heap.objs.size + 1) (defScope w.st).names []) w.ps vs H' b = H' b := cellH_no fun z hz => absurd (Nat.lt_of_lt_of_le (Heap.lt_size e) (cab z b hz)) (Nat.lt_irrefl _)
    rw [show cellH _ w.ps vs H' b = H' b from e1]
    exact U.free b o e n hx
  · obtain ⟨m, q⟩ := U.tbls b ps e
    exact ⟨m, kp q⟩
  · rcases cellH_or (cells := cellsFrom (s.heap.objs.size + 1) (defScope w.st).names []) (ps := w.ps) (vs := vs) (H' := H') b with ⟨v, ⟨i, y, h1, h2, h3⟩, h4⟩ | h4
    · have e := h4.symm.trans e
      cases e
      obtain ⟨m, _, look⟩ := I'.loc
      have hil : i < w.np := by rw [← O.len]; exact (List.getElem?_eq_some_iff.mp h1).1
      have hy := hcs y b h3
      have hN : w.N[i]? = some y := by
        unfold Wk.ps at h1
        rwa [List.getElem?_take_of_lt hil] at h1
      obtain ⟨u, ru, hlook⟩ := look i y v hN (by
        rw [List.getElem?_set_ne (by omega)]
        unfold L2.start
        rw [List.getElem?_append_left (by rw [List.length_map]; exact (List.getElem?_eq_some_iff.mp h2).1), List.getElem?_map, h2]; rfl) (.inr (.inl hy.2))
      rcases hlook with ⟨z, _⟩ | ⟨_, b', hb', o, ho, hd⟩
      · have z : (defScope w.st).names.lookup y = some .local := z
        rw [hy.2] at z; cases z
      · have hb' : (cellsFrom (s.heap.objs.size + 1) (defScope w.st).names []).lookup y = some b' := hb'
        rw [h3] at hb'; cases hb'
        exact ⟨⟨u, o, ru, ho, hd⟩, ⟨o, ho⟩, fun g1 g2 ⟨u', o', r1, r2, r3⟩ kk => ⟨u', o', r1, kk _ r2, r3⟩⟩
    · have e := h4.symm.trans e
      exact (I'.hok b o e).stay (fun _ _ _ h => h) (fun c e' => kp e') fun c xs e' => kp e'
end Cut
/-! Own exceptions: what the written part says of them, and what is promised of them. -/
namespace Cut
open PySem PySem.Spec PyProof.Rows L2
variable [Tbl]
/-- an exception class that keeps one thing: its name, its number, the thing's name, its __init__ -/
structure Xc where
  x : Str
  k : Nat
  n : Str
  st : Stmt
def clsBody : Stmt → List Stmt
  | .ClassDef _ _ _ body .. => body
  | _ => []
def Xc.he (c : Xc) : He.DefD := ⟨(c.x, some "__init__"), "__init__", c.x ++ ".__init__", defArgs c.st, defBody c.st, defScope c.st, [], []⟩
def Xc.ck (c : Xc) : Bool :=
  decide ((defScope c.st).kind = .function) && (!(defScope c.st).isCoroutine && (!(defScope c.st).isGenerator && (!(c.n == ("self" : Str)) && (decide ((defScope c.st).names.lookup ("self" : Str) = some .local) && (decide ((defScope c.st).names.lookup c.n = some .local) && (((defScope c.st).names.all fun y => !(y.2 == .free)) && (!(c.n == dbg) && (!(c.n == cdc) &&
    (match defBody c.st with
    | [.Assign [.Attribute (.Name s _) f _] (.Name y _) _] => s == ("self" : Str) && (f == c.n && y == c.n)
    | _ => false)))))))))
def Xc.bnd (c : Xc) : Prop := ∀ (kV doc pm : Value) (an : Option Addr) (cdv ct : Value) (us : List Value), us.length = 2 → bindArgs (PySem.W.fnOf "__init__" (c.x ++ ".__init__") (defArgs c.st) (defBody c.st) (defScope c.st) .none kV doc pm an cdv ct) ⟨us, []⟩ = pure ([("self" : Str), c.n].zip us)
theorem Xc.scope {c : Xc} (h : c.ck = true) : FnScope [("self" : Str), c.n] [("self" : Str), c.n] (defScope c.st) ∧ (c.n == ("__debug__" : Str)) = false ∧ (c.n == ("__classdict__" : Str)) = false ∧
    (defScope c.st).names.lookup ("self" : Str) = some .local ∧ (defScope c.st).names.lookup c.n = some .local ∧ ∃ (p2 p3 p4 p5 : Pos), defBody c.st = [.Assign [.Attribute (.Name "self" p2) c.n p3] (.Name c.n p4) p5] := by
  unfold Xc.ck at h
  simp only [Bool.and_eq_true, Bool.not_eq_true', decide_eq_true_eq, List.all_eq_true] at h
  obtain ⟨h1, h2, h3, h4, h5, h6, h7, h8, h9, h10⟩ := h
  refine ⟨⟨h1, h2, h3, ?_, rfl, fun x hx => ?_, fun y hy e => ?_⟩, h8, h9, h5, h6, ?_⟩
  · refine List.nodup_cons.mpr ⟨fun z => ?_, List.nodup_cons.mpr ⟨(by simp), List.nodup_nil⟩⟩
    have : ("self" : Str) = c.n := by simpa using z
    rw [← this] at h4
    simp at h4
  · rcases List.mem_cons.mp hx with rfl | hx
    · exact .inl h5
    · have : x = c.n := by simpa using hx
      rw [this]; exact .inl h6
  · have := h7 y hy
    rw [e] at this; cases this
  · split at h10
    · rename_i s p2 f p3 y p4 p5 e
      simp only [Bool.and_eq_true] at h10
      obtain ⟨e1, e2, e3⟩ := h10
      have e1 := beq_iff_eq.mp e1
      have e2 := beq_iff_eq.mp e2
      have e3 := beq_iff_eq.mp e3
      subst e1; subst e2; subst e3
      exact ⟨_, _, _, _, e⟩
    · cases h10
def oexB (K : PySem.W.Frag) (C : Addr) : Bool := (match K.lookup C with
  | some ⟨.type "type", _, .cls cd, sl⟩ => (match cd.mro, sl.toList with
    | .ref C' :: bm, [_, _, _, _, some (.builtin n), _] => C' == C && (n == "ValueError.__new__" && (!cd.hasDel && (cd.hasDict && PySem.HandSPX.refsVE bm)))
    | _, _ => false)
  | _ => false) && (He.eqO (PySem.W.findIn K (.ref C) "__setattr__") (some (some (.builtin "object.__setattr__"))) && (decide (PySem.W.subIn K (.ref C) (.type "BaseException") = some true) && (decide (PySem.W.typeIn K (.ref C) = some (.type "type")) && PySem.W.keepIn K (.ref C))))
theorem oexB_ok {K : PySem.W.Frag} {C : Addr} (h : oexB K C = true) : OexC K C := by
  unfold oexB at h
  simp only [Bool.and_eq_true, decide_eq_true_eq] at h
  obtain ⟨h0, h1, h2, h3, h4⟩ := h
  refine ⟨?_, He.eqO_ok h1, h2, h3, h4⟩
  split at h0
  · rename_i dd cd sl ho
    split at h0
    · rename_i C' bm k0 k1 k2 k3 n k5 hm hs
      simp only [Bool.and_eq_true, beq_iff_eq, Bool.not_eq_true'] at h0
      obtain ⟨rfl, rfl, hdel, hd, hr⟩ := h0
      obtain ⟨nm, bs, mro, ns, qn, hdct, sn, sub, ab, col, del⟩ := cd
      dsimp only at hm hdel hd
      subst hm hdel hd
      obtain ⟨sl⟩ := sl
      have hs : sl = _ := hs
      subst hs
      exact ⟨nm, qn, ns, bs, bm, sn, sub, ab, col, dd, k0, k1, k2, k3, k5, ho, hr⟩
    · cases h0
  · cases h0
def excCB (K : PySem.W.Frag) (D : Addr) : Bool :=
  He.eqO (PySem.W.findIn K (.ref D) "__getattribute__") (some (some (.builtin "BaseException.__getattribute__"))) && (He.eqO (PySem.W.findIn K (.ref D) "__getattr__") (some none) && (decide (PySem.W.subIn K (.ref D) (.type "BaseException") = some true) && (PySem.W.hasDictIn K D &&
  (He.eqO (PySem.W.findIn K (.ref D) "__class__") (some (some (.builtin "object.__class__"))) && (He.eqO (PySem.W.specialIn K (.builtin "object.__class__") "__get__") (some (some (.builtin "getset_descriptor.__get__"))) && (decide (PySem.W.takesIn K (.builtin "object.__class__") = some true) && decide (PySem.W.mroIn K D (.type "object") = some true)))))))
theorem excCB_ok {K : PySem.W.Frag} {D : Addr} (h : excCB K D = true) : ExcC K D := by
  unfold excCB at h
  simp only [Bool.and_eq_true, decide_eq_true_eq] at h
  obtain ⟨h1, h2, h3, h4, h5, h6, h7, h8⟩ := h
  exact ⟨He.eqO_ok h1, He.eqO_ok h2, h3, h4, He.eqO_ok h5, He.eqO_ok h6, h7, h8⟩
/-- what is looked up in the written part -/
def ex1 (K : PySem.W.Frag) (p : Str × Nat) : Bool := PySem.W.keepIn K (.ref (He.ga K p.1)) && (decide (PySem.W.subIn K (.ref (He.ga K p.1)) (.type "BaseException") = some true) && (decide (PySem.W.typeIn K (.ref (He.ga K p.1)) = some (.type "type")) && (excCB K (He.ga K p.1) && ((PySem.W.clsIn K (He.ga K p.1)).isSome &&
  (if p.2 < 100 then PySem.W.excIn K (He.ga K p.1) He.veBase "ValueError.__new__" else true)))))
def ex2 (K : PySem.W.Frag) (p q : Str × Nat) : Bool := decide (PySem.W.kitOne K (.ref (He.ga K p.1)) (.ref (He.ga K q.1)) = some (decide (p.2 = q.2))) && decide (PySem.W.exmOne K (.ref (He.ga K p.1)) (.ref (He.ga K q.1)) = some (decide (p.2 = q.2)))
def exX (K : PySem.W.Frag) (c : Xc) : Bool := oexB K (He.ga K c.x) && (xfB K (He.ga K c.x) && (He.eqO (PySem.W.findIn K (.ref (He.ga K c.x)) c.n) (some none) && (He.eqO (PySem.W.findIn K (.ref (He.ga K c.x)) "__init__") (some (some (.ref (He.ma K (He.ga K c.x) "__init__")))) && decide (PySem.W.typeIn K (.ref (He.ma K (He.ga K c.x) "__init__")) = some (.type "function")))))

structure ExOk (Γ : Gx) (Xs : List Xc) (K : PySem.W.Frag) : Prop where
  one : ∀ p ∈ Γ.exs, ex1 K p = true
  two : ∀ p ∈ Γ.exs, ∀ q ∈ Γ.exs, ex2 K p q = true
  base : Γ.exB ≠ "" → ∀ p ∈ Γ.exs, PySem.W.exmOne K (.ref (He.ga K p.1)) (.ref (He.ga K Γ.exB)) = some true
  own : ∀ c ∈ Xs, exX K c = true
def exFacts (Γ : Gx) (Xs : List Xc) (K : PySem.W.Frag) : Bool := Γ.exs.all (ex1 K) && ((Γ.exs.all fun p => Γ.exs.all (ex2 K p)) && ((decide (Γ.exB = "") || Γ.exs.all fun p => decide (PySem.W.exmOne K (.ref (He.ga K p.1)) (.ref (He.ga K Γ.exB)) = some true)) && Xs.all (exX K)))
theorem exFacts_ok {Γ : Gx} {Xs : List Xc} {K : PySem.W.Frag} (h : exFacts Γ Xs K = true) : ExOk Γ Xs K := by
  unfold exFacts at h
  simp only [Bool.and_eq_true, Bool.or_eq_true, decide_eq_true_eq, List.all_eq_true] at h
  obtain ⟨h1, h2, h3, h4⟩ := h
  exact ⟨h1, h2, fun hb p hp => (h3.resolve_left hb) p hp, h4⟩
/-- how the numbers fit -/
def exNums (Γ : Gx) (Xs : List Xc) : Bool := (Γ.exs.all fun p => decide (p.2 < 100) || Xs.any fun c => decide (c.x = p.1) && decide (c.k = p.2)) && ((Xs.all fun c => decide (100 ≤ c.k) && (decide ((c.x, c.k) ∈ Γ.exs) && Γ.fld.all fun p => !decide (p.2 = c.k / 100) || decide (p.1 = c.n))) && Γ.fld.all fun p => decide (1 ≤ p.2))
structure ExNums (Γ : Gx) (Xs : List Xc) : Prop where
  own : ∀ p ∈ Γ.exs, 100 ≤ p.2 → ∃ c ∈ Xs, c.x = p.1 ∧ c.k = p.2
  big : ∀ c ∈ Xs, 100 ≤ c.k ∧ (c.x, c.k) ∈ Γ.exs ∧ ∀ p ∈ Γ.fld, p.2 = c.k / 100 → p.1 = c.n
  pos : ∀ p ∈ Γ.fld, 1 ≤ p.2
theorem exNums_ok {Γ : Gx} {Xs : List Xc} (h : exNums Γ Xs = true) : ExNums Γ Xs := by
  unfold exNums at h
  simp only [Bool.and_eq_true, Bool.or_eq_true, Bool.not_eq_true', decide_eq_true_eq, decide_eq_false_iff_not, List.all_eq_true, List.any_eq_true] at h
  obtain ⟨h1, h2, h3⟩ := h
  refine ⟨fun p hp hk => ?_, fun c hc => ?_, h3⟩
  · rcases h1 p hp with q | ⟨c, hc, e1, e2⟩
    · omega
    · exact ⟨c, hc, e1, e2⟩
  · obtain ⟨k1, k2, k3⟩ := h2 c hc
    exact ⟨k1, k2, fun p hp e => (k3 p hp).resolve_left fun z => z e⟩
/-- how an exception of ours stands behind one of theirs -/
def xiOf (Γ : Gx) (Xs : List Xc) (K : PySem.W.Frag) : XRel := fun kk fs H μ cls dd =>
  (kk < 100 ∧ (∃ x, (x, kk) ∈ Γ.exs ∧ cls = .ref (He.ga K x)) ∧ fs = [] ∧ dd = none) ∨ (∃ c ∈ Xs, c.k = kk ∧ cls = .ref (He.ga K c.x) ∧ ∃ d dx v, fs = [d] ∧ dd = some dx ∧ H dx = some (.xd [(c.n, v)]) ∧ RD K H μ d v)
section
variable {Γ : Gx} {Xs : List Xc} {K : PySem.W.Frag}
theorem xi_mono : XMono (xiOf Γ Xs K) := fun kk fs H H' μ μ' cls dd x p h => by
  rcases h with h | ⟨c, hc, e1, e2, d, dx, v, e3, e4, e5, e6⟩
  · exact .inl h
  · exact .inr ⟨c, hc, e1, e2, d, dx, v, e3, e4, x.xd _ _ e5, e6.mono x p⟩
theorem xi_cut : XCut (xiOf Γ Xs K) := fun kk fs H μ μ' cls dd hb p h => by
  rcases h with h | ⟨c, hc, e1, e2, d, dx, v, e3, e4, e5, e6⟩
  · exact .inl h
  · refine .inr ⟨c, hc, e1, e2, d, dx, v, e3, e4, e5, RD.cutB p ?_ e6⟩
    rw [e3] at hb
    simp only [belows, Bool.and_eq_true] at hb
    exact hb.1
theorem xi_in (nu : ExNums Γ Xs) {kk : Nat} {fs : List D} {H : Hp} {μ : List Addr} {cls : Value} {dd : Option Addr} (h : xiOf Γ Xs K kk fs H μ cls dd) : ∃ x, (x, kk) ∈ Γ.exs ∧ cls = .ref (He.ga K x) := by
  rcases h with ⟨_, ⟨x, h1, h2⟩, _⟩ | ⟨c, hc, e1, e2, _⟩
  · exact ⟨x, h1, h2⟩
  · exact ⟨c.x, e1 ▸ (nu.big c hc).2.1, e2⟩
theorem tryOk_of {X : Cx} (hK : X.K = K) (nu : ExNums Γ Xs) (ok : ExOk Γ Xs K) (hg : ∀ p ∈ Γ.exs, X.mg p.1 = some (.ref (He.ga K p.1))) (hb : Γ.exB ≠ "" → X.mg Γ.exB = some (.ref (He.ga K Γ.exB))) : TryOk X Γ (xiOf Γ Xs K) := by
  subst hK
  refine ⟨fun kk fs H μ cls dd h => ?_, fun y k' hy => ?_, fun hne => ⟨_, hb hne, fun kk fs H μ cls dd h => ?_⟩⟩
  · obtain ⟨x, hx, rfl⟩ := xi_in nu h
    have h1 := ok.one _ hx
    unfold ex1 at h1
    simp only [Bool.and_eq_true, decide_eq_true_eq] at h1
    obtain ⟨_, _, _, k4, k5, _⟩ := h1
    refine ⟨_, rfl, excCB_ok k4, k5, fun n m hn hm d hd => ?_, fun dx hdx => ?_⟩
    · rcases h with ⟨hlt, _, hf, _⟩ | ⟨c, hc, e1, e2, d', dx, v, e3, e4, e5, e6⟩
      · rw [hf] at hd; cases hd
      · rw [e3] at hd; cases hd
        have hcx := ok.own c hc
        unfold exX at hcx
        simp only [Bool.and_eq_true, decide_eq_true_eq] at hcx
        obtain ⟨_, c2, c3, _, _⟩ := hcx
        have hcn : n = c.n := (nu.big c hc).2.2 (n, m) (PySem.mem_of_lookup hn) (by rw [e1]; exact hm.symm)
        subst hcn
        rw [Value.ref.inj e2]
        refine ⟨xfB_ok c2, He.eqO_ok c3, dx, _, v, e4, e5, ?_, e6⟩
        simp [List.lookup]
    · rcases h with ⟨_, _, _, hd⟩ | ⟨c, hc, e1, e2, d', dx', v, e3, e4, e5, e6⟩
      · rw [hd] at hdx; cases hdx
      · rw [e4] at hdx; cases hdx
        exact ⟨_, e5⟩
  · have hm := PySem.mem_of_lookup hy
    refine ⟨_, hg _ hm, fun kk fs H μ cls dd h => ?_⟩
    obtain ⟨x, hx, rfl⟩ := xi_in nu h
    have h2 := ok.two _ hx _ hm
    unfold ex2 at h2
    simp only [Bool.and_eq_true, decide_eq_true_eq] at h2
    exact h2
  · obtain ⟨x, hx, rfl⟩ := xi_in nu h
    exact ok.base hne _ hx
/-- an __init__ keeps its promise -/
theorem init_fn {P : Program} {w : World} {mg : Str → Option Value} {base : Heap} {c : Xc} {fI : Addr} {fd : FuncData} (hck : c.ck = true) (hx : exX K c = true) (F : FunD K "__init__" (c.x ++ ".__init__") (defArgs c.st) (defBody c.st) (defScope c.st) [] [] fI fd) :
    FnOk P w K mg base (L2.CX P w) 1 fI fd [("self" : Str), c.n] (spI (He.ga K c.x) c.n) := by
  obtain ⟨S, d1, d2, l1, l2, p2, p3, p4, p5, hbody⟩ := Xc.scope hck
  unfold exX at hx
  simp only [Bool.and_eq_true, decide_eq_true_eq] at hx
  obtain ⟨c1, c2, c3, _, _⟩ := hx
  obtain ⟨oc, od, dV, kV, doc, pm, an, cdv, ct, osl, rfl, lk, hcd, _, _⟩ := F.ex
  refine fn_of lk hcd S (fun vs H Q E h => (by obtain ⟨a, v, rfl, _⟩ := h; rfl)) fun A outer s0 H vs Q E hr hsp => ?_
  obtain ⟨a, v, rfl, ha, q⟩ := hsp
  rw [hbody]
  refine ⟨_, (pss_cons (ps_ost (pe_var (i := 0) rfl (.inl l1) rfl rfl) (pe_var (i := 1) rfl (.inl l2) d1 d2)) pss_nil), ?_⟩
  exact ⟨v, rfl, _, rfl, a, _, rfl, oexB_ok c1, He.eqO_ok c3, .inl ⟨ha, fun dx n ne => q dx n ne⟩⟩
theorem excOk_of {X : Cx} {tb : Bool} (hK : X.K = K) (nu : ExNums Γ Xs) (ok : ExOk Γ Xs K) (hg : ∀ p ∈ Γ.exs, X.mg p.1 = some (.ref (He.ga K p.1))) (hck : ∀ c ∈ Xs, c.ck = true)
    (hF : ∀ c ∈ Xs, ∃ fd, FunD K "__init__" (c.x ++ ".__init__") (defArgs c.st) (defBody c.st) (defScope c.st) [] [] (He.ma K (He.ga K c.x) "__init__") fd ∧ Binds K fd [("self" : Str), c.n] []) (hr : Room 3 X.A) {x : Str} {k : Nat} (hx : Γ.exs.lookup x = some k) : ExcOk tb X (xiOf Γ Xs K) x k := by
  subst hK
  have hm := PySem.mem_of_lookup hx
  have h1 := ok.one _ hm
  unfold ex1 at h1
  simp only [Bool.and_eq_true, decide_eq_true_eq] at h1
  obtain ⟨k1, k2, k3, k4, k5, k6⟩ := h1
  refine ⟨_, hg _ hm, k1, fun hk => ⟨raises_own k2 k3, ⟨_, _, _, _, PySem.F.excBase_ValueError, ?_⟩, fun H μ => .inl ⟨hk, ⟨x, hm, rfl⟩, rfl, rfl⟩⟩, fun hk => ?_⟩
  · have hk : (x, k).2 < 100 := hk
    rw [if_pos hk] at k6
    exact k6
  · obtain ⟨c, hc, e1, e2⟩ := nu.own _ hm hk
    have e1 : c.x = x := e1
    have e2 : c.k = k := e2
    subst e1; subst e2
    have hcx := ok.own c hc
    obtain ⟨fd, F, B⟩ := hF c hc
    have FI := init_fn (P := X.prog) (w := X.w) (mg := X.mg) (base := X.base) (hck c hc) hcx F
    unfold exX at hcx
    simp only [Bool.and_eq_true, decide_eq_true_eq] at hcx
    obtain ⟨c1, c2, c3, c4, c5⟩ := hcx
    refine ⟨oexB_ok c1, _, fd, 1, c.n, He.eqO_ok c4, c5, FI, hr.mono (by split <;> decide), B, fun H μ dx d v hdx rd => .inr ⟨c, hc, rfl, rfl, d, dx, v, rfl, rfl, hdx, rd⟩⟩
end
end Cut
/-! Every def of a program keeps its promise: what run tells. -/
namespace Cut
open PySem PySem.Spec PyProof.Rows L2
variable [Tbl]
instance cur0 : Cur := noCur
/-- a def of the text: its name, its statement, the slots (parameters first), our text of its body -/
structure Df where
  name : Str
  st : Stmt
  N : List Str
  np : Nat
  tb : Bool
  body : Sms
  dfl : List Int := []
def Df.fd (d : Df) : Fd := ⟨d.np, d.N.length, d.body⟩
def Df.ps (d : Df) : List Str := d.N.take d.np
/-- the look at one def -/
def Df.ck (Γ : Gx) (d : Df) : Bool :=
  decide ((defScope d.st).kind = .function) && (!(defScope d.st).isCoroutine && (!(defScope d.st).isGenerator && (decide d.N.Nodup && (decide (d.np ≤ d.N.length) && ((d.ps.all fun x => decide ((defScope d.st).names.lookup x = some .local) || decide ((defScope d.st).names.lookup x = some .cell)) &&
    (((defScope d.st).names.all fun y => !(y.2 == .free)) && ckB Γ d.N d.tb (defScope d.st) d.body (defBody d.st)))))))
theorem Df.scope {Γ : Gx} {d : Df} (h : d.ck Γ = true) : FnScope d.N d.ps (defScope d.st) ∧ ckB Γ d.N d.tb (defScope d.st) d.body (defBody d.st) = true ∧ d.ps.length = d.np := by
  unfold Df.ck at h
  simp only [Bool.and_eq_true, Bool.or_eq_true, Bool.not_eq_true', decide_eq_true_eq, List.all_eq_true] at h
  obtain ⟨h1, h2, h3, h4, h5, h6, h7, h8⟩ := h
  have hl : d.ps.length = d.np := by unfold Df.ps; rw [List.length_take, Nat.min_eq_left h5]
  refine ⟨⟨h1, h2, h3, h4, by rw [hl]; rfl, h6, fun y hy e => ?_⟩, h8, hl⟩
  have := h7 y hy
  rw [e] at this; cases this
/-- FunD.ok, the code object known -/
theorem okC {P : Program} {w : World} {K : PySem.W.Frag} {mg : Str → Option Value} {base : Heap} {x qual : Str} {params : Arguments} {body : List Stmt} {scope : Scope} {dvs : List V} {kws : List (Str × V)} {f : Addr} {fd : FuncData} {CX : CXT} {N ps : List Str} {k : Nat} {sp : Sp}
    (F : FunD K x qual params body scope dvs kws f fd) (S : FnScope N ps scope) (len : ∀ vs H Q E, sp vs H Q E → vs.length = ps.length)
    (hbody : ∀ (A : Around) (outer : List PySem.Env) (s : Shared) (H : Hp) (vs : List V) (Q : VK) (E : XK), Room k (A.deeper (envOfC qual scope s.heap.objs.size f fd.code)) → sp vs H Q E →
      ∃ t, PSs (cxOf CX P w K mg base N qual scope f fd.code A outer s H E) body t ∧ t { nx := fun _ H' => Q .non H', rt := Q } (L2.start N vs) H) : FnOk P w K mg base CX (k + 1) f fd ps sp := by
  obtain ⟨oc, od, dV, kV, doc, pm, an, cdv, ct, osl, rfl, lk, hcd, _, _⟩ := F.ex
  exact fn_of lk hcd S len hbody
/-- a def as it stands behind the top -/
structure DfOk (K : PySem.W.Frag) (mg : Str → Option Value) (base : Heap) (d : Df) (fa : Addr) (fd : FuncData) : Prop where
  gl : mg d.name = some (.ref fa)
  fn : FunD K d.name d.name (defArgs d.st) (defBody d.st) (defScope d.st) (d.dfl.map V.int) [] fa fd
  bi : ∀ j, j ≤ d.dfl.length → ∃ us, Vals ((d.dfl.drop j).map V.int) us ∧ Binds K fd d.ps us
  tab : d.tb = true → ∃ c P, fd.code = .ref c ∧ GxR.TabB base mg c P ∧ P ∈ Tbl.ps
theorem finish_post {c : Ct} {H : Hp} {μ : List Addr} {Q : VK} {E : XK} (hW : c.W = fun cls d _ H' => E cls d H') {r : RS} (h : ResP c.K c.ξ H μ Q E (finish r)) : PostS c { nx := fun _ H' => Q .non H', rt := Q } H μ r := by
  cases r with
  | nx ρ G' => exact fun H' μ' x p g σ _ => h H' μ' x p g .non rfl
  | rt d G' => exact h
  | bk ρ G' => exact h.elim
  | ct ρ G' => exact h.elim
  | exc k fs ρ G' => exact fun H' μ' x p g σ cls dd _ hx => by rw [hW]; exact h H' μ' x p g cls dd hx
  | stuck => exact h.elim
/-- a text: its defs, the def that makes lambdas (if any), the exceptions that keep something -/
structure Pg where
  Γ : Gx
  Ds : List Df
  wk : Option Wk := none
  Xs : List Xc := []
def Pg.wf (p : Pg) : List Fd := match p.wk with
  | none => []
  | some w => w.fd p.Ds.length :: w.fds
def Pg.T (p : Pg) : List Fd := p.Ds.map Df.fd ++ p.wf
def Pg.lmF (p : Pg) (f : Nat) : Option Lm := match p.wk with
  | none => none
  | some w => if p.Ds.length < f then w.lm (f - p.Ds.length - 1) else none
/-- the def that makes lambdas as it stands behind the top -/
structure WkD (K : PySem.W.Frag) (mg : Str → Option Value) (base : Heap) (w : Wk) (fa : Addr) (fd : FuncData) : Prop where
  gl : mg w.name = some (.ref fa)
  fn : FunD K w.name w.name (defArgs w.st) (defBody w.st) (defScope w.st) [] [] fa fd
  bi : Binds K fd w.ps []
  tab : ∃ c Pt, fd.code = .ref c ∧ LamX.TabB base mg c Pt ∧ (Pt, w.q) ∈ Tbl.lt ∧ ∀ p ∈ Tbl.lt, p.1 = Pt → p.2 = w.q
/-- all that is known of the text -/
structure PgOk (p : Pg) (K : PySem.W.Frag) (mg : Str → Option Value) (base : Heap) : Prop where
  hot : p.Γ.hot = false
  con : ∀ x d, p.Γ.con.lookup x = some d → ∃ v u, mg x = some u ∧ RelV v u ∧ (∀ H μ, RD K H μ d v) ∧ ∀ xs, d = .tup xs → ∀ H, tyV K "tuple" v H
  blt : ∀ x ∈ bltNames, mg x = none
  fns : ∀ x n, p.Γ.fns.lookup x = some n → (∃ d, p.Ds[n]? = some d ∧ d.name = x ∧ p.Γ.dflOf x = d.dfl) ∨ (∃ w, p.wk = some w ∧ n = p.Ds.length ∧ w.name = x ∧ p.Γ.dflOf x = [])
  cks : ∀ d ∈ p.Ds, d.ck p.Γ = true
  defs : ∀ d ∈ p.Ds, ∃ fa fd, DfOk K mg base d fa fd
  wck : ∀ w, p.wk = some w → w.ck p.Γ = true ∧ ∃ fa fd, WkD K mg base w fa fd
  lm : ∀ f, Tbl.lm f = p.lmF f
  nums : ExNums p.Γ p.Xs
  exs : ExOk p.Γ p.Xs K
  exg : ∀ q ∈ p.Γ.exs, mg q.1 = some (.ref (He.ga K q.1))
  exb : p.Γ.exB ≠ "" → mg p.Γ.exB = some (.ref (He.ga K p.Γ.exB))
  xck : ∀ c ∈ p.Xs, c.ck = true
  xF : ∀ c ∈ p.Xs, ∃ fd, FunD K "__init__" (c.x ++ ".__init__") (defArgs c.st) (defBody c.st) (defScope c.st) [] [] (He.ma K (He.ga K c.x) "__init__") fd ∧ Binds K fd [("self" : Str), c.n] []
section
variable {P : Program} {w : World} {K : PySem.W.Frag} {mg : Str → Option Value} {base : Heap} {p : Pg}
/-- the promises up to a depth -/
structure Upto (P : Program) (w : World) (K : PySem.W.Frag) (mg : Str → Option Value) (base : Heap) (p : Pg) (k : Nat) : Prop where
  fn : ∀ (n : Nat) (d : Df) (fa : Addr) (fd : FuncData), p.Ds[n]? = some d → DfOk K mg base d fa fd → FnOk P w K mg base (L2.CX P w) (2 * k + 4) fa fd d.ps (spR K (xiOf p.Γ p.Xs K) d.ps.length (run p.T k n))
  wk : ∀ (v : Wk) (fa : Addr) (fd : FuncData), p.wk = some v → WkD K mg base v fa fd → FnOk P w K mg base (L2.CX P w) (2 * k + 4) fa fd v.ps (spR K (xiOf p.Γ p.Xs K) v.ps.length (run p.T k p.Ds.length))
  lm : ∀ f L, p.lmF f = some L → LOk P w K mg base (xiOf p.Γ p.Xs K) (2 * k + 4) L (run p.T k f)
theorem T_def {n : Nat} {d : Df} (h : p.Ds[n]? = some d) : p.T[n]? = some d.fd := by
  unfold Pg.T
  rw [List.getElem?_append_left (by rw [List.length_map]; exact (List.getElem?_eq_some_iff.mp h).1), List.getElem?_map, h]; rfl
theorem T_wk {v : Wk} (h : p.wk = some v) : p.T[p.Ds.length]? = some (v.fd p.Ds.length) := by
  unfold Pg.T Pg.wf
  rw [List.getElem?_append_right (by rw [List.length_map]; exact Nat.le_refl _), List.length_map, Nat.sub_self, h]; rfl
theorem T_lm {v : Wk} {i : Nat} {js : List Nat} {e : Ex} (h : p.wk = some v) (hi : v.lams[i]? = some (js, e)) : p.T[p.Ds.length + 1 + i]? = some ⟨js.length, js.length, .cons (.ret e) .nil⟩ := by
  unfold Pg.T Pg.wf
  rw [List.getElem?_append_right (by rw [List.length_map]; omega), List.length_map, h]
  show (v.fd _ :: v.fds)[_]? = _
  have : p.Ds.length + 1 + i - p.Ds.length = i + 1 := by omega
  rw [this, List.getElem?_cons_succ]
  unfold Wk.fds
  rw [List.getElem?_map, hi]; rfl
theorem lmF_some {f : Nat} {L : Lm} (h : p.lmF f = some L) : ∃ v i, p.wk = some v ∧ f = p.Ds.length + 1 + i ∧ v.lm i = some L := by
  unfold Pg.lmF at h
  split at h
  · cases h
  · rename_i v hv
    split at h
    · rename_i hlt
      exact ⟨v, _, hv, by omega, h⟩
    · cases h
theorem lm_lt {v : Wk} {i : Nat} {L : Lm} (h : v.lm i = some L) : ∃ js e, v.lams[i]? = some (js, e) ∧ L.fr = js.filterMap (v.N[·]?) := by
  unfold Wk.lm at h
  split at h
  · rename_i e1 _
    cases h
    exact ⟨_, _, e1, rfl⟩
  · cases h
theorem run_len {T : List Fd} {k n : Nat} {fd : Fd} (h : T[n]? = some fd) (ds : List D) (G : Store) (hne : ds.length ≠ fd.ps) : run T k n ds G = .stuck := by
  cases k with
  | zero => rfl
  | succ k =>
    unfold run
    rw [h]
    exact if_neg hne
/-- what a body may use -/
theorem uses (ok : PgOk p K mg base) {k : Nat} (u : Upto P w K mg base p k) {X : Cx} (e1 : X.prog = P) (e2 : X.w = w) (e3 : X.K = K) (e4 : X.mg = mg) (e5 : X.base = base) {tb : Bool} (hr : Room (2 * k + 5) X.A) :
    (∀ x n, p.Γ.fns.lookup x = some n → ∃ fa fd ps k', X.mg x = some (.ref fa) ∧ PySem.W.keepIn X.K (.ref fa) = true ∧ FnOk X.prog X.w X.K X.mg X.base (L2.CX X.prog X.w) k' fa fd ps (spR X.K (xiOf p.Γ p.Xs K) ps.length (run p.T k n)) ∧ Room (k' + if tb then 1 else 0) X.A ∧ (∀ j, j ≤ (p.Γ.dflOf x).length → ∃ us, Vals (((p.Γ.dflOf x).drop j).map V.int) us ∧ Binds X.K fd ps us) ∧ ∀ ds G, ds.length ≠ ps.length → run p.T k n ds G = .stuck) ∧
    (∀ f L, Tbl.lm f = some L → ∃ k', LOk X.prog X.w X.K X.mg X.base (xiOf p.Γ p.Xs K) k' L (run p.T k f) ∧ Room (k' + if tb then 1 else 0) X.A) ∧
    (∀ x k', p.Γ.exs.lookup x = some k' → ExcOk tb X (xiOf p.Γ p.Xs K) x k') ∧ TryOk X p.Γ (xiOf p.Γ p.Xs K) := by
  subst e1 e2 e3 e4 e5
  have room : Room (2 * k + 4 + if tb then 1 else 0) X.A := hr.mono (by split <;> omega)
  refine ⟨fun x n hx => ?_, fun f L hL => ⟨2 * k + 4, u.lm f L (by rw [← ok.lm]; exact hL), room⟩, fun x k' hx => excOk_of rfl ok.nums ok.exs ok.exg ok.xck ok.xF (hr.mono (by omega)) hx, tryOk_of rfl ok.nums ok.exs ok.exg ok.exb⟩
  rcases ok.fns x n hx with ⟨d, hn, rfl, hdf⟩ | ⟨v, hv, rfl, rfl, hdf⟩
  · obtain ⟨fa, fd, hd⟩ := ok.defs d (List.mem_of_getElem? hn)
    refine ⟨fa, fd, d.ps, _, hd.gl, hd.fn.kp, u.fn n d fa fd hn hd, room, by rw [hdf]; exact hd.bi, fun ds G hne => run_len (T_def hn) ds G fun z => hne ?_⟩
    have hl' := (Df.scope (ok.cks d (List.mem_of_getElem? hn))).2.2
    exact z.trans hl'.symm
  · obtain ⟨hck, fa, fd, hd⟩ := ok.wck v hv
    obtain ⟨x, O⟩ := Wk.ok hck
    refine ⟨fa, fd, v.ps, _, hd.gl, hd.fn.kp, u.wk v fa fd hv hd, room, fun j hj => ?_, fun ds G hne => run_len (T_wk hv) ds G fun z => hne ?_⟩
    · rw [hdf]
      exact ⟨[], by simp only [List.drop_nil, List.map_nil]; exact .nil, hd.bi⟩
    · exact z.trans O.len.symm
theorem prog_ok (ok : PgOk p K mg base) : ∀ k : Nat, Upto P w K mg base p k := by
  intro k
  induction k with
  | zero =>
    refine ⟨fun n d fa fd hn hd => ⟨fun vs H Q E h => h.1, fun A outer s H args us vs Q E _ _ _ _ h => ?_⟩, fun v fa fd hv hd => ⟨fun vs H Q E h => h.1, fun A outer s H args us vs Q E _ _ _ _ h => ?_⟩, fun f L hL => ⟨fun A outer s H μ G a c cl pm ctv ds vs Q E _ _ _ _ _ _ _ h => ?_⟩⟩
    · obtain ⟨_, ds, G, μ, _, _, h⟩ := h
      exact h.elim
    · obtain ⟨_, ds, G, μ, _, _, h⟩ := h
      exact h.elim
    · exact h.elim
  | succ k ih =>
    refine ⟨fun n d fa fd hn hd => ?_, fun v fa fd hv hd => ?_, fun f L hL => ?_⟩
    · obtain ⟨S, ck, hl⟩ := Df.scope (ok.cks d (List.mem_of_getElem? hn))
      refine okC (k := 2 * k + 5) hd.fn S (fun vs H Q E h => h.1) fun A outer s H vs Q E hr hsp => ?_
      refine ⟨rS ⟨K, xiOf p.Γ p.Xs K, fun cls d _ H' => E cls d H'⟩ (exs (run p.T k) d.body), ?_, ?_⟩
      · obtain ⟨u1, u2, u3, u4⟩ := uses (X := cxOf (L2.CX P w) P w K mg base d.N d.name (defScope d.st) fa fd.code A outer s H E) ok ih rfl rfl rfl rfl rfl (tb := d.tb) hr
        refine sndB (Γ := p.Γ) (N := d.N) (tb := d.tb) (sc := defScope d.st) xi_mono u4 rfl rfl d.body (defBody d.st) ck ⟨⟨rfl, rfl, S.nd, rfl, fun _ => rfl, fun _ => rfl, ?_, ?_, ok.con, ok.blt, u1, xi_mono, fun _ => u2, fun _ => u3, fun z => (by rw [ok.hot] at z; cases z), fun htb => ?_⟩, fun _ => rfl, ?_, S.kind⟩
        · have := hr.un
          show (A.deeper _).units + 65 + _ < cLine
          split <;> omega
        · exact takes_of rfl rfl rfl rfl
        · obtain ⟨c, P', h1, h2, h3⟩ := hd.tab htb
          exact ⟨c, P', h2, h1, h3, hr.mono (Nat.zero_le _)⟩
        · exact passes_of (K := fun e s'' => L2.CX P w outer H s E e s'') rfl
      · obtain ⟨hlen, ds, G, μ, rg, rds, h⟩ := hsp
        unfold run at h
        rw [T_def hn] at h
        have hl2 : ds.length = d.fd.ps := by rw [← rds.len, hlen, hl]; rfl
        simp only [if_pos hl2] at h
        exact ⟨_, G, μ, RE.start rfl trivial rds d.N, rg, finish_post (c := ⟨K, xiOf p.Γ p.Xs K, fun cls d _ H' => E cls d H'⟩) (E := E) rfl (gc_ok (E := E) (Q := Q) xi_cut rg h)⟩
    · obtain ⟨hck, _⟩ := ok.wck v hv
      obtain ⟨x, O⟩ := Wk.ok hck
      obtain ⟨c, Pt, h1, h2, h3, h4⟩ := hd.tab
      refine (works_fn xi_cut O (T_wk hv) hd.fn h1 h2 h3 h4 fun i hi => ?_).mono (by omega)
      rw [ok.lm]
      unfold Pg.lmF
      rw [hv]
      show (if _ then _ else _) = _
      rw [if_pos (by omega)]
      congr 1; omega
    · obtain ⟨v, i, hv, rfl, hL'⟩ := lmF_some hL
      obtain ⟨hck, _⟩ := ok.wck v hv
      obtain ⟨x, O⟩ := Wk.ok hck
      obtain ⟨js, e, hi, hfr⟩ := lm_lt hL'
      have hlt := (List.getElem?_eq_some_iff.mp hi).1
      have hk := O.lam i hlt
      unfold Wk.ckLm at hk
      rw [hi, hL'] at hk
      simp only [Bool.and_eq_true, Bool.or_eq_true, Bool.not_eq_true', decide_eq_true_eq, List.all_eq_true] at hk
      obtain ⟨hna, hns, _, hfl, _, hce⟩ := hk
      have S := NdefX.nscope_by hns
      refine lok_of (k := 2 * k + 5) (f := ev (run p.T k) e) xi_cut S (fun pm cv ctv cl => by rw [noArgs_ok hna]; rfl) (fun ds G hds => ?_) fun A outer s H E a c cl hr => ?_
      · unfold run
        rw [T_lm hv hi]
        show (if _ then _ else _) = _
        rw [if_pos (by show ds.length = js.length; rw [hds, hfl])]
        congr 1
        have hst : Cut.start js.length ds = ds.map some := by
          unfold Cut.start
          rw [← hfl, hds, Nat.sub_self]; simp
        show finish (sSeq (sRet (ev (run p.T k) e)) sPass (Cut.start js.length ds) G) = _
        rw [hst]
        unfold sSeq sRet
        cases ev (run p.T k) e (ds.map some) G <;> rfl
      · obtain ⟨u1, u2, u3, u4⟩ := uses (X := NdefX.ncx (L2.CX P w) P w K mg base L.fr (lmNF L cl c) a A outer s H E) ok ih rfl rfl rfl rfl rfl (tb := false) hr
        refine (sndE e L.body false _ ⟨K, xiOf p.Γ p.Xs K, fun cls d _ H' => E cls d H'⟩ L.scope hce ⟨rfl, rfl, S.nd, rfl, fun _ => rfl, fun _ => rfl, ?_, ?_, ok.con, ok.blt, u1, xi_mono, fun _ => u2, fun _ => u3, fun z => (by rw [ok.hot] at z; cases z), fun z => nomatch z⟩).1
        · have := hr.un
          show (A.deeper _).units + 65 + 0 < cLine
          omega
        · exact takes_of rfl rfl rfl rfl
end
end Cut
/-! The end of a law: what the head tells, and the evaluator's answer. -/
namespace Cut
open PySem PySem.Spec PyProof.Rows L2
/-- how a def of plain parameters binds -/
def Bnd (d : Df) : Prop := ∀ (kV doc pm : Value) (an : Option Addr) (cdv ct : Value) (us : List Value), us.length = d.ps.length → bindArgs (PySem.W.fnOf d.name d.name (defArgs d.st) (defBody d.st) (defScope d.st) .none kV doc pm an cdv ct) ⟨us, []⟩ = pure (d.ps.zip us)
/-- .. with defaults: j of them are written, too -/
def BndD (d : Df) : Prop := d.dfl ≠ [] ∧ d.np = d.ps.length ∧ d.dfl.length ≤ d.np ∧ ∀ j, j ≤ d.dfl.length → ∀ (T : Addr) (kV doc pm : Value) (an : Option Addr) (cdv ct : Value) (us its : List Value), us.length = d.np - d.dfl.length + j → its.length = d.dfl.length →
  ∃ k, bindArgs (PySem.W.fnOf d.name d.name (defArgs d.st) (defBody d.st) (defScope d.st) (.ref T) kV doc pm an cdv ct) ⟨us, []⟩ = seqItems? (.ref T) >>= k ∧ k (some its.toArray) = pure (d.ps.zip (us ++ its.drop j))
def BndA (d : Df) : Prop := (d.dfl = [] ∧ Bnd d) ∨ BndD d
def Df.he (d : Df) : He.DefD := ⟨(d.name, none), d.name, d.name, defArgs d.st, defBody d.st, defScope d.st, d.dfl.map He.Dv.int, []⟩
theorem dfl_v {K : PySem.W.Frag} : ∀ ns : List Int, (ns.map He.Dv.int).map (He.Dv.v K) = ns.map V.int
  | [] => rfl
  | n :: ns => by show V.int n :: _ = V.int n :: _; rw [dfl_v ns]
/-- a constant of the module -/
def conFa : Str × D → List He.Fa
  | (x, .int i) => [.int x i]
  | (x, .str s) => [.str x ⟨s.toArray⟩]
  | (x, .tup _) => [.glo x]
  | _ => []
/-- an item of a tuple of the module -/
def dvOf : D → Option He.Dv
  | .non => some .non
  | .bl b => some (.bl b)
  | .int i => some (.int i)
  | .str s => some (.str ⟨s.toArray⟩)
  | _ => none
def conFlat : Str × D → Bool
  | (_, .int _) | (_, .str _) => true
  | (_, .tup xs) => xs.all fun x => (dvOf x).isSome
  | _ => false
/-- no dict hangs on it -/
def bareB (K : PySem.W.Frag) (x : Str) : Bool := match K.lookup (He.ga K x) with
  | some o => decide (o.cls = .type "tuple") && o.dict.isNone
  | none => false
theorem bareB_ok {K : PySem.W.Frag} {x : Str} (h : bareB K x = true) (H : Hp) : tyV K "tuple" (.ref (He.ga K x)) H := by
  unfold bareB at h
  split at h
  · rename_i o e
    rw [Bool.and_eq_true] at h
    exact .inr (.inl ⟨rfl, o, e, of_decide_eq_true h.1, Option.isNone_iff_eq_none.mp h.2⟩)
  · cases h
def conEx1 (K : PySem.W.Frag) : Str × D → Bool
  | (x, .tup xs) => He.tupB K x (xs.filterMap dvOf) && bareB K x
  | _ => true
def conEx (Γ : Gx) (K : PySem.W.Frag) : Bool := Γ.con.all (conEx1 K)
theorem rds_dv {K : PySem.W.Frag} {H : Hp} {μ : List Addr} : ∀ {xs : List D}, xs.all (fun x => (dvOf x).isSome) = true → RDs K H μ xs ((xs.filterMap dvOf).map (He.Dv.v K))
  | [], _ => rfl
  | x :: xs, h => by
    rw [List.all_cons, Bool.and_eq_true] at h
    have ih := rds_dv (K := K) (H := H) (μ := μ) h.2
    cases x <;> first | (cases h.1; done) | exact ⟨_, _, rfl, rfl, ih⟩
def Wk.he (w : Wk) : He.DefD := ⟨(w.name, none), w.name, w.name, defArgs w.st, defBody w.st, defScope w.st, [], []⟩
def Wk.bnd (w : Wk) : Prop := ∀ (kV doc pm : Value) (an : Option Addr) (cdv ct : Value) (us : List Value), us.length = w.ps.length → bindArgs (PySem.W.fnOf w.name w.name (defArgs w.st) (defBody w.st) (defScope w.st) .none kV doc pm an cdv ct) ⟨us, []⟩ = pure (w.ps.zip us)
def Pg.wks (p : Pg) : List Wk := p.wk.toList
def Pg.facts (p : Pg) : List He.Fa := p.Ds.map (fun d => .glo d.name) ++ (bltNames.map .free ++ (p.Γ.con.flatMap conFa ++ (p.wks.map (fun w => .glo w.name) ++ (p.Γ.exs.map (fun q => .glo q.1) ++ if p.Γ.exB = "" then [] else [.glo p.Γ.exB]))))
def Pg.defs (p : Pg) : List He.DefD := p.Ds.map Df.he ++ (p.wks.map Wk.he ++ p.Xs.map Xc.he)
def Pg.ptabs (p : Pg) : List He.Defn := (p.Ds.filter (·.tb)).map fun d => (d.name, none)
def Pg.wtabs (p : Pg) : List He.Defn := p.wks.map fun w => (w.name, none)
def Pg.tabs (p : Pg) : List He.Defn := p.ptabs ++ p.wtabs
def Pg.psOf (p : Pg) (K : PySem.W.Frag) : List Addr := p.ptabs.map fun q => (He.cT K q).2
def Pg.ltOf (p : Pg) (K : PySem.W.Frag) : List (Addr × Str) := p.wks.map fun w => ((He.cT K (w.name, none)).2, w.q)
def Pg.ex (p : Pg) (K : PySem.W.Frag) : Bool := conEx p.Γ K && (exFacts p.Γ p.Xs K && (p.psOf K).all fun P => (p.ltOf K).all fun q => !decide (q.1 = P))
/-- the head's hook -/
abbrev hook (m : Nat) (p : Pg) : PySem.W.Hook := He.hookX m p.facts p.defs [] p.tabs p.ex
/-- what the evaluator is to answer -/
def Answers (p : Pg) (k n most : Nat) : Prop := ∀ (ns : List Int), ns.length ≤ most → (∀ z ∈ ns, Builtin.Int.intBits z ≤ 1048576) → ∀ l, l ≤ 1 → ∃ G, run p.T k n [.ref 0] ⟨l, [.lst (ns.map D.int)]⟩ = .ok (.bl true) G
theorem rds_ints {K : PySem.W.Frag} {H : Hp} {μ : List Addr} : ∀ ns : List Int, RDs K H μ (ns.map D.int) (ns.map V.int)
  | [] => rfl
  | n :: ns => ⟨_, _, rfl, rfl, rds_ints ns⟩
def Pg.fnsB (p : Pg) : Bool := p.Γ.fns.all fun q => (match p.Ds[q.2]? with
  | some d => decide (d.name = q.1) && decide (p.Γ.dflOf q.1 = d.dfl)
  | none => (match p.wk with
    | some w => decide (q.2 = p.Ds.length) && (decide (w.name = q.1) && decide (p.Γ.dflOf q.1 = []))
    | none => false))
theorem Pg.fns_of {p : Pg} (h : p.fnsB = true) (x : Str) (n : Nat) (e : p.Γ.fns.lookup x = some n) : (∃ d, p.Ds[n]? = some d ∧ d.name = x ∧ p.Γ.dflOf x = d.dfl) ∨ (∃ w, p.wk = some w ∧ n = p.Ds.length ∧ w.name = x ∧ p.Γ.dflOf x = []) := by
  have := List.all_eq_true.mp h _ (PySem.mem_of_lookup e)
  cases hd : p.Ds[n]? with
  | none =>
    simp only [hd] at this
    cases hw : p.wk with
    | none => simp only [hw] at this; cases this
    | some w => simp only [hw, Bool.and_eq_true, decide_eq_true_eq] at this; exact .inr ⟨w, rfl, this.1, this.2.1, this.2.2⟩
  | some d => simp only [hd, Bool.and_eq_true, decide_eq_true_eq] at this; exact .inl ⟨d, rfl, this.1, this.2⟩
/-- what a law's own text shows of itself -/
structure PgCk (p : Pg) : Prop where
  hot : p.Γ.hot = false
  flat : p.Γ.con.all conFlat = true
  fns : p.fnsB = true
  cks : ∀ d ∈ p.Ds, d.ck p.Γ = true
  bns : ∀ d ∈ p.Ds, BndA d
  wck : ∀ w ∈ p.wks, w.ck p.Γ = true ∧ w.bnd
  nums : exNums p.Γ p.Xs = true
  xck : ∀ c ∈ p.Xs, c.ck = true ∧ c.bnd
theorem law_at {l : PySem.W.OpenLaw} {w : World} {p : Pg} {k nl most : Nat} {dl : Df} {mg : Str → Option Value} {h : Heap} {fa : Addr} {K : PySem.W.Frag} (X : K.In h) (G : h.Ns mainGlobals mg)
    (c : He.SaysX p.facts p.defs [] p.tabs p.ex w h K) (hfa : mg dl.name = some (.ref fa)) (hdl : p.Ds[nl]? = some dl) (hps : dl.ps = [("_law_script" : Str)]) (pc : PgCk p) (hdl0 : dl.dfl = []) (ans : Answers p k nl most) :
    LamX.LawAtS l w K (L2.CX l.prog w) (2 * k + 4) most "_law_script" mg fa h := by
  have cD := c.t.d
  have fact : ∀ f ∈ p.facts, f.ok K = true := fun f hf => cD.facts hf
  have glo : ∀ d ∈ p.Ds, mg d.name = some (.ref (He.ga K d.name)) := fun d hd => He.glo_ok X G (fact _ (List.mem_append_left _ (List.mem_map.mpr ⟨d, hd, rfl⟩)))
  have gloW : ∀ v ∈ p.wks, mg v.name = some (.ref (He.ga K v.name)) := fun v hv => He.glo_ok X G (fact _ (List.mem_append_right _ (List.mem_append_right _ (List.mem_append_right _ (List.mem_append_left _ (List.mem_map.mpr ⟨v, hv, rfl⟩))))))
  have gloX : ∀ q ∈ p.Γ.exs, mg q.1 = some (.ref (He.ga K q.1)) := fun q hq => He.glo_ok X G (fact _ (List.mem_append_right _ (List.mem_append_right _ (List.mem_append_right _ (List.mem_append_right _ (List.mem_append_left _ (List.mem_map.mpr ⟨q, hq, rfl⟩)))))))
  have gloB : p.Γ.exB ≠ "" → mg p.Γ.exB = some (.ref (He.ga K p.Γ.exB)) := fun hne => He.glo_ok X G (fact _ (List.mem_append_right _ (List.mem_append_right _ (List.mem_append_right _ (List.mem_append_right _ (List.mem_append_right _ (by rw [if_neg hne]; exact List.mem_singleton.mpr rfl)))))))
  have def_ : ∀ d ∈ p.Ds, ∃ fd, FunD K d.name d.name (defArgs d.st) (defBody d.st) (defScope d.st) (d.dfl.map V.int) [] (He.ga K d.name) fd := fun d hd => by
    obtain ⟨fd, F⟩ := cD.defs (d := d.he) (List.mem_append_left _ (List.mem_map.mpr ⟨d, hd, rfl⟩))
    have F : FunD K d.name d.name (defArgs d.st) (defBody d.st) (defScope d.st) ((d.dfl.map He.Dv.int).map (He.Dv.v K)) [] (He.ga K d.name) fd := F
    rw [dfl_v] at F
    exact ⟨fd, F⟩
  have defW : ∀ v ∈ p.wks, ∃ fd, FunD K v.name v.name (defArgs v.st) (defBody v.st) (defScope v.st) [] [] (He.ga K v.name) fd := fun v hv =>
    cD.defs (d := v.he) (List.mem_append_right _ (List.mem_append_left _ (List.mem_map.mpr ⟨v, hv, rfl⟩)))
  have defX : ∀ q ∈ p.Xs, ∃ fd, FunD K "__init__" (q.x ++ ".__init__") (defArgs q.st) (defBody q.st) (defScope q.st) [] [] (He.ma K (He.ga K q.x) "__init__") fd ∧ Binds K fd [("self" : Str), q.n] [] := fun q hq => by
    obtain ⟨fd, F⟩ := cD.defs (d := q.he) (List.mem_append_right _ (List.mem_append_right _ (List.mem_map.mpr ⟨q, hq, rfl⟩)))
    have F : FunD K "__init__" (q.x ++ ".__init__") (defArgs q.st) (defBody q.st) (defScope q.st) [] [] (He.ma K (He.ga K q.x) "__init__") fd := F
    exact ⟨fd, F, F.bindsN (pc.xck q hq).2⟩
  have blt : ∀ x ∈ bltNames, mg x = none := fun x hx => He.free_ok X G (fact _ (List.mem_append_right _ (List.mem_append_left _ (List.mem_map.mpr ⟨x, hx, rfl⟩))))
  have hmore := c.more
  unfold Pg.ex at hmore
  simp only [Bool.and_eq_true, List.all_eq_true] at hmore
  obtain ⟨hcon, hexf, hdis⟩ := hmore
  have con : ∀ x d, p.Γ.con.lookup x = some d → ∃ v u, mg x = some u ∧ RelV v u ∧ (∀ H μ, RD K H μ d v) ∧ ∀ xs, d = .tup xs → ∀ H, tyV K "tuple" v H := fun x d hx => by
    have hm := PySem.mem_of_lookup hx
    have hf := List.all_eq_true.mp pc.flat _ hm
    have hfa : ∀ f ∈ conFa (x, d), f.ok K = true := fun f hf => fact _ (List.mem_append_right _ (List.mem_append_right _ (List.mem_append_left _ (List.mem_flatMap.mpr ⟨_, hm, hf⟩))))
    cases d <;> try (cases hf; done)
    case int i =>
      obtain ⟨t, e⟩ := He.int_ok X G (hfa _ (List.mem_singleton.mpr rfl))
      exact ⟨.int i, _, e, ⟨t, rfl⟩, fun _ _ => rfl, fun _ e => nomatch e⟩
    case str s =>
      obtain ⟨t, e⟩ := He.str_ok X G (hfa _ (List.mem_singleton.mpr rfl))
      exact ⟨.str ⟨s.toArray⟩, _, e, ⟨t, rfl⟩, fun _ _ => rfl, fun _ e => nomatch e⟩
    case tup xs =>
      have e := He.glo_ok X G (hfa _ (List.mem_singleton.mpr rfl))
      have hx := List.all_eq_true.mp hcon _ hm
      have hx : (He.tupB K x (xs.filterMap dvOf) && bareB K x) = true := hx
      rw [Bool.and_eq_true] at hx
      exact ⟨.ref (He.ga K x), _, e, rfl, fun H μ => ⟨_, _, rfl, He.tupB_ok hx.1 H, rds_dv hf⟩, fun _ _ H => bareB_ok hx.2 H⟩
  obtain ⟨fd, F⟩ := def_ dl (List.mem_of_getElem? hdl)
  have efa : fa = He.ga K dl.name := by
    have := hfa.symm.trans (glo dl (List.mem_of_getElem? hdl))
    cases this; rfl
  subst efa
  letI : Tbl := ⟨p.psOf K, p.ltOf K, p.lmF, fun P hP q hq => (by have := hdis P hP q hq; simpa using this)⟩
  refine ⟨fd, p.tabs.map (He.cT K), spR K (xiOf p.Γ p.Xs K) dl.ps.length (run p.T k nl), fun q hq => ?_, fun q hq => ?_, fun q hq => ?_, ?_, ?_, ?_⟩
  · obtain ⟨q, hq', rfl⟩ := List.mem_map.mp hq
    exact c.empty q hq'
  · obtain ⟨q, hq', rfl⟩ := List.mem_map.mp hq
    exact c.out q hq'
  · obtain ⟨q, hq', rfl⟩ := List.mem_map.mp hq
    exact PySem.W.codeHd_of_K X (c.hd q hq')
  · intro s u
    have hbl : Bnd dl := by
      rcases pc.bns dl (List.mem_of_getElem? hdl) with h | h
      · exact h.2
      · exact absurd hdl0 h.1
    have F' := F
    rw [hdl0] at F'
    have q := FunD.bindsA (ps := dl.ps) F' hbl s [u] (by rw [hps]; rfl)
    rw [hps] at q
    exact q
  · intro H a ns hl hbits hT hS
    have tab : ∀ P ∈ Tbl.ps, GxR.TabG H P := fun P hP => by
      obtain ⟨q, hq, rfl⟩ := List.mem_map.mp hP
      exact ⟨#[], hT _ (List.mem_map.mpr ⟨q, List.mem_append_left _ hq, rfl⟩), trivial⟩
    have lam : ∀ q ∈ Tbl.lt, LamX.TabS H q.1 q.2 := fun q hq => by
      obtain ⟨v, hv, rfl⟩ := List.mem_map.mp hq
      refine ⟨#[], hT _ (List.mem_map.mpr ⟨(v.name, none), List.mem_append_right _ (List.mem_map.mpr ⟨v, hv, rfl⟩), rfl⟩), trivial, fun pos cv z => ?_⟩
      have z : codeAmong pos [] = some cv := z
      simp [codeAmong] at z
    have fin : ∀ l, l ≤ 1 → RG K H [a] ⟨l, [.lst (ns.map D.int)]⟩ → spR K (xiOf p.Γ p.Xs K) dl.ps.length (run p.T k nl) [.ref a] H (fun v _ => v = .bl true) fun _ _ _ => False := fun l hl1 rg => by
      obtain ⟨G', e⟩ := ans ns hl hbits l hl1
      refine ⟨by rw [hps]; rfl, [.ref 0], _, [a], rg, .one ⟨a, rfl, rfl⟩, ?_⟩
      rw [e]
      exact fun H' μ' x p g v rv => rv
    rcases hS with (hS | ⟨o, hS⟩) | hS
    · refine fin 0 (by omega) ⟨rfl, fun i j b _ _ h1 h2 => ?_, Nat.zero_le _, fun n c b h1 h2 => ?_, tab, lam⟩
      · have e1 := (List.getElem?_eq_some_iff.mp h1).1
        have e2 := (List.getElem?_eq_some_iff.mp h2).1
        simp only [List.length_singleton] at e1 e2
        omega
      · cases n with
        | zero =>
          cases h1; cases h2
          exact ⟨_, rds_ints ns, fun z => (by simp at z), fun _ => hS⟩
        | succ n => simp at h1
    · refine fin 1 (Nat.le_refl _) ⟨rfl, fun i j b hi hj h1 h2 => ?_, Nat.le_refl _, fun n c b h1 h2 => ?_, tab, lam⟩
      · have e1 := (List.getElem?_eq_some_iff.mp h1).1
        simp only [List.length_singleton] at e1
        have hi : 1 ≤ i := hi
        omega
      · cases n with
        | zero =>
          cases h1; cases h2
          exact ⟨_, rds_ints ns, fun _ => .inl ⟨o, hS⟩, fun z => (by simp at z)⟩
        | succ n => simp at h1
    · refine fin 1 (Nat.le_refl _) ⟨rfl, fun i j b hi hj h1 h2 => ?_, Nat.le_refl _, fun n c b h1 h2 => ?_, tab, lam⟩
      · have e1 := (List.getElem?_eq_some_iff.mp h1).1
        simp only [List.length_singleton] at e1
        have hi : 1 ≤ i := hi
        omega
      · cases n with
        | zero =>
          cases h1; cases h2
          exact ⟨_, rds_ints ns, fun _ => .inr hS, fun z => (by simp at z)⟩
        | succ n => simp at h1
  · intro base KB NB TB
    have codeAt : ∀ {x : Str} {a : List Arguments} {fd : FuncData} {nm qn : Str} {ar : Arguments} {bd : List Stmt} {sc : Scope} {dv : List V}, FunD K nm qn ar bd sc dv [] (He.ga K x) fd → fd.code = .ref (He.codeOf K (x, none)) := fun {x a fd nm qn ar bd sc dv} F => by
      obtain ⟨oc, od, dV, kV, doc, pm, an, cdv, ct, osl, rfl, lk, hcd, _, _⟩ := F.ex
      obtain ⟨cc, rfl⟩ := He.codeIn_ref hcd
      have := He.codeOf_eq (p := (x, none)) lk rfl
      show Value.ref cc = .ref (He.codeOf K (x, none))
      rw [this]
    have ok : ∀ d ∈ p.Ds, ∀ fd, FunD K d.name d.name (defArgs d.st) (defBody d.st) (defScope d.st) (d.dfl.map V.int) [] (He.ga K d.name) fd → DfOk K mg base d (He.ga K d.name) fd := fun d hd fd F => by
      refine ⟨glo d hd, F, fun j hj => ?_, fun ht => ?_⟩
      · rcases pc.bns d hd with ⟨h0, h⟩ | ⟨h0, hnp, hle, h⟩
        · have F' := F
          rw [h0] at F' ⊢
          exact ⟨[], by simp only [List.drop_nil, List.map_nil]; exact .nil, F'.bindsN h⟩
        · obtain ⟨us, v, b⟩ := F.binds1 (ps := d.ps) (d.np - d.dfl.length + j) j (by simpa using h0) (by rw [List.length_map, ← hnp]; omega) fun T kV doc pm an cdv ct us its h1 h2 => h j hj T kV doc pm an cdv ct us its h1 (by rw [h2, List.length_map])
          exact ⟨us, by rw [List.map_drop]; exact v, b⟩
      have hm : (d.name, (none : Option Str)) ∈ p.ptabs := List.mem_map.mpr ⟨d, List.mem_filter.mpr ⟨hd, ht⟩, rfl⟩
      obtain ⟨t1, t2, t3⟩ := TB _ (List.mem_map.mpr ⟨_, List.mem_append_left _ hm, rfl⟩)
      exact ⟨(He.cT K (d.name, none)).1, (He.cT K (d.name, none)).2, codeAt (a := []) F, ⟨t1, t2, t3⟩, List.mem_map.mpr ⟨_, hm, rfl⟩⟩
    have pok : PgOk p K mg base := by
      refine ⟨pc.hot, con, blt, Pg.fns_of pc.fns, pc.cks, fun d hd => ?_, fun v hv => ?_, fun f => rfl, exNums_ok pc.nums, exFacts_ok hexf, gloX, gloB, fun q hq => (pc.xck q hq).1, defX⟩
      · obtain ⟨fd', F'⟩ := def_ d hd
        exact ⟨_, fd', ok d hd fd' F'⟩
      · have hm : v ∈ p.wks := by unfold Pg.wks; rw [hv]; exact List.mem_singleton.mpr rfl
        obtain ⟨fd', F'⟩ := defW v hm
        refine ⟨(pc.wck v hm).1, _, fd', gloW v hm, F', F'.bindsN (pc.wck v hm).2, (He.cT K (v.name, none)).1, (He.cT K (v.name, none)).2, codeAt (a := []) F', TB _ (List.mem_map.mpr ⟨_, List.mem_append_right _ (List.mem_map.mpr ⟨v, hm, rfl⟩), rfl⟩), List.mem_map.mpr ⟨v, hm, rfl⟩, fun q hq e => ?_⟩
        have : p.wks = [v] := by unfold Pg.wks; rw [hv]; rfl
        obtain ⟨v', hv', rfl⟩ := List.mem_map.mp hq
        rw [this] at hv'
        rw [List.mem_singleton.mp hv']
    have := (prog_ok (P := l.prog) (w := w) pok k).fn nl dl _ fd hdl (ok dl (List.mem_of_getElem? hdl) fd F)
    rw [hps] at this ⊢
    exact this
end Cut
/-! Reasoning about the evaluator: what holds of the answer. -/
namespace Cut
open PySem
/-- the answer is a value, and P of it -/
def wp {α : Type} (r : R α) (P : α → Store → Prop) : Prop := match r with
  | .ok a G => P a G
  | _ => False
structure Po where
  nx : Env → Store → Prop
  rt : D → Store → Prop
  bk : Env → Store → Prop
  ct : Env → Store → Prop
def wps (r : RS) (D : Po) : Prop := match r with
  | .nx ρ G => D.nx ρ G
  | .rt d G => D.rt d G
  | .bk ρ G => D.bk ρ G
  | .ct ρ G => D.ct ρ G
  | _ => False
/-- by a test's answer -/
def tb (o : Option Bool) (A B : Prop) : Prop := match o with
  | some true => A
  | some false => B
  | none => False
theorem tb_dec {p : Prop} [Decidable p] {A B : Prop} : tb (some (decide p)) A B = (if p then A else B) := by
  by_cases h : p <;> simp [tb, h]
theorem tb_some {b : Bool} {A B : Prop} : tb (some b) A B = (if b = true then A else B) := by cases b <;> rfl
theorem tb_not {p : Prop} [Decidable p] {A B : Prop} : tb (some (!decide p)) A B = (if p then B else A) := by
  by_cases h : p <;> simp [tb, h]
/-- by an answer that is to be a bool -/
def zb (z : D) (A B : Prop) : Prop := match z with
  | .bl b => tb (some b) A B
  | _ => False
theorem zb_bl {b : Bool} {A B : Prop} : zb (.bl b) A B = tb (some b) A B := propext Iff.rfl
theorem tb_true {A B : Prop} : tb (some true) A B = A := propext Iff.rfl
theorem tb_false {A B : Prop} : tb (some false) A B = B := propext Iff.rfl
section
variable {α β : Type} {r : R α} {P : α → Store → Prop} {ρ : Env} {G : Store} {C : CallF}
theorem wp_iff : wp r P ↔ ∃ a G, r = .ok a G ∧ P a G := by
  cases r with
  | ok a G => exact ⟨fun h => ⟨a, G, rfl, h⟩, fun ⟨_, _, e, h⟩ => by cases e; exact h⟩
  | _ => exact ⟨fun h => h.elim, fun ⟨_, _, e, _⟩ => nomatch e⟩
theorem wp.imp {P' : α → Store → Prop} (h : wp r P) (k : ∀ a G, P a G → P' a G) : wp r P' := by
  cases r with
  | ok a G => exact k a G h
  | _ => exact h
theorem wps.imp {r : RS} {D D' : Po} (h : wps r D) (h1 : ∀ ρ G, D.nx ρ G → D'.nx ρ G) (h2 : ∀ d G, D.rt d G → D'.rt d G) (h3 : ∀ ρ G, D.bk ρ G → D'.bk ρ G) (h4 : ∀ ρ G, D.ct ρ G → D'.ct ρ G) : wps r D' := by
  cases r with
  | nx ρ G => exact h1 ρ G h
  | rt d G => exact h2 d G h
  | bk ρ G => exact h3 ρ G h
  | ct ρ G => exact h4 ρ G h
  | _ => exact h
theorem wp_ok (a : α) (G : Store) : wp (.ok a G) P = P a G := propext Iff.rfl
theorem wp_stuck : wp (.stuck : R α) P = False := propext Iff.rfl
theorem wp_bind {f : α → Store → R β} {P : β → Store → Prop} : wp (r.bind f) P = wp r fun a G => wp (f a G) P := by cases r <;> rfl
theorem wp_noExc : wp (noExc r) P = wp r P := by cases r <;> rfl
theorem wp_ite {c : Prop} [Decidable c] {a b : R α} : wp (if c then a else b) P = (if c then wp a P else wp b P) := by split <;> rfl
theorem wp_of_eq {a : α} {G : Store} (e : r = .ok a G) (h : P a G) : wp r P := by rw [e]; exact h
/-! expressions -/
section
variable {P : D → Store → Prop}
theorem w_k {d : D} : wp (ev C (.k d) ρ G) P = P d G := propext Iff.rfl
theorem w_v {i : Nat} : wp (ev C (.v i) ρ G) P = (match ρ[i]? with
  | some (some d) => P d G
  | _ => False) := by
  show wp (mV i ρ G) P = _
  unfold mV
  rcases ρ[i]? with _ | (_ | _) <;> rfl
theorem w_un {o : Op1} {a : Ex} : wp (ev C (.un o a) ρ G) P = wp (ev C a ρ G) fun x G1 => wp (op1 o x G1) P := by
  show wp (mUn o (ev C a) ρ G) P = _
  unfold mUn; simp only [wp_bind, wp_noExc]
theorem w_bin {o : Op2} {a b : Ex} : wp (ev C (.bin o a b) ρ G) P = wp (ev C a ρ G) fun x G1 => wp (ev C b ρ G1) fun y G2 => wp (op2 o x y G2) P := by
  show wp (mBin o (ev C a) (ev C b) ρ G) P = _
  unfold mBin; simp only [wp_bind, wp_noExc]
theorem w_and {a b : Ex} : wp (ev C (.and a b) ρ G) P = wp (ev C a ρ G) fun x G1 => tb (truthy x G1) (wp (ev C b ρ G1) P) (P x G1) := by
  show wp (mAnd (ev C a) (ev C b) ρ G) P = _
  unfold mAnd; rw [wp_bind]; congr; funext x G1; rcases truthy x G1 with _ | (_ | _) <;> rfl
theorem w_or {a b : Ex} : wp (ev C (.or a b) ρ G) P = wp (ev C a ρ G) fun x G1 => tb (truthy x G1) (P x G1) (wp (ev C b ρ G1) P) := by
  show wp (mOr (ev C a) (ev C b) ρ G) P = _
  unfold mOr; rw [wp_bind]; congr; funext x G1; rcases truthy x G1 with _ | (_ | _) <;> rfl
theorem w_ite {c a b : Ex} : wp (ev C (.ite c a b) ρ G) P = wp (ev C c ρ G) fun x G1 => tb (truthy x G1) (wp (ev C a ρ G1) P) (wp (ev C b ρ G1) P) := by
  show wp (mIte (ev C c) (ev C a) (ev C b) ρ G) P = _
  unfold mIte; rw [wp_bind]; congr; funext x G1; rcases truthy x G1 with _ | (_ | _) <;> rfl
theorem w_chain {o p : Op2} {a b c : Ex} : wp (ev C (.chain o p a b c) ρ G) P = wp (ev C a ρ G) fun x G1 => wp (ev C b ρ G1) fun y G2 => wp (op2 o x y G2) fun z G3 => zb z (wp (ev C c ρ G3) fun w G4 => wp (op2 p y w G4) P) (P (.bl false) G3) := by
  show wp (mChain o p (ev C a) (ev C b) (ev C c) ρ G) P = _
  unfold mChain
  simp only [wp_bind, wp_noExc]
  congr; funext x G1; congr; funext y G2; congr; funext z G3
  cases z <;> try rfl
  case bl b => cases b <;> first | rfl | (simp only [wp_bind, wp_noExc]; rfl)
theorem w_tup {es : Exs} : wp (ev C (.tup es) ρ G) P = wp (evs C es ρ G) fun xs G1 => xs.length ≤ sizeLine ∧ P (.tup xs) G1 := by
  show wp (mTup (evs C es) ρ G) P = _
  unfold mTup; rw [wp_bind]; congr; funext xs G1
  by_cases h : xs.length ≤ sizeLine <;> simp [h, wp]
theorem wp_newL {xs : List D} : wp (newL xs G) P = (xs.length ≤ sizeLine ∧ P (.ref G.cs.length) (G.new (.lst xs))) := by
  unfold newL
  by_cases h : xs.length ≤ sizeLine <;> simp [h, wp]
theorem w_lst {es : Exs} : wp (ev C (.lst es) ρ G) P = wp (evs C es ρ G) fun xs G1 => xs.length ≤ sizeLine ∧ P (.ref G1.cs.length) (G1.new (.lst xs)) := by
  show wp (mLst (evs C es) ρ G) P = _
  unfold mLst; simp only [wp_bind, wp_newL]
theorem w_dic0 : wp (ev C .dic0 ρ G) P = P (.ref G.cs.length) (G.new (.dic [])) := propext Iff.rfl
theorem w_sl {a : Ex} {lo hi : Exo} : wp (ev C (.sl a lo hi) ρ G) P = wp (ev C a ρ G) fun x G1 => wp (evo C lo ρ G1) fun l G2 => wp (evo C hi ρ G2) fun h G3 => wp (opSl x l h G3) P := by
  show wp (mSl (ev C a) (evo C lo) (evo C hi) ρ G) P = _
  unfold mSl; simp only [wp_bind, wp_noExc]
theorem w_rev {a : Ex} : wp (ev C (.rev a) ρ G) P = wp (ev C a ρ G) fun x G1 => wp (opRev x G1) P := by
  show wp (mRev (ev C a) ρ G) P = _
  unfold mRev; simp only [wp_bind, wp_noExc]
theorem w_call {n : Nat} {es : Exs} : wp (ev C (.call n es) ρ G) P = wp (evs C es ρ G) fun xs G1 => wp (C n xs G1) P := by
  show wp (mArgs (C n) (evs C es) ρ G) P = _
  unfold mArgs; simp only [wp_bind]
theorem w_callD {n : Nat} {es : Exs} {ds : List Int} : wp (ev C (.callD n es ds) ρ G) P = wp (evs C es ρ G) fun xs G1 => wp (C n (xs ++ ds.map .int) G1) P := by
  show wp (mArgs _ (evs C es) ρ G) P = _
  unfold mArgs; simp only [wp_bind]
theorem w_bf {b : Bf} {es : Exs} : wp (ev C (.bf b es) ρ G) P = wp (evs C es ρ G) fun xs G1 => wp (bf b xs G1) P := by
  show wp (mArgs _ (evs C es) ρ G) P = _
  unfold mArgs; simp only [wp_bind, wp_noExc]
theorem w_mt {m : Mt} {o : Ex} {es : Exs} : wp (ev C (.mt m o es) ρ G) P = wp (ev C o ρ G) fun x G1 => mtTy m x G1 = true ∧ wp (evs C es ρ G1) fun xs G2 => wp (mt m x xs G2) P := by
  show wp (mMt m (ev C o) (evs C es) ρ G) P = _
  unfold mMt; rw [wp_bind]; congr; funext x G1
  by_cases h : mtTy m x G1 = true <;> simp [h, wp_bind, wp_noExc, wp_stuck]
theorem w_nil {P : List D → Store → Prop} : wp (evs C .nil ρ G) P = P [] G := propext Iff.rfl
theorem w_cons {e : Ex} {es : Exs} {P : List D → Store → Prop} : wp (evs C (.cons e es) ρ G) P = wp (ev C e ρ G) fun x G1 => wp (evs C es ρ G1) fun xs G2 => P (x :: xs) G2 := by
  show wp (mCons (ev C e) (evs C es) ρ G) P = _
  unfold mCons; simp only [wp_bind, wp_ok]
theorem w_no {P : Option Int → Store → Prop} : wp (evo C .none ρ G) P = P none G := propext Iff.rfl
theorem w_some {e : Ex} {P : Option Int → Store → Prop} : wp (evo C (.some e) ρ G) P = wp (ev C e ρ G) fun x G1 => match x with
  | .int i => P (some i) G1
  | _ => False := by
  show wp (mSome (ev C e) ρ G) P = _
  unfold mSome; rw [wp_bind]; congr; funext x G1; cases x <;> rfl
end
/-! statements -/
section
variable {D : Po}
theorem wps_ofR {f : α → Store → RS} : wps (RS.ofR r ρ f) D = wp r fun a G1 => wps (f a G1) D := by cases r <;> rfl
theorem s_pass : wps (ex C .pass ρ G) D = D.nx ρ G := propext Iff.rfl
theorem s_nil : wps (exs C .nil ρ G) D = D.nx ρ G := propext Iff.rfl
theorem s_cons {s : Sm} {ss : Sms} : wps (exs C (.cons s ss) ρ G) D = wps (ex C s ρ G) { D with nx := fun ρ1 G1 => wps (exs C ss ρ1 G1) D } := by
  show wps (sSeq (ex C s) (exs C ss) ρ G) D = _
  unfold sSeq
  cases h : ex C s ρ G <;> rfl
theorem s_expr {e : Ex} : wps (ex C (.expr e) ρ G) D = wp (ev C e ρ G) fun _ G1 => D.nx ρ G1 := by
  show wps (sExpr (ev C e) ρ G) D = _
  unfold sExpr; rw [wps_ofR]; rfl
theorem s_set {t : Tg} {e : Ex} : wps (ex C (.set t e) ρ G) D = wp (ev C e ρ G) fun x G1 => match t.bind x ρ with
  | some ρ1 => D.nx ρ1 G1
  | none => False := by
  show wps (sSet t (ev C e) ρ G) D = _
  unfold sSet; rw [wps_ofR]; congr; funext x G1; rcases t.bind x ρ with _ | _ <;> rfl
theorem s_par {is : List Nat} {es : Exs} : wps (ex C (.par is es) ρ G) D = wp (evs C es ρ G) fun xs G1 => match bindN is xs ρ with
  | some ρ1 => D.nx ρ1 G1
  | none => False := by
  show wps (sPar is (evs C es) ρ G) D = _
  unfold sPar; rw [wps_ofR]; congr; funext x G1; rcases bindN is x ρ with _ | _ <;> rfl
theorem s_setIx {a i e : Ex} : wps (ex C (.setIx a i e) ρ G) D = wp (ev C e ρ G) fun d G1 => wp (ev C a ρ G1) fun o G2 => wp (ev C i ρ G2) fun k G3 => match setAt o k d G3 with
  | some G4 => D.nx ρ G4
  | none => False := by
  show wps (sSetIx (ev C a) (ev C i) (ev C e) ρ G) D = _
  unfold sSetIx; simp only [wps_ofR]; congr; funext d G1; congr; funext o G2; congr; funext k G3; rcases setAt o k d G3 with _ | _ <;> rfl
theorem s_setKey {a i e : Ex} : wps (ex C (.setKey a i e) ρ G) D = wp (ev C e ρ G) fun d G1 => wp (ev C a ρ G1) fun o G2 => wp (ev C i ρ G2) fun k G3 => match setKeyAt o k d G3 with
  | some G4 => D.nx ρ G4
  | none => False := by
  show wps (sSetKey (ev C a) (ev C i) (ev C e) ρ G) D = _
  unfold sSetKey; simp only [wps_ofR]; congr; funext d G1; congr; funext o G2; congr; funext k G3; rcases setKeyAt o k d G3 with _ | _ <;> rfl
theorem s_augIx {a i : Ex} {o : Op2} {e : Ex} : wps (ex C (.augIx a i o e) ρ G) D = wp (ev C a ρ G) fun p G1 => wp (ev C i ρ G1) fun k G2 => wp (op2 .ix p k G2) fun x G3 => wp (ev C e ρ G3) fun y G4 => wp (opAug o x y G4) fun z G5 => match setAt p k z G5 with
  | some G6 => D.nx ρ G6
  | none => False := by
  show wps (sAugIx (ev C a) (ev C i) o (ev C e) ρ G) D = _
  unfold sAugIx; simp only [wps_ofR, wp_noExc]; congr; funext p G1; congr; funext k G2; congr; funext x G3; congr; funext y G4; congr; funext z G5; rcases setAt p k z G5 with _ | _ <;> rfl
theorem s_aug {i : Nat} {o : Op2} {e : Ex} : wps (ex C (.aug i o e) ρ G) D = (match ρ[i]? with
  | some (some x) => wp (ev C e ρ G) fun y G1 => wp (opAug o x y G1) fun z G2 => D.nx (ρ.set i (some z)) G2
  | _ => False) := by
  show wps (sAug i o (ev C e) ρ G) D = _
  unfold sAug
  rcases ρ[i]? with _ | (_ | x)
  · rfl
  · rfl
  · simp only [wps_ofR, wp_noExc]; rfl
theorem s_ifs {c : Ex} {a b : Sms} : wps (ex C (.ifs c a b) ρ G) D = wp (ev C c ρ G) fun x G1 => tb (truthy x G1) (wps (exs C a ρ G1) D) (wps (exs C b ρ G1) D) := by
  show wps (sIf (ev C c) (exs C a) (exs C b) ρ G) D = _
  unfold sIf; rw [wps_ofR]; congr; funext x G1; rcases truthy x G1 with _ | (_ | _) <;> rfl
theorem s_ret {e : Ex} : wps (ex C (.ret e) ρ G) D = wp (ev C e ρ G) D.rt := by
  show wps (sRet (ev C e) ρ G) D = _
  unfold sRet; rw [wps_ofR]; rfl
theorem s_retN : wps (ex C .retN ρ G) D = D.rt .non G := propext Iff.rfl
theorem s_brk : wps (ex C .brk ρ G) D = D.bk ρ G := propext Iff.rfl
theorem s_cnt : wps (ex C .cnt ρ G) D = D.ct ρ G := propext Iff.rfl
theorem s_never : wps (ex C .never ρ G) D = False := propext Iff.rfl
/-- while, by an invariant with a measure -/
theorem s_while {c : Ex} {a : Sms} (I : Nat → Env → Store → Prop) (m0 : Nat) (hm : m0 < loopFuel) (h0 : I m0 ρ G)
    (turn : ∀ m ρ G, I m ρ G → wp (ev C c ρ G) fun x G1 => tb (truthy x G1) (wps (exs C a ρ G1) { D with nx := fun ρ' G' => ∃ m', m' < m ∧ I m' ρ' G', ct := fun ρ' G' => ∃ m', m' < m ∧ I m' ρ' G', bk := D.nx }) (D.nx ρ G1)) : wps (ex C (.whil c a) ρ G) D := by
  show wps (whileGo (ev C c) (exs C a) loopFuel ρ G) D
  have go : ∀ (f m : Nat) (ρ : Env) (G : Store), m < f → I m ρ G → wps (whileGo (ev C c) (exs C a) f ρ G) D := by
    intro f
    induction f with
    | zero => intro m ρ G h; exact absurd h (Nat.not_lt_zero _)
    | succ f ih =>
      intro m ρ G h hI
      unfold whileGo
      rw [wps_ofR]
      refine (turn m ρ G hI).imp fun x G1 hx => ?_
      rcases e : truthy x G1 with _ | (_ | _) <;> rw [e] at hx
      · exact hx.elim
      · exact hx
      · simp only
        cases hb : exs C a ρ G1 with
        | nx ρ2 G2 => rw [hb] at hx; obtain ⟨m', h', hI'⟩ := hx; exact ih m' ρ2 G2 (by omega) hI'
        | ct ρ2 G2 => rw [hb] at hx; obtain ⟨m', h', hI'⟩ := hx; exact ih m' ρ2 G2 (by omega) hI'
        | bk ρ2 G2 => rw [hb] at hx; exact hx
        | rt d G2 => rw [hb] at hx; exact hx
        | exc n fs ρ2 G2 => rw [hb] at hx; exact hx
        | stuck => rw [hb] at hx; exact hx
  exact go loopFuel m0 ρ G hm h0
/-- for: what the iterator yields at the i-th turn -/
theorem s_forGo {t : Tg} {v : Itv} {a : Sms} (I : Nat → Env → Store → Prop) (n : Nat) (hn : n < loopFuel) (h0 : I 0 ρ G)
    (turn : ∀ i ρ G, i < n → I i ρ G → ∃ d, v.at i G = some (some d) ∧ ∃ ρ1, t.bind d ρ = some ρ1 ∧ wps (exs C a ρ1 G) { D with nx := I (i + 1), ct := I (i + 1), bk := D.nx })
    (done : ∀ ρ G, I n ρ G → v.at n G = some none ∧ D.nx ρ G) : wps (forGo t v (exs C a) loopFuel 0 ρ G) D := by
  have go : ∀ (f i : Nat) (ρ : Env) (G : Store), n - i < f → i ≤ n → I i ρ G → wps (forGo t v (exs C a) f i ρ G) D := by
    intro f
    induction f with
    | zero => intro i ρ G h; exact absurd h (Nat.not_lt_zero _)
    | succ f ih =>
      intro i ρ G h hi hI
      unfold forGo
      by_cases hlt : i < n
      · obtain ⟨d, e1, ρ1, e2, hb⟩ := turn i ρ G hlt hI
        rw [e1]; simp only [e2]
        cases hx : exs C a ρ1 G with
        | nx ρ2 G2 => rw [hx] at hb; exact ih (i + 1) ρ2 G2 (by omega) hlt hb
        | ct ρ2 G2 => rw [hx] at hb; exact ih (i + 1) ρ2 G2 (by omega) hlt hb
        | bk ρ2 G2 => rw [hx] at hb; exact hb
        | rt d G2 => rw [hx] at hb; exact hb
        | exc n fs ρ2 G2 => rw [hx] at hb; exact hb
        | stuck => rw [hx] at hb; exact hb
      · have e : i = n := by omega
        subst e
        obtain ⟨e1, hd⟩ := done ρ G hI
        rw [e1]; exact hd
  exact go loopFuel 0 ρ G (by omega) (Nat.zero_le _) h0
theorem s_for {t : Tg} {it : It} {a : Sms} : wps (ex C (.for_ t it a) ρ G) D = wp (evi C it ρ G) fun v G1 => wps (forGo t v (exs C a) loopFuel 0 ρ G1) D := by
  show wps (sFor t (evi C it) (exs C a) ρ G) D = _
  unfold sFor; rw [wps_ofR]
end
/-! iterables -/
section
variable {P : Itv → Store → Prop}
theorem i_one {e : Ex} : wp (evi C (.one e) ρ G) P = wp (ev C e ρ G) fun x G1 => match srcOf x G1 with
  | some s => P (.one s) G1
  | none => False := by
  show wp (mOne (ev C e) ρ G) P = _
  unfold mOne; rw [wp_bind]; congr; funext x G1; rcases srcOf x G1 with _ | _ <;> rfl
theorem i_rng1 {e : Ex} : wp (evi C (.rng1 e) ρ G) P = wp (ev C e ρ G) fun x G1 => match x with
  | .int j => -(2 ^ 62) ≤ j ∧ j < 2 ^ 62 ∧ P (.rng 0 j.toNat) G1
  | _ => False := by
  show wp (mRng1 (ev C e) ρ G) P = _
  unfold mRng1; rw [wp_bind]; congr; funext x G1
  cases x <;> try rfl
  case int j =>
    by_cases h : -(2 ^ 62) ≤ j ∧ j < 2 ^ 62
    · simp only [h, and_self, if_true, true_and, wp]
    · simp only [h, if_false, wp]; exact (eq_false fun z => h ⟨z.1, z.2.1⟩).symm
theorem i_zip {e f : Ex} : wp (evi C (.zip e f) ρ G) P = wp (ev C e ρ G) fun x G1 => wp (ev C f ρ G1) fun y G2 => match x, y with
  | .tup xs, .tup ys => P (.zip (.fix xs) (.fix ys)) G2
  | .ref m, .ref n => ((G2.lst? m).isSome ∧ (G2.lst? n).isSome) ∧ P (.zip (.cell m) (.cell n)) G2
  | _, _ => False := by
  show wp (mZip (ev C e) (ev C f) ρ G) P = _
  unfold mZip; simp only [wp_bind]; congr; funext x G1; congr; funext y G2
  cases x <;> cases y <;> try rfl
  case ref.ref m n =>
    by_cases h : (G2.lst? m).isSome ∧ (G2.lst? n).isSome
    · simp only [h, and_self, if_true, true_and, wp]
    · simp only [h, if_false, wp, false_and]
theorem i_enum {e : Ex} : wp (evi C (.enum e) ρ G) P = wp (ev C e ρ G) fun x G1 => match x with
  | .tup xs => P (.enum (.fix xs)) G1
  | .ref n => (G1.lst? n).isSome ∧ P (.enum (.cell n)) G1
  | _ => False := by
  show wp (mEnum (ev C e) ρ G) P = _
  unfold mEnum; simp only [wp_bind]; congr; funext x G1
  cases x <;> try rfl
  case ref n =>
    by_cases h : (G1.lst? n).isSome = true <;> simp [h, wp]
theorem i_rng2 {e f : Ex} : wp (evi C (.rng2 e f) ρ G) P = wp (ev C e ρ G) fun x G1 => wp (ev C f ρ G1) fun y G2 => match x, y with
  | .int i, .int j => (-(2 ^ 62) ≤ i ∧ i < 2 ^ 62 ∧ -(2 ^ 62) ≤ j ∧ j < 2 ^ 62) ∧ P (.rng i (j - i).toNat) G2
  | _, _ => False := by
  show wp (mRng2 (ev C e) (ev C f) ρ G) P = _
  unfold mRng2; simp only [wp_bind]; congr; funext x G1; congr; funext y G2
  cases x <;> cases y <;> try rfl
  case int.int i j =>
    by_cases h : -(2 ^ 62) ≤ i ∧ i < 2 ^ 62 ∧ -(2 ^ 62) ≤ j ∧ j < 2 ^ 62
    · simp only [h, and_self, if_true, true_and, wp]
    · simp only [h, if_false, wp, false_and]
end
end
/-! comprehensions, all, any -/
section
variable {C : CallF} {ρ : Env} {G : Store} {P : D → Store → Prop}
/-- all / any by an invariant -/
theorem w_gen {al : Bool} {t : Tg} {it : It} {e : Ex} {own : List Nat} : wp (ev C (.gen al t it e own) ρ G) P = wp (evi C it ρ G) fun v G1 => wp (genGo al t v (ev C e) (wipeE ρ own) loopFuel 0 G1) P := by
  show wp (mGen al t (evi C it) (ev C e) own ρ G) P = _
  unfold mGen; simp only [wp_bind, wp_noExc]
/-- every element answers as al -/
theorem genGo_all {al : Bool} {t : Tg} {v : Itv} {e : ME} {n : Nat} (hn : n < loopFuel) (stop : v.at n G = some none)
    (turn : ∀ i, i < n → ∃ d ρ1, v.at i G = some (some d) ∧ t.bind d ρ = some ρ1 ∧ e ρ1 G = .ok (.bl al) G) (h : P (.bl al) G) : wp (genGo al t v e ρ loopFuel 0 G) P := by
  have go : ∀ (f i : Nat), n - i < f → i ≤ n → wp (genGo al t v e ρ f i G) P := by
    intro f
    induction f with
    | zero => intro i h; exact absurd h (Nat.not_lt_zero _)
    | succ f ih =>
      intro i h1 hi
      unfold genGo
      by_cases hlt : i < n
      · obtain ⟨d, ρ1, e1, e2, e3⟩ := turn i hlt
        rw [e1]; simp only [e2, e3, R.bind, if_true]
        exact ih (i + 1) (by omega) hlt
      · have : i = n := by omega
        subst this
        rw [stop]; exact h
  exact go loopFuel 0 (by omega) (Nat.zero_le _)
/-- the i-th turn's elements: I by the turn and the store, the new list at n within it -/
theorem compGo_inv {t : Tg} {v : Itv} {c : Option ME} {e : ME} {n k : Nat} (I : Nat → Store → Prop) {Q : Store → Prop} (hk : k < loopFuel) (h0 : I 0 G) (stop : ∀ G, I k G → v.at k G = some none ∧ Q G)
    (turn : ∀ i G, i < k → I i G → ∃ d ρ1, v.at i G = some (some d) ∧ t.bind d ρ = some ρ1 ∧ wp ((match c with
          | none => R.ok true G
          | some m => (m ρ1 G).bind fun x G1 => match truthy x G1 with
            | some b => .ok b G1
            | none => .stuck)) fun b G1 => if b = true then wp (e ρ1 G1) fun x G2 => ∃ ys, G2.lst? n = some ys ∧ G2.lim ≤ n ∧ ys.length < sizeLine ∧ I (i + 1) (G2.put n (.lst (ys ++ [x]))) else I (i + 1) G1) :
    wp (compGo t v c e ρ n loopFuel 0 G) fun _ G' => Q G' := by
  have go : ∀ (f i : Nat) (G : Store), k - i < f → i ≤ k → I i G → wp (compGo t v c e ρ n f i G) fun _ G' => Q G' := by
    intro f
    induction f with
    | zero => intro i G h; exact absurd h (Nat.not_lt_zero _)
    | succ f ih =>
      intro i G h1 hi hI
      unfold compGo
      by_cases hlt : i < k
      · obtain ⟨d, ρ1, e1, e2, h⟩ := turn i G hlt hI
        rw [e1]; simp only [e2]
        rw [wp_bind]
        refine h.imp fun b G1 hb => ?_
        cases b with
        | true =>
          simp only [if_true] at hb ⊢
          rw [wp_bind]
          refine hb.imp fun x G2 ⟨ys, h1, h2, h3, h4⟩ => ?_
          rw [h1]
          simp only [h2, h3, and_self, if_true]
          exact ih (i + 1) _ (by omega) hlt h4
        | false =>
          simp only [Bool.false_eq_true, if_false] at hb ⊢
          exact ih (i + 1) _ (by omega) hlt hb
      · have : i = k := by omega
        subst this
        obtain ⟨e1, q⟩ := stop G hI
        rw [e1]; exact q
  exact go loopFuel 0 G (by omega) (Nat.zero_le _) h0
theorem w_comp {t : Tg} {it : It} {c : Exo} {e : Ex} {own : List Nat} : wp (ev C (.comp t it c e own) ρ G) P = wp (evi C it ρ G) fun v G1 => wp (compGo t v (evc C c) (ev C e) (wipeE ρ own) G1.cs.length loopFuel 0 (G1.new (.lst []))) fun _ G2 => P (.ref G1.cs.length) G2 := by
  show wp (mComp t (evi C it) (evc C c) (ev C e) own ρ G) P = _
  unfold mComp; simp only [wp_bind, wp_noExc, wp_ok]
end
/-! calls -/
section
variable {T : List Fd} {f k : Nat} {ds : List D} {G : Store} {fd : Fd}
/-- a def's answer, by its body: Q is asked of the answer ahead of the forgetting -/
theorem run_wp {P : D → Store → Prop} (h : T[f]? = some fd) (hl : ds.length = fd.ps) (hb : wps (exs (run T k) fd.body (start fd.ns ds) G) ⟨fun _ G' => wp (gc G (.ok .non G')) P, fun d G' => wp (gc G (.ok d G')) P, fun _ _ => False, fun _ _ => False⟩) : wp (run T (k + 1) f ds G) P := by
  unfold run
  rw [h]
  simp only [if_pos hl]
  cases hx : exs (run T k) fd.body (start fd.ns ds) G <;> rw [hx] at hb <;> first | exact hb | exact hb.elim
theorem gcOk_self : ∀ (n : Nat) (cs xs : List Cell), gcOk n cs (cs ++ xs) = true
  | _, [], _ => rfl
  | n, c :: cs, xs => by
    show ((decide (c = c) || cellBelow n c) && gcOk n cs (cs ++ xs)) = true
    rw [gcOk_self n cs xs, decide_eq_true rfl]; rfl
/-- G has grown -/
structure Grown (B G : Store) : Prop where
  lim : G.lim = B.lim
  cs : ∃ xs, G.cs = B.cs ++ xs
theorem Grown.refl (G : Store) : Grown G G := ⟨rfl, [], (List.append_nil _).symm⟩
theorem Grown.new {B G : Store} (g : Grown B G) (c : Cell) : Grown B (G.new c) := by
  obtain ⟨h, xs, e⟩ := g
  exact ⟨h, xs ++ [c], by show G.cs ++ [c] = _; rw [e, List.append_assoc]⟩
theorem Grown.trans {A B G : Store} (a : Grown A B) (b : Grown B G) : Grown A G := by
  obtain ⟨h, xs, e⟩ := a
  obtain ⟨h', ys, e'⟩ := b
  exact ⟨h'.trans h, xs ++ ys, by rw [e', e, List.append_assoc]⟩
theorem Grown.len {B G : Store} (g : Grown B G) : B.cs.length ≤ G.cs.length := by
  obtain ⟨_, xs, e⟩ := g
  rw [e, List.length_append]; omega
theorem Grown.put {B G : Store} (g : Grown B G) {n : Nat} (hn : n < B.cs.length) (c : Cell) : Grown (B.put n c) (G.put n c) := by
  obtain ⟨h, xs, e⟩ := g
  exact ⟨h, xs, by show G.cs.set n c = B.cs.set n c ++ xs; rw [e, List.set_append_left _ _ hn]⟩
/-- the new cells beyond the base may change -/
theorem Grown.putNew {B G : Store} (g : Grown B G) {n : Nat} (hn : B.cs.length ≤ n) (c : Cell) : Grown B (G.put n c) := by
  obtain ⟨h, xs, e⟩ := g
  exact ⟨h, xs.set (n - B.cs.length) c, by show G.cs.set n c = _; rw [e, List.set_append_right _ _ hn]⟩
theorem lt_of_lst {G : Store} {n : Nat} {xs : List D} (h : G.lst? n = some xs) : n < G.cs.length := by
  unfold Store.lst? at h
  split at h
  · rename_i e; exact (List.getElem?_eq_some_iff.mp e).1
  · cases h
theorem Grown.lst {B G : Store} (g : Grown B G) {n : Nat} {xs : List D} (h : B.lst? n = some xs) : G.lst? n = some xs := by
  have hl := lt_of_lst h
  obtain ⟨_, ys, e⟩ := g
  unfold Store.lst? at h ⊢
  rw [e, List.getElem?_append_left hl]; exact h
theorem lst_new {G : Store} {xs : List D} : (G.new (.lst xs)).lst? G.cs.length = some xs := by
  unfold Store.lst? Store.new
  rw [List.getElem?_append_right (Nat.le_refl _), Nat.sub_self]; rfl
theorem lst_new_old {G : Store} {c : Cell} {n : Nat} {xs : List D} (h : G.lst? n = some xs) : (G.new c).lst? n = some xs := ((Grown.refl G).new c).lst h
theorem lst_put {G : Store} {n : Nat} {xs : List D} (h : n < G.cs.length) : (G.put n (.lst xs)).lst? n = some xs := by
  unfold Store.lst? Store.put
  rw [List.getElem?_set_self h]
theorem lst_put_ne {G : Store} {n m : Nat} {c : Cell} (h : n ≠ m) : (G.put n c).lst? m = G.lst? m := by
  unfold Store.lst? Store.put
  rw [List.getElem?_set_ne h]
theorem put_put {G : Store} {n : Nat} {c d : Cell} : (G.put n c).put n d = G.put n d := by
  unfold Store.put
  rw [List.set_set]
theorem len_put {G : Store} {n : Nat} {c : Cell} : (G.put n c).cs.length = G.cs.length := List.length_set ..
theorem len_new {G : Store} {c : Cell} : (G.new c).cs.length = G.cs.length + 1 := by show (G.cs ++ [c]).length = _; rw [List.length_append]; rfl
theorem take_grown {B G : Store} (g : Grown B G) : ({ G with cs := G.cs.take B.cs.length } : Store) = B := by
  obtain ⟨h, xs, e⟩ := g
  rw [e, List.take_left]
  cases B; cases G
  simp only at h; subst h; rfl
/-- nothing old has changed, the answer names nothing new -/
theorem gc_grown {G G' : Store} {d : D} (g : Grown G G') (h : below G.cs.length d = true) : gc G (.ok d G') = .ok d G := by
  have e : gcOk G.cs.length G.cs G'.cs = true := by
    obtain ⟨_, xs, e⟩ := g
    rw [e]; exact gcOk_self _ _ _
  have t := take_grown g
  have hl : G'.lim = G.lim := g.lim
  simp only [gc, e, h, if_true, Bool.and_true]
  rw [if_pos (decide_eq_true hl), t]
theorem gcOk_set : ∀ (n : Nat) (cs xs : List Cell) (i : Nat) (c : Cell), cellBelow n c = true → gcOk n cs (cs.set i c ++ xs) = true
  | _, [], _, _, _, _ => rfl
  | n, a :: cs, xs, 0, c, h => by
    show ((decide (a = c) || cellBelow n c) && gcOk n cs (cs ++ xs)) = true
    rw [h, gcOk_self, Bool.or_true]; rfl
  | n, a :: cs, xs, i + 1, c, h => by
    show ((decide (a = a) || cellBelow n a) && gcOk n cs (cs.set i c ++ xs)) = true
    rw [gcOk_set n cs xs i c h, decide_eq_true rfl]; rfl
/-- one old cell has changed -/
theorem gc_put {G G' : Store} {d : D} {i : Nat} {c : Cell} (g : Grown (G.put i c) G') (hc : cellBelow G.cs.length c = true) (h : below G.cs.length d = true) : gc G (.ok d G') = .ok d (G.put i c) := by
  have e : gcOk G.cs.length G.cs G'.cs = true := by
    obtain ⟨_, xs, e⟩ := g
    rw [e]; exact gcOk_set _ _ _ _ _ hc
  have hl : G'.lim = G.lim := g.lim
  have t := take_grown g
  rw [len_put] at t
  simp only [gc, e, h, if_true, Bool.and_true]
  rw [if_pos (decide_eq_true hl), t]
/-- the answer is a new list -/
theorem gc_newL {G G' : Store} {m : Nat} {xs : List D} (g : Grown G G') (hm : G.cs.length ≤ m) (h : G'.lst? m = some xs) (hb : belows G.cs.length xs = true) : gc G (.ok (.ref m) G') = .ok (.ref G.cs.length) (G.new (.lst xs)) := by
  have e : gcOk G.cs.length G.cs G'.cs = true := by
    obtain ⟨_, xs, e⟩ := g
    rw [e]; exact gcOk_self _ _ _
  have hl : G'.lim = G.lim := g.lim
  have hc : G'.cs[m]? = some (.lst xs) := by
    unfold Store.lst? at h
    split at h
    · rename_i e; cases h; exact e
    · cases h
  have nb : below G.cs.length (.ref m) = false := by unfold below; exact decide_eq_false (by omega)
  have t := take_grown g
  have e2 : G'.cs.take G.cs.length = G.cs := congrArg Store.cs t
  simp only [gc, e, Bool.and_true]
  rw [if_pos (decide_eq_true hl), nb]
  simp only [Bool.false_eq_true, if_false, hc]
  rw [if_pos ⟨hm, hb⟩, e2, hl]
  rfl
end
end Cut
/-! What a run never looks at may be anything: cells that stand dead. -/
namespace Cut
open PySem
def ovr : List Bool → List Cell → List Cell → List Cell
  | true :: m, x :: X, _ :: cs => x :: ovr m X cs
  | false :: m, _ :: X, c :: cs => c :: ovr m X cs
  | _, _, cs => cs
def Store.ov (G : Store) (m : List Bool) (X : List Cell) : Store := { G with cs := ovr m X G.cs }
/-- the masked cells stand dead -/
structure DM (m : List Bool) (X : List Cell) (G : Store) : Prop where
  len : m.length = X.length
  le : m.length ≤ G.cs.length
  dead : ∀ i : Nat, m[i]? = some true → G.cs[i]? = some .dead
section
variable {m : List Bool} {X cs : List Cell} {G : Store}
theorem ovr_len : ∀ (m : List Bool) (X cs : List Cell), (ovr m X cs).length = cs.length
  | true :: m, x :: X, c :: cs => by show (ovr m X cs).length + 1 = cs.length + 1; rw [ovr_len m X cs]
  | false :: m, x :: X, c :: cs => by show (ovr m X cs).length + 1 = cs.length + 1; rw [ovr_len m X cs]
  | [], _, cs => by cases cs <;> rfl
  | true :: _, [], cs => by cases cs <;> rfl
  | false :: _, [], cs => by cases cs <;> rfl
  | true :: _, _ :: _, [] => rfl
  | false :: _, _ :: _, [] => rfl
theorem ovr_at : ∀ (m : List Bool) (X cs : List Cell) (i : Nat), m[i]? ≠ some true → (ovr m X cs)[i]? = cs[i]?
  | true :: m, x :: X, c :: cs, 0, h => absurd rfl h
  | true :: m, x :: X, c :: cs, i + 1, h => ovr_at m X cs i h
  | false :: m, x :: X, c :: cs, 0, h => rfl
  | false :: m, x :: X, c :: cs, i + 1, h => ovr_at m X cs i h
  | [], _, cs, i, _ => by cases cs <;> rfl
  | true :: _, [], cs, _, _ => by cases cs <;> rfl
  | false :: _, [], cs, _, _ => by cases cs <;> rfl
  | true :: _, _ :: _, [], _, _ => rfl
  | false :: _, _ :: _, [], _, _ => rfl
theorem ovr_app : ∀ (m : List Bool) (X cs ds : List Cell), m.length = X.length → m.length ≤ cs.length → ovr m X (cs ++ ds) = ovr m X cs ++ ds
  | true :: m, x :: X, c :: cs, ds, h, k => by
    show x :: ovr m X (cs ++ ds) = x :: (ovr m X cs ++ ds)
    rw [ovr_app m X cs ds (by simpa using h) (by simpa using k)]
  | false :: m, x :: X, c :: cs, ds, h, k => by
    show c :: ovr m X (cs ++ ds) = c :: (ovr m X cs ++ ds)
    rw [ovr_app m X cs ds (by simpa using h) (by simpa using k)]
  | [], X, cs, ds, _, _ => by
    have e : ∀ l : List Cell, ovr [] X l = l := fun l => by cases l <;> rfl
    rw [e, e]
  | true :: _, [], _, _, h, _ => by simp at h
  | false :: _, [], _, _, h, _ => by simp at h
  | true :: _, _ :: _, [], _, _, k => by simp at k
  | false :: _, _ :: _, [], _, _, k => by simp at k
theorem ovr_take : ∀ (m : List Bool) (X cs : List Cell) (n : Nat), m.length = X.length → m.length ≤ n → (ovr m X cs).take n = ovr m X (cs.take n)
  | true :: m, x :: X, c :: cs, n + 1, h, k => by
    show x :: (ovr m X cs).take n = x :: ovr m X (cs.take n)
    rw [ovr_take m X cs n (by simpa using h) (by simpa using k)]
  | false :: m, x :: X, c :: cs, n + 1, h, k => by
    show c :: (ovr m X cs).take n = c :: ovr m X (cs.take n)
    rw [ovr_take m X cs n (by simpa using h) (by simpa using k)]
  | [], X, cs, n, _, _ => by
    have e : ∀ l : List Cell, ovr [] X l = l := fun l => by cases l <;> rfl
    rw [e, e]
  | true :: _, [], _, _, h, _ => by simp at h
  | false :: _, [], _, _, h, _ => by simp at h
  | true :: _, _ :: _, [], n, _, _ => by cases n <;> rfl
  | false :: _, _ :: _, [], n, _, _ => by cases n <;> rfl
  | true :: _, _ :: _, _ :: _, 0, _, k => by simp at k
  | false :: _, _ :: _, _ :: _, 0, _, k => by simp at k
theorem ovr_set : ∀ (m : List Bool) (X cs : List Cell) (i : Nat) (c : Cell), m[i]? ≠ some true → ovr m X (cs.set i c) = (ovr m X cs).set i c
  | true :: m, x :: X, a :: cs, 0, c, h => absurd rfl h
  | true :: m, x :: X, a :: cs, i + 1, c, h => by
    show x :: ovr m X (cs.set i c) = x :: (ovr m X cs).set i c
    rw [ovr_set m X cs i c h]
  | false :: m, x :: X, a :: cs, 0, c, h => rfl
  | false :: m, x :: X, a :: cs, i + 1, c, h => by
    show a :: ovr m X (cs.set i c) = a :: (ovr m X cs).set i c
    rw [ovr_set m X cs i c h]
  | [], X, cs, i, c, _ => by
    have e : ∀ l : List Cell, ovr [] X l = l := fun l => by cases l <;> rfl
    rw [e, e]
  | true :: _, [], cs, i, c, _ => by
    have e : ∀ (m : List Bool) (l : List Cell), ovr (true :: m) [] l = l := fun _ l => by cases l <;> rfl
    rw [e, e]
  | false :: _, [], cs, i, c, _ => by
    have e : ∀ (m : List Bool) (l : List Cell), ovr (false :: m) [] l = l := fun _ l => by cases l <;> rfl
    rw [e, e]
  | true :: _, _ :: _, [], i, _, _ => rfl
  | false :: _, _ :: _, [], i, _, _ => rfl
theorem ovr_kill : ∀ (m : List Bool) (X cs : List Cell), (ovr m X cs).map Cell.kill = ovr m (X.map Cell.kill) (cs.map Cell.kill)
  | true :: m, x :: X, c :: cs => by show x.kill :: (ovr m X cs).map Cell.kill = x.kill :: ovr m (X.map Cell.kill) (cs.map Cell.kill); rw [ovr_kill m X cs]
  | false :: m, x :: X, c :: cs => by show c.kill :: (ovr m X cs).map Cell.kill = c.kill :: ovr m (X.map Cell.kill) (cs.map Cell.kill); rw [ovr_kill m X cs]
  | [], X, cs => by
    have e : ∀ (X l : List Cell), ovr [] X l = l := fun X l => by cases l <;> rfl
    rw [e, e]
  | true :: _, [], cs => by cases cs <;> rfl
  | false :: _, [], cs => by cases cs <;> rfl
  | true :: _, _ :: _, [] => rfl
  | false :: _, _ :: _, [] => rfl
theorem revL_cons (a b : Cell) (as bs : List Cell) : revL (a :: as) (b :: bs) = (match a with
  | .clo f ds => Cell.clo f ds
  | _ => b) :: revL as bs := by cases a <;> rfl
theorem revL_nil (as : List Cell) : revL as [] = [] := by
  cases as with
  | nil => rfl
  | cons a as => cases a <;> rfl
theorem revL_nil' (bs : List Cell) : revL [] bs = bs := by cases bs <;> rfl
theorem ovr_rev : ∀ (m : List Bool) (X cs ds : List Cell), m.length = X.length → m.length ≤ cs.length → revL (ovr m X cs) (ovr m (X.map Cell.kill) ds) = ovr m X (revL cs ds)
  | true :: m, x :: X, c :: cs, d :: ds, h, k => by
    have ih := ovr_rev m X cs ds (by simpa using h) (by simpa using k)
    show revL (x :: ovr m X cs) (x.kill :: ovr m (X.map Cell.kill) ds) = ovr (true :: m) (x :: X) (revL (c :: cs) (d :: ds))
    rw [revL_cons, revL_cons, ih]
    show _ :: _ = x :: _
    congr 1
    cases x <;> rfl
  | false :: m, x :: X, c :: cs, d :: ds, h, k => by
    have ih := ovr_rev m X cs ds (by simpa using h) (by simpa using k)
    show revL (c :: ovr m X cs) (d :: ovr m (X.map Cell.kill) ds) = ovr (false :: m) (x :: X) (revL (c :: cs) (d :: ds))
    rw [revL_cons, revL_cons, ih]
    rfl
  | [], X, cs, ds, _, _ => by
    have e : ∀ (X l : List Cell), ovr [] X l = l := fun X l => by cases l <;> rfl
    rw [e, e, e]
  | true :: _, [], _, _, h, _ => by simp at h
  | false :: _, [], _, _, h, _ => by simp at h
  | true :: _, _ :: _, [], _, _, k => by simp at k
  | false :: _, _ :: _, [], _, _, k => by simp at k
  | true :: _, _ :: _, _ :: _, [], _, _ => by rw [revL_nil]; exact revL_nil _
  | false :: _, _ :: _, _ :: _, [], _, _ => by rw [revL_nil]; exact revL_nil _
theorem ovr_gc : ∀ (n : Nat) (m : List Bool) (X cs ds : List Cell), m.length = X.length → m.length ≤ cs.length → (∀ i : Nat, m[i]? = some true → cs[i]? = some .dead) → (∀ i : Nat, m[i]? = some true → ds[i]? = some .dead) → gcOk n (ovr m X cs) (ovr m X ds) = gcOk n cs ds
  | n, true :: m, x :: X, c :: cs, d :: ds, h, k, e1, e2 => by
    have h1 : c = .dead := by have := e1 0 rfl; simpa using this
    have h2 : d = .dead := by have := e2 0 rfl; simpa using this
    subst h1; subst h2
    show ((decide (x = x) || cellBelow n x) && gcOk n (ovr m X cs) (ovr m X ds)) = ((decide (Cell.dead = Cell.dead) || cellBelow n .dead) && gcOk n cs ds)
    rw [ovr_gc n m X cs ds (by simpa using h) (by simpa using k) (fun i hi => e1 (i + 1) hi) (fun i hi => e2 (i + 1) hi), decide_eq_true rfl, decide_eq_true rfl, Bool.true_or, Bool.true_or]
  | n, false :: m, x :: X, c :: cs, d :: ds, h, k, e1, e2 => by
    show ((decide (c = d) || cellBelow n d) && gcOk n (ovr m X cs) (ovr m X ds)) = _
    rw [ovr_gc n m X cs ds (by simpa using h) (by simpa using k) (fun i hi => e1 (i + 1) hi) (fun i hi => e2 (i + 1) hi)]; rfl
  | n, [], X, cs, ds, _, _, _, _ => by
    have e : ∀ (X l : List Cell), ovr [] X l = l := fun X l => by cases l <;> rfl
    rw [e, e]
  | _, true :: _, [], _, _, h, _, _, _ => by simp at h
  | _, false :: _, [], _, _, h, _, _, _ => by simp at h
  | _, true :: _, _ :: _, [], _, _, k, _, _ => by simp at k
  | _, false :: _, _ :: _, [], _, _, k, _, _ => by simp at k
  | _, true :: _, _ :: _, _ :: _, [], _, _, _, e2 => by have := e2 0 rfl; simp at this
  | _, false :: _, _ :: _, _ :: _, [], _, _, _, _ => rfl
/-! the store -/
theorem DM.no (h : DM m X G) {n : Nat} {c : Cell} (e : G.cs[n]? = some c) (hc : c ≠ .dead) : m[n]? ≠ some true := fun z => by
  have := h.dead n z
  rw [e] at this
  exact hc (Option.some.inj this)
theorem DM.lst (h : DM m X G) {n : Nat} {xs : List D} (e : G.lst? n = some xs) : (G.ov m X).lst? n = some xs ∧ m[n]? ≠ some true := by
  unfold Store.lst? at e
  split at e
  · rename_i ys e1
    cases e
    have hn := h.no e1 (fun z => nomatch z)
    refine ⟨?_, hn⟩
    unfold Store.lst? Store.ov
    rw [ovr_at m X G.cs n hn, e1]
  · cases e
theorem DM.dic (h : DM m X G) {n : Nat} {xs : List (L2.Key × D)} (e : G.dic? n = some xs) : (G.ov m X).dic? n = some xs ∧ m[n]? ≠ some true := by
  unfold Store.dic? at e
  split at e
  · rename_i ys e1
    cases e
    have hn := h.no e1 (fun z => nomatch z)
    refine ⟨?_, hn⟩
    unfold Store.dic? Store.ov
    rw [ovr_at m X G.cs n hn, e1]
  · cases e
theorem DM.dicN (h : DM m X G) {n : Nat} (e : G.lst? n = none) {ys : List (L2.Key × D)} (e2 : G.dic? n = some ys) : (G.ov m X).lst? n = none := by
  have hn := (h.dic e2).2
  unfold Store.lst? at e ⊢
  unfold Store.ov
  rw [ovr_at m X G.cs n hn]; exact e
theorem ov_new (h : DM m X G) (c : Cell) : (G.new c).ov m X = (G.ov m X).new c := by
  show ({ lim := _, cs := ovr m X (G.cs ++ [c]) } : Store) = { lim := _, cs := ovr m X G.cs ++ [c] }
  rw [ovr_app _ _ _ _ h.len h.le]; rfl
theorem DM.new (h : DM m X G) (c : Cell) : DM m X (G.new c) := ⟨h.len, by show _ ≤ (G.cs ++ [c]).length; rw [List.length_append]; have := h.le; omega, fun i e => by
  show (G.cs ++ [c])[i]? = _
  have := h.dead i e
  rw [List.getElem?_append_left (List.getElem?_eq_some_iff.mp this).1]; exact this⟩
theorem ov_put {n : Nat} (hn : m[n]? ≠ some true) (c : Cell) : (G.put n c).ov m X = (G.ov m X).put n c := by
  show ({ lim := _, cs := ovr m X (G.cs.set n c) } : Store) = { lim := _, cs := (ovr m X G.cs).set n c }
  rw [ovr_set _ _ _ _ _ hn]; rfl
theorem DM.put (h : DM m X G) {n : Nat} (hn : m[n]? ≠ some true) (c : Cell) : DM m X (G.put n c) := ⟨h.len, by show _ ≤ (G.cs.set n c).length; rw [List.length_set]; exact h.le, fun i e => by
  show (G.cs.set n c)[i]? = _
  rw [List.getElem?_set_ne (show n ≠ i from fun z => hn (by rw [z]; exact e))]; exact h.dead i e⟩
theorem ov_len : (G.ov m X).cs.length = G.cs.length := ovr_len _ _ _
/-- the answers agree -/
def TR {α : Type} (m : List Bool) (X : List Cell) (r r' : R α) : Prop := match r with
  | .ok a G => DM m X G ∧ r' = .ok a (G.ov m X)
  | .exc k fs G => DM m X G ∧ r' = .exc k fs (G.ov m X)
  | .stuck => True
def TS (m : List Bool) (X : List Cell) (r r' : RS) : Prop := match r with
  | .nx ρ G => DM m X G ∧ r' = .nx ρ (G.ov m X)
  | .rt d G => DM m X G ∧ r' = .rt d (G.ov m X)
  | .bk ρ G => DM m X G ∧ r' = .bk ρ (G.ov m X)
  | .ct ρ G => DM m X G ∧ r' = .ct ρ (G.ov m X)
  | .exc k fs ρ G => DM m X G ∧ r' = .exc k fs ρ (G.ov m X)
  | .stuck => True
theorem TR.ok {α : Type} (h : DM m X G) (a : α) : TR m X (.ok a G) (.ok a (G.ov m X)) := ⟨h, rfl⟩
theorem TR.bind {α β : Type} {r r' : R α} {f f' : α → Store → R β} (h : TR m X r r') (k : ∀ a G, DM m X G → TR m X (f a G) (f' a (G.ov m X))) : TR m X (r.bind f) (r'.bind f') := by
  cases r with
  | ok a G => obtain ⟨h, rfl⟩ := h; exact k a G h
  | exc n fs G => obtain ⟨h, rfl⟩ := h; exact ⟨h, rfl⟩
  | stuck => trivial
theorem TR.no {α : Type} {r r' : R α} (h : TR m X r r') : TR m X (noExc r) (noExc r') := by
  cases r with
  | ok a G => obtain ⟨h, rfl⟩ := h; exact ⟨h, rfl⟩
  | exc n fs G => trivial
  | stuck => trivial
theorem TR.okO (h : DM m X G) {o o' : Option Bool} (e : ∀ b, o = some b → o' = some b) : TR m X (okO o G) (okO o' (G.ov m X)) := by
  cases o with
  | none => trivial
  | some b => rw [e b rfl]; exact ⟨h, rfl⟩
theorem TR.okD (h : DM m X G) (o : Option D) : TR m X (okD o G) (okD o (G.ov m X)) := by
  cases o with
  | none => trivial
  | some b => exact ⟨h, rfl⟩
theorem TR.newL (h : DM m X G) (xs : List D) : TR m X (newL xs G) (newL xs (G.ov m X)) := by
  unfold Cut.newL
  split
  · exact ⟨h.new _, by rw [ov_new h, ov_len]⟩
  · trivial
end
end Cut
/-! .. each operation. -/
namespace Cut
open PySem
section
variable {m : List Bool} {X : List Cell} {G : Store}
mutual
theorem pyW_mono {r r' : Nat → Option PyData} (k : ∀ n x, r n = some x → r' n = some x) : ∀ {d : D} {x : PyData}, pyW r d = some x → pyW r' d = some x
  | .non, _, h => h
  | .bl _, _, h => h
  | .int _, _, h => h
  | .str _, _, h => h
  | .tup xs, x, h => by
    unfold pyW at h ⊢
    obtain ⟨ys, e, rfl⟩ := Option.map_eq_some_iff.mp h
    rw [pyWs_mono k e]; rfl
  | .ref n, x, h => k n x h
  | .ty _, _, h => h
theorem pyWs_mono {r r' : Nat → Option PyData} (k : ∀ n x, r n = some x → r' n = some x) : ∀ {ds : List D} {xs : List PyData}, pyWs r ds = some xs → pyWs r' ds = some xs
  | [], _, h => h
  | d :: ds, xs, h => by
    unfold pyWs at h ⊢
    cases e1 : pyW r d with
    | none => rw [e1] at h; cases h
    | some x =>
      cases e2 : pyWs r ds with
      | none => rw [e1, e2] at h; cases h
      | some ys =>
        rw [e1, e2] at h
        rw [pyW_mono k e1, pyWs_mono k e2]; exact h
end
theorem pyD_mono (h : DM m X G) : ∀ {n : Nat} {d : D} {x : PyData}, pyD n G d = some x → pyD n (G.ov m X) d = some x
  | 0, _, _, e => e
  | n + 1, d, x, e => by
    unfold pyD at e ⊢
    refine pyW_mono (fun k y hy => ?_) e
    cases hl : G.lst? k with
    | none => rw [hl] at hy; cases hy
    | some xs =>
      rw [hl] at hy
      rw [(h.lst hl).1]
      dsimp only at hy ⊢
      obtain ⟨ys, e2, rfl⟩ := Option.map_eq_some_iff.mp hy
      rw [pyWs_mono (fun j z hz => pyD_mono h hz) e2]; rfl
theorem eqD_mono (h : DM m X G) {a b : D} {z : Bool} (e : eqD G a b = some z) : eqD (G.ov m X) a b = some z := by
  unfold eqD at e ⊢
  cases e1 : pyD 8 G a with
  | none => rw [e1] at e; cases e
  | some x =>
    cases e2 : pyD 8 G b with
    | none => rw [e1, e2] at e; cases e
    | some y => rw [e1, e2] at e; rw [pyD_mono h e1, pyD_mono h e2]; exact e
theorem cmpD_mono (h : DM m X G) {a b : D} {f : PyData → PyData → Bool} {z : Bool} (e : cmpD G a b f = some z) : cmpD (G.ov m X) a b f = some z := by
  unfold cmpD at e ⊢
  cases e1 : pyD 8 G a with
  | none => rw [e1] at e; cases e
  | some x =>
    cases e2 : pyD 8 G b with
    | none => rw [e1, e2] at e; cases e
    | some y => rw [e1, e2] at e; rw [pyD_mono h e1, pyD_mono h e2]; exact e
theorem items_mono (h : DM m X G) {d : D} {xs : List D} (e : items d G = some xs) : items d (G.ov m X) = some xs := by
  cases d <;> try exact e
  case ref n => exact (h.lst e).1
theorem inD_mono (h : DM m X G) {x y : D} {z : Bool} (e : inD G x y = some z) : inD (G.ov m X) x y = some z := by
  have gen : ∀ (x y : D), (match items y G with
    | some xs => if flatD x && xs.all flatD then some (xs.any fun y => eqF y x) else none
    | none => none) = some z → (match items y (G.ov m X) with
    | some xs => if flatD x && xs.all flatD then some (xs.any fun y => eqF y x) else none
    | none => none) = some z := fun x y e => by
    cases hi : items y G with
    | none => rw [hi] at e; cases e
    | some xs => rw [hi] at e; rw [items_mono h hi]; exact e
  unfold inD at e ⊢
  cases x with
  | str cs =>
    rcases cs with _ | ⟨c, _ | ⟨c2, r⟩⟩ <;> cases y <;> first | exact e | exact gen _ _ e
  | _ => cases y <;> first | exact e | exact gen _ _ e
theorem truthy_mono (h : DM m X G) {d : D} {z : Bool} (e : truthy d G = some z) : truthy d (G.ov m X) = some z := by
  cases d <;> try exact e
  case ref n =>
    unfold truthy at e ⊢
    dsimp only at e ⊢
    cases e1 : G.lst? n with
    | some xs => rw [e1] at e; rw [(h.lst e1).1]; exact e
    | none =>
      rw [e1] at e
      obtain ⟨kvs, e2, rfl⟩ := Option.map_eq_some_iff.mp e
      rw [h.dicN e1 e2, (h.dic e2).1]; rfl
theorem tyOf_mono (h : DM m X G) {d : D} {z : Ty} (e : tyOf d G = some z) : tyOf d (G.ov m X) = some z := by
  cases d <;> try exact e
  case ref n =>
    unfold tyOf at e ⊢
    dsimp only at e ⊢
    cases e1 : G.lst? n with
    | some xs => rw [e1] at e; rw [(h.lst e1).1]; exact e
    | none =>
      rw [e1] at e
      obtain ⟨kvs, e2, rfl⟩ := Option.map_eq_some_iff.mp e
      rw [h.dicN e1 e2, (h.dic e2).1]; rfl
theorem srcOf_mono (h : DM m X G) {d : D} {s : Src} (e : srcOf d G = some s) : srcOf d (G.ov m X) = some s := by
  cases d <;> try exact e
  case ref n =>
    unfold srcOf at e ⊢
    dsimp only at e ⊢
    obtain ⟨xs, e1, rfl⟩ := Option.map_eq_some_iff.mp e
    rw [(h.lst e1).1]; rfl
theorem srcAt_mono (h : DM m X G) {s : Src} {i : Nat} {o : Option D} (e : s.at i G = some o) : s.at i (G.ov m X) = some o := by
  cases s with
  | fix ds => exact e
  | cell n =>
    unfold Src.at at e ⊢
    obtain ⟨xs, e1, rfl⟩ := Option.map_eq_some_iff.mp e
    show Option.map _ _ = _
    rw [(h.lst e1).1]; rfl
theorem itvAt_mono (h : DM m X G) {v : Itv} {i : Nat} {o : Option D} (e : v.at i G = some o) : v.at i (G.ov m X) = some o := by
  cases v with
  | one s => exact srcAt_mono h e
  | enum s =>
    unfold Itv.at at e ⊢
    obtain ⟨o1, e1, rfl⟩ := Option.map_eq_some_iff.mp e
    show Option.map _ _ = _
    rw [srcAt_mono h e1]; rfl
  | zip s t =>
    unfold Itv.at at e ⊢
    dsimp only at e ⊢
    cases e1 : s.at i G with
    | none => rw [e1] at e; cases e
    | some o1 =>
      cases e2 : t.at i G with
      | none => rw [e1, e2] at e; cases o1 <;> cases e
      | some o2 => rw [e1, e2] at e; simp only [srcAt_mono h e1, srcAt_mono h e2]; exact e
  | rng lo n => exact e
/-- a look at a list -/
theorem TR.lst {α : Type} (h : DM m X G) (n : Nat) {f : List D → R α} {f' : List D → R α} (k : ∀ xs, G.lst? n = some xs → TR m X (f xs) (f' xs)) : TR m X (match G.lst? n with
  | some xs => f xs
  | none => .stuck) (match (G.ov m X).lst? n with
  | some xs => f' xs
  | none => .stuck) := by
  cases e : G.lst? n with
  | none => trivial
  | some xs => rw [(h.lst e).1]; exact k xs e
theorem cmp_th (h : DM m X G) (a b : D) (f : PyData → PyData → Bool) : TR m X (okO (cmpD G a b f) G) (okO (cmpD (G.ov m X) a b f) (G.ov m X)) := .okO h fun _ e => cmpD_mono h e
theorem op2_th (h : DM m X G) (o : Op2) (a b : D) : TR m X (op2 o a b G) (op2 o a b (G.ov m X)) := by
  cases o with
  | add =>
    cases a <;> cases b <;> try exact trivial
    case int.int => exact .ok h _
    case str.str => unfold op2; dsimp only; split <;> first | exact .ok h _ | trivial
    case tup.tup => unfold op2; dsimp only; split <;> first | exact .ok h _ | trivial
    case ref.ref p n =>
      unfold op2
      dsimp only
      cases e1 : G.lst? p with
      | none => trivial
      | some xs =>
        cases e2 : G.lst? n with
        | none => trivial
        | some ys =>
          rw [(h.lst e1).1, (h.lst e2).1]
          show TR m X (if G.lim ≤ p ∧ G.lim ≤ n then _ else _) (if G.lim ≤ p ∧ G.lim ≤ n then _ else _)
          split
          · exact .newL h _
          · trivial
  | sub => cases a <;> cases b <;> first | exact trivial | exact .ok h _
  | mul =>
    cases a <;> cases b <;> try exact trivial
    case int.int => unfold op2; dsimp only; split <;> first | exact .ok h _ | trivial
    case tup.int => unfold op2; dsimp only; split <;> first | exact .ok h _ | trivial
    case str.int => unfold op2; dsimp only; split <;> first | exact .ok h _ | trivial
    case ref.int p k =>
      unfold op2
      refine TR.lst h p fun xs _ => ?_
      by_cases hc : G.lim ≤ p ∧ -(2 ^ 63) ≤ k ∧ k < 2 ^ 63 ∧ xs.length * k.toNat ≤ sizeLine
      · rw [if_pos hc, if_pos (show (G.ov m X).lim ≤ p ∧ _ from hc)]; exact .newL h _
      · rw [if_neg hc]; trivial
  | fdiv =>
    cases a <;> cases b <;> try exact trivial
    case int.int => unfold op2; dsimp only; split <;> first | exact .ok h _ | trivial
  | mod =>
    cases a <;> cases b <;> try exact trivial
    case int.int => unfold op2; dsimp only; split <;> first | exact .ok h _ | trivial
  | pow =>
    cases a <;> cases b <;> try exact trivial
    case int.int => unfold op2; dsimp only; split <;> first | exact .ok h _ | trivial
  | xor => cases a <;> cases b <;> first | exact trivial | exact .ok h _
  | eq => exact .okO h fun b e => eqD_mono h e
  | ne =>
    refine .okO h fun b e => ?_
    obtain ⟨c, e1, rfl⟩ := Option.map_eq_some_iff.mp e
    rw [eqD_mono h e1]; rfl
  | lt =>
    by_cases hi : ∃ i j, a = .int i ∧ b = .int j
    · obtain ⟨i, j, rfl, rfl⟩ := hi
      exact .ok h _
    · have e : ∀ G, op2 .lt a b G = okO (cmpD G a b PySem.W.dataLt) G := fun G => by cases a <;> cases b <;> first | rfl | exact absurd ⟨_, _, rfl, rfl⟩ hi
      rw [e, e]
      exact cmp_th h _ _ _
  | le =>
    by_cases hi : ∃ i j, a = .int i ∧ b = .int j
    · obtain ⟨i, j, rfl, rfl⟩ := hi
      exact .ok h _
    · have e : ∀ G, op2 .le a b G = okO (cmpD G a b (fun x y => !PySem.W.dataLt y x)) G := fun G => by cases a <;> cases b <;> first | rfl | exact absurd ⟨_, _, rfl, rfl⟩ hi
      rw [e, e]
      exact cmp_th h _ _ _
  | gt =>
    by_cases hi : ∃ i j, a = .int i ∧ b = .int j
    · obtain ⟨i, j, rfl, rfl⟩ := hi
      exact .ok h _
    · have e : ∀ G, op2 .gt a b G = okO (cmpD G a b (fun x y => PySem.W.dataLt y x)) G := fun G => by cases a <;> cases b <;> first | rfl | exact absurd ⟨_, _, rfl, rfl⟩ hi
      rw [e, e]
      exact cmp_th h _ _ _
  | ge =>
    by_cases hi : ∃ i j, a = .int i ∧ b = .int j
    · obtain ⟨i, j, rfl, rfl⟩ := hi
      exact .ok h _
    · have e : ∀ G, op2 .ge a b G = okO (cmpD G a b (fun x y => !PySem.W.dataLt x y)) G := fun G => by cases a <;> cases b <;> first | rfl | exact absurd ⟨_, _, rfl, rfl⟩ hi
      rw [e, e]
      exact cmp_th h _ _ _
  | is => cases a <;> cases b <;> first | exact trivial | exact .ok h _
  | isnot => cases a <;> cases b <;> first | exact trivial | exact .ok h _
  | in_ => exact .okO h fun b e => inD_mono h e
  | notin =>
    refine .okO h fun b e => ?_
    obtain ⟨c, e1, rfl⟩ := Option.map_eq_some_iff.mp e
    rw [inD_mono h e1]; rfl
  | ix =>
    cases a <;> cases b <;> try exact trivial
    case tup.int => exact .okD h _
    case str.int => unfold op2; dsimp only; split <;> first | exact .okD h _ | trivial
    case ref.int p k => unfold op2; exact TR.lst h p fun xs _ => .okD h _
theorem rngV_th (h : DM m X G) (t : Bool) (i j : Int) : TR m X (rngVD t i j G) (rngVD t i j (G.ov m X)) := by
  unfold rngVD
  split
  · cases t with
    | true => exact .ok h _
    | false => exact .newL h _
  · trivial
theorem op1_th (h : DM m X G) (o : Op1) (a : D) : TR m X (op1 o a G) (op1 o a (G.ov m X)) := by
  cases o with
  | not =>
    unfold op1
    dsimp only
    cases e : truthy a G with
    | none => trivial
    | some b => rw [truthy_mono h e]; exact .ok h _
  | neg => cases a <;> first | exact trivial | exact .ok h _
theorem opSl_th (h : DM m X G) (a : D) (lo hi : Option Int) : TR m X (opSl a lo hi G) (opSl a lo hi (G.ov m X)) := by
  cases a <;> try exact trivial
  case tup => exact .ok h _
  case str => unfold opSl; dsimp only; split <;> first | exact .ok h _ | trivial
  case ref n => unfold opSl; exact TR.lst h n fun xs _ => .newL h _
theorem opRev_th (h : DM m X G) (a : D) : TR m X (opRev a G) (opRev a (G.ov m X)) := by
  cases a <;> try exact trivial
  case ref n => unfold opRev; exact TR.lst h n fun xs _ => .newL h _
theorem lstI_mono (h : DM m X G) {d : D} {ns : List Int} (e : lstI d G = some ns) : lstI d (G.ov m X) = some ns := by
  cases d <;> try exact e
  case ref n =>
    unfold lstI at e ⊢
    dsimp only at e ⊢
    obtain ⟨xs, e1, e2⟩ := Option.bind_eq_some_iff.mp e
    rw [(h.lst e1).1]; exact e2
theorem min_th (h : DM m X G) (d : D) : TR m X (minLD d G) (minLD d (G.ov m X)) := by
  cases d <;> try exact trivial
  case ref n =>
    unfold minLD
    cases e : G.lst? n with
    | none =>
      have a1 : lstI (.ref n) G = none := by unfold lstI; dsimp only; rw [e]; rfl
      have a2 : dataL (.ref n) G = none := by unfold dataL; dsimp only; rw [e]; rfl
      rw [a1, a2]; trivial
    | some xs =>
      have e2 := (h.lst e).1
      have a1 : lstI (.ref n) (G.ov m X) = lstI (.ref n) G := by unfold lstI; dsimp only; rw [e, e2]
      have a2 : dataL (.ref n) (G.ov m X) = dataL (.ref n) G := by unfold dataL; dsimp only; rw [e, e2]
      rw [a1, a2]
      split
      · split <;> first | exact .ok h _ | trivial
      · split
        · exact .okD h _
        · trivial
theorem max_th (h : DM m X G) (d : D) : TR m X (maxLD d G) (maxLD d (G.ov m X)) := by
  cases d <;> try exact trivial
  case ref n =>
    unfold maxLD
    cases e : G.lst? n with
    | none =>
      have a1 : lstI (.ref n) G = none := by unfold lstI; dsimp only; rw [e]; rfl
      have a2 : dataL (.ref n) G = none := by unfold dataL; dsimp only; rw [e]; rfl
      rw [a1, a2]; trivial
    | some xs =>
      have e2 := (h.lst e).1
      have a1 : lstI (.ref n) (G.ov m X) = lstI (.ref n) G := by unfold lstI; dsimp only; rw [e, e2]
      have a2 : dataL (.ref n) (G.ov m X) = dataL (.ref n) G := by unfold dataL; dsimp only; rw [e, e2]
      rw [a1, a2]
      split
      · split <;> first | exact .ok h _ | trivial
      · split
        · exact .okD h _
        · trivial
theorem b1_th {g : D → Store → R D} (h : DM m X G) (k : ∀ d, TR m X (g d G) (g d (G.ov m X))) (xs : List D) : TR m X (b1 g xs G) (b1 g xs (G.ov m X)) := by
  match xs with
  | [] => trivial
  | [d] => exact k d
  | _ :: _ :: _ => trivial
theorem b2_th {g : D → D → Store → R D} (h : DM m X G) (k : ∀ d e, TR m X (g d e G) (g d e (G.ov m X))) (xs : List D) : TR m X (b2 g xs G) (b2 g xs (G.ov m X)) := by
  match xs with
  | [] => trivial
  | [d] => trivial
  | [d, e] => exact k d e
  | _ :: _ :: _ :: _ => trivial
theorem b0_th {g : Store → R D} (h : DM m X G) (k : TR m X (g G) (g (G.ov m X))) (xs : List D) : TR m X (b0 g xs G) (b0 g xs (G.ov m X)) := by
  match xs with
  | [] => exact k
  | _ :: _ => trivial
theorem bf_th (h : DM m X G) (f : Bf) (xs : List D) : TR m X (bf f xs G) (bf f xs (G.ov m X)) := by
  cases f with
  | len =>
    refine b1_th h (fun d => ?_) xs
    cases d <;> try exact trivial
    case tup => exact .ok h _
    case str => unfold lenD; dsimp only; split <;> first | exact .ok h _ | trivial
    case ref n => unfold lenD; exact TR.lst h n fun xs _ => .ok h _
  | int => exact b1_th h (fun d => by cases d <;> first | exact trivial | exact .ok h _) xs
  | tuple =>
    refine b1_th h (fun d => ?_) xs
    cases d <;> try exact trivial
    case tup => exact .ok h _
    case ref n => unfold tupD; exact TR.lst h n fun xs _ => .ok h _
  | list =>
    refine b1_th h (fun d => ?_) xs
    cases d <;> try exact trivial
    case tup => exact .newL h _
    case ref n =>
      unfold lstD
      dsimp only
      cases e1 : G.lst? n with
      | some ys => rw [(h.lst e1).1]; exact .newL h _
      | none =>
        dsimp only
        cases e2 : G.dic? n with
        | none => trivial
        | some kvs =>
          have q := h.dicN (m := m) (X := X) e1 e2
          rw [q]
          dsimp only
          rw [(h.dic e2).1]
          exact .newL h _
  | min => exact b2_th h (fun d e => by cases d <;> cases e <;> first | exact trivial | exact .ok h _) xs
  | max => exact b2_th h (fun d e => by cases d <;> cases e <;> first | exact trivial | exact .ok h _) xs
  | isin =>
    refine b2_th h (fun d e => ?_) xs
    cases e <;> try exact trivial
    case ty b =>
      refine .okO h fun z e => ?_
      obtain ⟨t, e1, rfl⟩ := Option.map_eq_some_iff.mp e
      rw [tyOf_mono h e1]; rfl
    case tup ts =>
      unfold isinD
      dsimp only
      cases e1 : tyOf d G with
      | none => trivial
      | some t => rw [tyOf_mono h e1]; exact .okO h fun _ e => e
  | any =>
    refine b1_th h (fun d => ?_) xs
    unfold anyD
    cases e1 : items d G with
    | none => trivial
    | some ys => rw [items_mono h e1]; dsimp only; split <;> first | exact .ok h _ | trivial
  | sorted =>
    refine b1_th h (fun d => ?_) xs
    unfold sortedD
    cases e1 : lstI d G with
    | none => trivial
    | some ys => rw [lstI_mono h e1]; exact .newL h _
  | sum =>
    refine b1_th h (fun d => ?_) xs
    unfold sumD
    cases e1 : lstI d G with
    | none => trivial
    | some ys => rw [lstI_mono h e1]; exact .ok h _
  | minL =>
    refine b1_th h (fun d => ?_) xs
    exact min_th h _
  | maxL =>
    refine b1_th h (fun d => ?_) xs
    exact max_th h _
theorem TR.put (h : DM m X G) {n : Nat} (hn : m[n]? ≠ some true) (c : Cell) (d : D) : TR m X (.ok d (G.put n c)) (.ok d ((G.ov m X).put n c)) := ⟨h.put hn c, by rw [ov_put hn]⟩
theorem mt_th (h : DM m X G) (f : Mt) (o : D) (xs : List D) : TR m X (mt f o xs G) (mt f o xs (G.ov m X)) := by
  cases f with
  | append =>
    refine b1_th h (fun d => ?_) xs
    cases o <;> try exact trivial
    case ref n =>
      unfold appendD
      refine TR.lst h n fun ys e => ?_
      by_cases hc : G.lim ≤ n ∧ ys.length < sizeLine
      · rw [if_pos hc, if_pos (show (G.ov m X).lim ≤ n ∧ _ from hc)]; exact .put h (h.lst e).2 _ _
      · rw [if_neg hc]; trivial
  | extend =>
    refine b1_th h (fun d => ?_) xs
    cases o <;> try exact trivial
    case ref n =>
      unfold extendD
      dsimp only
      cases e1 : G.lst? n with
      | none => trivial
      | some ys =>
        rw [(h.lst e1).1]
        have own : ∀ zs, ownItems d G = some zs → ownItems d (G.ov m X) = some zs := fun zs e => by
          cases d <;> try exact e
          case ref p =>
            unfold ownItems at e ⊢
            dsimp only at e ⊢
            by_cases hl : G.lim ≤ p
            · rw [if_pos hl] at e; rw [if_pos (show (G.ov m X).lim ≤ p from hl)]; exact (h.lst e).1
            · rw [if_neg hl] at e; cases e
        cases e2 : ownItems d G with
        | none => trivial
        | some zs =>
          rw [own zs e2]
          by_cases hc : G.lim ≤ n ∧ ys.length + zs.length ≤ sizeLine
          · simp only [if_pos hc, if_pos (show (G.ov m X).lim ≤ n ∧ ys.length + zs.length ≤ sizeLine from hc)]; exact .put h (h.lst e1).2 _ _
          · simp only [if_neg hc]; trivial
  | popAt =>
    refine b1_th h (fun d => ?_) xs
    cases o <;> try exact trivial
    case ref n =>
      cases d <;> try exact trivial
      case int i =>
        unfold popAtD
        refine TR.lst h n fun ys e => ?_
        cases L2.ixN ys.length i with
        | none => trivial
        | some k =>
          dsimp only
          cases ys[k]? with
          | none => trivial
          | some d =>
            dsimp only
            by_cases hc : G.lim ≤ n ∧ -(2 ^ 63) ≤ i ∧ i < 2 ^ 63
            · rw [if_pos hc, if_pos (show (G.ov m X).lim ≤ n ∧ _ from hc)]; exact .put h (h.lst e).2 _ _
            · rw [if_neg hc]; trivial
  | pop =>
    refine b0_th h ?_ xs
    cases o <;> try exact trivial
    case ref n =>
      unfold popD
      refine TR.lst h n fun ys e => ?_
      cases ys[ys.length - 1]? with
      | none => trivial
      | some d =>
        show TR m X (if G.lim ≤ n then _ else _) (if G.lim ≤ n then _ else _)
        split
        · exact .put h (h.lst e).2 _ _
        · trivial
  | indexS =>
    refine b1_th h (fun d => ?_) xs
    unfold indexSD
    split
    · split <;> first | exact .ok h _ | trivial
    · trivial
  | indexL =>
    refine b1_th h (fun d => ?_) xs
    cases o <;> try exact trivial
    case ref n =>
      unfold indexLD
      refine TR.lst h n fun ys e => ?_
      split
      · exact .okD h _
      · trivial
  | countL =>
    refine b1_th h (fun d => ?_) xs
    cases o <;> try exact trivial
    case ref n =>
      unfold countLD
      refine TR.lst h n fun ys e => ?_
      split
      · exact .ok h _
      · trivial
  | indexT =>
    refine b1_th h (fun d => ?_) xs
    unfold indexTD
    split
    · split <;> first | exact .okD h _ | trivial
    · trivial
  | join =>
    refine b1_th h (fun d => ?_) xs
    cases o <;> try exact trivial
    case str s =>
      unfold joinD
      dsimp only
      cases e1 : items d G with
      | none => trivial
      | some ys =>
        rw [items_mono h e1]
        dsimp only
        split
        · split <;> first | exact .ok h _ | trivial
        · trivial
  | upper =>
    refine b0_th h ?_ xs
    cases o <;> try exact trivial
    case str s => unfold upperD; dsimp only; split <;> first | exact .ok h _ | trivial
theorem setAt_th (h : DM m X G) {o i d : D} {G' : Store} (e : setAt o i d G = some G') : DM m X G' ∧ setAt o i d (G.ov m X) = some (G'.ov m X) := by
  unfold setAt at e ⊢
  split at e
  · rename_i n k
    cases e1 : G.lst? n with
    | none => rw [e1] at e; cases e
    | some xs =>
      rw [e1] at e
      rw [(h.lst e1).1]
      dsimp only at e ⊢
      cases e2 : L2.ixN xs.length k with
      | none => rw [e2] at e; cases e
      | some j =>
        rw [e2] at e
        dsimp only at e ⊢
        by_cases hl : G.lim ≤ n
        · rw [if_pos hl] at e
          cases e
          refine ⟨h.put (h.lst e1).2 _, ?_⟩
          rw [if_pos (show (G.ov m X).lim ≤ n from hl), ov_put (h.lst e1).2]
        · rw [if_neg hl] at e; cases e
  · cases e
theorem setKeyAt_th (h : DM m X G) {o i d : D} {G' : Store} (e : setKeyAt o i d G = some G') : DM m X G' ∧ setKeyAt o i d (G.ov m X) = some (G'.ov m X) := by
  unfold setKeyAt at e ⊢
  split at e
  · rename_i n
    cases e1 : G.dic? n with
    | none => rw [e1] at e; cases e
    | some xs =>
      cases e2 : keyD i with
      | none => rw [e1, e2] at e; cases e
      | some j =>
        rw [e1, e2] at e
        rw [(h.dic e1).1]
        dsimp only at e ⊢
        by_cases hl : G.lim ≤ n ∧ xs.length < sizeLine
        · rw [if_pos hl] at e
          cases e
          refine ⟨h.put (h.dic e1).2 _, ?_⟩
          rw [if_pos (show (G.ov m X).lim ≤ n ∧ _ from hl), ov_put (h.dic e1).2]
        · rw [if_neg hl] at e; cases e
  · cases e
theorem gc_th (h : DM m X G) {r r' : R D} (t : TR m X r r') : TR m X (gc G r) (gc (G.ov m X) r') := by
  cases r with
  | stuck => trivial
  | ok d G' =>
    obtain ⟨h', rfl⟩ := t
    have eg : gcOk (G.ov m X).cs.length (G.ov m X).cs (G'.ov m X).cs = gcOk G.cs.length G.cs G'.cs := by
      rw [ov_len]; exact ovr_gc _ _ _ _ _ h.len h.le h.dead h'.dead
    have et : ∀ n, m.length ≤ n → (G'.ov m X).cs.take n = ovr m X (G'.cs.take n) := fun n hn => ovr_take _ _ _ _ h.len hn
    have dt : ∀ n, m.length ≤ n → n ≤ G'.cs.length → DM m X { G' with cs := G'.cs.take n } := fun n hn hn' => ⟨h.len, by show _ ≤ (G'.cs.take n).length; rw [List.length_take]; omega, fun i hi => by
      show (G'.cs.take n)[i]? = _
      have := (List.getElem?_eq_some_iff.mp hi).1
      rw [List.getElem?_take_of_lt (by omega)]; exact h'.dead i hi⟩
    have el : (G'.ov m X).lim = (G.ov m X).lim ↔ G'.lim = G.lim := Iff.rfl
    simp only [gc]
    rw [eg, ov_len]
    by_cases hk : (decide (G'.lim = G.lim) && gcOk G.cs.length G.cs G'.cs) = true
    · rw [if_pos hk, if_pos (show (decide ((G'.ov m X).lim = (G.ov m X).lim) && gcOk G.cs.length G.cs G'.cs) = true from hk)]
      have hlen : G.cs.length ≤ G'.cs.length := by
        simp only [Bool.and_eq_true] at hk
        have : ∀ (n : Nat) (a b : List Cell), gcOk n a b = true → a.length ≤ b.length := by
          intro n a
          induction a with
          | nil => intro b _; exact Nat.zero_le _
          | cons c cs ih =>
            intro b hb
            cases b with
            | nil => simp [gcOk] at hb
            | cons c' cs' =>
              simp only [gcOk, Bool.and_eq_true] at hb
              exact Nat.succ_le_succ (ih _ hb.2)
        exact this _ _ _ hk.2
      by_cases hb : below G.cs.length d = true
      · rw [if_pos hb, if_pos hb]
        refine ⟨dt _ h.le hlen, ?_⟩
        show R.ok d { lim := _, cs := _ } = R.ok d { lim := _, cs := _ }
        rw [et _ h.le]; rfl
      · rw [if_neg hb, if_neg hb]
        cases d <;> try exact ⟨h', rfl⟩
        case ref n =>
          dsimp only
          have hn : m[n]? ≠ some true := fun z => by
            have := (List.getElem?_eq_some_iff.mp z).1
            have := h.le
            unfold below at hb
            simp at hb
            omega
          have e2 : (G'.ov m X).cs[n]? = G'.cs[n]? := ovr_at _ _ _ _ hn
          rw [e2]
          cases G'.cs[n]? with
          | none => exact ⟨h', rfl⟩
          | some c =>
            dsimp only
            by_cases hc : G.cs.length ≤ n ∧ cellBelow G.cs.length c = true
            · rw [if_pos hc, if_pos hc]
              have h1 := dt _ h.le hlen
              refine ⟨h1.new c, ?_⟩
              have := ov_new h1 c
              show R.ok _ _ = R.ok _ (({ G' with cs := G'.cs.take G.cs.length } : Store).new c |>.ov m X)
              rw [this]
              show R.ok _ { lim := _, cs := (G'.ov m X).cs.take G.cs.length ++ [c] } = R.ok _ { lim := _, cs := ovr m X (G'.cs.take G.cs.length) ++ [c] }
              rw [et _ h.le]; rfl
            · rw [if_neg hc, if_neg hc]; exact ⟨h', rfl⟩
    · rw [if_neg hk, if_neg (show ¬ (decide ((G'.ov m X).lim = (G.ov m X).lim) && gcOk G.cs.length G.cs G'.cs) = true from hk)]
      exact ⟨h', rfl⟩
  | exc k fs G' =>
    obtain ⟨h', rfl⟩ := t
    have eg : gcOk (G.ov m X).cs.length (G.ov m X).cs (G'.ov m X).cs = gcOk G.cs.length G.cs G'.cs := by
      rw [ov_len]; exact ovr_gc _ _ _ _ _ h.len h.le h.dead h'.dead
    have et : ∀ n, m.length ≤ n → (G'.ov m X).cs.take n = ovr m X (G'.cs.take n) := fun n hn => ovr_take _ _ _ _ h.len hn
    simp only [gc]
    rw [eg, ov_len]
    by_cases hk : (decide (G'.lim = G.lim) && gcOk G.cs.length G.cs G'.cs && belows G.cs.length fs) = true
    · rw [if_pos hk, if_pos (show (decide ((G'.ov m X).lim = (G.ov m X).lim) && gcOk G.cs.length G.cs G'.cs && belows G.cs.length fs) = true from hk)]
      have hlen : G.cs.length ≤ G'.cs.length := by
        simp only [Bool.and_eq_true] at hk
        have : ∀ (n : Nat) (a b : List Cell), gcOk n a b = true → a.length ≤ b.length := by
          intro n a
          induction a with
          | nil => intro b _; exact Nat.zero_le _
          | cons c cs ih =>
            intro b hb
            cases b with
            | nil => simp [gcOk] at hb
            | cons c' cs' =>
              simp only [gcOk, Bool.and_eq_true] at hb
              exact Nat.succ_le_succ (ih _ hb.2)
        exact this _ _ _ hk.1.2
      refine ⟨⟨h.len, by show _ ≤ (G'.cs.take _).length; rw [List.length_take]; have := h.le; omega, fun i hi => ?_⟩, ?_⟩
      · show (G'.cs.take _)[i]? = _
        have := (List.getElem?_eq_some_iff.mp hi).1
        have := h.le
        rw [List.getElem?_take_of_lt (by omega)]; exact h'.dead i hi
      · show R.exc k fs { lim := _, cs := _ } = R.exc k fs { lim := _, cs := _ }
        rw [et _ h.le]; rfl
    · rw [if_neg hk, if_neg (show ¬ (decide ((G'.ov m X).lim = (G.ov m X).lim) && gcOk G.cs.length G.cs G'.cs && belows G.cs.length fs) = true from hk)]
      exact ⟨h', rfl⟩
end
end Cut
/-! .. each run. -/
namespace Cut
open PySem
section
variable {m : List Bool} {X : List Cell} {G : Store} {C : CallF}
def CT (C : CallF) : Prop := ∀ (m : List Bool) (X : List Cell) (f : Nat) (ds : List D) (G : Store), DM m X G → TR m X (C f ds G) (C f ds (G.ov m X))
theorem revL_dead : ∀ {a b : List Cell} {i : Nat}, a[i]? = some .dead → (revL a b)[i]? = b[i]?
  | [], _, _, h => by simp at h
  | c :: a, [], _, _ => by rw [revL_nil]
  | c :: a, d :: b, 0, h => by
    have : c = .dead := by simpa using h
    subst this; rfl
  | c :: a, d :: b, i + 1, h => by
    rw [revL_cons]
    show (revL a b)[i]? = b[i]?
    exact revL_dead (by simpa using h)
theorem revL_length : ∀ (a b : List Cell), (revL a b).length = b.length
  | [], b => by rw [revL_nil']
  | c :: a, [] => by rw [revL_nil]
  | c :: a, d :: b => by rw [revL_cons, List.length_cons, List.length_cons, revL_length a b]
theorem DM.kill (h : DM m X G) : DM m (X.map Cell.kill) G.kill := ⟨by rw [List.length_map]; exact h.len, by show _ ≤ (G.cs.map _).length; rw [List.length_map]; exact h.le, fun i e => by
  show (G.cs.map Cell.kill)[i]? = _
  rw [List.getElem?_map, h.dead i e]; rfl⟩
theorem callV_th (hC : CT C) (h : DM m X G) (i : Nat) (ρ : Env) : TR m X (mCallV C i ρ G) (mCallV C i ρ (G.ov m X)) := by
  unfold mCallV
  split
  · rename_i n e
    cases e1 : G.cs[n]? with
    | none => trivial
    | some c =>
      cases c <;> try trivial
      case clo f ds =>
        have hn := h.no e1 (fun z => nomatch z)
        have e2 : (G.ov m X).cs[n]? = some (.clo f ds) := by
          show (ovr m X G.cs)[n]? = _
          rw [ovr_at m X G.cs n hn]; exact e1
        rw [e2]
        try dsimp only
        have ek : (G.ov m X).kill = G.kill.ov m (X.map Cell.kill) := by
          show ({ lim := _, cs := (ovr m X G.cs).map Cell.kill } : Store) = { lim := _, cs := ovr m (X.map Cell.kill) (G.cs.map Cell.kill) }
          rw [ovr_kill]; rfl
        rw [ek]
        have t := hC m (X.map Cell.kill) f ds G.kill h.kill
        have hr : ∀ G', DM m (X.map Cell.kill) G' → (G.ov m X).rev (G'.ov m (X.map Cell.kill)) = (G.rev G').ov m X ∧ DM m X (G.rev G') := fun G' h' => by
          refine ⟨?_, h.len, by show _ ≤ (revL _ _).length; rw [revL_length]; exact h'.le, fun j ej => ?_⟩
          · show ({ lim := _, cs := revL (ovr m X G.cs) (ovr m (X.map Cell.kill) G'.cs) } : Store) = { lim := _, cs := ovr m X (revL G.cs G'.cs) }
            rw [ovr_rev _ _ _ _ h.len h.le]; rfl
          · show (revL G.cs G'.cs)[j]? = _
            rw [revL_dead (h.dead j ej)]; exact h'.dead j ej
        cases hF : C f ds G.kill with
        | stuck => trivial
        | ok d G' =>
          rw [hF] at t
          obtain ⟨h', e'⟩ := t
          rw [e']
          simp only [revR]
          by_cases hl : G'.lim = G.lim
          · rw [if_pos hl, if_pos (show (G'.ov m _).lim = (G.ov m X).lim from hl)]
            exact ⟨(hr G' h').2, by rw [(hr G' h').1]⟩
          · rw [if_neg hl]; trivial
        | exc k fs G' =>
          rw [hF] at t
          obtain ⟨h', e'⟩ := t
          rw [e']
          simp only [revR]
          by_cases hl : G'.lim = G.lim
          · rw [if_pos hl, if_pos (show (G'.ov m _).lim = (G.ov m X).lim from hl)]
            exact ⟨(hr G' h').2, by rw [(hr G' h').1]⟩
          · rw [if_neg hl]; trivial
  · trivial
theorem compGo_th {t : Tg} {v : Itv} {c : Option ME} {e : ME} {ρ : Env} {n : Nat} (hc : ∀ f, c = some f → ∀ ρ G, DM m X G → TR m X (f ρ G) (f ρ (G.ov m X))) (he : ∀ ρ G, DM m X G → TR m X (e ρ G) (e ρ (G.ov m X))) : ∀ (f i : Nat) (G : Store), DM m X G → TR m X (compGo t v c e ρ n f i G) (compGo t v c e ρ n f i (G.ov m X))
  | 0, _, _, _ => trivial
  | f + 1, i, G, h => by
    unfold compGo
    cases e1 : v.at i G with
    | none => trivial
    | some o =>
      rw [itvAt_mono h e1]
      cases o with
      | none => exact .ok h _
      | some d =>
        try dsimp only
        cases t.bind d ρ with
        | none => trivial
        | some ρ1 =>
          try dsimp only
          refine TR.bind (m := m) (X := X) ?_ fun b G1 h1 => ?_
          · cases c with
            | none => exact .ok h _
            | some g =>
              refine TR.bind (hc g rfl ρ1 G h) fun x G1 h1 => ?_
              try dsimp only
              cases e2 : truthy x G1 with
              | none => trivial
              | some b => rw [truthy_mono h1 e2]; exact .ok h1 _
          · cases b with
            | true =>
              simp only [if_true]
              refine TR.bind (he ρ1 G1 h1) fun x G2 h2 => ?_
              try dsimp only
              cases e3 : G2.lst? n with
              | none => trivial
              | some ys =>
                rw [(h2.lst e3).1]
                by_cases hl : G2.lim ≤ n ∧ ys.length < sizeLine
                · simp only [if_pos hl, if_pos (show (G2.ov m X).lim ≤ n ∧ ys.length < sizeLine from hl)]
                  have := compGo_th hc he f (i + 1) (t := t) (v := v) (ρ := ρ) (n := n) _ (h2.put (h2.lst e3).2 (.lst (ys ++ [x])))
                  rw [ov_put (h2.lst e3).2] at this
                  exact this
                · simp only [if_neg hl]; trivial
            | false =>
              simp only [Bool.false_eq_true, if_false]
              exact compGo_th hc he f (i + 1) _ h1
theorem genGo_th {al : Bool} {t : Tg} {v : Itv} {e : ME} {ρ : Env} (he : ∀ ρ G, DM m X G → TR m X (e ρ G) (e ρ (G.ov m X))) : ∀ (f i : Nat) (G : Store), DM m X G → TR m X (genGo al t v e ρ f i G) (genGo al t v e ρ f i (G.ov m X))
  | 0, _, _, _ => trivial
  | f + 1, i, G, h => by
    unfold genGo
    cases e1 : v.at i G with
    | none => trivial
    | some o =>
      rw [itvAt_mono h e1]
      cases o with
      | none => exact .ok h _
      | some d =>
        try dsimp only
        cases t.bind d ρ with
        | none => trivial
        | some ρ1 =>
          try dsimp only
          refine TR.bind (he ρ1 G h) fun x G1 h1 => ?_
          cases x <;> try exact trivial
          case bl b =>
            try dsimp only
            by_cases hb : b = al
            · rw [if_pos hb, if_pos hb]; exact genGo_th he f (i + 1) G1 h1
            · rw [if_neg hb, if_neg hb]; exact .ok h1 _
theorem mtTy_mono (h : DM m X G) {f : Mt} {d : D} (e : mtTy f d G = true) : mtTy f d (G.ov m X) = true := by
  cases f <;> cases d <;> first | exact e | skip
  all_goals
    rename_i n
    have e : (G.lst? n).isSome = true := e
    obtain ⟨xs, e1⟩ := Option.isSome_iff_exists.mp e
    show ((G.ov m X).lst? n).isSome = true
    rw [(h.lst e1).1]; rfl
mutual
theorem ev_th (hC : CT C) : ∀ (e : Ex) (ρ : Env) (G : Store), DM m X G → TR m X (ev C e ρ G) (ev C e ρ (G.ov m X))
  | .k d, ρ, G, h => .ok h _
  | .v i, ρ, G, h => by
    show TR m X (mV i ρ G) (mV i ρ (G.ov m X))
    unfold mV
    split <;> first | exact .ok h _ | trivial
  | .un o a, ρ, G, h => TR.bind (ev_th hC a ρ G h) fun x G1 h1 => (op1_th h1 o x).no
  | .bin o a b, ρ, G, h => TR.bind (ev_th hC a ρ G h) fun x G1 h1 => TR.bind (ev_th hC b ρ G1 h1) fun y G2 h2 => (op2_th h2 o x y).no
  | .and a b, ρ, G, h => TR.bind (ev_th hC a ρ G h) fun x G1 h1 => by
    try dsimp only
    cases e : truthy x G1 with
    | none => trivial
    | some z => rw [truthy_mono h1 e]; cases z <;> first | exact .ok h1 _ | exact ev_th hC b ρ G1 h1
  | .or a b, ρ, G, h => TR.bind (ev_th hC a ρ G h) fun x G1 h1 => by
    try dsimp only
    cases e : truthy x G1 with
    | none => trivial
    | some z => rw [truthy_mono h1 e]; cases z <;> first | exact .ok h1 _ | exact ev_th hC b ρ G1 h1
  | .ite c a b, ρ, G, h => TR.bind (ev_th hC c ρ G h) fun x G1 h1 => by
    try dsimp only
    cases e : truthy x G1 with
    | none => trivial
    | some z => rw [truthy_mono h1 e]; cases z <;> first | exact ev_th hC a ρ G1 h1 | exact ev_th hC b ρ G1 h1
  | .chain o p a b c, ρ, G, h => TR.bind (ev_th hC a ρ G h) fun x G1 h1 => TR.bind (ev_th hC b ρ G1 h1) fun y G2 h2 => TR.bind (op2_th h2 o x y).no fun z G3 h3 => by
    try dsimp only
    split
    · exact TR.bind (ev_th hC c ρ G3 h3) fun w G4 h4 => (op2_th h4 p y w).no
    · exact .ok h3 _
    · trivial
  | .tup es, ρ, G, h => TR.bind (evs_th hC es ρ G h) fun xs G1 h1 => by
    try dsimp only
    split <;> first | exact .ok h1 _ | trivial
  | .lst es, ρ, G, h => TR.bind (evs_th hC es ρ G h) fun xs G1 h1 => .newL h1 _
  | .dic0, ρ, G, h => ⟨h.new _, by rw [ov_new h]; show R.ok (D.ref _) _ = _; rw [ov_len]⟩
  | .sl a lo hi, ρ, G, h => TR.bind (ev_th hC a ρ G h) fun x G1 h1 => TR.bind (evo_th hC lo ρ G1 h1) fun l G2 h2 => TR.bind (evo_th hC hi ρ G2 h2) fun u G3 h3 => (opSl_th h3 x l u).no
  | .rev a, ρ, G, h => TR.bind (ev_th hC a ρ G h) fun x G1 h1 => (opRev_th h1 x).no
  | .call f es, ρ, G, h => TR.bind (evs_th hC es ρ G h) fun xs G1 h1 => hC m X f xs G1 h1
  | .callD f es ds, ρ, G, h => TR.bind (evs_th hC es ρ G h) fun xs G1 h1 => hC m X f _ G1 h1
  | .bf f es, ρ, G, h => TR.bind (evs_th hC es ρ G h) fun xs G1 h1 => (bf_th h1 f xs).no
  | .mt f o es, ρ, G, h => TR.bind (ev_th hC o ρ G h) fun x G1 h1 => by
    try dsimp only
    by_cases e : mtTy f x G1 = true
    · rw [if_pos e, if_pos (mtTy_mono h1 e)]
      exact TR.bind (evs_th hC es ρ G1 h1) fun xs G2 h2 => (mt_th h2 f x xs).no
    · rw [if_neg e]; trivial
  | .comp t it c e own, ρ, G, h => TR.bind (evi_th hC it ρ G h) fun v G1 h1 => by
    try dsimp only
    refine TR.bind (m := m) (X := X) ?_ fun _ G2 h2 => ⟨h2, by rw [ov_len]⟩
    have := (compGo_th (m := m) (X := X) (t := t) (v := v) (c := evc C c) (e := ev C e) (ρ := wipeE ρ own) (n := G1.cs.length) (evc_th hC c) (ev_th hC e) loopFuel 0 _ (h1.new (.lst []))).no
    rw [ov_new h1] at this
    rw [ov_len]
    exact this
  | .gen all t it e own, ρ, G, h => TR.bind (evi_th hC it ρ G h) fun v G1 h1 => (genGo_th (ev_th hC e) loopFuel 0 G1 h1).no
  | .callV i, ρ, G, h => callV_th hC h i ρ
  | .rng1D t hi, ρ, G, h => TR.bind (ev_th hC hi ρ G h) fun x G2 h2 => by
    cases x <;> first | exact trivial | exact (rngV_th h2 t _ _).no
  | .rng2D t lo hi, ρ, G, h => TR.bind (ev_th hC lo ρ G h) fun y G1 h1 => TR.bind (ev_th hC hi ρ G1 h1) fun x G2 h2 => by
    cases y <;> cases x <;> first | exact trivial | exact (rngV_th h2 t _ _).no
  | .isE i k, ρ, G, h => by
    show TR m X (if _ then _ else _) (if _ then _ else _)
    split <;> first | exact hC m X _ _ G h | trivial
  | .fldE i k, ρ, G, h => by
    show TR m X (if _ then _ else _) (if _ then _ else _)
    split <;> first | exact hC m X _ _ G h | trivial
theorem evs_th (hC : CT C) : ∀ (es : Exs) (ρ : Env) (G : Store), DM m X G → TR m X (evs C es ρ G) (evs C es ρ (G.ov m X))
  | .nil, ρ, G, h => .ok h _
  | .cons e es, ρ, G, h => TR.bind (ev_th hC e ρ G h) fun x G1 h1 => TR.bind (evs_th hC es ρ G1 h1) fun xs G2 h2 => .ok h2 _
theorem evo_th (hC : CT C) : ∀ (e : Exo) (ρ : Env) (G : Store), DM m X G → TR m X (evo C e ρ G) (evo C e ρ (G.ov m X))
  | .none, ρ, G, h => .ok h _
  | .some e, ρ, G, h => TR.bind (ev_th hC e ρ G h) fun x G1 h1 => by cases x <;> first | exact trivial | exact .ok h1 _
theorem evc_th (hC : CT C) : ∀ (c : Exo) (f : ME), evc C c = some f → ∀ ρ G, DM m X G → TR m X (f ρ G) (f ρ (G.ov m X))
  | .none, f, e => nomatch e
  | .some a, f, e => by
    have e : some (ev C a) = some f := e
    cases e
    exact ev_th hC a
theorem evi_th (hC : CT C) : ∀ (it : It) (ρ : Env) (G : Store), DM m X G → TR m X (evi C it ρ G) (evi C it ρ (G.ov m X))
  | .one e, ρ, G, h => TR.bind (ev_th hC e ρ G h) fun x G1 h1 => by
    try dsimp only
    cases e : srcOf x G1 with
    | none => trivial
    | some s => rw [srcOf_mono h1 e]; exact .ok h1 _
  | .enum e, ρ, G, h => TR.bind (ev_th hC e ρ G h) fun x G1 h1 => by
    cases x <;> try exact trivial
    case tup xs => exact .ok h1 _
    case ref n =>
      try dsimp only
      cases e : G1.lst? n with
      | none => trivial
      | some xs => rw [(h1.lst e).1]; exact .ok h1 _
  | .zip a b, ρ, G, h => TR.bind (ev_th hC a ρ G h) fun x G1 h1 => TR.bind (ev_th hC b ρ G1 h1) fun y G2 h2 => by
    cases x <;> cases y <;> try exact trivial
    case tup.tup => exact .ok h2 _
    case ref.ref p q =>
      try dsimp only
      by_cases hz : (G2.lst? p).isSome = true ∧ (G2.lst? q).isSome = true
      · obtain ⟨xs, e1⟩ := Option.isSome_iff_exists.mp hz.1
        obtain ⟨ys, e2⟩ := Option.isSome_iff_exists.mp hz.2
        rw [if_pos hz, if_pos (by rw [(h2.lst e1).1, (h2.lst e2).1]; exact ⟨rfl, rfl⟩)]
        exact .ok h2 _
      · rw [if_neg hz]; trivial
  | .rng1 e, ρ, G, h => TR.bind (ev_th hC e ρ G h) fun x G1 h1 => by
    cases x <;> try exact trivial
    case int j => dsimp only; split <;> first | exact .ok h1 _ | trivial
  | .rng2 a b, ρ, G, h => TR.bind (ev_th hC a ρ G h) fun x G1 h1 => TR.bind (ev_th hC b ρ G1 h1) fun y G2 h2 => by
    cases x <;> cases y <;> try exact trivial
    case int.int => dsimp only; split <;> first | exact .ok h2 _ | trivial
end
theorem TS.ofR {α : Type} {r r' : R α} {ρ : Env} {f f' : α → Store → RS} (h : TR m X r r') (k : ∀ a G, DM m X G → TS m X (f a G) (f' a (G.ov m X))) : TS m X (RS.ofR r ρ f) (RS.ofR r' ρ f') := by
  cases r with
  | ok a G => obtain ⟨h, rfl⟩ := h; exact k a G h
  | exc n fs G => obtain ⟨h, rfl⟩ := h; exact ⟨h, rfl⟩
  | stuck => trivial
def seqR (r : RS) (b : MS) : RS := match r with
  | .nx ρ1 G1 => b ρ1 G1
  | r => r
theorem TS.seq {r r' : RS} {b b' : MS} (h : TS m X r r') (k : ∀ ρ G, DM m X G → TS m X (b ρ G) (b' ρ (G.ov m X))) : TS m X (seqR r b) (seqR r' b') := by
  cases r with
  | nx ρ G => obtain ⟨h, rfl⟩ := h; exact k ρ G h
  | rt d G => obtain ⟨h, rfl⟩ := h; exact ⟨h, rfl⟩
  | bk ρ G => obtain ⟨h, rfl⟩ := h; exact ⟨h, rfl⟩
  | ct ρ G => obtain ⟨h, rfl⟩ := h; exact ⟨h, rfl⟩
  | exc n fs ρ G => obtain ⟨h, rfl⟩ := h; exact ⟨h, rfl⟩
  | stuck => trivial
theorem whileGo_th {c : ME} {a : MS} (hc : ∀ ρ G, DM m X G → TR m X (c ρ G) (c ρ (G.ov m X))) (ha : ∀ ρ G, DM m X G → TS m X (a ρ G) (a ρ (G.ov m X))) : ∀ (f : Nat) (ρ : Env) (G : Store), DM m X G → TS m X (whileGo c a f ρ G) (whileGo c a f ρ (G.ov m X))
  | 0, _, _, _ => trivial
  | f + 1, ρ, G, h => by
    unfold whileGo
    refine TS.ofR (hc ρ G h) fun x G1 h1 => ?_
    try dsimp only
    cases e : truthy x G1 with
    | none => trivial
    | some z =>
      rw [truthy_mono h1 e]
      cases z with
      | false => exact ⟨h1, rfl⟩
      | true =>
        try dsimp only
        have t := ha ρ G1 h1
        cases hr : a ρ G1 with
        | nx ρ2 G2 => rw [hr] at t; obtain ⟨h2, e2⟩ := t; rw [e2]; exact whileGo_th hc ha f ρ2 G2 h2
        | ct ρ2 G2 => rw [hr] at t; obtain ⟨h2, e2⟩ := t; rw [e2]; exact whileGo_th hc ha f ρ2 G2 h2
        | bk ρ2 G2 => rw [hr] at t; obtain ⟨h2, e2⟩ := t; rw [e2]; exact ⟨h2, rfl⟩
        | rt d G2 => rw [hr] at t; obtain ⟨h2, e2⟩ := t; rw [e2]; exact ⟨h2, rfl⟩
        | exc n fs ρ2 G2 => rw [hr] at t; obtain ⟨h2, e2⟩ := t; rw [e2]; exact ⟨h2, rfl⟩
        | stuck => trivial
theorem forGo_th {t : Tg} {v : Itv} {a : MS} (ha : ∀ ρ G, DM m X G → TS m X (a ρ G) (a ρ (G.ov m X))) : ∀ (f i : Nat) (ρ : Env) (G : Store), DM m X G → TS m X (forGo t v a f i ρ G) (forGo t v a f i ρ (G.ov m X))
  | 0, _, _, _, _ => trivial
  | f + 1, i, ρ, G, h => by
    unfold forGo
    cases e1 : v.at i G with
    | none => trivial
    | some o =>
      rw [itvAt_mono h e1]
      cases o with
      | none => exact ⟨h, rfl⟩
      | some d =>
        try dsimp only
        cases t.bind d ρ with
        | none => trivial
        | some ρ1 =>
          try dsimp only
          have t' := ha ρ1 G h
          cases hr : a ρ1 G with
          | nx ρ2 G2 => rw [hr] at t'; obtain ⟨h2, e2⟩ := t'; rw [e2]; exact forGo_th ha f (i + 1) ρ2 G2 h2
          | ct ρ2 G2 => rw [hr] at t'; obtain ⟨h2, e2⟩ := t'; rw [e2]; exact forGo_th ha f (i + 1) ρ2 G2 h2
          | bk ρ2 G2 => rw [hr] at t'; obtain ⟨h2, e2⟩ := t'; rw [e2]; exact ⟨h2, rfl⟩
          | rt d G2 => rw [hr] at t'; obtain ⟨h2, e2⟩ := t'; rw [e2]; exact ⟨h2, rfl⟩
          | exc n fs ρ2 G2 => rw [hr] at t'; obtain ⟨h2, e2⟩ := t'; rw [e2]; exact ⟨h2, rfl⟩
          | stuck => trivial
theorem hC_th (c : Nat) (fs : List D) : CT (Cut.hC c fs) := fun m X f ds G h => by
  unfold Cut.hC
  split
  · split <;> first | exact .ok h _ | trivial
  · split
    · split
      · split <;> first | exact .ok h _ | trivial
      · trivial
    · trivial
theorem lamsGo_th {ρ : Env} : ∀ {ls : List (Nat × List Nat)} {acc ds : List D} {G G1 : Store}, DM m X G → lamsGo ρ ls acc G = some (ds, G1) → DM m X G1 ∧ lamsGo ρ ls acc (G.ov m X) = some (ds, G1.ov m X)
  | [], _, _, _, _, h, e => by cases e; exact ⟨h, rfl⟩
  | (f, js) :: r, acc, ds, G, G1, h, e => by
    unfold lamsGo at e ⊢
    cases hm : js.mapM fun j => (ρ[j]?).join with
    | none => rw [hm] at e; cases e
    | some es =>
      rw [hm] at e
      dsimp only at e ⊢
      obtain ⟨h1, h2⟩ := lamsGo_th (h.new _) e
      refine ⟨h1, ?_⟩
      rw [ov_new h] at h2
      rw [ov_len]
      exact h2
mutual
theorem ex_th : ∀ {C : CallF} (hC : CT C) (s : Sm) (ρ : Env) (G : Store), DM m X G → TS m X (ex C s ρ G) (ex C s ρ (G.ov m X))
  | _, hC, .pass, ρ, G, h => ⟨h, rfl⟩
  | _, hC, .expr e, ρ, G, h => TS.ofR (ev_th hC e ρ G h) fun _ G1 h1 => ⟨h1, rfl⟩
  | _, hC, .set t e, ρ, G, h => TS.ofR (ev_th hC e ρ G h) fun x G1 h1 => by (try dsimp only); cases t.bind x ρ <;> first | exact ⟨h1, rfl⟩ | trivial
  | _, hC, .par is es, ρ, G, h => TS.ofR (evs_th hC es ρ G h) fun x G1 h1 => by (try dsimp only); cases bindN is x ρ <;> first | exact ⟨h1, rfl⟩ | trivial
  | _, hC, .setIx a i e, ρ, G, h => TS.ofR (ev_th hC e ρ G h) fun d G1 h1 => TS.ofR (ev_th hC a ρ G1 h1) fun o G2 h2 => TS.ofR (ev_th hC i ρ G2 h2) fun k G3 h3 => by
    try dsimp only
    cases e1 : setAt o k d G3 with
    | none => trivial
    | some G4 => rw [(setAt_th h3 e1).2]; exact ⟨(setAt_th h3 e1).1, rfl⟩
  | _, hC, .setKey a i e, ρ, G, h => TS.ofR (ev_th hC e ρ G h) fun d G1 h1 => TS.ofR (ev_th hC a ρ G1 h1) fun o G2 h2 => TS.ofR (ev_th hC i ρ G2 h2) fun k G3 h3 => by
    try dsimp only
    cases e1 : setKeyAt o k d G3 with
    | none => trivial
    | some G4 => rw [(setKeyAt_th h3 e1).2]; exact ⟨(setKeyAt_th h3 e1).1, rfl⟩
  | C, hC, .aug i o e, ρ, G, h => by
    show TS m X (sAug i o (ev C e) ρ G) (sAug i o (ev C e) ρ (G.ov m X))
    unfold sAug
    split
    · refine TS.ofR (ev_th hC e ρ G h) fun y G1 h1 => TS.ofR (TR.no ?_) fun z G2 h2 => ⟨h2, rfl⟩
      unfold opAug
      split <;> first | exact op2_th h1 o _ y | trivial
    · trivial
  | _, hC, .augIx a i o e, ρ, G, h => TS.ofR (ev_th hC a ρ G h) fun p G1 h1 => TS.ofR (ev_th hC i ρ G1 h1) fun k G2 h2 => TS.ofR (op2_th h2 .ix p k).no fun x G3 h3 => TS.ofR (ev_th hC e ρ G3 h3) fun y G4 h4 => TS.ofR (TR.no (by
      unfold opAug
      split <;> first | exact op2_th h4 o x y | trivial)) fun z G5 h5 => by
    try dsimp only
    cases e1 : setAt p k z G5 with
    | none => trivial
    | some G6 => rw [(setAt_th h5 e1).2]; exact ⟨(setAt_th h5 e1).1, rfl⟩
  | _, hC, .ifs c a b, ρ, G, h => TS.ofR (ev_th hC c ρ G h) fun x G1 h1 => by
    try dsimp only
    cases e : truthy x G1 with
    | none => trivial
    | some z => rw [truthy_mono h1 e]; cases z <;> first | exact exs_th hC a ρ G1 h1 | exact exs_th hC b ρ G1 h1
  | _, hC, .whil c a, ρ, G, h => whileGo_th (ev_th hC c) (exs_th hC a) loopFuel ρ G h
  | _, hC, .for_ t it a, ρ, G, h => TS.ofR (evi_th hC it ρ G h) fun v G1 h1 => forGo_th (exs_th hC a) loopFuel 0 ρ G1 h1
  | _, hC, .ret e, ρ, G, h => TS.ofR (ev_th hC e ρ G h) fun _ G1 h1 => ⟨h1, rfl⟩
  | _, hC, .retN, ρ, G, h => ⟨h, rfl⟩
  | _, hC, .brk, ρ, G, h => ⟨h, rfl⟩
  | _, hC, .cnt, ρ, G, h => ⟨h, rfl⟩
  | _, hC, .raise k es, ρ, G, h => TS.ofR (evs_th hC es ρ G h) fun _ G1 h1 => ⟨h1, rfl⟩
  | C, hC, .tryAs a k i hd, ρ, G, h => by
    show TS m X (sTry (exs C a) k i (fun c fs => exs (Cut.hC c fs) hd) ρ G) (sTry (exs C a) k i (fun c fs => exs (Cut.hC c fs) hd) ρ (G.ov m X))
    unfold sTry
    have t := exs_th hC a ρ G h
    cases hr : exs C a ρ G with
    | nx ρ2 G2 => rw [hr] at t; obtain ⟨h2, e2⟩ := t; rw [e2]; exact ⟨h2, rfl⟩
    | ct ρ2 G2 => rw [hr] at t; obtain ⟨h2, e2⟩ := t; rw [e2]; exact ⟨h2, rfl⟩
    | bk ρ2 G2 => rw [hr] at t; obtain ⟨h2, e2⟩ := t; rw [e2]; exact ⟨h2, rfl⟩
    | rt d G2 => rw [hr] at t; obtain ⟨h2, e2⟩ := t; rw [e2]; exact ⟨h2, rfl⟩
    | stuck => trivial
    | exc c fs ρ1 G1 =>
      rw [hr] at t
      obtain ⟨h1, e1⟩ := t
      rw [e1]
      try dsimp only
      by_cases hk : k = none ∨ k = some c
      · rw [if_pos hk, if_pos hk]
        have t2 := exs_th (hC_th c fs) hd (ρ1.set i none) G1 h1
        cases hr2 : exs (Cut.hC c fs) hd (ρ1.set i none) G1 with
        | nx ρ2 G2 => rw [hr2] at t2; obtain ⟨h2, e2⟩ := t2; rw [e2]; exact ⟨h2, rfl⟩
        | rt d G2 => rw [hr2] at t2; obtain ⟨h2, e2⟩ := t2; rw [e2]; exact ⟨h2, rfl⟩
        | _ => trivial
      · rw [if_neg hk, if_neg hk]; exact ⟨h1, rfl⟩
  | _, hC, .lams ls, ρ, G, h => by
    show TS m X (sLams ls ρ G) (sLams ls ρ (G.ov m X))
    unfold sLams
    cases e : lamsGo ρ ls [] G with
    | none => trivial
    | some p =>
      obtain ⟨ds, G1⟩ := p
      obtain ⟨h1, h2⟩ := lamsGo_th h e
      rw [h2]
      try dsimp only
      exact ⟨h1.new _, by rw [ov_new h1, ov_len]⟩
  | _, hC, .never, ρ, G, h => trivial
theorem exs_th : ∀ {C : CallF} (hC : CT C) (ss : Sms) (ρ : Env) (G : Store), DM m X G → TS m X (exs C ss ρ G) (exs C ss ρ (G.ov m X))
  | _, hC, .nil, ρ, G, h => ⟨h, rfl⟩
  | C, hC, .cons s ss, ρ, G, h => by
    show TS m X (seqR (ex C s ρ G) (exs C ss)) (seqR (ex C s ρ (G.ov m X)) (exs C ss))
    exact TS.seq (ex_th hC s ρ G h) fun ρ1 G1 h1 => exs_th hC ss ρ1 G1 h1
end
theorem fin_th {r r' : RS} (t : TS m X r r') : TR m X (finish r) (finish r') := by
  cases r with
  | nx ρ G => obtain ⟨h, rfl⟩ := t; exact ⟨h, rfl⟩
  | rt d G => obtain ⟨h, rfl⟩ := t; exact ⟨h, rfl⟩
  | exc n fs ρ G => obtain ⟨h, rfl⟩ := t; exact ⟨h, rfl⟩
  | _ => trivial
theorem run_th (T : List Fd) : ∀ k, CT (run T k)
  | 0 => fun _ _ _ _ _ _ => trivial
  | k + 1 => fun m X f ds G h => by
    unfold run
    cases T[f]? with
    | none => trivial
    | some fd =>
      try dsimp only
      split
      · exact gc_th h (fin_th (exs_th (run_th T k) fd.body _ G h))
      · trivial
end
/-! ### how it is used: what stands open is taken for dead, the rest is reckoned out -/
def deadB : Cell → Bool
  | .dead => true
  | _ => false
theorem dm_of {G0 X : List Cell} {l : Nat} (h : G0.length = X.length) : DM (G0.map deadB) X ⟨l, G0⟩ := ⟨by rw [List.length_map, h], by rw [List.length_map]; exact Nat.le_refl _, fun i e => by
  rw [List.getElem?_map] at e
  obtain ⟨c, e1, e2⟩ := Option.map_eq_some_iff.mp e
  show G0[i]? = _
  rw [e1]
  cases c <;> first | rfl | cases e2⟩
/-- what the look asks of the answer: the old cells stand, so many new ones -/
def okR {α : Type} (l : Nat) (G0 : List Cell) (p : α → Bool) (j : Nat) : R α → Bool
  | .ok a G => p a && (decide (G.lim = l) && (decide (G.cs.take G0.length = G0) && decide (G.cs.length = G0.length + j)))
  | _ => false
theorem ovr_over {G0 X : List Cell} (h : ovr (G0.map deadB) X G0 = X) (hl : G0.length = X.length) {cs : List Cell} (e : cs.take G0.length = G0) : ∃ ys, ovr (G0.map deadB) X cs = X ++ ys ∧ ys = cs.drop G0.length := by
  have e1 : cs = G0 ++ cs.drop G0.length := by
    conv => lhs; rw [← List.take_append_drop G0.length cs, e]
  refine ⟨cs.drop G0.length, ?_, rfl⟩
  conv => lhs; rw [e1]
  rw [ovr_app _ _ _ _ (by rw [List.length_map, hl]) (by rw [List.length_map]; exact Nat.le_refl _), h]
theorem ev_at {T : List Fd} {k : Nat} {e : Ex} {ρ : Env} {l : Nat} {G0 X : List Cell} {p : D → Bool} {j : Nat} (hc : okR l G0 p j (ev (run T k) e ρ ⟨l, G0⟩) = true) (hl : G0.length = X.length) (hX : ovr (G0.map deadB) X G0 = X) : ∃ d ys, ys.length = j ∧ p d = true ∧ ev (run T k) e ρ ⟨l, X⟩ = .ok d ⟨l, X ++ ys⟩ := by
  have t := ev_th (m := G0.map deadB) (X := X) (run_th T k) e ρ ⟨l, G0⟩ (dm_of hl)
  cases hr : ev (run T k) e ρ ⟨l, G0⟩ with
  | ok a G =>
    rw [hr] at t hc
    obtain ⟨h1, h2⟩ := t
    simp only [okR, Bool.and_eq_true, decide_eq_true_eq] at hc
    obtain ⟨c1, c2, c3, c4⟩ := hc
    obtain ⟨ys, e1, e2⟩ := ovr_over hX hl c3
    refine ⟨a, ys, by rw [e2, List.length_drop]; omega, c1, ?_⟩
    have : (Store.ov ⟨l, G0⟩ (G0.map deadB) X) = ⟨l, X⟩ := by
      show ({ lim := _, cs := ovr _ _ _ } : Store) = _
      rw [hX]
    rw [this] at h2
    rw [h2]
    show R.ok a { lim := _, cs := ovr _ _ _ } = _
    rw [e1, c2]
  | exc _ _ _ => rw [hr] at hc; cases hc
  | stuck => rw [hr] at hc; cases hc
theorem run_at {T : List Fd} {k f : Nat} {ds : List D} {l : Nat} {G0 X : List Cell} {p : D → Bool} {j : Nat} (hc : okR l G0 p j (run T k f ds ⟨l, G0⟩) = true) (hl : G0.length = X.length) (hX : ovr (G0.map deadB) X G0 = X) : ∃ d ys, ys.length = j ∧ p d = true ∧ run T k f ds ⟨l, X⟩ = .ok d ⟨l, X ++ ys⟩ := by
  have t := run_th T k (G0.map deadB) X f ds ⟨l, G0⟩ (dm_of hl)
  cases hr : run T k f ds ⟨l, G0⟩ with
  | ok a G =>
    rw [hr] at t hc
    obtain ⟨h1, h2⟩ := t
    simp only [okR, Bool.and_eq_true, decide_eq_true_eq] at hc
    obtain ⟨c1, c2, c3, c4⟩ := hc
    obtain ⟨ys, e1, e2⟩ := ovr_over hX hl c3
    refine ⟨a, ys, by rw [e2, List.length_drop]; omega, c1, ?_⟩
    have : (Store.ov ⟨l, G0⟩ (G0.map deadB) X) = ⟨l, X⟩ := by
      show ({ lim := _, cs := ovr _ _ _ } : Store) = _
      rw [hX]
    rw [this] at h2
    rw [h2]
    show R.ok a { lim := _, cs := ovr _ _ _ } = _
    rw [e1, c2]
  | exc _ _ _ => rw [hr] at hc; cases hc
  | stuck => rw [hr] at hc; cases hc
end Cut
/-! Operations, one by one. -/
namespace Cut
open PySem
section
variable {G : Store} {P : D → Store → Prop} {i j : Int} {xs ys : List D} {n : Nat}
theorem o_add : wp (op2 .add (.int i) (.int j) G) P = P (.int (i + j)) G := propext Iff.rfl
theorem o_addT : wp (op2 .add (.tup xs) (.tup ys) G) P = (xs.length + ys.length ≤ sizeLine ∧ P (.tup (xs ++ ys)) G) := by
  show wp (if _ then _ else _) P = _
  by_cases h : xs.length + ys.length ≤ sizeLine <;> simp [h, wp]
theorem o_sub : wp (op2 .sub (.int i) (.int j) G) P = P (.int (i - j)) G := propext Iff.rfl
theorem o_mul : wp (op2 .mul (.int i) (.int j) G) P = (i.natAbs.log2 + j.natAbs.log2 < 1000000 ∧ P (.int (i * j)) G) := by
  show wp (if _ then _ else _) P = _
  by_cases h : i.natAbs.log2 + j.natAbs.log2 < 1000000 <;> simp [h, wp]
theorem o_fdiv : wp (op2 .fdiv (.int i) (.int j) G) P = ((0 < j ∧ j.natAbs.log2 < 9000) ∧ P (.int (i / j)) G) := by
  show wp (if _ then _ else _) P = _
  by_cases h : 0 < j ∧ j.natAbs.log2 < 9000 <;> simp [h, wp]
theorem o_mod : wp (op2 .mod (.int i) (.int j) G) P = (0 < j ∧ P (.int (i % j)) G) := by
  show wp (if _ then _ else _) P = _
  by_cases h : 0 < j <;> simp [h, wp]
theorem o_pow : wp (op2 .pow (.int i) (.int j) G) P = ((0 ≤ j ∧ j ≤ 1000000 ∧ i.natAbs < 2 ^ 64) ∧ P (.int (i ^ j.toNat)) G) := by
  show wp (if _ then _ else _) P = _
  by_cases h : 0 ≤ j ∧ j ≤ 1000000 ∧ i.natAbs < 2 ^ 64 <;> simp [h, wp]
theorem eqD_int : eqD G (.int i) (.int j) = some (decide (i = j)) := by
  show (if SeqAt.shaped (.int i) && SeqAt.shaped (.int j) then some (PyData.eqv (.int i) (.int j)) else none) = _
  have : PyData.eqv (.int i) (.int j) = decide (i = j) := by
    by_cases h : i = j <;> simp [PyData.eqv, h]
  rw [this]; rfl
theorem o_eq : wp (op2 .eq (.int i) (.int j) G) P = P (.bl (decide (i = j))) G := by
  show wp (okO (eqD G (.int i) (.int j)) G) P = _
  rw [eqD_int]; rfl
theorem o_ne : wp (op2 .ne (.int i) (.int j) G) P = P (.bl (!decide (i = j))) G := by
  show wp (okO ((eqD G (.int i) (.int j)).map (!·)) G) P = _
  rw [eqD_int]; rfl
theorem o_lt : wp (op2 .lt (.int i) (.int j) G) P = P (.bl (decide (i < j))) G := propext Iff.rfl
theorem o_le : wp (op2 .le (.int i) (.int j) G) P = P (.bl (decide (i ≤ j))) G := propext Iff.rfl
theorem o_gt : wp (op2 .gt (.int i) (.int j) G) P = P (.bl (decide (j < i))) G := propext Iff.rfl
theorem o_ge : wp (op2 .ge (.int i) (.int j) G) P = P (.bl (decide (j ≤ i))) G := propext Iff.rfl
theorem o_isT : wp (op2 .is (.tup xs) .non G) P = P (.bl false) G := propext Iff.rfl
theorem o_isI : wp (op2 .is (.int i) .non G) P = P (.bl false) G := propext Iff.rfl
theorem o_isR : wp (op2 .is (.ref n) .non G) P = P (.bl false) G := propext Iff.rfl
theorem o_isN : wp (op2 .is .non .non G) P = P (.bl true) G := propext Iff.rfl
theorem o_eqB {a b : Bool} : wp (op2 .eq (.bl a) (.bl b) G) P = P (.bl (decide (a = b))) G := by
  cases a <;> cases b <;> rfl
theorem o_neB {a b : Bool} : wp (op2 .ne (.bl a) (.bl b) G) P = P (.bl (!decide (a = b))) G := by
  cases a <;> cases b <;> rfl
theorem o_ixT {d : D} (h : ixAt xs i = some d) : wp (op2 .ix (.tup xs) (.int i) G) P = P d G := by
  show wp (okD (ixAt xs i) G) P = _
  rw [h]; rfl
theorem o_ixL {d : D} (hx : G.lst? n = some xs) (h : ixAt xs i = some d) : wp (op2 .ix (.ref n) (.int i) G) P = P d G := by
  show wp (match G.lst? n with | some xs => okD (ixAt xs i) G | none => .stuck) P = _
  rw [hx]; simp only [h]; rfl
theorem ixN_nat {l k : Nat} (h : k < l) : L2.ixN l (k : Int) = some k := by
  unfold L2.ixN
  first
    | (rw [if_pos (by omega)]; rw [if_pos (by omega)]; congr)
    | (simp; omega)
    | (split <;> (try split) <;> simp_all <;> omega)
theorem ixAt_nat {α : Type} {xs : List α} {k : Nat} {d : α} (h : xs[k]? = some d) : ixAt xs (k : Int) = some d := by
  unfold ixAt L2.atI
  rw [ixN_nat (List.getElem?_eq_some_iff.mp h).1]
  exact h
theorem o_not {d : D} : wp (op1 .not d G) P = tb (truthy d G) (P (.bl false) G) (P (.bl true) G) := by
  show wp (match truthy d G with | some b => R.ok (D.bl (!b)) G | none => .stuck) P = _
  rcases truthy d G with _ | (_ | _) <;> rfl
theorem o_lenT : wp (bf .len [.tup xs] G) P = P (.int xs.length) G := propext Iff.rfl
theorem o_lenL (hx : G.lst? n = some xs) : wp (bf .len [.ref n] G) P = P (.int xs.length) G := by
  show wp (match G.lst? n with | some xs => R.ok (D.int xs.length) G | none => .stuck) P = _
  rw [hx]; rfl
theorem o_int : wp (bf .int [.int i] G) P = P (.int i) G := propext Iff.rfl
theorem o_tupL (hx : G.lst? n = some xs) : wp (bf .tuple [.ref n] G) P = P (.tup xs) G := by
  show wp (match G.lst? n with | some xs => R.ok (D.tup xs) G | none => .stuck) P = _
  rw [hx]; rfl
theorem o_isin {d : D} {a b : Ty} (h : tyOf d G = some a) : wp (bf .isin [d, .ty b] G) P = P (.bl (isTy a b)) G := by
  show wp (okO ((tyOf d G).map fun a => isTy a b) G) P = _
  rw [h]; rfl
theorem o_isin2 {d : D} {a b c : Ty} (h : tyOf d G = some a) : wp (bf .isin [d, .tup [.ty b, .ty c]] G) P = P (.bl (isTy a b || isTy a c)) G := by
  show wp (match tyOf d G with | some a => okO (isTys a [.ty b, .ty c]) G | none => .stuck) P = _
  rw [h]
  show wp (okO (some (isTy a b || (isTy a c || false))) G) P = _
  rw [Bool.or_false]; rfl
theorem o_revL (hx : G.lst? n = some xs) : wp (opRev (.ref n) G) P = (xs.reverse.length ≤ sizeLine ∧ P (.ref G.cs.length) (G.new (.lst xs.reverse))) := by
  show wp (match G.lst? n with | some xs => newL xs.reverse G | none => .stuck) P = _
  rw [hx]; exact wp_newL
theorem o_slT {lo hi : Option Int} : wp (opSl (.tup xs) lo hi G) P = P (.tup (cutD xs lo hi)) G := propext Iff.rfl
theorem sIx_nat {k l : Nat} {d : Nat} (h : k ≤ l) : HT.sIx l d (some (k : Int)) = k := by
  show (if (k : Int) < 0 then ((k : Int) + (l : Int)).toNat else min (k : Int).toNat l) = k
  rw [if_neg (by omega), Int.toNat_natCast]; omega
theorem cut_mid {α : Type} {A C B : List α} {a b : Int} (ha : a = A.length) (hb : b = (A.length + C.length : Nat)) : cutD (A ++ C ++ B) (some a) (some b) = C := by
  subst ha; subst hb
  unfold cutD
  rw [sIx_nat (by simp only [List.length_append]; omega), sIx_nat (by simp only [List.length_append]; omega)]
  rw [List.append_assoc, List.drop_left, Nat.add_sub_cancel_left, List.take_left]
theorem o_neg : wp (op1 .neg (.int i) G) P = P (.int (-i)) G := propext Iff.rfl
theorem cut_init {α : Type} {C : List α} {x : α} : cutD (C ++ [x]) none (some (-1)) = C := by
  have h1 : HT.sIx (C ++ [x]).length 0 none = 0 := rfl
  have h2 : HT.sIx (C ++ [x]).length (C ++ [x]).length (some (-1)) = C.length := by
    show (if (-1 : Int) < 0 then ((-1 : Int) + ((C ++ [x]).length : Int)).toNat else min (-1 : Int).toNat (C ++ [x]).length) = _
    rw [if_pos (by omega), List.length_append, List.length_singleton]; omega
  unfold cutD
  rw [h1, h2, List.drop_zero, Nat.sub_zero, List.take_left]
theorem ix_last {α : Type} {C : List α} {x : α} : ixAt (C ++ [x]) (-1) = some x := by
  have h : L2.ixN (C ++ [x]).length (-1) = some C.length := by
    unfold L2.ixN
    rw [if_neg (by omega), if_pos (by rw [List.length_append, List.length_singleton]; omega), List.length_append, List.length_singleton]
    congr 1; omega
  unfold ixAt L2.atI
  rw [h]
  show (C ++ [x])[C.length]? = some x
  rw [List.getElem?_append_right (Nat.le_refl _), Nat.sub_self]; rfl
theorem o_isinI {b : Ty} : wp (bf .isin [.int i, .ty b] G) P = P (.bl (isTy .int b)) G := propext Iff.rfl
theorem o_isinT {b : Ty} : wp (bf .isin [.tup xs, .ty b] G) P = P (.bl (isTy .tuple b)) G := propext Iff.rfl
theorem o_isinB {a : Bool} {b : Ty} : wp (bf .isin [.bl a, .ty b] G) P = P (.bl (isTy .bool b)) G := propext Iff.rfl
theorem o_isinI2 {b c : Ty} : wp (bf .isin [.int i, .tup [.ty b, .ty c]] G) P = P (.bl (isTy .int b || (isTy .int c || false))) G := propext Iff.rfl
theorem o_isinT2 {b c : Ty} : wp (bf .isin [.tup xs, .tup [.ty b, .ty c]] G) P = P (.bl (isTy .tuple b || (isTy .tuple c || false))) G := propext Iff.rfl
theorem t_ii : isTy .int .int = true := rfl
theorem t_ib : isTy .int .bool = false := rfl
theorem t_is : isTy .int .str = false := rfl
theorem t_it : isTy .int .tuple = false := rfl
theorem t_il : isTy .int .list = false := rfl
theorem t_tt : isTy .tuple .tuple = true := rfl
theorem t_tl : isTy .tuple .list = false := rfl
theorem t_ts : isTy .tuple .str = false := rfl
theorem t_ti : isTy .tuple .int = false := rfl
theorem t_tb : isTy .tuple .bool = false := rfl
theorem t_bb : isTy .bool .bool = true := rfl
theorem t_bi : isTy .bool .int = true := rfl
theorem o_append {d : D} (hx : G.lst? n = some xs) (hl : G.lim ≤ n) (hz : xs.length < sizeLine) : wp (mt .append (.ref n) [d] G) P = P .non (G.put n (.lst (xs ++ [d]))) := by
  show wp (match G.lst? n with | some ys => if G.lim ≤ n ∧ ys.length < sizeLine then R.ok D.non (G.put n (.lst (ys ++ [d]))) else .stuck | none => .stuck) P = _
  rw [hx]; simp only [hl, hz, and_self, if_true]; rfl
theorem ty_append (hx : G.lst? n = some xs) : mtTy .append (.ref n) G = true := by
  show (G.lst? n).isSome = true
  rw [hx]; rfl
theorem setAt_nat {k : Nat} {d : D} (hx : G.lst? n = some xs) (hl : G.lim ≤ n) (hk : k < xs.length) : setAt (.ref n) (.int (k : Int)) d G = some (G.put n (.lst (xs.set k d))) := by
  simp only [setAt, hx, ixN_nat hk, hl, if_true]
theorem setAt_L {d : D} {k : Nat} {i : Int} (hi : i = k) (hx : G.lst? n = some xs) (hl : G.lim ≤ n) (hk : k < xs.length) : setAt (.ref n) (.int i) d G = some (G.put n (.lst (xs.set k d))) := by
  subst hi; exact setAt_nat hx hl hk
end
end Cut
/-! What the laws share: their source of numbers, alikeness, codes. -/
namespace Cut
open PySem
/-- _law_taken -/
def takenFd : Fd := ⟨2, 4, (.cons (.ifs (.bin .gt (.bin .ix (.v 0) (.k (.int 3))) (.k (.int 0))) (.cons (.set (.v 2) (.bin .mod (.bf .int (.cons (.bin .ix (.v 0) (.k (.int 3))) .nil)) (.v 1))) (.cons (.setIx (.v 0) (.k (.int 3)) (.bin .fdiv (.bin .ix (.v 0) (.k (.int 3))) (.v 1))) (.cons (.ret (.v 2)) .nil))) .nil) (.cons (.setIx (.v 0) (.k (.int 1)) (.bin .add (.bin .ix (.v 0) (.k (.int 1))) (.k (.int 1)))) (.cons (.ifs (.bin .gt (.bin .ix (.v 0) (.k (.int 1))) (.bf .len (.cons (.bin .ix (.v 0) (.k (.int 0))) .nil))) (.cons (.setIx (.v 0) (.k (.int 2)) (.bin .mod (.bf .int (.cons (.bin .add (.bin .mul (.bin .ix (.v 0) (.k (.int 2))) (.k (.int 48271))) (.k (.int 11))) .nil)) (.k (.int 2147483647)))) (.cons (.ret (.bin .mod (.bf .int (.cons (.bin .fdiv (.bin .ix (.v 0) (.k (.int 2))) (.k (.int 7))) .nil)) (.v 1))) .nil)) .nil) (.cons (.set (.v 3) (.bin .ix (.bin .ix (.v 0) (.k (.int 0))) (.bin .sub (.bin .ix (.v 0) (.k (.int 1))) (.k (.int 1))))) (.cons (.setIx (.v 0) (.k (.int 2)) (.bin .mod (.bf .int (.cons (.bin .add (.bin .add (.bin .mul (.bin .ix (.v 0) (.k (.int 2))) (.k (.int 48271))) (.v 3)) (.k (.int 11))) .nil)) (.k (.int 2147483647)))) (.cons (.ifs (.bin .ge (.v 3) (.bin .pow (.k (.int 10)) (.k (.int 18)))) (.cons (.setIx (.v 0) (.k (.int 3)) (.bin .fdiv (.v 3) (.v 1))) .nil) .nil) (.cons (.ret (.bin .mod (.bf .int (.cons (.v 3) .nil)) (.v 1))) .nil)))))))⟩
/-- _law_pick -/
def pickFd (ft : Nat) : Fd := ⟨2, 2, (.cons (.ret (.bin .ix (.v 1) (.call ft (.cons (.v 0) (.cons (.bf .len (.cons (.v 1) .nil)) .nil))))) .nil)⟩
/-- _law_number -/
def numberFd (ft : Nat) (fp : Nat) : Fd := ⟨1, 3, (.cons (.set (.v 1) (.lst (.cons (.k (.int 0)) (.cons (.k (.int 127)) (.cons (.k (.int 128)) (.cons (.k (.int 16383)) (.cons (.k (.int 16384)) (.cons (.k (.int 255)) (.cons (.k (.int 256)) (.cons (.bin .pow (.k (.int 10)) (.k (.int 18))) (.cons (.bin .sub (.bin .pow (.k (.int 10)) (.k (.int 18))) (.k (.int 1))) (.cons (.k (.int 2097152)) .nil)))))))))))) (.cons (.set (.v 2) (.lst (.cons (.call ft (.cons (.v 0) (.cons (.k (.int 300)) .nil))) (.cons (.call fp (.cons (.v 0) (.cons (.v 1) .nil))) (.cons (.call ft (.cons (.v 0) (.cons (.bin .pow (.k (.int 10)) (.k (.int 6))) .nil))) (.cons (.call ft (.cons (.v 0) (.cons (.bin .pow (.k (.int 10)) (.k (.int 18))) .nil))) (.cons (.k (.int 5)) .nil))))))) (.cons (.ret (.bin .ix (.v 2) (.call ft (.cons (.v 0) (.cons (.k (.int 5)) .nil))))) .nil)))⟩
/-- _law_alike -/
def alikeFd (fa : Nat) : Fd := ⟨2, 3, (.cons (.ifs (.bf .isin (.cons (.v 1) (.cons (.tup (.cons (.k (.ty .tuple)) (.cons (.k (.ty .list)) .nil))) .nil))) (.cons (.ifs (.or (.un .not (.bf .isin (.cons (.v 0) (.cons (.tup (.cons (.k (.ty .tuple)) (.cons (.k (.ty .list)) .nil))) .nil)))) (.bin .ne (.bf .isin (.cons (.v 0) (.cons (.k (.ty .list)) .nil))) (.bf .isin (.cons (.v 1) (.cons (.k (.ty .list)) .nil))))) (.cons (.ret (.k (.bl false))) .nil) .nil) (.cons (.ifs (.bin .ne (.bf .len (.cons (.v 0) .nil)) (.bf .len (.cons (.v 1) .nil))) (.cons (.ret (.k (.bl false))) .nil) .nil) (.cons (.ret (.bin .eq (.comp (.v 2) (.rng1 (.bf .len (.cons (.v 1) .nil))) (.some (.un .not (.call fa (.cons (.bin .ix (.v 0) (.v 2)) (.cons (.bin .ix (.v 1) (.v 2)) .nil))))) (.v 2) [2]) (.lst .nil))) .nil))) .nil) (.cons (.ifs (.or (.bin .is (.v 1) (.k .non)) (.bf .isin (.cons (.v 1) (.cons (.k (.ty .str)) .nil)))) (.cons (.ret (.and (.bin .eq (.v 0) (.v 1)) (.bin .eq (.bf .isin (.cons (.v 0) (.cons (.k (.ty .str)) .nil))) (.bf .isin (.cons (.v 1) (.cons (.k (.ty .str)) .nil)))))) .nil) .nil) (.cons (.ret (.and (.bf .isin (.cons (.v 0) (.cons (.k (.ty .int)) .nil))) (.and (.bin .eq (.bf .isin (.cons (.v 0) (.cons (.k (.ty .bool)) .nil))) (.bf .isin (.cons (.v 1) (.cons (.k (.ty .bool)) .nil)))) (.bin .eq (.v 0) (.v 1))))) .nil)))⟩
/-- _law_code -/
def codeFd : Fd := ⟨1, 2, (.cons (.set (.v 1) (.tup (.cons (.bin .mod (.bf .int (.cons (.v 0) .nil)) (.k (.int 128))) .nil))) (.cons (.set (.v 0) (.bin .fdiv (.v 0) (.k (.int 128)))) (.cons (.whil (.bin .gt (.v 0) (.k (.int 0))) (.cons (.set (.v 1) (.bin .add (.sl (.v 1) .none (.some (.un .neg (.k (.int 1))))) (.tup (.cons (.bin .add (.bin .ix (.v 1) (.un .neg (.k (.int 1)))) (.k (.int 128))) (.cons (.bin .mod (.bf .int (.cons (.v 0) .nil)) (.k (.int 128))) .nil))))) (.cons (.set (.v 0) (.bin .fdiv (.v 0) (.k (.int 128)))) .nil))) (.cons (.ret (.v 1)) .nil))))⟩
/-- _law_bytes -/
def bytesFd : Fd := ⟨2, 4, (.cons (.set (.v 2) (.tup .nil)) (.cons (.for_ (.v 3) (.rng1 (.v 1)) (.cons (.set (.v 2) (.bin .add (.tup (.cons (.bin .mod (.bf .int (.cons (.v 0) .nil)) (.k (.int 256))) .nil)) (.v 2))) (.cons (.set (.v 0) (.bin .fdiv (.v 0) (.k (.int 256)))) .nil))) (.cons (.ret (.v 2)) .nil)))⟩
section
variable {T : List Fd} {ft fp fn fa fc fb : Nat}
theorem eq_of_wp {α : Type} {r : R α} {a : α} {G : Store} (h : wp r fun b G' => b = a ∧ G' = G) : r = .ok a G := by
  obtain ⟨b, G', e, rfl, rfl⟩ := wp_iff.mp h
  exact e
theorem gc_id {G : Store} {d : D} (h : below G.cs.length d = true) : gc G (.ok d G) = .ok d G := gc_grown (.refl G) h
def Byte (b : Int) : Prop := 0 ≤ b ∧ b ≤ 255
theorem belows_int : ∀ (n : Nat) (xs : List Int), belows n (xs.map D.int) = true
  | _, [] => rfl
  | n, x :: xs => by show (true && belows n (xs.map D.int)) = true; rw [belows_int n xs]; rfl
theorem log2_lt {x k : Nat} (h : x < 2 ^ k) (hk : 0 < k) : x.log2 < k := by
  by_cases h0 : x = 0
  · subst h0; simpa using hk
  · exact (Nat.log2_lt h0).mpr h
def enc (n : Nat) : List Int := if h : n < 128 then [(n : Int)] else ((n % 128 + 128 : Nat) : Int) :: enc (n / 128)
termination_by n
decreasing_by omega
theorem enc_lo {n : Nat} (h : n < 128) : enc n = [(n : Int)] := by rw [enc, dif_pos h]
theorem enc_hi {n : Nat} (h : 128 ≤ n) : enc n = ((n % 128 + 128 : Nat) : Int) :: enc (n / 128) := by rw [enc, dif_neg (by omega)]
theorem enc_len : ∀ (j n : Nat), n < 128 ^ (j + 1) → (enc n).length ≤ j + 1
  | 0, n, h => by rw [enc_lo (by simpa using h)]; exact Nat.le_refl _
  | j + 1, n, h => by
    by_cases hn : n < 128
    · rw [enc_lo hn]; exact Nat.le_add_left ..
    · rw [enc_hi (by omega), List.length_cons]
      have := enc_len j (n / 128) (by rw [Nat.div_lt_iff_lt_mul (by omega)]; rw [Nat.pow_succ] at h; exact h)
      omega
theorem enc_len9 {n : Nat} (h : n ≤ 10 ^ 18) : (enc n).length ≤ 9 := enc_len 8 n (by omega)
theorem enc_pos (n : Nat) : 0 < (enc n).length := by
  rw [enc]; split <;> simp
theorem enc_last : ∀ (n : Nat), n ≠ 0 → ∃ A x, enc n = A ++ [x] ∧ 0 < x
  | n, hn => by
    by_cases h : n < 128
    · exact ⟨[], n, by rw [enc_lo h]; rfl, by omega⟩
    · obtain ⟨A, x, e, hx⟩ := enc_last (n / 128) (by omega)
      exact ⟨_ :: A, x, by rw [enc_hi (by omega), e]; rfl, hx⟩
termination_by n => n
decreasing_by omega
theorem enc_byte (n : Nat) : ∀ b ∈ enc n, Byte b := by
  intro b hb
  rw [enc] at hb
  split at hb
  · rename_i h
    have : b = n := by simpa using hb
    subst this
    exact ⟨by omega, by omega⟩
  · rcases List.mem_cons.mp hb with h | h
    · subst h; exact ⟨by omega, by omega⟩
    · exact enc_byte (n / 128) b h
termination_by n
decreasing_by omega
def fix : Nat → Nat → List Int
  | _, 0 => []
  | v, m + 1 => fix (v / 256) m ++ [((v % 256 : Nat) : Int)]
theorem fix_len : ∀ (m v : Nat), (fix v m).length = m
  | 0, _ => rfl
  | m + 1, v => by show (fix (v / 256) m ++ [_]).length = _; rw [List.length_append, fix_len m]; rfl
theorem fix_byte : ∀ (m v : Nat), ∀ b ∈ fix v m, Byte b
  | 0, _, b, h => nomatch h
  | m + 1, v, b, h => by
    rcases List.mem_append.mp (show b ∈ fix (v / 256) m ++ [((v % 256 : Nat) : Int)] from h) with h | h
    · exact fix_byte m _ b h
    · have : b = ((v % 256 : Nat) : Int) := by simpa using h
      subst this; exact ⟨by omega, by omega⟩
def unf : Nat → List Int → Nat
  | a, [] => a
  | a, b :: r => unf (a * 256 + b.toNat) r
theorem unf_app : ∀ (l r : List Int) (a : Nat), unf a (l ++ r) = unf (unf a l) r
  | [], _, _ => rfl
  | b :: l, r, a => by show unf _ (l ++ r) = unf (unf _ l) r; rw [unf_app l r]
theorem unf_fix : ∀ (m v : Nat), v < 256 ^ m → unf 0 (fix v m) = v
  | 0, v, h => by simp at h; subst h; rfl
  | m + 1, v, h => by
    show unf 0 (fix (v / 256) m ++ [((v % 256 : Nat) : Int)]) = v
    rw [unf_app, unf_fix m (v / 256) (by rw [Nat.div_lt_iff_lt_mul (by omega)]; rw [Nat.pow_succ] at h; exact h)]
    show v / 256 * 256 + ((v % 256 : Nat) : Int).toNat = v
    rw [Int.toNat_natCast]; omega
theorem unf_lt : ∀ (l : List Int) (a j : Nat), (∀ b ∈ l, Byte b) → a < 256 ^ j → unf a l < 256 ^ (j + l.length)
  | [], a, j, _, h => h
  | b :: l, a, j, hb, h => by
    have hb1 := hb b (List.mem_cons_self ..)
    have := unf_lt l (a * 256 + b.toNat) (j + 1) (fun c hc => hb c (List.mem_cons_of_mem _ hc)) (by
      rw [Nat.pow_succ]
      have : b.toNat ≤ 255 := by have := hb1.2; have := hb1.1; omega
      omega)
    show unf (a * 256 + b.toNat) l < _
    rw [List.length_cons, show j + (l.length + 1) = j + 1 + l.length by omega]
    exact this
/-! the law's source of numbers -/
abbrev rowL (a b c : Int) : List D := [.ref 0, .int a, .int b, .int c]
def RowOk (a b c : Int) : Prop := 0 ≤ a ∧ 0 ≤ b ∧ b < 2147483647 ∧ 0 ≤ c
theorem ix0 {a b c : Int} : ixAt (rowL a b c) 0 = some (.ref 0) := rfl
theorem ix1 {a b c : Int} : ixAt (rowL a b c) 1 = some (.int a) := rfl
theorem ix2 {a b c : Int} : ixAt (rowL a b c) 2 = some (.int b) := rfl
theorem ix3 {a b c : Int} : ixAt (rowL a b c) 3 = some (.int c) := rfl
theorem log48 {b : Int} (h1 : 0 ≤ b) (h2 : b < 2147483647) : b.natAbs.log2 + (48271 : Int).natAbs.log2 < 1000000 := by
  have h : b.natAbs.log2 < 31 := log2_lt (by omega) (by omega)
  have : (48271 : Int).natAbs.log2 = 15 := by decide +kernel
  omega
theorem taken (hT : T[ft]? = some takenFd) {k r : Nat} {many : Int} {s : List Int} {a b c : Int} {G : Store} {P : D → Store → Prop} (hr : r ≠ 0) (hlim : G.lim ≤ r) (h0 : G.lst? 0 = some (s.map .int)) (hrow : G.lst? r = some (rowL a b c)) (ok : RowOk a b c)
    (hm : 0 < many) (hlog : many.natAbs.log2 < 9000) (hP : ∀ v a' b' c', 0 ≤ v → v < many → RowOk a' b' c' → P (.int v) (G.put r (.lst (rowL a' b' c')))) : wp (run T (k + 1) ft [.ref r, .int many] G) P := by
  obtain ⟨k1, k2, k3, k4⟩ := ok
  have hlen := lt_of_lst hrow
  have fin : ∀ {v a' b' c' : Int}, 0 ≤ v → v < many → RowOk a' b' c' → wp (gc G (.ok (.int v) (G.put r (.lst (rowL a' b' c'))))) P := fun {v a' b' c'} h1 h2 h3 => by
    rw [gc_put (Grown.refl _) ?_ rfl]
    · exact hP v a' b' c' h1 h2 h3
    · show (decide (0 < G.cs.length) && _) = true
      rw [decide_eq_true (Nat.lt_of_le_of_lt (Nat.zero_le r) hlen)]; rfl
  have at_ : ∀ {xs : List D}, (G.put r (.lst xs)).lst? r = some xs := fun {xs} => lst_put hlen
  have at0 : ∀ {c : Cell}, (G.put r c).lst? 0 = some (s.map D.int) := fun {c} => by rw [lst_put_ne hr]; exact h0
  refine run_wp (fd := takenFd) hT rfl ?_
  simp only [s_pass, s_nil, s_cons, s_expr, s_set, s_par, s_setIx, s_setKey, s_augIx, s_aug, s_ifs, s_ret, s_retN, s_brk, s_cnt, s_never, w_k, w_v, w_un, w_bin, w_and, w_or, w_ite, w_chain, w_tup, wp_newL, w_lst, w_dic0, w_callD, w_sl, w_rev, w_call, w_bf, w_mt, w_nil, w_cons, w_no, w_some, Tg.bind, bindN, o_add, o_addT, o_sub, o_mul, o_fdiv, o_mod, o_pow, o_eq, o_ne, o_lt, o_le, o_gt, o_ge, o_isT, o_isI, o_isR, o_isN, o_eqB, o_neB, o_not, o_neg, o_lenT, o_int, o_isinI, o_isinT, o_isinB, o_isinI2, o_isinT2, t_ii, t_ib, t_is, t_it, t_il, t_tt, t_tl, t_ts, t_ti, t_tb, t_bb, t_bi, Cut.truthy, zb_bl, Bool.or_false, Bool.false_or, Bool.not_true, Bool.not_false, Bool.true_or, Bool.or_true, tb_dec, tb_some, tb_not, tb_true, tb_false, Cut.start, List.map, List.length, List.replicate, List.append_eq, List.cons_append, List.nil_append, List.getElem?_cons_zero, List.getElem?_cons_succ, List.set_cons_zero, List.set_cons_succ, Nat.reduceAdd, Nat.reduceSub, tyOf, if_true, if_false, Bool.false_eq_true, decide_true, decide_false, wp_ok, takenFd, o_ixL hrow ix3]
  by_cases hc : 0 < c
  · simp only [s_pass, s_nil, s_cons, s_expr, s_set, s_par, s_setIx, s_setKey, s_augIx, s_aug, s_ifs, s_ret, s_retN, s_brk, s_cnt, s_never, w_k, w_v, w_un, w_bin, w_and, w_or, w_ite, w_chain, w_tup, wp_newL, w_lst, w_dic0, w_callD, w_sl, w_rev, w_call, w_bf, w_mt, w_nil, w_cons, w_no, w_some, Tg.bind, bindN, o_add, o_addT, o_sub, o_mul, o_fdiv, o_mod, o_pow, o_eq, o_ne, o_lt, o_le, o_gt, o_ge, o_isT, o_isI, o_isR, o_isN, o_eqB, o_neB, o_not, o_neg, o_lenT, o_int, o_isinI, o_isinT, o_isinB, o_isinI2, o_isinT2, t_ii, t_ib, t_is, t_it, t_il, t_tt, t_tl, t_ts, t_ti, t_tb, t_bb, t_bi, Cut.truthy, zb_bl, Bool.or_false, Bool.false_or, Bool.not_true, Bool.not_false, Bool.true_or, Bool.or_true, tb_dec, tb_some, tb_not, tb_true, tb_false, Cut.start, List.map, List.length, List.replicate, List.append_eq, List.cons_append, List.nil_append, List.getElem?_cons_zero, List.getElem?_cons_succ, List.set_cons_zero, List.set_cons_succ, Nat.reduceAdd, Nat.reduceSub, tyOf, if_true, if_false, Bool.false_eq_true, decide_true, decide_false, wp_ok, hc, o_ixL hrow ix3]
    refine ⟨hm, ⟨hm, hlog⟩, ?_⟩
    rw [setAt_L (i := 3) (k := 3) rfl hrow hlim (by simp)]
    simp only [s_pass, s_nil, s_cons, s_expr, s_set, s_par, s_setIx, s_setKey, s_augIx, s_aug, s_ifs, s_ret, s_retN, s_brk, s_cnt, s_never, w_k, w_v, w_un, w_bin, w_and, w_or, w_ite, w_chain, w_tup, wp_newL, w_lst, w_dic0, w_callD, w_sl, w_rev, w_call, w_bf, w_mt, w_nil, w_cons, w_no, w_some, Tg.bind, bindN, o_add, o_addT, o_sub, o_mul, o_fdiv, o_mod, o_pow, o_eq, o_ne, o_lt, o_le, o_gt, o_ge, o_isT, o_isI, o_isR, o_isN, o_eqB, o_neB, o_not, o_neg, o_lenT, o_int, o_isinI, o_isinT, o_isinB, o_isinI2, o_isinT2, t_ii, t_ib, t_is, t_it, t_il, t_tt, t_tl, t_ts, t_ti, t_tb, t_bb, t_bi, Cut.truthy, zb_bl, Bool.or_false, Bool.false_or, Bool.not_true, Bool.not_false, Bool.true_or, Bool.or_true, tb_dec, tb_some, tb_not, tb_true, tb_false, Cut.start, List.map, List.length, List.replicate, List.append_eq, List.cons_append, List.nil_append, List.getElem?_cons_zero, List.getElem?_cons_succ, List.set_cons_zero, List.set_cons_succ, Nat.reduceAdd, Nat.reduceSub, tyOf, if_true, if_false, Bool.false_eq_true, decide_true, decide_false, wp_ok]
    exact fin (Int.emod_nonneg _ (by omega)) (Int.emod_lt_of_pos _ hm) ⟨k1, k2, k3, Int.ediv_nonneg (by omega) (by omega)⟩
  · simp only [s_pass, s_nil, s_cons, s_expr, s_set, s_par, s_setIx, s_setKey, s_augIx, s_aug, s_ifs, s_ret, s_retN, s_brk, s_cnt, s_never, w_k, w_v, w_un, w_bin, w_and, w_or, w_ite, w_chain, w_tup, wp_newL, w_lst, w_dic0, w_callD, w_sl, w_rev, w_call, w_bf, w_mt, w_nil, w_cons, w_no, w_some, Tg.bind, bindN, o_add, o_addT, o_sub, o_mul, o_fdiv, o_mod, o_pow, o_eq, o_ne, o_lt, o_le, o_gt, o_ge, o_isT, o_isI, o_isR, o_isN, o_eqB, o_neB, o_not, o_neg, o_lenT, o_int, o_isinI, o_isinT, o_isinB, o_isinI2, o_isinT2, t_ii, t_ib, t_is, t_it, t_il, t_tt, t_tl, t_ts, t_ti, t_tb, t_bb, t_bi, Cut.truthy, zb_bl, Bool.or_false, Bool.false_or, Bool.not_true, Bool.not_false, Bool.true_or, Bool.or_true, tb_dec, tb_some, tb_not, tb_true, tb_false, Cut.start, List.map, List.length, List.replicate, List.append_eq, List.cons_append, List.nil_append, List.getElem?_cons_zero, List.getElem?_cons_succ, List.set_cons_zero, List.set_cons_succ, Nat.reduceAdd, Nat.reduceSub, tyOf, if_true, if_false, Bool.false_eq_true, decide_true, decide_false, wp_ok, hc, o_ixL hrow ix1]
    rw [setAt_L (i := 1) (k := 1) rfl hrow hlim (by simp)]
    simp only [s_pass, s_nil, s_cons, s_expr, s_set, s_par, s_setIx, s_setKey, s_augIx, s_aug, s_ifs, s_ret, s_retN, s_brk, s_cnt, s_never, w_k, w_v, w_un, w_bin, w_and, w_or, w_ite, w_chain, w_tup, wp_newL, w_lst, w_dic0, w_callD, w_sl, w_rev, w_call, w_bf, w_mt, w_nil, w_cons, w_no, w_some, Tg.bind, bindN, o_add, o_addT, o_sub, o_mul, o_fdiv, o_mod, o_pow, o_eq, o_ne, o_lt, o_le, o_gt, o_ge, o_isT, o_isI, o_isR, o_isN, o_eqB, o_neB, o_not, o_neg, o_lenT, o_int, o_isinI, o_isinT, o_isinB, o_isinI2, o_isinT2, t_ii, t_ib, t_is, t_it, t_il, t_tt, t_tl, t_ts, t_ti, t_tb, t_bb, t_bi, Cut.truthy, zb_bl, Bool.or_false, Bool.false_or, Bool.not_true, Bool.not_false, Bool.true_or, Bool.or_true, tb_dec, tb_some, tb_not, tb_true, tb_false, Cut.start, List.map, List.length, List.replicate, List.append_eq, List.cons_append, List.nil_append, List.getElem?_cons_zero, List.getElem?_cons_succ, List.set_cons_zero, List.set_cons_succ, Nat.reduceAdd, Nat.reduceSub, tyOf, if_true, if_false, Bool.false_eq_true, decide_true, decide_false, wp_ok, o_ixL at_ (ix1 (a := a + 1) (b := b) (c := c)), o_ixL at_ (ix0 (a := a + 1) (b := b) (c := c)), o_lenL at0]
    have at1 : (G.put r (.lst (rowL (a + 1) b c))).lst? r = some (rowL (a + 1) b c) := at_
    by_cases hs : ((s.map D.int).length : Int) < a + 1
    · simp only [s_pass, s_nil, s_cons, s_expr, s_set, s_par, s_setIx, s_setKey, s_augIx, s_aug, s_ifs, s_ret, s_retN, s_brk, s_cnt, s_never, w_k, w_v, w_un, w_bin, w_and, w_or, w_ite, w_chain, w_tup, wp_newL, w_lst, w_dic0, w_callD, w_sl, w_rev, w_call, w_bf, w_mt, w_nil, w_cons, w_no, w_some, Tg.bind, bindN, o_add, o_addT, o_sub, o_mul, o_fdiv, o_mod, o_pow, o_eq, o_ne, o_lt, o_le, o_gt, o_ge, o_isT, o_isI, o_isR, o_isN, o_eqB, o_neB, o_not, o_neg, o_lenT, o_int, o_isinI, o_isinT, o_isinB, o_isinI2, o_isinT2, t_ii, t_ib, t_is, t_it, t_il, t_tt, t_tl, t_ts, t_ti, t_tb, t_bb, t_bi, Cut.truthy, zb_bl, Bool.or_false, Bool.false_or, Bool.not_true, Bool.not_false, Bool.true_or, Bool.or_true, tb_dec, tb_some, tb_not, tb_true, tb_false, Cut.start, List.map, List.length, List.replicate, List.append_eq, List.cons_append, List.nil_append, List.getElem?_cons_zero, List.getElem?_cons_succ, List.set_cons_zero, List.set_cons_succ, Nat.reduceAdd, Nat.reduceSub, tyOf, if_true, if_false, Bool.false_eq_true, decide_true, decide_false, wp_ok, hs, o_ixL at_ (ix2 (a := a + 1) (b := b) (c := c))]
      refine ⟨log48 k2 k3, by decide, ?_⟩
      rw [setAt_L (i := 2) (k := 2) rfl at_ hlim (by simp)]
      have hb' : 0 ≤ (b * 48271 + 11) % 2147483647 ∧ (b * 48271 + 11) % 2147483647 < 2147483647 := ⟨Int.emod_nonneg _ (by omega), Int.emod_lt_of_pos _ (by omega)⟩
      simp only [s_pass, s_nil, s_cons, s_expr, s_set, s_par, s_setIx, s_setKey, s_augIx, s_aug, s_ifs, s_ret, s_retN, s_brk, s_cnt, s_never, w_k, w_v, w_un, w_bin, w_and, w_or, w_ite, w_chain, w_tup, wp_newL, w_lst, w_dic0, w_callD, w_sl, w_rev, w_call, w_bf, w_mt, w_nil, w_cons, w_no, w_some, Tg.bind, bindN, o_add, o_addT, o_sub, o_mul, o_fdiv, o_mod, o_pow, o_eq, o_ne, o_lt, o_le, o_gt, o_ge, o_isT, o_isI, o_isR, o_isN, o_eqB, o_neB, o_not, o_neg, o_lenT, o_int, o_isinI, o_isinT, o_isinB, o_isinI2, o_isinT2, t_ii, t_ib, t_is, t_it, t_il, t_tt, t_tl, t_ts, t_ti, t_tb, t_bb, t_bi, Cut.truthy, zb_bl, Bool.or_false, Bool.false_or, Bool.not_true, Bool.not_false, Bool.true_or, Bool.or_true, tb_dec, tb_some, tb_not, tb_true, tb_false, Cut.start, List.map, List.length, List.replicate, List.append_eq, List.cons_append, List.nil_append, List.getElem?_cons_zero, List.getElem?_cons_succ, List.set_cons_zero, List.set_cons_succ, Nat.reduceAdd, Nat.reduceSub, tyOf, if_true, if_false, Bool.false_eq_true, decide_true, decide_false, wp_ok, put_put, o_ixL at_ (ix2 (a := a + 1) (b := (b * 48271 + 11) % 2147483647) (c := c))]
      refine ⟨⟨by decide, by decide +kernel⟩, hm, ?_⟩
      exact fin (Int.emod_nonneg _ (by omega)) (Int.emod_lt_of_pos _ hm) ⟨by omega, hb'.1, hb'.2, k4⟩
    · simp only [s_pass, s_nil, s_cons, s_expr, s_set, s_par, s_setIx, s_setKey, s_augIx, s_aug, s_ifs, s_ret, s_retN, s_brk, s_cnt, s_never, w_k, w_v, w_un, w_bin, w_and, w_or, w_ite, w_chain, w_tup, wp_newL, w_lst, w_dic0, w_callD, w_sl, w_rev, w_call, w_bf, w_mt, w_nil, w_cons, w_no, w_some, Tg.bind, bindN, o_add, o_addT, o_sub, o_mul, o_fdiv, o_mod, o_pow, o_eq, o_ne, o_lt, o_le, o_gt, o_ge, o_isT, o_isI, o_isR, o_isN, o_eqB, o_neB, o_not, o_neg, o_lenT, o_int, o_isinI, o_isinT, o_isinB, o_isinI2, o_isinT2, t_ii, t_ib, t_is, t_it, t_il, t_tt, t_tl, t_ts, t_ti, t_tb, t_bb, t_bi, Cut.truthy, zb_bl, Bool.or_false, Bool.false_or, Bool.not_true, Bool.not_false, Bool.true_or, Bool.or_true, tb_dec, tb_some, tb_not, tb_true, tb_false, Cut.start, List.map, List.length, List.replicate, List.append_eq, List.cons_append, List.nil_append, List.getElem?_cons_zero, List.getElem?_cons_succ, List.set_cons_zero, List.set_cons_succ, Nat.reduceAdd, Nat.reduceSub, tyOf, if_true, if_false, Bool.false_eq_true, decide_true, decide_false, wp_ok, hs]
      obtain ⟨x, hx⟩ : ∃ x, ixAt (s.map D.int) (a + 1 - 1) = some (.int x) := by
        obtain ⟨n, hn⟩ := Int.eq_ofNat_of_zero_le k1
        rw [List.length_map] at hs
        have hlt : n < s.length := by omega
        refine ⟨s[n], ?_⟩
        rw [show a + 1 - 1 = (n : Int) by omega]
        refine ixAt_nat ?_
        rw [List.getElem?_map, List.getElem?_eq_getElem hlt]; rfl
      simp only [s_pass, s_nil, s_cons, s_expr, s_set, s_par, s_setIx, s_setKey, s_augIx, s_aug, s_ifs, s_ret, s_retN, s_brk, s_cnt, s_never, w_k, w_v, w_un, w_bin, w_and, w_or, w_ite, w_chain, w_tup, wp_newL, w_lst, w_dic0, w_callD, w_sl, w_rev, w_call, w_bf, w_mt, w_nil, w_cons, w_no, w_some, Tg.bind, bindN, o_add, o_addT, o_sub, o_mul, o_fdiv, o_mod, o_pow, o_eq, o_ne, o_lt, o_le, o_gt, o_ge, o_isT, o_isI, o_isR, o_isN, o_eqB, o_neB, o_not, o_neg, o_lenT, o_int, o_isinI, o_isinT, o_isinB, o_isinI2, o_isinT2, t_ii, t_ib, t_is, t_it, t_il, t_tt, t_tl, t_ts, t_ti, t_tb, t_bb, t_bi, Cut.truthy, zb_bl, Bool.or_false, Bool.false_or, Bool.not_true, Bool.not_false, Bool.true_or, Bool.or_true, tb_dec, tb_some, tb_not, tb_true, tb_false, Cut.start, List.map, List.length, List.replicate, List.append_eq, List.cons_append, List.nil_append, List.getElem?_cons_zero, List.getElem?_cons_succ, List.set_cons_zero, List.set_cons_succ, Nat.reduceAdd, Nat.reduceSub, tyOf, if_true, if_false, Bool.false_eq_true, decide_true, decide_false, wp_ok, o_ixL at_ (ix0 (a := a + 1) (b := b) (c := c)), o_ixL at_ (ix1 (a := a + 1) (b := b) (c := c)), o_ixL at0 hx, o_ixL at_ (ix2 (a := a + 1) (b := b) (c := c))]
      refine ⟨log48 k2 k3, by decide, ?_⟩
      rw [setAt_L (i := 2) (k := 2) rfl at_ hlim (by simp)]
      have hb' : 0 ≤ (b * 48271 + x + 11) % 2147483647 ∧ (b * 48271 + x + 11) % 2147483647 < 2147483647 := ⟨Int.emod_nonneg _ (by omega), Int.emod_lt_of_pos _ (by omega)⟩
      simp only [s_pass, s_nil, s_cons, s_expr, s_set, s_par, s_setIx, s_setKey, s_augIx, s_aug, s_ifs, s_ret, s_retN, s_brk, s_cnt, s_never, w_k, w_v, w_un, w_bin, w_and, w_or, w_ite, w_chain, w_tup, wp_newL, w_lst, w_dic0, w_callD, w_sl, w_rev, w_call, w_bf, w_mt, w_nil, w_cons, w_no, w_some, Tg.bind, bindN, o_add, o_addT, o_sub, o_mul, o_fdiv, o_mod, o_pow, o_eq, o_ne, o_lt, o_le, o_gt, o_ge, o_isT, o_isI, o_isR, o_isN, o_eqB, o_neB, o_not, o_neg, o_lenT, o_int, o_isinI, o_isinT, o_isinB, o_isinI2, o_isinT2, t_ii, t_ib, t_is, t_it, t_il, t_tt, t_tl, t_ts, t_ti, t_tb, t_bb, t_bi, Cut.truthy, zb_bl, Bool.or_false, Bool.false_or, Bool.not_true, Bool.not_false, Bool.true_or, Bool.or_true, tb_dec, tb_some, tb_not, tb_true, tb_false, Cut.start, List.map, List.length, List.replicate, List.append_eq, List.cons_append, List.nil_append, List.getElem?_cons_zero, List.getElem?_cons_succ, List.set_cons_zero, List.set_cons_succ, Nat.reduceAdd, Nat.reduceSub, tyOf, if_true, if_false, Bool.false_eq_true, decide_true, decide_false, wp_ok, put_put]
      refine ⟨by decide, ?_⟩
      by_cases hx18 : (10 : Int) ^ Int.toNat 18 ≤ x
      · simp only [s_pass, s_nil, s_cons, s_expr, s_set, s_par, s_setIx, s_setKey, s_augIx, s_aug, s_ifs, s_ret, s_retN, s_brk, s_cnt, s_never, w_k, w_v, w_un, w_bin, w_and, w_or, w_ite, w_chain, w_tup, wp_newL, w_lst, w_dic0, w_callD, w_sl, w_rev, w_call, w_bf, w_mt, w_nil, w_cons, w_no, w_some, Tg.bind, bindN, o_add, o_addT, o_sub, o_mul, o_fdiv, o_mod, o_pow, o_eq, o_ne, o_lt, o_le, o_gt, o_ge, o_isT, o_isI, o_isR, o_isN, o_eqB, o_neB, o_not, o_neg, o_lenT, o_int, o_isinI, o_isinT, o_isinB, o_isinI2, o_isinT2, t_ii, t_ib, t_is, t_it, t_il, t_tt, t_tl, t_ts, t_ti, t_tb, t_bb, t_bi, Cut.truthy, zb_bl, Bool.or_false, Bool.false_or, Bool.not_true, Bool.not_false, Bool.true_or, Bool.or_true, tb_dec, tb_some, tb_not, tb_true, tb_false, Cut.start, List.map, List.length, List.replicate, List.append_eq, List.cons_append, List.nil_append, List.getElem?_cons_zero, List.getElem?_cons_succ, List.set_cons_zero, List.set_cons_succ, Nat.reduceAdd, Nat.reduceSub, tyOf, if_true, if_false, Bool.false_eq_true, decide_true, decide_false, wp_ok, hx18]
        refine ⟨⟨hm, hlog⟩, ?_⟩
        rw [setAt_L (i := 3) (k := 3) rfl at_ hlim (by simp)]
        simp only [s_pass, s_nil, s_cons, s_expr, s_set, s_par, s_setIx, s_setKey, s_augIx, s_aug, s_ifs, s_ret, s_retN, s_brk, s_cnt, s_never, w_k, w_v, w_un, w_bin, w_and, w_or, w_ite, w_chain, w_tup, wp_newL, w_lst, w_dic0, w_callD, w_sl, w_rev, w_call, w_bf, w_mt, w_nil, w_cons, w_no, w_some, Tg.bind, bindN, o_add, o_addT, o_sub, o_mul, o_fdiv, o_mod, o_pow, o_eq, o_ne, o_lt, o_le, o_gt, o_ge, o_isT, o_isI, o_isR, o_isN, o_eqB, o_neB, o_not, o_neg, o_lenT, o_int, o_isinI, o_isinT, o_isinB, o_isinI2, o_isinT2, t_ii, t_ib, t_is, t_it, t_il, t_tt, t_tl, t_ts, t_ti, t_tb, t_bb, t_bi, Cut.truthy, zb_bl, Bool.or_false, Bool.false_or, Bool.not_true, Bool.not_false, Bool.true_or, Bool.or_true, tb_dec, tb_some, tb_not, tb_true, tb_false, Cut.start, List.map, List.length, List.replicate, List.append_eq, List.cons_append, List.nil_append, List.getElem?_cons_zero, List.getElem?_cons_succ, List.set_cons_zero, List.set_cons_succ, Nat.reduceAdd, Nat.reduceSub, tyOf, if_true, if_false, Bool.false_eq_true, decide_true, decide_false, wp_ok, put_put]
        refine ⟨hm, ?_⟩
        exact fin (Int.emod_nonneg _ (by omega)) (Int.emod_lt_of_pos _ hm) ⟨by omega, hb'.1, hb'.2, Int.ediv_nonneg (Int.le_trans (by decide) hx18) (by omega)⟩
      · simp only [s_pass, s_nil, s_cons, s_expr, s_set, s_par, s_setIx, s_setKey, s_augIx, s_aug, s_ifs, s_ret, s_retN, s_brk, s_cnt, s_never, w_k, w_v, w_un, w_bin, w_and, w_or, w_ite, w_chain, w_tup, wp_newL, w_lst, w_dic0, w_callD, w_sl, w_rev, w_call, w_bf, w_mt, w_nil, w_cons, w_no, w_some, Tg.bind, bindN, o_add, o_addT, o_sub, o_mul, o_fdiv, o_mod, o_pow, o_eq, o_ne, o_lt, o_le, o_gt, o_ge, o_isT, o_isI, o_isR, o_isN, o_eqB, o_neB, o_not, o_neg, o_lenT, o_int, o_isinI, o_isinT, o_isinB, o_isinI2, o_isinT2, t_ii, t_ib, t_is, t_it, t_il, t_tt, t_tl, t_ts, t_ti, t_tb, t_bb, t_bi, Cut.truthy, zb_bl, Bool.or_false, Bool.false_or, Bool.not_true, Bool.not_false, Bool.true_or, Bool.or_true, tb_dec, tb_some, tb_not, tb_true, tb_false, Cut.start, List.map, List.length, List.replicate, List.append_eq, List.cons_append, List.nil_append, List.getElem?_cons_zero, List.getElem?_cons_succ, List.set_cons_zero, List.set_cons_succ, Nat.reduceAdd, Nat.reduceSub, tyOf, if_true, if_false, Bool.false_eq_true, decide_true, decide_false, wp_ok, hx18]
        refine ⟨hm, ?_⟩
        exact fin (Int.emod_nonneg _ (by omega)) (Int.emod_lt_of_pos _ hm) ⟨by omega, hb'.1, hb'.2, k4⟩
theorem pick (hT : T[ft]? = some takenFd) (hP14 : T[fp]? = some (pickFd ft)) {k r e : Nat} {xs : List D} {s : List Int} {a b c : Int} {G : Store} {P : D → Store → Prop} (hr : r ≠ 0) (hlim : G.lim ≤ r) (h0 : G.lst? 0 = some (s.map .int)) (hrow : G.lst? r = some (rowL a b c)) (ok : RowOk a b c)
    (he : G.lst? e = some xs) (hne : r ≠ e) (hpos : 0 < xs.length) (hsm : xs.length < 2 ^ 20) (hb : belows G.cs.length xs = true) (hP : ∀ x ∈ xs, ∀ a' b' c', RowOk a' b' c' → P x (G.put r (.lst (rowL a' b' c')))) : wp (run T (k + 2) fp [.ref r, .ref e] G) P := by
  have hlen := lt_of_lst hrow
  refine run_wp (fd := pickFd ft) hP14 rfl ?_
  simp only [s_pass, s_nil, s_cons, s_expr, s_set, s_par, s_setIx, s_setKey, s_augIx, s_aug, s_ifs, s_ret, s_retN, s_brk, s_cnt, s_never, w_k, w_v, w_un, w_bin, w_and, w_or, w_ite, w_chain, w_tup, wp_newL, w_lst, w_dic0, w_callD, w_sl, w_rev, w_call, w_bf, w_mt, w_nil, w_cons, w_no, w_some, Tg.bind, bindN, o_add, o_addT, o_sub, o_mul, o_fdiv, o_mod, o_pow, o_eq, o_ne, o_lt, o_le, o_gt, o_ge, o_isT, o_isI, o_isR, o_isN, o_eqB, o_neB, o_not, o_neg, o_lenT, o_int, o_isinI, o_isinT, o_isinB, o_isinI2, o_isinT2, t_ii, t_ib, t_is, t_it, t_il, t_tt, t_tl, t_ts, t_ti, t_tb, t_bb, t_bi, Cut.truthy, zb_bl, Bool.or_false, Bool.false_or, Bool.not_true, Bool.not_false, Bool.true_or, Bool.or_true, tb_dec, tb_some, tb_not, tb_true, tb_false, Cut.start, List.map, List.length, List.replicate, List.append_eq, List.cons_append, List.nil_append, List.getElem?_cons_zero, List.getElem?_cons_succ, List.set_cons_zero, List.set_cons_succ, Nat.reduceAdd, Nat.reduceSub, tyOf, if_true, if_false, Bool.false_eq_true, decide_true, decide_false, wp_ok, pickFd, o_lenL he]
  refine taken hT hr hlim h0 hrow ok (by omega) (Nat.lt_trans (log2_lt (k := 20) (by omega) (by omega)) (by omega)) fun v a' b' c' h1 h2 ok' => ?_
  obtain ⟨n, hn⟩ := Int.eq_ofNat_of_zero_le h1
  have hlt : n < xs.length := by omega
  have hix : ixAt xs v = some xs[n] := by rw [hn]; exact ixAt_nat (List.getElem?_eq_getElem hlt)
  rw [o_ixL (by rw [lst_put_ne hne]; exact he) hix]
  have hbel : ∀ {xs : List D}, belows G.cs.length xs = true → ∀ x ∈ xs, below G.cs.length x = true := by
    intro xs
    induction xs with
    | nil => intro _ x hx; cases hx
    | cons y ys ih =>
      intro h x hx
      unfold belows at h
      rw [Bool.and_eq_true] at h
      rcases List.mem_cons.mp hx with e | e
      · rw [e]; exact h.1
      · exact ih h.2 x e
  rw [gc_put (Grown.refl _) ?_ (hbel hb _ (List.getElem_mem hlt))]
  · exact hP _ (List.getElem_mem hlt) a' b' c' ok'
  · show (decide (0 < G.cs.length) && _) = true
    rw [decide_eq_true (Nat.lt_of_le_of_lt (Nat.zero_le r) hlen)]; rfl
/-- amid a def that was called at B: the row at r stands, things have been made -/
structure Rw (B : Store) (r : Nat) (s : List Int) (G : Store) : Prop where
  r0 : r ≠ 0
  lim : B.lim ≤ r
  lt : r < B.cs.length
  scr : B.lst? 0 = some (s.map .int)
  row : ∃ a b c, RowOk a b c ∧ Grown (B.put r (.lst (rowL a b c))) G
/-- ahead of a call: the row stands -/
structure Rb (r : Nat) (s : List Int) (G : Store) : Prop where
  r0 : r ≠ 0
  lim : G.lim ≤ r
  scr : G.lst? 0 = some (s.map .int)
  row : ∃ a b c, RowOk a b c ∧ G.lst? r = some (rowL a b c)
theorem put_self {G : Store} {r : Nat} {xs : List D} (h : G.lst? r = some xs) : G.put r (.lst xs) = G := by
  unfold Store.lst? at h
  split at h
  · rename_i e
    cases h
    obtain ⟨hl, e⟩ := List.getElem?_eq_some_iff.mp e
    unfold Store.put
    rw [← e, List.set_getElem_self]
  · cases h
section
variable {B G : Store} {r : Nat} {s : List Int} {P : D → Store → Prop}
theorem Rb.start (h : Rb r s G) : Rw G r s G := by
  obtain ⟨h1, h2, h3, a, b, c, ok, h4⟩ := h
  exact ⟨h1, h2, lt_of_lst h4, h3, a, b, c, ok, by rw [put_self h4]; exact .refl _⟩
theorem Rw.rb (h : Rw B r s G) : Rb r s G := by
  obtain ⟨h1, h2, h3, h4, a, b, c, ok, g⟩ := h
  exact ⟨h1, by rw [g.lim]; exact h2, g.lst (by rw [lst_put_ne h1]; exact h4), a, b, c, ok, g.lst (lst_put h3)⟩
theorem Rw.new (h : Rw B r s G) (c : Cell) : Rw B r s (G.new c) := by
  obtain ⟨h1, h2, h3, h4, a, b, c', ok, g⟩ := h
  exact ⟨h1, h2, h3, h4, a, b, c', ok, g.new c⟩
theorem Rw.put (h : Rw B r s G) {a b c : Int} (ok : RowOk a b c) : Rw B r s (G.put r (.lst (rowL a b c))) := by
  obtain ⟨h1, h2, h3, h4, a', b', c', _, g⟩ := h
  refine ⟨h1, h2, h3, h4, a, b, c, ok, ?_⟩
  have := g.put (n := r) (by rw [len_put]; exact h3) (.lst (rowL a b c))
  rw [put_put] at this
  exact this
/-- a cell of its own is written -/
theorem Rw.own (h : Rw B r s G) {n : Nat} (hn : B.cs.length ≤ n) (c : Cell) : Rw B r s (G.put n c) := by
  obtain ⟨h1, h2, h3, h4, a, b, c', ok, g⟩ := h
  exact ⟨h1, h2, h3, h4, a, b, c', ok, g.putNew (by rw [len_put]; exact hn) c⟩
theorem Rw.len (h : Rw B r s G) : B.cs.length ≤ G.cs.length := by
  obtain ⟨_, _, _, _, a, b, c', ok, g⟩ := h
  have := g.len
  rw [len_put] at this; exact this
theorem Rw.glim (h : Rw B r s G) : G.lim = B.lim := by
  obtain ⟨_, _, _, _, a, b, c', ok, g⟩ := h
  exact g.lim
/-- .. and the def's end -/
theorem Rw.fin {d : D} (h : Rw B r s G) (hb : below B.cs.length d = true) (hq : ∀ a b c, RowOk a b c → P d (B.put r (.lst (rowL a b c)))) : wp (gc B (.ok d G)) P := by
  obtain ⟨h1, h2, h3, h4, a, b, c, ok, g⟩ := h
  rw [gc_put g ?_ hb]
  · exact hq a b c ok
  · show (decide (0 < B.cs.length) && _) = true
    rw [decide_eq_true (Nat.lt_of_le_of_lt (Nat.zero_le r) h3)]; rfl
theorem Rb.put (h : Rb r s G) {a b c : Int} (ok : RowOk a b c) : Rb r s (G.put r (.lst (rowL a b c))) := by
  obtain ⟨h1, h2, h3, a', b', c', _, h4⟩ := h
  exact ⟨h1, h2, by rw [lst_put_ne h1]; exact h3, a, b, c, ok, lst_put (lt_of_lst h4)⟩
/-- the state behind a call that moves the row alone -/
structure Mv (r : Nat) (s : List Int) (G G' : Store) : Prop where
  rb : Rb r s G'
  eq : ∃ a b c, RowOk a b c ∧ G' = G.put r (.lst (rowL a b c))
theorem Mv.lst {G' : Store} (m : Mv r s G G') {n : Nat} {xs : List D} (hn : r ≠ n) (h : G.lst? n = some xs) : G'.lst? n = some xs := by
  obtain ⟨_, a, b, c, _, rfl⟩ := m
  rw [lst_put_ne hn]; exact h
theorem Mv.rw {G' : Store} (m : Mv r s G G') (h : Rw B r s G) : Rw B r s G' := by
  obtain ⟨_, a, b, c, ok, rfl⟩ := m
  exact h.put ok
theorem Mv.len {G' : Store} (m : Mv r s G G') : G'.cs.length = G.cs.length := by
  obtain ⟨_, a, b, c, ok, rfl⟩ := m
  exact len_put
theorem taken' (hT : T[ft]? = some takenFd) {k : Nat} {many : Int} (h : Rb r s G) (hm : 0 < many) (hz : many < 2 ^ 70) (hP : ∀ v G', 0 ≤ v → v < many → Mv r s G G' → P (.int v) G') : wp (run T (k + 1) ft [.ref r, .int many] G) P := by
  have h' := h
  obtain ⟨h1, h2, h3, a, b, c, ok, h4⟩ := h
  exact taken hT h1 h2 h3 h4 ok hm (Nat.lt_trans (log2_lt (k := 70) (by omega) (by omega)) (by omega)) fun v a' b' c' q1 q2 ok' => hP v _ q1 q2 ⟨h'.put ok', a', b', c', ok', rfl⟩
theorem pick' (hT : T[ft]? = some takenFd) (hP14 : T[fp]? = some (pickFd ft)) {k e : Nat} {xs : List D} (h : Rb r s G) (he : G.lst? e = some xs) (hne : r ≠ e) (hpos : 0 < xs.length) (hsm : xs.length < 2 ^ 20) (hb : belows G.cs.length xs = true) (hP : ∀ x ∈ xs, ∀ G', Mv r s G G' → P x G') : wp (run T (k + 2) fp [.ref r, .ref e] G) P := by
  have h' := h
  obtain ⟨h1, h2, h3, a, b, c, ok, h4⟩ := h
  exact pick hT hP14 h1 h2 h3 h4 ok he hne hpos hsm hb fun x hx a' b' c' ok' => hP x hx _ ⟨h'.put ok', a', b', c', ok', rfl⟩
/-- a def's end, as its caller sees it -/
theorem Rw.out {d : D} (h : Rw B r s G) (hrb : Rb r s B) (hb : below B.cs.length d = true) (hP : ∀ G', Mv r s B G' → P d G') : wp (gc B (.ok d G)) P := by
  exact h.fin hb fun a b c ok => hP _ ⟨hrb.put ok, a, b, c, ok, rfl⟩
theorem in_ints {xs : List Int} {d : D} (h : d ∈ xs.map D.int) : ∃ x ∈ xs, d = .int x := by
  obtain ⟨x, hx, e⟩ := List.mem_map.mp h
  exact ⟨x, hx, e.symm⟩
theorem number (hT : T[ft]? = some takenFd) (hP14 : T[fp]? = some (pickFd ft)) (hN : T[fn]? = some (numberFd ft fp)) {k : Nat} (h : Rb r s B) (hP : ∀ (n : Nat) G', n ≤ 10 ^ 18 → Mv r s B G' → P (.int n) G') : wp (run T (k + 3) fn [.ref r] B) P := by
  refine run_wp (fd := numberFd ft fp) hN rfl ?_
  simp only [s_pass, s_nil, s_cons, s_expr, s_set, s_par, s_setIx, s_setKey, s_augIx, s_aug, s_ifs, s_ret, s_retN, s_brk, s_cnt, s_never, w_k, w_v, w_un, w_bin, w_and, w_or, w_ite, w_chain, w_tup, wp_newL, w_lst, w_dic0, w_callD, w_sl, w_rev, w_call, w_bf, w_mt, w_nil, w_cons, w_no, w_some, Tg.bind, bindN, o_add, o_addT, o_sub, o_mul, o_fdiv, o_mod, o_pow, o_eq, o_ne, o_lt, o_le, o_gt, o_ge, o_isT, o_isI, o_isR, o_isN, o_eqB, o_neB, o_not, o_neg, o_lenT, o_int, o_isinI, o_isinT, o_isinB, o_isinI2, o_isinT2, t_ii, t_ib, t_is, t_it, t_il, t_tt, t_tl, t_ts, t_ti, t_tb, t_bb, t_bi, Cut.truthy, zb_bl, Bool.or_false, Bool.false_or, Bool.not_true, Bool.not_false, Bool.true_or, Bool.or_true, tb_dec, tb_some, tb_not, tb_true, tb_false, Cut.start, List.map, List.length, List.replicate, List.append_eq, List.cons_append, List.nil_append, List.getElem?_cons_zero, List.getElem?_cons_succ, List.set_cons_zero, List.set_cons_succ, Nat.reduceAdd, Nat.reduceSub, tyOf, if_true, if_false, Bool.false_eq_true, decide_true, decide_false, wp_ok, numberFd]
  refine ⟨by decide, by decide, by decide, ?_⟩
  have w0 := h.start.new (.lst [D.int 0, D.int 127, D.int 128, D.int 16383, D.int 16384, D.int 255, D.int 256, D.int (10 ^ Int.toNat 18), D.int (10 ^ Int.toNat 18 - 1), D.int 2097152])
  have e0 := lst_new (G := B) (xs := [D.int 0, D.int 127, D.int 128, D.int 16383, D.int 16384, D.int 255, D.int 256, D.int (10 ^ Int.toNat 18), D.int (10 ^ Int.toNat 18 - 1), D.int 2097152])
  have hrl := h.start.lt
  have hne : r ≠ B.cs.length := by omega
  refine taken' hT w0.rb (by omega) (by omega) fun v1 G1 a1 a2 m1 => ?_
  have e1 := m1.lst hne e0
  refine pick' hT hP14 m1.rb e1 hne (by decide) (by decide) (by rfl) fun x hx G2 m2 => ?_
  obtain ⟨x, hx0, hx1, rfl⟩ : ∃ x' : Int, 0 ≤ x' ∧ x' ≤ 10 ^ 18 ∧ x = .int x' := by
    simp only [List.mem_cons, List.not_mem_nil, or_false] at hx
    rcases hx with rfl | rfl | rfl | rfl | rfl | rfl | rfl | rfl | rfl | rfl <;> exact ⟨_, by decide, by decide, rfl⟩
  refine ⟨by decide, ?_⟩
  refine taken' hT m2.rb (by decide) (by decide) fun v3 G3 c1 c2 m3 => ?_
  refine ⟨by decide, ?_⟩
  refine taken' hT m3.rb (by decide) (by decide) fun v4 G4 f1 f2 m4 => ?_
  refine ⟨by decide, ?_⟩
  have w4 := m4.rw (m3.rw (m2.rw (m1.rw w0)))
  have hl4 := w4.len
  have w5 := w4.new (.lst [D.int v1, D.int x, D.int v3, D.int v4, D.int 5])
  refine taken' hT w5.rb (by decide) (by decide) fun v6 G6 g1 g2 m6 => ?_
  have e6 := m6.lst (n := G4.cs.length) (by omega) lst_new
  have w6 := m6.rw w5
  obtain ⟨n, rfl⟩ := Int.eq_ofNat_of_zero_le g1
  have hn5 : n < 5 := by omega
  have fin : ∀ y : Int, 0 ≤ y → y ≤ 10 ^ 18 → ixAt [D.int v1, D.int x, D.int v3, D.int v4, D.int 5] (n : Int) = some (.int y) → wp (op2 .ix (.ref G4.cs.length) (.int (n : Int)) G6) fun d G' => wp (gc B (R.ok d G')) P := fun y y1 y2 hy => by
    rw [o_ixL e6 hy]
    refine w6.out h rfl fun G' m => ?_
    obtain ⟨z, rfl⟩ := Int.eq_ofNat_of_zero_le y1
    exact hP z G' (by omega) m
  have c18 : (10 : Int) ^ Int.toNat 18 = 10 ^ 18 := by decide
  have c6 : (10 : Int) ^ Int.toNat 6 = 10 ^ 6 := by decide
  rcases n with _ | _ | _ | _ | _ | n
  · exact fin v1 a1 (by omega) rfl
  · exact fin x hx0 hx1 rfl
  · exact fin v3 c1 (by omega) rfl
  · exact fin v4 f1 (by omega) rfl
  · exact fin 5 (by decide) (by decide) rfl
  · omega
end
def Al : Nat → D → Prop
  | _, .int _ => True
  | _, .bl _ => True
  | _, .non => True
  | _, .str s => PyData.strOk ⟨s.toArray⟩ = true
  | n + 1, .tup xs => xs.length < 2 ^ 20 ∧ ∀ x ∈ xs, Al n x
  | _, _ => False
section
variable {G : Store} {P : D → Store → Prop}
theorem o_eqSS {a : List Nat} (h : PyData.strOk ⟨a.toArray⟩ = true) : wp (op2 .eq (.str a) (.str a) G) P = P (.bl true) G := by
  show wp (okO (eqD G (.str a) (.str a)) G) P = _
  have : eqD G (.str a) (.str a) = some true := by
    show (if SeqAt.shaped (.str _) && SeqAt.shaped (.str _) then some (PyData.eqv (.str _) (.str _)) else none) = _
    simp [SeqAt.shaped, PyData.canLay0, PyData.depth, PyData.eqv, h]
  rw [this]; rfl
theorem o_eqNN : wp (op2 .eq .non .non G) P = P (.bl true) G := propext Iff.rfl
theorem o_isS {s : List Nat} : wp (op2 .is (.str s) .non G) P = P (.bl false) G := propext Iff.rfl
theorem o_isBl {s : Bool} : wp (op2 .is (.bl s) .non G) P = P (.bl false) G := propext Iff.rfl
theorem o_isinS {s : List Nat} {b : Ty} : wp (bf .isin [.str s, .ty b] G) P = P (.bl (isTy .str b)) G := propext Iff.rfl
theorem o_isinN {b : Ty} : wp (bf .isin [.non, .ty b] G) P = P (.bl (isTy .none b)) G := propext Iff.rfl
theorem o_isinS2 {s : List Nat} {b c : Ty} : wp (bf .isin [.str s, .tup [.ty b, .ty c]] G) P = P (.bl (isTy .str b || (isTy .str c || false))) G := propext Iff.rfl
theorem o_isinN2 {b c : Ty} : wp (bf .isin [.non, .tup [.ty b, .ty c]] G) P = P (.bl (isTy .none b || (isTy .none c || false))) G := propext Iff.rfl
theorem o_isinB2 {s : Bool} {b c : Ty} : wp (bf .isin [.bl s, .tup [.ty b, .ty c]] G) P = P (.bl (isTy .bool b || (isTy .bool c || false))) G := propext Iff.rfl
theorem t_ss : isTy .str .str = true := rfl
theorem t_si : isTy .str .int = false := rfl
theorem t_sb : isTy .str .bool = false := rfl
theorem t_st : isTy .str .tuple = false := rfl
theorem t_sl : isTy .str .list = false := rfl
theorem t_ni : isTy .none .int = false := rfl
theorem t_nb : isTy .none .bool = false := rfl
theorem t_ns : isTy .none .str = false := rfl
theorem t_nt : isTy .none .tuple = false := rfl
theorem t_nl : isTy .none .list = false := rfl
theorem t_bs : isTy .bool .str = false := rfl
theorem t_bt : isTy .bool .tuple = false := rfl
theorem t_bl : isTy .bool .list = false := rfl
end
theorem eq_nil {G : Store} {m n : Nat} {P : D → Store → Prop} (h1 : G.lst? m = some []) (h2 : G.lst? n = some []) : wp (op2 .eq (.ref m) (.ref n) G) P = P (.bl true) G := by
  show wp (okO (eqD G (.ref m) (.ref n)) G) P = _
  have e : ∀ j, G.lst? j = some [] → pyD 8 G (.ref j) = some (.list []) := fun j hj => by
    show (match G.lst? j with | some xs => (pyWs (fun j => pyD 7 G (.ref j)) xs).map PyData.list | none => none) = _
    rw [hj]; rfl
  unfold eqD
  rw [e m h1, e n h2]
  rfl
theorem alike (hA : T[fa]? = some (alikeFd fa)) : ∀ (n : Nat) (d : D), Al n d → ∀ (k : Nat) (G : Store), n ≤ k → G.lim ≤ G.cs.length → run T (k + 1) fa [d, d] G = .ok (.bl true) G
  | n, .int i, _, k, G, hk, hlim => by
    refine eq_of_wp (run_wp (fd := alikeFd fa) hA rfl ?_)
    simp only [s_pass, s_nil, s_cons, s_expr, s_set, s_par, s_setIx, s_setKey, s_augIx, s_aug, s_ifs, s_ret, s_retN, s_brk, s_cnt, s_never, w_k, w_v, w_un, w_bin, w_and, w_or, w_ite, w_chain, w_tup, wp_newL, w_lst, w_dic0, w_callD, w_sl, w_rev, w_call, w_bf, w_mt, w_nil, w_cons, w_no, w_some, Tg.bind, bindN, o_add, o_addT, o_sub, o_mul, o_fdiv, o_mod, o_pow, o_eq, o_ne, o_lt, o_le, o_gt, o_ge, o_isT, o_isI, o_isR, o_isN, o_eqB, o_neB, o_not, o_neg, o_lenT, o_int, o_isinI, o_isinT, o_isinB, o_isinI2, o_isinT2, t_ii, t_ib, t_is, t_it, t_il, t_tt, t_tl, t_ts, t_ti, t_tb, t_bb, t_bi, Cut.truthy, zb_bl, Bool.or_false, Bool.false_or, Bool.not_true, Bool.not_false, Bool.true_or, Bool.or_true, tb_dec, tb_some, tb_not, tb_true, tb_false, Cut.start, List.map, List.length, List.replicate, List.append_eq, List.cons_append, List.nil_append, List.getElem?_cons_zero, List.getElem?_cons_succ, List.set_cons_zero, List.set_cons_succ, Nat.reduceAdd, Nat.reduceSub, tyOf, if_true, if_false, Bool.false_eq_true, decide_true, decide_false, wp_ok, alikeFd]
    refine ⟨by decide, ?_⟩
    rw [gc_id rfl]
    exact ⟨rfl, rfl⟩
  | n + 1, .tup xs, ⟨hz, h⟩, k, G, hk, hlim => by
    obtain ⟨k, rfl⟩ : ∃ j, k = j + 1 := ⟨k - 1, by omega⟩
    refine eq_of_wp (run_wp (fd := alikeFd fa) hA rfl ?_)
    simp only [s_pass, s_nil, s_cons, s_expr, s_set, s_par, s_setIx, s_setKey, s_augIx, s_aug, s_ifs, s_ret, s_retN, s_brk, s_cnt, s_never, w_k, w_v, w_un, w_bin, w_and, w_or, w_ite, w_chain, w_tup, wp_newL, w_lst, w_dic0, w_callD, w_sl, w_rev, w_call, w_bf, w_mt, w_nil, w_cons, w_no, w_some, Tg.bind, bindN, o_add, o_addT, o_sub, o_mul, o_fdiv, o_mod, o_pow, o_eq, o_ne, o_lt, o_le, o_gt, o_ge, o_isT, o_isI, o_isR, o_isN, o_eqB, o_neB, o_not, o_neg, o_lenT, o_int, o_isinI, o_isinT, o_isinB, o_isinI2, o_isinT2, t_ii, t_ib, t_is, t_it, t_il, t_tt, t_tl, t_ts, t_ti, t_tb, t_bb, t_bi, Cut.truthy, zb_bl, Bool.or_false, Bool.false_or, Bool.not_true, Bool.not_false, Bool.true_or, Bool.or_true, tb_dec, tb_some, tb_not, tb_true, tb_false, Cut.start, List.map, List.length, List.replicate, List.append_eq, List.cons_append, List.nil_append, List.getElem?_cons_zero, List.getElem?_cons_succ, List.set_cons_zero, List.set_cons_succ, Nat.reduceAdd, Nat.reduceSub, tyOf, if_true, if_false, Bool.false_eq_true, decide_true, decide_false, wp_ok, alikeFd, w_comp, i_rng1]
    refine ⟨by decide, by decide, by omega, by omega, ?_⟩
    rw [Int.toNat_natCast]
    refine (compGo_inv (k := xs.length) (fun i G' => Grown G G' ∧ G'.lst? G.cs.length = some []) (Q := fun G' => Grown G G' ∧ G'.lst? G.cs.length = some []) (by unfold loopFuel; omega) ⟨(Grown.refl G).new _, lst_new⟩ (fun G' hI => ⟨?_, hI⟩) fun i G' hi hI => ?_).imp fun _ G' hI => ?_
    · show some (if xs.length < xs.length then _ else _) = _
      rw [if_neg (Nat.lt_irrefl _)]
    · refine ⟨.int (0 + i), _, by show some (if i < xs.length then _ else _) = _; rw [if_pos hi], rfl, ?_⟩
      have hix : ixAt xs (0 + (i : Int)) = some xs[i] := by rw [Int.zero_add]; exact ixAt_nat (List.getElem?_eq_getElem hi)
      show wp ((ev (Cut.run T (k + 1)) (Ex.un Op1.not (Ex.call fa (Exs.cons (Ex.bin Op2.ix (Ex.v 0) (Ex.v 2)) (Exs.cons (Ex.bin Op2.ix (Ex.v 1) (Ex.v 2)) Exs.nil)))) _ G').bind _) _
      rw [wp_bind]
      simp only [s_pass, s_nil, s_cons, s_expr, s_set, s_par, s_setIx, s_setKey, s_augIx, s_aug, s_ifs, s_ret, s_retN, s_brk, s_cnt, s_never, w_k, w_v, w_un, w_bin, w_and, w_or, w_ite, w_chain, w_tup, wp_newL, w_lst, w_dic0, w_callD, w_sl, w_rev, w_call, w_bf, w_mt, w_nil, w_cons, w_no, w_some, Tg.bind, bindN, o_add, o_addT, o_sub, o_mul, o_fdiv, o_mod, o_pow, o_eq, o_ne, o_lt, o_le, o_gt, o_ge, o_isT, o_isI, o_isR, o_isN, o_eqB, o_neB, o_not, o_neg, o_lenT, o_int, o_isinI, o_isinT, o_isinB, o_isinI2, o_isinT2, t_ii, t_ib, t_is, t_it, t_il, t_tt, t_tl, t_ts, t_ti, t_tb, t_bb, t_bi, Cut.truthy, zb_bl, Bool.or_false, Bool.false_or, Bool.not_true, Bool.not_false, Bool.true_or, Bool.or_true, tb_dec, tb_some, tb_not, tb_true, tb_false, Cut.start, List.map, List.length, List.replicate, List.append_eq, List.cons_append, List.nil_append, List.getElem?_cons_zero, List.getElem?_cons_succ, List.set_cons_zero, List.set_cons_succ, Nat.reduceAdd, Nat.reduceSub, tyOf, if_true, if_false, Bool.false_eq_true, decide_true, decide_false, wp_ok, wipeE, o_ixT hix]
      rw [alike hA n xs[i] (h _ (List.getElem_mem hi)) k G' (by omega) (by have := hI.1.len; have := hI.1.lim; omega)]
      simp only [s_pass, s_nil, s_cons, s_expr, s_set, s_par, s_setIx, s_setKey, s_augIx, s_aug, s_ifs, s_ret, s_retN, s_brk, s_cnt, s_never, w_k, w_v, w_un, w_bin, w_and, w_or, w_ite, w_chain, w_tup, wp_newL, w_lst, w_dic0, w_callD, w_sl, w_rev, w_call, w_bf, w_mt, w_nil, w_cons, w_no, w_some, Tg.bind, bindN, o_add, o_addT, o_sub, o_mul, o_fdiv, o_mod, o_pow, o_eq, o_ne, o_lt, o_le, o_gt, o_ge, o_isT, o_isI, o_isR, o_isN, o_eqB, o_neB, o_not, o_neg, o_lenT, o_int, o_isinI, o_isinT, o_isinB, o_isinI2, o_isinT2, t_ii, t_ib, t_is, t_it, t_il, t_tt, t_tl, t_ts, t_ti, t_tb, t_bb, t_bi, Cut.truthy, zb_bl, Bool.or_false, Bool.false_or, Bool.not_true, Bool.not_false, Bool.true_or, Bool.or_true, tb_dec, tb_some, tb_not, tb_true, tb_false, Cut.start, List.map, List.length, List.replicate, List.append_eq, List.cons_append, List.nil_append, List.getElem?_cons_zero, List.getElem?_cons_succ, List.set_cons_zero, List.set_cons_succ, Nat.reduceAdd, Nat.reduceSub, tyOf, if_true, if_false, Bool.false_eq_true, decide_true, decide_false, wp_ok]
      exact hI
    · obtain ⟨g, hx⟩ := hI
      refine ⟨by decide, ?_⟩
      rw [eq_nil (lst_new_old hx) lst_new, gc_grown (g.new _) rfl]
      exact ⟨rfl, rfl⟩
  | n, .non, _, k, G, hk, hlim => by
    refine eq_of_wp (run_wp (fd := alikeFd fa) hA rfl ?_)
    simp only [s_pass, s_nil, s_cons, s_expr, s_set, s_par, s_setIx, s_setKey, s_augIx, s_aug, s_ifs, s_ret, s_retN, s_brk, s_cnt, s_never, w_k, w_v, w_un, w_bin, w_and, w_or, w_ite, w_chain, w_tup, wp_newL, w_lst, w_dic0, w_callD, w_sl, w_rev, w_call, w_bf, w_mt, w_nil, w_cons, w_no, w_some, Tg.bind, bindN, o_add, o_addT, o_sub, o_mul, o_fdiv, o_mod, o_pow, o_eq, o_ne, o_lt, o_le, o_gt, o_ge, o_isT, o_isI, o_isR, o_isN, o_eqB, o_neB, o_not, o_neg, o_lenT, o_int, o_isinI, o_isinT, o_isinB, o_isinI2, o_isinT2, t_ii, t_ib, t_is, t_it, t_il, t_tt, t_tl, t_ts, t_ti, t_tb, t_bb, t_bi, Cut.truthy, zb_bl, Bool.or_false, Bool.false_or, Bool.not_true, Bool.not_false, Bool.true_or, Bool.or_true, tb_dec, tb_some, tb_not, tb_true, tb_false, Cut.start, List.map, List.length, List.replicate, List.append_eq, List.cons_append, List.nil_append, List.getElem?_cons_zero, List.getElem?_cons_succ, List.set_cons_zero, List.set_cons_succ, Nat.reduceAdd, Nat.reduceSub, tyOf, if_true, if_false, Bool.false_eq_true, decide_true, decide_false, wp_ok, alikeFd, o_isS, o_isBl, o_isinS, o_isinN, o_isinS2, o_isinN2, o_isinB2, t_ss, t_si, t_sb, t_st, t_sl, t_ni, t_nb, t_ns, t_nt, t_nl, t_bs, t_bt, t_bl, o_eqNN]
    refine ⟨by decide, ?_⟩
    rw [gc_id rfl]
    exact ⟨rfl, rfl⟩
  | n, .bl b, _, k, G, hk, hlim => by
    refine eq_of_wp (run_wp (fd := alikeFd fa) hA rfl ?_)
    simp only [s_pass, s_nil, s_cons, s_expr, s_set, s_par, s_setIx, s_setKey, s_augIx, s_aug, s_ifs, s_ret, s_retN, s_brk, s_cnt, s_never, w_k, w_v, w_un, w_bin, w_and, w_or, w_ite, w_chain, w_tup, wp_newL, w_lst, w_dic0, w_callD, w_sl, w_rev, w_call, w_bf, w_mt, w_nil, w_cons, w_no, w_some, Tg.bind, bindN, o_add, o_addT, o_sub, o_mul, o_fdiv, o_mod, o_pow, o_eq, o_ne, o_lt, o_le, o_gt, o_ge, o_isT, o_isI, o_isR, o_isN, o_eqB, o_neB, o_not, o_neg, o_lenT, o_int, o_isinI, o_isinT, o_isinB, o_isinI2, o_isinT2, t_ii, t_ib, t_is, t_it, t_il, t_tt, t_tl, t_ts, t_ti, t_tb, t_bb, t_bi, Cut.truthy, zb_bl, Bool.or_false, Bool.false_or, Bool.not_true, Bool.not_false, Bool.true_or, Bool.or_true, tb_dec, tb_some, tb_not, tb_true, tb_false, Cut.start, List.map, List.length, List.replicate, List.append_eq, List.cons_append, List.nil_append, List.getElem?_cons_zero, List.getElem?_cons_succ, List.set_cons_zero, List.set_cons_succ, Nat.reduceAdd, Nat.reduceSub, tyOf, if_true, if_false, Bool.false_eq_true, decide_true, decide_false, wp_ok, alikeFd, o_isS, o_isBl, o_isinS, o_isinN, o_isinS2, o_isinN2, o_isinB2, t_ss, t_si, t_sb, t_st, t_sl, t_ni, t_nb, t_ns, t_nt, t_nl, t_bs, t_bt, t_bl]
    refine ⟨by decide, ?_⟩
    rw [gc_id rfl]
    exact ⟨rfl, rfl⟩
  | n, .str s, h, k, G, hk, hlim => by
    have h : PyData.strOk ⟨s.toArray⟩ = true := by cases n <;> exact h
    refine eq_of_wp (run_wp (fd := alikeFd fa) hA rfl ?_)
    simp only [s_pass, s_nil, s_cons, s_expr, s_set, s_par, s_setIx, s_setKey, s_augIx, s_aug, s_ifs, s_ret, s_retN, s_brk, s_cnt, s_never, w_k, w_v, w_un, w_bin, w_and, w_or, w_ite, w_chain, w_tup, wp_newL, w_lst, w_dic0, w_callD, w_sl, w_rev, w_call, w_bf, w_mt, w_nil, w_cons, w_no, w_some, Tg.bind, bindN, o_add, o_addT, o_sub, o_mul, o_fdiv, o_mod, o_pow, o_eq, o_ne, o_lt, o_le, o_gt, o_ge, o_isT, o_isI, o_isR, o_isN, o_eqB, o_neB, o_not, o_neg, o_lenT, o_int, o_isinI, o_isinT, o_isinB, o_isinI2, o_isinT2, t_ii, t_ib, t_is, t_it, t_il, t_tt, t_tl, t_ts, t_ti, t_tb, t_bb, t_bi, Cut.truthy, zb_bl, Bool.or_false, Bool.false_or, Bool.not_true, Bool.not_false, Bool.true_or, Bool.or_true, tb_dec, tb_some, tb_not, tb_true, tb_false, Cut.start, List.map, List.length, List.replicate, List.append_eq, List.cons_append, List.nil_append, List.getElem?_cons_zero, List.getElem?_cons_succ, List.set_cons_zero, List.set_cons_succ, Nat.reduceAdd, Nat.reduceSub, tyOf, if_true, if_false, Bool.false_eq_true, decide_true, decide_false, wp_ok, alikeFd, o_isS, o_isBl, o_isinS, o_isinN, o_isinS2, o_isinN2, o_isinB2, t_ss, t_si, t_sb, t_st, t_sl, t_ni, t_nb, t_ns, t_nt, t_nl, t_bs, t_bt, t_bl, o_eqSS h]
    refine ⟨by decide, ?_⟩
    rw [gc_id rfl]
    exact ⟨rfl, rfl⟩
  | n, .ref _, h, _, _, _, _ => by cases n <;> exact h.elim
  | n, .ty _, h, _, _, _, _ => by cases n <;> exact h.elim
  | 0, .tup _, h, _, _, _, _ => h.elim
theorem law_code (hC : T[fc]? = some codeFd) {k : Nat} {n : Nat} {N : Int} {G : Store} (hN : N = n) (hn : n ≤ 10 ^ 18) : run T (k + 1) fc [.int N] G = .ok (.tup ((enc n).map .int)) G := by
  subst hN
  have hl9 := enc_len9 hn
  refine eq_of_wp (run_wp (fd := codeFd) hC rfl ?_)
  simp only [s_pass, s_nil, s_cons, s_expr, s_set, s_par, s_setIx, s_setKey, s_augIx, s_aug, s_ifs, s_ret, s_retN, s_brk, s_cnt, s_never, w_k, w_v, w_un, w_bin, w_and, w_or, w_ite, w_chain, w_tup, wp_newL, w_lst, w_dic0, w_callD, w_sl, w_rev, w_call, w_bf, w_mt, w_nil, w_cons, w_no, w_some, Tg.bind, bindN, o_add, o_addT, o_sub, o_mul, o_fdiv, o_mod, o_pow, o_eq, o_ne, o_lt, o_le, o_gt, o_ge, o_isT, o_isI, o_isR, o_isN, o_eqB, o_neB, o_not, o_neg, o_lenT, o_int, o_isinI, o_isinT, o_isinB, o_isinI2, o_isinT2, t_ii, t_ib, t_is, t_it, t_il, t_tt, t_tl, t_ts, t_ti, t_tb, t_bb, t_bi, Cut.truthy, zb_bl, Bool.or_false, Bool.false_or, Bool.not_true, Bool.not_false, Bool.true_or, Bool.or_true, tb_dec, tb_some, tb_not, tb_true, tb_false, Cut.start, List.map, List.length, List.replicate, List.append_eq, List.cons_append, List.nil_append, List.getElem?_cons_zero, List.getElem?_cons_succ, List.set_cons_zero, List.set_cons_succ, Nat.reduceAdd, Nat.reduceSub, tyOf, if_true, if_false, Bool.false_eq_true, decide_true, decide_false, wp_ok, codeFd, o_slT]
  refine ⟨by decide, by decide, ⟨by decide, by decide +kernel⟩, ?_⟩
  refine s_while (fun m ρ G' => ∃ (v : Nat) (C : List Int) (x : Nat), m = (if v = 0 then 0 else (enc v).length) ∧ ρ = [some (.int v), some (.tup ((C ++ [(x : Int)]).map .int))] ∧ G' = G ∧ enc n = C ++ (if v = 0 then [(x : Int)] else ((x + 128 : Nat) : Int) :: enc v)) (if n / 128 = 0 then 0 else (enc (n / 128)).length) ?_ ?_ ?_
  · split
    · decide
    · have := enc_len9 (n := n / 128) (by omega); unfold loopFuel; omega
  · refine ⟨n / 128, [], n % 128, rfl, rfl, rfl, ?_⟩
    by_cases h : n < 128
    · rw [enc_lo h, if_pos (by omega)]
      rw [Nat.mod_eq_of_lt h]; rfl
    · rw [enc_hi (by omega), if_neg (by omega)]; rfl
  · rintro m ρ G' ⟨v, C, x, rfl, rfl, rfl, he⟩
    have hC : C.length ≤ 9 := by
      have := congrArg List.length he
      rw [List.length_append] at this; omega
    simp only [s_pass, s_nil, s_cons, s_expr, s_set, s_par, s_setIx, s_setKey, s_augIx, s_aug, s_ifs, s_ret, s_retN, s_brk, s_cnt, s_never, w_k, w_v, w_un, w_bin, w_and, w_or, w_ite, w_chain, w_tup, wp_newL, w_lst, w_dic0, w_callD, w_sl, w_rev, w_call, w_bf, w_mt, w_nil, w_cons, w_no, w_some, Tg.bind, bindN, o_add, o_addT, o_sub, o_mul, o_fdiv, o_mod, o_pow, o_eq, o_ne, o_lt, o_le, o_gt, o_ge, o_isT, o_isI, o_isR, o_isN, o_eqB, o_neB, o_not, o_neg, o_lenT, o_int, o_isinI, o_isinT, o_isinB, o_isinI2, o_isinT2, t_ii, t_ib, t_is, t_it, t_il, t_tt, t_tl, t_ts, t_ti, t_tb, t_bb, t_bi, Cut.truthy, zb_bl, Bool.or_false, Bool.false_or, Bool.not_true, Bool.not_false, Bool.true_or, Bool.or_true, tb_dec, tb_some, tb_not, tb_true, tb_false, Cut.start, List.map, List.length, List.replicate, List.append_eq, List.cons_append, List.nil_append, List.getElem?_cons_zero, List.getElem?_cons_succ, List.set_cons_zero, List.set_cons_succ, Nat.reduceAdd, Nat.reduceSub, tyOf, if_true, if_false, Bool.false_eq_true, decide_true, decide_false, wp_ok]
    by_cases hv : v = 0
    · subst hv
      simp only [s_pass, s_nil, s_cons, s_expr, s_set, s_par, s_setIx, s_setKey, s_augIx, s_aug, s_ifs, s_ret, s_retN, s_brk, s_cnt, s_never, w_k, w_v, w_un, w_bin, w_and, w_or, w_ite, w_chain, w_tup, wp_newL, w_lst, w_dic0, w_callD, w_sl, w_rev, w_call, w_bf, w_mt, w_nil, w_cons, w_no, w_some, Tg.bind, bindN, o_add, o_addT, o_sub, o_mul, o_fdiv, o_mod, o_pow, o_eq, o_ne, o_lt, o_le, o_gt, o_ge, o_isT, o_isI, o_isR, o_isN, o_eqB, o_neB, o_not, o_neg, o_lenT, o_int, o_isinI, o_isinT, o_isinB, o_isinI2, o_isinT2, t_ii, t_ib, t_is, t_it, t_il, t_tt, t_tl, t_ts, t_ti, t_tb, t_bb, t_bi, Cut.truthy, zb_bl, Bool.or_false, Bool.false_or, Bool.not_true, Bool.not_false, Bool.true_or, Bool.or_true, tb_dec, tb_some, tb_not, tb_true, tb_false, Cut.start, List.map, List.length, List.replicate, List.append_eq, List.cons_append, List.nil_append, List.getElem?_cons_zero, List.getElem?_cons_succ, List.set_cons_zero, List.set_cons_succ, Nat.reduceAdd, Nat.reduceSub, tyOf, if_true, if_false, Bool.false_eq_true, decide_true, decide_false, wp_ok, show ¬ (0 : Int) < ((0 : Nat) : Int) by omega]
      rw [gc_id (show below _ (.tup ((C ++ [(x : Int)]).map D.int)) = true from belows_int _ _)]
      rw [if_pos rfl] at he
      rw [he]
      exact ⟨rfl, rfl⟩
    · rw [if_neg hv] at he
      simp only [s_pass, s_nil, s_cons, s_expr, s_set, s_par, s_setIx, s_setKey, s_augIx, s_aug, s_ifs, s_ret, s_retN, s_brk, s_cnt, s_never, w_k, w_v, w_un, w_bin, w_and, w_or, w_ite, w_chain, w_tup, wp_newL, w_lst, w_dic0, w_callD, w_sl, w_rev, w_call, w_bf, w_mt, w_nil, w_cons, w_no, w_some, Tg.bind, bindN, o_add, o_addT, o_sub, o_mul, o_fdiv, o_mod, o_pow, o_eq, o_ne, o_lt, o_le, o_gt, o_ge, o_isT, o_isI, o_isR, o_isN, o_eqB, o_neB, o_not, o_neg, o_lenT, o_int, o_isinI, o_isinT, o_isinB, o_isinI2, o_isinT2, t_ii, t_ib, t_is, t_it, t_il, t_tt, t_tl, t_ts, t_ti, t_tb, t_bb, t_bi, Cut.truthy, zb_bl, Bool.or_false, Bool.false_or, Bool.not_true, Bool.not_false, Bool.true_or, Bool.or_true, tb_dec, tb_some, tb_not, tb_true, tb_false, Cut.start, List.map, List.length, List.replicate, List.append_eq, List.cons_append, List.nil_append, List.getElem?_cons_zero, List.getElem?_cons_succ, List.set_cons_zero, List.set_cons_succ, Nat.reduceAdd, Nat.reduceSub, tyOf, if_true, if_false, Bool.false_eq_true, decide_true, decide_false, wp_ok, show (0 : Int) < (v : Int) by omega, o_slT]
      rw [List.map_append, List.map_singleton, cut_init]
      simp only [s_pass, s_nil, s_cons, s_expr, s_set, s_par, s_setIx, s_setKey, s_augIx, s_aug, s_ifs, s_ret, s_retN, s_brk, s_cnt, s_never, w_k, w_v, w_un, w_bin, w_and, w_or, w_ite, w_chain, w_tup, wp_newL, w_lst, w_dic0, w_callD, w_sl, w_rev, w_call, w_bf, w_mt, w_nil, w_cons, w_no, w_some, Tg.bind, bindN, o_add, o_addT, o_sub, o_mul, o_fdiv, o_mod, o_pow, o_eq, o_ne, o_lt, o_le, o_gt, o_ge, o_isT, o_isI, o_isR, o_isN, o_eqB, o_neB, o_not, o_neg, o_lenT, o_int, o_isinI, o_isinT, o_isinB, o_isinI2, o_isinT2, t_ii, t_ib, t_is, t_it, t_il, t_tt, t_tl, t_ts, t_ti, t_tb, t_bb, t_bi, Cut.truthy, zb_bl, Bool.or_false, Bool.false_or, Bool.not_true, Bool.not_false, Bool.true_or, Bool.or_true, tb_dec, tb_some, tb_not, tb_true, tb_false, Cut.start, List.map, List.length, List.replicate, List.append_eq, List.cons_append, List.nil_append, List.getElem?_cons_zero, List.getElem?_cons_succ, List.set_cons_zero, List.set_cons_succ, Nat.reduceAdd, Nat.reduceSub, tyOf, if_true, if_false, Bool.false_eq_true, decide_true, decide_false, wp_ok, o_ixT ix_last]
      refine ⟨by decide, by decide, ?_, ⟨by decide, by decide +kernel⟩, ?_⟩
      · rw [List.length_map]
        exact Nat.le_trans (Nat.add_le_add_right hC 2) (by decide)
      · refine ⟨(if v / 128 = 0 then 0 else (enc (v / 128)).length), ?_, v / 128, C ++ [((x + 128 : Nat) : Int)], v % 128, rfl, ?_, trivial, ?_⟩
        · rw [if_neg hv]
          by_cases h : v / 128 = 0
          · rw [if_pos h]; exact enc_pos v
          · rw [if_neg h, enc_hi (n := v) (by omega)]; exact Nat.lt_succ_self _
        · simp only [List.map_append, List.map_singleton, List.append_assoc]
          rfl
        · rw [he, List.append_assoc]
          by_cases h : v / 128 = 0
          · rw [if_pos h, enc_lo (n := v) (by omega), Nat.mod_eq_of_lt (by omega)]; rfl
          · rw [if_neg h, enc_hi (n := v) (by omega)]; rfl
theorem law_bytes (hB : T[fb]? = some bytesFd) {k : Nat} {v m : Nat} {V M : Int} {G : Store} (hV : V = v) (hM : M = m) (hm : m ≤ 7) : run T (k + 1) fb [.int V, .int M] G = .ok (.tup ((fix v m).map .int)) G := by
  refine eq_of_wp (run_wp (fd := bytesFd) hB rfl ?_)
  simp only [s_pass, s_nil, s_cons, s_expr, s_set, s_par, s_setIx, s_setKey, s_augIx, s_aug, s_ifs, s_ret, s_retN, s_brk, s_cnt, s_never, w_k, w_v, w_un, w_bin, w_and, w_or, w_ite, w_chain, w_tup, wp_newL, w_lst, w_dic0, w_callD, w_sl, w_rev, w_call, w_bf, w_mt, w_nil, w_cons, w_no, w_some, Tg.bind, bindN, o_add, o_addT, o_sub, o_mul, o_fdiv, o_mod, o_pow, o_eq, o_ne, o_lt, o_le, o_gt, o_ge, o_isT, o_isI, o_isR, o_isN, o_eqB, o_neB, o_not, o_neg, o_lenT, o_int, o_isinI, o_isinT, o_isinB, o_isinI2, o_isinT2, t_ii, t_ib, t_is, t_it, t_il, t_tt, t_tl, t_ts, t_ti, t_tb, t_bb, t_bi, Cut.truthy, zb_bl, Bool.or_false, Bool.false_or, Bool.not_true, Bool.not_false, Bool.true_or, Bool.or_true, tb_dec, tb_some, tb_not, tb_true, tb_false, Cut.start, List.map, List.length, List.replicate, List.append_eq, List.cons_append, List.nil_append, List.getElem?_cons_zero, List.getElem?_cons_succ, List.set_cons_zero, List.set_cons_succ, Nat.reduceAdd, Nat.reduceSub, tyOf, if_true, if_false, Bool.false_eq_true, decide_true, decide_false, wp_ok, bytesFd, s_for, i_rng1]
  refine ⟨by decide, by omega, by omega, ?_⟩
  rw [show M.toNat = m by omega]
  refine s_forGo (fun i ρ G' => ∃ (u : Nat) (acc : List Int) (w : Option D), ρ = [some (.int u), some (.int M), some (.tup (acc.map .int)), w] ∧ G' = G ∧ acc.length = i ∧ fix v m = fix u (m - i) ++ acc) m (by unfold loopFuel; omega) ?_ ?_ ?_
  · exact ⟨v, [], none, by rw [hV]; rfl, rfl, rfl, by simp⟩
  · rintro i ρ G' hi ⟨u, acc, w, rfl, rfl, hl, he⟩
    refine ⟨.int (0 + i), by show some (if i < m then _ else _) = _; rw [if_pos hi], _, rfl, ?_⟩
    simp only [s_pass, s_nil, s_cons, s_expr, s_set, s_par, s_setIx, s_setKey, s_augIx, s_aug, s_ifs, s_ret, s_retN, s_brk, s_cnt, s_never, w_k, w_v, w_un, w_bin, w_and, w_or, w_ite, w_chain, w_tup, wp_newL, w_lst, w_dic0, w_callD, w_sl, w_rev, w_call, w_bf, w_mt, w_nil, w_cons, w_no, w_some, Tg.bind, bindN, o_add, o_addT, o_sub, o_mul, o_fdiv, o_mod, o_pow, o_eq, o_ne, o_lt, o_le, o_gt, o_ge, o_isT, o_isI, o_isR, o_isN, o_eqB, o_neB, o_not, o_neg, o_lenT, o_int, o_isinI, o_isinT, o_isinB, o_isinI2, o_isinT2, t_ii, t_ib, t_is, t_it, t_il, t_tt, t_tl, t_ts, t_ti, t_tb, t_bb, t_bi, Cut.truthy, zb_bl, Bool.or_false, Bool.false_or, Bool.not_true, Bool.not_false, Bool.true_or, Bool.or_true, tb_dec, tb_some, tb_not, tb_true, tb_false, Cut.start, List.map, List.length, List.replicate, List.append_eq, List.cons_append, List.nil_append, List.getElem?_cons_zero, List.getElem?_cons_succ, List.set_cons_zero, List.set_cons_succ, Nat.reduceAdd, Nat.reduceSub, tyOf, if_true, if_false, Bool.false_eq_true, decide_true, decide_false, wp_ok]
    refine ⟨by decide, by decide, ?_, ⟨by decide, by decide +kernel⟩, u / 256, ((u % 256 : Nat) : Int) :: acc, some (.int (0 + i)), rfl, trivial, by rw [List.length_cons, hl], ?_⟩
    · rw [List.length_map, hl]; exact Nat.le_trans (show 1 + i ≤ 8 by omega) (by decide)
    · rw [he, show m - i = (m - (i + 1)) + 1 by omega]
      show (fix (u / 256) (m - (i + 1)) ++ [_]) ++ acc = _
      rw [List.append_assoc]; rfl
  · rintro ρ G' ⟨u, acc, w, rfl, rfl, hl, he⟩
    refine ⟨by show some (if m < m then _ else _) = _; rw [if_neg (Nat.lt_irrefl m)], ?_⟩
    simp only [s_pass, s_nil, s_cons, s_expr, s_set, s_par, s_setIx, s_setKey, s_augIx, s_aug, s_ifs, s_ret, s_retN, s_brk, s_cnt, s_never, w_k, w_v, w_un, w_bin, w_and, w_or, w_ite, w_chain, w_tup, wp_newL, w_lst, w_dic0, w_callD, w_sl, w_rev, w_call, w_bf, w_mt, w_nil, w_cons, w_no, w_some, Tg.bind, bindN, o_add, o_addT, o_sub, o_mul, o_fdiv, o_mod, o_pow, o_eq, o_ne, o_lt, o_le, o_gt, o_ge, o_isT, o_isI, o_isR, o_isN, o_eqB, o_neB, o_not, o_neg, o_lenT, o_int, o_isinI, o_isinT, o_isinB, o_isinI2, o_isinT2, t_ii, t_ib, t_is, t_it, t_il, t_tt, t_tl, t_ts, t_ti, t_tb, t_bb, t_bi, Cut.truthy, zb_bl, Bool.or_false, Bool.false_or, Bool.not_true, Bool.not_false, Bool.true_or, Bool.or_true, tb_dec, tb_some, tb_not, tb_true, tb_false, Cut.start, List.map, List.length, List.replicate, List.append_eq, List.cons_append, List.nil_append, List.getElem?_cons_zero, List.getElem?_cons_succ, List.set_cons_zero, List.set_cons_succ, Nat.reduceAdd, Nat.reduceSub, tyOf, if_true, if_false, Bool.false_eq_true, decide_true, decide_false, wp_ok]
    rw [gc_id (show below _ (.tup (acc.map D.int)) = true from belows_int _ _)]
    refine ⟨?_, rfl⟩
    rw [he, Nat.sub_self]; rfl
theorem gc_bl {B G : Store} {b : Bool} : wp (gc B (R.ok (.bl b) G)) fun d _ => d = .bl b := by
  simp only [gc]
  split
  · rw [if_pos (show below B.cs.length (.bl b) = true from rfl)]; rfl
  · rfl
section
variable {G : Store} {r : Nat} {s : List Int}
theorem Rb.new (h : Rb r s G) (c : Cell) : Rb r s (G.new c) := by
  obtain ⟨h1, h2, h3, a, b, c', ok, h4⟩ := h
  exact ⟨h1, h2, lst_new_old h3, a, b, c', ok, lst_new_old h4⟩
theorem Rb.other (h : Rb r s G) {n : Nat} (hn : n ≠ r) (hn0 : n ≠ 0) (c : Cell) : Rb r s (G.put n c) := by
  obtain ⟨h1, h2, h3, a, b, c', ok, h4⟩ := h
  exact ⟨h1, h2, by rw [lst_put_ne hn0]; exact h3, a, b, c', ok, by rw [lst_put_ne hn]; exact h4⟩
theorem Rb.lt (h : Rb r s G) : r < G.cs.length := by
  obtain ⟨h1, h2, h3, a, b, c', ok, h4⟩ := h
  exact lt_of_lst h4
theorem Rb.ll (h : Rb r s G) : G.lim ≤ G.cs.length := Nat.le_trans h.lim (Nat.le_of_lt h.lt)
end
theorem al_int (n : Nat) (i : Int) : Al n (.int i) := by cases n <;> exact trivial
theorem al_ints (xs : List Int) (h : xs.length < 2 ^ 20) : Al 1 (.tup (xs.map .int)) := ⟨by rw [List.length_map]; exact h, fun x hx => by
  obtain ⟨y, _, rfl⟩ := in_ints hx
  exact al_int _ _⟩
theorem al_two (i j : Int) : Al 1 (.tup [.int i, .int j]) := al_ints [i, j] (by simp)

end
end Cut
/-! Closed pieces of a law are reckoned out: names whose value stands open are left out, too. -/
namespace Cut
open PySem
/-- the names' values, some left out -/
inductive Le : Env → Env → Prop
  | nil : Le [] []
  | cons {a b : Option D} {ρ0 ρ : Env} (h : a = none ∨ a = b) (t : Le ρ0 ρ) : Le (a :: ρ0) (b :: ρ)
def EqR {α : Type} (r r' : R α) : Prop := r = .stuck ∨ r' = r
section
variable {ρ0 ρ : Env}
theorem Le.refl : ∀ ρ : Env, Le ρ ρ
  | [] => .nil
  | a :: ρ => .cons (.inr rfl) (Le.refl ρ)
theorem Le.at : ∀ {ρ0 ρ : Env} {i : Nat} {d : D}, Le ρ0 ρ → ρ0[i]? = some (some d) → ρ[i]? = some (some d)
  | a :: _, b :: _, 0, d, .cons h _, e => by
    have e : a = some d := by simpa using e
    rcases h with h | h
    · rw [h] at e; cases e
    · show some b = some (some d); rw [← h, e]
  | _, _, i + 1, d, .cons _ hs, e => Le.at (i := i) hs (by simpa using e)
  | [], _, i, d, .nil, e => by simp at e
theorem Le.set : ∀ {ρ0 ρ : Env} (i : Nat) {a b : Option D}, Le ρ0 ρ → (a = none ∨ a = b) → Le (ρ0.set i a) (ρ.set i b)
  | _, _, _, _, _, .nil, _ => .nil
  | _, _, 0, _, _, .cons _ hs, h => .cons h hs
  | _, _, i + 1, _, _, .cons h0 hs, h => .cons h0 (hs.set i h)
theorem Le.wipe (h : Le ρ0 ρ) : ∀ own : List Nat, Le (wipeE ρ0 own) (wipeE ρ own)
  | [] => h
  | v :: vs => (h.wipe vs).set v (.inl rfl)
theorem Le.bindN : ∀ {is : List Nat} {ds : List D} {ρ0 ρ ρ1 : Env}, Le ρ0 ρ → Cut.bindN is ds ρ0 = some ρ1 → ∃ ρ2, Cut.bindN is ds ρ = some ρ2 ∧ Le ρ1 ρ2
  | [], [], _, _, _, h, e => by cases e; exact ⟨_, rfl, h⟩
  | i :: is, d :: ds, _, _, _, h, e => Le.bindN (is := is) (ds := ds) (h.set i (.inr rfl)) e
  | [], _ :: _, _, _, _, _, e => nomatch e
  | _ :: _, [], _, _, _, _, e => nomatch e
theorem Le.bind {t : Tg} {d : D} {ρ1 : Env} (h : Le ρ0 ρ) (e : t.bind d ρ0 = some ρ1) : ∃ ρ2, t.bind d ρ = some ρ2 ∧ Le ρ1 ρ2 := by
  cases t with
  | v i => cases e; exact ⟨_, rfl, h.set i (.inr rfl)⟩
  | tup is =>
    cases d <;> try (cases e; done)
    case tup ds => exact Le.bindN h e
  | nest ts =>
    cases d <;> try (cases e; done)
    case tup ds =>
      have go : ∀ {ts : List (Nat ⊕ List Nat)} {ds : List D} {ρ0 ρ ρ1 : Env}, Le ρ0 ρ → bindX ts ds ρ0 = some ρ1 → ∃ ρ2, bindX ts ds ρ = some ρ2 ∧ Le ρ1 ρ2 := by
        intro ts
        induction ts with
        | nil => intro ds ρ0 ρ ρ1 h e; cases ds <;> cases e; exact ⟨_, rfl, h⟩
        | cons t ts ih =>
          intro ds ρ0 ρ ρ1 h e
          cases ds with
          | nil => cases t <;> cases e
          | cons d ds =>
            cases t with
            | inl i => exact ih (h.set i (.inr rfl)) e
            | inr is =>
              cases d <;> try (cases e; done)
              case tup es =>
                unfold bindX at e ⊢
                cases e1 : Cut.bindN is es ρ0 with
                | none => rw [e1] at e; cases e
                | some ρ2 =>
                  rw [e1] at e
                  obtain ⟨ρ3, e3, h3⟩ := Le.bindN h e1
                  rw [e3]
                  exact ih h3 e
      exact go h e
end
theorem EqR.bind {α β : Type} {r r' : R α} {f f' : α → Store → R β} (h : EqR r r') (k : ∀ a G, EqR (f a G) (f' a G)) : EqR (r.bind f) (r'.bind f') := by
  rcases h with rfl | rfl
  · exact .inl rfl
  · cases r' with
    | ok a G => exact k a G
    | exc n fs G => exact .inr rfl
    | stuck => exact .inl rfl
theorem EqR.no {α : Type} {r r' : R α} (h : EqR r r') : EqR (noExc r) (noExc r') := by
  rcases h with rfl | rfl
  · exact .inl rfl
  · exact .inr rfl
theorem EqR.rfl {α : Type} {r : R α} : EqR r r := .inr (Eq.refl _)
theorem compGo_le {t : Tg} {v : Itv} {c c' : Option ME} {e e' : ME} {n : Nat} {ρ0 ρ : Env} (hl : Le ρ0 ρ) (hc : (c = none ∧ c' = none) ∨ ∃ f f', c = some f ∧ c' = some f' ∧ ∀ ρ0 ρ G, Le ρ0 ρ → EqR (f ρ0 G) (f' ρ G)) (he : ∀ ρ0 ρ G, Le ρ0 ρ → EqR (e ρ0 G) (e' ρ G)) : ∀ (f i : Nat) (G : Store), EqR (compGo t v c e ρ0 n f i G) (compGo t v c' e' ρ n f i G)
  | 0, _, _ => .inl (Eq.refl _)
  | f + 1, i, G => by
    unfold compGo
    cases v.at i G with
    | none => exact .rfl
    | some o =>
      cases o with
      | none => exact .rfl
      | some d =>
        dsimp only
        cases e1 : t.bind d ρ0 with
        | none => exact .inl (Eq.refl _)
        | some ρ1 =>
          obtain ⟨ρ2, e2, h2⟩ := hl.bind e1
          rw [e2]
          dsimp only
          refine EqR.bind ?_ fun b G1 => ?_
          · rcases hc with ⟨rfl, rfl⟩ | ⟨g, g', rfl, rfl, hg⟩
            · exact .rfl
            · exact EqR.bind (hg _ _ G h2) fun x G1 => .rfl
          · cases b with
            | true =>
              simp only [if_true]
              refine EqR.bind (he _ _ G1 h2) fun x G2 => ?_
              cases G2.lst? n with
              | none => exact .rfl
              | some ys =>
                dsimp only
                split
                · exact compGo_le hl hc he f (i + 1) _
                · exact .rfl
            | false =>
              simp only [Bool.false_eq_true, if_false]
              exact compGo_le hl hc he f (i + 1) _
theorem genGo_le {al : Bool} {t : Tg} {v : Itv} {e e' : ME} {ρ0 ρ : Env} (hl : Le ρ0 ρ) (he : ∀ ρ0 ρ G, Le ρ0 ρ → EqR (e ρ0 G) (e' ρ G)) : ∀ (f i : Nat) (G : Store), EqR (genGo al t v e ρ0 f i G) (genGo al t v e' ρ f i G)
  | 0, _, _ => .inl (Eq.refl _)
  | f + 1, i, G => by
    unfold genGo
    cases v.at i G with
    | none => exact .rfl
    | some o =>
      cases o with
      | none => exact .rfl
      | some d =>
        dsimp only
        cases e1 : t.bind d ρ0 with
        | none => exact .inl (Eq.refl _)
        | some ρ1 =>
          obtain ⟨ρ2, e2, h2⟩ := hl.bind e1
          rw [e2]
          dsimp only
          refine EqR.bind (he _ _ G h2) fun x G1 => ?_
          cases x <;> try exact .rfl
          case bl b =>
            dsimp only
            split
            · exact genGo_le hl he f (i + 1) G1
            · exact .rfl
mutual
/-- no exception in hand is looked at -/
def noHot : Ex → Bool
  | .k _ | .v _ | .dic0 | .callV _ => true
  | .un _ a => noHot a
  | .bin _ a b | .and a b | .or a b => noHot a && noHot b
  | .ite a b c | .chain _ _ a b c => noHot a && (noHot b && noHot c)
  | .tup es | .lst es | .call _ es | .callD _ es _ | .bf _ es => noHots es
  | .sl a l h => noHot a && (noHotO l && noHotO h)
  | .rev a => noHot a
  | .mt _ o es => noHot o && noHots es
  | .comp _ it c e _ => noHotI it && (noHotO c && noHot e)
  | .gen _ _ it e _ => noHotI it && noHot e
  | .isE _ _ | .fldE _ _ => false
  | .rng1D _ a => noHot a
  | .rng2D _ a b => noHot a && noHot b
def noHots : Exs → Bool
  | .nil => true
  | .cons e es => noHot e && noHots es
def noHotO : Exo → Bool
  | .none => true
  | .some e => noHot e
def noHotI : It → Bool
  | .one e | .enum e | .rng1 e => noHot e
  | .zip e f | .rng2 e f => noHot e && noHot f
end
section
variable {C : CallF}
mutual
theorem ev_le : ∀ (e : Ex), noHot e = true → ∀ (ρ0 ρ : Env) (G : Store), Le ρ0 ρ → EqR (ev C e ρ0 G) (ev C e ρ G)
  | .k d, _, _, _, _, _ => .rfl
  | .v i, _, ρ0, ρ, G, h => by
    show EqR (mV i ρ0 G) (mV i ρ G)
    unfold mV
    split
    · rename_i d e; rw [h.at e]; exact .rfl
    · exact .inl (Eq.refl _)
  | .dic0, _, _, _, _, _ => .rfl
  | .callV i, _, ρ0, ρ, G, h => by
    show EqR (mCallV C i ρ0 G) (mCallV C i ρ G)
    unfold mCallV
    split
    · rename_i n e; rw [h.at e]; exact .rfl
    · exact .inl (Eq.refl _)
  | .un o a, hn, ρ0, ρ, G, h => EqR.bind (ev_le a hn ρ0 ρ G h) fun x G1 => .rfl
  | .bin o a b, hn, ρ0, ρ, G, h => by
    have hn := Bool.and_eq_true_iff.mp (show (noHot a && noHot b) = true from hn)
    exact EqR.bind (ev_le a hn.1 ρ0 ρ G h) fun x G1 => EqR.bind (ev_le b hn.2 ρ0 ρ G1 h) fun y G2 => .rfl
  | .and a b, hn, ρ0, ρ, G, h => by
    have hn := Bool.and_eq_true_iff.mp (show (noHot a && noHot b) = true from hn)
    refine EqR.bind (ev_le a hn.1 ρ0 ρ G h) fun x G1 => ?_
    cases truthy x G1 with
    | none => exact .rfl
    | some z => cases z <;> first | exact .rfl | exact ev_le b hn.2 ρ0 ρ G1 h
  | .or a b, hn, ρ0, ρ, G, h => by
    have hn := Bool.and_eq_true_iff.mp (show (noHot a && noHot b) = true from hn)
    refine EqR.bind (ev_le a hn.1 ρ0 ρ G h) fun x G1 => ?_
    cases truthy x G1 with
    | none => exact .rfl
    | some z => cases z <;> first | exact .rfl | exact ev_le b hn.2 ρ0 ρ G1 h
  | .ite c a b, hn, ρ0, ρ, G, h => by
    have hn := Bool.and_eq_true_iff.mp (show (noHot c && (noHot a && noHot b)) = true from hn)
    have hn2 := Bool.and_eq_true_iff.mp hn.2
    refine EqR.bind (ev_le c hn.1 ρ0 ρ G h) fun x G1 => ?_
    cases truthy x G1 with
    | none => exact .rfl
    | some z => cases z <;> first | exact ev_le a hn2.1 ρ0 ρ G1 h | exact ev_le b hn2.2 ρ0 ρ G1 h
  | .chain o p a b c, hn, ρ0, ρ, G, h => by
    have hn := Bool.and_eq_true_iff.mp (show (noHot a && (noHot b && noHot c)) = true from hn)
    have hn2 := Bool.and_eq_true_iff.mp hn.2
    refine EqR.bind (ev_le a hn.1 ρ0 ρ G h) fun x G1 => EqR.bind (ev_le b hn2.1 ρ0 ρ G1 h) fun y G2 => EqR.bind .rfl fun z G3 => ?_
    split
    · exact EqR.bind (ev_le c hn2.2 ρ0 ρ G3 h) fun w G4 => .rfl
    · exact .rfl
    · exact .rfl
  | .tup es, hn, ρ0, ρ, G, h => EqR.bind (evs_le es hn ρ0 ρ G h) fun xs G1 => .rfl
  | .lst es, hn, ρ0, ρ, G, h => EqR.bind (evs_le es hn ρ0 ρ G h) fun xs G1 => .rfl
  | .sl a lo hi, hn, ρ0, ρ, G, h => by
    have hn := Bool.and_eq_true_iff.mp (show (noHot a && (noHotO lo && noHotO hi)) = true from hn)
    have hn2 := Bool.and_eq_true_iff.mp hn.2
    exact EqR.bind (ev_le a hn.1 ρ0 ρ G h) fun x G1 => EqR.bind (evo_le lo hn2.1 ρ0 ρ G1 h) fun l G2 => EqR.bind (evo_le hi hn2.2 ρ0 ρ G2 h) fun u G3 => .rfl
  | .rev a, hn, ρ0, ρ, G, h => EqR.bind (ev_le a hn ρ0 ρ G h) fun x G1 => .rfl
  | .call f es, hn, ρ0, ρ, G, h => EqR.bind (evs_le es hn ρ0 ρ G h) fun xs G1 => .rfl
  | .callD f es ds, hn, ρ0, ρ, G, h => EqR.bind (evs_le es hn ρ0 ρ G h) fun xs G1 => .rfl
  | .bf f es, hn, ρ0, ρ, G, h => EqR.bind (evs_le es hn ρ0 ρ G h) fun xs G1 => .rfl
  | .mt f o es, hn, ρ0, ρ, G, h => by
    have hn := Bool.and_eq_true_iff.mp (show (noHot o && noHots es) = true from hn)
    refine EqR.bind (ev_le o hn.1 ρ0 ρ G h) fun x G1 => ?_
    split
    · exact EqR.bind (evs_le es hn.2 ρ0 ρ G1 h) fun xs G2 => .rfl
    · exact .rfl
  | .comp t it c e own, hn, ρ0, ρ, G, h => by
    have hn := Bool.and_eq_true_iff.mp (show (noHotI it && (noHotO c && noHot e)) = true from hn)
    have hn2 := Bool.and_eq_true_iff.mp hn.2
    refine EqR.bind (evi_le it hn.1 ρ0 ρ G h) fun v G1 => EqR.bind (EqR.no (compGo_le (h.wipe own) (evc_le c hn2.1) (fun a b G h => ev_le e hn2.2 a b G h) _ _ _)) fun _ G2 => .rfl
  | .gen al t it e own, hn, ρ0, ρ, G, h => by
    have hn := Bool.and_eq_true_iff.mp (show (noHotI it && noHot e) = true from hn)
    exact EqR.bind (evi_le it hn.1 ρ0 ρ G h) fun v G1 => EqR.no (genGo_le (h.wipe own) (fun a b G h => ev_le e hn.2 a b G h) _ _ _)
  | .rng1D t a, hn, ρ0, ρ, G, h => EqR.bind (ev_le a hn ρ0 ρ G h) fun x G1 => .rfl
  | .rng2D t a b, hn, ρ0, ρ, G, h => by
    have hn := Bool.and_eq_true_iff.mp (show (noHot a && noHot b) = true from hn)
    exact EqR.bind (ev_le a hn.1 ρ0 ρ G h) fun x G1 => EqR.bind (ev_le b hn.2 ρ0 ρ G1 h) fun y G2 => .rfl
theorem evs_le : ∀ (es : Exs), noHots es = true → ∀ (ρ0 ρ : Env) (G : Store), Le ρ0 ρ → EqR (evs C es ρ0 G) (evs C es ρ G)
  | .nil, _, _, _, _, _ => .rfl
  | .cons e es, hn, ρ0, ρ, G, h => by
    have hn := Bool.and_eq_true_iff.mp (show (noHot e && noHots es) = true from hn)
    exact EqR.bind (ev_le e hn.1 ρ0 ρ G h) fun x G1 => EqR.bind (evs_le es hn.2 ρ0 ρ G1 h) fun xs G2 => .rfl
theorem evo_le : ∀ (e : Exo), noHotO e = true → ∀ (ρ0 ρ : Env) (G : Store), Le ρ0 ρ → EqR (evo C e ρ0 G) (evo C e ρ G)
  | .none, _, _, _, _, _ => .rfl
  | .some e, hn, ρ0, ρ, G, h => EqR.bind (ev_le e hn ρ0 ρ G h) fun x G1 => .rfl
theorem evc_le : ∀ (c : Exo), noHotO c = true → (evc C c = none ∧ evc C c = none) ∨ ∃ f f', evc C c = some f ∧ evc C c = some f' ∧ ∀ ρ0 ρ G, Le ρ0 ρ → EqR (f ρ0 G) (f' ρ G)
  | .none, _ => .inl ⟨Eq.refl _, Eq.refl _⟩
  | .some e, hn => .inr ⟨_, _, Eq.refl _, Eq.refl _, fun ρ0 ρ G h => ev_le e hn ρ0 ρ G h⟩
theorem evi_le : ∀ (it : It), noHotI it = true → ∀ (ρ0 ρ : Env) (G : Store), Le ρ0 ρ → EqR (evi C it ρ0 G) (evi C it ρ G)
  | .one e, hn, ρ0, ρ, G, h => EqR.bind (ev_le e hn ρ0 ρ G h) fun x G1 => .rfl
  | .enum e, hn, ρ0, ρ, G, h => EqR.bind (ev_le e hn ρ0 ρ G h) fun x G1 => .rfl
  | .zip a b, hn, ρ0, ρ, G, h => by
    have hn := Bool.and_eq_true_iff.mp (show (noHot a && noHot b) = true from hn)
    exact EqR.bind (ev_le a hn.1 ρ0 ρ G h) fun x G1 => EqR.bind (ev_le b hn.2 ρ0 ρ G1 h) fun y G2 => .rfl
  | .rng1 e, hn, ρ0, ρ, G, h => EqR.bind (ev_le e hn ρ0 ρ G h) fun x G1 => .rfl
  | .rng2 a b, hn, ρ0, ρ, G, h => by
    have hn := Bool.and_eq_true_iff.mp (show (noHot a && noHot b) = true from hn)
    exact EqR.bind (ev_le a hn.1 ρ0 ρ G h) fun x G1 => EqR.bind (ev_le b hn.2 ρ0 ρ G1 h) fun y G2 => .rfl
end
end
/-! the store: some cells left out -/
inductive Ov : List Cell → List Cell → Prop
  | nil : Ov [] []
  | cons {c x : Cell} {G X : List Cell} (h : c = .dead ∨ c = x) (t : Ov G X) : Ov (c :: G) (x :: X)
theorem Ov.refl : ∀ X : List Cell, Ov X X
  | [] => .nil
  | x :: X => .cons (.inr (Eq.refl _)) (Ov.refl X)
theorem Ov.len : ∀ {G X : List Cell}, Ov G X → G.length = X.length
  | _, _, .nil => rfl
  | _, _, .cons _ h => congrArg (· + 1) h.len
theorem Ov.app : ∀ {G X G' X' : List Cell}, Ov G X → Ov G' X' → Ov (G ++ G') (X ++ X')
  | _, _, _, _, .nil, h' => h'
  | _, _, _, _, .cons a h, h' => .cons a (h.app h')
theorem Ov.dead : ∀ (j : Nat) {ys : List Cell}, ys.length = j → Ov (List.replicate j .dead) ys
  | 0, [], _ => .nil
  | j + 1, y :: ys, h => .cons (.inl rfl) (Ov.dead j (by simpa using h))
theorem Ov.set : ∀ {G X : List Cell} {i : Nat} (c : Cell), Ov G X → G[i]? = some .dead → Ov G (X.set i c)
  | _, _, 0, c, .cons _ h, e => .cons (.inl (by simpa using e)) h
  | _, _, i + 1, c, .cons a h, e => .cons a (h.set c (by simpa using e))
  | _, _, _, _, .nil, e => by simp at e
theorem Ov.at : ∀ {G X : List Cell} {i : Nat} {c : Cell}, Ov G X → G[i]? = some c → c ≠ .dead → X[i]? = some c
  | g :: _, x :: _, 0, c, .cons a h, e, hc => by
    have e : g = c := by simpa using e
    rcases a with a | a
    · exact absurd (e.symm.trans a) hc
    · show some x = some c; rw [← a, e]
  | _, _, i + 1, c, .cons _ h, e, hc => Ov.at (i := i) h (by simpa using e) hc
  | _, _, _, _, .nil, e, _ => by simp at e
theorem Ov.ovr : ∀ {G X : List Cell}, Ov G X → Cut.ovr (G.map deadB) X G = X
  | _, _, .nil => rfl
  | c :: G, x :: X, .cons a h => by
    have ih := Ov.ovr h
    cases c with
    | dead => show x :: Cut.ovr _ X G = _; rw [ih]
    | lst xs => rcases a with a | a <;> first | (cases a; done) | (subst a; show _ :: Cut.ovr _ X G = _; rw [ih])
    | dic xs => rcases a with a | a <;> first | (cases a; done) | (subst a; show _ :: Cut.ovr _ X G = _; rw [ih])
    | ins _ xs => rcases a with a | a <;> first | (cases a; done) | (subst a; show _ :: Cut.ovr _ X G = _; rw [ih])
    | clo _ xs => rcases a with a | a <;> first | (cases a; done) | (subst a; show _ :: Cut.ovr _ X G = _; rw [ih])
def isR (l : Nat) (G0 : List Cell) (d : D) (new : List Cell) : R D → Bool
  | .ok a G => decide (a = d) && (decide (G.lim = l) && decide (G.cs = G0 ++ new))
  | _ => false
section
variable {T : List Fd} {k l : Nat} {e : Ex} {ρ0 ρ : Env} {G0 X : List Cell}
theorem ev_ov {p : D → Bool} {j : Nat} (hc : okR l G0 p j (ev (run T k) e ρ0 ⟨l, G0⟩) = true) (hn : noHot e = true) (he : Le ρ0 ρ) (ho : Ov G0 X) : ∃ d ys, ys.length = j ∧ p d = true ∧ ev (run T k) e ρ ⟨l, X⟩ = .ok d ⟨l, X ++ ys⟩ := by
  have h2 := ev_le (C := run T k) e hn ρ0 ρ ⟨l, G0⟩ he
  have hc : okR l G0 p j (ev (run T k) e ρ ⟨l, G0⟩) = true := by
    rcases h2 with h2 | h2
    · rw [h2] at hc; cases hc
    · rw [h2]; exact hc
  exact ev_at hc ho.len ho.ovr
theorem run_ov {p : D → Bool} {j f : Nat} {ds : List D} (hc : okR l G0 p j (run T k f ds ⟨l, G0⟩) = true) (ho : Ov G0 X) : ∃ d ys, ys.length = j ∧ p d = true ∧ run T k f ds ⟨l, X⟩ = .ok d ⟨l, X ++ ys⟩ := run_at hc ho.len ho.ovr
theorem ev_is {d : D} {new : List Cell} (hc : isR l G0 d new (ev (run T k) e ρ0 ⟨l, G0⟩) = true) (hn : noHot e = true) (he : Le ρ0 ρ) (ho : Ov G0 X) : ev (run T k) e ρ ⟨l, X⟩ = .ok d ⟨l, X ++ new⟩ := by
  have h2 := ev_le (C := run T k) e hn ρ0 ρ ⟨l, G0⟩ he
  have hc : isR l G0 d new (ev (run T k) e ρ ⟨l, G0⟩) = true := by
    rcases h2 with h2 | h2
    · rw [h2] at hc; cases hc
    · rw [h2]; exact hc
  have t := ev_th (m := G0.map deadB) (X := X) (run_th T k) e ρ ⟨l, G0⟩ (dm_of ho.len)
  cases hr : ev (run T k) e ρ ⟨l, G0⟩ with
  | ok a G =>
    rw [hr] at t hc
    obtain ⟨h1, h2⟩ := t
    simp only [isR, Bool.and_eq_true, decide_eq_true_eq] at hc
    obtain ⟨c1, c2, c3⟩ := hc
    have : (Store.ov ⟨l, G0⟩ (G0.map deadB) X) = ⟨l, X⟩ := by
      show ({ lim := _, cs := Cut.ovr _ _ _ } : Store) = _
      rw [ho.ovr]
    rw [this] at h2
    rw [h2, c1]
    show R.ok d { lim := _, cs := Cut.ovr _ _ _ } = _
    rw [c3, ovr_app _ _ _ _ (by rw [List.length_map, ho.len]) (by rw [List.length_map]; exact Nat.le_refl _), ho.ovr, c2]
  | exc _ _ _ => rw [hr] at hc; cases hc
  | stuck => rw [hr] at hc; cases hc
/-! statements -/
variable {Dp : Po}
theorem s_is {i : Nat} {d : D} {new : List Cell} (hc : isR l G0 d new (ev (run T k) e ρ0 ⟨l, G0⟩) = true) (hn : noHot e = true) (he : Le ρ0 ρ) (ho : Ov G0 X) (h : Dp.nx (ρ.set i (some d)) ⟨l, X ++ new⟩) : wps (ex (run T k) (.set (.v i) e) ρ ⟨l, X⟩) Dp := by
  rw [s_set, ev_is hc hn he ho]
  exact h
/-- if test: .. : the test fails -/
theorem s_no {a b : Sms} {j : Nat} (hc : okR l G0 (fun d => decide (d = .bl false)) j (ev (run T k) e ρ0 ⟨l, G0⟩) = true) (hn : noHot e = true) (he : Le ρ0 ρ) (ho : Ov G0 X) (h : ∀ ys : List Cell, ys.length = j → wps (exs (run T k) b ρ ⟨l, X ++ ys⟩) Dp) : wps (ex (run T k) (.ifs e a b) ρ ⟨l, X⟩) Dp := by
  obtain ⟨d, ys, h1, h2, h3⟩ := ev_ov hc hn he ho
  have h2 := of_decide_eq_true h2
  subst h2
  rw [s_ifs, h3]
  exact h ys h1
theorem s_yes {j : Nat} {D : Po} (hc : okR l G0 (fun d => decide (d = .bl true)) j (ev (run T k) e ρ0 ⟨l, G0⟩) = true) (hn : noHot e = true) (he : Le ρ0 ρ) (ho : Ov G0 X) (h : ∀ ys : List Cell, D.rt (.bl true) ⟨l, X ++ ys⟩) : wps (ex (run T k) (.ret e) ρ ⟨l, X⟩) D := by
  obtain ⟨d, ys, h1, h2, h3⟩ := ev_ov hc hn he ho
  have h2 := of_decide_eq_true h2
  subst h2
  rw [s_ret, h3]
  exact h ys
theorem rb_app {s : List Int} {ys : List Cell} (h : Rb 1 s ⟨l, X⟩) : Rb 1 s ⟨l, X ++ ys⟩ := by
  obtain ⟨h1, h2, h3, a, b, c, h4, h5⟩ := h
  have g : Grown ⟨l, X⟩ ⟨l, X ++ ys⟩ := ⟨rfl, ys, rfl⟩
  exact ⟨h1, h2, g.lst h3, a, b, c, h4, g.lst h5⟩
/-- x = _law_pick(row, things) -/
theorem s_pick {ft fp i r n : Nat} {xs : List D} {s : List Int} {new : List Cell} (hT : T[ft]? = some takenFd) (hP : T[fp]? = some (pickFd ft)) (hk : ∃ k', k = k' + 2) (hr : ρ[r]? = some (some (.ref 1)))
    (hc : isR l G0 (.ref n) new (ev (run T k) e ρ0 ⟨l, G0⟩) = true) (hn : noHot e = true) (he : Le ρ0 ρ) (ho : Ov G0 X) (rb : Rb 1 s ⟨l, X⟩) (hx : (G0 ++ new)[n]? = some (.lst xs)) (hd : G0[1]? = some .dead) (hsm : (decide (0 < xs.length) && (decide (xs.length < 1048576) && belows (G0 ++ new).length xs)) = true)
    (h : ∀ x ∈ xs, ∀ X', Ov (G0 ++ new) X' → Rb 1 s ⟨l, X'⟩ → Dp.nx (ρ.set i (some x)) ⟨l, X'⟩) : wps (ex (run T k) (.set (.v i) (.call fp (.cons (.v r) (.cons e .nil)))) ρ ⟨l, X⟩) Dp := by
  obtain ⟨k, rfl⟩ := hk
  simp only [Bool.and_eq_true, decide_eq_true_eq] at hsm
  have ho2 : Ov (G0 ++ new) (X ++ new) := ho.app (.refl new)
  rw [s_set, w_call, w_cons, w_v, hr]
  show wp (evs (run T (k + 2)) (.cons e .nil) ρ ⟨l, X⟩) _
  rw [w_cons, ev_is hc hn he ho]
  show wp (run T (k + 2) fp [.ref 1, .ref n] ⟨l, X ++ new⟩) _
  have hx2 : (⟨l, X ++ new⟩ : Store).lst? n = some xs := by
    unfold Store.lst?
    rw [show (⟨l, X ++ new⟩ : Store).cs[n]? = some (.lst xs) from ho2.at hx (fun z => nomatch z)]
  have hn1 : 1 ≠ n := fun z => by
    subst z
    have h0 : (G0 ++ new)[1]? = some .dead := by rw [List.getElem?_append_left (List.getElem?_eq_some_iff.mp hd).1]; exact hd
    rw [hx] at h0; cases h0
  refine pick' hT hP (rb_app rb) hx2 hn1 hsm.1 hsm.2.1 (by rw [← ho2.len]; exact hsm.2.2) fun x hx G' m => ?_
  obtain ⟨rb', a, b, c, ok, rfl⟩ := m
  exact h x hx _ (ho2.set _ (by rw [List.getElem?_append_left (List.getElem?_eq_some_iff.mp hd).1]; exact hd)) rb'
end
end Cut
/-! Small words for laws whose draws are few. -/
namespace Cut
open PySem
def nthS : Sms → Nat → Sm
  | .cons s _, 0 => s
  | .cons _ ss, i + 1 => nthS ss i
  | .nil, _ => .never
def condE : Sm → Ex
  | .ifs c _ _ => c
  | .set _ e => e
  | .ret e => e
  | .expr e => e
  | _ => .k .non
def argE : Ex → Nat → Ex
  | .call _ (.cons a _), 0 => a
  | .call _ (.cons _ (.cons b _)), 1 => b
  | e, _ => e
mutual
def pD : D → String
  | .non => ".non"
  | .bl b => "(.bl " ++ toString b ++ ")"
  | .int i => "(.int (" ++ toString i ++ "))"
  | .str s => "(.str " ++ toString s ++ ")"
  | .tup xs => "(.tup [" ++ pDs xs ++ "])"
  | .ref n => "(.ref " ++ toString n ++ ")"
  | .ty _ => "(.ty ?)"
def pDs : List D → String
  | [] => ""
  | [x] => pD x
  | x :: y :: r => pD x ++ ", " ++ pDs (y :: r)
end
def pC : Cell → String
  | .lst xs => ".lst [" ++ pDs xs ++ "]"
  | .dic kvs => ".dic [" ++ toString kvs.length ++ "]"
  | .ins _ _ => ".ins"
  | .clo f ds => ".clo " ++ toString f ++ " [" ++ pDs ds ++ "]"
  | .dead => ".dead"
def pR (n : Nat) : R D → String
  | .ok d G => "ok " ++ pD d ++ " new " ++ toString (G.cs.length - n) ++ " [" ++ String.intercalate ", " ((G.cs.drop n).map pC) ++ "]"
  | .exc k fs _ => "exc " ++ toString k ++ " " ++ pDs fs
  | .stuck => "stuck"
theorem gc_bool {G G' : Store} {b : Bool} {P : D → Store → Prop} (h : ∀ G, P (.bl b) G) : wp (gc G (.ok (.bl b) G')) P := by
  unfold gc
  dsimp only
  split
  · rw [if_pos (show below G.cs.length (.bl b) = true from rfl)]; exact h _
  · exact h _

/-! looks -/
def wkB : List Cell → List Cell → Bool
  | [], [] => true
  | a :: as, b :: bs => (deadB b || decide (a = b)) && wkB as bs
  | _, _ => false
theorem Ov.weak : ∀ {G G' X : List Cell}, Ov G X → wkB G G' = true → Ov G' X
  | _, [], _, .nil, _ => .nil
  | a :: _, b :: _, _, .cons h t, w => by
    have w := Bool.and_eq_true_iff.mp (show ((deadB b || decide (a = b)) && wkB _ _) = true from w)
    refine .cons ?_ (t.weak w.2)
    rcases Bool.or_eq_true_iff.mp w.1 with z | z
    · left
      cases b <;> first | rfl | cases z
    · rw [← of_decide_eq_true z]; exact h
  | [], _ :: _, _, _, w => nomatch w
  | _ :: _, [], _, _, w => nomatch w
def newC {α : Type} (n : Nat) : R α → List Cell
  | .ok _ G => G.cs.drop n
  | _ => []
def refC : R D → Nat
  | .ok (.ref n) _ => n
  | _ => 0
def lstC : R D → List D
  | .ok (.ref n) G => (G.lst? n).getD []
  | _ => []
/-- e gives a list; behind it the store is G' (or less is known) -/
def pickB (T : List Fd) (k : Nat) (e : Ex) (ρ : Env) (l : Nat) (G0 G' : List Cell) : Bool :=
  let r := ev (run T k) e ρ ⟨l, G0⟩
  let new := newC G0.length r
  isR l G0 (.ref (refC r)) new r && (noHot e && (decide ((G0 ++ new)[refC r]? = some (.lst (lstC r))) && (decide (G0[1]? = some .dead) && ((decide (0 < (lstC r).length) && (decide ((lstC r).length < 1048576) && belows (G0 ++ new).length (lstC r))) && wkB (G0 ++ new) G'))))
/-- e gives d; behind it the store is G' -/
def valB (T : List Fd) (k : Nat) (e : Ex) (ρ : Env) (l : Nat) (G0 G' : List Cell) (d : D) : Bool :=
  let r := ev (run T k) e ρ ⟨l, G0⟩
  let new := newC G0.length r
  isR l G0 d new r && (noHot e && wkB (G0 ++ new) G')
section
variable {T : List Fd} {k l : Nat} {e : Ex} {ρ0 ρ : Env} {G0 G' X : List Cell} {Dp : Po}
theorem s_pickB {ft fp i r : Nat} {s : List Int} (hT : T[ft]? = some takenFd) (hP : T[fp]? = some (pickFd ft)) (hk : ∃ k', k = k' + 2) (hr : ρ[r]? = some (some (.ref 1))) (hc : pickB T k e ρ0 l G0 G' = true) (he : Le ρ0 ρ) (ho : Ov G0 X) (rb : Rb 1 s ⟨l, X⟩)
    (h : ∀ x ∈ lstC (ev (run T k) e ρ0 ⟨l, G0⟩), ∀ X', Ov G' X' → Rb 1 s ⟨l, X'⟩ → Dp.nx (ρ.set i (some x)) ⟨l, X'⟩) : wps (ex (run T k) (.set (.v i) (.call fp (.cons (.v r) (.cons e .nil)))) ρ ⟨l, X⟩) Dp := by
  have hc := Bool.and_eq_true_iff.mp hc
  have h2 := Bool.and_eq_true_iff.mp hc.2
  have h3 := Bool.and_eq_true_iff.mp h2.2
  have h4 := Bool.and_eq_true_iff.mp h3.2
  have h5 := Bool.and_eq_true_iff.mp h4.2
  exact s_pick hT hP hk hr hc.1 h2.1 he ho rb (of_decide_eq_true h3.1) (of_decide_eq_true h4.1) h5.1 fun x hx X' o rb' => h x hx X' (o.weak h5.2) rb'
theorem s_noB {a b : Sms} {j : Nat} (hc : (okR l G0 (fun d => decide (d = .bl false)) j (ev (run T k) e ρ0 ⟨l, G0⟩) && (noHot e && wkB (G0 ++ List.replicate j .dead) G')) = true) (he : Le ρ0 ρ) (ho : Ov G0 X) {s : List Int} (rb : Rb 1 s ⟨l, X⟩)
    (h : ∀ X', Ov G' X' → Rb 1 s ⟨l, X'⟩ → wps (exs (run T k) b ρ ⟨l, X'⟩) Dp) : wps (ex (run T k) (.ifs e a b) ρ ⟨l, X⟩) Dp := by
  have hc := Bool.and_eq_true_iff.mp hc
  have h2 := Bool.and_eq_true_iff.mp hc.2
  exact s_no hc.1 h2.1 he ho fun ys hy => h _ ((ho.app (Ov.dead j hy)).weak h2.2) (rb_app rb)
theorem s_valB {i : Nat} {d : D} (hc : valB T k e ρ0 l G0 G' d = true) (he : Le ρ0 ρ) (ho : Ov G0 X) {s : List Int} (rb : Rb 1 s ⟨l, X⟩) (h : ∀ X', Ov G' X' → Rb 1 s ⟨l, X'⟩ → Dp.nx (ρ.set i (some d)) ⟨l, X'⟩) : wps (ex (run T k) (.set (.v i) e) ρ ⟨l, X⟩) Dp := by
  have hc := Bool.and_eq_true_iff.mp hc
  have h2 := Bool.and_eq_true_iff.mp hc.2
  exact s_is hc.1 h2.1 he ho (h _ ((ho.app (.refl _)).weak h2.2) (rb_app rb))
end

/-! a law's statements, one by one -/
def noB (T : List Fd) (k : Nat) (e : Ex) (l : Nat) (ρ : Cut.Env) (G0 : List Cell) (j : Nat) (G' : List Cell) : Bool := okR l G0 (fun d => decide (d = .bl false)) j (ev (run T k) e ρ ⟨l, G0⟩) && (noHot e && wkB (G0 ++ List.replicate j .dead) G')
def two (f : Nat → Bool) : Bool := f 0 && f 1
theorem two_at {f : Nat → Bool} (h : two f = true) {l : Nat} (hl : l ≤ 1) : f l = true := by
  have h := Bool.and_eq_true_iff.mp h
  have : l = 0 ∨ l = 1 := by omega
  rcases this with rfl | rfl
  · exact h.1
  · exact h.2
def dropS : Sms → Nat → Sms
  | ss, 0 => ss
  | .cons _ ss, i + 1 => dropS ss i
  | .nil, _ + 1 => .nil
section
variable {T : List Fd} {k l : Nat} {e : Ex} {ρ0 ρ : Env} {G0 G' X : List Cell} {D : Po} {ss : Sms}
theorem t_pick {ft fp i r : Nat} {s : List Int} (hT : T[ft]? = some takenFd) (hP : T[fp]? = some (pickFd ft)) (hk : ∃ k', k = k' + 2) (hr : ρ0[r]? = some (some (.ref 1))) (hi : ρ0.set i none = ρ0) (hc : pickB T k e ρ0 l G0 G' = true) (he : Le ρ0 ρ) (ho : Ov G0 X) (rb : Rb 1 s ⟨l, X⟩)
    (h : ∀ x ∈ lstC (ev (run T k) e ρ0 ⟨l, G0⟩), ∀ ρ' X', Le (ρ0.set i (some x)) ρ' → Le ρ0 ρ' → Ov G' X' → Rb 1 s ⟨l, X'⟩ → wps (exs (run T k) ss ρ' ⟨l, X'⟩) D) : wps (exs (run T k) (.cons (.set (.v i) (.call fp (.cons (.v r) (.cons e .nil)))) ss) ρ ⟨l, X⟩) D := by
  rw [s_cons]
  exact s_pickB hT hP hk (he.at hr) hc he ho rb fun x hx X' o' rb' => h x hx _ X' (he.set i (.inr rfl)) (by have := he.set (b := some x) i (a := none) (.inl rfl); rwa [hi] at this) o' rb'
theorem t_no {a : Sms} {j : Nat} {s : List Int} (hc : noB T k e l ρ0 G0 j G' = true) (he : Le ρ0 ρ) (ho : Ov G0 X) (rb : Rb 1 s ⟨l, X⟩) (h : ∀ X', Ov G' X' → Rb 1 s ⟨l, X'⟩ → wps (exs (run T k) ss ρ ⟨l, X'⟩) D) : wps (exs (run T k) (.cons (.ifs e a .nil) ss) ρ ⟨l, X⟩) D := by
  rw [s_cons]
  exact s_noB hc he ho rb fun X' o' rb' => (by rw [s_nil]; exact h X' o' rb')
theorem t_val {i : Nat} {d : Cut.D} {s : List Int} (hc : valB T k e ρ0 l G0 G' d = true) (he : Le ρ0 ρ) (ho : Ov G0 X) (rb : Rb 1 s ⟨l, X⟩) (h : ∀ ρ' X', Le (ρ0.set i (some d)) ρ' → Ov G' X' → Rb 1 s ⟨l, X'⟩ → wps (exs (run T k) ss ρ' ⟨l, X'⟩) D) : wps (exs (run T k) (.cons (.set (.v i) e) ss) ρ ⟨l, X⟩) D := by
  rw [s_cons]
  exact s_valB hc he ho rb fun X' o' rb' => h _ X' (he.set i (.inr rfl)) o' rb'
/-- the first statement: the row -/
theorem t_row {c : Int} {s : List Int} (n : Nat) (hc : isR l [.dead] (.ref 1) [.lst (rowL 0 c 0)] (ev (run T k) e (some (.ref 0) :: List.replicate n none) ⟨l, [.dead]⟩) = true) (hn : noHot e = true) (hl : l ≤ 1) (hc0 : 0 ≤ c ∧ c < 2147483647)
    (h : ∀ ρ' X', Le ((none :: List.replicate n none).set 1 (some (.ref 1))) ρ' → Ov [.dead, .dead] X' → Rb 1 s ⟨l, X'⟩ → wps (exs (run T k) ss ρ' ⟨l, X'⟩) D) : wps (exs (run T k) (.cons (.set (.v 1) e) ss) (some (.ref 0) :: List.replicate n none) ⟨l, [.lst (s.map .int)]⟩) D := by
  rw [s_cons]
  refine s_is hc hn (Le.refl _) (.cons (.inl rfl) .nil) (h _ _ ?_ (.cons (.inl rfl) (.cons (.inl rfl) .nil)) ⟨by decide, hl, rfl, 0, c, 0, ⟨by decide, hc0.1, hc0.2, by decide⟩, rfl⟩)
  exact (Le.cons (.inl rfl) (Le.refl _)).set 1 (.inr rfl)
theorem t_yes {j : Nat} (hc : okR l G0 (fun d => decide (d = .bl true)) j (ev (run T k) e ρ0 ⟨l, G0⟩) = true) (hn : noHot e = true) (he : Le ρ0 ρ) (ho : Ov G0 X) (h : ∀ ys : List Cell, D.rt (.bl true) ⟨l, X ++ ys⟩) : wps (exs (run T k) (.cons (.ret e) ss) ρ ⟨l, X⟩) D := by
  rw [s_cons]
  exact s_yes hc hn he ho h
end
end Cut
/-! Long calls whose answer is known are looked up while the rest is reckoned out. -/
namespace Cut
open PySem
def CLe (C C' : CallF) : Prop := ∀ f ds G, EqR (C f ds G) (C' f ds G)
def SqR (r r' : RS) : Prop := r = .stuck ∨ r' = r
theorem SqR.rfl {r : RS} : SqR r r := .inr (Eq.refl _)
theorem SqR.ofR {α : Type} {r r' : R α} {ρ : Env} {f f' : α → Store → RS} (h : EqR r r') (k : ∀ a G, SqR (f a G) (f' a G)) : SqR (RS.ofR r ρ f) (RS.ofR r' ρ f') := by
  rcases h with rfl | rfl
  · exact .inl (Eq.refl _)
  · cases r' with
    | ok a G => exact k a G
    | exc n fs G => exact .inr (Eq.refl _)
    | stuck => exact .inl (Eq.refl _)
section
theorem compGo_cle {t : Tg} {v : Itv} {c c' : Option ME} {e e' : ME} {n : Nat} {ρ : Env} (hc : (c = none ∧ c' = none) ∨ ∃ f f', c = some f ∧ c' = some f' ∧ ∀ ρ G, EqR (f ρ G) (f' ρ G)) (he : ∀ ρ G, EqR (e ρ G) (e' ρ G)) : ∀ (f i : Nat) (G : Store), EqR (compGo t v c e ρ n f i G) (compGo t v c' e' ρ n f i G)
  | 0, _, _ => .inl (Eq.refl _)
  | f + 1, i, G => by
    unfold compGo
    cases v.at i G with
    | none => exact .rfl
    | some o =>
      cases o with
      | none => exact .rfl
      | some d =>
        dsimp only
        cases e1 : t.bind d ρ with
        | none => exact .inl (Eq.refl _)
        | some ρ1 =>
          dsimp only
          refine EqR.bind ?_ fun b G1 => ?_
          · rcases hc with ⟨rfl, rfl⟩ | ⟨g, g', rfl, rfl, hg⟩
            · exact .rfl
            · exact EqR.bind (hg _ G) fun x G1 => .rfl
          · cases b with
            | true =>
              simp only [if_true]
              refine EqR.bind (he _ G1) fun x G2 => ?_
              cases G2.lst? n with
              | none => exact .rfl
              | some ys =>
                dsimp only
                split
                · exact compGo_cle hc he f (i + 1) _
                · exact .rfl
            | false =>
              simp only [Bool.false_eq_true, if_false]
              exact compGo_cle hc he f (i + 1) _
theorem genGo_cle {al : Bool} {t : Tg} {v : Itv} {e e' : ME} {ρ : Env} (he : ∀ ρ G, EqR (e ρ G) (e' ρ G)) : ∀ (f i : Nat) (G : Store), EqR (genGo al t v e ρ f i G) (genGo al t v e' ρ f i G)
  | 0, _, _ => .inl (Eq.refl _)
  | f + 1, i, G => by
    unfold genGo
    cases v.at i G with
    | none => exact .rfl
    | some o =>
      cases o with
      | none => exact .rfl
      | some d =>
        dsimp only
        cases e1 : t.bind d ρ with
        | none => exact .inl (Eq.refl _)
        | some ρ1 =>
          dsimp only
          refine EqR.bind (he _ G) fun x G1 => ?_
          cases x <;> try exact .rfl
          case bl b =>
            dsimp only
            split
            · exact genGo_cle he f (i + 1) G1
            · exact .rfl
variable {C C' : CallF}
theorem callV_cle (hC : CLe C C') (i : Nat) (ρ : Env) (G : Store) : EqR (mCallV C i ρ G) (mCallV C' i ρ G) := by
  unfold mCallV
  split
  · split
    · rename_i f ds _
      rcases hC f ds G.kill with h | h
      · rw [h]; exact .inl (Eq.refl _)
      · rw [h]; exact .rfl
    · exact .rfl
  · exact .rfl
mutual
theorem ev_cle (hC : CLe C C') : ∀ (e : Ex) (ρ : Env) (G : Store), EqR (ev C e ρ G) (ev C' e ρ G)
  | .k d, _, _ => .rfl
  | .v i, _, _ => .rfl
  | .dic0, _, _ => .rfl
  | .callV i, ρ, G => callV_cle hC i ρ G
  | .un o a, ρ, G => EqR.bind (ev_cle hC a ρ G) fun x G1 => .rfl
  | .bin o a b, ρ, G => EqR.bind (ev_cle hC a ρ G) fun x G1 => EqR.bind (ev_cle hC b ρ G1) fun y G2 => .rfl
  | .and a b, ρ, G => EqR.bind (ev_cle hC a ρ G) fun x G1 => by
    cases truthy x G1 with
    | none => exact .rfl
    | some z => cases z <;> first | exact .rfl | exact ev_cle hC b ρ G1
  | .or a b, ρ, G => EqR.bind (ev_cle hC a ρ G) fun x G1 => by
    cases truthy x G1 with
    | none => exact .rfl
    | some z => cases z <;> first | exact .rfl | exact ev_cle hC b ρ G1
  | .ite c a b, ρ, G => EqR.bind (ev_cle hC c ρ G) fun x G1 => by
    cases truthy x G1 with
    | none => exact .rfl
    | some z => cases z <;> first | exact ev_cle hC a ρ G1 | exact ev_cle hC b ρ G1
  | .chain o p a b c, ρ, G => EqR.bind (ev_cle hC a ρ G) fun x G1 => EqR.bind (ev_cle hC b ρ G1) fun y G2 => EqR.bind .rfl fun z G3 => by
    split
    · exact EqR.bind (ev_cle hC c ρ G3) fun w G4 => .rfl
    · exact .rfl
    · exact .rfl
  | .tup es, ρ, G => EqR.bind (evs_cle hC es ρ G) fun xs G1 => .rfl
  | .lst es, ρ, G => EqR.bind (evs_cle hC es ρ G) fun xs G1 => .rfl
  | .sl a lo hi, ρ, G => EqR.bind (ev_cle hC a ρ G) fun x G1 => EqR.bind (evo_cle hC lo ρ G1) fun l G2 => EqR.bind (evo_cle hC hi ρ G2) fun u G3 => .rfl
  | .rev a, ρ, G => EqR.bind (ev_cle hC a ρ G) fun x G1 => .rfl
  | .call f es, ρ, G => EqR.bind (evs_cle hC es ρ G) fun xs G1 => hC f xs G1
  | .callD f es ds, ρ, G => EqR.bind (evs_cle hC es ρ G) fun xs G1 => hC f _ G1
  | .bf f es, ρ, G => EqR.bind (evs_cle hC es ρ G) fun xs G1 => .rfl
  | .mt f o es, ρ, G => EqR.bind (ev_cle hC o ρ G) fun x G1 => by
    split
    · exact EqR.bind (evs_cle hC es ρ G1) fun xs G2 => .rfl
    · exact .rfl
  | .comp t it c e own, ρ, G => EqR.bind (evi_cle hC it ρ G) fun v G1 => EqR.bind (EqR.no (compGo_cle (evc_cle hC c) (ev_cle hC e) _ _ _)) fun _ G2 => .rfl
  | .gen al t it e own, ρ, G => EqR.bind (evi_cle hC it ρ G) fun v G1 => EqR.no (genGo_cle (ev_cle hC e) _ _ _)
  | .isE i k, ρ, G => by
    show EqR (if _ then _ else _) (if _ then _ else _)
    split <;> first | exact hC _ _ G | exact .rfl
  | .fldE i k, ρ, G => by
    show EqR (if _ then _ else _) (if _ then _ else _)
    split <;> first | exact hC _ _ G | exact .rfl
  | .rng1D t a, ρ, G => EqR.bind (ev_cle hC a ρ G) fun x G1 => .rfl
  | .rng2D t a b, ρ, G => EqR.bind (ev_cle hC a ρ G) fun x G1 => EqR.bind (ev_cle hC b ρ G1) fun y G2 => .rfl
theorem evs_cle (hC : CLe C C') : ∀ (es : Exs) (ρ : Env) (G : Store), EqR (evs C es ρ G) (evs C' es ρ G)
  | .nil, _, _ => .rfl
  | .cons e es, ρ, G => EqR.bind (ev_cle hC e ρ G) fun x G1 => EqR.bind (evs_cle hC es ρ G1) fun xs G2 => .rfl
theorem evo_cle (hC : CLe C C') : ∀ (e : Exo) (ρ : Env) (G : Store), EqR (evo C e ρ G) (evo C' e ρ G)
  | .none, _, _ => .rfl
  | .some e, ρ, G => EqR.bind (ev_cle hC e ρ G) fun x G1 => .rfl
theorem evc_cle (hC : CLe C C') : ∀ (c : Exo), (evc C c = none ∧ evc C' c = none) ∨ ∃ f f', evc C c = some f ∧ evc C' c = some f' ∧ ∀ ρ G, EqR (f ρ G) (f' ρ G)
  | .none => .inl ⟨Eq.refl _, Eq.refl _⟩
  | .some e => .inr ⟨_, _, Eq.refl _, Eq.refl _, ev_cle hC e⟩
theorem evi_cle (hC : CLe C C') : ∀ (it : It) (ρ : Env) (G : Store), EqR (evi C it ρ G) (evi C' it ρ G)
  | .one e, ρ, G => EqR.bind (ev_cle hC e ρ G) fun x G1 => .rfl
  | .enum e, ρ, G => EqR.bind (ev_cle hC e ρ G) fun x G1 => .rfl
  | .zip a b, ρ, G => EqR.bind (ev_cle hC a ρ G) fun x G1 => EqR.bind (ev_cle hC b ρ G1) fun y G2 => .rfl
  | .rng1 e, ρ, G => EqR.bind (ev_cle hC e ρ G) fun x G1 => .rfl
  | .rng2 a b, ρ, G => EqR.bind (ev_cle hC a ρ G) fun x G1 => EqR.bind (ev_cle hC b ρ G1) fun y G2 => .rfl
end
theorem whileGo_cle {c c' : ME} {a a' : MS} (hc : ∀ ρ G, EqR (c ρ G) (c' ρ G)) (ha : ∀ ρ G, SqR (a ρ G) (a' ρ G)) : ∀ (f : Nat) (ρ : Env) (G : Store), SqR (whileGo c a f ρ G) (whileGo c' a' f ρ G)
  | 0, _, _ => .inl (Eq.refl _)
  | f + 1, ρ, G => by
    unfold whileGo
    refine SqR.ofR (hc ρ G) fun x G1 => ?_
    cases truthy x G1 with
    | none => exact .rfl
    | some z =>
      cases z with
      | false => exact .rfl
      | true =>
        dsimp only
        rcases ha ρ G1 with h | h
        · rw [h]; exact .inl (Eq.refl _)
        · rw [h]
          cases a ρ G1 with
          | nx ρ2 G2 => exact whileGo_cle hc ha f ρ2 G2
          | ct ρ2 G2 => exact whileGo_cle hc ha f ρ2 G2
          | _ => exact .rfl
theorem forGo_cle {t : Tg} {v : Itv} {a a' : MS} (ha : ∀ ρ G, SqR (a ρ G) (a' ρ G)) : ∀ (f i : Nat) (ρ : Env) (G : Store), SqR (forGo t v a f i ρ G) (forGo t v a' f i ρ G)
  | 0, _, _, _ => .inl (Eq.refl _)
  | f + 1, i, ρ, G => by
    unfold forGo
    cases v.at i G with
    | none => exact .rfl
    | some o =>
      cases o with
      | none => exact .rfl
      | some d =>
        dsimp only
        cases t.bind d ρ with
        | none => exact .rfl
        | some ρ1 =>
          dsimp only
          rcases ha ρ1 G with h | h
          · rw [h]; exact .inl (Eq.refl _)
          · rw [h]
            cases a ρ1 G with
            | nx ρ2 G2 => exact forGo_cle ha f (i + 1) ρ2 G2
            | ct ρ2 G2 => exact forGo_cle ha f (i + 1) ρ2 G2
            | _ => exact .rfl
mutual
theorem ex_cle (hC : CLe C C') : ∀ (s : Sm) (ρ : Env) (G : Store), SqR (ex C s ρ G) (ex C' s ρ G)
  | .pass, _, _ => .rfl
  | .expr e, ρ, G => SqR.ofR (ev_cle hC e ρ G) fun _ _ => .rfl
  | .set t e, ρ, G => SqR.ofR (ev_cle hC e ρ G) fun _ _ => .rfl
  | .par is es, ρ, G => SqR.ofR (evs_cle hC es ρ G) fun _ _ => .rfl
  | .setIx a i e, ρ, G => SqR.ofR (ev_cle hC e ρ G) fun d G1 => SqR.ofR (ev_cle hC a ρ G1) fun o G2 => SqR.ofR (ev_cle hC i ρ G2) fun k G3 => .rfl
  | .setKey a i e, ρ, G => SqR.ofR (ev_cle hC e ρ G) fun d G1 => SqR.ofR (ev_cle hC a ρ G1) fun o G2 => SqR.ofR (ev_cle hC i ρ G2) fun k G3 => .rfl
  | .aug i o e, ρ, G => by
    show SqR (sAug i o (ev C e) ρ G) (sAug i o (ev C' e) ρ G)
    unfold sAug
    split
    · exact SqR.ofR (ev_cle hC e ρ G) fun y G1 => .rfl
    · exact .rfl
  | .augIx a i o e, ρ, G => SqR.ofR (ev_cle hC a ρ G) fun p G1 => SqR.ofR (ev_cle hC i ρ G1) fun k G2 => SqR.ofR .rfl fun x G3 => SqR.ofR (ev_cle hC e ρ G3) fun y G4 => .rfl
  | .ifs c a b, ρ, G => SqR.ofR (ev_cle hC c ρ G) fun x G1 => by
    cases truthy x G1 with
    | none => exact .rfl
    | some z => cases z <;> first | exact exs_cle hC a ρ G1 | exact exs_cle hC b ρ G1
  | .whil c a, ρ, G => whileGo_cle (ev_cle hC c) (exs_cle hC a) _ ρ G
  | .for_ t it a, ρ, G => SqR.ofR (evi_cle hC it ρ G) fun v G1 => forGo_cle (exs_cle hC a) _ _ ρ G1
  | .ret e, ρ, G => SqR.ofR (ev_cle hC e ρ G) fun _ _ => .rfl
  | .retN, _, _ => .rfl
  | .brk, _, _ => .rfl
  | .cnt, _, _ => .rfl
  | .raise k es, ρ, G => SqR.ofR (evs_cle hC es ρ G) fun _ _ => .rfl
  | .tryAs a k i hd, ρ, G => by
    show SqR (sTry (exs C a) k i _ ρ G) (sTry (exs C' a) k i _ ρ G)
    unfold sTry
    rcases exs_cle hC a ρ G with h | h
    · rw [h]; exact .inl (Eq.refl _)
    · rw [h]; exact .rfl
  | .lams ls, _, _ => .rfl
  | .never, _, _ => .rfl
theorem exs_cle (hC : CLe C C') : ∀ (ss : Sms) (ρ : Env) (G : Store), SqR (exs C ss ρ G) (exs C' ss ρ G)
  | .nil, _, _ => .rfl
  | .cons s ss, ρ, G => by
    show SqR (sSeq (ex C s) (exs C ss) ρ G) (sSeq (ex C' s) (exs C' ss) ρ G)
    unfold sSeq
    rcases ex_cle hC s ρ G with h | h
    · rw [h]; exact .inl (Eq.refl _)
    · rw [h]
      cases ex C s ρ G with
      | nx ρ1 G1 => exact exs_cle hC ss ρ1 G1
      | _ => exact .rfl
end
end
/-- run, some answers looked up -/
def runM (M : Nat → List D → Option D) (m : Nat) (T : List Fd) : Nat → CallF
  | 0, _, _, _ => .stuck
  | k + 1, f, ds, G => if m ≤ k + 1 ∧ G.lim ≤ G.cs.length then (match M f ds with
    | some d => .ok d G
    | none => (match T[f]? with
      | some fd => if ds.length = fd.ps then gc G (finish (exs (runM M m T k) fd.body (start fd.ns ds) G)) else .stuck
      | none => .stuck)) else (match T[f]? with
      | some fd => if ds.length = fd.ps then gc G (finish (exs (runM M m T k) fd.body (start fd.ns ds) G)) else .stuck
      | none => .stuck)
theorem runM_ok {M : Nat → List D → Option D} {m : Nat} {T : List Fd} (h : ∀ f ds d, M f ds = some d → ∀ k G, m ≤ k → G.lim ≤ G.cs.length → run T k f ds G = .ok d G) : ∀ k, CLe (runM M m T k) (run T k)
  | 0 => fun _ _ _ => .rfl
  | k + 1 => fun f ds G => by
    have plain : EqR (match T[f]? with
      | some fd => if ds.length = fd.ps then gc G (finish (exs (runM M m T k) fd.body (start fd.ns ds) G)) else .stuck
      | none => .stuck) (run T (k + 1) f ds G) := by
      unfold run
      cases T[f]? with
      | none => exact .rfl
      | some fd =>
        dsimp only
        split
        · rcases exs_cle (runM_ok h k) fd.body (start fd.ns ds) G with e | e
          · rw [e]; exact .inl (Eq.refl _)
          · rw [e]; exact .rfl
        · exact .rfl
    unfold runM
    split
    · rename_i hm
      cases e : M f ds with
      | none => exact plain
      | some d => exact .inr (h f ds d e (k + 1) G hm.1 hm.2)
    · exact plain
theorem ev_mem {M : Nat → List D → Option D} {m : Nat} {T : List Fd} (h : ∀ f ds d, M f ds = some d → ∀ k G, m ≤ k → G.lim ≤ G.cs.length → run T k f ds G = .ok d G) {k : Nat} {e : Ex} {ρ : Env} {G : Store} {p : R D → Bool} (hp : p .stuck = false) (hc : p (ev (runM M m T k) e ρ G) = true) : p (ev (run T k) e ρ G) = true := by
  rcases ev_cle (runM_ok h k) e ρ G with q | q
  · rw [q, hp] at hc; cases hc
  · rw [q]; exact hc
end Cut
/-! Closed statements. -/
namespace Cut
open PySem
def LqS (r r' : RS) : Prop := match r with
  | .stuck => True
  | .nx ρ G => ∃ ρ2, r' = .nx ρ2 G ∧ Le ρ ρ2
  | .ct ρ G => ∃ ρ2, r' = .ct ρ2 G ∧ Le ρ ρ2
  | .bk ρ G => ∃ ρ2, r' = .bk ρ2 G ∧ Le ρ ρ2
  | .rt d G => r' = .rt d G
  | .exc c fs ρ G => ∃ ρ2, r' = .exc c fs ρ2 G ∧ Le ρ ρ2
theorem LqS.ofR {α : Type} {r r' : R α} {ρ0 ρ : Env} {f f' : α → Store → RS} (hl : Le ρ0 ρ) (h : EqR r r') (k : ∀ a G, LqS (f a G) (f' a G)) : LqS (RS.ofR r ρ0 f) (RS.ofR r' ρ f') := by
  rcases h with rfl | rfl
  · trivial
  · cases r' with
    | ok a G => exact k a G
    | exc n fs G => exact ⟨_, rfl, hl⟩
    | stuck => trivial
mutual
def noHotS : Sm → Bool
  | .pass | .retN | .brk | .cnt => true
  | .expr e | .set _ e | .aug _ _ e | .ret e => noHot e
  | .par _ es | .raise _ es => noHots es
  | .setIx a i e | .setKey a i e | .augIx a i _ e => noHot a && (noHot i && noHot e)
  | .ifs c a b => noHot c && (noHotSs a && noHotSs b)
  | .whil c a => noHot c && noHotSs a
  | .for_ _ it a => noHotI it && noHotSs a
  | .tryAs _ _ _ _ | .lams _ | .never => false
def noHotSs : Sms → Bool
  | .nil => true
  | .cons s ss => noHotS s && noHotSs ss
end
section
variable {C : CallF}
theorem whileGo_le {c : ME} {a : MS} (hc : ∀ ρ0 ρ G, Le ρ0 ρ → EqR (c ρ0 G) (c ρ G)) (ha : ∀ ρ0 ρ G, Le ρ0 ρ → LqS (a ρ0 G) (a ρ G)) : ∀ (f : Nat) (ρ0 ρ : Env) (G : Store), Le ρ0 ρ → LqS (whileGo c a f ρ0 G) (whileGo c a f ρ G)
  | 0, _, _, _, _ => trivial
  | f + 1, ρ0, ρ, G, h => by
    unfold whileGo
    refine LqS.ofR h (hc ρ0 ρ G h) fun x G1 => ?_
    cases truthy x G1 with
    | none => trivial
    | some z =>
      cases z with
      | false => exact ⟨_, rfl, h⟩
      | true =>
        dsimp only
        have t := ha ρ0 ρ G1 h
        cases hr : a ρ0 G1 with
        | nx ρ2 G2 => rw [hr] at t; obtain ⟨ρ3, e, l⟩ := t; rw [e]; exact whileGo_le hc ha f ρ2 ρ3 G2 l
        | ct ρ2 G2 => rw [hr] at t; obtain ⟨ρ3, e, l⟩ := t; rw [e]; exact whileGo_le hc ha f ρ2 ρ3 G2 l
        | bk ρ2 G2 => rw [hr] at t; obtain ⟨ρ3, e, l⟩ := t; rw [e]; exact ⟨_, rfl, l⟩
        | rt d G2 => rw [hr] at t; have t : a ρ G1 = _ := t; rw [t]; exact rfl
        | exc c fs ρ2 G2 => rw [hr] at t; obtain ⟨ρ3, e, l⟩ := t; rw [e]; exact ⟨_, rfl, l⟩
        | stuck => trivial
theorem forGo_le {t : Tg} {v : Itv} {a : MS} (ha : ∀ ρ0 ρ G, Le ρ0 ρ → LqS (a ρ0 G) (a ρ G)) : ∀ (f i : Nat) (ρ0 ρ : Env) (G : Store), Le ρ0 ρ → LqS (forGo t v a f i ρ0 G) (forGo t v a f i ρ G)
  | 0, _, _, _, _, _ => trivial
  | f + 1, i, ρ0, ρ, G, h => by
    unfold forGo
    cases v.at i G with
    | none => trivial
    | some o =>
      cases o with
      | none => exact ⟨_, rfl, h⟩
      | some d =>
        dsimp only
        cases e1 : t.bind d ρ0 with
        | none => trivial
        | some ρ1 =>
          obtain ⟨ρ1', e1', h1⟩ := h.bind e1
          rw [e1']
          dsimp only
          have t' := ha ρ1 ρ1' G h1
          cases hr : a ρ1 G with
          | nx ρ2 G2 => rw [hr] at t'; obtain ⟨ρ3, e, l⟩ := t'; rw [e]; exact forGo_le ha f (i + 1) ρ2 ρ3 G2 l
          | ct ρ2 G2 => rw [hr] at t'; obtain ⟨ρ3, e, l⟩ := t'; rw [e]; exact forGo_le ha f (i + 1) ρ2 ρ3 G2 l
          | bk ρ2 G2 => rw [hr] at t'; obtain ⟨ρ3, e, l⟩ := t'; rw [e]; exact ⟨_, rfl, l⟩
          | rt d G2 => rw [hr] at t'; have t' : a ρ1' G = _ := t'; rw [t']; exact rfl
          | exc c fs ρ2 G2 => rw [hr] at t'; obtain ⟨ρ3, e, l⟩ := t'; rw [e]; exact ⟨_, rfl, l⟩
          | stuck => trivial
mutual
theorem ex_le : ∀ (s : Sm), noHotS s = true → ∀ (ρ0 ρ : Env) (G : Store), Le ρ0 ρ → LqS (ex C s ρ0 G) (ex C s ρ G)
  | .pass, _, _, _, _, h => ⟨_, rfl, h⟩
  | .expr e, hn, ρ0, ρ, G, h => LqS.ofR h (ev_le e hn ρ0 ρ G h) fun _ _ => ⟨_, rfl, h⟩
  | .set t e, hn, ρ0, ρ, G, h => LqS.ofR h (ev_le e hn ρ0 ρ G h) fun x G1 => by
    cases e1 : t.bind x ρ0 with
    | none => trivial
    | some ρ1 => obtain ⟨ρ2, e2, h2⟩ := h.bind e1; rw [e2]; exact ⟨_, rfl, h2⟩
  | .par is es, hn, ρ0, ρ, G, h => LqS.ofR h (evs_le es hn ρ0 ρ G h) fun x G1 => by
    cases e1 : bindN is x ρ0 with
    | none => trivial
    | some ρ1 => obtain ⟨ρ2, e2, h2⟩ := Le.bindN h e1; rw [e2]; exact ⟨_, rfl, h2⟩
  | .setIx a i e, hn, ρ0, ρ, G, h => by
    have hn := Bool.and_eq_true_iff.mp (show (noHot a && (noHot i && noHot e)) = true from hn)
    have hn2 := Bool.and_eq_true_iff.mp hn.2
    refine LqS.ofR h (ev_le e hn2.2 ρ0 ρ G h) fun d G1 => LqS.ofR h (ev_le a hn.1 ρ0 ρ G1 h) fun o G2 => LqS.ofR h (ev_le i hn2.1 ρ0 ρ G2 h) fun k G3 => ?_
    cases setAt o k d G3 with
    | none => trivial
    | some G4 => exact ⟨_, rfl, h⟩
  | .setKey a i e, hn, ρ0, ρ, G, h => by
    have hn := Bool.and_eq_true_iff.mp (show (noHot a && (noHot i && noHot e)) = true from hn)
    have hn2 := Bool.and_eq_true_iff.mp hn.2
    refine LqS.ofR h (ev_le e hn2.2 ρ0 ρ G h) fun d G1 => LqS.ofR h (ev_le a hn.1 ρ0 ρ G1 h) fun o G2 => LqS.ofR h (ev_le i hn2.1 ρ0 ρ G2 h) fun k G3 => ?_
    cases setKeyAt o k d G3 with
    | none => trivial
    | some G4 => exact ⟨_, rfl, h⟩
  | .aug i o e, hn, ρ0, ρ, G, h => by
    show LqS (sAug i o (ev C e) ρ0 G) (sAug i o (ev C e) ρ G)
    unfold sAug
    split
    · rename_i x e1
      rw [h.at e1]
      exact LqS.ofR h (ev_le e hn ρ0 ρ G h) fun y G1 => LqS.ofR h .rfl fun z G2 => ⟨_, rfl, h.set i (.inr rfl)⟩
    · trivial
  | .augIx a i o e, hn, ρ0, ρ, G, h => by
    have hn := Bool.and_eq_true_iff.mp (show (noHot a && (noHot i && noHot e)) = true from hn)
    have hn2 := Bool.and_eq_true_iff.mp hn.2
    refine LqS.ofR h (ev_le a hn.1 ρ0 ρ G h) fun p G1 => LqS.ofR h (ev_le i hn2.1 ρ0 ρ G1 h) fun k G2 => LqS.ofR h .rfl fun x G3 => LqS.ofR h (ev_le e hn2.2 ρ0 ρ G3 h) fun y G4 => LqS.ofR h .rfl fun z G5 => ?_
    cases setAt p k z G5 with
    | none => trivial
    | some G4 => exact ⟨_, rfl, h⟩
  | .ifs c a b, hn, ρ0, ρ, G, h => by
    have hn := Bool.and_eq_true_iff.mp (show (noHot c && (noHotSs a && noHotSs b)) = true from hn)
    have hn2 := Bool.and_eq_true_iff.mp hn.2
    refine LqS.ofR h (ev_le c hn.1 ρ0 ρ G h) fun x G1 => ?_
    cases truthy x G1 with
    | none => trivial
    | some z => cases z <;> first | exact exs_le a hn2.1 ρ0 ρ G1 h | exact exs_le b hn2.2 ρ0 ρ G1 h
  | .whil c a, hn, ρ0, ρ, G, h => by
    have hn := Bool.and_eq_true_iff.mp (show (noHot c && noHotSs a) = true from hn)
    exact whileGo_le (fun a b G h => ev_le c hn.1 a b G h) (fun x y G h => exs_le a hn.2 x y G h) _ ρ0 ρ G h
  | .for_ t it a, hn, ρ0, ρ, G, h => by
    have hn := Bool.and_eq_true_iff.mp (show (noHotI it && noHotSs a) = true from hn)
    exact LqS.ofR h (evi_le it hn.1 ρ0 ρ G h) fun v G1 => forGo_le (fun x y G h => exs_le a hn.2 x y G h) _ _ ρ0 ρ G1 h
  | .ret e, hn, ρ0, ρ, G, h => LqS.ofR h (ev_le e hn ρ0 ρ G h) fun _ _ => rfl
  | .retN, _, _, _, _, _ => rfl
  | .brk, _, _, _, _, h => ⟨_, rfl, h⟩
  | .cnt, _, _, _, _, h => ⟨_, rfl, h⟩
  | .raise k es, hn, ρ0, ρ, G, h => LqS.ofR h (evs_le es hn ρ0 ρ G h) fun _ _ => ⟨_, rfl, h⟩
theorem exs_le : ∀ (ss : Sms), noHotSs ss = true → ∀ (ρ0 ρ : Env) (G : Store), Le ρ0 ρ → LqS (exs C ss ρ0 G) (exs C ss ρ G)
  | .nil, _, _, _, _, h => ⟨_, rfl, h⟩
  | .cons s ss, hn, ρ0, ρ, G, h => by
    have hn := Bool.and_eq_true_iff.mp (show (noHotS s && noHotSs ss) = true from hn)
    show LqS (sSeq (ex C s) (exs C ss) ρ0 G) (sSeq (ex C s) (exs C ss) ρ G)
    unfold sSeq
    have t := ex_le s hn.1 ρ0 ρ G h
    cases hr : ex C s ρ0 G with
    | nx ρ2 G2 => rw [hr] at t; obtain ⟨ρ3, e, l⟩ := t; rw [e]; exact exs_le ss hn.2 ρ2 ρ3 G2 l
    | ct ρ2 G2 => rw [hr] at t; obtain ⟨ρ3, e, l⟩ := t; rw [e]; exact ⟨_, rfl, l⟩
    | bk ρ2 G2 => rw [hr] at t; obtain ⟨ρ3, e, l⟩ := t; rw [e]; exact ⟨_, rfl, l⟩
    | rt d G2 => rw [hr] at t; have t : ex C s ρ G = _ := t; rw [t]; exact rfl
    | exc c fs ρ2 G2 => rw [hr] at t; obtain ⟨ρ3, e, l⟩ := t; rw [e]; exact ⟨_, rfl, l⟩
    | stuck => trivial
end
end
/-- the statement runs through: the names, the store behind it -/
def stmB (T : List Fd) (k : Nat) (s : Sm) (ρ : Cut.Env) (l : Nat) (G0 : List Cell) (ρ1 : Cut.Env) (G' : List Cell) : Bool := noHotS s && (match ex (run T k) s ρ ⟨l, G0⟩ with
  | .nx ρ2 G => decide (ρ2 = ρ1) && (decide (G.lim = l) && (decide (G.cs.take G0.length = G0) && wkB G.cs G'))
  | _ => false)
theorem t_stm {T : List Fd} {k l : Nat} {st : Sm} {ρ0 ρ ρ1 : Env} {G0 G' X : List Cell} {D : Po} {ss : Sms} {s : List Int} (hc : stmB T k st ρ0 l G0 ρ1 G' = true) (he : Le ρ0 ρ) (ho : Ov G0 X) (rb : Rb 1 s ⟨l, X⟩) (h : ∀ ρ' X', Le ρ1 ρ' → Ov G' X' → Rb 1 s ⟨l, X'⟩ → wps (exs (run T k) ss ρ' ⟨l, X'⟩) D) : wps (exs (run T k) (.cons st ss) ρ ⟨l, X⟩) D := by
  have hc := Bool.and_eq_true_iff.mp (show (noHotS st && _) = true from hc)
  have h2 := hc.2
  have t := ex_th (m := G0.map deadB) (X := X) (run_th T k) st ρ0 ⟨l, G0⟩ (dm_of ho.len)
  have e := ex_le (C := run T k) st hc.1 ρ0 ρ ⟨l, X⟩ he
  have hX : (Store.ov ⟨l, G0⟩ (G0.map deadB) X) = ⟨l, X⟩ := by
    show ({ lim := _, cs := Cut.ovr _ _ _ } : Store) = _
    rw [ho.ovr]
  rw [hX] at t
  split at h2
  · rename_i ρ2 G hr
    rw [hr] at t
    obtain ⟨t1, t2⟩ := t
    simp only [Bool.and_eq_true, decide_eq_true_eq] at h2
    obtain ⟨rfl, h3, h4, h5⟩ := h2
    rw [t2] at e
    obtain ⟨ρ3, e1, e2⟩ := e
    obtain ⟨ys, e3, e4⟩ := ovr_over ho.ovr ho.len h4
    rw [s_cons, e1]
    have eG : (Store.ov G (G0.map deadB) X) = ⟨l, X ++ ys⟩ := by
      show ({ lim := _, cs := Cut.ovr _ _ _ } : Store) = _
      rw [e3, h3]
    rw [eG]
    have ov : Ov G.cs (X ++ ys) := by
      have : G.cs = G0 ++ ys := by rw [e4]; conv => lhs; rw [← List.take_append_drop G0.length G.cs, h4]
      rw [this]; exact ho.app (.refl _)
    exact h ρ3 _ e2 (ov.weak h5) (rb_app rb)
  · cases h2

/-! a draw within an expression -/
def Hole (c : Ex → Ex) : Prop := ∀ (C : CallF) (e : Ex) (ρ : Env) (G : Store) (P : D → Store → Prop), wp (ev C (c e) ρ G) P = wp (ev C e ρ G) fun x G1 => wp (ev C (c (.k x)) ρ G1) P
theorem Hole.here : Hole fun e => e := fun C e ρ G P => rfl
theorem Hole.binL {c : Ex → Ex} (h : Hole c) (o : Op2) (b : Ex) : Hole fun e => .bin o (c e) b := fun C e ρ G P => by
  simp only [w_bin]
  rw [h]
theorem Hole.binR {c : Ex → Ex} (h : Hole c) (o : Op2) (d : D) : Hole fun e => .bin o (.k d) (c e) := fun C e ρ G P => by
  simp only [w_bin, w_k]
  rw [h]
theorem Hole.call1 {c : Ex → Ex} (h : Hole c) (f : Nat) (es : Exs) : Hole fun e => .call f (.cons (c e) es) := fun C e ρ G P => by
  simp only [w_call, w_cons]
  rw [h]
theorem Hole.call2 {c : Ex → Ex} (h : Hole c) (f : Nat) (d : D) (es : Exs) : Hole fun e => .call f (.cons (.k d) (.cons (c e) es)) := fun C e ρ G P => by
  simp only [w_call, w_cons, w_k]
  rw [h]
theorem Hole.bf1 {c : Ex → Ex} (h : Hole c) (f : Bf) (es : Exs) : Hole fun e => .bf f (.cons (c e) es) := fun C e ρ G P => by
  simp only [w_bf, w_cons]
  rw [h]
section
variable {T : List Fd} {k l : Nat} {e : Ex} {ρ0 ρ : Env} {G0 G' X : List Cell}
theorem in_pick {ft fp r : Nat} {s : List Int} {Q : D → Store → Prop} (hT : T[ft]? = some takenFd) (hP : T[fp]? = some (pickFd ft)) (hk : ∃ k', k = k' + 2) (hr : ρ0[r]? = some (some (.ref 1))) (hc : pickB T k e ρ0 l G0 G' = true) (he : Le ρ0 ρ) (ho : Ov G0 X) (rb : Rb 1 s ⟨l, X⟩)
    (h : ∀ x ∈ lstC (ev (run T k) e ρ0 ⟨l, G0⟩), ∀ X', Ov G' X' → Rb 1 s ⟨l, X'⟩ → Q x ⟨l, X'⟩) : wp (ev (run T k) (.call fp (.cons (.v r) (.cons e .nil))) ρ ⟨l, X⟩) Q := by
  have hc := Bool.and_eq_true_iff.mp hc
  have h2 := Bool.and_eq_true_iff.mp hc.2
  have h3 := Bool.and_eq_true_iff.mp h2.2
  have h4 := Bool.and_eq_true_iff.mp h3.2
  have h5 := Bool.and_eq_true_iff.mp h4.2
  have hsm := h5.1
  simp only [Bool.and_eq_true, decide_eq_true_eq] at hsm
  obtain ⟨k, rfl⟩ := hk
  have hx := of_decide_eq_true h3.1
  have hd := of_decide_eq_true h4.1
  generalize newC G0.length (ev (run T (k + 2)) e ρ0 ⟨l, G0⟩) = new at hc hx hsm h5 ⊢
  have ho2 : Ov (G0 ++ new) (X ++ new) := ho.app (.refl new)
  rw [w_call, w_cons, w_v, he.at hr]
  show wp (evs (run T (k + 2)) (.cons e .nil) ρ ⟨l, X⟩) _
  rw [w_cons, ev_is hc.1 h2.1 he ho]
  generalize refC (ev (run T (k + 2)) e ρ0 ⟨l, G0⟩) = n at hx ⊢
  show wp (run T (k + 2) fp [.ref 1, .ref n] ⟨l, X ++ new⟩) _
  have hx2 : (⟨l, X ++ new⟩ : Store).lst? n = some (lstC (ev (run T (k + 2)) e ρ0 ⟨l, G0⟩)) := by
    unfold Store.lst?
    rw [show (⟨l, X ++ new⟩ : Store).cs[n]? = some (.lst _) from ho2.at hx (fun z => nomatch z)]
  have hd2 : (G0 ++ new)[1]? = some .dead := by rw [List.getElem?_append_left (List.getElem?_eq_some_iff.mp hd).1]; exact hd
  have hn1 : 1 ≠ n := fun z => by
    subst z
    rw [hx] at hd2; cases hd2
  refine pick' hT hP (rb_app rb) hx2 hn1 hsm.1 hsm.2.1 (by rw [← ho2.len]; exact hsm.2.2) fun x hx G' m => ?_
  obtain ⟨rb', a, b, c, ok, rfl⟩ := m
  exact h x hx _ ((ho2.set _ hd2).weak h5.2) rb'
theorem in_take {ft r : Nat} {m : Int} {s : List Int} {Q : D → Store → Prop} (hT : T[ft]? = some takenFd) (hk : ∃ k', k = k' + 1) (hr : ρ[r]? = some (some (.ref 1))) (hm : 0 < m ∧ m < 2 ^ 70) (hd : G0[1]? = some .dead) (ho : Ov G0 X) (rb : Rb 1 s ⟨l, X⟩)
    (h : ∀ v : Int, 0 ≤ v → v < m → ∀ X', Ov G0 X' → Rb 1 s ⟨l, X'⟩ → Q (.int v) ⟨l, X'⟩) : wp (ev (run T k) (.call ft (.cons (.v r) (.cons (.k (.int m)) .nil))) ρ ⟨l, X⟩) Q := by
  obtain ⟨k, rfl⟩ := hk
  rw [w_call, w_cons, w_v, hr]
  show wp (evs (run T (k + 1)) (.cons (.k (.int m)) .nil) ρ ⟨l, X⟩) _
  rw [w_cons, w_k, w_nil]
  refine taken' hT rb hm.1 hm.2 fun v G' h1 h2 mv => ?_
  obtain ⟨rb', a, b, c, ok, rfl⟩ := mv
  exact h v h1 h2 _ (ho.set _ hd) rb'
/-- if test(pick(..)): .. : the test fails whatever is picked -/
theorem t_noP {ft fp r : Nat} {s : List Int} {c : Ex → Ex} {a : Sms} {ss : Sms} {D : Po} {j : Nat} {G'' : List Cell} (hH : Hole c) (hT : T[ft]? = some takenFd) (hP : T[fp]? = some (pickFd ft)) (hk : ∃ k', k = k' + 2) (hr : ρ0[r]? = some (some (.ref 1))) (hc : pickB T k e ρ0 l G0 G' = true) (he : Le ρ0 ρ) (ho : Ov G0 X) (rb : Rb 1 s ⟨l, X⟩)
    (hn : ∀ x ∈ lstC (ev (run T k) e ρ0 ⟨l, G0⟩), noB T k (c (.k x)) l ρ0 G' j G'' = true) (h : ∀ X', Ov G'' X' → Rb 1 s ⟨l, X'⟩ → wps (exs (run T k) ss ρ ⟨l, X'⟩) D) : wps (exs (run T k) (.cons (.ifs (c (.call fp (.cons (.v r) (.cons e .nil)))) a .nil) ss) ρ ⟨l, X⟩) D := by
  rw [s_cons, s_ifs, hH]
  refine in_pick hT hP hk hr hc he ho rb fun x hx X' o' rb' => ?_
  have := s_noB (Dp := { D with nx := fun ρ1 G1 => wps (exs (run T k) ss ρ1 G1) D }) (a := a) (b := .nil) (hn x hx) he o' rb' fun X2 o2 rb2 => (by rw [s_nil]; exact h X2 o2 rb2)
  rw [s_ifs] at this
  exact this
/-- x = _law_taken(row, m) -/
theorem t_take {ft r i : Nat} {m : Int} {s : List Int} {ss : Sms} {D : Po} (hT : T[ft]? = some takenFd) (hk : ∃ k', k = k' + 1) (hr : ρ0[r]? = some (some (.ref 1))) (hm : 0 < m ∧ m < 2 ^ 70) (hd : G0[1]? = some .dead) (he : Le ρ0 ρ) (ho : Ov G0 X) (rb : Rb 1 s ⟨l, X⟩)
    (h : ∀ v : Int, 0 ≤ v → v < m → ∀ ρ' X', Le (ρ0.set i (some (.int v))) ρ' → Ov G0 X' → Rb 1 s ⟨l, X'⟩ → wps (exs (run T k) ss ρ' ⟨l, X'⟩) D) : wps (exs (run T k) (.cons (.set (.v i) (.call ft (.cons (.v r) (.cons (.k (.int m)) .nil)))) ss) ρ ⟨l, X⟩) D := by
  rw [s_cons, s_set]
  refine in_take hT hk (he.at hr) hm hd ho rb fun v h1 h2 X' o' rb' => ?_
  exact h v h1 h2 _ X' (he.set i (.inr rfl)) o' rb'
end
def leB : Env → Env → Bool
  | [], [] => true
  | a :: as, b :: bs => (a.isNone || decide (a = b)) && leB as bs
  | _, _ => false
theorem le_drop : ∀ {a b ρ : Env}, Le a ρ → leB b a = true → Le b ρ
  | _, [], _, .nil, _ => .nil
  | a :: _, b :: _, _, .cons h t, w => by
    have w := Bool.and_eq_true_iff.mp (show ((b.isNone || decide (b = a)) && leB _ _) = true from w)
    refine .cons ?_ (le_drop t w.2)
    rcases Bool.or_eq_true_iff.mp w.1 with z | z
    · left; cases b <;> first | rfl | cases z
    · rw [of_decide_eq_true z]; exact h
  | [], _ :: _, _, _, w => nomatch w
  | _ :: _, [], _, _, w => nomatch w
end Cut
/-! Reasoning about runs that may raise. -/
namespace Cut
open PySem
/-- what holds of a statement's end, E of an exception's -/
def wpx (r : RS) (D : Po) (E : Nat → List Cut.D → Env → Store → Prop) : Prop := match r with
  | .exc c fs ρ G => E c fs ρ G
  | r => wps r D
/-- .. of a value or an exception -/
def wx {α : Type} (r : R α) (P : α → Store → Prop) (E : Nat → List D → Store → Prop) : Prop := match r with
  | .ok a G => P a G
  | .exc c fs G => E c fs G
  | .stuck => False
section
variable {C : CallF} {ρ : Env} {G : Store} {D : Po} {E : Nat → List Cut.D → Env → Store → Prop}
theorem x_of {r : RS} (h : wps r D) : wpx r D E := by
  cases r <;> first | exact h | exact h.elim
theorem x_nil : wpx (exs C .nil ρ G) D E = D.nx ρ G := propext Iff.rfl
theorem x_cons {s : Sm} {ss : Sms} : wpx (exs C (.cons s ss) ρ G) D E = wpx (ex C s ρ G) { D with nx := fun ρ1 G1 => wpx (exs C ss ρ1 G1) D E } E := by
  show wpx (sSeq (ex C s) (exs C ss) ρ G) D E = _
  unfold sSeq
  cases h : ex C s ρ G <;> rfl
theorem x_ofR {α : Type} {r : R α} {f : α → Store → RS} : wpx (RS.ofR r ρ f) D E = wx r (fun a G1 => wpx (f a G1) D E) fun c fs G1 => E c fs ρ G1 := by cases r <;> rfl
theorem x_expr {e : Ex} : wpx (ex C (.expr e) ρ G) D E = wx (ev C e ρ G) (fun _ G1 => D.nx ρ G1) fun c fs G1 => E c fs ρ G1 := by
  show wpx (sExpr (ev C e) ρ G) D E = _
  unfold sExpr; rw [x_ofR]; rfl
theorem x_set {i : Nat} {e : Ex} : wpx (ex C (.set (.v i) e) ρ G) D E = wx (ev C e ρ G) (fun x G1 => D.nx (ρ.set i (some x)) G1) fun c fs G1 => E c fs ρ G1 := by
  show wpx (sSet (.v i) (ev C e) ρ G) D E = _
  unfold sSet; rw [x_ofR]; rfl
theorem x_ret {e : Ex} : wpx (ex C (.ret e) ρ G) D E = wx (ev C e ρ G) D.rt fun c fs G1 => E c fs ρ G1 := by
  show wpx (sRet (ev C e) ρ G) D E = _
  unfold sRet; rw [x_ofR]; rfl
theorem x_raise {k : Nat} {es : Exs} : wpx (ex C (.raise k es) ρ G) D E = wx (evs C es ρ G) (fun ds G1 => E k ds ρ G1) fun c fs G1 => E c fs ρ G1 := by
  show wpx (sRaise k (evs C es) ρ G) D E = _
  unfold sRaise; rw [x_ofR]; rfl
theorem x_ifs {c : Ex} {a b : Sms} : wpx (ex C (.ifs c a b) ρ G) D E = wx (ev C c ρ G) (fun x G1 => tb (truthy x G1) (wpx (exs C a ρ G1) D E) (wpx (exs C b ρ G1) D E)) fun c fs G1 => E c fs ρ G1 := by
  show wpx (sIf (ev C c) (exs C a) (exs C b) ρ G) D E = _
  unfold sIf; rw [x_ofR]; congr; funext x G1; rcases truthy x G1 with _ | (_ | _) <;> rfl
section
variable {α β : Type} {P : α → Store → Prop} {X : Nat → List Cut.D → Store → Prop}
theorem wx_of {r : R α} (h : wp r P) : wx r P X := by cases r <;> first | exact h | exact h.elim
theorem wx_bind {r : R α} {f : α → Store → R β} {P : β → Store → Prop} : wx (r.bind f) P X = wx r (fun a G => wx (f a G) P X) X := by cases r <;> rfl
theorem wx_call {n : Nat} {es : Exs} {P : Cut.D → Store → Prop} : wx (ev C (.call n es) ρ G) P X = wx (evs C es ρ G) (fun xs G1 => wx (C n xs G1) P X) X := by
  show wx (mArgs (C n) (evs C es) ρ G) P X = _
  unfold mArgs; rw [wx_bind]
theorem wx_callD {n : Nat} {es : Exs} {ds : List Int} {P : Cut.D → Store → Prop} : wx (ev C (.callD n es ds) ρ G) P X = wx (evs C es ρ G) (fun xs G1 => wx (C n (xs ++ ds.map .int) G1) P X) X := by
  show wx (mArgs _ (evs C es) ρ G) P X = _
  unfold mArgs; rw [wx_bind]
theorem wx_callV {i : Nat} {P : Cut.D → Store → Prop} : wx (ev C (.callV i) ρ G) P X = wx (mCallV C i ρ G) P X := propext Iff.rfl
theorem wx_imp {r : R α} {P' : α → Store → Prop} {X' : Nat → List Cut.D → Store → Prop} (h : wx r P X) (k : ∀ a G, P a G → P' a G) (k' : ∀ c fs G, X c fs G → X' c fs G) : wx r P' X' := by
  cases r with
  | ok a G => exact k a G h
  | exc c fs G => exact k' c fs G h
  | stuck => exact h
end
/-- try: the body's ways -/
theorem x_try {a : Sms} {k : Option Nat} {i : Nat} {h : Sms} : wps (ex C (.tryAs a k i h) ρ G) D = wpx (exs C a ρ G) D fun c fs ρ1 G1 => (k = none ∨ k = some c) ∧ wps (exs (hC c fs) h (ρ1.set i none) G1) { nx := fun ρ2 G2 => D.nx (ρ2.set i none) G2, rt := D.rt, bk := fun _ _ => False, ct := fun _ _ => False } := by
  show wps (sTry (exs C a) k i (fun c fs => exs (hC c fs) h) ρ G) D = _
  unfold sTry
  cases exs C a ρ G with
  | exc c fs ρ1 G1 =>
    show wps (if k = none ∨ k = some c then _ else _) D = (_ ∧ _)
    by_cases hk : k = none ∨ k = some c
    · rw [if_pos hk]
      simp only [hk, true_and]
      cases exs (hC c fs) h (ρ1.set i none) G1 <;> rfl
    · rw [if_neg hk]
      simp only [hk, false_and]; rfl
  | _ => rfl
theorem w_isE {i k c : Nat} {fs : List Cut.D} {P : Cut.D → Store → Prop} (h : ρ[i]? = some none) : wp (ev (hC c fs) (.isE i k) ρ G) P = P (.bl (decide (c = k))) G := by
  show wp (if ρ[i]? = some none then _ else _) P = _
  rw [if_pos h]
  have : (decide ((c : Int) = (k : Int))) = decide (c = k) := decide_eq_decide.mpr (by omega)
  show P (.bl (decide ((c : Int) = (k : Int)))) G = _
  rw [this]
theorem w_fldE {i m c : Nat} {d : Cut.D} {P : Cut.D → Store → Prop} (h : ρ[i]? = some none) (hm : c / 100 = m) : wp (ev (hC c [d]) (.fldE i m) ρ G) P = P d G := by
  show wp (if ρ[i]? = some none then _ else _) P = _
  rw [if_pos h]
  show wp (if ((c / 100 : Nat) : Int) = (m : Int) then _ else _) P = _
  rw [if_pos (by omega)]; rfl
end
section
variable {T : List Fd} {f k : Nat} {ds : List D} {G : Store} {fd : Fd}
theorem run_wx {P : D → Store → Prop} {X : Nat → List D → Store → Prop} (h : T[f]? = some fd) (hl : ds.length = fd.ps) (hb : wpx (exs (run T k) fd.body (start fd.ns ds) G) ⟨fun _ G' => wx (gc G (.ok .non G')) P X, fun d G' => wx (gc G (.ok d G')) P X, fun _ _ => False, fun _ _ => False⟩ fun c fs _ G' => wx (gc G (.exc c fs G')) P X) : wx (run T (k + 1) f ds G) P X := by
  unfold run
  rw [h]
  simp only [if_pos hl]
  cases hx : exs (run T k) fd.body (start fd.ns ds) G <;> rw [hx] at hb <;> first | exact hb | exact hb.elim
theorem gc_exc {G G' : Store} {c : Nat} {fs : List D} (g : Grown G G') (h : belows G.cs.length fs = true) : gc G (.exc c fs G') = .exc c fs G := by
  have e : gcOk G.cs.length G.cs G'.cs = true := by
    obtain ⟨_, xs, e⟩ := g
    rw [e]; exact gcOk_self _ _ _
  have t := take_grown g
  have hl : G'.lim = G.lim := g.lim
  simp only [gc, e, h, Bool.and_true]
  rw [if_pos (decide_eq_true hl), t]
theorem exc_of {c : Nat} {fs : List D} {G' : Store} {α : Type} {r : R α} (h : wx r (fun _ _ => False) fun c' fs' G1 => c' = c ∧ fs' = fs ∧ G1 = G') : r = .exc c fs G' := by
  cases r with
  | ok a G => exact h.elim
  | exc c' fs' G1 => obtain ⟨rfl, rfl, rfl⟩ := h; rfl
  | stuck => exact h.elim
theorem ok_of {α : Type} {a : α} {r : R α} {G' : Store} (h : wx r (fun a' G1 => a' = a ∧ G1 = G') fun _ _ _ => False) : r = .ok a G' := by
  cases r with
  | ok a G => obtain ⟨rfl, rfl⟩ := h; rfl
  | exc c' fs' G1 => exact h.elim
  | stuck => exact h.elim
theorem rev_kill : G.rev G.kill = G := by
  have : ∀ l : List Cell, revL l (l.map Cell.kill) = l := by
    intro l
    induction l with
    | nil => rfl
    | cons c l ih => cases c <;> (show _ :: revL l (l.map Cell.kill) = _; rw [ih]; try rfl)
  unfold Store.rev Store.kill
  rw [this]
/-- a lambda called where its answer is known -/
theorem callV_exc {C : CallF} {i n f c : Nat} {ρ : Env} {fs : List D} (hi : ρ[i]? = some (some (.ref n))) (hc : G.cs[n]? = some (.clo f ds)) (hr : C f ds G.kill = .exc c fs G.kill) : mCallV C i ρ G = .exc c fs G := by
  unfold mCallV
  rw [hi]
  simp only [hc, hr, revR]
  rw [if_pos (show G.kill.lim = G.lim from rfl), rev_kill]
theorem callV_ok {C : CallF} {i n f : Nat} {ρ : Env} {d : D} (hi : ρ[i]? = some (some (.ref n))) (hc : G.cs[n]? = some (.clo f ds)) (hr : C f ds G.kill = .ok d G.kill) : mCallV C i ρ G = .ok d G := by
  unfold mCallV
  rw [hi]
  simp only [hc, hr, revR]
  rw [if_pos (show G.kill.lim = G.lim from rfl), rev_kill]
end
end Cut
/-! How a law tells that a call is refused. -/
namespace Cut
open PySem
def appS : List Nat → Sms → Sms
  | [], r => r
  | k :: ks, r => .cons (.expr (.mt .append (.v 3) (.cons (.isE 2 k) .nil))) (appS ks r)
def strE : List (List Nat) → Exs
  | [] => .nil
  | s :: ss => .cons (.k (.str s)) (strE ss)
def wordS : Sm := .set (.v 1) (.ite (.bin .eq (.mt .countL (.v 3) (.cons (.k (.bl true)) .nil)) (.k (.int 1))) (.bin .ix (.v 4) (.mt .indexL (.v 3) (.cons (.k (.bl true)) .nil))) (.k (.str [111, 116, 104, 101, 114])))
def handS (ks : List Nat) (names : List (List Nat)) (post : Sms) : Sms := .cons (.set (.v 3) (.lst .nil)) (appS ks (.cons (.set (.v 4) (.lst (strE names))) (.cons wordS post)))
def refusedFd (ks : List Nat) (names : List (List Nat)) (post : Sms) : Fd := ⟨1, 5, .cons (.set (.v 1) (.k .non)) (.cons (.tryAs (.cons (.expr (.callV 0)) .nil) none 2 (handS ks names post)) (.cons (.ret (.v 1)) .nil))⟩
section
variable {T : List Fd} {G : Store}
theorem strE_ok {C : CallF} {ρ : Env} : ∀ {ss : List (List Nat)} {G : Store} {P : List D → Store → Prop}, wp (evs C (strE ss) ρ G) P = P (ss.map .str) G
  | [], _, _ => rfl
  | s :: ss, G, P => by
    show wp (evs C (.cons (.k (.str s)) (strE ss)) ρ G) P = _
    rw [w_cons, w_k, strE_ok]; rfl
theorem app_ok {c : Nat} {fs : List D} {ρ : Env} {B : Store} {r : Sms} {Dp : Po} (h2 : ρ[2]? = some none) (h3 : ρ[3]? = some (some (.ref B.cs.length))) (hl : B.lim ≤ B.cs.length) : ∀ {ks : List Nat} {xs : List D}, xs.length + ks.length ≤ 1000 →
    wps (exs (hC c fs) r ρ (B.new (.lst (xs ++ ks.map fun k => .bl (decide (c = k)))))) Dp → wps (exs (hC c fs) (appS ks r) ρ (B.new (.lst xs))) Dp
  | [], xs, _, h => by
    rw [List.map_nil, List.append_nil] at h
    exact h
  | k :: ks, xs, hn, h => by
    show wps (exs (hC c fs) (.cons (.expr (.mt .append (.v 3) (.cons (.isE 2 k) .nil))) (appS ks r)) ρ (B.new (.lst xs))) Dp
    have hn : xs.length + (ks.length + 1) ≤ 1000 := hn
    rw [s_cons, s_expr, w_mt, w_v, h3]
    have hL : (B.new (.lst xs)).lst? B.cs.length = some xs := lst_new
    refine ⟨by show ((B.new (.lst xs)).lst? B.cs.length).isSome = true; rw [hL]; rfl, ?_⟩
    rw [w_cons, w_isE h2, w_nil]
    show wp (appendD (.ref B.cs.length) (.bl (decide (c = k))) (B.new (.lst xs))) _
    unfold appendD
    simp only [hL]
    rw [if_pos ⟨hl, Nat.lt_of_le_of_lt (show xs.length ≤ 1000 by omega) (by decide)⟩]
    show wps (exs (hC c fs) (appS ks r) ρ ((B.new (.lst xs)).put B.cs.length _)) Dp
    have hp : (B.new (.lst xs)).put B.cs.length (.lst (xs ++ [.bl (decide (c = k))])) = B.new (.lst (xs ++ [.bl (decide (c = k))])) := by
      unfold Store.put Store.new
      rw [List.set_append_right _ _ (Nat.le_refl _), Nat.sub_self]; rfl
    rw [hp]
    refine app_ok h2 h3 hl (by rw [List.length_append, List.length_singleton]; omega) ?_
    rw [List.append_assoc]
    exact h
theorem flats_bl (c : Nat) (ks : List Nat) : (ks.map fun k => D.bl (decide (c = k))).all flatD = true := by
  rw [List.all_map]; exact List.all_eq_true.mpr fun _ _ => rfl
theorem eqF_bl (a : Bool) : eqF (.bl a) (.bl true) = a := by cases a <;> rfl
theorem count_one {c : Nat} : ∀ {ks : List Nat} {j : Nat}, ks.Nodup → ks[j]? = some c → ((ks.map fun k => D.bl (decide (c = k))).filter fun z => eqF z (.bl true)).length = 1 ∧ (ks.map fun k => D.bl (decide (c = k))).findIdx? (fun z => eqF z (.bl true)) = some j
  | [], j, _, h => by simp at h
  | k :: ks, 0, nd, h => by
    have h : k = c := by simpa using h
    subst h
    have hnot : ∀ (l : List Nat), k ∉ l → ((l.map fun x => D.bl (decide (k = x))).filter fun z => eqF z (.bl true)) = [] := by
      intro l
      induction l with
      | nil => intro _; rfl
      | cons x l ih =>
        intro hx
        rw [List.mem_cons, not_or] at hx
        rw [List.map_cons, List.filter_cons, eqF_bl, decide_eq_false hx.1, ih hx.2]; rfl
    rw [List.map_cons, List.filter_cons, eqF_bl, decide_eq_true rfl, hnot ks (List.nodup_cons.mp nd).1, List.findIdx?_cons, eqF_bl]
    exact ⟨rfl, rfl⟩
  | k :: ks, j + 1, nd, h => by
    have h : ks[j]? = some c := by simpa using h
    have hne : c ≠ k := fun z => (List.nodup_cons.mp nd).1 (z ▸ List.mem_of_getElem? h)
    obtain ⟨h1, h2⟩ := count_one (List.nodup_cons.mp nd).2 h
    rw [List.map_cons, List.filter_cons, eqF_bl, decide_eq_false hne, List.findIdx?_cons, eqF_bl, h2]
    exact ⟨h1, rfl⟩
/-- the handler's way: the word is told -/
theorem hand_ok {c : Nat} {fs : List D} {ρ : Env} {B : Store} {ks : List Nat} {names : List (List Nat)} {post : Sms} {Dp : Po} {j : Nat} {w : List Nat} (h2 : ρ[2]? = some none) (hρ : ρ.length = 5) (hl : B.lim ≤ B.cs.length) (hk : ks.length ≤ 100) (hn : names.length ≤ 100) (nd : ks.Nodup) (hj : ks[j]? = some c) (hw : names[j]? = some w)
    (h : ∀ ρ', ρ'.length = 5 → ρ'[2]? = some none → ρ'[1]? = some (some (.str w)) → ∀ G', Grown B G' → wps (exs (hC c fs) post ρ' G') Dp) : wps (exs (hC c fs) (handS ks names post) ρ B) Dp := by
  unfold handS
  rw [s_cons, s_set, w_lst, w_nil]
  refine ⟨Nat.zero_le _, ?_⟩
  show wps (exs (hC c fs) (appS ks _) (ρ.set 3 (some (.ref B.cs.length))) (B.new (.lst []))) Dp
  have g2 : (ρ.set 3 (some (.ref B.cs.length)))[2]? = some none := by rw [List.getElem?_set_ne (by decide)]; exact h2
  have g3 : (ρ.set 3 (some (.ref B.cs.length)))[3]? = some (some (.ref B.cs.length)) := List.getElem?_set_self (by omega)
  refine app_ok g2 g3 hl (by simpa using Nat.le_trans hk (by decide)) ?_
  rw [List.nil_append, s_cons, s_set, w_lst, strE_ok]
  refine ⟨Nat.le_trans (show (names.map D.str).length ≤ 100 by rw [List.length_map]; exact hn) (by decide), ?_⟩
  generalize hA : B.new (.lst (ks.map fun k => D.bl (decide (c = k)))) = A
  have gA : Grown B A := by rw [← hA]; exact (Grown.refl B).new _
  have lA : A.lst? B.cs.length = some (ks.map fun k => D.bl (decide (c = k))) := by rw [← hA]; exact lst_new
  have lenA : A.cs.length = B.cs.length + 1 := by rw [← hA]; exact len_new
  show wps (exs (hC c fs) (.cons wordS post) ((ρ.set 3 (some (.ref B.cs.length))).set 4 (some (.ref A.cs.length))) (A.new (.lst (names.map D.str)))) Dp
  have l1 : (A.new (.lst (names.map D.str))).lst? B.cs.length = some (ks.map fun k => D.bl (decide (c = k))) := lst_new_old lA
  have l2 : (A.new (.lst (names.map D.str))).lst? A.cs.length = some (names.map D.str) := lst_new
  have gG : Grown B (A.new (.lst (names.map D.str))) := gA.new _
  generalize A.new (.lst (names.map D.str)) = G2 at l1 l2 gG ⊢
  generalize hρ2 : (ρ.set 3 (some (.ref B.cs.length))).set 4 (some (.ref A.cs.length)) = ρ2
  have p3 : ρ2[3]? = some (some (.ref B.cs.length)) := by rw [← hρ2, List.getElem?_set_ne (by decide)]; exact g3
  have p4 : ρ2[4]? = some (some (.ref A.cs.length)) := by rw [← hρ2]; exact List.getElem?_set_self (by rw [List.length_set]; omega)
  have p2 : ρ2[2]? = some none := by rw [← hρ2, List.getElem?_set_ne (by decide)]; exact g2
  have pl : ρ2.length = 5 := by rw [← hρ2, List.length_set, List.length_set]; exact hρ
  obtain ⟨c1, c2⟩ := count_one nd hj
  have fl := flats_bl c ks
  rw [s_cons]
  unfold wordS
  rw [s_set, w_ite, w_bin, w_mt, w_v, p3]
  refine ⟨by show (G2.lst? B.cs.length).isSome = true; rw [l1]; rfl, ?_⟩
  rw [w_cons, w_k, w_nil]
  show wp (countLD (.ref B.cs.length) (.bl true) G2) _
  unfold countLD
  simp only [l1, fl, show flatD (.bl true) = true from rfl, Bool.and_self, if_true, c1]
  rw [wp_ok, w_k]
  show wp (op2 .eq (.int 1) (.int 1) G2) _
  refine wp_of_eq (show op2 .eq (.int 1) (.int 1) G2 = .ok (.bl true) G2 from rfl) ?_
  show tb (some true) _ _
  rw [tb_true, w_bin, w_v, p4]
  show wp (ev (hC c fs) (.mt .indexL (.v 3) _) ρ2 G2) _
  rw [w_mt, w_v, p3]
  refine ⟨by show (G2.lst? B.cs.length).isSome = true; rw [l1]; rfl, ?_⟩
  rw [w_cons, w_k, w_nil]
  show wp (indexLD (.ref B.cs.length) (.bl true) G2) _
  unfold indexLD
  simp only [l1, fl, show flatD (.bl true) = true from rfl, Bool.and_self, if_true, c2, Option.map_some]
  show wp (op2 .ix (.ref A.cs.length) (.int (j : Int)) G2) _
  have hx : ixAt (names.map D.str) (j : Int) = some (.str w) := ixAt_nat (by rw [List.getElem?_map, hw]; rfl)
  refine wp_of_eq (show op2 .ix (.ref A.cs.length) (.int (j : Int)) G2 = .ok (.str w) G2 from ?_) ?_
  · unfold op2
    simp only [l2, hx]; rfl
  · exact h _ (by rw [List.length_set]; exact pl) (by rw [List.getElem?_set_ne (by decide)]; exact p2) (List.getElem?_set_self (by omega)) _ gG
/-- nothing is raised -/
theorem refused_ok {fr k n f : Nat} {ks : List Nat} {names : List (List Nat)} {post : Sms} {ds : List D} {d : D} (hT : T[fr]? = some (refusedFd ks names post)) (hc : G.cs[n]? = some (.clo f ds)) (hr : run T k f ds G.kill = .ok d G.kill) : run T (k + 1) fr [.ref n] G = .ok .non G := by
  refine eq_of_wp (run_wp hT rfl ?_)
  show wps (exs (run T k) (.cons (.set (.v 1) (.k .non)) _) [some (.ref n), none, none, none, none] G) _
  rw [s_cons, s_set, w_k]
  show wps (exs (run T k) (.cons (.tryAs _ none 2 _) _) [some (.ref n), some .non, none, none, none] G) _
  rw [s_cons, x_try, x_cons, x_expr, wx_callV, callV_ok rfl hc hr]
  dsimp only [wx]
  rw [x_nil]
  dsimp only
  rw [s_cons, s_ret, w_v]
  show wp (gc G (.ok .non G)) _
  rw [gc_id rfl]; exact ⟨rfl, rfl⟩
/-- an exception is raised: its word -/
theorem refused_exc {fr k n f c j : Nat} {ks : List Nat} {names : List (List Nat)} {ds fs : List D} {w : List Nat} (hT : T[fr]? = some (refusedFd ks names .nil)) (hc : G.cs[n]? = some (.clo f ds)) (hr : run T k f ds G.kill = .exc c fs G.kill) (hl : G.lim ≤ G.cs.length) (hk : ks.length ≤ 100) (hn : names.length ≤ 100) (nd : ks.Nodup) (hj : ks[j]? = some c) (hw : names[j]? = some w) : run T (k + 1) fr [.ref n] G = .ok (.str w) G := by
  refine eq_of_wp (run_wp hT rfl ?_)
  show wps (exs (run T k) (.cons (.set (.v 1) (.k .non)) _) [some (.ref n), none, none, none, none] G) _
  rw [s_cons, s_set, w_k]
  show wps (exs (run T k) (.cons (.tryAs _ none 2 _) _) [some (.ref n), some .non, none, none, none] G) _
  rw [s_cons, x_try, x_cons, x_expr, wx_callV, callV_exc rfl hc hr]
  dsimp only [wx]
  refine ⟨.inl rfl, ?_⟩
  refine hand_ok rfl rfl hl hk hn nd hj hw fun ρ' r5 r2 r1 G' g => ?_
  rw [s_nil]
  show wps (exs (run T k) (.cons (.ret (.v 1)) .nil) (ρ'.set 2 none) G') _
  rw [s_cons, s_ret, w_v, List.getElem?_set_ne (by decide), r1]
  show wp (gc G (.ok (.str w) G')) _
  rw [gc_grown g rfl]; exact ⟨rfl, rfl⟩
end
end Cut
/-! More operations, one by one. -/
namespace Cut
open PySem
section
variable {G : Store} {P : D → Store → Prop}
theorem o_xor {a b : Nat} : wp (op2 .xor (.int a) (.int b) G) P = P (.int ((a ^^^ b : Nat) : Int)) G := by
  have e : Spec.bitXor (a : Int) (b : Int) = ((a ^^^ b : Nat) : Int) := by
    have h := Bits.bitXor_pp (x := (a : Int)) (y := (b : Int)) (by omega) (by omega)
    rw [Int.toNat_natCast, Int.toNat_natCast] at h
    exact h
  show P (.int (Spec.bitXor (a : Int) (b : Int))) G = _
  rw [e]
theorem intsD_map : ∀ ns : List Int, intsD (ns.map D.int) = some ns
  | [] => rfl
  | n :: ns => by
    show (intsD (ns.map D.int)).map (n :: ·) = _
    rw [intsD_map ns]; rfl
theorem o_anyT {ns : List Int} : wp (bf .any [.tup (ns.map .int)] G) P = P (.bl (ns.any fun i => i != 0)) G := by
  show wp (match intsD (ns.map D.int) with | some ns => R.ok (D.bl (ns.any fun i => i != 0)) G | none => .stuck) P = _
  rw [intsD_map]; rfl
theorem pyWs_ints (r : Nat → Option PyData) : ∀ ns : List Int, pyWs r (ns.map D.int) = some (ns.map PyData.int)
  | [] => rfl
  | n :: ns => by
    show (match some (PyData.int n), pyWs r (ns.map D.int) with | some d, some ds => some (d :: ds) | _, _ => none) = _
    rw [pyWs_ints r ns]; rfl
theorem shaped_ints (ns : List Int) : SeqAt.shaped (.tuple (ns.map PyData.int)) = true := by
  have h1 : ∀ ns : List Int, PyData.canLayAll0 (ns.map PyData.int) = true := fun ns => by
    induction ns with
    | nil => rfl
    | cons n ns ih => show (true && PyData.canLayAll0 (ns.map PyData.int)) = true; rw [ih]; rfl
  have h2 : ∀ ns : List Int, PyData.depthAll (ns.map PyData.int) = 0 := fun ns => by
    induction ns with
    | nil => rfl
    | cons n ns ih => show max 0 (PyData.depthAll (ns.map PyData.int)) = 0; rw [ih]; rfl
  have e1 : PyData.canLay0 (.tuple (ns.map PyData.int)) = true := by
    show PyData.canLayAll0 (ns.map PyData.int) = true
    exact h1 ns
  have e2 : PyData.depth (.tuple (ns.map PyData.int)) = 1 := by
    show PyData.depthAll (ns.map PyData.int) + 1 = 1
    rw [h2 ns]
  unfold SeqAt.shaped
  rw [e1, e2]; rfl
theorem eqv_ints : ∀ xs ys : List Int, PyData.eqvAll (xs.map PyData.int) (ys.map PyData.int) = decide (xs = ys)
  | [], [] => rfl
  | [], _ :: _ => rfl
  | _ :: _, [] => rfl
  | x :: xs, y :: ys => by
    have e : PyData.eqv (.int x) (.int y) = decide (x = y) := by
      by_cases h : x = y <;> simp [PyData.eqv, h]
    simp only [List.map_cons, PyData.eqvAll, e, eqv_ints xs ys, List.cons.injEq]
    by_cases h1 : x = y <;> by_cases h2 : xs = ys <;> simp [h1, h2]
theorem eqD_ints {xs ys : List Int} : eqD G (.tup (xs.map .int)) (.tup (ys.map .int)) = some (decide (xs = ys)) := by
  have e : ∀ zs : List Int, pyD 8 G (.tup (zs.map D.int)) = some (.tuple (zs.map PyData.int)) := fun zs => by
    show (pyWs _ (zs.map D.int)).map PyData.tuple = _
    rw [pyWs_ints]; rfl
  unfold eqD
  rw [e xs, e ys]
  show (if SeqAt.shaped (.tuple (xs.map PyData.int)) && SeqAt.shaped (.tuple (ys.map PyData.int)) then some (PyData.eqv (.tuple (xs.map PyData.int)) (.tuple (ys.map PyData.int))) else none) = _
  rw [shaped_ints, shaped_ints]
  have : PyData.eqv (.tuple (xs.map PyData.int)) (.tuple (ys.map PyData.int)) = PyData.eqvAll (xs.map PyData.int) (ys.map PyData.int) := by simp only [PyData.eqv]
  rw [this, eqv_ints]; rfl
theorem o_eqT {xs ys : List Int} : wp (op2 .eq (.tup (xs.map .int)) (.tup (ys.map .int)) G) P = P (.bl (decide (xs = ys))) G := by
  show wp (okO (eqD G _ _) G) P = _
  rw [eqD_ints]; rfl
theorem o_neT {xs ys : List Int} : wp (op2 .ne (.tup (xs.map .int)) (.tup (ys.map .int)) G) P = P (.bl (!decide (xs = ys))) G := by
  show wp (okO ((eqD G _ _).map (!·)) G) P = _
  rw [eqD_ints]; rfl
end
theorem o_min {G : Store} {P : D → Store → Prop} {i j : Int} : wp (bf .min [.int i, .int j] G) P = P (.int (min i j)) G := by
  show wp (R.ok (.int (if j < i then j else i)) G) P = _
  rw [show (if j < i then j else i) = min i j by rw [Int.min_def]; split <;> split <;> omega]; rfl
theorem o_max {G : Store} {P : D → Store → Prop} {i j : Int} : wp (bf .max [.int i, .int j] G) P = P (.int (max i j)) G := by
  show wp (R.ok (.int (if i < j then j else i)) G) P = _
  rw [show (if i < j then j else i) = max i j by rw [Int.max_def]; split <;> split <;> omega]; rfl
theorem o_addL {G : Store} {P : D → Store → Prop} {m n : Nat} {xs ys : List D} (hx : G.lst? m = some xs) (hy : G.lst? n = some ys) (h1 : G.lim ≤ m) (h2 : G.lim ≤ n) : wp (op2 .add (.ref m) (.ref n) G) P = ((xs ++ ys).length ≤ sizeLine ∧ P (.ref G.cs.length) (G.new (.lst (xs ++ ys)))) := by
  show wp (match G.lst? m, G.lst? n with
      | some xs, some ys => if G.lim ≤ m ∧ G.lim ≤ n then newL (xs ++ ys) G else .stuck
      | _, _ => .stuck) P = _
  rw [hx, hy]
  show wp (if G.lim ≤ m ∧ G.lim ≤ n then newL (xs ++ ys) G else .stuck) P = _
  rw [if_pos ⟨h1, h2⟩]; exact wp_newL
theorem flat_one {d : D} : ∀ m : Nat, (List.replicate m [d]).flatten = List.replicate m d
  | 0 => rfl
  | m + 1 => by rw [List.replicate_succ, List.flatten_cons, flat_one m, List.replicate_succ]; rfl
theorem o_mulL {G : Store} {P : D → Store → Prop} {m : Nat} {d : D} {K : Int} {k : Nat} (hx : G.lst? m = some [d]) (h1 : G.lim ≤ m) (hK : K = k) (hk : k ≤ 1000) : wp (op2 .mul (.ref m) (.int K) G) P = P (.ref G.cs.length) (G.new (.lst (List.replicate k d))) := by
  subst hK
  show wp (match G.lst? m with
      | some xs => if G.lim ≤ m ∧ -(2 ^ 63) ≤ (k : Int) ∧ (k : Int) < 2 ^ 63 ∧ xs.length * (k : Int).toNat ≤ sizeLine then newL (List.replicate (k : Int).toNat xs).flatten G else .stuck
      | none => .stuck) P = _
  rw [hx]
  show wp (if G.lim ≤ m ∧ -(2 ^ 63) ≤ (k : Int) ∧ (k : Int) < 2 ^ 63 ∧ [d].length * (k : Int).toNat ≤ sizeLine then newL (List.replicate (k : Int).toNat [d]).flatten G else .stuck) P = _
  have hs : k ≤ sizeLine := Nat.le_trans hk (by decide)
  rw [if_pos ⟨h1, by omega, by omega, by rw [Int.toNat_natCast, List.length_singleton, Nat.one_mul]; exact hs⟩, Int.toNat_natCast, flat_one, wp_newL]
  rw [List.length_replicate]
  exact propext ⟨fun h => h.2, fun h => ⟨hs, h⟩⟩
theorem Rw.lst {B G : Store} {r : Nat} {s : List Int} (h : Rw B r s G) {n : Nat} {xs : List D} (hn : r ≠ n) (hx : B.lst? n = some xs) : G.lst? n = some xs := by
  obtain ⟨h1, h2, h3, h4, a, b, c, ok, g⟩ := h
  exact g.lst (by rw [lst_put_ne hn]; exact hx)
theorem Rw.trans {A B G : Store} {r : Nat} {s : List Int} (h : Rw A r s B) (k : Rw B r s G) : Rw A r s G := by
  obtain ⟨h1, h2, h3, h4, a, b, c, ok, g⟩ := h
  obtain ⟨k1, k2, k3, k4, a', b', c', ok', g'⟩ := k
  refine ⟨h1, h2, h3, h4, a', b', c', ok', ?_⟩
  have := g.put (n := r) (by rw [len_put]; exact h3) (.lst (rowL a' b' c'))
  rw [put_put] at this
  exact this.trans g'
theorem Mv.rel {G G' : Store} {r : Nat} {s : List Int} (h : Rb r s G) (m : Mv r s G G') : Rw G r s G' := m.rw h.start
/-- a comprehension over a range, each item of Q -/
theorem comp_rng {C : CallF} {ρ : Env} {e : Ex} {j m : Nat} {r : Nat} {s : List Int} {G : Store} {P : Store → Prop} (Q : D → Prop) (hr : Rb r s G) (hm : m < 2 ^ 20)
    (turn : ∀ (i : Nat) G', i < m → Rw G r s G' → wp (ev C e (ρ.set j (some (.int (0 + (i : Int))))) G') fun x G2 => Q x ∧ Rw G' r s G2)
    (done : ∀ zs G2, zs.length = m → (∀ z ∈ zs, Q z) → Rw G r s G2 → G2.lst? G.cs.length = some zs → P G2) :
    wp (compGo (.v j) (.rng 0 m) none (ev C e) ρ G.cs.length loopFuel 0 (G.new (.lst []))) fun _ G' => P G' := by
  have hlt := hr.lt
  refine compGo_inv (k := m) (fun i G' => Rw G r s G' ∧ ∃ zs : List D, zs.length = i ∧ (∀ z ∈ zs, Q z) ∧ G'.lst? G.cs.length = some zs) (Q := P) (by unfold loopFuel; omega) ⟨hr.start.new _, [], rfl, (fun _ h => nomatch h), lst_new⟩ ?_ ?_
  · rintro G' ⟨w, zs, hl, hz, hx⟩
    exact ⟨by show some (if m < m then _ else _) = _; rw [if_neg (Nat.lt_irrefl _)], done zs G' hl hz w hx⟩
  · rintro i G' hi ⟨w, zs, hl, hz, hx⟩
    refine ⟨.int (0 + i), _, by show some (if i < m then _ else _) = _; rw [if_pos hi], rfl, ?_⟩
    show wp (ev C e (ρ.set j (some (.int (0 + (i : Int))))) G') _
    refine (turn i G' hi w).imp fun x G2 h => ?_
    obtain ⟨hq, w2⟩ := h
    have hx2 := w2.lst (n := G.cs.length) (by omega) hx
    refine ⟨zs, hx2, by rw [w2.glim, w.glim]; exact hr.ll, Nat.lt_of_lt_of_le (show zs.length < 2 ^ 20 by omega) (by decide), (w.trans w2).own (Nat.le_refl _) _, zs ++ [x], by rw [List.length_append, hl]; rfl, ?_, ?_⟩
    · intro z h
      rcases List.mem_append.mp h with h | h
      · exact hz z h
      · have e : z = x := by simpa using h
        rw [e]; exact hq
    · exact lst_put (lt_of_lst hx2)
end Cut
/-! A drawn label. -/
namespace Cut
open PySem
def kindS : List (List Nat) := [[112, 97, 114, 116], [112, 97, 103, 101], [104, 101, 97, 100], [98, 108, 97, 110, 107]]
/-- _law_drawn_label -/
def labelFd (ft fp : Nat) : Fd := ⟨1, 10, (.cons (.set (.tup [1, 2]) (.tup (.cons (.call fp (.cons (.v 0) (.cons (.lst (.cons (.k (.str [112, 97, 114, 116])) (.cons (.k (.str [112, 97, 103, 101])) (.cons (.k (.str [104, 101, 97, 100])) (.cons (.k (.str [98, 108, 97, 110, 107])) .nil))))) .nil))) (.cons (.bin .sub (.bin .pow (.k (.int 2)) (.k (.int 32))) (.k (.int 1))) .nil)))) (.cons (.set (.v 3) (.lst (.cons (.k (.int 0)) (.cons (.k (.int 1)) (.cons (.k (.int 2)) (.cons (.k (.int 255)) (.cons (.call ft (.cons (.v 0) (.cons (.k (.int 256)) .nil))) .nil))))))) (.cons (.set (.v 4) (.bin .ix (.lst (.cons (.k (.int 0)) (.cons (.k (.int 1)) (.cons (.k (.int 5)) (.cons (.k (.int 96)) .nil))))) (.call ft (.cons (.v 0) (.cons (.k (.int 4)) .nil))))) (.cons (.set (.v 5) (.bf .tuple (.cons (.bin .add (.comp (.v 6) (.rng1 (.bf .min (.cons (.k (.int 4)) (.cons (.v 4) .nil)))) .none (.call fp (.cons (.v 0) (.cons (.lst (.cons (.k (.int 0)) (.cons (.k (.int 1)) (.cons (.k (.int 255)) .nil)))) .nil))) [6]) (.bin .mul (.lst (.cons (.k (.int 9)) .nil)) (.bf .max (.cons (.k (.int 0)) (.cons (.bin .sub (.v 4) (.k (.int 4))) .nil))))) .nil))) (.cons (.set (.v 7) (.comp (.v 8) (.rng1 (.k (.int 2))) .none (.call fp (.cons (.v 0) (.cons (.lst (.cons (.k (.int 0)) (.cons (.k (.int 1)) (.cons (.v 2) (.cons (.call ft (.cons (.v 0) (.cons (.bin .pow (.k (.int 10)) (.k (.int 6))) .nil))) .nil))))) .nil))) [8])) (.cons (.set (.v 9) (.call fp (.cons (.v 0) (.cons (.lst (.cons (.k (.int 0)) (.cons (.k (.int 65535)) (.cons (.call ft (.cons (.v 0) (.cons (.k (.int 300)) .nil))) .nil)))) .nil)))) (.cons (.ret (.tup (.cons (.v 1) (.cons (.call fp (.cons (.v 0) (.cons (.v 3) .nil))) (.cons (.call fp (.cons (.v 0) (.cons (.v 3) .nil))) (.cons (.bin .ix (.v 7) (.k (.int 0))) (.cons (.bin .ix (.v 7) (.k (.int 1))) (.cons (.v 9) (.cons (.v 5) .nil))))))))) .nil)))))))⟩
theorem all_ints : ∀ zs : List D, (∀ z ∈ zs, ∃ i : Int, z = .int i ∧ Byte i) → ∃ C : List Int, zs = C.map .int ∧ ∀ b ∈ C, Byte b
  | [], _ => ⟨[], rfl, fun _ h => nomatch h⟩
  | z :: zs, h => by
    obtain ⟨i, rfl, hi⟩ := h z (List.mem_cons_self ..)
    obtain ⟨C, rfl, hC⟩ := all_ints zs fun z hz => h z (List.mem_cons_of_mem _ hz)
    exact ⟨i :: C, rfl, fun b hb => by
      rcases List.mem_cons.mp hb with e | e
      · rw [e]; exact hi
      · exact hC b e⟩
theorem drawn_label {T : List Fd} {ft fp fl : Nat} (hT : T[ft]? = some takenFd) (hP14 : T[fp]? = some (pickFd ft)) (hL : T[fl]? = some (labelFd ft fp)) {k r : Nat} {s : List Int} {B : Store} {P : D → Store → Prop} (h : Rb r s B)
    (done : ∀ (kk ix mn e c n : Nat) (IX MN E C' N' : Int) (C : List Int) G', IX = ix → MN = mn → E = e → C' = c → N' = n → kk < 4 → ix < 256 → mn < 256 → e < 2 ^ 32 → c < 2 ^ 32 → n < 2 ^ 16 → C.length ≤ 96 → (∀ b ∈ C, Byte b) → Mv r s B G' →
      P (.tup [.str (kindS.getD kk []), .int IX, .int MN, .int E, .int C', .int N', .tup (C.map .int)]) G') : wp (run T (k + 3) fl [.ref r] B) P := by
  refine run_wp (fd := labelFd ft fp) hL rfl ?_
  have hrl := h.lt
  simp only [s_pass, s_nil, s_cons, s_expr, s_set, s_par, s_setIx, s_setKey, s_augIx, s_aug, s_ifs, s_ret, s_retN, s_brk, s_cnt, s_never, w_k, w_v, w_un, w_bin, w_and, w_or, w_ite, w_chain, w_tup, wp_newL, w_lst, w_dic0, w_callD, w_sl, w_rev, w_call, w_bf, w_mt, w_nil, w_cons, w_no, w_some, Tg.bind, bindN, o_add, o_addT, o_sub, o_mul, o_fdiv, o_mod, o_pow, o_eq, o_ne, o_lt, o_le, o_gt, o_ge, o_isT, o_isI, o_isR, o_isN, o_eqB, o_neB, o_not, o_neg, o_lenT, o_int, o_isinI, o_isinT, o_isinB, o_isinI2, o_isinT2, t_ii, t_ib, t_is, t_it, t_il, t_tt, t_tl, t_ts, t_ti, t_tb, t_bb, t_bi, Cut.truthy, zb_bl, Bool.or_false, Bool.false_or, Bool.not_true, Bool.not_false, Bool.true_or, Bool.or_true, tb_dec, tb_some, tb_not, tb_true, tb_false, Cut.start, List.map, List.length, List.replicate, List.append_eq, List.cons_append, List.nil_append, List.getElem?_cons_zero, List.getElem?_cons_succ, List.set_cons_zero, List.set_cons_succ, Nat.reduceAdd, Nat.reduceSub, tyOf, if_true, if_false, Bool.false_eq_true, decide_true, decide_false, wp_ok, labelFd, w_comp, i_rng1]
  refine ⟨by decide, ?_⟩
  have w0 := h.start.new (.lst [D.str [112, 97, 114, 116], D.str [112, 97, 103, 101], D.str [104, 101, 97, 100], D.str [98, 108, 97, 110, 107]])
  refine pick' hT hP14 w0.rb lst_new (by omega) (by decide) (by decide) (by rfl) fun x hx G1 m1 => ?_
  obtain ⟨kk, hkk, rfl⟩ : ∃ kk : Nat, kk < 4 ∧ x = .str (kindS.getD kk []) := by
    simp only [List.mem_cons, List.not_mem_nil, or_false] at hx
    rcases hx with rfl | rfl | rfl | rfl
    · exact ⟨0, by decide, rfl⟩
    · exact ⟨1, by decide, rfl⟩
    · exact ⟨2, by decide, rfl⟩
    · exact ⟨3, by decide, rfl⟩
  have w1 := m1.rw w0
  refine ⟨by decide, by decide, ?_⟩
  refine taken' hT m1.rb (by decide) (by decide) fun v1 G2 a1 a2 m2 => ?_
  refine ⟨by decide, by decide, ?_⟩
  have w2 := m2.rw w1
  have l2 := w2.len
  have eN : (G2.new (.lst [D.int 0, D.int 1, D.int 2, D.int 255, D.int v1])).lst? G2.cs.length = some [D.int 0, D.int 1, D.int 2, D.int 255, D.int v1] := lst_new
  have w3 := w2.new (.lst [D.int 0, D.int 1, D.int 2, D.int 255, D.int v1])
  have l3 := len_new (G := G2) (c := .lst [D.int 0, D.int 1, D.int 2, D.int 255, D.int v1])
  generalize G2.new (.lst [D.int 0, D.int 1, D.int 2, D.int 255, D.int v1]) = G3 at eN w3 l3 ⊢
  refine taken' hT (w3.new _).rb (by decide) (by decide) fun v2 G4 b1 b2 m4 => ?_
  have w4 := m4.rw (w3.new _)
  have l4 := m4.len
  rw [len_new] at l4
  have eN4 := m4.lst (by omega) (lst_new_old eN)
  have e4 := m4.lst (n := G3.cs.length) (by omega) lst_new
  obtain ⟨M, hM0, hM1, hM⟩ : ∃ M : Int, 0 ≤ M ∧ M ≤ 96 ∧ ixAt [D.int 0, D.int 1, D.int 5, D.int 96] v2 = some (.int M) := by
    obtain ⟨q, rfl⟩ := Int.eq_ofNat_of_zero_le b1
    have hq : q < 4 := by omega
    rcases q with _ | _ | _ | _ | q
    · exact ⟨0, by decide, by decide, rfl⟩
    · exact ⟨1, by decide, by decide, rfl⟩
    · exact ⟨5, by decide, by decide, rfl⟩
    · exact ⟨96, by decide, by decide, rfl⟩
    · omega
  rw [o_ixL e4 hM, o_min]
  refine ⟨by omega, by omega, ?_⟩
  refine comp_rng (fun d => ∃ i : Int, d = .int i ∧ Byte i) w4.rb (by omega) ?_ ?_
  · intro i G' hi hw
    simp only [s_pass, s_nil, s_cons, s_expr, s_set, s_par, s_setIx, s_setKey, s_augIx, s_aug, s_ifs, s_ret, s_retN, s_brk, s_cnt, s_never, w_k, w_v, w_un, w_bin, w_and, w_or, w_ite, w_chain, w_tup, wp_newL, w_lst, w_dic0, w_callD, w_sl, w_rev, w_call, w_bf, w_mt, w_nil, w_cons, w_no, w_some, Tg.bind, bindN, o_add, o_addT, o_sub, o_mul, o_fdiv, o_mod, o_pow, o_eq, o_ne, o_lt, o_le, o_gt, o_ge, o_isT, o_isI, o_isR, o_isN, o_eqB, o_neB, o_not, o_neg, o_lenT, o_int, o_isinI, o_isinT, o_isinB, o_isinI2, o_isinT2, t_ii, t_ib, t_is, t_it, t_il, t_tt, t_tl, t_ts, t_ti, t_tb, t_bb, t_bi, Cut.truthy, zb_bl, Bool.or_false, Bool.false_or, Bool.not_true, Bool.not_false, Bool.true_or, Bool.or_true, tb_dec, tb_some, tb_not, tb_true, tb_false, Cut.start, List.map, List.length, List.replicate, List.append_eq, List.cons_append, List.nil_append, List.getElem?_cons_zero, List.getElem?_cons_succ, List.set_cons_zero, List.set_cons_succ, Nat.reduceAdd, Nat.reduceSub, tyOf, if_true, if_false, Bool.false_eq_true, decide_true, decide_false, wp_ok, wipeE]
    refine ⟨by decide, ?_⟩
    have hl := hw.len
    refine pick' hT hP14 (hw.rb.new _) lst_new (by omega) (by decide) (by decide) (by rfl) fun x hx G2 m => ?_
    refine ⟨?_, m.rw (hw.rb.start.new _)⟩
    simp only [List.mem_cons, List.not_mem_nil, or_false] at hx
    rcases hx with rfl | rfl | rfl <;> exact ⟨_, rfl, by decide, by decide⟩
  · intro zs G5 hz1 hz2 w5 e5
    obtain ⟨C1, rfl, hC1⟩ := all_ints zs hz2
    rw [List.length_map] at hz1
    refine ⟨by decide, ?_⟩
    rw [o_sub, o_max]
    have l5 := w5.len
    have ll4 := w4.rb.ll
    have ll5 := w5.rb.ll
    have gl5 := w5.glim
    have w6 := (w4.trans w5).new (.lst [D.int 9])
    have e6 : (G5.new (.lst [D.int 9])).lst? G5.cs.length = some [D.int 9] := lst_new
    have e56 := lst_new_old (c := .lst [D.int 9]) e5
    have eN6 := lst_new_old (c := .lst [D.int 9]) (w5.lst (by omega) eN4)
    have l6 := len_new (G := G5) (c := .lst [D.int 9])
    have gl6 : (G5.new (.lst [D.int 9])).lim = G5.lim := rfl
    generalize G5.new (.lst [D.int 9]) = G6 at w6 e6 e56 eN6 l6 gl6 ⊢
    rw [o_mulL (k := (max 0 (M - 4)).toNat) e6 (by omega) (by omega) (by omega)]
    rw [o_addL (lst_new_old e56) lst_new (by show G6.lim ≤ _; omega) (by show G6.lim ≤ _; omega)]
    rw [o_tupL lst_new]
    have sm : ∀ {n : Nat}, n ≤ 1000 → n ≤ sizeLine := fun h => Nat.le_trans h (by decide)
    refine ⟨sm (by rw [List.length_append, List.length_map, List.length_replicate]; omega), by decide, by decide, ?_⟩
    rw [show C1.map D.int ++ List.replicate (max 0 (M - 4)).toNat (D.int 9) = (C1 ++ List.replicate (max 0 (M - 4)).toNat 9).map D.int by rw [List.map_append, List.map_replicate]]
    obtain ⟨C, hC, hCl⟩ : ∃ C : List Int, C = C1 ++ List.replicate (max 0 (M - 4)).toNat 9 ∧ C.length ≤ 96 ∧ ∀ b ∈ C, Byte b := by
      refine ⟨_, rfl, by rw [List.length_append, List.length_replicate]; omega, fun b hb => ?_⟩
      rcases List.mem_append.mp hb with h | h
      · exact hC1 b h
      · rw [(List.mem_replicate.mp h).2]; exact ⟨by decide, by decide⟩
    rw [← hC]
    have w7 := (w6.new (.lst (List.replicate (max 0 (M - 4)).toNat (D.int 9)))).new (.lst (C.map D.int))
    have eN7 := lst_new_old (c := .lst (C.map D.int)) (lst_new_old (c := .lst (List.replicate (max 0 (M - 4)).toNat (D.int 9))) eN6)
    generalize (G6.new (.lst (List.replicate (max 0 (M - 4)).toNat (D.int 9)))).new (.lst (C.map D.int)) = G7 at w7 eN7 ⊢
    have l7 := w7.len
    have ll7 := w7.rb.ll
    refine comp_rng (fun d => ∃ i : Nat, d = .int i ∧ i < 2 ^ 32) w7.rb (by decide) ?_ ?_
    · intro i G' hi hw
      simp only [s_pass, s_nil, s_cons, s_expr, s_set, s_par, s_setIx, s_setKey, s_augIx, s_aug, s_ifs, s_ret, s_retN, s_brk, s_cnt, s_never, w_k, w_v, w_un, w_bin, w_and, w_or, w_ite, w_chain, w_tup, wp_newL, w_lst, w_dic0, w_callD, w_sl, w_rev, w_call, w_bf, w_mt, w_nil, w_cons, w_no, w_some, Tg.bind, bindN, o_add, o_addT, o_sub, o_mul, o_fdiv, o_mod, o_pow, o_eq, o_ne, o_lt, o_le, o_gt, o_ge, o_isT, o_isI, o_isR, o_isN, o_eqB, o_neB, o_not, o_neg, o_lenT, o_int, o_isinI, o_isinT, o_isinB, o_isinI2, o_isinT2, t_ii, t_ib, t_is, t_it, t_il, t_tt, t_tl, t_ts, t_ti, t_tb, t_bb, t_bi, Cut.truthy, zb_bl, Bool.or_false, Bool.false_or, Bool.not_true, Bool.not_false, Bool.true_or, Bool.or_true, tb_dec, tb_some, tb_not, tb_true, tb_false, Cut.start, List.map, List.length, List.replicate, List.append_eq, List.cons_append, List.nil_append, List.getElem?_cons_zero, List.getElem?_cons_succ, List.set_cons_zero, List.set_cons_succ, Nat.reduceAdd, Nat.reduceSub, tyOf, if_true, if_false, Bool.false_eq_true, decide_true, decide_false, wp_ok, wipeE]
      refine ⟨by decide, ?_⟩
      have hl := hw.len
      refine taken' hT hw.rb (by decide) (by decide) fun v G2 q1 q2 m => ?_
      have hm := m.len
      have c6 : (10 : Int) ^ Int.toNat 6 = 10 ^ 6 := by decide
      refine ⟨by decide, ?_⟩
      refine pick' hT hP14 (m.rb.new _) lst_new (by omega) (by simp) (by simp) (by rfl) fun x hx G3 m2 => ?_
      refine ⟨?_, m2.rw ((m.rw hw.rb.start).new _)⟩
      simp only [List.mem_cons, List.not_mem_nil, or_false] at hx
      obtain ⟨n, rfl⟩ := Int.eq_ofNat_of_zero_le q1
      rcases hx with rfl | rfl | rfl | rfl
      · exact ⟨0, rfl, by decide⟩
      · exact ⟨1, rfl, by decide⟩
      · exact ⟨2 ^ 32 - 1, rfl, by decide⟩
      · exact ⟨n, rfl, by omega⟩
    · intro zs2 G8 hz3 hz4 w8 e8
      obtain ⟨x0, x1, rfl⟩ : ∃ x0 x1, zs2 = [x0, x1] := by
        rcases zs2 with _ | ⟨x0, _ | ⟨x1, _ | ⟨x2, zs⟩⟩⟩
        · simp at hz3
        · simp at hz3
        · exact ⟨x0, x1, rfl⟩
        · simp at hz3
      obtain ⟨n0, rfl, hn0⟩ := hz4 x0 (by simp)
      obtain ⟨n1, rfl, hn1⟩ := hz4 x1 (by simp)
      have w9 := w7.trans w8
      have l8 := w8.len
      have eN8 := w8.lst (by omega) eN7
      refine taken' hT w9.rb (by decide) (by decide) fun v3 G9 c1 c2 m9 => ?_
      have l9 := m9.len
      refine ⟨by decide, ?_⟩
      have w10 := m9.rw w9
      have eN9 := m9.lst (by omega) eN8
      have e9 := m9.lst (by omega) e8
      refine pick' hT hP14 (w10.new _).rb lst_new (by omega) (by simp) (by simp) (by rfl) fun xs hxs G10 m10 => ?_
      have w11 := m10.rw (w10.new _)
      have l10 := m10.len
      have eN10 := m10.lst (by omega) (lst_new_old eN9)
      have e10 := m10.lst (by omega) (lst_new_old e9)
      obtain ⟨n, rfl, hn⟩ : ∃ n : Nat, xs = .int n ∧ n < 2 ^ 16 := by
        simp only [List.mem_cons, List.not_mem_nil, or_false] at hxs
        obtain ⟨q, rfl⟩ := Int.eq_ofNat_of_zero_le c1
        rcases hxs with rfl | rfl | rfl
        · exact ⟨0, rfl, by decide⟩
        · exact ⟨65535, rfl, by decide⟩
        · exact ⟨q, rfl, by omega⟩
      have byte : ∀ x ∈ [D.int 0, D.int 1, D.int 2, D.int 255, D.int v1], ∃ n : Nat, x = .int n ∧ n < 256 := by
        intro x hx
        simp only [List.mem_cons, List.not_mem_nil, or_false] at hx
        obtain ⟨q, rfl⟩ := Int.eq_ofNat_of_zero_le a1
        rcases hx with rfl | rfl | rfl | rfl | rfl
        · exact ⟨0, rfl, by decide⟩
        · exact ⟨1, rfl, by decide⟩
        · exact ⟨2, rfl, by decide⟩
        · exact ⟨255, rfl, by decide⟩
        · exact ⟨q, rfl, by omega⟩
      refine pick' hT hP14 w11.rb eN10 (by omega) (by simp) (by simp) (by rfl) fun x hx G11 m11 => ?_
      obtain ⟨ix, rfl, hix⟩ := byte x hx
      have eN11 := m11.lst (by omega) eN10
      have e11 := m11.lst (by omega) e10
      refine pick' hT hP14 m11.rb eN11 (by omega) (by simp) (by simp) (by rfl) fun x hx G12 m12 => ?_
      obtain ⟨mn, rfl, hmn⟩ := byte x hx
      have e12 := m12.lst (by omega) e11
      rw [o_ixL e12 (d := .int n0) rfl, o_ixL e12 (d := .int n1) rfl]
      refine ⟨by decide, ?_⟩
      have w12 := m12.rw (m11.rw w11)
      refine w12.out h ?_ fun G' m => done kk ix mn n0 n1 n _ _ _ _ _ C G' rfl rfl rfl rfl rfl hkk hix hmn hn0 hn1 hn hCl.1 hCl.2 m
      show belows _ [_, _, _, _, _, _, .tup (C.map D.int)] = true
      simp only [belows, below, belows_int, Bool.and_self]
theorem rng_end {lo : Int} {n : Nat} {G : Store} : (Itv.rng lo n).at n G = some none := by
  show some (if n < n then _ else _) = _; rw [if_neg (Nat.lt_irrefl _)]
theorem rng_at {lo : Int} {n i : Nat} {G : Store} (h : i < n) : (Itv.rng lo n).at i G = some (some (.int (lo + i))) := by
  show some (if i < n then _ else _) = _; rw [if_pos h]
theorem s_mid {C : CallF} {ρ : Cut.Env} {G : Store} {s : Sm} {ss : Sms} {D : Po} {Q : Cut.Env → Store → Prop} (h : wps (ex C s ρ G) ⟨Q, D.rt, D.bk, D.ct⟩) (k : ∀ ρ G, Q ρ G → wps (exs C ss ρ G) D) : wps (exs C (.cons s ss) ρ G) D := by
  rw [s_cons]
  exact h.imp k (fun _ _ h => h) (fun _ _ h => h) (fun _ _ h => h)
theorem byte_at {bs : List Int} (hb : ∀ b ∈ bs, Byte b) {i : Nat} (h : i < bs.length) : ∃ n : Nat, n < 256 ∧ bs[i]? = some (n : Int) := by
  have := hb _ (List.getElem_mem h)
  obtain ⟨n, e⟩ := Int.eq_ofNat_of_zero_le this.1
  exact ⟨n, by have := this.2; omega, by rw [List.getElem?_eq_getElem h, e]⟩
theorem at_byte {bs : List Int} (hb : ∀ b ∈ bs, Byte b) {i : Nat} {I : Int} (hI : I = i) (h : i < bs.length) : ∃ v : Int, Byte v ∧ ixAt (bs.map D.int) I = some (.int v) := by
  subst hI
  exact ⟨bs[i], hb _ (List.getElem_mem h), ixAt_nat (by rw [List.getElem?_map, List.getElem?_eq_getElem h]; rfl)⟩
theorem flatD_ints (xs : List Int) : (xs.map D.int).all flatD = true := by
  rw [List.all_eq_true]; intro x hx; obtain ⟨y, _, rfl⟩ := List.mem_map.mp hx; rfl
theorem inD_ints {G : Store} {m : Nat} {xs : List Int} {i : Int} (hx : G.lst? m = some (xs.map .int)) : inD G (.int i) (.ref m) = some (decide (i ∈ xs)) := by
  show (match G.lst? m with | some xs => if flatD (.int i) && xs.all flatD then some (xs.any fun y => eqF y (.int i)) else none | none => none) = _
  rw [hx]
  show (if (true && (xs.map D.int).all flatD) = true then some ((xs.map D.int).any fun y => eqF y (.int i)) else none) = _
  rw [flatD_ints]
  show some _ = _
  congr 1
  rw [Bool.eq_iff_iff, List.any_eq_true, decide_eq_true_iff]
  constructor
  · rintro ⟨y, hy, he⟩
    obtain ⟨z, hz, rfl⟩ := List.mem_map.mp hy
    have : z = i := by simpa [eqF] using he
    exact this ▸ hz
  · intro h
    exact ⟨.int i, List.mem_map.mpr ⟨i, h, rfl⟩, by simp [eqF]⟩
theorem o_inL {G : Store} {P : D → Store → Prop} {m : Nat} {xs : List Int} {i : Int} (hx : G.lst? m = some (xs.map .int)) : wp (op2 .in_ (.int i) (.ref m) G) P = P (.bl (decide (i ∈ xs))) G := by
  show wp (okO (inD G (.int i) (.ref m)) G) P = _
  rw [inD_ints hx]; rfl
theorem o_notinL {G : Store} {P : D → Store → Prop} {m : Nat} {xs : List Int} {i : Int} (hx : G.lst? m = some (xs.map .int)) : wp (op2 .notin (.int i) (.ref m) G) P = P (.bl (!decide (i ∈ xs))) G := by
  show wp (okO ((inD G (.int i) (.ref m)).map (!·)) G) P = _
  rw [inD_ints hx]; rfl
theorem o_isnN {G : Store} {P : D → Store → Prop} : wp (op2 .isnot .non .non G) P = P (.bl false) G := propext Iff.rfl
theorem o_isnT {G : Store} {P : D → Store → Prop} {xs : List D} : wp (op2 .isnot (.tup xs) .non G) P = P (.bl true) G := propext Iff.rfl
theorem o_isnI {G : Store} {P : D → Store → Prop} {i : Int} : wp (op2 .isnot (.int i) .non G) P = P (.bl true) G := propext Iff.rfl
theorem o_isnB {G : Store} {P : D → Store → Prop} {a b : Bool} : wp (op2 .isnot (.bl a) (.bl b) G) P = P (.bl (!decide (a = b))) G := propext Iff.rfl
theorem o_isB {G : Store} {P : D → Store → Prop} {a b : Bool} : wp (op2 .is (.bl a) (.bl b) G) P = P (.bl (decide (a = b))) G := propext Iff.rfl
theorem o_intB {G : Store} {P : D → Store → Prop} {b : Bool} : wp (bf .int [.bl b] G) P = P (.int (if b then 1 else 0)) G := propext Iff.rfl
theorem o_inTS {G : Store} {P : D → Store → Prop} {s : List Nat} {xs : List D} {b : Bool} (h : inD G (.str s) (.tup xs) = some b) : wp (op2 .in_ (.str s) (.tup xs) G) P = P (.bl b) G := by
  show wp (okO (inD G _ _) G) P = _
  rw [h]; rfl
theorem o_notinTS {G : Store} {P : D → Store → Prop} {s : List Nat} {xs : List D} {b : Bool} (h : inD G (.str s) (.tup xs) = some b) : wp (op2 .notin (.str s) (.tup xs) G) P = P (.bl (!b)) G := by
  show wp (okO ((inD G _ _).map (!·)) G) P = _
  rw [h]; rfl
end Cut
/-! What the laws draw: pages, batches; comprehensions once more. -/
namespace Cut
open PySem
/-- a comprehension over anything, each item of its Q; the row moves -/
theorem comp_w {C : CallF} {ρ : Env} {t : Tg} {v : Itv} {e : Ex} {m : Nat} {r : Nat} {s : List Int} {G : Store} {P : Store → Prop} (f : Nat → D) (ρf : Nat → Env) (Q : Nat → D → Prop) (hr : Rb r s G) (hm : m < 2 ^ 20)
    (hv : ∀ i G', i < m → Rw G r s G' → v.at i G' = some (some (f i))) (hend : ∀ G', Rw G r s G' → v.at m G' = some none) (hb : ∀ i, i < m → t.bind (f i) ρ = some (ρf i))
    (turn : ∀ (i : Nat) G', i < m → Rw G r s G' → wp (ev C e (ρf i) G') fun x G2 => Q i x ∧ Rw G' r s G2)
    (done : ∀ zs G2, zs.length = m → (∀ i z, zs[i]? = some z → Q i z) → Rw G r s G2 → G2.lst? G.cs.length = some zs → P G2) :
    wp (compGo t v none (ev C e) ρ G.cs.length loopFuel 0 (G.new (.lst []))) fun _ G' => P G' := by
  have hlt := hr.lt
  refine compGo_inv (k := m) (fun i G' => Rw G r s G' ∧ ∃ zs : List D, zs.length = i ∧ (∀ i z, zs[i]? = some z → Q i z) ∧ G'.lst? G.cs.length = some zs) (Q := P) (by unfold loopFuel; omega) ⟨hr.start.new _, [], rfl, (fun i z h => by simp at h), lst_new⟩ ?_ ?_
  · rintro G' ⟨w, zs, hl, hz, hx⟩
    exact ⟨hend G' w, done zs G' hl hz w hx⟩
  · rintro i G' hi ⟨w, zs, hl, hz, hx⟩
    refine ⟨f i, ρf i, hv i G' hi w, hb i hi, ?_⟩
    show wp (ev C e (ρf i) G') _
    refine (turn i G' hi w).imp fun x G2 h => ?_
    obtain ⟨hq, w2⟩ := h
    have hx2 := w2.lst (n := G.cs.length) (by omega) hx
    refine ⟨zs, hx2, by rw [w2.glim, w.glim]; exact hr.ll, Nat.lt_of_lt_of_le (show zs.length < 2 ^ 20 by omega) (by decide), (w.trans w2).own (Nat.le_refl _) _, zs ++ [x], by rw [List.length_append, hl]; rfl, ?_, ?_⟩
    · intro j z h
      by_cases hj : j < zs.length
      · rw [List.getElem?_append_left hj] at h; exact hz j z h
      · have hj2 : j = i := by
          have := (List.getElem?_eq_some_iff.mp h).1
          rw [List.length_append, List.length_singleton] at this; omega
        subst hj2
        rw [List.getElem?_append_right (by omega), hl, Nat.sub_self] at h
        have e : x = z := by simpa using h
        rw [← e]; exact hq
    · exact lst_put (lt_of_lst hx2)
/-- .. nothing moves: the items are reckoned out, some are left out -/
theorem comp_g {C : CallF} {ρ : Env} {t : Tg} {v : Itv} {c : Exo} {e : Ex} {m : Nat} {G : Store} {P : Store → Prop} (f : Nat → D) (ρf : Nat → Env) (g : Nat → Option D) (hl : G.lim ≤ G.cs.length) (hm : m < 2 ^ 20)
    (hv : ∀ i G', i < m → Grown G G' → v.at i G' = some (some (f i))) (hend : ∀ G', Grown G G' → v.at m G' = some none) (hb : ∀ i, i < m → t.bind (f i) ρ = some (ρf i))
    (turn : ∀ (i : Nat) G', i < m → Grown G G' → wp ((match evc C c with
          | none => R.ok true G'
          | some q => (q (ρf i) G').bind fun x G1 => match truthy x G1 with
            | some b => .ok b G1
            | none => .stuck)) fun b G1 => G1 = G' ∧ if b = true then wp (ev C e (ρf i) G') fun x G2 => g i = some x ∧ Grown G' G2 else g i = none)
    (done : ∀ G2, Grown G G2 → G2.lst? G.cs.length = some ((List.range m).filterMap g) → P G2) :
    wp (compGo t v (evc C c) (ev C e) ρ G.cs.length loopFuel 0 (G.new (.lst []))) fun _ G' => P G' := by
  refine compGo_inv (k := m) (fun i G' => Grown G G' ∧ G'.lst? G.cs.length = some ((List.range i).filterMap g)) (Q := P) (by unfold loopFuel; omega) ⟨(Grown.refl G).new _, lst_new⟩ ?_ ?_
  · rintro G' ⟨w, hx⟩
    exact ⟨hend G' w, done G' w hx⟩
  · rintro i G' hi ⟨w, hx⟩
    refine ⟨f i, ρf i, hv i G' hi w, hb i hi, ?_⟩
    refine (turn i G' hi w).imp fun b G1 h => ?_
    obtain ⟨rfl, h⟩ := h
    cases b with
    | true =>
      simp only [if_true] at h ⊢
      refine h.imp fun x G2 h => ?_
      obtain ⟨hq, w2⟩ := h
      have hx2 := w2.lst hx
      have hlen : ((List.range i).filterMap g).length ≤ i := Nat.le_trans (List.length_filterMap_le ..) (by rw [List.length_range]; exact Nat.le_refl _)
      refine ⟨_, hx2, by rw [w2.lim, w.lim]; exact hl, Nat.lt_of_lt_of_le (show ((List.range i).filterMap g).length < 2 ^ 20 by omega) (by decide), (w.trans w2).putNew (Nat.le_refl _) _, ?_⟩
      rw [lst_put (lt_of_lst hx2), List.range_succ, List.filterMap_append]
      simp [hq]
    | false =>
      simp only [Bool.false_eq_true, if_false] at h ⊢
      refine ⟨w, ?_⟩
      rw [hx, List.range_succ, List.filterMap_append]
      simp [h]
/-- a comprehension whose items make nothing -/
theorem comp_pure {C : CallF} {ρ : Cut.Env} {e : Ex} {j : Nat} {ds : List D} {f : D → D} {G : Store} {P : Store → Prop} (hl : G.lim ≤ G.cs.length) (hz : ds.length < 2 ^ 20)
    (turn : ∀ d ∈ ds, ∀ G', Grown G G' → wp (ev C e (ρ.set j (some d)) G') fun x G2 => x = f d ∧ G2 = G')
    (done : ∀ G2, Grown G G2 → G2.lst? G.cs.length = some (ds.map f) → P G2) : wp (compGo (.v j) (.one (.fix ds)) none (ev C e) ρ G.cs.length loopFuel 0 (G.new (.lst []))) fun _ G' => P G' := by
  refine compGo_inv (k := ds.length) (fun i G' => Grown G G' ∧ G'.lst? G.cs.length = some ((ds.take i).map f)) (Q := P) (by unfold loopFuel; omega) ⟨(Grown.refl G).new _, lst_new⟩ ?_ ?_
  · rintro G' ⟨g, hx⟩
    rw [List.take_length] at hx
    exact ⟨by show some (ds[ds.length]?) = _; rw [List.getElem?_eq_none (Nat.le_refl _)], done G' g hx⟩
  · rintro i G' hi ⟨g, hx⟩
    refine ⟨ds[i], _, by show some (ds[i]?) = _; rw [List.getElem?_eq_getElem hi], rfl, ?_⟩
    show wp (ev C e (ρ.set j (some ds[i])) G') _
    refine (turn ds[i] (List.getElem_mem hi) G' g).imp fun x G2 h => ?_
    obtain ⟨rfl, rfl⟩ := h
    refine ⟨_, hx, by rw [g.lim]; exact hl, Nat.lt_of_lt_of_le (show ((ds.take i).map f).length < 2 ^ 20 by rw [List.length_map, List.length_take]; omega) (by decide), g.putNew (Nat.le_refl _) _, ?_⟩
    rw [lst_put (lt_of_lst hx), List.take_succ_eq_append_getElem hi, List.map_append]; rfl
/-- _law_page -/
def pageFd (ft fp : Nat) : Fd := ⟨1, 4, (.cons (.set (.v 1) (.bin .ix (.lst (.cons (.k (.int 0)) (.cons (.k (.int 1)) (.cons (.k (.int 1)) (.cons (.k (.int 2)) (.cons (.k (.int 3)) (.cons (.k (.int 17)) (.cons (.k (.int 96)) .nil)))))))) (.call ft (.cons (.v 0) (.cons (.k (.int 7)) .nil))))) (.cons (.set (.v 2) (.comp (.v 3) (.rng1 (.bf .min (.cons (.v 1) (.cons (.k (.int 3)) .nil)))) .none (.call fp (.cons (.v 0) (.cons (.lst (.cons (.k (.int 0)) (.cons (.k (.int 1)) (.cons (.k (.int 255)) (.cons (.call ft (.cons (.v 0) (.cons (.k (.int 256)) .nil))) .nil))))) .nil))) [3])) (.cons (.ret (.bf .tuple (.cons (.bin .add (.v 2) (.bin .mul (.lst (.cons (.k (.int 7)) .nil)) (.bf .max (.cons (.k (.int 0)) (.cons (.bin .sub (.v 1) (.k (.int 3))) .nil))))) .nil))) .nil)))⟩
theorem page_at {T : List Fd} {ft fp fg : Nat} (hT : T[ft]? = some takenFd) (hP : T[fp]? = some (pickFd ft)) (hG : T[fg]? = some (pageFd ft fp)) {k r : Nat} {s : List Int} {B : Store} {P : D → Store → Prop} (h : Rb r s B)
    (hp : ∀ (p : List Int) G', (∀ b ∈ p, Byte b) → p.length ≤ 96 → Mv r s B G' → P (.tup (p.map .int)) G') : wp (run T (k + 3) fg [.ref r] B) P := by
  refine run_wp (fd := pageFd ft fp) hG rfl ?_
  simp only [s_pass, s_nil, s_cons, s_expr, s_set, s_par, s_setIx, s_setKey, s_augIx, s_aug, s_ifs, s_ret, s_retN, s_brk, s_cnt, s_never, w_k, w_v, w_un, w_bin, w_and, w_or, w_ite, w_chain, w_tup, wp_newL, w_lst, w_dic0, w_callD, w_sl, w_rev, w_call, w_bf, w_mt, w_nil, w_cons, w_no, w_some, Tg.bind, bindN, o_add, o_addT, o_sub, o_mul, o_fdiv, o_mod, o_pow, o_eq, o_ne, o_lt, o_le, o_gt, o_ge, o_isT, o_isI, o_isR, o_isN, o_eqB, o_neB, o_not, o_neg, o_lenT, o_int, o_isinI, o_isinT, o_isinB, o_isinI2, o_isinT2, t_ii, t_ib, t_is, t_it, t_il, t_tt, t_tl, t_ts, t_ti, t_tb, t_bb, t_bi, Cut.truthy, zb_bl, Bool.or_false, Bool.false_or, Bool.not_true, Bool.not_false, Bool.true_or, Bool.or_true, tb_dec, tb_some, tb_not, tb_true, tb_false, Cut.start, List.map, List.length, List.replicate, List.append_eq, List.cons_append, List.nil_append, List.getElem?_cons_zero, List.getElem?_cons_succ, List.set_cons_zero, List.set_cons_succ, Nat.reduceAdd, Nat.reduceSub, tyOf, if_true, if_false, Bool.false_eq_true, decide_true, decide_false, wp_ok, pageFd, w_comp, i_rng1]
  refine ⟨by decide, ?_⟩
  have w0 := h.start.new (.lst [D.int 0, D.int 1, D.int 1, D.int 2, D.int 3, D.int 17, D.int 96])
  have e0 := lst_new (G := B) (xs := [D.int 0, D.int 1, D.int 1, D.int 2, D.int 3, D.int 17, D.int 96])
  have hrl := h.start.lt
  have hne : r ≠ B.cs.length := by omega
  refine taken' hT w0.rb (by omega) (by omega) fun v1 G1 a1 a2 m1 => ?_
  have e1 := m1.lst hne e0
  have w1 := m1.rw w0
  obtain ⟨n, rfl⟩ := Int.eq_ofNat_of_zero_le a1
  obtain ⟨q, hq, hix⟩ : ∃ q : Nat, q ≤ 96 ∧ ixAt [D.int 0, D.int 1, D.int 1, D.int 2, D.int 3, D.int 17, D.int 96] (n : Int) = some (.int q) := by
    have : n < 7 := by omega
    rcases n with _ | _ | _ | _ | _ | _ | _ | n
    · exact ⟨0, by decide, rfl⟩
    · exact ⟨1, by decide, rfl⟩
    · exact ⟨1, by decide, rfl⟩
    · exact ⟨2, by decide, rfl⟩
    · exact ⟨3, by decide, rfl⟩
    · exact ⟨17, by decide, rfl⟩
    · exact ⟨96, by decide, rfl⟩
    · omega
  rw [o_ixL e1 hix]
  simp only [s_pass, s_nil, s_cons, s_expr, s_set, s_par, s_setIx, s_setKey, s_augIx, s_aug, s_ifs, s_ret, s_retN, s_brk, s_cnt, s_never, w_k, w_v, w_un, w_bin, w_and, w_or, w_ite, w_chain, w_tup, wp_newL, w_lst, w_dic0, w_callD, w_sl, w_rev, w_call, w_bf, w_mt, w_nil, w_cons, w_no, w_some, Tg.bind, bindN, o_add, o_addT, o_sub, o_mul, o_fdiv, o_mod, o_pow, o_eq, o_ne, o_lt, o_le, o_gt, o_ge, o_isT, o_isI, o_isR, o_isN, o_eqB, o_neB, o_not, o_neg, o_lenT, o_int, o_isinI, o_isinT, o_isinB, o_isinI2, o_isinT2, t_ii, t_ib, t_is, t_it, t_il, t_tt, t_tl, t_ts, t_ti, t_tb, t_bb, t_bi, Cut.truthy, zb_bl, Bool.or_false, Bool.false_or, Bool.not_true, Bool.not_false, Bool.true_or, Bool.or_true, tb_dec, tb_some, tb_not, tb_true, tb_false, Cut.start, List.map, List.length, List.replicate, List.append_eq, List.cons_append, List.nil_append, List.getElem?_cons_zero, List.getElem?_cons_succ, List.set_cons_zero, List.set_cons_succ, Nat.reduceAdd, Nat.reduceSub, tyOf, if_true, if_false, Bool.false_eq_true, decide_true, decide_false, wp_ok, o_min]
  refine ⟨by omega, by omega, ?_⟩
  rw [show (min (q : Int) 3).toNat = min q 3 by omega]
  refine comp_rng (fun d => ∃ b : Int, d = .int b ∧ Byte b) w1.rb (by omega) (fun i G' hi w => ?_) fun zs G2 hz1 hz2 w2 e2 => ?_
  · simp only [s_pass, s_nil, s_cons, s_expr, s_set, s_par, s_setIx, s_setKey, s_augIx, s_aug, s_ifs, s_ret, s_retN, s_brk, s_cnt, s_never, w_k, w_v, w_un, w_bin, w_and, w_or, w_ite, w_chain, w_tup, wp_newL, w_lst, w_dic0, w_callD, w_sl, w_rev, w_call, w_bf, w_mt, w_nil, w_cons, w_no, w_some, Tg.bind, bindN, o_add, o_addT, o_sub, o_mul, o_fdiv, o_mod, o_pow, o_eq, o_ne, o_lt, o_le, o_gt, o_ge, o_isT, o_isI, o_isR, o_isN, o_eqB, o_neB, o_not, o_neg, o_lenT, o_int, o_isinI, o_isinT, o_isinB, o_isinI2, o_isinT2, t_ii, t_ib, t_is, t_it, t_il, t_tt, t_tl, t_ts, t_ti, t_tb, t_bb, t_bi, Cut.truthy, zb_bl, Bool.or_false, Bool.false_or, Bool.not_true, Bool.not_false, Bool.true_or, Bool.or_true, tb_dec, tb_some, tb_not, tb_true, tb_false, Cut.start, List.map, List.length, List.replicate, List.append_eq, List.cons_append, List.nil_append, List.getElem?_cons_zero, List.getElem?_cons_succ, List.set_cons_zero, List.set_cons_succ, Nat.reduceAdd, Nat.reduceSub, tyOf, if_true, if_false, Bool.false_eq_true, decide_true, decide_false, wp_ok, wipeE]
    refine taken' hT w.rb (by decide) (by decide) fun v G3 b1 b2 m3 => ?_
    refine ⟨by decide, ?_⟩
    have w3 := (m3.rw w.rb.start).new (.lst [D.int 0, D.int 1, D.int 255, D.int v])
    have e3 := lst_new (G := G3) (xs := [D.int 0, D.int 1, D.int 255, D.int v])
    have hl3 : r < G3.cs.length := Nat.lt_of_lt_of_le w.rb.start.lt (by rw [m3.len]; exact Nat.le_refl _)
    refine pick' hT hP w3.rb e3 (by omega) (by show 0 < 4; decide) (by show 4 < 2 ^ 20; decide) rfl fun x hx G4 m4 => ?_
    refine ⟨?_, m4.rw w3⟩
    simp only [List.mem_cons, List.not_mem_nil, or_false] at hx
    rcases hx with rfl | rfl | rfl | rfl
    · exact ⟨0, rfl, by decide, by decide⟩
    · exact ⟨1, rfl, by decide, by decide⟩
    · exact ⟨255, rfl, by decide, by decide⟩
    · exact ⟨v, rfl, b1, by omega⟩
  · obtain ⟨A, rfl, hA⟩ := all_ints zs hz2
    rw [List.length_map] at hz1
    have hl1 : B.cs.length ≤ G1.cs.length := w1.len
    have w02 := w1.trans w2
    refine ⟨by decide, ?_⟩
    simp only [s_pass, s_nil, s_cons, s_expr, s_set, s_par, s_setIx, s_setKey, s_augIx, s_aug, s_ifs, s_ret, s_retN, s_brk, s_cnt, s_never, w_k, w_v, w_un, w_bin, w_and, w_or, w_ite, w_chain, w_tup, wp_newL, w_lst, w_dic0, w_callD, w_sl, w_rev, w_call, w_bf, w_mt, w_nil, w_cons, w_no, w_some, Tg.bind, bindN, o_add, o_addT, o_sub, o_mul, o_fdiv, o_mod, o_pow, o_eq, o_ne, o_lt, o_le, o_gt, o_ge, o_isT, o_isI, o_isR, o_isN, o_eqB, o_neB, o_not, o_neg, o_lenT, o_int, o_isinI, o_isinT, o_isinB, o_isinI2, o_isinT2, t_ii, t_ib, t_is, t_it, t_il, t_tt, t_tl, t_ts, t_ti, t_tb, t_bb, t_bi, Cut.truthy, zb_bl, Bool.or_false, Bool.false_or, Bool.not_true, Bool.not_false, Bool.true_or, Bool.or_true, tb_dec, tb_some, tb_not, tb_true, tb_false, Cut.start, List.map, List.length, List.replicate, List.append_eq, List.cons_append, List.nil_append, List.getElem?_cons_zero, List.getElem?_cons_succ, List.set_cons_zero, List.set_cons_succ, Nat.reduceAdd, Nat.reduceSub, tyOf, if_true, if_false, Bool.false_eq_true, decide_true, decide_false, wp_ok, o_max]
    have e2' : (G2.new (.lst [D.int 7])).lst? G1.cs.length = some (A.map D.int) := lst_new_old e2
    have ll2 : G2.lim ≤ G2.cs.length := w02.rb.ll
    rw [o_mulL (K := max 0 ((q : Int) - 3)) (k := q - 3) (lst_new (G := G2) (xs := [D.int 7])) ll2 (by omega) (by omega)]
    have hlim : G2.lim ≤ G1.cs.length := by rw [w2.glim]; exact w1.rb.ll
    rw [o_addL (xs := A.map D.int) (ys := List.replicate (q - 3) (D.int 7)) (lst_new_old e2') lst_new hlim (by rw [len_new]; show G2.lim ≤ G2.cs.length + 1; omega)]
    have hlen : (A.map D.int ++ List.replicate (q - 3) (D.int 7)).length ≤ 96 := by
      rw [List.length_append, List.length_map, List.length_replicate, hz1]; omega
    refine ⟨Nat.le_trans hlen (by decide), ?_⟩
    rw [show A.map D.int ++ List.replicate (q - 3) (D.int 7) = (A ++ List.replicate (q - 3) (7 : Int)).map .int by rw [List.map_append, List.map_replicate]]
    rw [o_tupL lst_new]
    refine Rw.out (((w02.new _).new _).new _) h (belows_int _ _) fun G' m => ?_
    refine hp _ G' ?_ ?_ m
    · intro b hb
      rcases List.mem_append.mp hb with hb | hb
      · exact hA b hb
      · rw [(List.mem_replicate.mp hb).2]; exact ⟨by decide, by decide⟩
    · have := hlen
      rw [List.length_append, List.length_map, List.length_replicate] at this
      rw [List.length_append, List.length_replicate]; exact this

/-! batches -/
abbrev Bt := List (Int × List Int)
def btD (b : Bt) : D := .tup (b.map fun p => .tup [.int p.1, .tup (p.2.map .int)])
/-- a batch of at most m pages of P, each of at most z bytes -/
structure BtOk (P m z : Nat) (b : Bt) : Prop where
  pos : 0 < b.length
  le : b.length ≤ m
  asc : (b.map (·.1)).Pairwise (· < ·)
  num : ∀ p ∈ b, 0 ≤ p.1 ∧ p.1 < P
  page : ∀ p ∈ b, (∀ x ∈ p.2, Byte x) ∧ p.2.length ≤ z
theorem below_bt (n : Nat) (b : Bt) : below n (btD b) = true := by
  show belows n (b.map _) = true
  induction b with
  | nil => rfl
  | cons p b ih => show (belows n [.int p.1, .tup (p.2.map .int)] && belows n (b.map _)) = true; rw [ih]; show ((true && (belows n (p.2.map D.int) && true)) && true) = true; rw [belows_int]; rfl
def batchFd (ft fg : Nat) : Fd := ⟨3, 7, (.cons (.par [3, 4] (.cons (.rng1D false (.v 1)) (.cons (.lst .nil) .nil))) (.cons (.for_ (.v 5) (.rng1 (.bin .add (.k (.int 1)) (.call ft (.cons (.v 0) (.cons (.bf .min (.cons (.v 1) (.cons (.v 2) .nil))) .nil))))) (.cons (.expr (.mt .append (.v 4) (.cons (.mt .popAt (.v 3) (.cons (.call ft (.cons (.v 0) (.cons (.bf .len (.cons (.v 3) .nil)) .nil))) .nil)) .nil))) .nil)) (.cons (.ret (.bf .tuple (.cons (.comp (.v 6) (.one (.bf .sorted (.cons (.v 4) .nil))) .none (.tup (.cons (.v 6) (.cons (.call fg (.cons (.v 0) .nil)) .nil))) [6]) .nil))) .nil)))⟩
theorem w_rng1D {C : CallF} {ρ : Env} {G : Store} {P : D → Store → Prop} {t : Bool} {e : Ex} : wp (ev C (.rng1D t e) ρ G) P = wp (ev C e ρ G) fun x G1 => match x with
  | .int j => wp (rngVD t 0 j G1) P
  | _ => False := by
  show wp (mRng1D t (ev C e) ρ G) P = _
  unfold mRng1D; simp only [wp_bind]; congr; funext x G1
  cases x <;> try rfl
  rw [wp_noExc]
theorem rngL_at {P : Nat} {G : Store} {Q : D → Store → Prop} (h : P ≤ 2 ^ 20) : wp (rngVD false 0 (P : Int) G) Q = (P ≤ sizeLine ∧ Q (.ref G.cs.length) (G.new (.lst (((List.range P).map fun (i : Nat) => (i : Int)).map .int)))) := by
  unfold rngVD
  rw [if_pos (by omega)]
  simp only [Bool.false_eq_true, if_false]
  rw [wp_newL]
  have : rgD 0 (P : Int) = ((List.range P).map fun (i : Nat) => (i : Int)).map .int := by
    unfold rgD
    rw [List.map_map, show ((P : Int) - 0).toNat = P by omega]
    refine List.map_congr_left fun i _ => ?_
    show D.int (0 + (i : Int)) = D.int (i : Int)
    rw [Int.zero_add]
  rw [this, List.length_map, List.length_map, List.length_range]
theorem o_popAt {G : Store} {P : D → Store → Prop} {n k : Nat} {xs : List D} {d : D} (hx : G.lst? n = some xs) (hl : G.lim ≤ n) (hd : xs[k]? = some d) (hk : k < 2 ^ 40) : wp (mt .popAt (.ref n) [.int (k : Int)] G) P = P d (G.put n (.lst (xs.eraseIdx k))) := by
  show wp (popAtD (.ref n) (.int (k : Int)) G) P = _
  unfold popAtD
  simp only [hx, ixN_nat (List.getElem?_eq_some_iff.mp hd).1, hd]
  rw [if_pos ⟨hl, by omega, by omega⟩]; rfl
theorem ty_popAt {G : Store} {n : Nat} {xs : List D} (hx : G.lst? n = some xs) : mtTy .popAt (.ref n) G = true := by
  show (G.lst? n).isSome = true
  rw [hx]; rfl
theorem lstI_at {G : Store} {n : Nat} {xs : List Int} (hx : G.lst? n = some (xs.map .int)) : lstI (.ref n) G = some xs := by
  show (G.lst? n).bind intsD = _
  rw [hx]; exact intsD_map xs
theorem o_sorted {G : Store} {P : D → Store → Prop} {n : Nat} {xs : List Int} (hx : G.lst? n = some (xs.map .int)) : wp (bf .sorted [.ref n] G) P = (xs.length ≤ sizeLine ∧ P (.ref G.cs.length) (G.new (.lst ((sortI xs).map .int)))) := by
  show wp (sortedD (.ref n) G) P = _
  unfold sortedD
  rw [lstI_at hx]
  dsimp only
  rw [wp_newL, List.length_map]
  show (((sortI xs).length ≤ sizeLine) ∧ _) = _
  unfold sortI
  rw [List.length_mergeSort]
theorem sort_perm (xs : List Int) : (sortI xs).Perm xs := List.mergeSort_perm _ _
theorem sort_asc (xs : List Int) : (sortI xs).Pairwise (· ≤ ·) := by
  have := List.pairwise_mergeSort (le := fun a b : Int => decide (a ≤ b)) (fun a b c h h' => by simp only [decide_eq_true_eq] at h h' ⊢; omega) (fun a b => by simp only [Bool.or_eq_true, decide_eq_true_eq]; omega) xs
  exact this.imp fun h => of_decide_eq_true h
theorem sort_lt {xs : List Int} (h : xs.Nodup) : (sortI xs).Pairwise (· < ·) := by
  have h1 := sort_asc xs
  have h2 : (sortI xs).Nodup := (sort_perm xs).nodup_iff.mpr h
  have h2 : (sortI xs).Pairwise (· ≠ ·) := h2
  exact (h1.and h2).imp fun ⟨a, b⟩ => by omega
theorem erase_perm {xs : List Int} {k : Nat} {x : Int} (h : xs[k]? = some x) : (x :: xs.eraseIdx k).Perm xs := by
  obtain ⟨hk, e⟩ := List.getElem?_eq_some_iff.mp h
  rw [List.eraseIdx_eq_take_drop_succ]
  conv => rhs; rw [← List.take_append_drop k xs, List.drop_eq_getElem_cons hk, e]
  exact List.perm_middle.symm
theorem map_eraseIdx {α β : Type} (f : α → β) : ∀ (xs : List α) (k : Nat), (xs.map f).eraseIdx k = (xs.eraseIdx k).map f
  | [], _ => rfl
  | _ :: _, 0 => rfl
  | x :: xs, k + 1 => by show f x :: (xs.map f).eraseIdx k = f x :: (xs.eraseIdx k).map f; rw [map_eraseIdx f xs k]
theorem batch_at {T : List Fd} {ft fp fg fb : Nat} (hT : T[ft]? = some takenFd) (hP : T[fp]? = some (pickFd ft)) (hG : T[fg]? = some (pageFd ft fp)) (hB : T[fb]? = some (batchFd ft fg)) {k r : Nat} {s : List Int} {B : Store} {Q : D → Store → Prop} {P m : Nat} {Pi Mi : Int} (hPi : Pi = P) (hMi : Mi = m) (hp : 0 < P) (hm : 0 < m) (hp2 : P ≤ 1000) (h : Rb r s B)
    (hq : ∀ (b : Bt) G', BtOk P (min P m) 96 b → Mv r s B G' → Q (btD b) G') : wp (run T (k + 4) fb [.ref r, .int Pi, .int Mi] B) Q := by
  subst hPi; subst hMi
  have hrl := h.start.lt
  have ll := h.ll
  refine run_wp (fd := batchFd ft fg) hB rfl ?_
  simp only [s_pass, s_nil, s_cons, s_expr, s_set, s_par, s_setIx, s_setKey, s_augIx, s_aug, s_ifs, s_ret, s_retN, s_brk, s_cnt, s_never, w_k, w_v, w_un, w_bin, w_and, w_or, w_ite, w_chain, w_tup, wp_newL, w_lst, w_dic0, w_callD, w_sl, w_rev, w_call, w_bf, w_mt, w_nil, w_cons, w_no, w_some, Tg.bind, bindN, o_add, o_addT, o_sub, o_mul, o_fdiv, o_mod, o_pow, o_eq, o_ne, o_lt, o_le, o_gt, o_ge, o_isT, o_isI, o_isR, o_isN, o_eqB, o_neB, o_not, o_neg, o_lenT, o_int, o_isinI, o_isinT, o_isinB, o_isinI2, o_isinT2, t_ii, t_ib, t_is, t_it, t_il, t_tt, t_tl, t_ts, t_ti, t_tb, t_bb, t_bi, Cut.truthy, zb_bl, Bool.or_false, Bool.false_or, Bool.not_true, Bool.not_false, Bool.true_or, Bool.or_true, tb_dec, tb_some, tb_not, tb_true, tb_false, Cut.start, List.map, List.length, List.replicate, List.append_eq, List.cons_append, List.nil_append, List.getElem?_cons_zero, List.getElem?_cons_succ, List.set_cons_zero, List.set_cons_succ, Nat.reduceAdd, Nat.reduceSub, tyOf, if_true, if_false, Bool.false_eq_true, decide_true, decide_false, wp_ok, batchFd, w_rng1D, rngL_at (show P ≤ 2 ^ 20 by omega), s_for, i_rng1, w_comp, i_one]
  refine ⟨Nat.le_trans hp2 (by decide), by decide, ?_⟩
  simp only [s_pass, s_nil, s_cons, s_expr, s_set, s_par, s_setIx, s_setKey, s_augIx, s_aug, s_ifs, s_ret, s_retN, s_brk, s_cnt, s_never, w_k, w_v, w_un, w_bin, w_and, w_or, w_ite, w_chain, w_tup, wp_newL, w_lst, w_dic0, w_callD, w_sl, w_rev, w_call, w_bf, w_mt, w_nil, w_cons, w_no, w_some, Tg.bind, bindN, o_add, o_addT, o_sub, o_mul, o_fdiv, o_mod, o_pow, o_eq, o_ne, o_lt, o_le, o_gt, o_ge, o_isT, o_isI, o_isR, o_isN, o_eqB, o_neB, o_not, o_neg, o_lenT, o_int, o_isinI, o_isinT, o_isinB, o_isinI2, o_isinT2, t_ii, t_ib, t_is, t_it, t_il, t_tt, t_tl, t_ts, t_ti, t_tb, t_bb, t_bi, Cut.truthy, zb_bl, Bool.or_false, Bool.false_or, Bool.not_true, Bool.not_false, Bool.true_or, Bool.or_true, tb_dec, tb_some, tb_not, tb_true, tb_false, Cut.start, List.map, List.length, List.replicate, List.append_eq, List.cons_append, List.nil_append, List.getElem?_cons_zero, List.getElem?_cons_succ, List.set_cons_zero, List.set_cons_succ, Nat.reduceAdd, Nat.reduceSub, tyOf, if_true, if_false, Bool.false_eq_true, decide_true, decide_false, wp_ok, o_min]
  have w0 := (h.start.new (.lst (((List.range P).map fun (i : Nat) => (i : Int)).map D.int))).new (.lst [])
  have eR : ((B.new (.lst (((List.range P).map fun (i : Nat) => (i : Int)).map D.int))).new (.lst [])).lst? B.cs.length = some (((List.range P).map fun (i : Nat) => (i : Int)).map D.int) := lst_new_old lst_new
  have eF : ((B.new (.lst (((List.range P).map fun (i : Nat) => (i : Int)).map D.int))).new (.lst [])).lst? (B.cs.length + 1) = some ([] : List D) := by
    have := lst_new (G := B.new (.lst (((List.range P).map fun (i : Nat) => (i : Int)).map D.int))) (xs := [])
    rw [len_new] at this; exact this
  have hlen2 : ((B.new (.lst (((List.range P).map fun (i : Nat) => (i : Int)).map D.int)))).cs.length = B.cs.length + 1 := len_new
  rw [hlen2]
  generalize (B.new (.lst (((List.range P).map fun (i : Nat) => (i : Int)).map D.int))).new (.lst []) = B1 at w0 eR eF ⊢
  refine taken' hT w0.rb (by omega) (by omega) fun v1 G1 a1 a2 m1 => ?_
  obtain ⟨n, rfl⟩ := Int.eq_ofNat_of_zero_le a1
  refine ⟨by omega, by omega, ?_⟩
  rw [show (1 + (n : Int)).toNat = n + 1 by omega]
  have w1 := m1.rw w0
  have hn : n + 1 ≤ min P m := by omega
  refine s_forGo (fun i ρ G' => ∃ (x5 : Option D) (xs fs : List Int), ρ = [some (.ref r), some (.int (P : Int)), some (.int (m : Int)), some (.ref B.cs.length), some (.ref (B.cs.length + 1)), x5, none] ∧ Rw B r s G' ∧ G'.lst? B.cs.length = some (xs.map .int) ∧ G'.lst? (B.cs.length + 1) = some (fs.map .int) ∧ fs.length = i ∧ (fs ++ xs).Perm ((List.range P).map fun (i : Nat) => (i : Int))) (n + 1) (by unfold loopFuel; omega) ?_ ?_ ?_
  · exact ⟨none, _, [], rfl, w1, m1.lst (by omega) eR, m1.lst (by omega) eF, rfl, .refl _⟩
  · rintro i ρ G' hi ⟨x5, xs, fs, rfl, w, hx, hf, hl, hperm⟩
    have hlx : xs.length + i = P := by
      have := hperm.length_eq
      rw [List.length_append, List.length_map, List.length_range] at this; omega
    refine ⟨_, rng_at hi, _, rfl, ?_⟩
    simp only [s_pass, s_nil, s_cons, s_expr, s_set, s_par, s_setIx, s_setKey, s_augIx, s_aug, s_ifs, s_ret, s_retN, s_brk, s_cnt, s_never, w_k, w_v, w_un, w_bin, w_and, w_or, w_ite, w_chain, w_tup, wp_newL, w_lst, w_dic0, w_callD, w_sl, w_rev, w_call, w_bf, w_mt, w_nil, w_cons, w_no, w_some, Tg.bind, bindN, o_add, o_addT, o_sub, o_mul, o_fdiv, o_mod, o_pow, o_eq, o_ne, o_lt, o_le, o_gt, o_ge, o_isT, o_isI, o_isR, o_isN, o_eqB, o_neB, o_not, o_neg, o_lenT, o_int, o_isinI, o_isinT, o_isinB, o_isinI2, o_isinT2, t_ii, t_ib, t_is, t_it, t_il, t_tt, t_tl, t_ts, t_ti, t_tb, t_bb, t_bi, Cut.truthy, zb_bl, Bool.or_false, Bool.false_or, Bool.not_true, Bool.not_false, Bool.true_or, Bool.or_true, tb_dec, tb_some, tb_not, tb_true, tb_false, Cut.start, List.map, List.length, List.replicate, List.append_eq, List.cons_append, List.nil_append, List.getElem?_cons_zero, List.getElem?_cons_succ, List.set_cons_zero, List.set_cons_succ, Nat.reduceAdd, Nat.reduceSub, tyOf, if_true, if_false, Bool.false_eq_true, decide_true, decide_false, wp_ok]
    refine ⟨ty_append hf, ty_popAt hx, ?_⟩
    rw [o_lenL hx]
    refine taken' hT w.rb (by rw [List.length_map]; omega) (by rw [List.length_map]; omega) fun v G2 b1 b2 m2 => ?_
    obtain ⟨q, rfl⟩ := Int.eq_ofNat_of_zero_le b1
    rw [List.length_map] at b2
    have hq' : q < xs.length := by omega
    have w2 := m2.rw w
    have hlim : G2.lim ≤ B.cs.length := by rw [w2.glim]; exact ll
    have hx2 := m2.lst (n := B.cs.length) (by omega) hx
    have hf2 := m2.lst (n := B.cs.length + 1) (by omega) hf
    rw [o_popAt (k := q) (d := .int xs[q]) hx2 hlim (by rw [List.getElem?_map, List.getElem?_eq_getElem hq']; rfl) (by omega)]
    have hf3 : (G2.put B.cs.length (.lst ((xs.map D.int).eraseIdx q))).lst? (B.cs.length + 1) = some (fs.map .int) := by rw [lst_put_ne (by omega)]; exact hf2
    rw [o_append hf3 (by show G2.lim ≤ _; omega) (Nat.lt_of_lt_of_le (show (fs.map D.int).length < 2000 by rw [List.length_map]; omega) (by decide))]
    refine ⟨_, xs.eraseIdx q, fs ++ [xs[q]], rfl, (w2.own (Nat.le_refl _) _).own (by omega) _, ?_, ?_, by rw [List.length_append, hl]; rfl, ?_⟩
    · rw [lst_put_ne (by omega), lst_put (lt_of_lst hx2), map_eraseIdx]
    · rw [lst_put (by rw [len_put]; exact lt_of_lst hf2), List.map_append]; rfl
    · refine List.Perm.trans ?_ hperm
      rw [List.append_assoc]
      exact (erase_perm (List.getElem?_eq_getElem hq')).append_left fs
  · rintro ρ G' ⟨x5, xs, fs, rfl, w, hx, hf, hl, hperm⟩
    refine ⟨rng_end, ?_⟩
    simp only [s_pass, s_nil, s_cons, s_expr, s_set, s_par, s_setIx, s_setKey, s_augIx, s_aug, s_ifs, s_ret, s_retN, s_brk, s_cnt, s_never, w_k, w_v, w_un, w_bin, w_and, w_or, w_ite, w_chain, w_tup, wp_newL, w_lst, w_dic0, w_callD, w_sl, w_rev, w_call, w_bf, w_mt, w_nil, w_cons, w_no, w_some, Tg.bind, bindN, o_add, o_addT, o_sub, o_mul, o_fdiv, o_mod, o_pow, o_eq, o_ne, o_lt, o_le, o_gt, o_ge, o_isT, o_isI, o_isR, o_isN, o_eqB, o_neB, o_not, o_neg, o_lenT, o_int, o_isinI, o_isinT, o_isinB, o_isinI2, o_isinT2, t_ii, t_ib, t_is, t_it, t_il, t_tt, t_tl, t_ts, t_ti, t_tb, t_bb, t_bi, Cut.truthy, zb_bl, Bool.or_false, Bool.false_or, Bool.not_true, Bool.not_false, Bool.true_or, Bool.or_true, tb_dec, tb_some, tb_not, tb_true, tb_false, Cut.start, List.map, List.length, List.replicate, List.append_eq, List.cons_append, List.nil_append, List.getElem?_cons_zero, List.getElem?_cons_succ, List.set_cons_zero, List.set_cons_succ, Nat.reduceAdd, Nat.reduceSub, tyOf, if_true, if_false, Bool.false_eq_true, decide_true, decide_false, wp_ok]
    rw [o_sorted hf]
    refine ⟨Nat.le_trans (show fs.length ≤ 1000 by omega) (by decide), ?_⟩
    have hs : (sortI fs).length = n + 1 := by rw [(sort_perm fs).length_eq, hl]
    have hsx : (G'.new (.lst ((sortI fs).map D.int))).lst? G'.cs.length = some ((sortI fs).map D.int) := lst_new
    have hsrc : srcOf (.ref G'.cs.length) (G'.new (.lst ((sortI fs).map D.int))) = some (.cell G'.cs.length) := by
      show (((G'.new (.lst ((sortI fs).map D.int))).lst? G'.cs.length).map fun _ => Src.cell G'.cs.length) = _
      rw [hsx]; rfl
    rw [hsrc]
    have w3 := w.new (.lst ((sortI fs).map D.int))
    have hrl' : r ≠ G'.cs.length := by have := w.len; omega
    have hnd : ((sortI fs)).Pairwise (· < ·) := by
      refine sort_lt ?_
      have h1 : ((List.range P).map fun (i : Nat) => (i : Int)).Nodup := by
        refine List.Pairwise.map _ (fun a b hab => ?_) List.nodup_range
        omega
      have h2 := hperm.nodup_iff.mpr h1
      exact (List.nodup_append.mp h2).1
    have hmem : ∀ x ∈ sortI fs, 0 ≤ x ∧ x < P := fun x hx => by
      have h1 := (sort_perm fs).mem_iff.mp hx
      have h2 := hperm.mem_iff.mp (List.mem_append_left xs h1)
      obtain ⟨i, hi, e⟩ := List.mem_map.mp h2
      have := List.mem_range.mp hi
      omega
    generalize hS : sortI fs = S at *
    refine comp_w (fun i => .int (S.getD i 0)) (fun i => [some (.ref r), some (.int (P : Int)), some (.int (m : Int)), some (.ref B.cs.length), some (.ref (B.cs.length + 1)), x5, some (.int (S.getD i 0))])
      (fun i d => ∃ p : List Int, d = D.tup [.int (S.getD i 0), .tup (p.map .int)] ∧ (∀ b ∈ p, Byte b) ∧ p.length ≤ 96) w3.rb (m := n + 1) (by omega) (fun i G2 hi w2 => ?_) (fun G2 w2 => ?_) (fun i hi => rfl) (fun i G2 hi w2 => ?_) fun zs G2 hz1 hz2 w2 e2 => ?_
    · have := w2.lst hrl' hsx
      show (G2.lst? G'.cs.length).map (fun xs => xs[i]?) = _
      rw [this]
      show some ((S.map D.int)[i]?) = _
      rw [List.getElem?_map, List.getElem?_eq_getElem (by omega), List.getD_eq_getElem?_getD, List.getElem?_eq_getElem (by omega)]; rfl
    · have := w2.lst hrl' hsx
      show (G2.lst? G'.cs.length).map (fun xs => xs[n + 1]?) = _
      rw [this]
      show some ((S.map D.int)[n + 1]?) = _
      rw [List.getElem?_eq_none (by rw [List.length_map]; omega)]
    · simp only [s_pass, s_nil, s_cons, s_expr, s_set, s_par, s_setIx, s_setKey, s_augIx, s_aug, s_ifs, s_ret, s_retN, s_brk, s_cnt, s_never, w_k, w_v, w_un, w_bin, w_and, w_or, w_ite, w_chain, w_tup, wp_newL, w_lst, w_dic0, w_callD, w_sl, w_rev, w_call, w_bf, w_mt, w_nil, w_cons, w_no, w_some, Tg.bind, bindN, o_add, o_addT, o_sub, o_mul, o_fdiv, o_mod, o_pow, o_eq, o_ne, o_lt, o_le, o_gt, o_ge, o_isT, o_isI, o_isR, o_isN, o_eqB, o_neB, o_not, o_neg, o_lenT, o_int, o_isinI, o_isinT, o_isinB, o_isinI2, o_isinT2, t_ii, t_ib, t_is, t_it, t_il, t_tt, t_tl, t_ts, t_ti, t_tb, t_bb, t_bi, Cut.truthy, zb_bl, Bool.or_false, Bool.false_or, Bool.not_true, Bool.not_false, Bool.true_or, Bool.or_true, tb_dec, tb_some, tb_not, tb_true, tb_false, Cut.start, List.map, List.length, List.replicate, List.append_eq, List.cons_append, List.nil_append, List.getElem?_cons_zero, List.getElem?_cons_succ, List.set_cons_zero, List.set_cons_succ, Nat.reduceAdd, Nat.reduceSub, tyOf, if_true, if_false, Bool.false_eq_true, decide_true, decide_false, wp_ok]
      refine page_at hT hP hG w2.rb fun p G3 hp1 hp2' m3 => ?_
      exact ⟨by decide, ⟨p, rfl, hp1, hp2'⟩, m3.rw w2.rb.start⟩
    · rw [o_tupL e2]
      have hex : ∃ b : Bt, zs = b.map (fun p => D.tup [.int p.1, .tup (p.2.map .int)]) ∧ b.map (·.1) = S ∧ ∀ p ∈ b, (∀ x ∈ p.2, Byte x) ∧ p.2.length ≤ 96 := by
        have gen : ∀ (S : List Int) (zs : List D), zs.length = S.length → (∀ i z, zs[i]? = some z → ∃ p : List Int, z = D.tup [.int (S.getD i 0), .tup (p.map .int)] ∧ (∀ b ∈ p, Byte b) ∧ p.length ≤ 96) → ∃ b : Bt, zs = b.map (fun p => D.tup [.int p.1, .tup (p.2.map .int)]) ∧ b.map (·.1) = S ∧ ∀ p ∈ b, (∀ x ∈ p.2, Byte x) ∧ p.2.length ≤ 96 := by
          intro S
          induction S with
          | nil => intro zs hz _; exact ⟨[], by simpa using hz, rfl, fun _ h => nomatch h⟩
          | cons x S ih =>
            intro zs hz k
            cases zs with
            | nil => simp at hz
            | cons z zs =>
              obtain ⟨b, h1, h2, h3⟩ := ih zs (by simpa using hz) fun i y hy => k (i + 1) y (by simpa using hy)
              obtain ⟨p, e, q1, q2⟩ := k 0 z rfl
              refine ⟨(x, p) :: b, by rw [h1, e]; rfl, by rw [← h2]; rfl, fun y hy => ?_⟩
              rcases List.mem_cons.mp hy with rfl | hy
              · exact ⟨q1, q2⟩
              · exact h3 y hy
        exact gen S zs (by omega) hz2
      obtain ⟨b, rfl, hb1, hb2⟩ := hex
      have hbl : b.length = n + 1 := by have := congrArg List.length hb1; rw [List.length_map] at this; omega
      refine Rw.out (w3.trans w2) h (below_bt _ b) fun G3 m3 => hq b G3 ⟨by omega, by omega, by rw [hb1]; exact hnd, fun p hp => ?_, hb2⟩ m3
      exact hmem p.1 (by rw [← hb1]; exact List.mem_map_of_mem hp)
end Cut
/-! Least and greatest of tuples; orders of data. -/
namespace Cut
open PySem
mutual
inductive Sh where
  | int | str
  | tup (l : ShL)
inductive ShL where
  | many (s : Sh)
  | nil
  | cons (s : Sh) (r : ShL)
end
mutual
def Sh.has : Sh → D → Prop
  | .int, .int _ => True
  | .str, .str s => PyData.strOk ⟨s.toArray⟩ = true
  | .tup l, .tup xs => l.has xs
  | _, _ => False
def ShL.has : ShL → List D → Prop
  | .many s, xs => ∀ x ∈ xs, s.has x
  | .nil, xs => xs = []
  | .cons _ _, [] => True
  | .cons s r, x :: xs => s.has x ∧ r.has xs
end
mutual
def Sh.dep : Sh → Nat
  | .int | .str => 0
  | .tup l => l.dep + 1
def ShL.dep : ShL → Nat
  | .many s => s.dep
  | .nil => 0
  | .cons s r => max s.dep r.dep
end
structure PyOk (n : Nat) (d : D) (p : PyData) : Prop where
  py : pyW (fun _ => none) d = some p
  lay : p.canLay0 = true
  dep : p.depth ≤ n
  non : notNon p = true
structure PysOk (n : Nat) (ds : List D) (ps : List PyData) : Prop where
  py : pyWs (fun _ => none) ds = some ps
  lay : PyData.canLayAll0 ps = true
  dep : PyData.depthAll ps ≤ n
theorem PysOk.nil (n : Nat) : PysOk n [] [] := ⟨rfl, rfl, Nat.zero_le _⟩
theorem PysOk.cons {n : Nat} {d : D} {p : PyData} {ds : List D} {ps : List PyData} (h : PyOk n d p) (t : PysOk n ds ps) : PysOk n (d :: ds) (p :: ps) := by
  refine ⟨?_, ?_, ?_⟩
  · unfold pyWs; rw [h.py, t.py]
  · unfold PyData.canLayAll0; rw [h.lay, t.lay]; rfl
  · unfold PyData.depthAll; exact Nat.max_le.mpr ⟨h.dep, t.dep⟩
theorem PyOk.mono {n m : Nat} {d : D} {p : PyData} (h : PyOk n d p) (k : n ≤ m) : PyOk m d p := ⟨h.py, h.lay, Nat.le_trans h.dep k, h.non⟩
theorem PysOk.mono {n m : Nat} {d : List D} {p : List PyData} (h : PysOk n d p) (k : n ≤ m) : PysOk m d p := ⟨h.py, h.lay, Nat.le_trans h.dep k⟩
mutual
theorem Sh.ok : ∀ (s : Sh) (d : D), s.has d → ∃ p, PyOk s.dep d p
  | .int, d, h => by
    cases d <;> try (exact h.elim)
    case int i => exact ⟨.int i, rfl, rfl, Nat.le_refl _, rfl⟩
  | .str, d, h => by
    cases d <;> try (exact h.elim)
    case str s => exact ⟨.str ⟨s.toArray⟩, rfl, h, Nat.le_refl _, rfl⟩
  | .tup l, d, h => by
    cases d <;> try (exact h.elim)
    case tup xs =>
      obtain ⟨ps, k⟩ := ShL.ok l xs h
      refine ⟨.tuple ps, ?_, k.lay, Nat.succ_le_succ k.dep, rfl⟩
      unfold pyW; rw [k.py]; rfl
theorem ShL.ok : ∀ (l : ShL) (ds : List D), l.has ds → ∃ ps, PysOk l.dep ds ps
  | .many s, [], _ => ⟨[], .nil _⟩
  | .many s, d :: ds, h => by
    obtain ⟨p, hp⟩ := Sh.ok s d (h d (List.mem_cons_self ..))
    have go : ∀ ds : List D, (∀ x ∈ ds, s.has x) → ∃ ps, PysOk s.dep ds ps := by
      intro ds
      induction ds with
      | nil => intro _; exact ⟨[], .nil _⟩
      | cons d ds ih =>
        intro h
        obtain ⟨p, hp⟩ := Sh.ok s d (h d (List.mem_cons_self ..))
        obtain ⟨ps, hps⟩ := ih fun x hx => h x (List.mem_cons_of_mem _ hx)
        exact ⟨p :: ps, .cons hp hps⟩
    obtain ⟨ps, hps⟩ := go ds fun x hx => h x (List.mem_cons_of_mem _ hx)
    exact ⟨p :: ps, .cons hp hps⟩
  | .nil, ds, h => by
    have h : ds = [] := h
    subst h; exact ⟨[], .nil _⟩
  | .cons s r, [], _ => ⟨[], .nil _⟩
  | .cons s r, d :: ds, h => by
    have h : s.has d ∧ r.has ds := h
    obtain ⟨p, hp⟩ := Sh.ok s d h.1
    obtain ⟨ps, hps⟩ := ShL.ok r ds h.2
    exact ⟨p :: ps, .cons (hp.mono (Nat.le_max_left _ _)) (hps.mono (Nat.le_max_right _ _))⟩
end

theorem py_tup {xs : List D} {p : PyData} (h : pyW (fun _ => none) (.tup xs) = some p) : ∃ ps, p = .tuple ps ∧ pyWs (fun _ => none) xs = some ps := by
  unfold pyW at h
  obtain ⟨ps, e, rfl⟩ := Option.map_eq_some_iff.mp h
  exact ⟨ps, rfl, e⟩
theorem pys_cons {x : D} {xs : List D} {ps : List PyData} (h : pyWs (fun _ => none) (x :: xs) = some ps) : ∃ p qs, ps = p :: qs ∧ pyW (fun _ => none) x = some p ∧ pyWs (fun _ => none) xs = some qs := by
  unfold pyWs at h
  split at h
  · rename_i p qs e1 e2; cases h; exact ⟨p, qs, rfl, e1, e2⟩
  · cases h
theorem pys_nil {ps : List PyData} (h : pyWs (fun _ => none) [] = some ps) : ps = [] := by cases h; rfl
mutual
theorem Sh.alike : ∀ (s : Sh) {d e : D} {p q : PyData}, s.has d → s.has e → pyW (fun _ => none) d = some p → pyW (fun _ => none) e = some q → PySem.W.alike p q = true
  | .int, d, e, p, q, h, k, a, b => by
    cases d <;> try (exact h.elim)
    cases e <;> try (exact k.elim)
    cases a; cases b; rfl
  | .str, d, e, p, q, h, k, a, b => by
    cases d <;> try (exact h.elim)
    cases e <;> try (exact k.elim)
    cases a; cases b; rfl
  | .tup l, d, e, p, q, h, k, a, b => by
    cases d <;> try (exact h.elim)
    cases e <;> try (exact k.elim)
    obtain ⟨ps, rfl, a'⟩ := py_tup a
    obtain ⟨qs, rfl, b'⟩ := py_tup b
    exact ShL.alike l h k a' b'
theorem ShL.alike : ∀ (l : ShL) {ds es : List D} {ps qs : List PyData}, l.has ds → l.has es → pyWs (fun _ => none) ds = some ps → pyWs (fun _ => none) es = some qs → PySem.W.alikeAll ps qs = true
  | .many s, ds, es, ps, qs, h, k, a, b => by
    have go : ∀ (ds es : List D) (ps qs : List PyData), (∀ x ∈ ds, s.has x) → (∀ x ∈ es, s.has x) → pyWs (fun _ => none) ds = some ps → pyWs (fun _ => none) es = some qs → PySem.W.alikeAll ps qs = true := by
      intro ds
      induction ds with
      | nil => intro es ps qs _ _ a _; rw [pys_nil a]; unfold PySem.W.alikeAll; rfl
      | cons d ds ih =>
        intro es ps qs h k a b
        obtain ⟨p, ps', rfl, a1, a2⟩ := pys_cons a
        cases es with
        | nil => rw [pys_nil b]; rfl
        | cons e es =>
          obtain ⟨q, qs', rfl, b1, b2⟩ := pys_cons b
          show (PySem.W.alike p q && PySem.W.alikeAll ps' qs') = true
          rw [Sh.alike s (h d (List.mem_cons_self ..)) (k e (List.mem_cons_self ..)) a1 b1, ih es ps' qs' (fun x hx => h x (List.mem_cons_of_mem _ hx)) (fun x hx => k x (List.mem_cons_of_mem _ hx)) a2 b2]; rfl
    exact go ds es ps qs h k a b
  | .nil, ds, es, ps, qs, h, k, a, b => by
    have h : ds = [] := h
    subst h
    rw [pys_nil a]; unfold PySem.W.alikeAll; rfl
  | .cons s r, [], es, ps, qs, h, k, a, b => by rw [pys_nil a]; unfold PySem.W.alikeAll; rfl
  | .cons s r, d :: ds, [], ps, qs, h, k, a, b => by
    obtain ⟨p, ps', rfl, a1, a2⟩ := pys_cons a
    rw [pys_nil b]; rfl
  | .cons s r, d :: ds, e :: es, ps, qs, h, k, a, b => by
    obtain ⟨p, ps', rfl, a1, a2⟩ := pys_cons a
    obtain ⟨q, qs', rfl, b1, b2⟩ := pys_cons b
    have h : s.has d ∧ r.has ds := h
    have k : s.has e ∧ r.has es := k
    show (PySem.W.alike p q && PySem.W.alikeAll ps' qs') = true
    rw [Sh.alike s h.1 k.1 a1 b1, ShL.alike r h.2 k.2 a2 b2]; rfl
end
theorem lt_asym {a b : PyData} (h : PySem.W.dataLt a b = true) : PySem.W.dataLt b a = false := by
  cases e : PySem.W.dataLt b a with
  | false => rfl
  | true =>
    have := PyProof.Rows.lex_trans (O := PyProof.Rows.itemOrd) _ _ _ h e
    rw [PyProof.Rows.lex_irrefl] at this
    cases this
theorem lt_irr (a : PyData) : PySem.W.dataLt a a = false := PyProof.Rows.lex_irrefl _
/-- the least: what is less than all others -/
theorem minD_best {e x : PyData} {xs : List PyData} (he : e ∈ x :: xs) (hb : ∀ y ∈ x :: xs, y = e ∨ PySem.W.dataLt e y = true) : PySem.W.minD x xs = e := by
  unfold PySem.W.minD
  have go : ∀ (ys : List PyData) (a : PyData), (a = e ∨ PySem.W.dataLt e a = true) → (a = e ∨ e ∈ ys) → (∀ y ∈ ys, y = e ∨ PySem.W.dataLt e y = true) → ys.foldl (fun a y => if PySem.W.dataLt y a then y else a) a = e := by
    intro ys
    induction ys with
    | nil =>
      intro a _ h _
      rcases h with h | h
      · exact h
      · cases h
    | cons y ys ih =>
      intro a h1 h2 h3
      rw [List.foldl_cons]
      have hy := h3 y (List.mem_cons_self ..)
      refine ih _ ?_ ?_ fun z hz => h3 z (List.mem_cons_of_mem _ hz)
      · split
        · exact hy
        · exact h1
      · rcases hy with rfl | hy
        · rcases h1 with rfl | h1
          · left; rw [lt_irr]; rfl
          · left; rw [h1]; rfl
        · rcases h1 with rfl | h1
          · left; rw [lt_asym hy]; rfl
          · rcases h2 with rfl | h2
            · left; rw [lt_asym hy]; rfl
            · rcases List.mem_cons.mp h2 with rfl | h2
              · left; rw [h1]; rfl
              · exact .inr h2
  refine go xs x (hb x (List.mem_cons_self ..)) ?_ fun y hy => hb y (List.mem_cons_of_mem _ hy)
  rcases List.mem_cons.mp he with h | h
  · exact .inl h.symm
  · exact .inr h
theorem alikeAll_of {s : Sh} {ds : List D} {ps : List PyData} (h : ∀ d ∈ ds, s.has d) (hp : pyWs (fun _ => none) ds = some ps) : ∀ x ∈ ps, ∃ d ∈ ds, pyW (fun _ => none) d = some x := by
  induction ds generalizing ps with
  | nil => intro x hx; rw [pys_nil hp] at hx; cases hx
  | cons d ds ih =>
    obtain ⟨p, qs, rfl, a1, a2⟩ := pys_cons hp
    intro x hx
    rcases List.mem_cons.mp hx with rfl | hx
    · exact ⟨d, List.mem_cons_self .., a1⟩
    · obtain ⟨e, he, k⟩ := ih (fun d hd => h d (List.mem_cons_of_mem _ hd)) a2 x hx
      exact ⟨e, List.mem_cons_of_mem _ he, k⟩
mutual
theorem ofPy_py : ∀ {d : D} {p : PyData}, pyW (fun _ => none) d = some p → ofPy p = some d
  | .non, _, h => by cases h; rfl
  | .bl _, _, h => by cases h; rfl
  | .int _, _, h => by cases h; rfl
  | .str s, _, h => by cases h; rfl
  | .tup xs, _, h => by
    obtain ⟨ps, rfl, e⟩ := py_tup h
    unfold ofPy
    rw [ofPys_pys e]; rfl
  | .ref _, _, h => by cases h
  | .ty _, _, h => by cases h
theorem ofPys_pys : ∀ {ds : List D} {ps : List PyData}, pyWs (fun _ => none) ds = some ps → ofPys ps = some ds
  | [], _, h => by rw [pys_nil h]; rfl
  | d :: ds, ps, h => by
    obtain ⟨p, qs, rfl, e1, e2⟩ := pys_cons h
    unfold ofPys
    rw [ofPy_py e1, ofPys_pys e2]
end
theorem py_inj {d e : D} {p : PyData} (h : pyW (fun _ => none) d = some p) (k : pyW (fun _ => none) e = some p) : d = e := by
  have := ofPy_py h
  rw [ofPy_py k] at this
  exact (Option.some.inj this).symm
/-- a < b of data of one shape -/
def ltP (d e : D) : Prop := ∃ p q, pyW (fun _ => none) d = some p ∧ pyW (fun _ => none) e = some q ∧ PySem.W.dataLt p q = true
/-- min(..) of a list of data of one shape -/
theorem o_minL {G : Store} {P : D → Store → Prop} {n : Nat} {ds : List D} {e : D} {s : Sh} (hx : G.lst? n = some ds) (hi : intsD ds = none) (hs : ∀ d ∈ ds, s.has d) (hd : s.dep ≤ 60) (he : e ∈ ds) (hb : ∀ d ∈ ds, d = e ∨ ltP e d) : wp (bf .minL [.ref n] G) P = P e G := by
  show wp (minLD (.ref n) G) P = _
  unfold minLD
  have h1 : lstI (.ref n) G = none := by
    show (G.lst? n).bind intsD = none
    rw [hx]; exact hi
  rw [h1]
  dsimp only
  obtain ⟨ps, hps⟩ := ShL.ok (.many s) ds hs
  cases ds with
  | nil => cases he
  | cons d0 ds =>
    obtain ⟨p, qs, rfl, a1, a2⟩ := pys_cons hps.py
    have al : ∀ x ∈ p :: qs, ∃ d ∈ d0 :: ds, pyW (fun _ => none) d = some x := alikeAll_of hs hps.py
    have hdl : dataL (.ref n) G = some (p, qs) := by
      unfold dataL
      dsimp only
      rw [hx]
      show (match (some (d0 :: ds)).bind (pyWs fun _ => none) with
        | some (p :: ps) => _
        | _ => none) = _
      rw [show (some (d0 :: ds)).bind (pyWs fun _ => none) = some (p :: qs) from hps.py]
      dsimp only
      have c1 : ((p :: qs).all fun x => notNon x && (p :: qs).all fun y => PySem.W.alike x y) = true := by
        rw [List.all_eq_true]
        intro x hx
        obtain ⟨d, hd, kd⟩ := al x hx
        obtain ⟨x', hx'⟩ := Sh.ok s d (hs d hd)
        have : x' = x := Option.some.inj (hx'.py.symm.trans kd)
        subst this
        rw [hx'.non, Bool.true_and, List.all_eq_true]
        intro y hy
        obtain ⟨f, hf, kf⟩ := al y hy
        exact Sh.alike s (hs d hd) (hs f hf) kd kf
      have c2 : SeqAt.shaped p = true := by
        obtain ⟨x', hx'⟩ := Sh.ok s d0 (hs d0 (List.mem_cons_self ..))
        have : x' = p := Option.some.inj (hx'.py.symm.trans a1)
        subst this
        exact Bool.and_eq_true_iff.mpr ⟨hx'.lay, decide_eq_true (Nat.le_trans hx'.dep (by omega))⟩
      have c3 : PyData.depthAll (p :: qs) ≤ 60 := Nat.le_trans hps.dep hd
      rw [c1, c2, hps.lay, decide_eq_true c3]; rfl
    rw [hdl]
    dsimp only
    obtain ⟨pe, hpe⟩ := Sh.ok s e (hs e he)
    have hm : PySem.W.minD p qs = pe := by
      refine minD_best ?_ fun y hy => ?_
      · have mem : ∀ {ds : List D} {ps : List PyData}, pyWs (fun _ => none) ds = some ps → ∀ d ∈ ds, ∀ x, pyW (fun _ => none) d = some x → x ∈ ps := by
          intro ds
          induction ds with
          | nil => intro ps _ d hd; cases hd
          | cons a ds ih =>
            intro ps h d hd x hx
            obtain ⟨p, qs, rfl, b1, b2⟩ := pys_cons h
            rcases List.mem_cons.mp hd with rfl | hd
            · rw [hx] at b1; cases b1; exact List.mem_cons_self ..
            · exact List.mem_cons_of_mem _ (ih b2 d hd x hx)
        exact mem hps.py e he pe hpe.py
      · obtain ⟨d, hd, kd⟩ := al y hy
        rcases hb d hd with rfl | ⟨a, b, h1, h2, h3⟩
        · left; exact Option.some.inj (kd.symm.trans hpe.py)
        · right
          have e1 : a = pe := Option.some.inj (h1.symm.trans hpe.py)
          have e2 : b = y := Option.some.inj (h2.symm.trans kd)
          subst e1; subst e2; exact h3
    rw [hm, ofPy_py hpe.py]; rfl
/-! < of tuples -/
theorem ltP_head {x y : Int} {xs ys : List D} {s : ShL} (h : x < y) (hx : s.has xs) (hy : s.has ys) : ltP (.tup (.int x :: xs)) (.tup (.int y :: ys)) := by
  obtain ⟨ps, hp⟩ := ShL.ok s xs hx
  obtain ⟨qs, hq⟩ := ShL.ok s ys hy
  refine ⟨.tuple (.int x :: ps), .tuple (.int y :: qs), ?_, ?_, ?_⟩
  · unfold pyW pyWs; rw [hp.py]; rfl
  · unfold pyW pyWs; rw [hq.py]; rfl
  · rw [PySem.W.dataLt_tuple, PySem.W.dataLt_all_no rfl, PySem.W.dataLt_int]
    · exact decide_eq_true h
    · unfold PyData.eqv; exact decide_eq_false (by omega)
theorem ltP_tail {x : Int} {xs ys : List D} (h : ltP (.tup xs) (.tup ys)) : ltP (.tup (.int x :: xs)) (.tup (.int x :: ys)) := by
  obtain ⟨p, q, hp, hq, hl⟩ := h
  obtain ⟨ps, rfl, hp'⟩ := py_tup hp
  obtain ⟨qs, rfl, hq'⟩ := py_tup hq
  refine ⟨.tuple (.int x :: ps), .tuple (.int x :: qs), ?_, ?_, ?_⟩
  · unfold pyW pyWs; rw [hp']; rfl
  · unfold pyW pyWs; rw [hq']; rfl
  · rw [PySem.W.dataLt_tuple] at hl ⊢
    rw [PySem.W.dataLt_all_yes rfl (by unfold PyData.eqv; exact decide_eq_true rfl)]; exact hl
/-- .. at a first place that is a tuple -/
theorem ltP_tup {a b : List D} {xs ys : List D} {s t : ShL} (h : ltP (.tup a) (.tup b)) (ha : s.has a) (hb : s.has b) (hx : t.has xs) (hy : t.has ys) : ltP (.tup (.tup a :: xs)) (.tup (.tup b :: ys)) := by
  obtain ⟨p, q, hp, hq, hl⟩ := h
  obtain ⟨ps, k1⟩ := ShL.ok t xs hx
  obtain ⟨qs, k2⟩ := ShL.ok t ys hy
  have al := Sh.alike (.tup s) (d := .tup a) (e := .tup b) ha hb hp hq
  refine ⟨.tuple (p :: ps), .tuple (q :: qs), ?_, ?_, ?_⟩
  · unfold pyW; unfold pyWs; rw [hp, k1.py]; rfl
  · unfold pyW; unfold pyWs; rw [hq, k2.py]; rfl
  · rw [PySem.W.dataLt_tuple]
    cases e : PyData.eqv p q with
    | false => rw [PySem.W.dataLt_all_no al e]; exact hl
    | true =>
      have := (PySem.W.toks_eqv p q al).1 e
      unfold PySem.W.dataLt at hl
      rw [this, PyProof.Rows.lex_irrefl] at hl
      cases hl

/-! == of data -/
mutual
theorem py_mono {r : Nat → Option PyData} : ∀ {d : D} {p : PyData}, pyW (fun _ => none) d = some p → pyW r d = some p
  | .non, _, h => h
  | .bl _, _, h => h
  | .int _, _, h => h
  | .str _, _, h => h
  | .tup xs, _, h => by
    obtain ⟨ps, rfl, e⟩ := py_tup h
    unfold pyW; rw [pys_mono e]; rfl
  | .ref _, _, h => by cases h
  | .ty _, _, h => by cases h
theorem pys_mono {r : Nat → Option PyData} : ∀ {ds : List D} {ps : List PyData}, pyWs (fun _ => none) ds = some ps → pyWs r ds = some ps
  | [], _, h => by rw [pys_nil h]; rfl
  | d :: ds, ps, h => by
    obtain ⟨p, qs, rfl, e1, e2⟩ := pys_cons h
    unfold pyWs; rw [py_mono e1, pys_mono e2]
end
theorem str_eqb (a b : List Nat) : ((⟨a.toArray⟩ : Str) == ⟨b.toArray⟩) = decide (a = b) := by
  by_cases h : a = b
  · subst h; simp
  · rw [decide_eq_false h]
    refine beq_eq_false_iff_ne.mpr fun e => h ?_
    injection e with e; exact List.toArray_inj e

mutual
def flatB : D → Bool
  | .non | .int _ | .str _ => true
  | .tup xs => flatBs xs
  | _ => false
def flatBs : List D → Bool
  | [] => true
  | x :: xs => flatB x && flatBs xs
end
mutual
theorem eqv_nb : ∀ (d e : D) {p q : PyData}, flatB d = true → flatB e = true → pyW (fun _ => none) d = some p → pyW (fun _ => none) e = some q → PyData.eqv p q = decide (d = e)
  | .bl _, _, _, _, h, _, _, _ | .ref _, _, _, _, h, _, _, _ | .ty _, _, _, _, h, _, _, _ => by cases h
  | .non, e, p, q, _, k, a, b => by
    cases e <;> try (cases k; done)
    case non => cases a; cases b; rfl
    case int => cases a; cases b; rfl
    case str => cases a; cases b; rfl
    case tup => obtain ⟨qs, rfl, b'⟩ := py_tup b; cases a; rfl
  | .int i, e, p, q, _, k, a, b => by
    cases e <;> try (cases k; done)
    case non => cases a; cases b; rfl
    case int j => cases a; cases b; by_cases z : i = j <;> simp [PyData.eqv, z]
    case str => cases a; cases b; rfl
    case tup => obtain ⟨qs, rfl, b'⟩ := py_tup b; cases a; rfl
  | .str i, e, p, q, _, k, a, b => by
    cases e <;> try (cases k; done)
    case non => cases a; cases b; rfl
    case int => cases a; cases b; rfl
    case str j =>
      cases a; cases b
      show ((⟨i.toArray⟩ : Str) == ⟨j.toArray⟩) = _
      rw [str_eqb]
      exact decide_eq_decide.mpr ⟨fun z => by rw [z], fun z => D.str.inj z⟩
    case tup => obtain ⟨qs, rfl, b'⟩ := py_tup b; cases a; rfl
  | .tup xs, e, p, q, h, k, a, b => by
    obtain ⟨ps, rfl, a'⟩ := py_tup a
    cases e <;> try (cases k; done)
    case non => cases b; rfl
    case int => cases b; rfl
    case str => cases b; rfl
    case tup ys =>
      obtain ⟨qs, rfl, b'⟩ := py_tup b
      show PyData.eqvAll ps qs = _
      rw [eqv_nbs xs ys h k a' b']
      exact decide_eq_decide.mpr ⟨fun z => by rw [z], fun z => D.tup.inj z⟩
theorem eqv_nbs : ∀ (ds es : List D) {ps qs : List PyData}, flatBs ds = true → flatBs es = true → pyWs (fun _ => none) ds = some ps → pyWs (fun _ => none) es = some qs → PyData.eqvAll ps qs = decide (ds = es)
  | [], [], ps, qs, _, _, a, b => by rw [pys_nil a, pys_nil b]; rfl
  | [], e :: es, ps, qs, _, _, a, b => by
    obtain ⟨q, qs', rfl, _, _⟩ := pys_cons b
    rw [pys_nil a]; rfl
  | d :: ds, [], ps, qs, _, _, a, b => by
    obtain ⟨q, qs', rfl, _, _⟩ := pys_cons a
    rw [pys_nil b]; rfl
  | d :: ds, e :: es, ps, qs, h, k, a, b => by
    obtain ⟨p, ps', rfl, a1, a2⟩ := pys_cons a
    obtain ⟨q, qs', rfl, b1, b2⟩ := pys_cons b
    have h := Bool.and_eq_true_iff.mp (show (flatB d && flatBs ds) = true from h)
    have k := Bool.and_eq_true_iff.mp (show (flatB e && flatBs es) = true from k)
    show (PyData.eqv p q && PyData.eqvAll ps' qs') = _
    rw [eqv_nb d e h.1 k.1 a1 b1, eqv_nbs ds es h.2 k.2 a2 b2]
    by_cases z : d = e <;> by_cases z2 : ds = es <;> simp [z, z2]
end
mutual
theorem Sh.flatB : ∀ (s : Sh) (d : D), s.has d → Cut.flatB d = true
  | .int, d, h => by cases d <;> first | rfl | exact h.elim
  | .str, d, h => by cases d <;> first | rfl | exact h.elim
  | .tup l, d, h => by
    cases d <;> try (exact h.elim)
    case tup xs => exact ShL.flatB l xs h
theorem ShL.flatB : ∀ (l : ShL) (ds : List D), l.has ds → flatBs ds = true
  | .many s, ds, h => by
    have go : ∀ ds : List D, (∀ x ∈ ds, s.has x) → flatBs ds = true := by
      intro ds
      induction ds with
      | nil => intro _; rfl
      | cons d ds ih =>
        intro h
        show (Cut.flatB d && flatBs ds) = true
        rw [Sh.flatB s d (h d (List.mem_cons_self ..)), ih fun x hx => h x (List.mem_cons_of_mem _ hx)]; rfl
    exact go ds h
  | .nil, ds, h => by
    have h : ds = [] := h
    subst h; rfl
  | .cons s r, [], _ => rfl
  | .cons s r, d :: ds, h => by
    have h : s.has d ∧ r.has ds := h
    show (Cut.flatB d && flatBs ds) = true
    rw [Sh.flatB s d h.1, ShL.flatB r ds h.2]; rfl
end
/-- data that can be asked for == -/
structure Plain (d : D) : Prop where
  nb : flatB d = true
  ok : ∃ p, pyW (fun _ => none) d = some p ∧ p.canLay0 = true ∧ p.depth ≤ 60
structure Plains (ds : List D) : Prop where
  nb : flatBs ds = true
  ok : ∃ ps, pyWs (fun _ => none) ds = some ps ∧ PyData.canLayAll0 ps = true ∧ PyData.depthAll ps ≤ 59
theorem Sh.plain {s : Sh} {d : D} (h : s.has d) (k : s.dep ≤ 60) : Plain d := by
  obtain ⟨p, hp⟩ := s.ok d h
  exact ⟨s.flatB d h, p, hp.py, hp.lay, Nat.le_trans hp.dep k⟩
theorem ShL.plains {l : ShL} {ds : List D} (h : l.has ds) (k : l.dep ≤ 59) : Plains ds := by
  obtain ⟨ps, hp⟩ := l.ok ds h
  exact ⟨l.flatB ds h, ps, hp.py, hp.lay, Nat.le_trans hp.dep k⟩
theorem Plain.non : Plain .non := ⟨rfl, .none, rfl, rfl, Nat.zero_le _⟩
theorem Plain.int (i : Int) : Plain (.int i) := ⟨rfl, .int i, rfl, rfl, Nat.zero_le _⟩
theorem Plain.str {s : List Nat} (h : PyData.strOk ⟨s.toArray⟩ = true) : Plain (.str s) := ⟨rfl, .str ⟨s.toArray⟩, rfl, h, Nat.zero_le _⟩
theorem eqD_plain {G : Store} {d e : D} (h : Plain d) (k : Plain e) : eqD G d e = some (decide (d = e)) := by
  obtain ⟨h1, p, h2, h3, h4⟩ := h
  obtain ⟨k1, q, k2, k3, k4⟩ := k
  unfold eqD
  rw [show pyD 8 G d = some p from py_mono h2, show pyD 8 G e = some q from py_mono k2]
  dsimp only
  have s1 : SeqAt.shaped p = true := Bool.and_eq_true_iff.mpr ⟨h3, decide_eq_true (by omega)⟩
  have s2 : SeqAt.shaped q = true := Bool.and_eq_true_iff.mpr ⟨k3, decide_eq_true (by omega)⟩
  rw [s1, s2, eqv_nb d e h1 k1 h2 k2]; rfl
theorem o_eqP {G : Store} {P : D → Store → Prop} {d e : D} (h : Plain d) (k : Plain e) : wp (op2 .eq d e G) P = P (.bl (decide (d = e))) G := by
  show wp (okO (eqD G d e) G) P = _
  rw [eqD_plain h k]; rfl
theorem o_neP {G : Store} {P : D → Store → Prop} {d e : D} (h : Plain d) (k : Plain e) : wp (op2 .ne d e G) P = P (.bl (!decide (d = e))) G := by
  show wp (okO ((eqD G d e).map (!·)) G) P = _
  rw [eqD_plain h k]; rfl
theorem eqD_lists {G : Store} {m n : Nat} {ds es : List D} (hm : G.lst? m = some ds) (hn : G.lst? n = some es) (h : Plains ds) (k : Plains es) : eqD G (.ref m) (.ref n) = some (decide (ds = es)) := by
  obtain ⟨h1, p, h2, h3, h4⟩ := h
  obtain ⟨k1, q, k2, k3, k4⟩ := k
  have e1 : pyD 8 G (.ref m) = some (.list p) := by
    show (match G.lst? m with | some xs => (pyWs (fun j => pyD 7 G (.ref j)) xs).map PyData.list | none => none) = _
    rw [hm]; dsimp only; rw [pys_mono h2]; rfl
  have e2 : pyD 8 G (.ref n) = some (.list q) := by
    show (match G.lst? n with | some xs => (pyWs (fun j => pyD 7 G (.ref j)) xs).map PyData.list | none => none) = _
    rw [hn]; dsimp only; rw [pys_mono k2]; rfl
  unfold eqD
  rw [e1, e2]
  dsimp only
  have s1 : SeqAt.shaped (.list p) = true := Bool.and_eq_true_iff.mpr ⟨h3, decide_eq_true (by show PyData.depthAll p + 1 ≤ 64; omega)⟩
  have s2 : SeqAt.shaped (.list q) = true := Bool.and_eq_true_iff.mpr ⟨k3, decide_eq_true (by show PyData.depthAll q + 1 ≤ 64; omega)⟩
  rw [s1, s2]
  show some (PyData.eqvAll p q) = _
  rw [eqv_nbs ds es h1 k1 h2 k2]
theorem o_eqLs {G : Store} {P : D → Store → Prop} {m n : Nat} {ds es : List D} (hm : G.lst? m = some ds) (hn : G.lst? n = some es) (h : Plains ds) (k : Plains es) : wp (op2 .eq (.ref m) (.ref n) G) P = P (.bl (decide (ds = es))) G := by
  show wp (okO (eqD G _ _) G) P = _
  rw [eqD_lists hm hn h k]; rfl
theorem o_neLs {G : Store} {P : D → Store → Prop} {m n : Nat} {ds es : List D} (hm : G.lst? m = some ds) (hn : G.lst? n = some es) (h : Plains ds) (k : Plains es) : wp (op2 .ne (.ref m) (.ref n) G) P = P (.bl (!decide (ds = es))) G := by
  show wp (okO ((eqD G _ _).map (!·)) G) P = _
  rw [eqD_lists hm hn h k]; rfl
end Cut
/-! Where checks stand best: the plain law. -/
namespace Cut
open PySem
/-- where a greedy writer checks: used, the number of the batch, the sizes -/
def grd (R : Nat) : Nat → Nat → List Nat → List Nat
  | _, _, [] => []
  | u, i, l :: L => if u + l ≤ R then grd R (u + l) (i + 1) L else i :: grd R l (i + 1) L
def fit (R : Nat) (S : List Nat) : Nat → Nat → List Nat → Bool
  | _, _, [] => true
  | u, i, l :: L => decide ((if i ∈ S then 0 else u) + l ≤ R) && fit R S ((if i ∈ S then 0 else u) + l) (i + 1) L
def gtl : List Nat → List Nat → Prop
  | a :: A, b :: B => b < a ∨ (a = b ∧ gtl A B)
  | _, _ => False
def better (A B : List Nat) : Prop := A.length < B.length ∨ (A.length = B.length ∧ (A = B ∨ gtl A B))
theorem grd_ge {R : Nat} : ∀ (L : List Nat) (u i : Nat), ∀ x ∈ grd R u i L, i ≤ x ∧ x < i + L.length
  | [], _, _, _, h => nomatch h
  | l :: L, u, i, x, h => by
    unfold grd at h
    split at h
    · have := grd_ge L _ _ x h
      rw [List.length_cons]; omega
    · rcases List.mem_cons.mp h with rfl | h
      · rw [List.length_cons]; omega
      · have := grd_ge L _ _ x h
        rw [List.length_cons]; omega
theorem grd_asc {R : Nat} : ∀ (L : List Nat) (u i : Nat), (grd R u i L).Pairwise (· < ·)
  | [], _, _ => .nil
  | l :: L, u, i => by
    unfold grd
    split
    · exact grd_asc L _ _
    · exact List.pairwise_cons.mpr ⟨fun x hx => by have := grd_ge L _ _ x hx; omega, grd_asc L _ _⟩
theorem cnt_ab {R : Nat} : ∀ (L : List Nat), (∀ u v i j, u ≤ v → (grd R u i L).length ≤ (grd R v j L).length) ∧ (∀ u v i j, (grd R u i L).length ≤ (grd R v j L).length + 1)
  | [] => ⟨fun _ _ _ _ _ => Nat.le_refl _, fun _ _ _ _ => Nat.zero_le _⟩
  | l :: L => by
    obtain ⟨A, B⟩ := cnt_ab (R := R) L
    refine ⟨fun u v i j h => ?_, fun u v i j => ?_⟩
    · simp only [grd]
      by_cases hv : v + l ≤ R
      · rw [if_pos hv, if_pos (by omega)]; exact A _ _ _ _ (by omega)
      · rw [if_neg hv]
        by_cases hu : u + l ≤ R
        · rw [if_pos hu]; exact B _ _ _ _
        · rw [if_neg hu]; exact Nat.succ_le_succ (A _ _ _ _ (Nat.le_refl _))
    · simp only [grd]
      by_cases hv : v + l ≤ R
      · rw [if_pos hv]
        by_cases hu : u + l ≤ R
        · rw [if_pos hu]; exact B _ _ _ _
        · rw [if_neg hu]; exact Nat.succ_le_succ (A _ _ _ _ (by omega))
      · rw [if_neg hv]
        by_cases hu : u + l ≤ R
        · rw [if_pos hu]; exact Nat.le_trans (B _ _ _ _) (Nat.le_succ _)
        · rw [if_neg hu]; exact Nat.succ_le_succ (Nat.le_trans (A _ _ _ _ (Nat.le_refl _)) (Nat.le_succ _))
theorem fit_congr {R : Nat} {S S' : List Nat} : ∀ (L : List Nat) (u i : Nat), (∀ j, i ≤ j → (j ∈ S ↔ j ∈ S')) → fit R S u i L = fit R S' u i L
  | [], _, _, _ => rfl
  | l :: L, u, i, h => by
    have e : (if i ∈ S then 0 else u) = (if i ∈ S' then 0 else u) := by
      by_cases hi : i ∈ S
      · rw [if_pos hi, if_pos ((h i (Nat.le_refl _)).mp hi)]
      · rw [if_neg hi, if_neg fun z => hi ((h i (Nat.le_refl _)).mpr z)]
    unfold fit
    rw [e, fit_congr L _ _ fun j hj => h j (by omega)]
theorem grd_fit {R : Nat} : ∀ (L : List Nat) (u i : Nat), (∀ l ∈ L, l ≤ R) → fit R (grd R u i L) u i L = true
  | [], _, _, _ => rfl
  | l :: L, u, i, h => by
    unfold fit grd
    by_cases hu : u + l ≤ R
    · have hni : i ∉ grd R (u + l) (i + 1) L := fun z => by have := grd_ge L _ _ i z; omega
      rw [if_pos hu, if_neg hni, decide_eq_true hu, grd_fit L _ _ fun x hx => h x (List.mem_cons_of_mem _ hx)]; rfl
    · have hm : i ∈ i :: grd R l (i + 1) L := List.mem_cons_self ..
      rw [if_neg hu, if_pos hm, Nat.zero_add, decide_eq_true (h l (List.mem_cons_self ..)), Bool.true_and]
      rw [fit_congr (S' := grd R l (i + 1) L) L l (i + 1) fun j hj => ?_]
      · exact grd_fit L _ _ fun x hx => h x (List.mem_cons_of_mem _ hx)
      · rw [List.mem_cons]
        exact ⟨fun z => z.resolve_left (by omega), .inr⟩
theorem asc_head {S : List Nat} {i : Nat} (h : S.Pairwise (· < ·)) (hg : ∀ x ∈ S, i ≤ x) (hi : i ∈ S) : ∃ S', S = i :: S' ∧ S'.Pairwise (· < ·) ∧ ∀ x ∈ S', i + 1 ≤ x := by
  cases S with
  | nil => cases hi
  | cons a S =>
    obtain ⟨h1, h2⟩ := List.pairwise_cons.mp h
    have ha := hg a (List.mem_cons_self ..)
    rcases List.mem_cons.mp hi with rfl | hi
    · exact ⟨S, rfl, h2, fun x hx => h1 x hx⟩
    · have := h1 i hi; omega
theorem grd_best {R : Nat} : ∀ (L : List Nat) (i u0 u : Nat) (S : List Nat), (∀ l ∈ L, l ≤ R) → S.Pairwise (· < ·) → (∀ x ∈ S, i ≤ x) → u0 ≤ u → fit R S u i L = true → better (grd R u0 i L) S
  | [], i, u0, u, S, _, _, _, _, _ => by
    cases S with
    | nil => exact .inr ⟨rfl, .inl rfl⟩
    | cons a S => exact .inl (Nat.succ_pos _)
  | l :: L, i, u0, u, S, hl, ha, hg, hu, hf => by
    have hl' : ∀ x ∈ L, x ≤ R := fun x hx => hl x (List.mem_cons_of_mem _ hx)
    unfold fit at hf
    obtain ⟨f1, f2⟩ := Bool.and_eq_true_iff.mp hf
    have f1 := of_decide_eq_true f1
    by_cases hi : i ∈ S
    · rw [if_pos hi, Nat.zero_add] at f1 f2
      obtain ⟨S', rfl, s1, s2⟩ := asc_head ha hg hi
      have f3 : fit R S' l (i + 1) L = true := by
        rw [← f2]
        exact fit_congr L _ _ fun j hj => by rw [List.mem_cons]; exact ⟨.inr, fun z => z.resolve_left (by omega)⟩
      have ih := grd_best L (i + 1) l l S' hl' s1 s2 (Nat.le_refl _) f3
      unfold grd
      by_cases hc : u0 + l ≤ R
      · rw [if_pos hc]
        have h1 := (cnt_ab (R := R) L).2 (u0 + l) l (i + 1) (i + 1)
        have h2 : (grd R l (i + 1) L).length ≤ S'.length := by
          rcases ih with h | ⟨h, _⟩ <;> omega
        by_cases he : (grd R (u0 + l) (i + 1) L).length < (i :: S').length
        · exact .inl he
        · refine .inr ⟨by rw [List.length_cons] at he ⊢; omega, .inr ?_⟩
          cases eg : grd R (u0 + l) (i + 1) L with
          | nil => rw [eg, List.length_cons] at he; exact absurd (Nat.succ_pos _) he
          | cons a A =>
            have := grd_ge L (u0 + l) (i + 1) a (by rw [eg]; exact List.mem_cons_self ..)
            exact .inl (by omega)
      · rw [if_neg hc]
        rcases ih with h | ⟨h, h' | h'⟩
        · exact .inl (Nat.succ_lt_succ h)
        · exact .inr ⟨congrArg (· + 1) h, .inl (by rw [h'])⟩
        · exact .inr ⟨congrArg (· + 1) h, .inr (.inr ⟨rfl, h'⟩)⟩
    · rw [if_neg hi] at f1 f2
      unfold grd
      rw [if_pos (by omega)]
      refine grd_best L (i + 1) (u0 + l) (u + l) S hl' ha (fun x hx => ?_) (by omega) f2
      have h1 := hg x hx
      rcases Nat.lt_or_ge i x with h | h
      · exact h
      · have : i = x := by omega
        exact absurd (this ▸ hx) hi
/-- all ascending rows of numbers from 1 on -/
def ways : Nat → List (List Nat)
  | 0 => [[]]
  | n + 1 => ways n ++ (ways n).map (· ++ [n + 1])
theorem ways_sub : ∀ (n : Nat) (S : List Nat), S ∈ ways n → S.Pairwise (· < ·) ∧ ∀ x ∈ S, 1 ≤ x ∧ x ≤ n
  | 0, S, h => by
    have : S = [] := by simpa [ways] using h
    subst this; exact ⟨.nil, fun _ h => nomatch h⟩
  | n + 1, S, h => by
    rcases List.mem_append.mp (show S ∈ ways n ++ (ways n).map (· ++ [n + 1]) from h) with h | h
    · obtain ⟨h1, h2⟩ := ways_sub n S h
      exact ⟨h1, fun x hx => ⟨(h2 x hx).1, Nat.le_succ_of_le (h2 x hx).2⟩⟩
    · obtain ⟨S', hS, rfl⟩ := List.mem_map.mp h
      obtain ⟨h1, h2⟩ := ways_sub n S' hS
      refine ⟨List.pairwise_append.mpr ⟨h1, List.pairwise_singleton .., fun a ha b hb => ?_⟩, fun x hx => ?_⟩
      · rw [List.mem_singleton.mp hb]; have := (h2 a ha).2; omega
      · rcases List.mem_append.mp hx with hx | hx
        · exact ⟨(h2 x hx).1, Nat.le_succ_of_le (h2 x hx).2⟩
        · rw [List.mem_singleton.mp hx]; omega
theorem ways_all : ∀ (n : Nat) (S : List Nat), S.Pairwise (· < ·) → (∀ x ∈ S, 1 ≤ x ∧ x ≤ n) → S ∈ ways n
  | 0, S, _, h => by
    cases S with
    | nil => exact List.mem_singleton.mpr rfl
    | cons a S => have := h a (List.mem_cons_self ..); omega
  | n + 1, S, ha, h => by
    by_cases hn : n + 1 ∈ S
    · rcases List.eq_nil_or_concat S with rfl | ⟨S', a, e⟩
      · cases hn
      · have e : S = S' ++ [a] := by simpa using e
        subst e
        obtain ⟨p1, _, p3⟩ := List.pairwise_append.mp ha
        have hea : a = n + 1 := by
          rcases List.mem_append.mp hn with h' | h'
          · have h1 := p3 _ h' a (List.mem_singleton.mpr rfl)
            have h2 := (h a (List.mem_append_right _ (List.mem_singleton.mpr rfl))).2
            omega
          · exact (List.mem_singleton.mp h').symm
        subst hea
        refine List.mem_append_right _ (List.mem_map.mpr ⟨S', ways_all n S' p1 fun x hx => ?_, rfl⟩)
        have h1 := p3 x hx (n + 1) (List.mem_singleton.mpr rfl)
        have h2 := h x (List.mem_append_left _ hx)
        omega
    · refine List.mem_append_left _ (ways_all n S ha fun x hx => ?_)
      have h2 := h x hx
      have : x ≠ n + 1 := fun e => hn (e ▸ hx)
      omega
theorem ways_len : ∀ n, (ways n).length = 2 ^ n
  | 0 => rfl
  | n + 1 => by
    show (ways n ++ (ways n).map (· ++ [n + 1])).length = _
    rw [List.length_append, List.length_map, ways_len n, Nat.pow_succ]; omega
end Cut
namespace K32
open PySem PySem.Spec PyProof.Rows L2 Cut
abbrev top (i : Nat) : Stmt := PySem.Challenge.pw_cutledger_k32_whole_fewest_checks.main.body.getD i (.Pass ⟨0, 0, 0, 0⟩)
def d0 : Df := { name := "is_number", st := top 6, N := ["value", "low", "high"], np := 3, tb := false, body := (.cons (.ret (.and (.bf .isin (.cons (.v 0) (.cons (.k (.ty .int)) .nil))) (.and (.un .not (.bf .isin (.cons (.v 0) (.cons (.k (.ty .bool)) .nil)))) (.chain .le .le (.v 1) (.v 0) (.v 2))))) .nil) }
def d1 : Df := { name := "are_bytes", st := top 7, N := ["value", "most", "byte"], np := 2, tb := true, body := (.cons (.ret (.and (.bf .isin (.cons (.v 0) (.cons (.k (.ty .tuple)) .nil))) (.and (.bin .le (.bf .len (.cons (.v 0) .nil)) (.v 1)) (.gen true (.v 2) (.one (.v 0)) (.call 0 (.cons (.v 2) (.cons (.k (.int 0)) (.cons (.k (.int 255)) .nil)))) [2])))) .nil) }
def d2 : Df := { name := "need_shape", st := top 12, N := ["value"], np := 1, tb := false, body := (.cons (.ifs (.or (.un .not (.bf .isin (.cons (.v 0) (.cons (.k (.ty .tuple)) .nil)))) (.bin .ne (.bf .len (.cons (.v 0) .nil)) (.k (.int 2)))) (.cons (.raise 0 .nil) .nil) .nil) (.cons (.ifs (.or (.un .not (.call 0 (.cons (.bin .ix (.v 0) (.k (.int 0))) (.cons (.k (.int 1)) (.cons (.k (.int 64)) .nil))))) (.un .not (.call 0 (.cons (.bin .ix (.v 0) (.k (.int 1))) (.cons (.k (.int 2)) (.cons (.k (.int 64)) .nil)))))) (.cons (.raise 0 .nil) .nil) .nil) .nil)) }
def d3 : Df := { name := "is_page", st := top 13, N := ["value"], np := 1, tb := false, body := (.cons (.ret (.call 1 (.cons (.v 0) (.cons (.k (.int 96)) .nil)))) .nil) }
def d4 : Df := { name := "wrong_pair", st := top 14, N := ["value", "before", "index", "pair"], np := 1, tb := false, body := (.cons (.ifs (.or (.un .not (.bf .isin (.cons (.v 0) (.cons (.k (.ty .tuple)) .nil)))) (.un .not (.chain .le .le (.k (.int 1)) (.bf .len (.cons (.v 0) .nil)) (.k (.int 64))))) (.cons (.ret (.tup (.cons (.k (.bl false)) (.cons (.k .non) .nil)))) .nil) .nil) (.cons (.set (.v 1) (.un .neg (.k (.int 1)))) (.cons (.for_ (.tup [2, 3]) (.enum (.v 0)) (.cons (.ifs (.or (.un .not (.bf .isin (.cons (.v 3) (.cons (.k (.ty .tuple)) .nil)))) (.or (.bin .ne (.bf .len (.cons (.v 3) .nil)) (.k (.int 2))) (.un .not (.call 0 (.cons (.bin .ix (.v 3) (.k (.int 0))) (.cons (.bin .add (.v 1) (.k (.int 1))) (.cons (.bin .sub (.k (.int 64)) (.k (.int 1))) .nil))))))) (.cons (.ret (.tup (.cons (.k (.bl false)) (.cons (.v 2) .nil)))) .nil) .nil) (.cons (.ifs (.un .not (.call 3 (.cons (.bin .ix (.v 3) (.k (.int 1))) .nil))) (.cons (.ret (.tup (.cons (.k (.bl false)) (.cons (.v 2) .nil)))) .nil) .nil) (.cons (.set (.v 1) (.bin .ix (.v 3) (.k (.int 0)))) .nil)))) (.cons (.ret (.tup (.cons (.k (.bl true)) (.cons (.k .non) .nil)))) .nil)))) }
def d5 : Df := { name := "is_batch", st := top 15, N := ["value", "pages"], np := 2, tb := false, body := (.cons (.ret (.and (.bin .ix (.call 4 (.cons (.v 0) .nil)) (.k (.int 0))) (.bin .lt (.bin .ix (.bin .ix (.v 0) (.un .neg (.k (.int 1)))) (.k (.int 0))) (.v 1)))) .nil) }
def d6 : Df := { name := "need_batches", st := top 19, N := ["shape", "value", "index", "batch"], np := 2, tb := false, body := (.cons (.expr (.call 2 (.cons (.v 0) .nil))) (.cons (.ifs (.or (.un .not (.bf .isin (.cons (.v 1) (.cons (.k (.ty .tuple)) .nil)))) (.bin .gt (.bf .len (.cons (.v 1) .nil)) (.k (.int 20)))) (.cons (.raise 102 (.cons (.k .non) .nil)) .nil) .nil) (.cons (.for_ (.tup [2, 3]) (.enum (.v 1)) (.cons (.ifs (.un .not (.call 5 (.cons (.v 3) (.cons (.bf .min (.cons (.bin .ix (.v 0) (.k (.int 0))) (.cons (.k (.int 64)) .nil))) .nil)))) (.cons (.raise 102 (.cons (.v 2) .nil)) .nil) .nil) .nil)) (.cons (.for_ (.tup [2, 3]) (.enum (.v 1)) (.cons (.ifs (.bin .gt (.bf .len (.cons (.v 3) .nil)) (.bin .ix (.v 0) (.k (.int 1)))) (.cons (.raise 101 (.cons (.v 2) .nil)) .nil) .nil) .nil)) .nil)))) }
def d7 : Df := { name := "fewest_checks", st := top 20, N := ["shape", "batches", "found", "room", "batch"], np := 2, tb := false, body := (.cons (.expr (.call 6 (.cons (.v 0) (.cons (.v 1) .nil)))) (.cons (.par [2, 3] (.cons (.lst .nil) (.cons (.bin .ix (.v 0) (.k (.int 1))) .nil))) (.cons (.for_ (.v 4) (.one (.v 1)) (.cons (.ifs (.bin .gt (.bf .len (.cons (.v 4) .nil)) (.v 3)) (.cons (.expr (.mt .append (.v 2) (.cons (.k (.tup [(.str [99, 104, 101, 99, 107])])) .nil))) (.cons (.set (.v 3) (.bin .ix (.v 0) (.k (.int 1)))) .nil)) .nil) (.cons (.expr (.mt .append (.v 2) (.cons (.tup (.cons (.k (.str [119, 114, 105, 116, 101])) (.cons (.v 4) .nil))) .nil))) (.cons (.aug 3 .sub (.bf .len (.cons (.v 4) .nil))) .nil)))) (.cons (.ret (.bf .tuple (.cons (.v 2) .nil))) .nil)))) }
def d8 : Df := { name := "_law_taken", st := top 22, N := ["_law_row", "_law_many", "_law_found", "_law_cell"], np := 2, tb := false, body := (.cons (.ifs (.bin .gt (.bin .ix (.v 0) (.k (.int 3))) (.k (.int 0))) (.cons (.set (.v 2) (.bin .mod (.bf .int (.cons (.bin .ix (.v 0) (.k (.int 3))) .nil)) (.v 1))) (.cons (.setIx (.v 0) (.k (.int 3)) (.bin .fdiv (.bin .ix (.v 0) (.k (.int 3))) (.v 1))) (.cons (.ret (.v 2)) .nil))) .nil) (.cons (.setIx (.v 0) (.k (.int 1)) (.bin .add (.bin .ix (.v 0) (.k (.int 1))) (.k (.int 1)))) (.cons (.ifs (.bin .gt (.bin .ix (.v 0) (.k (.int 1))) (.bf .len (.cons (.bin .ix (.v 0) (.k (.int 0))) .nil))) (.cons (.setIx (.v 0) (.k (.int 2)) (.bin .mod (.bf .int (.cons (.bin .add (.bin .mul (.bin .ix (.v 0) (.k (.int 2))) (.k (.int 48271))) (.k (.int 11))) .nil)) (.k (.int 2147483647)))) (.cons (.ret (.bin .mod (.bf .int (.cons (.bin .fdiv (.bin .ix (.v 0) (.k (.int 2))) (.k (.int 7))) .nil)) (.v 1))) .nil)) .nil) (.cons (.set (.v 3) (.bin .ix (.bin .ix (.v 0) (.k (.int 0))) (.bin .sub (.bin .ix (.v 0) (.k (.int 1))) (.k (.int 1))))) (.cons (.setIx (.v 0) (.k (.int 2)) (.bin .mod (.bf .int (.cons (.bin .add (.bin .add (.bin .mul (.bin .ix (.v 0) (.k (.int 2))) (.k (.int 48271))) (.v 3)) (.k (.int 11))) .nil)) (.k (.int 2147483647)))) (.cons (.ifs (.bin .ge (.v 3) (.bin .pow (.k (.int 10)) (.k (.int 18)))) (.cons (.setIx (.v 0) (.k (.int 3)) (.bin .fdiv (.v 3) (.v 1))) .nil) .nil) (.cons (.ret (.bin .mod (.bf .int (.cons (.v 3) .nil)) (.v 1))) .nil))))))) }
def d9 : Df := { name := "_law_pick", st := top 23, N := ["_law_row", "_law_things"], np := 2, tb := false, body := (.cons (.ret (.bin .ix (.v 1) (.call 8 (.cons (.v 0) (.cons (.bf .len (.cons (.v 1) .nil)) .nil))))) .nil) }
def d10 : Df := { name := "_law_page", st := top 24, N := ["_law_row", "_law_many", "_law_found", "_law_at"], np := 1, tb := false, body := (.cons (.set (.v 1) (.bin .ix (.lst (.cons (.k (.int 0)) (.cons (.k (.int 1)) (.cons (.k (.int 1)) (.cons (.k (.int 2)) (.cons (.k (.int 3)) (.cons (.k (.int 17)) (.cons (.k (.int 96)) .nil)))))))) (.call 8 (.cons (.v 0) (.cons (.k (.int 7)) .nil))))) (.cons (.set (.v 2) (.comp (.v 3) (.rng1 (.bf .min (.cons (.v 1) (.cons (.k (.int 3)) .nil)))) .none (.call 9 (.cons (.v 0) (.cons (.lst (.cons (.k (.int 0)) (.cons (.k (.int 1)) (.cons (.k (.int 255)) (.cons (.call 8 (.cons (.v 0) (.cons (.k (.int 256)) .nil))) .nil))))) .nil))) [3])) (.cons (.ret (.bf .tuple (.cons (.bin .add (.v 2) (.bin .mul (.lst (.cons (.k (.int 7)) .nil)) (.bf .max (.cons (.k (.int 0)) (.cons (.bin .sub (.v 1) (.k (.int 3))) .nil))))) .nil))) .nil))) }
def d11 : Df := { name := "_law_batch", st := top 25, N := ["_law_row", "_law_pages", "_law_most", "_law_rest", "_law_found", "_law_turn", "_law_number"], np := 3, tb := false, body := (.cons (.par [3, 4] (.cons (.rng1D false (.v 1)) (.cons (.lst .nil) .nil))) (.cons (.for_ (.v 5) (.rng1 (.bin .add (.k (.int 1)) (.call 8 (.cons (.v 0) (.cons (.bf .min (.cons (.v 1) (.cons (.v 2) .nil))) .nil))))) (.cons (.expr (.mt .append (.v 4) (.cons (.mt .popAt (.v 3) (.cons (.call 8 (.cons (.v 0) (.cons (.bf .len (.cons (.v 3) .nil)) .nil))) .nil)) .nil))) .nil)) (.cons (.ret (.bf .tuple (.cons (.comp (.v 6) (.one (.bf .sorted (.cons (.v 4) .nil))) .none (.tup (.cons (.v 6) (.cons (.call 10 (.cons (.v 0) .nil)) .nil))) [6]) .nil))) .nil))) }
def d12 : Df := { name := "_law_batches", st := top 26, N := ["_law_row", "_law_shape", "_law_most", "_law_some", "_law_turn", "_law_number", "_law_page_here", "_law_batch_here"], np := 3, tb := false, body := (.cons (.set (.v 3) (.comp (.v 4) (.rng1 (.call 8 (.cons (.v 0) (.cons (.bin .add (.v 2) (.k (.int 1))) .nil)))) .none (.call 11 (.cons (.v 0) (.cons (.bin .ix (.v 1) (.k (.int 0))) (.cons (.bf .min (.cons (.k (.int 3)) (.cons (.bin .ix (.v 1) (.k (.int 1))) .nil))) .nil)))) [4])) (.cons (.ret (.bf .tuple (.cons (.comp (.v 7) (.one (.v 3)) .none (.bf .tuple (.cons (.comp (.tup [5, 6]) (.one (.v 7)) .none (.tup (.cons (.v 5) (.cons (.sl (.v 6) .none (.some (.k (.int 3)))) .nil))) [5, 6]) .nil)) [7]) .nil))) .nil)) }
def d13 : Df := { name := "_law_ways", st := top 27, N := ["_law_many", "_law_found", "_law_spot", "_law_spots"], np := 1, tb := false, body := (.cons (.set (.v 1) (.lst (.cons (.tup .nil) .nil))) (.cons (.for_ (.v 2) (.rng2 (.k (.int 1)) (.bin .add (.v 0) (.k (.int 1)))) (.cons (.set (.v 1) (.bin .add (.v 1) (.comp (.v 3) (.one (.v 1)) .none (.bin .add (.v 3) (.tup (.cons (.v 2) .nil))) [3]))) .nil)) (.cons (.ret (.v 1)) .nil))) }
def d14 : Df := { name := "_law_with_checks", st := top 28, N := ["_law_batches_here", "_law_spots", "_law_found", "_law_at", "_law_batch_here"], np := 2, tb := false, body := (.cons (.set (.v 2) (.tup .nil)) (.cons (.for_ (.tup [3, 4]) (.enum (.v 0)) (.cons (.set (.v 2) (.bin .add (.bin .add (.v 2) (.ite (.bin .in_ (.v 3) (.v 1)) (.tup (.cons (.tup (.cons (.k (.str [99, 104, 101, 99, 107])) .nil)) .nil)) (.tup .nil))) (.tup (.cons (.tup (.cons (.k (.str [119, 114, 105, 116, 101])) (.cons (.v 4) .nil))) .nil)))) .nil)) (.cons (.ret (.bin .add (.v 2) (.ite (.and (.bin .in_ (.bf .len (.cons (.v 0) .nil)) (.v 1)) (.bin .ne (.v 0) (.tup .nil))) (.tup (.cons (.tup (.cons (.k (.str [99, 104, 101, 99, 107])) .nil)) .nil)) (.tup .nil)))) .nil))) }
def d15 : Df := { name := "_law_fits", st := top 29, N := ["_law_shape", "_law_deeds", "_law_used", "_law_deed"], np := 2, tb := false, body := (.cons (.set (.v 2) (.k (.int 0))) (.cons (.for_ (.v 3) (.one (.v 1)) (.cons (.set (.v 2) (.ite (.bin .eq (.bin .ix (.v 3) (.k (.int 0))) (.k (.str [119, 114, 105, 116, 101]))) (.bin .add (.v 2) (.bf .len (.cons (.bin .ix (.v 3) (.k (.int 1))) .nil))) (.k (.int 0)))) (.cons (.ifs (.bin .gt (.v 2) (.bin .ix (.v 0) (.k (.int 1)))) (.cons (.ret (.k (.bl false))) .nil) .nil) .nil))) (.cons (.ret (.k (.bl true))) .nil))) }
def d16 : Df := { name := "_law_alike", st := top 30, N := ["_law_found", "_law_due", "_law_k"], np := 2, tb := false, body := (.cons (.ifs (.bf .isin (.cons (.v 1) (.cons (.tup (.cons (.k (.ty .tuple)) (.cons (.k (.ty .list)) .nil))) .nil))) (.cons (.ifs (.or (.un .not (.bf .isin (.cons (.v 0) (.cons (.tup (.cons (.k (.ty .tuple)) (.cons (.k (.ty .list)) .nil))) .nil)))) (.bin .ne (.bf .isin (.cons (.v 0) (.cons (.k (.ty .list)) .nil))) (.bf .isin (.cons (.v 1) (.cons (.k (.ty .list)) .nil))))) (.cons (.ret (.k (.bl false))) .nil) .nil) (.cons (.ifs (.bin .ne (.bf .len (.cons (.v 0) .nil)) (.bf .len (.cons (.v 1) .nil))) (.cons (.ret (.k (.bl false))) .nil) .nil) (.cons (.ret (.bin .eq (.comp (.v 2) (.rng1 (.bf .len (.cons (.v 1) .nil))) (.some (.un .not (.call 16 (.cons (.bin .ix (.v 0) (.v 2)) (.cons (.bin .ix (.v 1) (.v 2)) .nil))))) (.v 2) [2]) (.lst .nil))) .nil))) .nil) (.cons (.ifs (.or (.bin .is (.v 1) (.k .non)) (.bf .isin (.cons (.v 1) (.cons (.k (.ty .str)) .nil)))) (.cons (.ret (.and (.bin .eq (.v 0) (.v 1)) (.bin .eq (.bf .isin (.cons (.v 0) (.cons (.k (.ty .str)) .nil))) (.bf .isin (.cons (.v 1) (.cons (.k (.ty .str)) .nil)))))) .nil) .nil) (.cons (.ret (.and (.bf .isin (.cons (.v 0) (.cons (.k (.ty .int)) .nil))) (.and (.bin .eq (.bf .isin (.cons (.v 0) (.cons (.k (.ty .bool)) .nil))) (.bf .isin (.cons (.v 1) (.cons (.k (.ty .bool)) .nil)))) (.bin .eq (.v 0) (.v 1))))) .nil))) }
def d17 : Df := { name := "law", st := top 31, N := ["_law_script", "_law_row", "_law_shape", "_law_batches_here", "_law_good", "_law_spots", "_law_deeds", "_law_spot", "_law_found", "_law_least", "_law_many", "_law_deed", "_law_long", "_law_told"], np := 1, tb := false, body := (.cons (.set (.v 1) (.lst (.cons (.v 0) (.cons (.k (.int 0)) (.cons (.k (.int 9032)) (.cons (.k (.int 0)) .nil)))))) (.cons (.set (.v 2) (.tup (.cons (.bin .add (.k (.int 1)) (.call 8 (.cons (.v 1) (.cons (.k (.int 4)) .nil)))) (.cons (.bin .add (.k (.int 2)) (.call 8 (.cons (.v 1) (.cons (.k (.int 4)) .nil)))) .nil)))) (.cons (.par [3, 4] (.cons (.call 12 (.cons (.v 1) (.cons (.v 2) (.cons (.k (.int 6)) .nil)))) (.cons (.lst .nil) .nil))) (.cons (.for_ (.v 5) (.one (.call 13 (.cons (.bf .len (.cons (.v 3) .nil)) .nil))) (.cons (.set (.v 6) (.call 14 (.cons (.v 3) (.cons (.v 5) .nil)))) (.cons (.ifs (.call 15 (.cons (.v 2) (.cons (.v 6) .nil))) (.cons (.expr (.mt .append (.v 4) (.cons (.tup (.cons (.bf .len (.cons (.v 5) .nil)) (.cons (.bf .tuple (.cons (.comp (.v 7) (.one (.v 5)) .none (.bin .sub (.k (.int 0)) (.v 7)) [7]) .nil)) (.cons (.v 6) .nil)))) .nil))) .nil) .nil) .nil))) (.cons (.set (.v 8) (.call 7 (.cons (.v 2) (.cons (.v 3) .nil)))) (.cons (.set (.v 9) (.bf .minL (.cons (.v 4) .nil))) (.cons (.ifs (.un .not (.call 16 (.cons (.v 8) (.cons (.bin .ix (.v 9) (.k (.int 2))) .nil)))) (.cons (.ret (.k (.bl false))) .nil) .nil) (.cons (.set (.v 10) (.bf .len (.cons (.comp (.v 11) (.one (.v 8)) (.some (.bin .eq (.v 11) (.tup (.cons (.k (.str [99, 104, 101, 99, 107])) .nil)))) (.v 11) [11]) .nil))) (.cons (.set (.v 12) (.bin .mul (.tup (.cons (.tup (.cons (.tup (.cons (.k (.int 0)) (.cons (.tup (.cons (.k (.int 1)) .nil)) .nil))) .nil)) .nil)) (.k (.int 20)))) (.cons (.set (.v 13) (.call 7 (.cons (.v 2) (.cons (.v 12) .nil)))) (.cons (.ifs (.bin .ne (.bf .len (.cons (.comp (.v 11) (.one (.v 13)) (.some (.bin .eq (.v 11) (.tup (.cons (.k (.str [99, 104, 101, 99, 107])) .nil)))) (.v 11) [11]) .nil)) (.bin .fdiv (.k (.int 19)) (.bin .ix (.v 2) (.k (.int 1))))) (.cons (.ret (.k (.bl false))) .nil) .nil) (.cons (.ret (.and (.bin .eq (.v 10) (.bin .ix (.v 9) (.k (.int 0)))) (.bin .eq (.comp (.v 11) (.one (.v 8)) (.some (.bin .eq (.bin .ix (.v 11) (.k (.int 0))) (.k (.str [119, 114, 105, 116, 101])))) (.bin .ix (.v 11) (.k (.int 1))) [11]) (.bf .list (.cons (.v 3) .nil))))) .nil)))))))))))) }
def Ds : List Df := [d0, d1, d2, d3, d4, d5, d6, d7, d8, d9, d10, d11, d12, d13, d14, d15, d16, d17]
def Γ : Gx := { con := [(("MOST_PAGES" : Str), (.int 64)), (("MOST_RING" : Str), (.int 64)), (("CONTENT" : Str), (.int 96)), (("MOST_BATCHES" : Str), (.int 20)), (("CHECK" : Str), (.tup [(.str [99, 104, 101, 99, 107])]))], fns := [(("is_number" : Str), 0), (("are_bytes" : Str), 1), (("need_shape" : Str), 2), (("is_page" : Str), 3), (("wrong_pair" : Str), 4), (("is_batch" : Str), 5), (("need_batches" : Str), 6), (("fewest_checks" : Str), 7), (("_law_taken" : Str), 8), (("_law_pick" : Str), 9), (("_law_page" : Str), 10), (("_law_batch" : Str), 11), (("_law_batches" : Str), 12), (("_law_ways" : Str), 13), (("_law_with_checks" : Str), 14), (("_law_fits" : Str), 15), (("_law_alike" : Str), 16), (("law" : Str), 17)], exB := "CutError", exs := [("BadShape", 0), ("RingFull", 101), ("BadBatches", 102)], fld := [("index", 1)] }
def x0 : Xc := { x := "RingFull", k := 101, n := "index", st := (clsBody (top 3)).getD 0 (.Pass ⟨0, 0, 0, 0⟩) }
def x1 : Xc := { x := "BadBatches", k := 102, n := "index", st := (clsBody (top 4)).getD 0 (.Pass ⟨0, 0, 0, 0⟩) }
def Xs : List Xc := [x0, x1]
def pg : Pg := { Γ := Γ, Ds := Ds, wk := none, Xs := Xs }
abbrev T : List Fd := pg.T
theorem ck0 : d0.ck Γ = true := by decide +kernel
theorem ck1 : d1.ck Γ = true := by decide +kernel
theorem ck2 : d2.ck Γ = true := by decide +kernel
theorem ck3 : d3.ck Γ = true := by decide +kernel
theorem ck4 : d4.ck Γ = true := by decide +kernel
theorem ck5 : d5.ck Γ = true := by decide +kernel
theorem ck6 : d6.ck Γ = true := by decide +kernel
theorem ck7 : d7.ck Γ = true := by decide +kernel
theorem ck8 : d8.ck Γ = true := by decide +kernel
theorem ck9 : d9.ck Γ = true := by decide +kernel
theorem ck10 : d10.ck Γ = true := by decide +kernel
theorem ck11 : d11.ck Γ = true := by decide +kernel
theorem ck12 : d12.ck Γ = true := by decide +kernel
theorem ck13 : d13.ck Γ = true := by decide +kernel
theorem ck14 : d14.ck Γ = true := by decide +kernel
theorem ck15 : d15.ck Γ = true := by decide +kernel
theorem ck16 : d16.ck Γ = true := by decide +kernel
theorem ck17 : d17.ck Γ = true := by decide +kernel
theorem cks : ∀ d ∈ Ds, d.ck Γ = true := List.forall_mem_cons.2 ⟨ck0, List.forall_mem_cons.2 ⟨ck1, List.forall_mem_cons.2 ⟨ck2, List.forall_mem_cons.2 ⟨ck3, List.forall_mem_cons.2 ⟨ck4, List.forall_mem_cons.2 ⟨ck5, List.forall_mem_cons.2 ⟨ck6, List.forall_mem_cons.2 ⟨ck7, List.forall_mem_cons.2 ⟨ck8, List.forall_mem_cons.2 ⟨ck9, List.forall_mem_cons.2 ⟨ck10, List.forall_mem_cons.2 ⟨ck11, List.forall_mem_cons.2 ⟨ck12, List.forall_mem_cons.2 ⟨ck13, List.forall_mem_cons.2 ⟨ck14, List.forall_mem_cons.2 ⟨ck15, List.forall_mem_cons.2 ⟨ck16, List.forall_mem_cons.2 ⟨ck17, (fun _ h => nomatch h)⟩⟩⟩⟩⟩⟩⟩⟩⟩⟩⟩⟩⟩⟩⟩⟩⟩⟩
theorem bn0 : BndA d0 := .inl ⟨rfl, fun _ _ _ _ _ _ us hl => match us, hl with | [_, _, _], _ => rfl⟩
theorem bn1 : BndA d1 := .inl ⟨rfl, fun _ _ _ _ _ _ us hl => match us, hl with | [_, _], _ => rfl⟩
theorem bn2 : BndA d2 := .inl ⟨rfl, fun _ _ _ _ _ _ us hl => match us, hl with | [_], _ => rfl⟩
theorem bn3 : BndA d3 := .inl ⟨rfl, fun _ _ _ _ _ _ us hl => match us, hl with | [_], _ => rfl⟩
theorem bn4 : BndA d4 := .inl ⟨rfl, fun _ _ _ _ _ _ us hl => match us, hl with | [_], _ => rfl⟩
theorem bn5 : BndA d5 := .inl ⟨rfl, fun _ _ _ _ _ _ us hl => match us, hl with | [_, _], _ => rfl⟩
theorem bn6 : BndA d6 := .inl ⟨rfl, fun _ _ _ _ _ _ us hl => match us, hl with | [_, _], _ => rfl⟩
theorem bn7 : BndA d7 := .inl ⟨rfl, fun _ _ _ _ _ _ us hl => match us, hl with | [_, _], _ => rfl⟩
theorem bn8 : BndA d8 := .inl ⟨rfl, fun _ _ _ _ _ _ us hl => match us, hl with | [_, _], _ => rfl⟩
theorem bn9 : BndA d9 := .inl ⟨rfl, fun _ _ _ _ _ _ us hl => match us, hl with | [_, _], _ => rfl⟩
theorem bn10 : BndA d10 := .inl ⟨rfl, fun _ _ _ _ _ _ us hl => match us, hl with | [_], _ => rfl⟩
theorem bn11 : BndA d11 := .inl ⟨rfl, fun _ _ _ _ _ _ us hl => match us, hl with | [_, _, _], _ => rfl⟩
theorem bn12 : BndA d12 := .inl ⟨rfl, fun _ _ _ _ _ _ us hl => match us, hl with | [_, _, _], _ => rfl⟩
theorem bn13 : BndA d13 := .inl ⟨rfl, fun _ _ _ _ _ _ us hl => match us, hl with | [_], _ => rfl⟩
theorem bn14 : BndA d14 := .inl ⟨rfl, fun _ _ _ _ _ _ us hl => match us, hl with | [_, _], _ => rfl⟩
theorem bn15 : BndA d15 := .inl ⟨rfl, fun _ _ _ _ _ _ us hl => match us, hl with | [_, _], _ => rfl⟩
theorem bn16 : BndA d16 := .inl ⟨rfl, fun _ _ _ _ _ _ us hl => match us, hl with | [_, _], _ => rfl⟩
theorem bn17 : BndA d17 := .inl ⟨rfl, fun _ _ _ _ _ _ us hl => match us, hl with | [_], _ => rfl⟩
theorem bns : ∀ d ∈ Ds, BndA d := List.forall_mem_cons.2 ⟨bn0, List.forall_mem_cons.2 ⟨bn1, List.forall_mem_cons.2 ⟨bn2, List.forall_mem_cons.2 ⟨bn3, List.forall_mem_cons.2 ⟨bn4, List.forall_mem_cons.2 ⟨bn5, List.forall_mem_cons.2 ⟨bn6, List.forall_mem_cons.2 ⟨bn7, List.forall_mem_cons.2 ⟨bn8, List.forall_mem_cons.2 ⟨bn9, List.forall_mem_cons.2 ⟨bn10, List.forall_mem_cons.2 ⟨bn11, List.forall_mem_cons.2 ⟨bn12, List.forall_mem_cons.2 ⟨bn13, List.forall_mem_cons.2 ⟨bn14, List.forall_mem_cons.2 ⟨bn15, List.forall_mem_cons.2 ⟨bn16, List.forall_mem_cons.2 ⟨bn17, (fun _ h => nomatch h)⟩⟩⟩⟩⟩⟩⟩⟩⟩⟩⟩⟩⟩⟩⟩⟩⟩⟩
theorem xc0 : x0.ck = true ∧ x0.bnd := ⟨by decide +kernel, fun _ _ _ _ _ _ us hl => match us, hl with | [_, _], _ => rfl⟩
theorem xc1 : x1.ck = true ∧ x1.bnd := ⟨by decide +kernel, fun _ _ _ _ _ _ us hl => match us, hl with | [_, _], _ => rfl⟩
theorem xcs : ∀ c ∈ Xs, c.ck = true ∧ c.bnd := List.forall_mem_cons.2 ⟨xc0, List.forall_mem_cons.2 ⟨xc1, (fun _ h => nomatch h)⟩⟩
theorem pc : PgCk pg := ⟨rfl, by decide +kernel, by decide +kernel, cks, bns, (fun _ h => nomatch h), by decide +kernel, xcs⟩
end K32
namespace K32
open PySem Cut
theorem is_number {k : Nat} {v lo hi : Int} {G : Store} (h1 : lo ≤ v) (h2 : v ≤ hi) : run T (k + 1) 0 [.int v, .int lo, .int hi] G = .ok (.bl true) G := by
  refine eq_of_wp (run_wp (fd := d0.fd) rfl rfl ?_)
  simp only [s_pass, s_nil, s_cons, s_expr, s_set, s_par, s_setIx, s_setKey, s_augIx, s_aug, s_ifs, s_ret, s_retN, s_brk, s_cnt, s_never, w_k, w_v, w_un, w_bin, w_and, w_or, w_ite, w_chain, w_tup, wp_newL, w_lst, w_dic0, w_callD, w_sl, w_rev, w_call, w_bf, w_mt, w_nil, w_cons, w_no, w_some, Tg.bind, bindN, o_add, o_addT, o_sub, o_mul, o_fdiv, o_mod, o_pow, o_eq, o_ne, o_lt, o_le, o_gt, o_ge, o_isT, o_isI, o_isR, o_isN, o_eqB, o_neB, o_not, o_neg, o_lenT, o_int, o_isinI, o_isinT, o_isinB, o_isinI2, o_isinT2, t_ii, t_ib, t_is, t_it, t_il, t_tt, t_tl, t_ts, t_ti, t_tb, t_bb, t_bi, Cut.truthy, zb_bl, Bool.or_false, Bool.false_or, Bool.not_true, Bool.not_false, Bool.true_or, Bool.or_true, tb_dec, tb_some, tb_not, tb_true, tb_false, Cut.start, List.map, List.length, List.replicate, List.append_eq, List.cons_append, List.nil_append, List.getElem?_cons_zero, List.getElem?_cons_succ, List.set_cons_zero, List.set_cons_succ, Nat.reduceAdd, Nat.reduceSub, tyOf, if_true, if_false, Bool.false_eq_true, decide_true, decide_false, wp_ok, Df.fd, d0]
  simp only [h1, h2, decide_true, if_true]
  rw [gc_id rfl]
  exact ⟨rfl, rfl⟩
theorem are_bytes {k : Nat} {bs : List Int} {most : Int} {G : Store} (hb : ∀ b ∈ bs, Byte b) (hl : (bs.length : Int) ≤ most) (hz : bs.length < loopFuel) : run T (k + 2) 1 [.tup (bs.map .int), .int most] G = .ok (.bl true) G := by
  refine eq_of_wp (run_wp (fd := d1.fd) rfl rfl ?_)
  simp only [s_pass, s_nil, s_cons, s_expr, s_set, s_par, s_setIx, s_setKey, s_augIx, s_aug, s_ifs, s_ret, s_retN, s_brk, s_cnt, s_never, w_k, w_v, w_un, w_bin, w_and, w_or, w_ite, w_chain, w_tup, wp_newL, w_lst, w_dic0, w_callD, w_sl, w_rev, w_call, w_bf, w_mt, w_nil, w_cons, w_no, w_some, Tg.bind, bindN, o_add, o_addT, o_sub, o_mul, o_fdiv, o_mod, o_pow, o_eq, o_ne, o_lt, o_le, o_gt, o_ge, o_isT, o_isI, o_isR, o_isN, o_eqB, o_neB, o_not, o_neg, o_lenT, o_int, o_isinI, o_isinT, o_isinB, o_isinI2, o_isinT2, t_ii, t_ib, t_is, t_it, t_il, t_tt, t_tl, t_ts, t_ti, t_tb, t_bb, t_bi, Cut.truthy, zb_bl, Bool.or_false, Bool.false_or, Bool.not_true, Bool.not_false, Bool.true_or, Bool.or_true, tb_dec, tb_some, tb_not, tb_true, tb_false, Cut.start, List.map, List.length, List.replicate, List.append_eq, List.cons_append, List.nil_append, List.getElem?_cons_zero, List.getElem?_cons_succ, List.set_cons_zero, List.set_cons_succ, Nat.reduceAdd, Nat.reduceSub, tyOf, if_true, if_false, Bool.false_eq_true, decide_true, decide_false, wp_ok, Df.fd, d1, w_gen, i_one, srcOf, List.length_map]
  simp only [hl, if_true]
  refine genGo_all (n := bs.length) hz ?_ (fun i hi => ?_) ?_
  · show some ((bs.map D.int)[bs.length]?) = _
    rw [List.getElem?_eq_none (by simp)]
  · refine ⟨.int bs[i], _, ?_, rfl, ?_⟩
    · show some ((bs.map D.int)[i]?) = _
      rw [List.getElem?_map, List.getElem?_eq_getElem hi]; rfl
    · have h := hb bs[i] (List.getElem_mem hi)
      refine eq_of_wp ?_
      simp only [s_pass, s_nil, s_cons, s_expr, s_set, s_par, s_setIx, s_setKey, s_augIx, s_aug, s_ifs, s_ret, s_retN, s_brk, s_cnt, s_never, w_k, w_v, w_un, w_bin, w_and, w_or, w_ite, w_chain, w_tup, wp_newL, w_lst, w_dic0, w_callD, w_sl, w_rev, w_call, w_bf, w_mt, w_nil, w_cons, w_no, w_some, Tg.bind, bindN, o_add, o_addT, o_sub, o_mul, o_fdiv, o_mod, o_pow, o_eq, o_ne, o_lt, o_le, o_gt, o_ge, o_isT, o_isI, o_isR, o_isN, o_eqB, o_neB, o_not, o_neg, o_lenT, o_int, o_isinI, o_isinT, o_isinB, o_isinI2, o_isinT2, t_ii, t_ib, t_is, t_it, t_il, t_tt, t_tl, t_ts, t_ti, t_tb, t_bb, t_bi, Cut.truthy, zb_bl, Bool.or_false, Bool.false_or, Bool.not_true, Bool.not_false, Bool.true_or, Bool.or_true, tb_dec, tb_some, tb_not, tb_true, tb_false, Cut.start, List.map, List.length, List.replicate, List.append_eq, List.cons_append, List.nil_append, List.getElem?_cons_zero, List.getElem?_cons_succ, List.set_cons_zero, List.set_cons_succ, Nat.reduceAdd, Nat.reduceSub, tyOf, if_true, if_false, Bool.false_eq_true, decide_true, decide_false, wp_ok, wipeE]
      rw [is_number h.1 h.2]
      exact ⟨rfl, rfl⟩
  · show wp (gc G (R.ok (D.bl true) G)) _
    rw [gc_id rfl]
    exact ⟨rfl, rfl⟩
/-! codes -/
/-- the value of a code -/
theorem ix_mid {A B : List Int} {x : Int} {i : Int} (h : i = A.length) : ixAt ((A ++ x :: B).map D.int) i = some (.int x) := by
  subst h
  refine ixAt_nat ?_
  rw [List.getElem?_map, List.getElem?_append_right (Nat.le_refl _), Nat.sub_self]; rfl
/-! so many bytes -/
end K32
namespace K32
open PySem Cut
theorem is_page {k : Nat} {p : List Int} {G : Store} (hb : ∀ b ∈ p, Byte b) (hl : p.length ≤ 96) : run T (k + 3) 3 [.tup (p.map .int)] G = .ok (.bl true) G := by
  refine eq_of_wp (run_wp (fd := d3.fd) rfl rfl ?_)
  simp only [s_pass, s_nil, s_cons, s_expr, s_set, s_par, s_setIx, s_setKey, s_augIx, s_aug, s_ifs, s_ret, s_retN, s_brk, s_cnt, s_never, w_k, w_v, w_un, w_bin, w_and, w_or, w_ite, w_chain, w_tup, wp_newL, w_lst, w_dic0, w_callD, w_sl, w_rev, w_call, w_bf, w_mt, w_nil, w_cons, w_no, w_some, Tg.bind, bindN, o_add, o_addT, o_sub, o_mul, o_fdiv, o_mod, o_pow, o_eq, o_ne, o_lt, o_le, o_gt, o_ge, o_isT, o_isI, o_isR, o_isN, o_eqB, o_neB, o_not, o_neg, o_lenT, o_int, o_isinI, o_isinT, o_isinB, o_isinI2, o_isinT2, t_ii, t_ib, t_is, t_it, t_il, t_tt, t_tl, t_ts, t_ti, t_tb, t_bb, t_bi, Cut.truthy, zb_bl, Bool.or_false, Bool.false_or, Bool.not_true, Bool.not_false, Bool.true_or, Bool.or_true, tb_dec, tb_some, tb_not, tb_true, tb_false, Cut.start, List.map, List.length, List.replicate, List.append_eq, List.cons_append, List.nil_append, List.getElem?_cons_zero, List.getElem?_cons_succ, List.set_cons_zero, List.set_cons_succ, Nat.reduceAdd, Nat.reduceSub, tyOf, if_true, if_false, Bool.false_eq_true, decide_true, decide_false, wp_ok, Df.fd, d3]
  rw [are_bytes hb (by omega) (by unfold loopFuel; omega)]
  simp only [s_pass, s_nil, s_cons, s_expr, s_set, s_par, s_setIx, s_setKey, s_augIx, s_aug, s_ifs, s_ret, s_retN, s_brk, s_cnt, s_never, w_k, w_v, w_un, w_bin, w_and, w_or, w_ite, w_chain, w_tup, wp_newL, w_lst, w_dic0, w_callD, w_sl, w_rev, w_call, w_bf, w_mt, w_nil, w_cons, w_no, w_some, Tg.bind, bindN, o_add, o_addT, o_sub, o_mul, o_fdiv, o_mod, o_pow, o_eq, o_ne, o_lt, o_le, o_gt, o_ge, o_isT, o_isI, o_isR, o_isN, o_eqB, o_neB, o_not, o_neg, o_lenT, o_int, o_isinI, o_isinT, o_isinB, o_isinI2, o_isinT2, t_ii, t_ib, t_is, t_it, t_il, t_tt, t_tl, t_ts, t_ti, t_tb, t_bb, t_bi, Cut.truthy, zb_bl, Bool.or_false, Bool.false_or, Bool.not_true, Bool.not_false, Bool.true_or, Bool.or_true, tb_dec, tb_some, tb_not, tb_true, tb_false, Cut.start, List.map, List.length, List.replicate, List.append_eq, List.cons_append, List.nil_append, List.getElem?_cons_zero, List.getElem?_cons_succ, List.set_cons_zero, List.set_cons_succ, Nat.reduceAdd, Nat.reduceSub, tyOf, if_true, if_false, Bool.false_eq_true, decide_true, decide_false, wp_ok]
  rw [gc_id rfl]
  exact ⟨rfl, rfl⟩
theorem bt_at {b : Bt} {i : Nat} (h : i < b.length) : (b.map fun p => D.tup [.int p.1, .tup (p.2.map .int)])[i]? = some (.tup [.int b[i].1, .tup (b[i].2.map .int)]) := by
  rw [List.getElem?_map, List.getElem?_eq_getElem h]; rfl
theorem fix_at {ds : List D} {i : Nat} {d : D} {G : Store} (h : ds[i]? = some d) : (Itv.enum (.fix ds)).at i G = some (some (.tup [.int i, d])) := by
  show ((some ds[i]?).map fun o => o.map fun d => D.tup [.int i, d]) = _
  rw [h]; rfl
theorem fix_end {ds : List D} {i : Nat} {G : Store} (h : ds.length ≤ i) : (Itv.enum (.fix ds)).at i G = some none := by
  show ((some ds[i]?).map fun o => o.map fun d => D.tup [.int i, d]) = _
  rw [List.getElem?_eq_none h]; rfl
theorem one_at {ds : List D} {i : Nat} {d : D} {G : Store} (h : ds[i]? = some d) : (Itv.one (.fix ds)).at i G = some (some d) := by
  show some ds[i]? = _
  rw [h]
theorem one_end {ds : List D} {i : Nat} {G : Store} (h : ds.length ≤ i) : (Itv.one (.fix ds)).at i G = some none := by
  show some ds[i]? = _
  rw [List.getElem?_eq_none h]
theorem i0 {x y : D} : ixAt [x, y] 0 = some x := rfl
theorem i1 {x y : D} : ixAt [x, y] 1 = some y := rfl
/-- the number ahead of the i-th pair -/
def bef (b : Bt) : Nat → Int
  | 0 => -1
  | i + 1 => (b.getD i (0, [])).1
theorem bef_lt {P m z : Nat} {b : Bt} (h : BtOk P m z b) {i : Nat} (hi : i < b.length) : bef b i < b[i].1 ∧ bef b (i + 1) = b[i].1 := by
  have e : ∀ j, (hj : j < b.length) → (b.getD j (0, [])) = b[j] := fun j hj => by rw [List.getD_eq_getElem?_getD, List.getElem?_eq_getElem hj]; rfl
  refine ⟨?_, by show (b.getD i (0, [])).1 = _; rw [e i hi]⟩
  cases i with
  | zero =>
    have := (h.num b[0] (List.getElem_mem hi)).1
    show (-1 : Int) < _
    omega
  | succ i =>
    show (b.getD i (0, [])).1 < _
    rw [e i (by omega)]
    have := List.pairwise_iff_getElem.mp h.asc i (i + 1) (by rw [List.length_map]; omega) (by rw [List.length_map]; omega) (Nat.lt_succ_self i)
    rw [List.getElem_map, List.getElem_map] at this
    exact this
theorem wrong_pair {k P m z : Nat} {b : Bt} {G : Store} (h : BtOk P m z b) (hP : P ≤ 64) (hm : m ≤ 64) (hz : z ≤ 96) : run T (k + 4) 4 [btD b] G = .ok (.tup [.bl true, .non]) G := by
  have h1 := h.pos
  have h2 := h.le
  refine eq_of_wp (run_wp (fd := d4.fd) rfl rfl ?_)
  simp only [s_pass, s_nil, s_cons, s_expr, s_set, s_par, s_setIx, s_setKey, s_augIx, s_aug, s_ifs, s_ret, s_retN, s_brk, s_cnt, s_never, w_k, w_v, w_un, w_bin, w_and, w_or, w_ite, w_chain, w_tup, wp_newL, w_lst, w_dic0, w_callD, w_sl, w_rev, w_call, w_bf, w_mt, w_nil, w_cons, w_no, w_some, Tg.bind, bindN, o_add, o_addT, o_sub, o_mul, o_fdiv, o_mod, o_pow, o_eq, o_ne, o_lt, o_le, o_gt, o_ge, o_isT, o_isI, o_isR, o_isN, o_eqB, o_neB, o_not, o_neg, o_lenT, o_int, o_isinI, o_isinT, o_isinB, o_isinI2, o_isinT2, t_ii, t_ib, t_is, t_it, t_il, t_tt, t_tl, t_ts, t_ti, t_tb, t_bb, t_bi, Cut.truthy, zb_bl, Bool.or_false, Bool.false_or, Bool.not_true, Bool.not_false, Bool.true_or, Bool.or_true, tb_dec, tb_some, tb_not, tb_true, tb_false, Cut.start, List.map, List.length, List.replicate, List.append_eq, List.cons_append, List.nil_append, List.getElem?_cons_zero, List.getElem?_cons_succ, List.set_cons_zero, List.set_cons_succ, Nat.reduceAdd, Nat.reduceSub, tyOf, if_true, if_false, Bool.false_eq_true, decide_true, decide_false, wp_ok, Df.fd, d4, btD, s_for, i_enum, List.length_map]
  simp only [show (1 : Int) ≤ (b.length : Int) by omega, show (b.length : Int) ≤ 64 by omega, decide_true, if_true]
  refine s_forGo (fun i ρ G' => ∃ x2 x3 : Option D, ρ = [some (.tup (b.map fun p => .tup [.int p.1, .tup (p.2.map .int)])), some (.int (bef b i)), x2, x3] ∧ G' = G) b.length (by unfold loopFuel; omega) ⟨none, none, rfl, rfl⟩ ?_ ?_
  · rintro i ρ G' hi ⟨x2, x3, rfl, rfl⟩
    refine ⟨_, fix_at (bt_at hi), _, rfl, ?_⟩
    obtain ⟨b1, b2⟩ := bef_lt h hi
    have hn := h.num b[i] (List.getElem_mem hi)
    have hp := h.page b[i] (List.getElem_mem hi)
    simp only [s_pass, s_nil, s_cons, s_expr, s_set, s_par, s_setIx, s_setKey, s_augIx, s_aug, s_ifs, s_ret, s_retN, s_brk, s_cnt, s_never, w_k, w_v, w_un, w_bin, w_and, w_or, w_ite, w_chain, w_tup, wp_newL, w_lst, w_dic0, w_callD, w_sl, w_rev, w_call, w_bf, w_mt, w_nil, w_cons, w_no, w_some, Tg.bind, bindN, o_add, o_addT, o_sub, o_mul, o_fdiv, o_mod, o_pow, o_eq, o_ne, o_lt, o_le, o_gt, o_ge, o_isT, o_isI, o_isR, o_isN, o_eqB, o_neB, o_not, o_neg, o_lenT, o_int, o_isinI, o_isinT, o_isinB, o_isinI2, o_isinT2, t_ii, t_ib, t_is, t_it, t_il, t_tt, t_tl, t_ts, t_ti, t_tb, t_bb, t_bi, Cut.truthy, zb_bl, Bool.or_false, Bool.false_or, Bool.not_true, Bool.not_false, Bool.true_or, Bool.or_true, tb_dec, tb_some, tb_not, tb_true, tb_false, Cut.start, List.map, List.length, List.replicate, List.append_eq, List.cons_append, List.nil_append, List.getElem?_cons_zero, List.getElem?_cons_succ, List.set_cons_zero, List.set_cons_succ, Nat.reduceAdd, Nat.reduceSub, tyOf, if_true, if_false, Bool.false_eq_true, decide_true, decide_false, wp_ok, o_ixT i0, o_ixT i1]
    simp only [show ¬ ((2 : Nat) : Int) ≠ 2 by decide, decide_false, if_false, Bool.false_eq_true, Int.cast_ofNat_Int, ne_eq, not_true_eq_false, decide_true, Bool.not_true]
    rw [is_number (by omega) (by omega)]
    simp only [s_pass, s_nil, s_cons, s_expr, s_set, s_par, s_setIx, s_setKey, s_augIx, s_aug, s_ifs, s_ret, s_retN, s_brk, s_cnt, s_never, w_k, w_v, w_un, w_bin, w_and, w_or, w_ite, w_chain, w_tup, wp_newL, w_lst, w_dic0, w_callD, w_sl, w_rev, w_call, w_bf, w_mt, w_nil, w_cons, w_no, w_some, Tg.bind, bindN, o_add, o_addT, o_sub, o_mul, o_fdiv, o_mod, o_pow, o_eq, o_ne, o_lt, o_le, o_gt, o_ge, o_isT, o_isI, o_isR, o_isN, o_eqB, o_neB, o_not, o_neg, o_lenT, o_int, o_isinI, o_isinT, o_isinB, o_isinI2, o_isinT2, t_ii, t_ib, t_is, t_it, t_il, t_tt, t_tl, t_ts, t_ti, t_tb, t_bb, t_bi, Cut.truthy, zb_bl, Bool.or_false, Bool.false_or, Bool.not_true, Bool.not_false, Bool.true_or, Bool.or_true, tb_dec, tb_some, tb_not, tb_true, tb_false, Cut.start, List.map, List.length, List.replicate, List.append_eq, List.cons_append, List.nil_append, List.getElem?_cons_zero, List.getElem?_cons_succ, List.set_cons_zero, List.set_cons_succ, Nat.reduceAdd, Nat.reduceSub, tyOf, if_true, if_false, Bool.false_eq_true, decide_true, decide_false, wp_ok, o_ixT i0, o_ixT i1]
    rw [is_page hp.1 (by omega)]
    simp only [s_pass, s_nil, s_cons, s_expr, s_set, s_par, s_setIx, s_setKey, s_augIx, s_aug, s_ifs, s_ret, s_retN, s_brk, s_cnt, s_never, w_k, w_v, w_un, w_bin, w_and, w_or, w_ite, w_chain, w_tup, wp_newL, w_lst, w_dic0, w_callD, w_sl, w_rev, w_call, w_bf, w_mt, w_nil, w_cons, w_no, w_some, Tg.bind, bindN, o_add, o_addT, o_sub, o_mul, o_fdiv, o_mod, o_pow, o_eq, o_ne, o_lt, o_le, o_gt, o_ge, o_isT, o_isI, o_isR, o_isN, o_eqB, o_neB, o_not, o_neg, o_lenT, o_int, o_isinI, o_isinT, o_isinB, o_isinI2, o_isinT2, t_ii, t_ib, t_is, t_it, t_il, t_tt, t_tl, t_ts, t_ti, t_tb, t_bb, t_bi, Cut.truthy, zb_bl, Bool.or_false, Bool.false_or, Bool.not_true, Bool.not_false, Bool.true_or, Bool.or_true, tb_dec, tb_some, tb_not, tb_true, tb_false, Cut.start, List.map, List.length, List.replicate, List.append_eq, List.cons_append, List.nil_append, List.getElem?_cons_zero, List.getElem?_cons_succ, List.set_cons_zero, List.set_cons_succ, Nat.reduceAdd, Nat.reduceSub, tyOf, if_true, if_false, Bool.false_eq_true, decide_true, decide_false, wp_ok, o_ixT i0]
    exact ⟨_, _, by rw [b2], trivial⟩
  · rintro ρ G' ⟨x2, x3, rfl, rfl⟩
    refine ⟨fix_end (by rw [List.length_map]; exact Nat.le_refl _), ?_⟩
    simp only [s_pass, s_nil, s_cons, s_expr, s_set, s_par, s_setIx, s_setKey, s_augIx, s_aug, s_ifs, s_ret, s_retN, s_brk, s_cnt, s_never, w_k, w_v, w_un, w_bin, w_and, w_or, w_ite, w_chain, w_tup, wp_newL, w_lst, w_dic0, w_callD, w_sl, w_rev, w_call, w_bf, w_mt, w_nil, w_cons, w_no, w_some, Tg.bind, bindN, o_add, o_addT, o_sub, o_mul, o_fdiv, o_mod, o_pow, o_eq, o_ne, o_lt, o_le, o_gt, o_ge, o_isT, o_isI, o_isR, o_isN, o_eqB, o_neB, o_not, o_neg, o_lenT, o_int, o_isinI, o_isinT, o_isinB, o_isinI2, o_isinT2, t_ii, t_ib, t_is, t_it, t_il, t_tt, t_tl, t_ts, t_ti, t_tb, t_bb, t_bi, Cut.truthy, zb_bl, Bool.or_false, Bool.false_or, Bool.not_true, Bool.not_false, Bool.true_or, Bool.or_true, tb_dec, tb_some, tb_not, tb_true, tb_false, Cut.start, List.map, List.length, List.replicate, List.append_eq, List.cons_append, List.nil_append, List.getElem?_cons_zero, List.getElem?_cons_succ, List.set_cons_zero, List.set_cons_succ, Nat.reduceAdd, Nat.reduceSub, tyOf, if_true, if_false, Bool.false_eq_true, decide_true, decide_false, wp_ok]
    refine ⟨by decide, ?_⟩
    rw [gc_id rfl]
    exact ⟨rfl, rfl⟩
theorem is_batch {k P m z : Nat} {Pi : Int} {b : Bt} {G : Store} (h : BtOk P m z b) (hPi : Pi = P) (hP : P ≤ 64) (hm : m ≤ 64) (hz : z ≤ 96) : run T (k + 5) 5 [btD b, .int Pi] G = .ok (.bl true) G := by
  subst hPi
  refine eq_of_wp (run_wp (fd := d5.fd) rfl rfl ?_)
  simp only [s_pass, s_nil, s_cons, s_expr, s_set, s_par, s_setIx, s_setKey, s_augIx, s_aug, s_ifs, s_ret, s_retN, s_brk, s_cnt, s_never, w_k, w_v, w_un, w_bin, w_and, w_or, w_ite, w_chain, w_tup, wp_newL, w_lst, w_dic0, w_callD, w_sl, w_rev, w_call, w_bf, w_mt, w_nil, w_cons, w_no, w_some, Tg.bind, bindN, o_add, o_addT, o_sub, o_mul, o_fdiv, o_mod, o_pow, o_eq, o_ne, o_lt, o_le, o_gt, o_ge, o_isT, o_isI, o_isR, o_isN, o_eqB, o_neB, o_not, o_neg, o_lenT, o_int, o_isinI, o_isinT, o_isinB, o_isinI2, o_isinT2, t_ii, t_ib, t_is, t_it, t_il, t_tt, t_tl, t_ts, t_ti, t_tb, t_bb, t_bi, Cut.truthy, zb_bl, Bool.or_false, Bool.false_or, Bool.not_true, Bool.not_false, Bool.true_or, Bool.or_true, tb_dec, tb_some, tb_not, tb_true, tb_false, Cut.start, List.map, List.length, List.replicate, List.append_eq, List.cons_append, List.nil_append, List.getElem?_cons_zero, List.getElem?_cons_succ, List.set_cons_zero, List.set_cons_succ, Nat.reduceAdd, Nat.reduceSub, tyOf, if_true, if_false, Bool.false_eq_true, decide_true, decide_false, wp_ok, Df.fd, d5]
  rw [wrong_pair h hP hm hz]
  simp only [s_pass, s_nil, s_cons, s_expr, s_set, s_par, s_setIx, s_setKey, s_augIx, s_aug, s_ifs, s_ret, s_retN, s_brk, s_cnt, s_never, w_k, w_v, w_un, w_bin, w_and, w_or, w_ite, w_chain, w_tup, wp_newL, w_lst, w_dic0, w_callD, w_sl, w_rev, w_call, w_bf, w_mt, w_nil, w_cons, w_no, w_some, Tg.bind, bindN, o_add, o_addT, o_sub, o_mul, o_fdiv, o_mod, o_pow, o_eq, o_ne, o_lt, o_le, o_gt, o_ge, o_isT, o_isI, o_isR, o_isN, o_eqB, o_neB, o_not, o_neg, o_lenT, o_int, o_isinI, o_isinT, o_isinB, o_isinI2, o_isinT2, t_ii, t_ib, t_is, t_it, t_il, t_tt, t_tl, t_ts, t_ti, t_tb, t_bb, t_bi, Cut.truthy, zb_bl, Bool.or_false, Bool.false_or, Bool.not_true, Bool.not_false, Bool.true_or, Bool.or_true, tb_dec, tb_some, tb_not, tb_true, tb_false, Cut.start, List.map, List.length, List.replicate, List.append_eq, List.cons_append, List.nil_append, List.getElem?_cons_zero, List.getElem?_cons_succ, List.set_cons_zero, List.set_cons_succ, Nat.reduceAdd, Nat.reduceSub, tyOf, if_true, if_false, Bool.false_eq_true, decide_true, decide_false, wp_ok, o_ixT i0]
  rcases List.eq_nil_or_concat b with rfl | ⟨b', a, e⟩
  · exact absurd h.pos (Nat.lt_irrefl 0)
  · have e : b = b' ++ [a] := by simpa using e
    subst e
    have ha := h.num a (List.mem_append_right _ (List.mem_singleton.mpr rfl))
    unfold btD
    rw [List.map_append, List.map_singleton, o_ixT ix_last]
    simp only [s_pass, s_nil, s_cons, s_expr, s_set, s_par, s_setIx, s_setKey, s_augIx, s_aug, s_ifs, s_ret, s_retN, s_brk, s_cnt, s_never, w_k, w_v, w_un, w_bin, w_and, w_or, w_ite, w_chain, w_tup, wp_newL, w_lst, w_dic0, w_callD, w_sl, w_rev, w_call, w_bf, w_mt, w_nil, w_cons, w_no, w_some, Tg.bind, bindN, o_add, o_addT, o_sub, o_mul, o_fdiv, o_mod, o_pow, o_eq, o_ne, o_lt, o_le, o_gt, o_ge, o_isT, o_isI, o_isR, o_isN, o_eqB, o_neB, o_not, o_neg, o_lenT, o_int, o_isinI, o_isinT, o_isinB, o_isinI2, o_isinT2, t_ii, t_ib, t_is, t_it, t_il, t_tt, t_tl, t_ts, t_ti, t_tb, t_bb, t_bi, Cut.truthy, zb_bl, Bool.or_false, Bool.false_or, Bool.not_true, Bool.not_false, Bool.true_or, Bool.or_true, tb_dec, tb_some, tb_not, tb_true, tb_false, Cut.start, List.map, List.length, List.replicate, List.append_eq, List.cons_append, List.nil_append, List.getElem?_cons_zero, List.getElem?_cons_succ, List.set_cons_zero, List.set_cons_succ, Nat.reduceAdd, Nat.reduceSub, tyOf, if_true, if_false, Bool.false_eq_true, decide_true, decide_false, wp_ok, o_ixT i0]
    simp only [show a.1 < (P : Int) from ha.2, decide_true]
    rw [gc_id rfl]
    exact ⟨rfl, rfl⟩
theorem need_shape {k P R : Nat} {G : Store} (h1 : 1 ≤ P) (h2 : P ≤ 64) (h3 : 2 ≤ R) (h4 : R ≤ 64) : run T (k + 2) 2 [.tup [.int P, .int R]] G = .ok .non G := by
  refine eq_of_wp (run_wp (fd := d2.fd) rfl rfl ?_)
  simp only [s_pass, s_nil, s_cons, s_expr, s_set, s_par, s_setIx, s_setKey, s_augIx, s_aug, s_ifs, s_ret, s_retN, s_brk, s_cnt, s_never, w_k, w_v, w_un, w_bin, w_and, w_or, w_ite, w_chain, w_tup, wp_newL, w_lst, w_dic0, w_callD, w_sl, w_rev, w_call, w_bf, w_mt, w_nil, w_cons, w_no, w_some, Tg.bind, bindN, o_add, o_addT, o_sub, o_mul, o_fdiv, o_mod, o_pow, o_eq, o_ne, o_lt, o_le, o_gt, o_ge, o_isT, o_isI, o_isR, o_isN, o_eqB, o_neB, o_not, o_neg, o_lenT, o_int, o_isinI, o_isinT, o_isinB, o_isinI2, o_isinT2, t_ii, t_ib, t_is, t_it, t_il, t_tt, t_tl, t_ts, t_ti, t_tb, t_bb, t_bi, Cut.truthy, zb_bl, Bool.or_false, Bool.false_or, Bool.not_true, Bool.not_false, Bool.true_or, Bool.or_true, tb_dec, tb_some, tb_not, tb_true, tb_false, Cut.start, List.map, List.length, List.replicate, List.append_eq, List.cons_append, List.nil_append, List.getElem?_cons_zero, List.getElem?_cons_succ, List.set_cons_zero, List.set_cons_succ, Nat.reduceAdd, Nat.reduceSub, tyOf, if_true, if_false, Bool.false_eq_true, decide_true, decide_false, wp_ok, Df.fd, d2, o_ixT i0, o_ixT i1]
  simp only [show ¬ ((2 : Nat) : Int) ≠ 2 by decide, decide_false, if_false, Bool.false_eq_true, Int.cast_ofNat_Int, ne_eq, not_true_eq_false, decide_true, Bool.not_true]
  rw [is_number (by omega) (by omega)]
  simp only [s_pass, s_nil, s_cons, s_expr, s_set, s_par, s_setIx, s_setKey, s_augIx, s_aug, s_ifs, s_ret, s_retN, s_brk, s_cnt, s_never, w_k, w_v, w_un, w_bin, w_and, w_or, w_ite, w_chain, w_tup, wp_newL, w_lst, w_dic0, w_callD, w_sl, w_rev, w_call, w_bf, w_mt, w_nil, w_cons, w_no, w_some, Tg.bind, bindN, o_add, o_addT, o_sub, o_mul, o_fdiv, o_mod, o_pow, o_eq, o_ne, o_lt, o_le, o_gt, o_ge, o_isT, o_isI, o_isR, o_isN, o_eqB, o_neB, o_not, o_neg, o_lenT, o_int, o_isinI, o_isinT, o_isinB, o_isinI2, o_isinT2, t_ii, t_ib, t_is, t_it, t_il, t_tt, t_tl, t_ts, t_ti, t_tb, t_bb, t_bi, Cut.truthy, zb_bl, Bool.or_false, Bool.false_or, Bool.not_true, Bool.not_false, Bool.true_or, Bool.or_true, tb_dec, tb_some, tb_not, tb_true, tb_false, Cut.start, List.map, List.length, List.replicate, List.append_eq, List.cons_append, List.nil_append, List.getElem?_cons_zero, List.getElem?_cons_succ, List.set_cons_zero, List.set_cons_succ, Nat.reduceAdd, Nat.reduceSub, tyOf, if_true, if_false, Bool.false_eq_true, decide_true, decide_false, wp_ok, o_ixT i0, o_ixT i1]
  rw [is_number (by omega) (by omega)]
  simp only [s_pass, s_nil, s_cons, s_expr, s_set, s_par, s_setIx, s_setKey, s_augIx, s_aug, s_ifs, s_ret, s_retN, s_brk, s_cnt, s_never, w_k, w_v, w_un, w_bin, w_and, w_or, w_ite, w_chain, w_tup, wp_newL, w_lst, w_dic0, w_callD, w_sl, w_rev, w_call, w_bf, w_mt, w_nil, w_cons, w_no, w_some, Tg.bind, bindN, o_add, o_addT, o_sub, o_mul, o_fdiv, o_mod, o_pow, o_eq, o_ne, o_lt, o_le, o_gt, o_ge, o_isT, o_isI, o_isR, o_isN, o_eqB, o_neB, o_not, o_neg, o_lenT, o_int, o_isinI, o_isinT, o_isinB, o_isinI2, o_isinT2, t_ii, t_ib, t_is, t_it, t_il, t_tt, t_tl, t_ts, t_ti, t_tb, t_bb, t_bi, Cut.truthy, zb_bl, Bool.or_false, Bool.false_or, Bool.not_true, Bool.not_false, Bool.true_or, Bool.or_true, tb_dec, tb_some, tb_not, tb_true, tb_false, Cut.start, List.map, List.length, List.replicate, List.append_eq, List.cons_append, List.nil_append, List.getElem?_cons_zero, List.getElem?_cons_succ, List.set_cons_zero, List.set_cons_succ, Nat.reduceAdd, Nat.reduceSub, tyOf, if_true, if_false, Bool.false_eq_true, decide_true, decide_false, wp_ok]
  rw [gc_id rfl]
  exact ⟨rfl, rfl⟩
theorem bts_at {bs : List Bt} {i : Nat} (h : i < bs.length) : (bs.map btD)[i]? = some (btD bs[i]) := by
  rw [List.getElem?_map, List.getElem?_eq_getElem h]; rfl
theorem o_lenBt {G : Store} {Q : D → Store → Prop} {b : Bt} : wp (bf .len [btD b] G) Q = Q (.int (b.length : Int)) G := by
  unfold btD
  rw [o_lenT, List.length_map]
theorem need_batches {k P R z : Nat} {bs : List Bt} {G : Store} (h1 : 1 ≤ P) (h2 : P ≤ 64) (h3 : 2 ≤ R) (h4 : R ≤ 64) (hz : z ≤ 96) (hn : bs.length ≤ 20) (h : ∀ b ∈ bs, BtOk P R z b) : run T (k + 6) 6 [.tup [.int P, .int R], .tup (bs.map btD)] G = .ok .non G := by
  refine eq_of_wp (run_wp (fd := d6.fd) rfl rfl ?_)
  simp only [s_pass, s_nil, s_cons, s_expr, s_set, s_par, s_setIx, s_setKey, s_augIx, s_aug, s_ifs, s_ret, s_retN, s_brk, s_cnt, s_never, w_k, w_v, w_un, w_bin, w_and, w_or, w_ite, w_chain, w_tup, wp_newL, w_lst, w_dic0, w_callD, w_sl, w_rev, w_call, w_bf, w_mt, w_nil, w_cons, w_no, w_some, Tg.bind, bindN, o_add, o_addT, o_sub, o_mul, o_fdiv, o_mod, o_pow, o_eq, o_ne, o_lt, o_le, o_gt, o_ge, o_isT, o_isI, o_isR, o_isN, o_eqB, o_neB, o_not, o_neg, o_lenT, o_int, o_isinI, o_isinT, o_isinB, o_isinI2, o_isinT2, t_ii, t_ib, t_is, t_it, t_il, t_tt, t_tl, t_ts, t_ti, t_tb, t_bb, t_bi, Cut.truthy, zb_bl, Bool.or_false, Bool.false_or, Bool.not_true, Bool.not_false, Bool.true_or, Bool.or_true, tb_dec, tb_some, tb_not, tb_true, tb_false, Cut.start, List.map, List.length, List.replicate, List.append_eq, List.cons_append, List.nil_append, List.getElem?_cons_zero, List.getElem?_cons_succ, List.set_cons_zero, List.set_cons_succ, Nat.reduceAdd, Nat.reduceSub, tyOf, if_true, if_false, Bool.false_eq_true, decide_true, decide_false, wp_ok, Df.fd, d6, s_for, i_enum]
  rw [need_shape h1 h2 h3 h4]
  simp only [s_pass, s_nil, s_cons, s_expr, s_set, s_par, s_setIx, s_setKey, s_augIx, s_aug, s_ifs, s_ret, s_retN, s_brk, s_cnt, s_never, w_k, w_v, w_un, w_bin, w_and, w_or, w_ite, w_chain, w_tup, wp_newL, w_lst, w_dic0, w_callD, w_sl, w_rev, w_call, w_bf, w_mt, w_nil, w_cons, w_no, w_some, Tg.bind, bindN, o_add, o_addT, o_sub, o_mul, o_fdiv, o_mod, o_pow, o_eq, o_ne, o_lt, o_le, o_gt, o_ge, o_isT, o_isI, o_isR, o_isN, o_eqB, o_neB, o_not, o_neg, o_lenT, o_int, o_isinI, o_isinT, o_isinB, o_isinI2, o_isinT2, t_ii, t_ib, t_is, t_it, t_il, t_tt, t_tl, t_ts, t_ti, t_tb, t_bb, t_bi, Cut.truthy, zb_bl, Bool.or_false, Bool.false_or, Bool.not_true, Bool.not_false, Bool.true_or, Bool.or_true, tb_dec, tb_some, tb_not, tb_true, tb_false, Cut.start, List.map, List.length, List.replicate, List.append_eq, List.cons_append, List.nil_append, List.getElem?_cons_zero, List.getElem?_cons_succ, List.set_cons_zero, List.set_cons_succ, Nat.reduceAdd, Nat.reduceSub, tyOf, if_true, if_false, Bool.false_eq_true, decide_true, decide_false, wp_ok, List.length_map]
  simp only [show ¬ (20 : Int) < (bs.length : Int) by omega, decide_false, if_false, Bool.false_eq_true]
  refine s_forGo (fun i ρ G' => ∃ x2 x3 : Option D, ρ = [some (.tup [.int P, .int R]), some (.tup (bs.map btD)), x2, x3] ∧ G' = G) bs.length (by unfold loopFuel; omega) ⟨none, none, rfl, rfl⟩ ?_ ?_
  · rintro i ρ G' hi ⟨x2, x3, rfl, rfl⟩
    refine ⟨_, fix_at (bts_at hi), _, rfl, ?_⟩
    simp only [s_pass, s_nil, s_cons, s_expr, s_set, s_par, s_setIx, s_setKey, s_augIx, s_aug, s_ifs, s_ret, s_retN, s_brk, s_cnt, s_never, w_k, w_v, w_un, w_bin, w_and, w_or, w_ite, w_chain, w_tup, wp_newL, w_lst, w_dic0, w_callD, w_sl, w_rev, w_call, w_bf, w_mt, w_nil, w_cons, w_no, w_some, Tg.bind, bindN, o_add, o_addT, o_sub, o_mul, o_fdiv, o_mod, o_pow, o_eq, o_ne, o_lt, o_le, o_gt, o_ge, o_isT, o_isI, o_isR, o_isN, o_eqB, o_neB, o_not, o_neg, o_lenT, o_int, o_isinI, o_isinT, o_isinB, o_isinI2, o_isinT2, t_ii, t_ib, t_is, t_it, t_il, t_tt, t_tl, t_ts, t_ti, t_tb, t_bb, t_bi, Cut.truthy, zb_bl, Bool.or_false, Bool.false_or, Bool.not_true, Bool.not_false, Bool.true_or, Bool.or_true, tb_dec, tb_some, tb_not, tb_true, tb_false, Cut.start, List.map, List.length, List.replicate, List.append_eq, List.cons_append, List.nil_append, List.getElem?_cons_zero, List.getElem?_cons_succ, List.set_cons_zero, List.set_cons_succ, Nat.reduceAdd, Nat.reduceSub, tyOf, if_true, if_false, Bool.false_eq_true, decide_true, decide_false, wp_ok, o_ixT i0, o_min]
    rw [is_batch (h bs[i] (List.getElem_mem hi)) (show min (P : Int) 64 = P by omega) h2 h4 hz]
    simp only [s_pass, s_nil, s_cons, s_expr, s_set, s_par, s_setIx, s_setKey, s_augIx, s_aug, s_ifs, s_ret, s_retN, s_brk, s_cnt, s_never, w_k, w_v, w_un, w_bin, w_and, w_or, w_ite, w_chain, w_tup, wp_newL, w_lst, w_dic0, w_callD, w_sl, w_rev, w_call, w_bf, w_mt, w_nil, w_cons, w_no, w_some, Tg.bind, bindN, o_add, o_addT, o_sub, o_mul, o_fdiv, o_mod, o_pow, o_eq, o_ne, o_lt, o_le, o_gt, o_ge, o_isT, o_isI, o_isR, o_isN, o_eqB, o_neB, o_not, o_neg, o_lenT, o_int, o_isinI, o_isinT, o_isinB, o_isinI2, o_isinT2, t_ii, t_ib, t_is, t_it, t_il, t_tt, t_tl, t_ts, t_ti, t_tb, t_bb, t_bi, Cut.truthy, zb_bl, Bool.or_false, Bool.false_or, Bool.not_true, Bool.not_false, Bool.true_or, Bool.or_true, tb_dec, tb_some, tb_not, tb_true, tb_false, Cut.start, List.map, List.length, List.replicate, List.append_eq, List.cons_append, List.nil_append, List.getElem?_cons_zero, List.getElem?_cons_succ, List.set_cons_zero, List.set_cons_succ, Nat.reduceAdd, Nat.reduceSub, tyOf, if_true, if_false, Bool.false_eq_true, decide_true, decide_false, wp_ok]
    exact ⟨_, _, rfl, trivial⟩
  · rintro ρ G' ⟨x2, x3, rfl, rfl⟩
    refine ⟨fix_end (by rw [List.length_map]; exact Nat.le_refl _), ?_⟩
    simp only [s_pass, s_nil, s_cons, s_expr, s_set, s_par, s_setIx, s_setKey, s_augIx, s_aug, s_ifs, s_ret, s_retN, s_brk, s_cnt, s_never, w_k, w_v, w_un, w_bin, w_and, w_or, w_ite, w_chain, w_tup, wp_newL, w_lst, w_dic0, w_callD, w_sl, w_rev, w_call, w_bf, w_mt, w_nil, w_cons, w_no, w_some, Tg.bind, bindN, o_add, o_addT, o_sub, o_mul, o_fdiv, o_mod, o_pow, o_eq, o_ne, o_lt, o_le, o_gt, o_ge, o_isT, o_isI, o_isR, o_isN, o_eqB, o_neB, o_not, o_neg, o_lenT, o_int, o_isinI, o_isinT, o_isinB, o_isinI2, o_isinT2, t_ii, t_ib, t_is, t_it, t_il, t_tt, t_tl, t_ts, t_ti, t_tb, t_bb, t_bi, Cut.truthy, zb_bl, Bool.or_false, Bool.false_or, Bool.not_true, Bool.not_false, Bool.true_or, Bool.or_true, tb_dec, tb_some, tb_not, tb_true, tb_false, Cut.start, List.map, List.length, List.replicate, List.append_eq, List.cons_append, List.nil_append, List.getElem?_cons_zero, List.getElem?_cons_succ, List.set_cons_zero, List.set_cons_succ, Nat.reduceAdd, Nat.reduceSub, tyOf, if_true, if_false, Bool.false_eq_true, decide_true, decide_false, wp_ok, s_for, i_enum]
    refine s_forGo (fun i ρ G'' => ∃ x2 x3 : Option D, ρ = [some (.tup [.int P, .int R]), some (.tup (bs.map btD)), x2, x3] ∧ G'' = G') bs.length (by unfold loopFuel; omega) ⟨_, _, rfl, rfl⟩ ?_ ?_
    · rintro i ρ G' hi ⟨x2, x3, rfl, rfl⟩
      refine ⟨_, fix_at (bts_at hi), _, rfl, ?_⟩
      have := (h bs[i] (List.getElem_mem hi)).le
      simp only [s_pass, s_nil, s_cons, s_expr, s_set, s_par, s_setIx, s_setKey, s_augIx, s_aug, s_ifs, s_ret, s_retN, s_brk, s_cnt, s_never, w_k, w_v, w_un, w_bin, w_and, w_or, w_ite, w_chain, w_tup, wp_newL, w_lst, w_dic0, w_callD, w_sl, w_rev, w_call, w_bf, w_mt, w_nil, w_cons, w_no, w_some, Tg.bind, bindN, o_add, o_addT, o_sub, o_mul, o_fdiv, o_mod, o_pow, o_eq, o_ne, o_lt, o_le, o_gt, o_ge, o_isT, o_isI, o_isR, o_isN, o_eqB, o_neB, o_not, o_neg, o_lenT, o_int, o_isinI, o_isinT, o_isinB, o_isinI2, o_isinT2, t_ii, t_ib, t_is, t_it, t_il, t_tt, t_tl, t_ts, t_ti, t_tb, t_bb, t_bi, Cut.truthy, zb_bl, Bool.or_false, Bool.false_or, Bool.not_true, Bool.not_false, Bool.true_or, Bool.or_true, tb_dec, tb_some, tb_not, tb_true, tb_false, Cut.start, List.map, List.length, List.replicate, List.append_eq, List.cons_append, List.nil_append, List.getElem?_cons_zero, List.getElem?_cons_succ, List.set_cons_zero, List.set_cons_succ, Nat.reduceAdd, Nat.reduceSub, tyOf, if_true, if_false, Bool.false_eq_true, decide_true, decide_false, wp_ok, o_ixT i1, o_lenBt]
      simp only [show ¬ (R : Int) < (bs[i].length : Int) by omega, decide_false, if_false, Bool.false_eq_true]
      exact ⟨_, _, rfl, trivial⟩
    · rintro ρ G' ⟨x2, x3, rfl, rfl⟩
      refine ⟨fix_end (by rw [List.length_map]; exact Nat.le_refl _), ?_⟩
      simp only [s_pass, s_nil, s_cons, s_expr, s_set, s_par, s_setIx, s_setKey, s_augIx, s_aug, s_ifs, s_ret, s_retN, s_brk, s_cnt, s_never, w_k, w_v, w_un, w_bin, w_and, w_or, w_ite, w_chain, w_tup, wp_newL, w_lst, w_dic0, w_callD, w_sl, w_rev, w_call, w_bf, w_mt, w_nil, w_cons, w_no, w_some, Tg.bind, bindN, o_add, o_addT, o_sub, o_mul, o_fdiv, o_mod, o_pow, o_eq, o_ne, o_lt, o_le, o_gt, o_ge, o_isT, o_isI, o_isR, o_isN, o_eqB, o_neB, o_not, o_neg, o_lenT, o_int, o_isinI, o_isinT, o_isinB, o_isinI2, o_isinT2, t_ii, t_ib, t_is, t_it, t_il, t_tt, t_tl, t_ts, t_ti, t_tb, t_bb, t_bi, Cut.truthy, zb_bl, Bool.or_false, Bool.false_or, Bool.not_true, Bool.not_false, Bool.true_or, Bool.or_true, tb_dec, tb_some, tb_not, tb_true, tb_false, Cut.start, List.map, List.length, List.replicate, List.append_eq, List.cons_append, List.nil_append, List.getElem?_cons_zero, List.getElem?_cons_succ, List.set_cons_zero, List.set_cons_succ, Nat.reduceAdd, Nat.reduceSub, tyOf, if_true, if_false, Bool.false_eq_true, decide_true, decide_false, wp_ok]
      rw [gc_id rfl]
      exact ⟨rfl, rfl⟩
/-! deeds -/
abbrev Dd := Option Bt
def chk : D := .tup [.str [99, 104, 101, 99, 107]]
def ddD : Dd → D
  | none => chk
  | some b => .tup [.str [119, 114, 105, 116, 101], btD b]
def gd (R : Nat) : Nat → List Bt → List Dd
  | _, [] => []
  | u, b :: bs => if u + b.length ≤ R then some b :: gd R (u + b.length) bs else none :: some b :: gd R b.length bs
theorem gd_len (R : Nat) : ∀ (bs : List Bt) (u : Nat), (gd R u bs).length ≤ 2 * bs.length
  | [], _ => Nat.le_refl _
  | b :: bs, u => by
    unfold gd
    split
    · have := gd_len R bs (u + b.length); simp only [List.length_cons]; omega
    · have := gd_len R bs b.length; simp only [List.length_cons]; omega
theorem below_dd (n : Nat) (ds : List Dd) : belows n (ds.map ddD) = true := by
  induction ds with
  | nil => rfl
  | cons d ds ih =>
    show (below n (ddD d) && belows n (ds.map ddD)) = true
    rw [ih]
    cases d with
    | none => rfl
    | some b => show ((true && (below n (btD b) && true)) && true) = true; rw [below_bt]; rfl
theorem fewest_checks {k P R z : Nat} {bs : List Bt} {G : Store} (h1 : 1 ≤ P) (h2 : P ≤ 64) (h3 : 2 ≤ R) (h4 : R ≤ 64) (hz : z ≤ 96) (hn : bs.length ≤ 20) (h : ∀ b ∈ bs, BtOk P R z b) (ll : G.lim ≤ G.cs.length) :
    run T (k + 7) 7 [.tup [.int P, .int R], .tup (bs.map btD)] G = .ok (.tup ((gd R 0 bs).map ddD)) G := by
  refine eq_of_wp (run_wp (fd := d7.fd) rfl rfl ?_)
  simp only [s_pass, s_nil, s_cons, s_expr, s_set, s_par, s_setIx, s_setKey, s_augIx, s_aug, s_ifs, s_ret, s_retN, s_brk, s_cnt, s_never, w_k, w_v, w_un, w_bin, w_and, w_or, w_ite, w_chain, w_tup, wp_newL, w_lst, w_dic0, w_callD, w_sl, w_rev, w_call, w_bf, w_mt, w_nil, w_cons, w_no, w_some, Tg.bind, bindN, o_add, o_addT, o_sub, o_mul, o_fdiv, o_mod, o_pow, o_eq, o_ne, o_lt, o_le, o_gt, o_ge, o_isT, o_isI, o_isR, o_isN, o_eqB, o_neB, o_not, o_neg, o_lenT, o_int, o_isinI, o_isinT, o_isinB, o_isinI2, o_isinT2, t_ii, t_ib, t_is, t_it, t_il, t_tt, t_tl, t_ts, t_ti, t_tb, t_bb, t_bi, Cut.truthy, zb_bl, Bool.or_false, Bool.false_or, Bool.not_true, Bool.not_false, Bool.true_or, Bool.or_true, tb_dec, tb_some, tb_not, tb_true, tb_false, Cut.start, List.map, List.length, List.replicate, List.append_eq, List.cons_append, List.nil_append, List.getElem?_cons_zero, List.getElem?_cons_succ, List.set_cons_zero, List.set_cons_succ, Nat.reduceAdd, Nat.reduceSub, tyOf, if_true, if_false, Bool.false_eq_true, decide_true, decide_false, wp_ok, Df.fd, d7, s_for, i_one, srcOf]
  rw [need_batches h1 h2 h3 h4 hz hn h]
  simp only [s_pass, s_nil, s_cons, s_expr, s_set, s_par, s_setIx, s_setKey, s_augIx, s_aug, s_ifs, s_ret, s_retN, s_brk, s_cnt, s_never, w_k, w_v, w_un, w_bin, w_and, w_or, w_ite, w_chain, w_tup, wp_newL, w_lst, w_dic0, w_callD, w_sl, w_rev, w_call, w_bf, w_mt, w_nil, w_cons, w_no, w_some, Tg.bind, bindN, o_add, o_addT, o_sub, o_mul, o_fdiv, o_mod, o_pow, o_eq, o_ne, o_lt, o_le, o_gt, o_ge, o_isT, o_isI, o_isR, o_isN, o_eqB, o_neB, o_not, o_neg, o_lenT, o_int, o_isinI, o_isinT, o_isinB, o_isinI2, o_isinT2, t_ii, t_ib, t_is, t_it, t_il, t_tt, t_tl, t_ts, t_ti, t_tb, t_bb, t_bi, Cut.truthy, zb_bl, Bool.or_false, Bool.false_or, Bool.not_true, Bool.not_false, Bool.true_or, Bool.or_true, tb_dec, tb_some, tb_not, tb_true, tb_false, Cut.start, List.map, List.length, List.replicate, List.append_eq, List.cons_append, List.nil_append, List.getElem?_cons_zero, List.getElem?_cons_succ, List.set_cons_zero, List.set_cons_succ, Nat.reduceAdd, Nat.reduceSub, tyOf, if_true, if_false, Bool.false_eq_true, decide_true, decide_false, wp_ok, o_ixT i1]
  refine ⟨by decide, ?_⟩
  refine s_forGo (fun i ρ G' => ∃ (u : Nat) (acc : List Dd) (x4 : Option D), ρ = [some (.tup [.int P, .int R]), some (.tup (bs.map btD)), some (.ref G.cs.length), some (.int ((R : Int) - u)), x4] ∧ u ≤ R ∧ Grown G G' ∧ G'.lst? G.cs.length = some (acc.map ddD) ∧ acc.length ≤ 2 * i ∧ acc ++ gd R u (bs.drop i) = gd R 0 bs) bs.length (by unfold loopFuel; omega) ⟨0, [], none, by simp, Nat.zero_le _, (Grown.refl G).new _, lst_new, Nat.zero_le _, rfl⟩ ?_ ?_
  · rintro i ρ G' hi ⟨u, acc, x4, rfl, hu, g, hx, hl, he⟩
    refine ⟨_, one_at (bts_at hi), _, rfl, ?_⟩
    have hb := (h bs[i] (List.getElem_mem hi)).le
    have hlim : G'.lim ≤ G.cs.length := by rw [g.lim]; exact ll
    have hsz : ∀ {xs : List D}, xs.length ≤ 1000 → xs.length < sizeLine := fun h => Nat.lt_of_le_of_lt h (by decide)
    rw [List.drop_eq_getElem_cons hi] at he
    simp only [s_pass, s_nil, s_cons, s_expr, s_set, s_par, s_setIx, s_setKey, s_augIx, s_aug, s_ifs, s_ret, s_retN, s_brk, s_cnt, s_never, w_k, w_v, w_un, w_bin, w_and, w_or, w_ite, w_chain, w_tup, wp_newL, w_lst, w_dic0, w_callD, w_sl, w_rev, w_call, w_bf, w_mt, w_nil, w_cons, w_no, w_some, Tg.bind, bindN, o_add, o_addT, o_sub, o_mul, o_fdiv, o_mod, o_pow, o_eq, o_ne, o_lt, o_le, o_gt, o_ge, o_isT, o_isI, o_isR, o_isN, o_eqB, o_neB, o_not, o_neg, o_lenT, o_int, o_isinI, o_isinT, o_isinB, o_isinI2, o_isinT2, t_ii, t_ib, t_is, t_it, t_il, t_tt, t_tl, t_ts, t_ti, t_tb, t_bb, t_bi, Cut.truthy, zb_bl, Bool.or_false, Bool.false_or, Bool.not_true, Bool.not_false, Bool.true_or, Bool.or_true, tb_dec, tb_some, tb_not, tb_true, tb_false, Cut.start, List.map, List.length, List.replicate, List.append_eq, List.cons_append, List.nil_append, List.getElem?_cons_zero, List.getElem?_cons_succ, List.set_cons_zero, List.set_cons_succ, Nat.reduceAdd, Nat.reduceSub, tyOf, if_true, if_false, Bool.false_eq_true, decide_true, decide_false, wp_ok, o_lenBt]
    by_cases hc : u + bs[i].length ≤ R
    · simp only [show ¬ (R : Int) - u < (bs[i].length : Int) by omega, decide_false, if_false, Bool.false_eq_true]
      refine ⟨ty_append hx, by decide, ?_⟩
      rw [o_append hx hlim (hsz (by rw [List.length_map]; omega))]
      simp only [s_pass, s_nil, s_cons, s_expr, s_set, s_par, s_setIx, s_setKey, s_augIx, s_aug, s_ifs, s_ret, s_retN, s_brk, s_cnt, s_never, w_k, w_v, w_un, w_bin, w_and, w_or, w_ite, w_chain, w_tup, wp_newL, w_lst, w_dic0, w_callD, w_sl, w_rev, w_call, w_bf, w_mt, w_nil, w_cons, w_no, w_some, Tg.bind, bindN, o_add, o_addT, o_sub, o_mul, o_fdiv, o_mod, o_pow, o_eq, o_ne, o_lt, o_le, o_gt, o_ge, o_isT, o_isI, o_isR, o_isN, o_eqB, o_neB, o_not, o_neg, o_lenT, o_int, o_isinI, o_isinT, o_isinB, o_isinI2, o_isinT2, t_ii, t_ib, t_is, t_it, t_il, t_tt, t_tl, t_ts, t_ti, t_tb, t_bb, t_bi, Cut.truthy, zb_bl, Bool.or_false, Bool.false_or, Bool.not_true, Bool.not_false, Bool.true_or, Bool.or_true, tb_dec, tb_some, tb_not, tb_true, tb_false, Cut.start, List.map, List.length, List.replicate, List.append_eq, List.cons_append, List.nil_append, List.getElem?_cons_zero, List.getElem?_cons_succ, List.set_cons_zero, List.set_cons_succ, Nat.reduceAdd, Nat.reduceSub, tyOf, if_true, if_false, Bool.false_eq_true, decide_true, decide_false, wp_ok, o_lenBt, opAug, augOk]
      refine ⟨u + bs[i].length, acc ++ [some bs[i]], _, by rw [show (R : Int) - u - (bs[i].length : Int) = (R : Int) - ((u + bs[i].length : Nat) : Int) by omega], hc, g.putNew (Nat.le_refl _) _, ?_, ?_, ?_⟩
      · rw [lst_put (lt_of_lst hx), List.map_append]; rfl
      · rw [List.length_append, List.length_singleton]; omega
      · rw [← he]
        conv => rhs; unfold gd
        rw [if_pos hc, List.append_assoc]; rfl
    · simp only [show (R : Int) - u < (bs[i].length : Int) by omega, decide_true, if_true]
      refine ⟨ty_append hx, ?_⟩
      rw [o_append hx hlim (hsz (by rw [List.length_map]; omega))]
      simp only [s_pass, s_nil, s_cons, s_expr, s_set, s_par, s_setIx, s_setKey, s_augIx, s_aug, s_ifs, s_ret, s_retN, s_brk, s_cnt, s_never, w_k, w_v, w_un, w_bin, w_and, w_or, w_ite, w_chain, w_tup, wp_newL, w_lst, w_dic0, w_callD, w_sl, w_rev, w_call, w_bf, w_mt, w_nil, w_cons, w_no, w_some, Tg.bind, bindN, o_add, o_addT, o_sub, o_mul, o_fdiv, o_mod, o_pow, o_eq, o_ne, o_lt, o_le, o_gt, o_ge, o_isT, o_isI, o_isR, o_isN, o_eqB, o_neB, o_not, o_neg, o_lenT, o_int, o_isinI, o_isinT, o_isinB, o_isinI2, o_isinT2, t_ii, t_ib, t_is, t_it, t_il, t_tt, t_tl, t_ts, t_ti, t_tb, t_bb, t_bi, Cut.truthy, zb_bl, Bool.or_false, Bool.false_or, Bool.not_true, Bool.not_false, Bool.true_or, Bool.or_true, tb_dec, tb_some, tb_not, tb_true, tb_false, Cut.start, List.map, List.length, List.replicate, List.append_eq, List.cons_append, List.nil_append, List.getElem?_cons_zero, List.getElem?_cons_succ, List.set_cons_zero, List.set_cons_succ, Nat.reduceAdd, Nat.reduceSub, tyOf, if_true, if_false, Bool.false_eq_true, decide_true, decide_false, wp_ok, o_ixT i1]
      have hx2 : (G'.put G.cs.length (.lst (acc.map ddD ++ [.tup [.str [99, 104, 101, 99, 107]]]))).lst? G.cs.length = some (acc.map ddD ++ [.tup [.str [99, 104, 101, 99, 107]]]) := lst_put (lt_of_lst hx)
      refine ⟨ty_append hx2, by decide, ?_⟩
      rw [o_append hx2 hlim (hsz (by rw [List.length_append, List.length_map, List.length_singleton]; omega))]
      simp only [s_pass, s_nil, s_cons, s_expr, s_set, s_par, s_setIx, s_setKey, s_augIx, s_aug, s_ifs, s_ret, s_retN, s_brk, s_cnt, s_never, w_k, w_v, w_un, w_bin, w_and, w_or, w_ite, w_chain, w_tup, wp_newL, w_lst, w_dic0, w_callD, w_sl, w_rev, w_call, w_bf, w_mt, w_nil, w_cons, w_no, w_some, Tg.bind, bindN, o_add, o_addT, o_sub, o_mul, o_fdiv, o_mod, o_pow, o_eq, o_ne, o_lt, o_le, o_gt, o_ge, o_isT, o_isI, o_isR, o_isN, o_eqB, o_neB, o_not, o_neg, o_lenT, o_int, o_isinI, o_isinT, o_isinB, o_isinI2, o_isinT2, t_ii, t_ib, t_is, t_it, t_il, t_tt, t_tl, t_ts, t_ti, t_tb, t_bb, t_bi, Cut.truthy, zb_bl, Bool.or_false, Bool.false_or, Bool.not_true, Bool.not_false, Bool.true_or, Bool.or_true, tb_dec, tb_some, tb_not, tb_true, tb_false, Cut.start, List.map, List.length, List.replicate, List.append_eq, List.cons_append, List.nil_append, List.getElem?_cons_zero, List.getElem?_cons_succ, List.set_cons_zero, List.set_cons_succ, Nat.reduceAdd, Nat.reduceSub, tyOf, if_true, if_false, Bool.false_eq_true, decide_true, decide_false, wp_ok, o_lenBt, opAug, augOk, put_put]
      refine ⟨bs[i].length, acc ++ [none, some bs[i]], _, by rfl, hb, g.putNew (Nat.le_refl _) _, ?_, ?_, ?_⟩
      · rw [lst_put (lt_of_lst hx), List.map_append, List.append_assoc]; rfl
      · rw [List.length_append]; simp only [List.length_cons, List.length_nil]; omega
      · rw [← he]
        conv => rhs; unfold gd
        rw [if_neg hc, List.append_assoc]; rfl
  · rintro ρ G' ⟨u, acc, x4, rfl, hu, g, hx, hl, he⟩
    refine ⟨one_end (by rw [List.length_map]; exact Nat.le_refl _), ?_⟩
    rw [List.drop_length] at he
    have he : acc = gd R 0 bs := by rw [← he]; simp [gd]
    subst he
    simp only [s_pass, s_nil, s_cons, s_expr, s_set, s_par, s_setIx, s_setKey, s_augIx, s_aug, s_ifs, s_ret, s_retN, s_brk, s_cnt, s_never, w_k, w_v, w_un, w_bin, w_and, w_or, w_ite, w_chain, w_tup, wp_newL, w_lst, w_dic0, w_callD, w_sl, w_rev, w_call, w_bf, w_mt, w_nil, w_cons, w_no, w_some, Tg.bind, bindN, o_add, o_addT, o_sub, o_mul, o_fdiv, o_mod, o_pow, o_eq, o_ne, o_lt, o_le, o_gt, o_ge, o_isT, o_isI, o_isR, o_isN, o_eqB, o_neB, o_not, o_neg, o_lenT, o_int, o_isinI, o_isinT, o_isinB, o_isinI2, o_isinT2, t_ii, t_ib, t_is, t_it, t_il, t_tt, t_tl, t_ts, t_ti, t_tb, t_bb, t_bi, Cut.truthy, zb_bl, Bool.or_false, Bool.false_or, Bool.not_true, Bool.not_false, Bool.true_or, Bool.or_true, tb_dec, tb_some, tb_not, tb_true, tb_false, Cut.start, List.map, List.length, List.replicate, List.append_eq, List.cons_append, List.nil_append, List.getElem?_cons_zero, List.getElem?_cons_succ, List.set_cons_zero, List.set_cons_succ, Nat.reduceAdd, Nat.reduceSub, tyOf, if_true, if_false, Bool.false_eq_true, decide_true, decide_false, wp_ok]
    rw [o_tupL hx, gc_grown g (show below _ (.tup _) = true from below_dd _ _)]
    exact ⟨rfl, rfl⟩
end K32
namespace K32
open PySem Cut
theorem hT : T[8]? = some takenFd := rfl
theorem hP : T[9]? = some (pickFd 8) := rfl
theorem hG : T[10]? = some (pageFd 8 9) := rfl
theorem hB : T[11]? = some (batchFd 8 10) := rfl
theorem hA : T[16]? = some (alikeFd 16) := rfl
theorem cut3 {p : List Int} : cutD (p.map D.int) none (some 3) = (p.take 3).map .int := by
  unfold cutD
  have h1 : HT.sIx (p.map D.int).length 0 none = 0 := rfl
  have h2 : HT.sIx (p.map D.int).length (p.map D.int).length (some 3) = min 3 p.length := by
    show (if (3 : Int) < 0 then ((3 : Int) + ((p.map D.int).length : Int)).toNat else min (3 : Int).toNat (p.map D.int).length) = _
    rw [if_neg (by decide), List.length_map]; rfl
  rw [h1, h2, List.drop_zero, Nat.sub_zero, ← List.map_take]
  congr 1
  by_cases h : 3 ≤ p.length
  · rw [Nat.min_eq_left h]
  · rw [Nat.min_eq_right (by omega), List.take_of_length_le (Nat.le_refl _), List.take_of_length_le (by omega)]
theorem bt_short {P m z : Nat} {b : Bt} (h : BtOk P m z b) : BtOk P m 3 (b.map fun p => (p.1, p.2.take 3)) where
  pos := by rw [List.length_map]; exact h.pos
  le := by rw [List.length_map]; exact h.le
  asc := by rw [List.map_map]; exact h.asc
  num := fun p hp => by
    obtain ⟨q, hq, rfl⟩ := List.mem_map.mp hp
    exact h.num q hq
  page := fun p hp => by
    obtain ⟨q, hq, rfl⟩ := List.mem_map.mp hp
    exact ⟨fun x hx => (h.page q hq).1 x (List.mem_of_mem_take hx), by show (q.2.take 3).length ≤ 3; rw [List.length_take]; omega⟩
theorem cell_at {G' : Store} {n i : Nat} {xs : List D} {d : D} (h : G'.lst? n = some xs) (hd : xs[i]? = some d) : (Itv.one (.cell n)).at i G' = some (some d) := by
  show (G'.lst? n).map (fun xs => xs[i]?) = _
  rw [h]; show some xs[i]? = _; rw [hd]
theorem cell_end {G' : Store} {n i : Nat} {xs : List D} (h : G'.lst? n = some xs) (hd : xs.length ≤ i) : (Itv.one (.cell n)).at i G' = some none := by
  show (G'.lst? n).map (fun xs => xs[i]?) = _
  rw [h]; show some xs[i]? = _; rw [List.getElem?_eq_none hd]
theorem src_cell {G : Store} {n : Nat} {xs : List D} (h : G.lst? n = some xs) : srcOf (.ref n) G = some (.cell n) := by
  show ((G.lst? n).map fun _ => Src.cell n) = _
  rw [h]; rfl
theorem bts_of {P m z : Nat} : ∀ {zs : List D}, (∀ (i : Nat) d, zs[i]? = some d → ∃ b, d = btD b ∧ BtOk P m z b) → ∃ bs : List Bt, zs = bs.map btD ∧ ∀ b ∈ bs, BtOk P m z b
  | [], _ => ⟨[], rfl, fun _ h => nomatch h⟩
  | d :: zs, h => by
    obtain ⟨b, e, hb⟩ := h 0 d rfl
    obtain ⟨bs, e2, h2⟩ := bts_of (zs := zs) fun i y hy => h (i + 1) y (by simpa using hy)
    refine ⟨b :: bs, by rw [e, e2]; rfl, fun y hy => ?_⟩
    rcases List.mem_cons.mp hy with rfl | hy
    · exact hb
    · exact h2 y hy
theorem belows_bts (n : Nat) : ∀ bs : List Bt, belows n (bs.map btD) = true
  | [] => rfl
  | b :: bs => by show (below n (btD b) && belows n (bs.map btD)) = true; rw [below_bt, belows_bts n bs]; rfl
theorem range_filterMap {α β : Type} (xs : List α) (f : α → β) (g : Nat → Option β) (h : ∀ i, (hi : i < xs.length) → g i = some (f xs[i])) : (List.range xs.length).filterMap g = xs.map f := by
  have : ∀ (n : Nat) (xs : List α), xs.length = n → ∀ g : Nat → Option β, (∀ i, (hi : i < xs.length) → g i = some (f xs[i])) → (List.range n).filterMap g = xs.map f := by
    intro n
    induction n with
    | zero => intro xs hx g _; rw [List.eq_nil_of_length_eq_zero hx]; rfl
    | succ n ih =>
      intro xs hx g hg
      cases xs with
      | nil => cases hx
      | cons x xs =>
        rw [List.range_succ_eq_map, List.filterMap_cons, hg 0 (by simp)]
        simp only [List.getElem_cons_zero, List.map_cons]
        congr 1
        rw [List.filterMap_map]
        exact ih xs (by simpa using hx) _ fun i hi => by
          have := hg (i + 1) (by rw [List.length_cons]; omega)
          simpa using this
  exact this _ xs rfl g h
theorem bt_few {P m z : Nat} {b : Bt} (h : BtOk P m z b) (hP : P ≤ 64) : b.length ≤ 64 := by
  have nd : (b.map (·.1)).Nodup := h.asc.imp fun h => by omega
  have := List.Nodup.length_le_of_subset nd (l₂ := (List.range P).map fun (i : Nat) => (i : Int)) fun x hx => by
    obtain ⟨p, hp, rfl⟩ := List.mem_map.mp hx
    have := h.num p hp
    exact List.mem_map.mpr ⟨p.1.toNat, List.mem_range.mpr (by omega), by omega⟩
  rw [List.length_map, List.length_map, List.length_range] at this
  omega
/-- the batches that are drawn -/
theorem batches {k P R M r : Nat} {Mi Pi Ri : Int} (hMi : Mi = M) (hPi : Pi = P) (hRi : Ri = R) {s : List Int} {B : Store} {Q : D → Store → Prop} (hp : 0 < P) (hp2 : P ≤ 64) (hr : 2 ≤ R) (hM : M ≤ 100) (h : Rb r s B)
    (hq : ∀ (bs : List Bt) G', bs.length ≤ M → (∀ b ∈ bs, BtOk P R 3 b) → Mv r s B G' → Q (.tup (bs.map btD)) G') : wp (run T (k + 5) 12 [.ref r, .tup [.int Pi, .int Ri], .int Mi] B) Q := by
  have hrl := h.start.lt
  have ll := h.ll
  refine run_wp (fd := d12.fd) rfl rfl ?_
  simp only [s_pass, s_nil, s_cons, s_expr, s_set, s_par, s_setIx, s_setKey, s_augIx, s_aug, s_ifs, s_ret, s_retN, s_brk, s_cnt, s_never, w_k, w_v, w_un, w_bin, w_and, w_or, w_ite, w_chain, w_tup, wp_newL, w_lst, w_dic0, w_callD, w_sl, w_rev, w_call, w_bf, w_mt, w_nil, w_cons, w_no, w_some, Tg.bind, bindN, o_add, o_addT, o_sub, o_mul, o_fdiv, o_mod, o_pow, o_eq, o_ne, o_lt, o_le, o_gt, o_ge, o_isT, o_isI, o_isR, o_isN, o_eqB, o_neB, o_not, o_neg, o_lenT, o_int, o_isinI, o_isinT, o_isinB, o_isinI2, o_isinT2, t_ii, t_ib, t_is, t_it, t_il, t_tt, t_tl, t_ts, t_ti, t_tb, t_bb, t_bi, Cut.truthy, zb_bl, Bool.or_false, Bool.false_or, Bool.not_true, Bool.not_false, Bool.true_or, Bool.or_true, tb_dec, tb_some, tb_not, tb_true, tb_false, Cut.start, List.map, List.length, List.replicate, List.append_eq, List.cons_append, List.nil_append, List.getElem?_cons_zero, List.getElem?_cons_succ, List.set_cons_zero, List.set_cons_succ, Nat.reduceAdd, Nat.reduceSub, tyOf, if_true, if_false, Bool.false_eq_true, decide_true, decide_false, wp_ok, Df.fd, d12, w_comp, i_rng1, i_one]
  refine taken' hT h (by omega) (by omega) fun v1 G1 a1 a2 m1 => ?_
  obtain ⟨n, rfl⟩ := Int.eq_ofNat_of_zero_le a1
  refine ⟨by omega, by omega, ?_⟩
  rw [Int.toNat_natCast]
  have w1 := m1.rw h.start
  refine comp_rng (fun d => ∃ b, d = btD b ∧ BtOk P R 96 b) w1.rb (by omega) (fun i G' hi w => ?_) fun zs G2 hz1 hz2 w2 e2 => ?_
  · simp only [s_pass, s_nil, s_cons, s_expr, s_set, s_par, s_setIx, s_setKey, s_augIx, s_aug, s_ifs, s_ret, s_retN, s_brk, s_cnt, s_never, w_k, w_v, w_un, w_bin, w_and, w_or, w_ite, w_chain, w_tup, wp_newL, w_lst, w_dic0, w_callD, w_sl, w_rev, w_call, w_bf, w_mt, w_nil, w_cons, w_no, w_some, Tg.bind, bindN, o_add, o_addT, o_sub, o_mul, o_fdiv, o_mod, o_pow, o_eq, o_ne, o_lt, o_le, o_gt, o_ge, o_isT, o_isI, o_isR, o_isN, o_eqB, o_neB, o_not, o_neg, o_lenT, o_int, o_isinI, o_isinT, o_isinB, o_isinI2, o_isinT2, t_ii, t_ib, t_is, t_it, t_il, t_tt, t_tl, t_ts, t_ti, t_tb, t_bb, t_bi, Cut.truthy, zb_bl, Bool.or_false, Bool.false_or, Bool.not_true, Bool.not_false, Bool.true_or, Bool.or_true, tb_dec, tb_some, tb_not, tb_true, tb_false, Cut.start, List.map, List.length, List.replicate, List.append_eq, List.cons_append, List.nil_append, List.getElem?_cons_zero, List.getElem?_cons_succ, List.set_cons_zero, List.set_cons_succ, Nat.reduceAdd, Nat.reduceSub, tyOf, if_true, if_false, Bool.false_eq_true, decide_true, decide_false, wp_ok, wipeE, o_ixT i0, o_ixT i1, o_min]
    refine batch_at hT hP hG hB (P := P) (m := min 3 R) hPi (by omega) hp (by omega) (by omega) w.rb fun b G3 hb m3 => ?_
    exact ⟨⟨b, rfl, { hb with le := Nat.le_trans hb.le (by omega) }⟩, m3.rw w.rb.start⟩
  · obtain ⟨bs, rfl, hbs⟩ := bts_of fun i d hd => hz2 d (List.mem_of_getElem? hd)
    rw [List.length_map] at hz1
    have w02 := w1.trans w2
    have hrl2 : r < G1.cs.length := Nat.lt_of_lt_of_le hrl w1.len
    simp only [s_pass, s_nil, s_cons, s_expr, s_set, s_par, s_setIx, s_setKey, s_augIx, s_aug, s_ifs, s_ret, s_retN, s_brk, s_cnt, s_never, w_k, w_v, w_un, w_bin, w_and, w_or, w_ite, w_chain, w_tup, wp_newL, w_lst, w_dic0, w_callD, w_sl, w_rev, w_call, w_bf, w_mt, w_nil, w_cons, w_no, w_some, Tg.bind, bindN, o_add, o_addT, o_sub, o_mul, o_fdiv, o_mod, o_pow, o_eq, o_ne, o_lt, o_le, o_gt, o_ge, o_isT, o_isI, o_isR, o_isN, o_eqB, o_neB, o_not, o_neg, o_lenT, o_int, o_isinI, o_isinT, o_isinB, o_isinI2, o_isinT2, t_ii, t_ib, t_is, t_it, t_il, t_tt, t_tl, t_ts, t_ti, t_tb, t_bb, t_bi, Cut.truthy, zb_bl, Bool.or_false, Bool.false_or, Bool.not_true, Bool.not_false, Bool.true_or, Bool.or_true, tb_dec, tb_some, tb_not, tb_true, tb_false, Cut.start, List.map, List.length, List.replicate, List.append_eq, List.cons_append, List.nil_append, List.getElem?_cons_zero, List.getElem?_cons_succ, List.set_cons_zero, List.set_cons_succ, Nat.reduceAdd, Nat.reduceSub, tyOf, if_true, if_false, Bool.false_eq_true, decide_true, decide_false, wp_ok, src_cell e2]
    refine comp_g (G := G2) (c := .none) (m := bs.length) (fun i => btD (bs.getD i [])) (fun i => [some (.ref r), some (.tup [.int Pi, .int Ri]), some (.int Mi), some (.ref G1.cs.length), none, none, none, some (btD (bs.getD i []))]) (fun i => some (btD ((bs.getD i []).map fun p => (p.1, p.2.take 3)))) w02.rb.ll (by omega) (fun i G' hi g => ?_) (fun G' g => cell_end (g.lst e2) (by rw [List.length_map]; exact Nat.le_refl _)) (fun i hi => rfl) (fun i G' hi g => ⟨rfl, ?_⟩) fun G3 g e3 => ?_
    · refine cell_at (g.lst e2) ?_
      rw [bts_at hi, List.getD_eq_getElem?_getD, List.getElem?_eq_getElem hi]; rfl
    · simp only [if_true]
      have hgd : bs.getD i [] = bs[i] := by rw [List.getD_eq_getElem?_getD, List.getElem?_eq_getElem hi]; rfl
      rw [hgd]
      have hb := hbs bs[i] (List.getElem_mem hi)
      generalize bs[i] = b at hb ⊢
      simp only [s_pass, s_nil, s_cons, s_expr, s_set, s_par, s_setIx, s_setKey, s_augIx, s_aug, s_ifs, s_ret, s_retN, s_brk, s_cnt, s_never, w_k, w_v, w_un, w_bin, w_and, w_or, w_ite, w_chain, w_tup, wp_newL, w_lst, w_dic0, w_callD, w_sl, w_rev, w_call, w_bf, w_mt, w_nil, w_cons, w_no, w_some, Tg.bind, bindN, o_add, o_addT, o_sub, o_mul, o_fdiv, o_mod, o_pow, o_eq, o_ne, o_lt, o_le, o_gt, o_ge, o_isT, o_isI, o_isR, o_isN, o_eqB, o_neB, o_not, o_neg, o_lenT, o_int, o_isinI, o_isinT, o_isinB, o_isinI2, o_isinT2, t_ii, t_ib, t_is, t_it, t_il, t_tt, t_tl, t_ts, t_ti, t_tb, t_bb, t_bi, Cut.truthy, zb_bl, Bool.or_false, Bool.false_or, Bool.not_true, Bool.not_false, Bool.true_or, Bool.or_true, tb_dec, tb_some, tb_not, tb_true, tb_false, Cut.start, List.map, List.length, List.replicate, List.append_eq, List.cons_append, List.nil_append, List.getElem?_cons_zero, List.getElem?_cons_succ, List.set_cons_zero, List.set_cons_succ, Nat.reduceAdd, Nat.reduceSub, tyOf, if_true, if_false, Bool.false_eq_true, decide_true, decide_false, wp_ok, w_comp, i_one, btD, srcOf]
      refine comp_g (G := G') (c := .none) (m := b.length) (fun i => .tup [.int (b.getD i (0, [])).1, .tup ((b.getD i (0, [])).2.map .int)]) (fun i => [some (.ref r), some (.tup [.int Pi, .int Ri]), some (.int Mi), some (.ref G1.cs.length), none, some (.int (b.getD i (0, [])).1), some (.tup ((b.getD i (0, [])).2.map .int)), some (btD b)]) (fun i => some (.tup [.int (b.getD i (0, [])).1, .tup (((b.getD i (0, [])).2.take 3).map .int)])) (by have := w02.rb.ll; have := g.lim; have := g.len; omega) (by have := bt_few hb hp2; omega) (fun j G3 hj g3 => ?_) (fun G3 g3 => one_end (by rw [List.length_map]; exact Nat.le_refl _)) (fun j hj => rfl) (fun j G3 hj g3 => ⟨rfl, ?_⟩) fun G3 g3 e3 => ?_
      · refine one_at ?_
        rw [bt_at hj, List.getD_eq_getElem?_getD, List.getElem?_eq_getElem hj]; rfl
      · simp only [if_true]
        simp only [s_pass, s_nil, s_cons, s_expr, s_set, s_par, s_setIx, s_setKey, s_augIx, s_aug, s_ifs, s_ret, s_retN, s_brk, s_cnt, s_never, w_k, w_v, w_un, w_bin, w_and, w_or, w_ite, w_chain, w_tup, wp_newL, w_lst, w_dic0, w_callD, w_sl, w_rev, w_call, w_bf, w_mt, w_nil, w_cons, w_no, w_some, Tg.bind, bindN, o_add, o_addT, o_sub, o_mul, o_fdiv, o_mod, o_pow, o_eq, o_ne, o_lt, o_le, o_gt, o_ge, o_isT, o_isI, o_isR, o_isN, o_eqB, o_neB, o_not, o_neg, o_lenT, o_int, o_isinI, o_isinT, o_isinB, o_isinI2, o_isinT2, t_ii, t_ib, t_is, t_it, t_il, t_tt, t_tl, t_ts, t_ti, t_tb, t_bb, t_bi, Cut.truthy, zb_bl, Bool.or_false, Bool.false_or, Bool.not_true, Bool.not_false, Bool.true_or, Bool.or_true, tb_dec, tb_some, tb_not, tb_true, tb_false, Cut.start, List.map, List.length, List.replicate, List.append_eq, List.cons_append, List.nil_append, List.getElem?_cons_zero, List.getElem?_cons_succ, List.set_cons_zero, List.set_cons_succ, Nat.reduceAdd, Nat.reduceSub, tyOf, if_true, if_false, Bool.false_eq_true, decide_true, decide_false, wp_ok, o_slT, cut3]
        exact ⟨by decide, trivial, .refl _⟩
      · rw [o_tupL e3]
        refine ⟨?_, g3⟩
        have := range_filterMap b (fun p => D.tup [.int p.1, .tup ((p.2.take 3).map .int)]) (fun i => some (.tup [.int (b.getD i (0, [])).1, .tup (((b.getD i (0, [])).2.take 3).map .int)])) fun i hi => by rw [List.getD_eq_getElem?_getD, List.getElem?_eq_getElem hi]; rfl
        rw [this]
        rw [List.map_map]; rfl
    · rw [o_tupL e3]
      have := range_filterMap bs (fun b => btD (b.map fun p => (p.1, p.2.take 3))) (fun i => some (btD ((bs.getD i []).map fun p => (p.1, p.2.take 3)))) fun i hi => by rw [List.getD_eq_getElem?_getD, List.getElem?_eq_getElem hi]; rfl
      rw [this, show (bs.map fun b => btD (b.map fun p => (p.1, p.2.take 3))) = (bs.map fun b => b.map fun p => (p.1, p.2.take 3)).map btD by rw [List.map_map]; rfl]
      have w03 : Rw B r s G3 := by
        obtain ⟨q1, q2, q3, q4, a, b, c, ok, gg⟩ := w02
        exact ⟨q1, q2, q3, q4, a, b, c, ok, gg.trans g⟩
      refine Rw.out w03 h (show below _ (.tup _) = true from belows_bts _ _) fun G4 m4 => hq _ G4 (by rw [List.length_map]; omega) (fun b hb => ?_) m4
      obtain ⟨b', hb', rfl⟩ := List.mem_map.mp hb
      exact bt_short (hbs b' hb')
/-! all places of checks -/
def spD (S : List Nat) : D := .tup (S.map fun (x : Nat) => D.int (x : Int))
theorem belows_sp (n : Nat) : ∀ Ss : List (List Nat), belows n (Ss.map spD) = true
  | [] => rfl
  | S :: Ss => by
    show (belows n (S.map fun (x : Nat) => D.int (x : Int)) && belows n (Ss.map spD)) = true
    have : belows n (S.map fun (x : Nat) => D.int (x : Int)) = true := by
      have := belows_int n (S.map fun (x : Nat) => (x : Int))
      rw [List.map_map] at this; exact this
    rw [this, belows_sp n Ss]; rfl
theorem law_ways {k n : Nat} {N : Int} (hN : N = n) {G : Store} (hn : n ≤ 10) (ll : G.lim ≤ G.cs.length) : run T (k + 1) 13 [.int N] G = .ok (.ref G.cs.length) (G.new (.lst ((ways n).map spD))) := by
  refine eq_of_wp (run_wp (fd := d13.fd) rfl rfl ?_)
  simp only [s_pass, s_nil, s_cons, s_expr, s_set, s_par, s_setIx, s_setKey, s_augIx, s_aug, s_ifs, s_ret, s_retN, s_brk, s_cnt, s_never, w_k, w_v, w_un, w_bin, w_and, w_or, w_ite, w_chain, w_tup, wp_newL, w_lst, w_dic0, w_callD, w_sl, w_rev, w_call, w_bf, w_mt, w_nil, w_cons, w_no, w_some, Tg.bind, bindN, o_add, o_addT, o_sub, o_mul, o_fdiv, o_mod, o_pow, o_eq, o_ne, o_lt, o_le, o_gt, o_ge, o_isT, o_isI, o_isR, o_isN, o_eqB, o_neB, o_not, o_neg, o_lenT, o_int, o_isinI, o_isinT, o_isinB, o_isinI2, o_isinT2, t_ii, t_ib, t_is, t_it, t_il, t_tt, t_tl, t_ts, t_ti, t_tb, t_bb, t_bi, Cut.truthy, zb_bl, Bool.or_false, Bool.false_or, Bool.not_true, Bool.not_false, Bool.true_or, Bool.or_true, tb_dec, tb_some, tb_not, tb_true, tb_false, Cut.start, List.map, List.length, List.replicate, List.append_eq, List.cons_append, List.nil_append, List.getElem?_cons_zero, List.getElem?_cons_succ, List.set_cons_zero, List.set_cons_succ, Nat.reduceAdd, Nat.reduceSub, tyOf, if_true, if_false, Bool.false_eq_true, decide_true, decide_false, wp_ok, Df.fd, d13, s_for, i_rng2, w_comp, i_one]
  refine ⟨by decide, by decide, by omega, ?_⟩
  rw [show (N + 1 - 1).toNat = n by omega]
  refine s_forGo (fun i ρ G' => ∃ (q : Nat) (x2 : Option D), ρ = [some (.int N), some (.ref q), x2, none] ∧ G.cs.length ≤ q ∧ Grown G G' ∧ G'.lst? q = some ((ways i).map spD)) n (by unfold loopFuel; omega) ⟨_, none, rfl, Nat.le_refl _, (Grown.refl G).new _, lst_new⟩ ?_ ?_
  · rintro i ρ G' hi ⟨q, x2, rfl, hq, g, hx⟩
    refine ⟨_, rng_at hi, _, rfl, ?_⟩
    have hlim : G'.lim ≤ G'.cs.length := by have := g.lim; have := g.len; omega
    have hw := ways_len i
    have h2 : 2 ^ i ≤ 2 ^ 10 := Nat.pow_le_pow_right (by decide) (by omega)
    simp only [s_pass, s_nil, s_cons, s_expr, s_set, s_par, s_setIx, s_setKey, s_augIx, s_aug, s_ifs, s_ret, s_retN, s_brk, s_cnt, s_never, w_k, w_v, w_un, w_bin, w_and, w_or, w_ite, w_chain, w_tup, wp_newL, w_lst, w_dic0, w_callD, w_sl, w_rev, w_call, w_bf, w_mt, w_nil, w_cons, w_no, w_some, Tg.bind, bindN, o_add, o_addT, o_sub, o_mul, o_fdiv, o_mod, o_pow, o_eq, o_ne, o_lt, o_le, o_gt, o_ge, o_isT, o_isI, o_isR, o_isN, o_eqB, o_neB, o_not, o_neg, o_lenT, o_int, o_isinI, o_isinT, o_isinB, o_isinI2, o_isinT2, t_ii, t_ib, t_is, t_it, t_il, t_tt, t_tl, t_ts, t_ti, t_tb, t_bb, t_bi, Cut.truthy, zb_bl, Bool.or_false, Bool.false_or, Bool.not_true, Bool.not_false, Bool.true_or, Bool.or_true, tb_dec, tb_some, tb_not, tb_true, tb_false, Cut.start, List.map, List.length, List.replicate, List.append_eq, List.cons_append, List.nil_append, List.getElem?_cons_zero, List.getElem?_cons_succ, List.set_cons_zero, List.set_cons_succ, Nat.reduceAdd, Nat.reduceSub, tyOf, if_true, if_false, Bool.false_eq_true, decide_true, decide_false, wp_ok, w_comp, i_one, src_cell hx]
    refine comp_g (G := G') (c := .none) (m := (ways i).length) (fun j => spD ((ways i).getD j [])) (fun j => [some (.int N), some (.ref q), some (.int (1 + (i : Int))), some (spD ((ways i).getD j []))]) (fun j => some (spD ((ways i).getD j [] ++ [i + 1]))) hlim (by omega) (fun j G2 hj g2 => ?_) (fun G2 g2 => cell_end (g2.lst hx) (by rw [List.length_map]; exact Nat.le_refl _)) (fun j hj => rfl) (fun j G2 hj g2 => ⟨rfl, ?_⟩) fun G2 g2 e2 => ?_
    · refine cell_at (g2.lst hx) ?_
      rw [List.getElem?_map, List.getElem?_eq_getElem hj, List.getD_eq_getElem?_getD, List.getElem?_eq_getElem hj]; rfl
    · simp only [if_true]
      have hS := ways_sub i ((ways i).getD j []) (by rw [List.getD_eq_getElem?_getD, List.getElem?_eq_getElem hj]; exact List.getElem_mem hj)
      have hl : ((ways i).getD j []).length ≤ 1000 := by
        have nd : ((ways i).getD j []).Nodup := hS.1.imp fun h => Nat.ne_of_lt h
        have := List.Nodup.length_le_of_subset nd (l₂ := List.range (i + 1)) fun x hx => List.mem_range.mpr (by have := (hS.2 x hx).2; omega)
        rw [List.length_range] at this; omega
      simp only [s_pass, s_nil, s_cons, s_expr, s_set, s_par, s_setIx, s_setKey, s_augIx, s_aug, s_ifs, s_ret, s_retN, s_brk, s_cnt, s_never, w_k, w_v, w_un, w_bin, w_and, w_or, w_ite, w_chain, w_tup, wp_newL, w_lst, w_dic0, w_callD, w_sl, w_rev, w_call, w_bf, w_mt, w_nil, w_cons, w_no, w_some, Tg.bind, bindN, o_add, o_addT, o_sub, o_mul, o_fdiv, o_mod, o_pow, o_eq, o_ne, o_lt, o_le, o_gt, o_ge, o_isT, o_isI, o_isR, o_isN, o_eqB, o_neB, o_not, o_neg, o_lenT, o_int, o_isinI, o_isinT, o_isinB, o_isinI2, o_isinT2, t_ii, t_ib, t_is, t_it, t_il, t_tt, t_tl, t_ts, t_ti, t_tb, t_bb, t_bi, Cut.truthy, zb_bl, Bool.or_false, Bool.false_or, Bool.not_true, Bool.not_false, Bool.true_or, Bool.or_true, tb_dec, tb_some, tb_not, tb_true, tb_false, Cut.start, List.map, List.length, List.replicate, List.append_eq, List.cons_append, List.nil_append, List.getElem?_cons_zero, List.getElem?_cons_succ, List.set_cons_zero, List.set_cons_succ, Nat.reduceAdd, Nat.reduceSub, tyOf, if_true, if_false, Bool.false_eq_true, decide_true, decide_false, wp_ok, spD, List.length_map]
      refine ⟨by decide, Nat.le_trans (show _ ≤ 1001 by omega) (by decide), ?_, .refl _⟩
      rw [List.map_append]
      simp only [List.map_cons, List.map_nil]
      rw [show (1 + (i : Int)) = ((i + 1 : Nat) : Int) by omega]
    · rw [o_addL (g2.lst hx) e2 (by rw [g2.lim]; have := g.lim; omega) (by rw [g2.lim]; exact hlim)]
      have he := range_filterMap (ways i) (fun S => spD (S ++ [i + 1])) (fun j => some (spD ((ways i).getD j [] ++ [i + 1]))) fun j hj => by rw [List.getD_eq_getElem?_getD, List.getElem?_eq_getElem hj]; rfl
      rw [he]
      refine ⟨Nat.le_trans (show _ ≤ 3000 by rw [List.length_append, List.length_map, List.length_map]; omega) (by decide), _, _, rfl, ?_, (g.trans g2).new _, ?_⟩
      · have := (g.trans g2).len; exact this
      · rw [lst_new]
        show _ = some ((ways i ++ (ways i).map (· ++ [i + 1])).map spD)
        rw [List.map_append, List.map_map]; rfl
  · rintro ρ G' ⟨q, x2, rfl, hq, g, hx⟩
    refine ⟨rng_end, ?_⟩
    simp only [s_pass, s_nil, s_cons, s_expr, s_set, s_par, s_setIx, s_setKey, s_augIx, s_aug, s_ifs, s_ret, s_retN, s_brk, s_cnt, s_never, w_k, w_v, w_un, w_bin, w_and, w_or, w_ite, w_chain, w_tup, wp_newL, w_lst, w_dic0, w_callD, w_sl, w_rev, w_call, w_bf, w_mt, w_nil, w_cons, w_no, w_some, Tg.bind, bindN, o_add, o_addT, o_sub, o_mul, o_fdiv, o_mod, o_pow, o_eq, o_ne, o_lt, o_le, o_gt, o_ge, o_isT, o_isI, o_isR, o_isN, o_eqB, o_neB, o_not, o_neg, o_lenT, o_int, o_isinI, o_isinT, o_isinB, o_isinI2, o_isinT2, t_ii, t_ib, t_is, t_it, t_il, t_tt, t_tl, t_ts, t_ti, t_tb, t_bb, t_bi, Cut.truthy, zb_bl, Bool.or_false, Bool.false_or, Bool.not_true, Bool.not_false, Bool.true_or, Bool.or_true, tb_dec, tb_some, tb_not, tb_true, tb_false, Cut.start, List.map, List.length, List.replicate, List.append_eq, List.cons_append, List.nil_append, List.getElem?_cons_zero, List.getElem?_cons_succ, List.set_cons_zero, List.set_cons_succ, Nat.reduceAdd, Nat.reduceSub, tyOf, if_true, if_false, Bool.false_eq_true, decide_true, decide_false, wp_ok]
    rw [gc_newL g hq hx (belows_sp _ _)]
    exact ⟨rfl, rfl⟩
end K32
namespace K32
open PySem Cut
/-! deeds with checks at some places -/
def one (S : List Nat) (i : Nat) (b : Bt) : List Dd := if i ∈ S then [none, some b] else [some b]
def wc (S : List Nat) : Nat → List Bt → List Dd
  | _, [] => []
  | i, b :: bs => one S i b ++ wc S (i + 1) bs
def wcF (S : List Nat) (bs : List Bt) : List Dd := wc S 0 bs ++ (if bs.length ∈ S ∧ bs ≠ [] then [none] else [])
theorem wc_app (S : List Nat) : ∀ (bs cs : List Bt) (i : Nat), wc S i (bs ++ cs) = wc S i bs ++ wc S (i + bs.length) cs
  | [], cs, i => rfl
  | b :: bs, cs, i => by
    show one S i b ++ wc S (i + 1) (bs ++ cs) = (one S i b ++ wc S (i + 1) bs) ++ wc S (i + (bs.length + 1)) cs
    rw [wc_app S bs cs (i + 1), List.append_assoc, show i + 1 + bs.length = i + (bs.length + 1) by omega]
theorem wc_len (S : List Nat) : ∀ (bs : List Bt) (i : Nat), (wc S i bs).length ≤ 2 * bs.length
  | [], _ => Nat.le_refl _
  | b :: bs, i => by
    have := wc_len S bs (i + 1)
    show (one S i b ++ wc S (i + 1) bs).length ≤ _
    have h1 : (one S i b).length ≤ 2 := by unfold one; split <;> simp
    rw [List.length_append, List.length_cons]; omega
theorem wc_take (S : List Nat) (bs : List Bt) (i : Nat) (h : i < bs.length) : wc S 0 (bs.take (i + 1)) = wc S 0 (bs.take i) ++ one S i bs[i] := by
  rw [List.take_succ_eq_append_getElem h, wc_app]
  have : 0 + (bs.take i).length = i := by rw [List.length_take]; omega
  rw [this]
  show _ ++ (one S i bs[i] ++ []) = _
  rw [List.append_nil]
theorem o_inSp {G : Store} {P : D → Store → Prop} {S : List Nat} {I : Int} {i : Nat} (hI : I = i) : wp (op2 .in_ (.int I) (spD S) G) P = P (.bl (decide (i ∈ S))) G := by
  subst hI
  show wp (okO (inD G (.int (i : Int)) (.tup (S.map fun (x : Nat) => D.int (x : Int)))) G) P = _
  have hf : ∀ S : List Nat, (S.map fun (x : Nat) => D.int (x : Int)).all flatD = true := by
    intro S
    induction S with
    | nil => rfl
    | cons x S ih => show (true && _) = true; rw [ih]; rfl
  have ha : ∀ S : List Nat, ((S.map fun (x : Nat) => D.int (x : Int)).any fun y => eqF y (.int (i : Int))) = decide (i ∈ S) := by
    intro S
    induction S with
    | nil => rfl
    | cons x S ih =>
      show (((x : Int) == (i : Int)) || _) = _
      rw [ih]
      by_cases h : x = i
      · subst h; simp
      · have h2 : ((x : Int) == (i : Int)) = false := beq_eq_false_iff_ne.mpr fun e => h (by omega)
        rw [h2, Bool.false_or]
        exact decide_eq_decide.mpr ⟨fun z => List.mem_cons_of_mem _ z, fun z => (List.mem_cons.mp z).resolve_left fun e => h e.symm⟩
  have : inD G (.int (i : Int)) (.tup (S.map fun (x : Nat) => D.int (x : Int))) = some (decide (i ∈ S)) := by
    unfold inD
    show (if flatD (.int (i : Int)) && (S.map fun (x : Nat) => D.int (x : Int)).all flatD then some ((S.map fun (x : Nat) => D.int (x : Int)).any fun y => eqF y (.int (i : Int))) else none) = _
    rw [hf S, ha S]; rfl
  rw [this]; rfl
abbrev shPage : Sh := .tup (.many .int)
abbrev shPair : Sh := .tup (.cons .int (.cons shPage .nil))
abbrev shBt : Sh := .tup (.many shPair)
abbrev shDd : Sh := .tup (.cons .str (.cons shBt .nil))
theorem has_bt (b : Bt) : shBt.has (btD b) := fun d hd => by
  obtain ⟨p, _, rfl⟩ := List.mem_map.mp hd
  exact ⟨trivial, (fun x hx => by obtain ⟨y, _, rfl⟩ := List.mem_map.mp hx; exact trivial), rfl⟩
theorem has_dd (d : Dd) : shDd.has (ddD d) := by
  cases d with
  | none => exact ⟨by show PyData.strOk _ = true; decide +kernel, trivial⟩
  | some b => exact ⟨by show PyData.strOk _ = true; decide +kernel, has_bt b, rfl⟩
theorem has_dds (ds : List Dd) : (ShL.many shDd).has (ds.map ddD) := fun d hd => by
  obtain ⟨p, _, rfl⟩ := List.mem_map.mp hd
  exact has_dd p
theorem has_bts (ds : List Bt) : (ShL.many shBt).has (ds.map btD) := fun d hd => by
  obtain ⟨p, _, rfl⟩ := List.mem_map.mp hd
  exact has_bt p
theorem map_nil {α β : Type} {f : α → β} {xs : List α} : xs.map f = [] ↔ xs = [] := by cases xs <;> simp
theorem with_checks {k : Nat} {S : List Nat} {bs : List Bt} {G : Store} (hn : bs.length ≤ 100) : run T (k + 1) 14 [.tup (bs.map btD), spD S] G = .ok (.tup ((wcF S bs).map ddD)) G := by
  refine eq_of_wp (run_wp (fd := d14.fd) rfl rfl ?_)
  simp only [s_pass, s_nil, s_cons, s_expr, s_set, s_par, s_setIx, s_setKey, s_augIx, s_aug, s_ifs, s_ret, s_retN, s_brk, s_cnt, s_never, w_k, w_v, w_un, w_bin, w_and, w_or, w_ite, w_chain, w_tup, wp_newL, w_lst, w_dic0, w_callD, w_sl, w_rev, w_call, w_bf, w_mt, w_nil, w_cons, w_no, w_some, Tg.bind, bindN, o_add, o_addT, o_sub, o_mul, o_fdiv, o_mod, o_pow, o_eq, o_ne, o_lt, o_le, o_gt, o_ge, o_isT, o_isI, o_isR, o_isN, o_eqB, o_neB, o_not, o_neg, o_lenT, o_int, o_isinI, o_isinT, o_isinB, o_isinI2, o_isinT2, t_ii, t_ib, t_is, t_it, t_il, t_tt, t_tl, t_ts, t_ti, t_tb, t_bb, t_bi, Cut.truthy, zb_bl, Bool.or_false, Bool.false_or, Bool.not_true, Bool.not_false, Bool.true_or, Bool.or_true, tb_dec, tb_some, tb_not, tb_true, tb_false, Cut.start, List.map, List.length, List.replicate, List.append_eq, List.cons_append, List.nil_append, List.getElem?_cons_zero, List.getElem?_cons_succ, List.set_cons_zero, List.set_cons_succ, Nat.reduceAdd, Nat.reduceSub, tyOf, if_true, if_false, Bool.false_eq_true, decide_true, decide_false, wp_ok, Df.fd, d14, s_for, i_enum]
  refine ⟨by decide, ?_⟩
  refine s_forGo (fun i ρ G' => ∃ x3 x4 : Option D, ρ = [some (.tup (bs.map btD)), some (spD S), some (.tup ((wc S 0 (bs.take i)).map ddD)), x3, x4] ∧ G' = G) bs.length (by unfold loopFuel; omega) ⟨none, none, rfl, rfl⟩ ?_ ?_
  · rintro i ρ G' hi ⟨x3, x4, rfl, rfl⟩
    refine ⟨_, fix_at (bts_at hi), _, rfl, ?_⟩
    have hl := wc_len S (bs.take i) 0
    rw [List.length_take] at hl
    have hz : ∀ {n : Nat}, n ≤ 1000 → n ≤ sizeLine := fun h => Nat.le_trans h (by decide)
    simp only [s_pass, s_nil, s_cons, s_expr, s_set, s_par, s_setIx, s_setKey, s_augIx, s_aug, s_ifs, s_ret, s_retN, s_brk, s_cnt, s_never, w_k, w_v, w_un, w_bin, w_and, w_or, w_ite, w_chain, w_tup, wp_newL, w_lst, w_dic0, w_callD, w_sl, w_rev, w_call, w_bf, w_mt, w_nil, w_cons, w_no, w_some, Tg.bind, bindN, o_add, o_addT, o_sub, o_mul, o_fdiv, o_mod, o_pow, o_eq, o_ne, o_lt, o_le, o_gt, o_ge, o_isT, o_isI, o_isR, o_isN, o_eqB, o_neB, o_not, o_neg, o_lenT, o_int, o_isinI, o_isinT, o_isinB, o_isinI2, o_isinT2, t_ii, t_ib, t_is, t_it, t_il, t_tt, t_tl, t_ts, t_ti, t_tb, t_bb, t_bi, Cut.truthy, zb_bl, Bool.or_false, Bool.false_or, Bool.not_true, Bool.not_false, Bool.true_or, Bool.or_true, tb_dec, tb_some, tb_not, tb_true, tb_false, Cut.start, List.map, List.length, List.replicate, List.append_eq, List.cons_append, List.nil_append, List.getElem?_cons_zero, List.getElem?_cons_succ, List.set_cons_zero, List.set_cons_succ, Nat.reduceAdd, Nat.reduceSub, tyOf, if_true, if_false, Bool.false_eq_true, decide_true, decide_false, wp_ok, o_inSp (i := i) rfl]
    have e1 : (wc S 0 (bs.take (i + 1))).map ddD = (wc S 0 (bs.take i)).map ddD ++ (one S i bs[i]).map ddD := by rw [wc_take S bs i hi, List.map_append]
    by_cases hm : i ∈ S
    · simp only [hm, decide_true, if_true]
      refine ⟨by decide, by decide, hz (by (try simp only [List.length_append, List.length_map, List.length_cons, List.length_nil]); omega), by decide, by decide, hz (by (try simp only [List.length_append, List.length_map, List.length_cons, List.length_nil]); omega), some (.int (i : Int)), some (btD bs[i]), ?_, trivial⟩
      rw [e1]; unfold one; rw [if_pos hm, List.append_assoc]; rfl
    · simp only [hm, decide_false, if_false, Bool.false_eq_true]
      refine ⟨by decide, hz (by (try simp only [List.length_append, List.length_map, List.length_cons, List.length_nil]); omega), by decide, by decide, hz (by (try simp only [List.length_append, List.length_map, List.length_cons, List.length_nil]); omega), some (.int (i : Int)), some (btD bs[i]), ?_, trivial⟩
      rw [e1]; unfold one; rw [if_neg hm, List.append_nil]; rfl
  · rintro ρ G' ⟨x3, x4, rfl, rfl⟩
    refine ⟨fix_end (by rw [List.length_map]; exact Nat.le_refl _), ?_⟩
    rw [List.take_length]
    have hl := wc_len S bs 0
    have hz : ∀ {n : Nat}, n ≤ 1000 → n ≤ sizeLine := fun h => Nat.le_trans h (by decide)
    simp only [s_pass, s_nil, s_cons, s_expr, s_set, s_par, s_setIx, s_setKey, s_augIx, s_aug, s_ifs, s_ret, s_retN, s_brk, s_cnt, s_never, w_k, w_v, w_un, w_bin, w_and, w_or, w_ite, w_chain, w_tup, wp_newL, w_lst, w_dic0, w_callD, w_sl, w_rev, w_call, w_bf, w_mt, w_nil, w_cons, w_no, w_some, Tg.bind, bindN, o_add, o_addT, o_sub, o_mul, o_fdiv, o_mod, o_pow, o_eq, o_ne, o_lt, o_le, o_gt, o_ge, o_isT, o_isI, o_isR, o_isN, o_eqB, o_neB, o_not, o_neg, o_lenT, o_int, o_isinI, o_isinT, o_isinB, o_isinI2, o_isinT2, t_ii, t_ib, t_is, t_it, t_il, t_tt, t_tl, t_ts, t_ti, t_tb, t_bb, t_bi, Cut.truthy, zb_bl, Bool.or_false, Bool.false_or, Bool.not_true, Bool.not_false, Bool.true_or, Bool.or_true, tb_dec, tb_some, tb_not, tb_true, tb_false, Cut.start, List.map, List.length, List.replicate, List.append_eq, List.cons_append, List.nil_append, List.getElem?_cons_zero, List.getElem?_cons_succ, List.set_cons_zero, List.set_cons_succ, Nat.reduceAdd, Nat.reduceSub, tyOf, if_true, if_false, Bool.false_eq_true, decide_true, decide_false, wp_ok, List.length_map, o_inSp (i := bs.length) rfl]
    have fin : ∀ (c : Bool), decide (bs.length ∈ S ∧ bs ≠ []) = c → wp (gc G' (R.ok (.tup ((wc S 0 bs).map ddD ++ (if c then [chk] else []))) G')) fun b G'' => b = .tup ((wcF S bs).map ddD) ∧ G'' = G' := fun c hc => by
      have : (wc S 0 bs).map ddD ++ (if c then [chk] else []) = (wcF S bs).map ddD := by
        unfold wcF
        rw [List.map_append]
        congr 1
        cases c with
        | true => rw [if_pos (of_decide_eq_true hc)]; rfl
        | false => rw [if_neg (of_decide_eq_false hc)]; rfl
      rw [this, gc_id (show below _ (.tup _) = true from below_dd _ _)]
      exact ⟨rfl, rfl⟩
    by_cases hm : bs.length ∈ S
    · simp only [hm, decide_true, if_true]
      refine ⟨by decide, ?_⟩
      rw [o_neP (d := .tup (bs.map btD)) (e := .tup []) (Sh.plain (s := .tup (.many shBt)) (has_bts bs) (by decide)) (Sh.plain (s := .tup (.many shBt)) (fun _ h => nomatch h) (by decide))]
      have e : decide (D.tup (bs.map btD) = .tup []) = decide (bs = []) := decide_eq_decide.mpr ⟨fun z => map_nil.mp (D.tup.inj z), fun z => by rw [z]; rfl⟩
      rw [e]
      by_cases hb : bs = []
      · simp only [hb, decide_true, Bool.not_true, if_false, Bool.false_eq_true]
        simp only [s_pass, s_nil, s_cons, s_expr, s_set, s_par, s_setIx, s_setKey, s_augIx, s_aug, s_ifs, s_ret, s_retN, s_brk, s_cnt, s_never, w_k, w_v, w_un, w_bin, w_and, w_or, w_ite, w_chain, w_tup, wp_newL, w_lst, w_dic0, w_callD, w_sl, w_rev, w_call, w_bf, w_mt, w_nil, w_cons, w_no, w_some, Tg.bind, bindN, o_add, o_addT, o_sub, o_mul, o_fdiv, o_mod, o_pow, o_eq, o_ne, o_lt, o_le, o_gt, o_ge, o_isT, o_isI, o_isR, o_isN, o_eqB, o_neB, o_not, o_neg, o_lenT, o_int, o_isinI, o_isinT, o_isinB, o_isinI2, o_isinT2, t_ii, t_ib, t_is, t_it, t_il, t_tt, t_tl, t_ts, t_ti, t_tb, t_bb, t_bi, Cut.truthy, zb_bl, Bool.or_false, Bool.false_or, Bool.not_true, Bool.not_false, Bool.true_or, Bool.or_true, tb_dec, tb_some, tb_not, tb_true, tb_false, Cut.start, List.map, List.length, List.replicate, List.append_eq, List.cons_append, List.nil_append, List.getElem?_cons_zero, List.getElem?_cons_succ, List.set_cons_zero, List.set_cons_succ, Nat.reduceAdd, Nat.reduceSub, tyOf, if_true, if_false, Bool.false_eq_true, decide_true, decide_false, wp_ok]
        refine ⟨by decide, hz (by show 0 + 0 ≤ 1000; decide), ?_⟩
        have := fin false (decide_eq_false fun z => z.2 hb)
        rw [hb] at this
        exact this
      · simp only [hb, decide_false, Bool.not_false, if_true]
        simp only [s_pass, s_nil, s_cons, s_expr, s_set, s_par, s_setIx, s_setKey, s_augIx, s_aug, s_ifs, s_ret, s_retN, s_brk, s_cnt, s_never, w_k, w_v, w_un, w_bin, w_and, w_or, w_ite, w_chain, w_tup, wp_newL, w_lst, w_dic0, w_callD, w_sl, w_rev, w_call, w_bf, w_mt, w_nil, w_cons, w_no, w_some, Tg.bind, bindN, o_add, o_addT, o_sub, o_mul, o_fdiv, o_mod, o_pow, o_eq, o_ne, o_lt, o_le, o_gt, o_ge, o_isT, o_isI, o_isR, o_isN, o_eqB, o_neB, o_not, o_neg, o_lenT, o_int, o_isinI, o_isinT, o_isinB, o_isinI2, o_isinT2, t_ii, t_ib, t_is, t_it, t_il, t_tt, t_tl, t_ts, t_ti, t_tb, t_bb, t_bi, Cut.truthy, zb_bl, Bool.or_false, Bool.false_or, Bool.not_true, Bool.not_false, Bool.true_or, Bool.or_true, tb_dec, tb_some, tb_not, tb_true, tb_false, Cut.start, List.map, List.length, List.replicate, List.append_eq, List.cons_append, List.nil_append, List.getElem?_cons_zero, List.getElem?_cons_succ, List.set_cons_zero, List.set_cons_succ, Nat.reduceAdd, Nat.reduceSub, tyOf, if_true, if_false, Bool.false_eq_true, decide_true, decide_false, wp_ok]
        refine ⟨by decide, by decide, hz (by (try simp only [List.length_append, List.length_map, List.length_cons, List.length_nil]); omega), ?_⟩
        exact fin true (decide_eq_true ⟨hm, hb⟩)
    · simp only [hm, decide_false, if_false, Bool.false_eq_true]
      refine ⟨by decide, hz (by (try simp only [List.length_append, List.length_map, List.length_cons, List.length_nil]); omega), ?_⟩
      exact fin false (decide_eq_false fun z => hm z.1)
end K32
namespace K32
open PySem Cut
def szs (bs : List Bt) : List Nat := bs.map List.length
/-- do deeds fit? -/
def fitsD (R : Nat) : Nat → List Dd → Bool
  | _, [] => true
  | _, none :: ds => fitsD R 0 ds
  | u, some b :: ds => decide (u + b.length ≤ R) && fitsD R (u + b.length) ds
theorem fitsD_one {R u i : Nat} {S : List Nat} {b : Bt} {ds : List Dd} : fitsD R u (one S i b ++ ds) = (decide ((if i ∈ S then 0 else u) + b.length ≤ R) && fitsD R ((if i ∈ S then 0 else u) + b.length) ds) := by
  unfold one
  by_cases h : i ∈ S
  · rw [if_pos h, if_pos h]; rfl
  · rw [if_neg h, if_neg h]; rfl
theorem fitsD_wc {R : Nat} {S : List Nat} {e : List Dd} (he : ∀ u, fitsD R u e = true) : ∀ (bs : List Bt) (u i : Nat), fitsD R u (wc S i bs ++ e) = fit R S u i (szs bs)
  | [], u, _ => he u
  | b :: bs, u, i => by
    show fitsD R u (one S i b ++ wc S (i + 1) bs ++ e) = _
    rw [List.append_assoc, fitsD_one, fitsD_wc he bs]
    rfl
theorem fitsD_wcF {R : Nat} {S : List Nat} {bs : List Bt} : fitsD R 0 (wcF S bs) = fit R S 0 0 (szs bs) := by
  unfold wcF
  refine fitsD_wc (fun u => ?_) bs 0 0
  split <;> rfl
theorem dd_at {ds : List Dd} {i : Nat} (h : i < ds.length) : (ds.map ddD)[i]? = some (ddD ds[i]) := by
  rw [List.getElem?_map, List.getElem?_eq_getElem h]; rfl
theorem ix0dd {d : Dd} : ixAt (match ddD d with | .tup xs => xs | _ => []) 0 = some (.str (match d with | none => [99, 104, 101, 99, 107] | some _ => [119, 114, 105, 116, 101])) := by cases d <;> rfl
theorem pl_chk : Plain (.str [99, 104, 101, 99, 107]) := .str (by decide +kernel)
theorem pl_wr : Plain (.str [119, 114, 105, 116, 101]) := .str (by decide +kernel)
theorem fits {k P R : Nat} {Pi Ri : Int} (hRi : Ri = R) {ds : List Dd} {G : Store} (hn : ds.length ≤ 1000) : run T (k + 1) 15 [.tup [.int Pi, .int Ri], .tup (ds.map ddD)] G = .ok (.bl (fitsD R 0 ds)) G := by
  refine eq_of_wp (run_wp (fd := d15.fd) rfl rfl ?_)
  simp only [s_pass, s_nil, s_cons, s_expr, s_set, s_par, s_setIx, s_setKey, s_augIx, s_aug, s_ifs, s_ret, s_retN, s_brk, s_cnt, s_never, w_k, w_v, w_un, w_bin, w_and, w_or, w_ite, w_chain, w_tup, wp_newL, w_lst, w_dic0, w_callD, w_sl, w_rev, w_call, w_bf, w_mt, w_nil, w_cons, w_no, w_some, Tg.bind, bindN, o_add, o_addT, o_sub, o_mul, o_fdiv, o_mod, o_pow, o_eq, o_ne, o_lt, o_le, o_gt, o_ge, o_isT, o_isI, o_isR, o_isN, o_eqB, o_neB, o_not, o_neg, o_lenT, o_int, o_isinI, o_isinT, o_isinB, o_isinI2, o_isinT2, t_ii, t_ib, t_is, t_it, t_il, t_tt, t_tl, t_ts, t_ti, t_tb, t_bb, t_bi, Cut.truthy, zb_bl, Bool.or_false, Bool.false_or, Bool.not_true, Bool.not_false, Bool.true_or, Bool.or_true, tb_dec, tb_some, tb_not, tb_true, tb_false, Cut.start, List.map, List.length, List.replicate, List.append_eq, List.cons_append, List.nil_append, List.getElem?_cons_zero, List.getElem?_cons_succ, List.set_cons_zero, List.set_cons_succ, Nat.reduceAdd, Nat.reduceSub, tyOf, if_true, if_false, Bool.false_eq_true, decide_true, decide_false, wp_ok, Df.fd, d15, s_for, i_one, srcOf]
  refine s_forGo (fun i ρ G' => ∃ (u : Nat) (U : Int) (x3 : Option D), U = u ∧ ρ = [some (.tup [.int Pi, .int Ri]), some (.tup (ds.map ddD)), some (.int U), x3] ∧ G' = G ∧ fitsD R u (ds.drop i) = fitsD R 0 ds) ds.length (by unfold loopFuel; omega) ⟨0, 0, none, rfl, rfl, rfl, rfl⟩ ?_ ?_
  · rintro i ρ G' hi ⟨u, U, x3, hU, rfl, rfl, hf⟩
    refine ⟨_, one_at (dd_at hi), _, rfl, ?_⟩
    rw [List.drop_eq_getElem_cons hi] at hf
    cases hd : ds[i] with
    | none =>
      rw [hd] at hf
      simp only [s_pass, s_nil, s_cons, s_expr, s_set, s_par, s_setIx, s_setKey, s_augIx, s_aug, s_ifs, s_ret, s_retN, s_brk, s_cnt, s_never, w_k, w_v, w_un, w_bin, w_and, w_or, w_ite, w_chain, w_tup, wp_newL, w_lst, w_dic0, w_callD, w_sl, w_rev, w_call, w_bf, w_mt, w_nil, w_cons, w_no, w_some, Tg.bind, bindN, o_add, o_addT, o_sub, o_mul, o_fdiv, o_mod, o_pow, o_eq, o_ne, o_lt, o_le, o_gt, o_ge, o_isT, o_isI, o_isR, o_isN, o_eqB, o_neB, o_not, o_neg, o_lenT, o_int, o_isinI, o_isinT, o_isinB, o_isinI2, o_isinT2, t_ii, t_ib, t_is, t_it, t_il, t_tt, t_tl, t_ts, t_ti, t_tb, t_bb, t_bi, Cut.truthy, zb_bl, Bool.or_false, Bool.false_or, Bool.not_true, Bool.not_false, Bool.true_or, Bool.or_true, tb_dec, tb_some, tb_not, tb_true, tb_false, Cut.start, List.map, List.length, List.replicate, List.append_eq, List.cons_append, List.nil_append, List.getElem?_cons_zero, List.getElem?_cons_succ, List.set_cons_zero, List.set_cons_succ, Nat.reduceAdd, Nat.reduceSub, tyOf, if_true, if_false, Bool.false_eq_true, decide_true, decide_false, wp_ok, ddD, chk, o_ixT (show ixAt [D.str [99, 104, 101, 99, 107]] 0 = some (.str [99, 104, 101, 99, 107]) from rfl), o_eqP pl_chk pl_wr, show decide (D.str [99, 104, 101, 99, 107] = D.str [119, 114, 105, 116, 101]) = false by decide, o_ixT i1]
      simp only [show ¬ Ri < (0 : Int) by omega, decide_false, if_false, Bool.false_eq_true]
      exact ⟨0, 0, _, rfl, rfl, trivial, hf⟩
    | some b =>
      rw [hd] at hf
      simp only [s_pass, s_nil, s_cons, s_expr, s_set, s_par, s_setIx, s_setKey, s_augIx, s_aug, s_ifs, s_ret, s_retN, s_brk, s_cnt, s_never, w_k, w_v, w_un, w_bin, w_and, w_or, w_ite, w_chain, w_tup, wp_newL, w_lst, w_dic0, w_callD, w_sl, w_rev, w_call, w_bf, w_mt, w_nil, w_cons, w_no, w_some, Tg.bind, bindN, o_add, o_addT, o_sub, o_mul, o_fdiv, o_mod, o_pow, o_eq, o_ne, o_lt, o_le, o_gt, o_ge, o_isT, o_isI, o_isR, o_isN, o_eqB, o_neB, o_not, o_neg, o_lenT, o_int, o_isinI, o_isinT, o_isinB, o_isinI2, o_isinT2, t_ii, t_ib, t_is, t_it, t_il, t_tt, t_tl, t_ts, t_ti, t_tb, t_bb, t_bi, Cut.truthy, zb_bl, Bool.or_false, Bool.false_or, Bool.not_true, Bool.not_false, Bool.true_or, Bool.or_true, tb_dec, tb_some, tb_not, tb_true, tb_false, Cut.start, List.map, List.length, List.replicate, List.append_eq, List.cons_append, List.nil_append, List.getElem?_cons_zero, List.getElem?_cons_succ, List.set_cons_zero, List.set_cons_succ, Nat.reduceAdd, Nat.reduceSub, tyOf, if_true, if_false, Bool.false_eq_true, decide_true, decide_false, wp_ok, ddD, o_ixT i0, o_eqP pl_wr pl_wr, o_ixT i1, o_lenBt]
      have hf : (decide (u + b.length ≤ R) && fitsD R (u + b.length) (ds.drop (i + 1))) = fitsD R 0 ds := hf
      by_cases hc : u + b.length ≤ R
      · simp only [show ¬ Ri < U + (b.length : Int) by omega, decide_false, if_false, Bool.false_eq_true]
        rw [decide_eq_true hc, Bool.true_and] at hf
        exact ⟨u + b.length, U + (b.length : Int), _, by omega, rfl, trivial, hf⟩
      · simp only [show Ri < U + (b.length : Int) by omega, decide_true, if_true]
        rw [decide_eq_false hc, Bool.false_and] at hf
        rw [gc_id rfl, hf]
        exact ⟨rfl, rfl⟩
  · rintro ρ G' ⟨u, U, x3, hU, rfl, rfl, hf⟩
    refine ⟨one_end (by rw [List.length_map]; exact Nat.le_refl _), ?_⟩
    rw [List.drop_length] at hf
    simp only [s_pass, s_nil, s_cons, s_expr, s_set, s_par, s_setIx, s_setKey, s_augIx, s_aug, s_ifs, s_ret, s_retN, s_brk, s_cnt, s_never, w_k, w_v, w_un, w_bin, w_and, w_or, w_ite, w_chain, w_tup, wp_newL, w_lst, w_dic0, w_callD, w_sl, w_rev, w_call, w_bf, w_mt, w_nil, w_cons, w_no, w_some, Tg.bind, bindN, o_add, o_addT, o_sub, o_mul, o_fdiv, o_mod, o_pow, o_eq, o_ne, o_lt, o_le, o_gt, o_ge, o_isT, o_isI, o_isR, o_isN, o_eqB, o_neB, o_not, o_neg, o_lenT, o_int, o_isinI, o_isinT, o_isinB, o_isinI2, o_isinT2, t_ii, t_ib, t_is, t_it, t_il, t_tt, t_tl, t_ts, t_ti, t_tb, t_bb, t_bi, Cut.truthy, zb_bl, Bool.or_false, Bool.false_or, Bool.not_true, Bool.not_false, Bool.true_or, Bool.or_true, tb_dec, tb_some, tb_not, tb_true, tb_false, Cut.start, List.map, List.length, List.replicate, List.append_eq, List.cons_append, List.nil_append, List.getElem?_cons_zero, List.getElem?_cons_succ, List.set_cons_zero, List.set_cons_succ, Nat.reduceAdd, Nat.reduceSub, tyOf, if_true, if_false, Bool.false_eq_true, decide_true, decide_false, wp_ok]
    rw [gc_id rfl, ← hf]
    exact ⟨rfl, rfl⟩
/-! the greedy deeds -/
theorem wc_grd {R : Nat} : ∀ (bs : List Bt) (u i : Nat) (S : List Nat), (∀ j, i ≤ j → (j ∈ S ↔ j ∈ grd R u i (szs bs))) → wc S i bs = gd R u bs
  | [], _, _, _, _ => rfl
  | b :: bs, u, i, S, h => by
    show one S i b ++ wc S (i + 1) bs = gd R u (b :: bs)
    have hi := h i (Nat.le_refl _)
    simp only [szs, List.map_cons, grd] at h hi
    unfold gd
    by_cases hc : u + b.length ≤ R
    · rw [if_pos hc] at hi ⊢
      have hn : i ∉ S := fun z => by
        have := grd_ge _ _ _ i (hi.mp z); omega
      unfold one
      rw [if_neg hn, wc_grd bs (u + b.length) (i + 1) S fun j hj => by have := h j (by omega); rw [if_pos hc] at this; exact this]
      rfl
    · rw [if_neg hc] at hi ⊢
      have hm : i ∈ S := hi.mpr (List.mem_cons_self ..)
      unfold one
      rw [if_pos hm, wc_grd bs b.length (i + 1) S fun j hj => by
        have := h j (by omega)
        rw [if_neg hc] at this
        exact this.trans ⟨fun z => (List.mem_cons.mp z).resolve_left (by omega), fun z => List.mem_cons_of_mem _ z⟩]
      rfl
theorem wcF_grd {R : Nat} {bs : List Bt} : wcF (grd R 0 0 (szs bs)) bs = gd R 0 bs := by
  unfold wcF
  rw [wc_grd bs 0 0 _ fun _ _ => Iff.rfl, if_neg, List.append_nil]
  rintro ⟨h, _⟩
  have := grd_ge _ _ _ _ h
  unfold szs at this
  rw [List.length_map] at this
  omega
theorem gd_checks (R : Nat) : ∀ (bs : List Bt) (u i : Nat), ((gd R u bs).filter Option.isNone).length = (grd R u i (szs bs)).length
  | [], _, _ => rfl
  | b :: bs, u, i => by
    simp only [gd, szs, List.map_cons, grd]
    by_cases hc : u + b.length ≤ R
    · rw [if_pos hc, if_pos hc]; exact gd_checks R bs _ (i + 1)
    · rw [if_neg hc, if_neg hc]
      show ((gd R b.length bs).filter Option.isNone).length + 1 = _
      rw [gd_checks R bs _ (i + 1)]; rfl
theorem gd_writes (R : Nat) : ∀ (bs : List Bt) (u : Nat), (gd R u bs).filterMap id = bs
  | [], _ => rfl
  | b :: bs, u => by
    unfold gd
    split
    · show b :: (gd R _ bs).filterMap id = _; rw [gd_writes R bs]
    · show b :: (gd R _ bs).filterMap id = _; rw [gd_writes R bs]
/-! what is compared -/
def negD (S : List Nat) : D := .tup (S.map fun (x : Nat) => D.int (0 - (x : Int)))
def gE (bs : List Bt) (S : List Nat) : D := .tup [.int (S.length : Int), negD S, .tup ((wcF S bs).map ddD)]
abbrev shNeg : ShL := .many .int
abbrev shT : ShL := .cons (.tup shNeg) (.cons (.tup (.many shDd)) .nil)
abbrev shE : Sh := .tup (.cons .int shT)
theorem has_neg (S : List Nat) : shNeg.has (S.map fun (x : Nat) => D.int (0 - (x : Int))) := fun d hd => by
  obtain ⟨x, _, rfl⟩ := List.mem_map.mp hd
  exact trivial
theorem has_t (bs : List Bt) (S : List Nat) : shT.has [negD S, .tup ((wcF S bs).map ddD)] := ⟨has_neg S, has_dds _, rfl⟩
theorem has_e (bs : List Bt) (S : List Nat) : shE.has (gE bs S) := ⟨trivial, has_t bs S⟩
theorem lt_neg : ∀ {A B : List Nat}, gtl A B → ltP (negD A) (negD B)
  | [], _, h => h.elim
  | _ :: _, [], h => h.elim
  | a :: A, b :: B, h => by
    rcases h with h | ⟨rfl, h⟩
    · exact ltP_head (s := shNeg) (by omega) (has_neg A) (has_neg B)
    · exact ltP_tail (lt_neg h)
theorem lt_e {bs : List Bt} {A B : List Nat} (h : better A B) : A = B ∨ ltP (gE bs A) (gE bs B) := by
  rcases h with h | ⟨h, h' | h'⟩
  · exact .inr (ltP_head (s := shT) (by omega) (has_t bs A) (has_t bs B))
  · exact .inl h'
  · right
    unfold gE
    rw [h]
    exact ltP_tail (ltP_tup (s := shNeg) (t := .cons (.tup (.many shDd)) .nil) (lt_neg h') (has_neg A) (has_neg B) ⟨has_dds _, rfl⟩ ⟨has_dds _, rfl⟩)
theorem al_bt {b : Bt} (h : b.length ≤ 64) (hp : ∀ p ∈ b, p.2.length ≤ 96) : Al 3 (btD b) :=
  ⟨by rw [List.length_map]; omega, fun d hd => by
    obtain ⟨p, hp', rfl⟩ := List.mem_map.mp hd
    exact ⟨by show 2 < 2 ^ 20; decide, fun d hd => by
      rcases List.mem_cons.mp hd with rfl | hd
      · trivial
      · rw [List.mem_singleton.mp hd]
        exact ⟨by rw [List.length_map]; have := hp p hp'; omega, fun x hx => by obtain ⟨y, _, rfl⟩ := List.mem_map.mp hx; trivial⟩⟩⟩
theorem al_dd {d : Dd} (h : ∀ b, d = some b → b.length ≤ 64 ∧ ∀ p ∈ b, p.2.length ≤ 96) : Al 4 (ddD d) := by
  cases d with
  | none => exact ⟨by show 1 < 2 ^ 20; decide, fun x hx => by rw [List.mem_singleton.mp hx]; show PyData.strOk _ = true; decide +kernel⟩
  | some b =>
    obtain ⟨h1, h2⟩ := h b rfl
    refine ⟨by show 2 < 2 ^ 20; decide, fun x hx => ?_⟩
    rcases List.mem_cons.mp hx with rfl | hx
    · show PyData.strOk _ = true; decide +kernel
    · rw [List.mem_singleton.mp hx]; exact al_bt h1 h2
theorem gd_mem {R : Nat} : ∀ (bs : List Bt) (u : Nat) (b : Bt), some b ∈ gd R u bs → b ∈ bs
  | [], _, _, h => nomatch h
  | c :: bs, u, b, h => by
    unfold gd at h
    split at h
    · rcases List.mem_cons.mp h with h | h
      · cases h; exact List.mem_cons_self ..
      · exact List.mem_cons_of_mem _ (gd_mem bs _ b h)
    · rcases List.mem_cons.mp h with h | h
      · cases h
      · rcases List.mem_cons.mp h with h | h
        · cases h; exact List.mem_cons_self ..
        · exact List.mem_cons_of_mem _ (gd_mem bs _ b h)
theorem al_found {P R : Nat} {bs : List Bt} (hp : P ≤ 64) (hn : bs.length ≤ 20) (h : ∀ b ∈ bs, BtOk P R 3 b) : Al 5 (.tup ((gd R 0 bs).map ddD)) := by
  have := gd_len R bs 0
  refine ⟨by rw [List.length_map]; omega, fun d hd => ?_⟩
  obtain ⟨q, hq, rfl⟩ := List.mem_map.mp hd
  refine al_dd fun b hb => ?_
  subst hb
  have hk := h b (gd_mem bs 0 b hq)
  exact ⟨bt_few hk hp, fun p hp => Nat.le_trans (hk.page p hp).2 (by decide)⟩
theorem pl_dd (d : Dd) : Plain (ddD d) := Sh.plain (has_dd d) (by decide)
theorem dd_chk (d : Dd) : decide (ddD d = .tup [.str [99, 104, 101, 99, 107]]) = d.isNone := by
  cases d with
  | none => rfl
  | some b => exact decide_eq_false fun z => by have := D.tup.inj z; cases this
/-- how many checks there are, by the law's count -/
theorem filter_map' {α β : Type} (xs : List α) (p : α → Bool) (f : α → β) (dflt : α) : (List.range xs.length).filterMap (fun i => if p (xs.getD i dflt) then some (f (xs.getD i dflt)) else none) = (xs.filter p).map f := by
  have gen : ∀ (xs : List α) (g : Nat → Option β), (∀ i, (hi : i < xs.length) → g i = if p xs[i] then some (f xs[i]) else none) → (List.range xs.length).filterMap g = (xs.filter p).map f := by
    intro xs
    induction xs with
    | nil => intro g _; rfl
    | cons x xs ih =>
      intro g hg
      rw [List.length_cons, List.range_succ_eq_map, List.filterMap_cons, hg 0 (by simp), List.filterMap_map]
      have := ih (g ∘ Nat.succ) fun i hi => by have := hg (i + 1) (by rw [List.length_cons]; omega); simpa using this
      simp only [List.getElem_cons_zero]
      rw [this]
      cases hp : p x with
      | true => rw [List.filter_cons_of_pos hp]; rfl
      | false => rw [List.filter_cons_of_neg (by rw [hp]; exact Bool.false_ne_true)]; rfl
  exact gen xs _ fun i hi => by rw [List.getD_eq_getElem?_getD, List.getElem?_eq_getElem hi]; rfl
end K32
namespace K32
open PySem Cut
/-- len([deed for deed in found if deed == ("check",)]) -/
theorem count_checks {k : Nat} {ρ : Cut.Env} {G : Store} {Q : D → Store → Prop} {i : Nat} {ds : List Dd} (hi : ρ[i]? = some (some (.tup (ds.map ddD)))) (h11 : ρ.length = 14) (hne : i ≠ 11) (hn : ds.length ≤ 1000) (ll : G.lim ≤ G.cs.length)
    (hq : ∀ G', Grown G G' → Q (.int ((ds.filter Option.isNone).length : Int)) G') : wp (ev (Cut.run T k) (.bf .len (.cons (.comp (.v 11) (.one (.v i)) (.some (.bin .eq (.v 11) (.tup (.cons (.k (.str [99, 104, 101, 99, 107])) .nil)))) (.v 11) [11]) .nil)) ρ G) Q := by
  rw [w_bf, w_cons, w_comp, i_one, w_v, hi]
  show wp (compGo (.v 11) (.one (.fix (ds.map ddD))) (evc (Cut.run T k) (.some (.bin .eq (.v 11) (.tup (.cons (.k (.str [99, 104, 101, 99, 107])) .nil))))) (ev (Cut.run T k) (.v 11)) (wipeE ρ [11]) G.cs.length loopFuel 0 (G.new (.lst []))) _
  have h12 : ∀ d, ((wipeE ρ [11]).set 11 (some d))[11]? = some (some d) := fun d => List.getElem?_set_self (by show 11 < (ρ.set 11 none).length; rw [List.length_set, h11]; decide)
  refine comp_g (m := ds.length) (fun i => ddD (ds.getD i none)) (fun i => (wipeE ρ [11]).set 11 (some (ddD (ds.getD i none)))) (fun i => if (ds.getD i none).isNone then some (ddD (ds.getD i none)) else none) ll (by omega) (fun j G' hj g => one_at (by rw [dd_at hj, List.getD_eq_getElem?_getD, List.getElem?_eq_getElem hj]; rfl)) (fun G' g => one_end (by rw [List.length_map]; exact Nat.le_refl _)) (fun j hj => rfl) (fun j G' hj g => ?_) fun G' g hx => ?_
  · show wp ((ev (Cut.run T k) (.bin .eq (.v 11) (.tup (.cons (.k (.str [99, 104, 101, 99, 107])) .nil))) _ G').bind _) _
    rw [wp_bind, w_bin, w_v, h12]
    show wp (ev (Cut.run T k) (.tup (.cons (.k (.str [99, 104, 101, 99, 107])) .nil)) _ G') _
    rw [w_tup, w_cons, w_k, w_nil]
    refine ⟨by decide, ?_⟩
    rw [o_eqP (pl_dd _) (show Plain (D.tup [.str [99, 104, 101, 99, 107]]) from pl_dd none), dd_chk]
    show wp (match truthy (.bl (ds.getD j none).isNone) G' with | some b => R.ok b G' | none => .stuck) _
    refine ⟨rfl, ?_⟩
    cases hb : (ds.getD j none).isNone with
    | true =>
      rw [if_pos rfl, w_v, h12]
      exact ⟨rfl, .refl _⟩
    | false => exact rfl
  · rw [filter_map' ds Option.isNone ddD none] at hx
    rw [w_nil, o_lenL hx, List.length_map]
    exact hq G' g
theorem i2 {x y z : D} : ixAt [x, y, z] 2 = some z := rfl
theorem i03 {x y z : D} : ixAt [x, y, z] 0 = some x := rfl
theorem long_eq : D.tup (List.replicate (20 : Int).toNat [D.tup [D.tup [D.int 0, D.tup [D.int 1]]]]).flatten = .tup ((List.replicate 20 ([(0, [1])] : Bt)).map btD) := by decide +kernel
theorem long_ok {P R : Nat} (hP : 1 ≤ P) (hR : 2 ≤ R) : ∀ b ∈ List.replicate 20 ([(0, [1])] : Bt), BtOk P R 3 b := fun b hb => by
  rw [(List.mem_replicate.mp hb).2]
  refine ⟨Nat.zero_lt_succ _, by show 1 ≤ R; omega, List.pairwise_singleton .., fun p hp => ?_, fun p hp => ?_⟩
  · rw [List.mem_singleton.mp hp]; exact ⟨by decide, by show (0 : Int) < P; omega⟩
  · rw [List.mem_singleton.mp hp]
    exact ⟨fun x hx => by rw [List.mem_singleton.mp hx]; exact ⟨by decide, by decide⟩, by show 1 ≤ 3; decide⟩
theorem long_many : ∀ R, 2 ≤ R → R ≤ 5 → (((gd R 0 (List.replicate 20 ([(0, [1])] : Bt))).filter Option.isNone).length : Int) = 19 / (R : Int) := by
  intro R h1 h2
  have : R = 2 ∨ R = 3 ∨ R = 4 ∨ R = 5 := by omega
  rcases this with rfl | rfl | rfl | rfl <;> decide +kernel
/-- what the law's loop has gathered -/
def good (R : Nat) (bs : List Bt) (Ss : List (List Nat)) : List D := (Ss.filter fun S => fit R S 0 0 (szs bs)).map (gE bs)
theorem good_one (R : Nat) (bs : List Bt) (Ss : List (List Nat)) (i : Nat) (h : i < Ss.length) : good R bs (Ss.take (i + 1)) = good R bs (Ss.take i) ++ (if fit R Ss[i] 0 0 (szs bs) then [gE bs Ss[i]] else []) := by
  unfold good
  rw [List.take_succ_eq_append_getElem h, List.filter_append, List.map_append]
  congr 1
  cases hf : fit R Ss[i] 0 0 (szs bs) with
  | true => rw [List.filter_cons_of_pos (p := fun S => fit R S 0 0 (szs bs)) hf]; rfl
  | false => rw [List.filter_cons_of_neg (p := fun S => fit R S 0 0 (szs bs)) (by rw [hf]; exact Bool.false_ne_true)]; rfl
theorem good_len (R : Nat) (bs : List Bt) (Ss : List (List Nat)) : (good R bs Ss).length ≤ Ss.length := by
  unfold good
  rw [List.length_map]; exact List.length_filter_le ..
theorem sp_at {Ss : List (List Nat)} {i : Nat} (h : i < Ss.length) : (Ss.map spD)[i]? = some (spD Ss[i]) := by
  rw [List.getElem?_map, List.getElem?_eq_getElem h]; rfl
theorem sp_few {n : Nat} {S : List Nat} (h : S ∈ ways n) : S.length ≤ n := by
  obtain ⟨h1, h2⟩ := ways_sub n S h
  have nd : S.Nodup := h1.imp fun h => by omega
  have := List.Nodup.length_le_of_subset nd (l₂ := (List.range n).map (· + 1)) fun x hx => List.mem_map.mpr ⟨x - 1, List.mem_range.mpr (by have := h2 x hx; omega), by have := h2 x hx; omega⟩
  rw [List.length_map, List.length_range] at this; exact this
abbrev E0 (a b c d e : Option D) : Cut.Env := [some (.ref 0), some (.ref 1), a, b, c, d, e, none, none, none, none, none, none, none]
def wOf : Dd → D
  | some b => btD b
  | none => .non
theorem part2 {P R g : Nat} {Pi Ri : Int} {bs : List Bt} {xs : List D} {ρ : Cut.Env} {G3 : Store} {Dp : Po} (hPi : Pi = P) (hRi : Ri = R) (hP1 : 1 ≤ P) (hP4 : P ≤ 4) (hR1 : 2 ≤ R) (hR4 : R ≤ 5) (hxs : bs.map btD = xs) (hxl : xs.length = bs.length) (hn : bs.length ≤ 6) (hbs : ∀ b ∈ bs, BtOk P R 3 b) (hρ : ρ = E0 (some (.tup [.int Pi, .int Ri])) (some (.tup xs)) (some (.ref g)) none none) (hg : G3.lim ≤ g) (hgl : G3.lst? g = some []) (hD : ∀ G, Dp.rt (.bl true) G) :
    wps (exs (Cut.run T 13) (dropS d17.body 3) ρ G3) Dp := by
  have hsz : ∀ x ∈ szs bs, x ≤ R := fun x hx => by
    obtain ⟨b, hb, rfl⟩ := List.mem_map.mp hx
    exact (hbs b hb).le
  have hszl : (szs bs).length = bs.length := List.length_map ..
  refine s_mid (Q := fun ρ G => ∃ x5 x6 : Option D, ρ = E0 (some (.tup [.int Pi, .int Ri])) (some (.tup xs)) (some (.ref g)) x5 x6 ∧ G.lim ≤ G.cs.length ∧ G.lst? g = some (good R bs (ways bs.length))) ?_ ?_
  · have hg2 := lt_of_lst hgl
    subst hρ
    simp only [s_pass, s_nil, s_cons, s_expr, s_set, s_par, s_setIx, s_setKey, s_augIx, s_aug, s_ifs, s_ret, s_retN, s_brk, s_cnt, s_never, w_k, w_v, w_un, w_bin, w_and, w_or, w_ite, w_chain, w_tup, wp_newL, w_lst, w_dic0, w_callD, w_sl, w_rev, w_call, w_bf, w_mt, w_nil, w_cons, w_no, w_some, Tg.bind, bindN, o_add, o_addT, o_sub, o_mul, o_fdiv, o_mod, o_pow, o_eq, o_ne, o_lt, o_le, o_gt, o_ge, o_isT, o_isI, o_isR, o_isN, o_eqB, o_neB, o_not, o_neg, o_lenT, o_int, o_isinI, o_isinT, o_isinB, o_isinI2, o_isinT2, t_ii, t_ib, t_is, t_it, t_il, t_tt, t_tl, t_ts, t_ti, t_tb, t_bb, t_bi, Cut.truthy, zb_bl, Bool.or_false, Bool.false_or, Bool.not_true, Bool.not_false, Bool.true_or, Bool.or_true, tb_dec, tb_some, tb_not, tb_true, tb_false, Cut.start, List.map, List.length, List.replicate, List.append_eq, List.cons_append, List.nil_append, List.getElem?_cons_zero, List.getElem?_cons_succ, List.set_cons_zero, List.set_cons_succ, Nat.reduceAdd, Nat.reduceSub, tyOf, if_true, if_false, Bool.false_eq_true, decide_true, decide_false, wp_ok, d17, s_for, i_one]
    generalize hN : ((xs.length : Nat) : Int) = N
    rw [law_ways (n := bs.length) (by omega) (by omega) (by omega)]
    have hw : (G3.new (.lst ((ways bs.length).map spD))).lst? G3.cs.length = some ((ways bs.length).map spD) := lst_new
    have hgl' : (G3.new (.lst ((ways bs.length).map spD))).lst? g = some [] := lst_new_old hgl
    have hlm : (G3.new (.lst ((ways bs.length).map spD))).lim ≤ g := hg
    have hln : g < (G3.new (.lst ((ways bs.length).map spD))).cs.length := lt_of_lst hgl'
    simp only [s_pass, s_nil, s_cons, s_expr, s_set, s_par, s_setIx, s_setKey, s_augIx, s_aug, s_ifs, s_ret, s_retN, s_brk, s_cnt, s_never, w_k, w_v, w_un, w_bin, w_and, w_or, w_ite, w_chain, w_tup, wp_newL, w_lst, w_dic0, w_callD, w_sl, w_rev, w_call, w_bf, w_mt, w_nil, w_cons, w_no, w_some, Tg.bind, bindN, o_add, o_addT, o_sub, o_mul, o_fdiv, o_mod, o_pow, o_eq, o_ne, o_lt, o_le, o_gt, o_ge, o_isT, o_isI, o_isR, o_isN, o_eqB, o_neB, o_not, o_neg, o_lenT, o_int, o_isinI, o_isinT, o_isinB, o_isinI2, o_isinT2, t_ii, t_ib, t_is, t_it, t_il, t_tt, t_tl, t_ts, t_ti, t_tb, t_bb, t_bi, Cut.truthy, zb_bl, Bool.or_false, Bool.false_or, Bool.not_true, Bool.not_false, Bool.true_or, Bool.or_true, tb_dec, tb_some, tb_not, tb_true, tb_false, Cut.start, List.map, List.length, List.replicate, List.append_eq, List.cons_append, List.nil_append, List.getElem?_cons_zero, List.getElem?_cons_succ, List.set_cons_zero, List.set_cons_succ, Nat.reduceAdd, Nat.reduceSub, tyOf, if_true, if_false, Bool.false_eq_true, decide_true, decide_false, wp_ok, src_cell hw]
    generalize hw0 : G3.cs.length = w at hw ⊢
    generalize G3.new (.lst ((ways bs.length).map spD)) = G4 at hw hgl' hlm hln ⊢
    have hwl := ways_len bs.length
    have h64 : 2 ^ bs.length ≤ 2 ^ 6 := Nat.pow_le_pow_right (by decide) hn
    refine s_forGo (fun i ρ G => ∃ x5 x6 : Option D, ρ = E0 (some (.tup [.int Pi, .int Ri])) (some (.tup xs)) (some (.ref g)) x5 x6 ∧ G.lim ≤ g ∧ G.lst? w = some ((ways bs.length).map spD) ∧ G.lst? g = some (good R bs ((ways bs.length).take i))) (ways bs.length).length (by unfold loopFuel; omega) ⟨none, none, rfl, hlm, hw, hgl'⟩ ?_ ?_
    · rintro i ρ G hi ⟨x5, x6, rfl, q1, q2, q3⟩
      refine ⟨_, cell_at q2 (sp_at hi), _, rfl, ?_⟩
      have hm := List.getElem_mem hi
      have hfew := sp_few hm
      have hlg : w < G.cs.length := lt_of_lst q2
      have hgw : g ≠ w := by omega
      have hgg := lt_of_lst q3
      simp only [s_pass, s_nil, s_cons, s_expr, s_set, s_par, s_setIx, s_setKey, s_augIx, s_aug, s_ifs, s_ret, s_retN, s_brk, s_cnt, s_never, w_k, w_v, w_un, w_bin, w_and, w_or, w_ite, w_chain, w_tup, wp_newL, w_lst, w_dic0, w_callD, w_sl, w_rev, w_call, w_bf, w_mt, w_nil, w_cons, w_no, w_some, Tg.bind, bindN, o_add, o_addT, o_sub, o_mul, o_fdiv, o_mod, o_pow, o_eq, o_ne, o_lt, o_le, o_gt, o_ge, o_isT, o_isI, o_isR, o_isN, o_eqB, o_neB, o_not, o_neg, o_lenT, o_int, o_isinI, o_isinT, o_isinB, o_isinI2, o_isinT2, t_ii, t_ib, t_is, t_it, t_il, t_tt, t_tl, t_ts, t_ti, t_tb, t_bb, t_bi, Cut.truthy, zb_bl, Bool.or_false, Bool.false_or, Bool.not_true, Bool.not_false, Bool.true_or, Bool.or_true, tb_dec, tb_some, tb_not, tb_true, tb_false, Cut.start, List.map, List.length, List.replicate, List.append_eq, List.cons_append, List.nil_append, List.getElem?_cons_zero, List.getElem?_cons_succ, List.set_cons_zero, List.set_cons_succ, Nat.reduceAdd, Nat.reduceSub, tyOf, if_true, if_false, Bool.false_eq_true, decide_true, decide_false, wp_ok]
      rw [← hxs, with_checks (by omega)]
      simp only [s_pass, s_nil, s_cons, s_expr, s_set, s_par, s_setIx, s_setKey, s_augIx, s_aug, s_ifs, s_ret, s_retN, s_brk, s_cnt, s_never, w_k, w_v, w_un, w_bin, w_and, w_or, w_ite, w_chain, w_tup, wp_newL, w_lst, w_dic0, w_callD, w_sl, w_rev, w_call, w_bf, w_mt, w_nil, w_cons, w_no, w_some, Tg.bind, bindN, o_add, o_addT, o_sub, o_mul, o_fdiv, o_mod, o_pow, o_eq, o_ne, o_lt, o_le, o_gt, o_ge, o_isT, o_isI, o_isR, o_isN, o_eqB, o_neB, o_not, o_neg, o_lenT, o_int, o_isinI, o_isinT, o_isinB, o_isinI2, o_isinT2, t_ii, t_ib, t_is, t_it, t_il, t_tt, t_tl, t_ts, t_ti, t_tb, t_bb, t_bi, Cut.truthy, zb_bl, Bool.or_false, Bool.false_or, Bool.not_true, Bool.not_false, Bool.true_or, Bool.or_true, tb_dec, tb_some, tb_not, tb_true, tb_false, Cut.start, List.map, List.length, List.replicate, List.append_eq, List.cons_append, List.nil_append, List.getElem?_cons_zero, List.getElem?_cons_succ, List.set_cons_zero, List.set_cons_succ, Nat.reduceAdd, Nat.reduceSub, tyOf, if_true, if_false, Bool.false_eq_true, decide_true, decide_false, wp_ok]
      have hwl2 : (wcF (ways bs.length)[i] bs).length ≤ 100 := by
        unfold wcF
        have := wc_len (ways bs.length)[i] bs 0
        rw [List.length_append]
        split <;> simp only [List.length_cons, List.length_nil] <;> omega
      rw [fits (P := P) hRi (by omega), fitsD_wcF]
      have hg1 := good_one R bs (ways bs.length) i hi
      cases hf : fit R (ways bs.length)[i] 0 0 (szs bs) with
      | true =>
        rw [hf] at hg1
        simp only [s_pass, s_nil, s_cons, s_expr, s_set, s_par, s_setIx, s_setKey, s_augIx, s_aug, s_ifs, s_ret, s_retN, s_brk, s_cnt, s_never, w_k, w_v, w_un, w_bin, w_and, w_or, w_ite, w_chain, w_tup, wp_newL, w_lst, w_dic0, w_callD, w_sl, w_rev, w_call, w_bf, w_mt, w_nil, w_cons, w_no, w_some, Tg.bind, bindN, o_add, o_addT, o_sub, o_mul, o_fdiv, o_mod, o_pow, o_eq, o_ne, o_lt, o_le, o_gt, o_ge, o_isT, o_isI, o_isR, o_isN, o_eqB, o_neB, o_not, o_neg, o_lenT, o_int, o_isinI, o_isinT, o_isinB, o_isinI2, o_isinT2, t_ii, t_ib, t_is, t_it, t_il, t_tt, t_tl, t_ts, t_ti, t_tb, t_bb, t_bi, Cut.truthy, zb_bl, Bool.or_false, Bool.false_or, Bool.not_true, Bool.not_false, Bool.true_or, Bool.or_true, tb_dec, tb_some, tb_not, tb_true, tb_false, Cut.start, List.map, List.length, List.replicate, List.append_eq, List.cons_append, List.nil_append, List.getElem?_cons_zero, List.getElem?_cons_succ, List.set_cons_zero, List.set_cons_succ, Nat.reduceAdd, Nat.reduceSub, tyOf, if_true, if_false, Bool.false_eq_true, decide_true, decide_false, wp_ok, w_comp, i_one]
        refine ⟨ty_append q3, ?_⟩
        show wp (bf .len [spD (ways bs.length)[i]] G) _
        unfold spD
        rw [o_lenT, List.length_map]
        simp only [s_pass, s_nil, s_cons, s_expr, s_set, s_par, s_setIx, s_setKey, s_augIx, s_aug, s_ifs, s_ret, s_retN, s_brk, s_cnt, s_never, w_k, w_v, w_un, w_bin, w_and, w_or, w_ite, w_chain, w_tup, wp_newL, w_lst, w_dic0, w_callD, w_sl, w_rev, w_call, w_bf, w_mt, w_nil, w_cons, w_no, w_some, Tg.bind, bindN, o_add, o_addT, o_sub, o_mul, o_fdiv, o_mod, o_pow, o_eq, o_ne, o_lt, o_le, o_gt, o_ge, o_isT, o_isI, o_isR, o_isN, o_eqB, o_neB, o_not, o_neg, o_lenT, o_int, o_isinI, o_isinT, o_isinB, o_isinI2, o_isinT2, t_ii, t_ib, t_is, t_it, t_il, t_tt, t_tl, t_ts, t_ti, t_tb, t_bb, t_bi, Cut.truthy, zb_bl, Bool.or_false, Bool.false_or, Bool.not_true, Bool.not_false, Bool.true_or, Bool.or_true, tb_dec, tb_some, tb_not, tb_true, tb_false, Cut.start, List.map, List.length, List.replicate, List.append_eq, List.cons_append, List.nil_append, List.getElem?_cons_zero, List.getElem?_cons_succ, List.set_cons_zero, List.set_cons_succ, Nat.reduceAdd, Nat.reduceSub, tyOf, if_true, if_false, Bool.false_eq_true, decide_true, decide_false, wp_ok, srcOf]
        refine comp_pure (f := fun d => match d with | .int x => .int (0 - x) | d => d) (by omega) (by rw [List.length_map]; omega) (fun d hd G' gr => ?_) fun G' gr hx => ?_
        · obtain ⟨x, _, rfl⟩ := List.mem_map.mp hd
          simp only [s_pass, s_nil, s_cons, s_expr, s_set, s_par, s_setIx, s_setKey, s_augIx, s_aug, s_ifs, s_ret, s_retN, s_brk, s_cnt, s_never, w_k, w_v, w_un, w_bin, w_and, w_or, w_ite, w_chain, w_tup, wp_newL, w_lst, w_dic0, w_callD, w_sl, w_rev, w_call, w_bf, w_mt, w_nil, w_cons, w_no, w_some, Tg.bind, bindN, o_add, o_addT, o_sub, o_mul, o_fdiv, o_mod, o_pow, o_eq, o_ne, o_lt, o_le, o_gt, o_ge, o_isT, o_isI, o_isR, o_isN, o_eqB, o_neB, o_not, o_neg, o_lenT, o_int, o_isinI, o_isinT, o_isinB, o_isinI2, o_isinT2, t_ii, t_ib, t_is, t_it, t_il, t_tt, t_tl, t_ts, t_ti, t_tb, t_bb, t_bi, Cut.truthy, zb_bl, Bool.or_false, Bool.false_or, Bool.not_true, Bool.not_false, Bool.true_or, Bool.or_true, tb_dec, tb_some, tb_not, tb_true, tb_false, Cut.start, List.map, List.length, List.replicate, List.append_eq, List.cons_append, List.nil_append, List.getElem?_cons_zero, List.getElem?_cons_succ, List.set_cons_zero, List.set_cons_succ, Nat.reduceAdd, Nat.reduceSub, tyOf, if_true, if_false, Bool.false_eq_true, decide_true, decide_false, wp_ok, wipeE]
          exact ⟨trivial, trivial⟩
        · rw [o_tupL hx]
          refine ⟨by show 3 ≤ sizeLine; decide, ?_⟩
          have q3' := gr.lst q3
          have q2' := gr.lst q2
          have hk := good_len R bs ((ways bs.length).take i)
          rw [List.length_take] at hk
          rw [o_append q3' (by rw [gr.lim]; exact q1) (Nat.lt_of_le_of_lt (show _ ≤ 100 by omega) (by decide))]
          refine ⟨_, _, rfl, by show G'.lim ≤ g; rw [gr.lim]; exact q1, by rw [lst_put_ne hgw]; exact q2', ?_⟩
          rw [lst_put (lt_of_lst q3'), hg1]
          simp only [if_true]
          congr 2
          unfold gE negD
          rw [List.map_map]; rfl
      | false =>
        rw [hf] at hg1
        simp only [s_pass, s_nil, s_cons, s_expr, s_set, s_par, s_setIx, s_setKey, s_augIx, s_aug, s_ifs, s_ret, s_retN, s_brk, s_cnt, s_never, w_k, w_v, w_un, w_bin, w_and, w_or, w_ite, w_chain, w_tup, wp_newL, w_lst, w_dic0, w_callD, w_sl, w_rev, w_call, w_bf, w_mt, w_nil, w_cons, w_no, w_some, Tg.bind, bindN, o_add, o_addT, o_sub, o_mul, o_fdiv, o_mod, o_pow, o_eq, o_ne, o_lt, o_le, o_gt, o_ge, o_isT, o_isI, o_isR, o_isN, o_eqB, o_neB, o_not, o_neg, o_lenT, o_int, o_isinI, o_isinT, o_isinB, o_isinI2, o_isinT2, t_ii, t_ib, t_is, t_it, t_il, t_tt, t_tl, t_ts, t_ti, t_tb, t_bb, t_bi, Cut.truthy, zb_bl, Bool.or_false, Bool.false_or, Bool.not_true, Bool.not_false, Bool.true_or, Bool.or_true, tb_dec, tb_some, tb_not, tb_true, tb_false, Cut.start, List.map, List.length, List.replicate, List.append_eq, List.cons_append, List.nil_append, List.getElem?_cons_zero, List.getElem?_cons_succ, List.set_cons_zero, List.set_cons_succ, Nat.reduceAdd, Nat.reduceSub, tyOf, if_true, if_false, Bool.false_eq_true, decide_true, decide_false, wp_ok]
        refine ⟨_, _, rfl, q1, q2, ?_⟩
        rw [hg1]
        simp only [Bool.false_eq_true, if_false, List.append_nil]
        exact q3
    · rintro ρ G ⟨x5, x6, rfl, q1, q2, q3⟩
      refine ⟨cell_end q2 (by rw [List.length_map]; exact Nat.le_refl _), x5, x6, rfl, by have := lt_of_lst q3; omega, ?_⟩
      rw [List.take_length] at q3; exact q3
  rintro ρ G4 ⟨x5, x6, hρ4, ll, hgood⟩
  generalize hF : D.tup ((gd R 0 bs).map ddD) = F
  have hgdl := gd_len R bs 0
  have hAl : Al 5 F := by rw [← hF]; exact al_found (by omega) (by omega) hbs
  have hS := grd_asc (R := R) (szs bs) 0 0
  have hS2 := grd_ge (R := R) (szs bs) 0 0
  have hmem : grd R 0 0 (szs bs) ∈ ways bs.length := ways_all _ _ hS fun x hx => by
    have h1 := hS2 x hx
    rw [hszl] at h1
    refine ⟨?_, by omega⟩
    cases hb : bs with
    | nil => rw [hb] at h1; exact absurd h1.2 (by simp)
    | cons b bs' =>
      rw [hb] at hx
      have hR0 : 0 + b.length ≤ R := by have := hsz b.length (by rw [hb]; exact List.mem_cons_self ..); omega
      simp only [szs, List.map_cons, grd] at hx
      rw [if_pos hR0] at hx
      exact (grd_ge _ _ _ x hx).1
  have hbest : gE bs (grd R 0 0 (szs bs)) ∈ good R bs (ways bs.length) := List.mem_map.mpr ⟨_, List.mem_filter.mpr ⟨hmem, grd_fit _ _ _ hsz⟩, rfl⟩
  have hleast : ∀ d ∈ good R bs (ways bs.length), d = gE bs (grd R 0 0 (szs bs)) ∨ ltP (gE bs (grd R 0 0 (szs bs))) d := fun d hd => by
    obtain ⟨S, hS', rfl⟩ := List.mem_map.mp hd
    obtain ⟨h1, h2⟩ := List.mem_filter.mp hS'
    obtain ⟨h3, h4⟩ := ways_sub _ _ h1
    rcases lt_e (bs := bs) (grd_best (szs bs) 0 0 0 S hsz h3 (fun x hx => by omega) (Nat.le_refl _) h2) with h | h
    · exact .inl (by rw [h])
    · exact .inr h
  have hno : intsD (good R bs (ways bs.length)) = none := by
    cases hc : good R bs (ways bs.length) with
    | nil => rw [hc] at hbest; cases hbest
    | cons d ds =>
      obtain ⟨S, _, rfl⟩ := List.mem_map.mp (show d ∈ (List.filter (fun S => fit R S 0 0 (szs bs)) (ways bs.length)).map (gE bs) from by
        show d ∈ good R bs (ways bs.length)
        rw [hc]; exact List.mem_cons_self ..)
      rfl
  have hE2 : gE bs (grd R 0 0 (szs bs)) = .tup [.int ((grd R 0 0 (szs bs)).length : Int), negD (grd R 0 0 (szs bs)), F] := by
    unfold gE
    rw [wcF_grd, hF]
  have hcnt : (((gd R 0 bs).filter Option.isNone).length : Int) = ((grd R 0 0 (szs bs)).length : Int) := by rw [gd_checks R bs 0 0]
  generalize hE : gE bs (grd R 0 0 (szs bs)) = E at hbest hleast hE2
  generalize negD (grd R 0 0 (szs bs)) = N at hE2
  generalize ((grd R 0 0 (szs bs)).length : Int) = C at hE2 hcnt
  have hwr : (gd R 0 bs).filterMap id = bs := gd_writes R bs 0
  have hFl : ∀ {k : Nat} {G : Store}, G.lim ≤ G.cs.length → Cut.run T (k + 7) 7 [.tup [.int Pi, .int Ri], .tup xs] G = .ok F G := fun {k G} h => by
    rw [← hF, ← hxs, hPi, hRi]
    exact fewest_checks hP1 (by omega) hR1 (by omega) (by decide) (by omega) hbs h
  generalize hL : D.tup ((gd R 0 (List.replicate 20 ([(0, [1])] : Bt))).map ddD) = L
  generalize hM : D.tup ((List.replicate 20 ([(0, [1])] : Bt)).map btD) = M
  have hLl : ∀ {k : Nat} {G : Store}, G.lim ≤ G.cs.length → Cut.run T (k + 7) 7 [.tup [.int Pi, .int Ri], M] G = .ok L G := fun {k G} h => by
    rw [← hL, ← hM, hPi, hRi]
    exact fewest_checks hP1 (by omega) hR1 (by omega) (by decide) (by rw [List.length_replicate]; decide) (long_ok hP1 hR1) h
  refine s_mid (Q := fun ρ G => ρ = [some (.ref 0), some (.ref 1), some (.tup [.int Pi, .int Ri]), some (.tup xs), some (.ref g), x5, x6, none, some F, none, none, none, none, none] ∧ G = G4) ?_ ?_
  · subst hρ4
    simp only [s_pass, s_nil, s_cons, s_expr, s_set, s_par, s_setIx, s_setKey, s_augIx, s_aug, s_ifs, s_ret, s_retN, s_brk, s_cnt, s_never, w_k, w_v, w_un, w_bin, w_and, w_or, w_ite, w_chain, w_tup, wp_newL, w_lst, w_dic0, w_callD, w_sl, w_rev, w_call, w_bf, w_mt, w_nil, w_cons, w_no, w_some, Tg.bind, bindN, o_add, o_addT, o_sub, o_mul, o_fdiv, o_mod, o_pow, o_eq, o_ne, o_lt, o_le, o_gt, o_ge, o_isT, o_isI, o_isR, o_isN, o_eqB, o_neB, o_not, o_neg, o_lenT, o_int, o_isinI, o_isinT, o_isinB, o_isinI2, o_isinT2, t_ii, t_ib, t_is, t_it, t_il, t_tt, t_tl, t_ts, t_ti, t_tb, t_bb, t_bi, Cut.truthy, zb_bl, Bool.or_false, Bool.false_or, Bool.not_true, Bool.not_false, Bool.true_or, Bool.or_true, tb_dec, tb_some, tb_not, tb_true, tb_false, Cut.start, List.map, List.length, List.replicate, List.append_eq, List.cons_append, List.nil_append, List.getElem?_cons_zero, List.getElem?_cons_succ, List.set_cons_zero, List.set_cons_succ, Nat.reduceAdd, Nat.reduceSub, tyOf, if_true, if_false, Bool.false_eq_true, decide_true, decide_false, wp_ok, d17]
    rw [hFl ll]
    exact ⟨rfl, rfl⟩
  rintro ρ G ⟨hρ, rfl⟩
  refine s_mid (Q := fun ρ G' => ρ = [some (.ref 0), some (.ref 1), some (.tup [.int Pi, .int Ri]), some (.tup xs), some (.ref g), x5, x6, none, some F, some E, none, none, none, none] ∧ G' = G) ?_ ?_
  · subst hρ
    simp only [s_pass, s_nil, s_cons, s_expr, s_set, s_par, s_setIx, s_setKey, s_augIx, s_aug, s_ifs, s_ret, s_retN, s_brk, s_cnt, s_never, w_k, w_v, w_un, w_bin, w_and, w_or, w_ite, w_chain, w_tup, wp_newL, w_lst, w_dic0, w_callD, w_sl, w_rev, w_call, w_bf, w_mt, w_nil, w_cons, w_no, w_some, Tg.bind, bindN, o_add, o_addT, o_sub, o_mul, o_fdiv, o_mod, o_pow, o_eq, o_ne, o_lt, o_le, o_gt, o_ge, o_isT, o_isI, o_isR, o_isN, o_eqB, o_neB, o_not, o_neg, o_lenT, o_int, o_isinI, o_isinT, o_isinB, o_isinI2, o_isinT2, t_ii, t_ib, t_is, t_it, t_il, t_tt, t_tl, t_ts, t_ti, t_tb, t_bb, t_bi, Cut.truthy, zb_bl, Bool.or_false, Bool.false_or, Bool.not_true, Bool.not_false, Bool.true_or, Bool.or_true, tb_dec, tb_some, tb_not, tb_true, tb_false, Cut.start, List.map, List.length, List.replicate, List.append_eq, List.cons_append, List.nil_append, List.getElem?_cons_zero, List.getElem?_cons_succ, List.set_cons_zero, List.set_cons_succ, Nat.reduceAdd, Nat.reduceSub, tyOf, if_true, if_false, Bool.false_eq_true, decide_true, decide_false, wp_ok, d17]
    rw [o_minL (s := shE) hgood hno (fun d hd => by obtain ⟨S, _, rfl⟩ := List.mem_map.mp hd; exact has_e bs S) (by decide) hbest hleast]
    exact ⟨rfl, rfl⟩
  rintro ρ1 G' ⟨hρ1, rfl⟩
  refine s_mid (Q := fun ρ G => ρ = ρ1 ∧ G = G') ?_ ?_
  · subst hρ1
    simp only [s_pass, s_nil, s_cons, s_expr, s_set, s_par, s_setIx, s_setKey, s_augIx, s_aug, s_ifs, s_ret, s_retN, s_brk, s_cnt, s_never, w_k, w_v, w_un, w_bin, w_and, w_or, w_ite, w_chain, w_tup, wp_newL, w_lst, w_dic0, w_callD, w_sl, w_rev, w_call, w_bf, w_mt, w_nil, w_cons, w_no, w_some, Tg.bind, bindN, o_add, o_addT, o_sub, o_mul, o_fdiv, o_mod, o_pow, o_eq, o_ne, o_lt, o_le, o_gt, o_ge, o_isT, o_isI, o_isR, o_isN, o_eqB, o_neB, o_not, o_neg, o_lenT, o_int, o_isinI, o_isinT, o_isinB, o_isinI2, o_isinT2, t_ii, t_ib, t_is, t_it, t_il, t_tt, t_tl, t_ts, t_ti, t_tb, t_bb, t_bi, Cut.truthy, zb_bl, Bool.or_false, Bool.false_or, Bool.not_true, Bool.not_false, Bool.true_or, Bool.or_true, tb_dec, tb_some, tb_not, tb_true, tb_false, Cut.start, List.map, List.length, List.replicate, List.append_eq, List.cons_append, List.nil_append, List.getElem?_cons_zero, List.getElem?_cons_succ, List.set_cons_zero, List.set_cons_succ, Nat.reduceAdd, Nat.reduceSub, tyOf, if_true, if_false, Bool.false_eq_true, decide_true, decide_false, wp_ok, d17]
    rw [hE2, o_ixT i2]
    rw [alike hA 5 F hAl 12 G' (by decide) ll]
    simp only [s_pass, s_nil, s_cons, s_expr, s_set, s_par, s_setIx, s_setKey, s_augIx, s_aug, s_ifs, s_ret, s_retN, s_brk, s_cnt, s_never, w_k, w_v, w_un, w_bin, w_and, w_or, w_ite, w_chain, w_tup, wp_newL, w_lst, w_dic0, w_callD, w_sl, w_rev, w_call, w_bf, w_mt, w_nil, w_cons, w_no, w_some, Tg.bind, bindN, o_add, o_addT, o_sub, o_mul, o_fdiv, o_mod, o_pow, o_eq, o_ne, o_lt, o_le, o_gt, o_ge, o_isT, o_isI, o_isR, o_isN, o_eqB, o_neB, o_not, o_neg, o_lenT, o_int, o_isinI, o_isinT, o_isinB, o_isinI2, o_isinT2, t_ii, t_ib, t_is, t_it, t_il, t_tt, t_tl, t_ts, t_ti, t_tb, t_bb, t_bi, Cut.truthy, zb_bl, Bool.or_false, Bool.false_or, Bool.not_true, Bool.not_false, Bool.true_or, Bool.or_true, tb_dec, tb_some, tb_not, tb_true, tb_false, Cut.start, List.map, List.length, List.replicate, List.append_eq, List.cons_append, List.nil_append, List.getElem?_cons_zero, List.getElem?_cons_succ, List.set_cons_zero, List.set_cons_succ, Nat.reduceAdd, Nat.reduceSub, tyOf, if_true, if_false, Bool.false_eq_true, decide_true, decide_false, wp_ok]
    exact ⟨trivial, trivial⟩
  rintro ρ2 G2 ⟨rfl, rfl⟩
  refine s_mid (Q := fun ρ G => ρ = ρ2.set 10 (some (.int C)) ∧ Grown G2 G) ?_ ?_
  · rw [s_set]
    refine count_checks (i := 8) (ds := gd R 0 bs) (by rw [hρ1, hF]; rfl) (by rw [hρ1]; rfl) (by decide) (by omega) ll fun G' gr => ?_
    rw [hcnt]
    exact ⟨rfl, gr⟩
  rintro ρ3 G3 ⟨hρ3, gr3⟩
  refine s_mid (Q := fun ρ G => ρ = ρ3.set 12 (some M) ∧ G = G3) ?_ ?_
  · rw [hρ3, hρ1]
    simp only [s_pass, s_nil, s_cons, s_expr, s_set, s_par, s_setIx, s_setKey, s_augIx, s_aug, s_ifs, s_ret, s_retN, s_brk, s_cnt, s_never, w_k, w_v, w_un, w_bin, w_and, w_or, w_ite, w_chain, w_tup, wp_newL, w_lst, w_dic0, w_callD, w_sl, w_rev, w_call, w_bf, w_mt, w_nil, w_cons, w_no, w_some, Tg.bind, bindN, o_add, o_addT, o_sub, o_mul, o_fdiv, o_mod, o_pow, o_eq, o_ne, o_lt, o_le, o_gt, o_ge, o_isT, o_isI, o_isR, o_isN, o_eqB, o_neB, o_not, o_neg, o_lenT, o_int, o_isinI, o_isinT, o_isinB, o_isinI2, o_isinT2, t_ii, t_ib, t_is, t_it, t_il, t_tt, t_tl, t_ts, t_ti, t_tb, t_bb, t_bi, Cut.truthy, zb_bl, Bool.or_false, Bool.false_or, Bool.not_true, Bool.not_false, Bool.true_or, Bool.or_true, tb_dec, tb_some, tb_not, tb_true, tb_false, Cut.start, List.map, List.length, List.replicate, List.append_eq, List.cons_append, List.nil_append, List.getElem?_cons_zero, List.getElem?_cons_succ, List.set_cons_zero, List.set_cons_succ, Nat.reduceAdd, Nat.reduceSub, tyOf, if_true, if_false, Bool.false_eq_true, decide_true, decide_false, wp_ok, d17]
    refine ⟨by decide, by decide, by decide, by decide, ?_⟩
    have : op2 .mul (.tup [.tup [.tup [.int 0, .tup [.int 1]]]]) (.int 20) G3 = .ok M G3 := by
      rw [← hM, ← long_eq]
      unfold op2
      dsimp only
      rw [if_pos (by refine ⟨by simp, by decide, by decide, by decide⟩)]
    rw [this]
    exact ⟨rfl, rfl⟩
  rintro ρ4 G5 ⟨hρ4', rfl⟩
  have ll3 : G5.lim ≤ G5.cs.length := by have := gr3.lim; have := gr3.len; omega
  refine s_mid (Q := fun ρ G => ρ = ρ4.set 13 (some L) ∧ G = G5) ?_ ?_
  · rw [hρ4', hρ3, hρ1]
    simp only [s_pass, s_nil, s_cons, s_expr, s_set, s_par, s_setIx, s_setKey, s_augIx, s_aug, s_ifs, s_ret, s_retN, s_brk, s_cnt, s_never, w_k, w_v, w_un, w_bin, w_and, w_or, w_ite, w_chain, w_tup, wp_newL, w_lst, w_dic0, w_callD, w_sl, w_rev, w_call, w_bf, w_mt, w_nil, w_cons, w_no, w_some, Tg.bind, bindN, o_add, o_addT, o_sub, o_mul, o_fdiv, o_mod, o_pow, o_eq, o_ne, o_lt, o_le, o_gt, o_ge, o_isT, o_isI, o_isR, o_isN, o_eqB, o_neB, o_not, o_neg, o_lenT, o_int, o_isinI, o_isinT, o_isinB, o_isinI2, o_isinT2, t_ii, t_ib, t_is, t_it, t_il, t_tt, t_tl, t_ts, t_ti, t_tb, t_bb, t_bi, Cut.truthy, zb_bl, Bool.or_false, Bool.false_or, Bool.not_true, Bool.not_false, Bool.true_or, Bool.or_true, tb_dec, tb_some, tb_not, tb_true, tb_false, Cut.start, List.map, List.length, List.replicate, List.append_eq, List.cons_append, List.nil_append, List.getElem?_cons_zero, List.getElem?_cons_succ, List.set_cons_zero, List.set_cons_succ, Nat.reduceAdd, Nat.reduceSub, tyOf, if_true, if_false, Bool.false_eq_true, decide_true, decide_false, wp_ok, d17]
    rw [hLl ll3]
    exact ⟨rfl, rfl⟩
  rintro ρ5 G6 ⟨hρ5, rfl⟩
  have e5 : ρ5 = [some (.ref 0), some (.ref 1), some (.tup [.int Pi, .int Ri]), some (.tup xs), some (.ref g), x5, x6, none, some F, some E, some (.int C), none, some M, some L] := by
    rw [hρ5, hρ4', hρ3, hρ1]; rfl
  clear hρ5 hρ4' hρ3 hρ1 hρ
  refine s_mid (Q := fun ρ G => ρ = ρ5 ∧ Grown G6 G) ?_ ?_
  · rw [s_ifs, w_bin]
    refine count_checks (i := 13) (ds := gd R 0 (List.replicate 20 ([(0, [1])] : Bt))) (by rw [e5, hL]; rfl) (by rw [e5]; rfl) (by decide) (by have := gd_len R (List.replicate 20 ([(0, [1])] : Bt)) 0; rw [List.length_replicate] at this; omega) ll3 fun G' gr => ?_
    rw [long_many R hR1 hR4, e5]
    simp only [s_pass, s_nil, s_cons, s_expr, s_set, s_par, s_setIx, s_setKey, s_augIx, s_aug, s_ifs, s_ret, s_retN, s_brk, s_cnt, s_never, w_k, w_v, w_un, w_bin, w_and, w_or, w_ite, w_chain, w_tup, wp_newL, w_lst, w_dic0, w_callD, w_sl, w_rev, w_call, w_bf, w_mt, w_nil, w_cons, w_no, w_some, Tg.bind, bindN, o_add, o_addT, o_sub, o_mul, o_fdiv, o_mod, o_pow, o_eq, o_ne, o_lt, o_le, o_gt, o_ge, o_isT, o_isI, o_isR, o_isN, o_eqB, o_neB, o_not, o_neg, o_lenT, o_int, o_isinI, o_isinT, o_isinB, o_isinI2, o_isinT2, t_ii, t_ib, t_is, t_it, t_il, t_tt, t_tl, t_ts, t_ti, t_tb, t_bb, t_bi, Cut.truthy, zb_bl, Bool.or_false, Bool.false_or, Bool.not_true, Bool.not_false, Bool.true_or, Bool.or_true, tb_dec, tb_some, tb_not, tb_true, tb_false, Cut.start, List.map, List.length, List.replicate, List.append_eq, List.cons_append, List.nil_append, List.getElem?_cons_zero, List.getElem?_cons_succ, List.set_cons_zero, List.set_cons_succ, Nat.reduceAdd, Nat.reduceSub, tyOf, if_true, if_false, Bool.false_eq_true, decide_true, decide_false, wp_ok, o_ixT i1]
    refine ⟨⟨by omega, Nat.lt_of_lt_of_le (log2_lt (k := 10) (by omega) (by decide)) (by decide)⟩, ?_⟩
    rw [hRi]
    simp only [decide_true, Bool.not_true, Bool.false_eq_true, if_false]
    exact ⟨trivial, gr⟩
  rintro ρ6 G7 ⟨rfl, gr7⟩
  have ll7 : G7.lim ≤ G7.cs.length := by have := gr7.lim; have := gr7.len; omega
  rw [e5]
  simp only [s_pass, s_nil, s_cons, s_expr, s_set, s_par, s_setIx, s_setKey, s_augIx, s_aug, s_ifs, s_ret, s_retN, s_brk, s_cnt, s_never, w_k, w_v, w_un, w_bin, w_and, w_or, w_ite, w_chain, w_tup, wp_newL, w_lst, w_dic0, w_callD, w_sl, w_rev, w_call, w_bf, w_mt, w_nil, w_cons, w_no, w_some, Tg.bind, bindN, o_add, o_addT, o_sub, o_mul, o_fdiv, o_mod, o_pow, o_eq, o_ne, o_lt, o_le, o_gt, o_ge, o_isT, o_isI, o_isR, o_isN, o_eqB, o_neB, o_not, o_neg, o_lenT, o_int, o_isinI, o_isinT, o_isinB, o_isinI2, o_isinT2, t_ii, t_ib, t_is, t_it, t_il, t_tt, t_tl, t_ts, t_ti, t_tb, t_bb, t_bi, Cut.truthy, zb_bl, Bool.or_false, Bool.false_or, Bool.not_true, Bool.not_false, Bool.true_or, Bool.or_true, tb_dec, tb_some, tb_not, tb_true, tb_false, Cut.start, List.map, List.length, List.replicate, List.append_eq, List.cons_append, List.nil_append, List.getElem?_cons_zero, List.getElem?_cons_succ, List.set_cons_zero, List.set_cons_succ, Nat.reduceAdd, Nat.reduceSub, tyOf, if_true, if_false, Bool.false_eq_true, decide_true, decide_false, wp_ok, d17, w_comp, i_one]
  rw [hE2, o_ixT i03]
  simp only [s_pass, s_nil, s_cons, s_expr, s_set, s_par, s_setIx, s_setKey, s_augIx, s_aug, s_ifs, s_ret, s_retN, s_brk, s_cnt, s_never, w_k, w_v, w_un, w_bin, w_and, w_or, w_ite, w_chain, w_tup, wp_newL, w_lst, w_dic0, w_callD, w_sl, w_rev, w_call, w_bf, w_mt, w_nil, w_cons, w_no, w_some, Tg.bind, bindN, o_add, o_addT, o_sub, o_mul, o_fdiv, o_mod, o_pow, o_eq, o_ne, o_lt, o_le, o_gt, o_ge, o_isT, o_isI, o_isR, o_isN, o_eqB, o_neB, o_not, o_neg, o_lenT, o_int, o_isinI, o_isinT, o_isinB, o_isinI2, o_isinT2, t_ii, t_ib, t_is, t_it, t_il, t_tt, t_tl, t_ts, t_ti, t_tb, t_bb, t_bi, Cut.truthy, zb_bl, Bool.or_false, Bool.false_or, Bool.not_true, Bool.not_false, Bool.true_or, Bool.or_true, tb_dec, tb_some, tb_not, tb_true, tb_false, Cut.start, List.map, List.length, List.replicate, List.append_eq, List.cons_append, List.nil_append, List.getElem?_cons_zero, List.getElem?_cons_succ, List.set_cons_zero, List.set_cons_succ, Nat.reduceAdd, Nat.reduceSub, tyOf, if_true, if_false, Bool.false_eq_true, decide_true, decide_false, wp_ok]
  rw [← hF]
  simp only [s_pass, s_nil, s_cons, s_expr, s_set, s_par, s_setIx, s_setKey, s_augIx, s_aug, s_ifs, s_ret, s_retN, s_brk, s_cnt, s_never, w_k, w_v, w_un, w_bin, w_and, w_or, w_ite, w_chain, w_tup, wp_newL, w_lst, w_dic0, w_callD, w_sl, w_rev, w_call, w_bf, w_mt, w_nil, w_cons, w_no, w_some, Tg.bind, bindN, o_add, o_addT, o_sub, o_mul, o_fdiv, o_mod, o_pow, o_eq, o_ne, o_lt, o_le, o_gt, o_ge, o_isT, o_isI, o_isR, o_isN, o_eqB, o_neB, o_not, o_neg, o_lenT, o_int, o_isinI, o_isinT, o_isinB, o_isinI2, o_isinT2, t_ii, t_ib, t_is, t_it, t_il, t_tt, t_tl, t_ts, t_ti, t_tb, t_bb, t_bi, Cut.truthy, zb_bl, Bool.or_false, Bool.false_or, Bool.not_true, Bool.not_false, Bool.true_or, Bool.or_true, tb_dec, tb_some, tb_not, tb_true, tb_false, Cut.start, List.map, List.length, List.replicate, List.append_eq, List.cons_append, List.nil_append, List.getElem?_cons_zero, List.getElem?_cons_succ, List.set_cons_zero, List.set_cons_succ, Nat.reduceAdd, Nat.reduceSub, tyOf, if_true, if_false, Bool.false_eq_true, decide_true, decide_false, wp_ok, srcOf]
  refine comp_g (c := .some (.bin .eq (.bin .ix (.v 11) (.k (.int 0))) (.k (.str [119, 114, 105, 116, 101])))) (m := (gd R 0 bs).length) (fun i => ddD ((gd R 0 bs).getD i none)) (fun i => [some (.ref 0), some (.ref 1), some (.tup [.int Pi, .int Ri]), some (.tup xs), some (.ref g), x5, x6, none, some (.tup ((gd R 0 bs).map ddD)), some (.tup [.int C, N, .tup ((gd R 0 bs).map ddD)]), some (.int C), some (ddD ((gd R 0 bs).getD i none)), some M, some L]) (fun i => if ((gd R 0 bs).getD i none).isSome then some (wOf ((gd R 0 bs).getD i none)) else none) ll7 (by omega) (fun j G' hj g => one_at (by rw [dd_at hj, List.getD_eq_getElem?_getD, List.getElem?_eq_getElem hj]; rfl)) (fun G' g => one_end (by rw [List.length_map]; exact Nat.le_refl _)) (fun j hj => rfl) (fun j G' hj gr => ?_) fun G' gr hx => ?_
  · show wp ((ev (Cut.run T 13) (.bin .eq (.bin .ix (.v 11) (.k (.int 0))) (.k (.str [119, 114, 105, 116, 101]))) _ G').bind _) _
    rw [wp_bind]
    cases hd : (gd R 0 bs).getD j none with
    | none =>
      simp only [s_pass, s_nil, s_cons, s_expr, s_set, s_par, s_setIx, s_setKey, s_augIx, s_aug, s_ifs, s_ret, s_retN, s_brk, s_cnt, s_never, w_k, w_v, w_un, w_bin, w_and, w_or, w_ite, w_chain, w_tup, wp_newL, w_lst, w_dic0, w_callD, w_sl, w_rev, w_call, w_bf, w_mt, w_nil, w_cons, w_no, w_some, Tg.bind, bindN, o_add, o_addT, o_sub, o_mul, o_fdiv, o_mod, o_pow, o_eq, o_ne, o_lt, o_le, o_gt, o_ge, o_isT, o_isI, o_isR, o_isN, o_eqB, o_neB, o_not, o_neg, o_lenT, o_int, o_isinI, o_isinT, o_isinB, o_isinI2, o_isinT2, t_ii, t_ib, t_is, t_it, t_il, t_tt, t_tl, t_ts, t_ti, t_tb, t_bb, t_bi, Cut.truthy, zb_bl, Bool.or_false, Bool.false_or, Bool.not_true, Bool.not_false, Bool.true_or, Bool.or_true, tb_dec, tb_some, tb_not, tb_true, tb_false, Cut.start, List.map, List.length, List.replicate, List.append_eq, List.cons_append, List.nil_append, List.getElem?_cons_zero, List.getElem?_cons_succ, List.set_cons_zero, List.set_cons_succ, Nat.reduceAdd, Nat.reduceSub, tyOf, if_true, if_false, Bool.false_eq_true, decide_true, decide_false, wp_ok, ddD, chk, o_ixT (show ixAt [D.str [99, 104, 101, 99, 107]] 0 = some (.str [99, 104, 101, 99, 107]) from rfl), o_eqP pl_chk pl_wr, show decide (D.str [99, 104, 101, 99, 107] = D.str [119, 114, 105, 116, 101]) = false by decide]
      exact ⟨trivial, rfl⟩
    | some b =>
      simp only [s_pass, s_nil, s_cons, s_expr, s_set, s_par, s_setIx, s_setKey, s_augIx, s_aug, s_ifs, s_ret, s_retN, s_brk, s_cnt, s_never, w_k, w_v, w_un, w_bin, w_and, w_or, w_ite, w_chain, w_tup, wp_newL, w_lst, w_dic0, w_callD, w_sl, w_rev, w_call, w_bf, w_mt, w_nil, w_cons, w_no, w_some, Tg.bind, bindN, o_add, o_addT, o_sub, o_mul, o_fdiv, o_mod, o_pow, o_eq, o_ne, o_lt, o_le, o_gt, o_ge, o_isT, o_isI, o_isR, o_isN, o_eqB, o_neB, o_not, o_neg, o_lenT, o_int, o_isinI, o_isinT, o_isinB, o_isinI2, o_isinT2, t_ii, t_ib, t_is, t_it, t_il, t_tt, t_tl, t_ts, t_ti, t_tb, t_bb, t_bi, Cut.truthy, zb_bl, Bool.or_false, Bool.false_or, Bool.not_true, Bool.not_false, Bool.true_or, Bool.or_true, tb_dec, tb_some, tb_not, tb_true, tb_false, Cut.start, List.map, List.length, List.replicate, List.append_eq, List.cons_append, List.nil_append, List.getElem?_cons_zero, List.getElem?_cons_succ, List.set_cons_zero, List.set_cons_succ, Nat.reduceAdd, Nat.reduceSub, tyOf, if_true, if_false, Bool.false_eq_true, decide_true, decide_false, wp_ok, ddD, o_ixT i0, o_ixT i1, o_eqP pl_wr pl_wr]
      exact ⟨trivial, rfl, .refl _⟩
  · have hx2 : (List.range (gd R 0 bs).length).filterMap (fun i => if ((gd R 0 bs).getD i none).isSome then some (wOf ((gd R 0 bs).getD i none)) else none) = bs.map btD := by
      rw [filter_map' (gd R 0 bs) Option.isSome wOf none]
      conv => rhs; rw [← hwr]
      generalize gd R 0 bs = ds
      induction ds with
      | nil => rfl
      | cons d ds ih =>
        cases d with
        | none => exact ih
        | some b => show btD b :: (ds.filter Option.isSome).map wOf = btD b :: (ds.filterMap id).map btD; rw [ih]
    rw [hx2] at hx
    show wp (lstD (.tup xs) G') _
    show wp (newL xs G') _
    rw [wp_newL]
    refine ⟨Nat.le_trans (show xs.length ≤ 100 by omega) (by decide), ?_⟩
    have hpl : Plains (bs.map btD) := ShL.plains (l := .many shBt) (has_bts bs) (by decide)
    rw [o_eqLs (lst_new_old hx) lst_new hpl (by rw [← hxs]; exact hpl), hxs]
    simp only [decide_true]
    exact hD _
theorem answers : Answers pg 14 17 63 := by
  intro s hlen hbits l hl
  have main : wp (run T 14 17 [.ref 0] ⟨l, [.lst (s.map .int)]⟩) fun d _ => d = .bl true := by
    have h0 : (⟨l, [.lst (s.map .int)]⟩ : Store).lst? 0 = some (s.map D.int) := rfl
    have hlim : (⟨l, [.lst (s.map .int)]⟩ : Store).lim ≤ 1 := hl
    have hlen0 : (⟨l, [.lst (s.map .int)]⟩ : Store).cs.length = 1 := rfl
    generalize (⟨l, [.lst (s.map .int)]⟩ : Store) = G0 at h0 hlim hlen0 ⊢
    refine run_wp (fd := d17.fd) rfl rfl ?_
    show wps (exs (Cut.run T 13) d17.body (some (.ref 0) :: List.replicate 13 none) G0) _
    refine s_mid (Q := fun ρ G => ρ = E0 none none none none none ∧ Rb 1 s G) ?_ ?_
    · simp only [s_pass, s_nil, s_cons, s_expr, s_set, s_par, s_setIx, s_setKey, s_augIx, s_aug, s_ifs, s_ret, s_retN, s_brk, s_cnt, s_never, w_k, w_v, w_un, w_bin, w_and, w_or, w_ite, w_chain, w_tup, wp_newL, w_lst, w_dic0, w_callD, w_sl, w_rev, w_call, w_bf, w_mt, w_nil, w_cons, w_no, w_some, Tg.bind, bindN, o_add, o_addT, o_sub, o_mul, o_fdiv, o_mod, o_pow, o_eq, o_ne, o_lt, o_le, o_gt, o_ge, o_isT, o_isI, o_isR, o_isN, o_eqB, o_neB, o_not, o_neg, o_lenT, o_int, o_isinI, o_isinT, o_isinB, o_isinI2, o_isinT2, t_ii, t_ib, t_is, t_it, t_il, t_tt, t_tl, t_ts, t_ti, t_tb, t_bb, t_bi, Cut.truthy, zb_bl, Bool.or_false, Bool.false_or, Bool.not_true, Bool.not_false, Bool.true_or, Bool.or_true, tb_dec, tb_some, tb_not, tb_true, tb_false, Cut.start, List.map, List.length, List.replicate, List.append_eq, List.cons_append, List.nil_append, List.getElem?_cons_zero, List.getElem?_cons_succ, List.set_cons_zero, List.set_cons_succ, Nat.reduceAdd, Nat.reduceSub, tyOf, if_true, if_false, Bool.false_eq_true, decide_true, decide_false, wp_ok, d17]
      refine ⟨by decide, by rw [hlen0], ?_⟩
      refine ⟨by decide, hlim, lst_new_old h0, 0, 9032, 0, ⟨by decide, by decide, by decide, by decide⟩, ?_⟩
      have := lst_new (G := G0) (xs := [.ref 0, .int 0, .int 9032, .int 0])
      rw [hlen0] at this; exact this
    rintro ρ G1 ⟨rfl, rb⟩
    refine s_mid (Q := fun ρ G => ∃ (P R : Nat) (Pi Ri : Int), Pi = P ∧ Ri = R ∧ (1 ≤ P ∧ P ≤ 4) ∧ (2 ≤ R ∧ R ≤ 5) ∧ ρ = E0 (some (.tup [.int Pi, .int Ri])) none none none none ∧ Rb 1 s G) ?_ ?_
    · simp only [s_pass, s_nil, s_cons, s_expr, s_set, s_par, s_setIx, s_setKey, s_augIx, s_aug, s_ifs, s_ret, s_retN, s_brk, s_cnt, s_never, w_k, w_v, w_un, w_bin, w_and, w_or, w_ite, w_chain, w_tup, wp_newL, w_lst, w_dic0, w_callD, w_sl, w_rev, w_call, w_bf, w_mt, w_nil, w_cons, w_no, w_some, Tg.bind, bindN, o_add, o_addT, o_sub, o_mul, o_fdiv, o_mod, o_pow, o_eq, o_ne, o_lt, o_le, o_gt, o_ge, o_isT, o_isI, o_isR, o_isN, o_eqB, o_neB, o_not, o_neg, o_lenT, o_int, o_isinI, o_isinT, o_isinB, o_isinI2, o_isinT2, t_ii, t_ib, t_is, t_it, t_il, t_tt, t_tl, t_ts, t_ti, t_tb, t_bb, t_bi, Cut.truthy, zb_bl, Bool.or_false, Bool.false_or, Bool.not_true, Bool.not_false, Bool.true_or, Bool.or_true, tb_dec, tb_some, tb_not, tb_true, tb_false, Cut.start, List.map, List.length, List.replicate, List.append_eq, List.cons_append, List.nil_append, List.getElem?_cons_zero, List.getElem?_cons_succ, List.set_cons_zero, List.set_cons_succ, Nat.reduceAdd, Nat.reduceSub, tyOf, if_true, if_false, Bool.false_eq_true, decide_true, decide_false, wp_ok, d17]
      refine taken' hT rb (by decide) (by decide) fun v1 G2 a1 a2 m2 => ?_
      simp only [s_pass, s_nil, s_cons, s_expr, s_set, s_par, s_setIx, s_setKey, s_augIx, s_aug, s_ifs, s_ret, s_retN, s_brk, s_cnt, s_never, w_k, w_v, w_un, w_bin, w_and, w_or, w_ite, w_chain, w_tup, wp_newL, w_lst, w_dic0, w_callD, w_sl, w_rev, w_call, w_bf, w_mt, w_nil, w_cons, w_no, w_some, Tg.bind, bindN, o_add, o_addT, o_sub, o_mul, o_fdiv, o_mod, o_pow, o_eq, o_ne, o_lt, o_le, o_gt, o_ge, o_isT, o_isI, o_isR, o_isN, o_eqB, o_neB, o_not, o_neg, o_lenT, o_int, o_isinI, o_isinT, o_isinB, o_isinI2, o_isinT2, t_ii, t_ib, t_is, t_it, t_il, t_tt, t_tl, t_ts, t_ti, t_tb, t_bb, t_bi, Cut.truthy, zb_bl, Bool.or_false, Bool.false_or, Bool.not_true, Bool.not_false, Bool.true_or, Bool.or_true, tb_dec, tb_some, tb_not, tb_true, tb_false, Cut.start, List.map, List.length, List.replicate, List.append_eq, List.cons_append, List.nil_append, List.getElem?_cons_zero, List.getElem?_cons_succ, List.set_cons_zero, List.set_cons_succ, Nat.reduceAdd, Nat.reduceSub, tyOf, if_true, if_false, Bool.false_eq_true, decide_true, decide_false, wp_ok]
      refine taken' hT m2.rb (by decide) (by decide) fun v2 G3 b1 b2 m3 => ?_
      simp only [s_pass, s_nil, s_cons, s_expr, s_set, s_par, s_setIx, s_setKey, s_augIx, s_aug, s_ifs, s_ret, s_retN, s_brk, s_cnt, s_never, w_k, w_v, w_un, w_bin, w_and, w_or, w_ite, w_chain, w_tup, wp_newL, w_lst, w_dic0, w_callD, w_sl, w_rev, w_call, w_bf, w_mt, w_nil, w_cons, w_no, w_some, Tg.bind, bindN, o_add, o_addT, o_sub, o_mul, o_fdiv, o_mod, o_pow, o_eq, o_ne, o_lt, o_le, o_gt, o_ge, o_isT, o_isI, o_isR, o_isN, o_eqB, o_neB, o_not, o_neg, o_lenT, o_int, o_isinI, o_isinT, o_isinB, o_isinI2, o_isinT2, t_ii, t_ib, t_is, t_it, t_il, t_tt, t_tl, t_ts, t_ti, t_tb, t_bb, t_bi, Cut.truthy, zb_bl, Bool.or_false, Bool.false_or, Bool.not_true, Bool.not_false, Bool.true_or, Bool.or_true, tb_dec, tb_some, tb_not, tb_true, tb_false, Cut.start, List.map, List.length, List.replicate, List.append_eq, List.cons_append, List.nil_append, List.getElem?_cons_zero, List.getElem?_cons_succ, List.set_cons_zero, List.set_cons_succ, Nat.reduceAdd, Nat.reduceSub, tyOf, if_true, if_false, Bool.false_eq_true, decide_true, decide_false, wp_ok]
      exact ⟨by decide, (1 + v1).toNat, (2 + v2).toNat, 1 + v1, 2 + v2, by omega, by omega, ⟨by omega, by omega⟩, ⟨by omega, by omega⟩, rfl, m3.rb⟩
    rintro ρ G2 ⟨P, R, Pi, Ri, hPi, hRi, ⟨hP1, hP4⟩, ⟨hR1, hR4⟩, rfl, rb2⟩
    refine s_mid (Q := fun ρ G => ∃ (bs : List Bt) (xs : List D) (g : Nat), bs.map btD = xs ∧ bs.length ≤ 6 ∧ (∀ b ∈ bs, BtOk P R 3 b) ∧ ρ = E0 (some (.tup [.int Pi, .int Ri])) (some (.tup xs)) (some (.ref g)) none none ∧ G.lim ≤ g ∧ G.lst? g = some []) ?_ ?_
    · simp only [s_pass, s_nil, s_cons, s_expr, s_set, s_par, s_setIx, s_setKey, s_augIx, s_aug, s_ifs, s_ret, s_retN, s_brk, s_cnt, s_never, w_k, w_v, w_un, w_bin, w_and, w_or, w_ite, w_chain, w_tup, wp_newL, w_lst, w_dic0, w_callD, w_sl, w_rev, w_call, w_bf, w_mt, w_nil, w_cons, w_no, w_some, Tg.bind, bindN, o_add, o_addT, o_sub, o_mul, o_fdiv, o_mod, o_pow, o_eq, o_ne, o_lt, o_le, o_gt, o_ge, o_isT, o_isI, o_isR, o_isN, o_eqB, o_neB, o_not, o_neg, o_lenT, o_int, o_isinI, o_isinT, o_isinB, o_isinI2, o_isinT2, t_ii, t_ib, t_is, t_it, t_il, t_tt, t_tl, t_ts, t_ti, t_tb, t_bb, t_bi, Cut.truthy, zb_bl, Bool.or_false, Bool.false_or, Bool.not_true, Bool.not_false, Bool.true_or, Bool.or_true, tb_dec, tb_some, tb_not, tb_true, tb_false, Cut.start, List.map, List.length, List.replicate, List.append_eq, List.cons_append, List.nil_append, List.getElem?_cons_zero, List.getElem?_cons_succ, List.set_cons_zero, List.set_cons_succ, Nat.reduceAdd, Nat.reduceSub, tyOf, if_true, if_false, Bool.false_eq_true, decide_true, decide_false, wp_ok, d17]
      refine batches (k := 8) (P := P) (R := R) (M := 6) rfl hPi hRi hP1 (by omega) hR1 (by decide) rb2 fun bs G4 hn hbs m4 => ?_
      exact ⟨by decide, bs, _, _, rfl, hn, hbs, rfl, m4.rb.ll, lst_new⟩
    intro ρ G3 hQ3
    obtain ⟨bs, xs, g, hxs, hn, hbs, hρ, hg, hgl⟩ := hQ3
    have hxl : xs.length = bs.length := by rw [← hxs, List.length_map]
    refine part2 hPi hRi hP1 hP4 hR1 hR4 hxs hxl hn hbs hρ hg hgl ?_
    intro G
    exact gc_bl
  obtain ⟨d, G', e, hd⟩ := wp_iff.mp main
  exact ⟨G', by rw [e, hd]⟩
end K32
namespace K32
open PySem PySem.Spec PyProof.Rows L2 Cut
abbrev R : PySem.W.OpenRow := PySem.W.OpenLaw.row PySem.Challenge.rw_cutledger_k32_whole_fewest_checks
abbrev hk : PySem.W.Hook := Cut.hook 4 pg
def ob (s : PySem.W.SharedT) : He.AlX := He.obsX 4 pg.facts pg.defs [] pg.tabs pg.ex (HandSHeadRun.getT s)
theorem ob_eq (s : PySem.W.SharedT) : ob s = hk.obs s.abs := He.obsX_eq (HandSHeadRun.getT_eq s)
def loose : List PySem.Str := (["CutError", "BadShape", "RingFull", "BadBatches", "is_number", "are_bytes", "CONTENT", "MOST_PAGES", "MOST_RING", "need_shape", "is_page", "wrong_pair", "is_batch", "MOST_BATCHES", "CHECK", "need_batches"] : List PySem.Str) ++ (["fewest_checks", "_law_taken", "_law_pick", "_law_page", "_law_batch", "_law_batches", "_law_ways", "_law_with_checks", "_law_fits", "_law_alike"] : List PySem.Str)
theorem run (w : World) : HandSHeadRun.RunEq R (PySem.W.view R.prog [31]) hk ob 8000 loose w := by
  intro os
  kernel_rfl
end K32
open PySem PySem.W PySem.Calls PyProof.Rows
theorem PySem.Challenge.cw_cutledger_k32_whole_fewest_checks_holds : PySem.Challenge.rw_cutledger_k32_whole_fewest_checks.Holds := by
  w_on; o_law
  refine HandSHeadRun.head_any (r := OpenLaw.row PySem.Challenge.rw_cutledger_k32_whole_fewest_checks) (q := view (OpenLaw.row PySem.Challenge.rw_cutledger_k32_whole_fewest_checks).prog [31]) (H := K32.hk) (ob := K32.ob) (M := 8000) (loose := K32.loose) (d := HandSHeadRun.topDef (OpenLaw.row PySem.Challenge.rw_cutledger_k32_whole_fewest_checks).prog 31) (kwd := []) K32.ob_eq
    (by kernel_rfl) (fun s => by kernel_rfl) K32.run (by kernel_rfl) (by kernel_rfl) (by kernel_rfl) (by rfl) (by first | assumption | decide +kernel) (by decide +kernel) ⟨rfl, rfl, rfl, rfl, rfl, by decide +kernel⟩ ?hw ?hc
  case hw => w_witness2
  case hc =>
    refine LamX.walk_ofTsE (l := PySem.Challenge.rw_cutledger_k32_whole_fewest_checks) (n := 63) (k := 2 * 14 + 4) (x := "_law_script") (CX := fun w => L2.CX (PySem.Challenge.rw_cutledger_k32_whole_fewest_checks).prog w) rfl (by decide) (by kernel_rfl) ⟨rfl, by decide, by decide⟩ ?F (fun _ _ _ _ _ ⟨_, _, _, _, _, _, _, _, _, _, _, _, z⟩ => z.elim)
    intro w mg fa h Y G hmg0
    obtain ⟨K, KX, c⟩ := Y
    have hmg : mg ("law" : PySem.Str) = some (.ref fa) := by
      have e : (HandSHeadRun.topDef (OpenLaw.row PySem.Challenge.rw_cutledger_k32_whole_fewest_checks).prog 31).name = ("law" : PySem.Str) := by kernel_rfl
      rw [← e]
      exact hmg0
    exact ⟨K, KX, Cut.law_at (p := K32.pg) (k := 14) (nl := 17) (most := 63) (dl := K32.d17) KX G c hmg rfl rfl K32.pc rfl K32.answers⟩
