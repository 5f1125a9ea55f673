import PyProof.Rows.All
import Wide.All
import OpenK.AllK
import Wide.FinOn
import HandS.ForMost
import HandS.TupAny
import HandS.TupMul
import HandS.Style
import HandS.Wide
import HandS.Flow
import HandS.Deep
import HandS.CallSlots
import HandS.ExcOwn
import HandS.WordsExc
import HandS.AnyAll
import HandS.IsInst
import HandS.Text
import HandS.Strs
import HandS.More
import HandS.Replace
import PyProof.AutoSeq1
import HandS.Iter
import HandS.Zip
import HandS.Small
import HandS.GenList
import HandS.SortInts
import HandS.Defaults
import HandS.Head0
import HandS.Head1
import HandS.Head2
import HandS.HeadEnd
import HandS.HeadHook1
import HandS.HeadHook2
import HandS.HeadHook3
import HandS.HeadHook4
import HandS.HeadWalk
import PySem.Challenge.RW_cutledger_k05_whole_checks
set_option Elab.async false
set_option linter.all false
set_option maxRecDepth 100000
set_option maxHeartbeats 0
/-! A clean evaluator of a part of Python: values without addresses, a store of lists. -/
namespace Cut
open PySem

inductive Ty where
  | int | bool | str | tuple | list | dict | none
  deriving DecidableEq, Inhabited
def Ty.name : Ty → String
  | .int => "int" | .bool => "bool" | .str => "str" | .tuple => "tuple" | .list => "list" | .dict => "dict" | .none => "NoneType"
inductive D where
  | non | bl (b : Bool) | int (i : Int) | str (s : List Nat) | tup (xs : List D) | ref (n : Nat) | ty (t : Ty)
  deriving Inhabited

mutual
def D.deq : (a b : D) → Decidable (a = b)
  | .non, .non => Decidable.isTrue rfl
  | .bl a, .bl b => if h : a = b then Decidable.isTrue (by rw [h]) else Decidable.isFalse fun q => h (D.bl.inj q)
  | .int a, .int b => if h : a = b then Decidable.isTrue (by rw [h]) else Decidable.isFalse fun q => h (D.int.inj q)
  | .str a, .str b => if h : a = b then Decidable.isTrue (by rw [h]) else Decidable.isFalse fun q => h (D.str.inj q)
  | .tup a, .tup b => match D.deqs a b with
    | Decidable.isTrue h => Decidable.isTrue (by rw [h])
    | Decidable.isFalse h => Decidable.isFalse fun q => h (D.tup.inj q)
  | .ref a, .ref b => if h : a = b then Decidable.isTrue (by rw [h]) else Decidable.isFalse fun q => h (D.ref.inj q)
  | .ty a, .ty b => if h : a = b then Decidable.isTrue (by rw [h]) else Decidable.isFalse fun q => h (D.ty.inj q)
  | .non, .bl _ | .non, .int _ | .non, .str _ | .non, .tup _ | .non, .ref _ | .non, .ty _ => Decidable.isFalse fun q => nomatch q
  | .bl _, .non | .bl _, .int _ | .bl _, .str _ | .bl _, .tup _ | .bl _, .ref _ | .bl _, .ty _ => Decidable.isFalse fun q => nomatch q
  | .int _, .non | .int _, .bl _ | .int _, .str _ | .int _, .tup _ | .int _, .ref _ | .int _, .ty _ => Decidable.isFalse fun q => nomatch q
  | .str _, .non | .str _, .bl _ | .str _, .int _ | .str _, .tup _ | .str _, .ref _ | .str _, .ty _ => Decidable.isFalse fun q => nomatch q
  | .tup _, .non | .tup _, .bl _ | .tup _, .int _ | .tup _, .str _ | .tup _, .ref _ | .tup _, .ty _ => Decidable.isFalse fun q => nomatch q
  | .ref _, .non | .ref _, .bl _ | .ref _, .int _ | .ref _, .str _ | .ref _, .tup _ | .ref _, .ty _ => Decidable.isFalse fun q => nomatch q
  | .ty _, .non | .ty _, .bl _ | .ty _, .int _ | .ty _, .str _ | .ty _, .tup _ | .ty _, .ref _ => Decidable.isFalse fun q => nomatch q
def D.deqs : (a b : List D) → Decidable (a = b)
  | [], [] => Decidable.isTrue rfl
  | [], _ :: _ => Decidable.isFalse fun q => nomatch q
  | _ :: _, [] => Decidable.isFalse fun q => nomatch q
  | x :: xs, y :: ys => match D.deq x y, D.deqs xs ys with
    | Decidable.isTrue h, Decidable.isTrue k => Decidable.isTrue (by rw [h, k])
    | Decidable.isFalse h, _ => Decidable.isFalse fun q => h (List.cons.inj q).1
    | _, Decidable.isFalse k => Decidable.isFalse fun q => k (List.cons.inj q).2
end
instance : DecidableEq D := D.deq

inductive Cell where
  | lst (xs : List D)
  | dic (kvs : List (L2.Key × D))
  | ins (c : Nat) (fs : List (Nat × D))
  deriving Inhabited, DecidableEq

structure Store where
  lim : Nat
  cs : List Cell

inductive R (α : Type) where
  | ok (a : α) (G : Store)
  | exc (c : Nat) (fs : List D) (G : Store)
  | stuck

def R.bind {α β : Type} (r : R α) (f : α → Store → R β) : R β := match r with
  | .ok a G => f a G
  | .exc c fs G => .exc c fs G
  | .stuck => .stuck

abbrev Env := List (Option D)

def Store.lst? (G : Store) (n : Nat) : Option (List D) := match G.cs[n]? with
  | some (.lst xs) => some xs
  | _ => none
def Store.dic? (G : Store) (n : Nat) : Option (List (L2.Key × D)) := match G.cs[n]? with
  | some (.dic kvs) => some kvs
  | _ => none
def keyD : D → Option L2.Key
  | .int i => some (.inl i)
  | .str s => some (.inr ⟨s.toArray⟩)
  | _ => none
def keyV : L2.Key → D
  | .inl i => .int i
  | .inr x => .str x.cps.toList
def putD (kvs : List (L2.Key × D)) (k : L2.Key) (d : D) : List (L2.Key × D) :=
  if (kvs.any fun kv => decide (kv.1 = k)) = true then kvs.map (fun kv => if kv.1 = k then (kv.1, d) else kv) else kvs ++ [(k, d)]
def Store.put (G : Store) (n : Nat) (c : Cell) : Store := { G with cs := G.cs.set n c }
def Store.new (G : Store) (c : Cell) : Store := { G with cs := G.cs ++ [c] }

/-! ### data for == -/
mutual
def pyW (r : Nat → Option PyData) : D → Option PyData
  | .non => some .none
  | .bl b => some (.bool b)
  | .int i => some (.int i)
  | .str s => some (.str ⟨s.toArray⟩)
  | .tup xs => (pyWs r xs).map .tuple
  | .ref n => r n
  | .ty _ => none
def pyWs (r : Nat → Option PyData) : List D → Option (List PyData)
  | [] => some []
  | x :: xs => match pyW r x, pyWs r xs with
    | some d, some ds => some (d :: ds)
    | _, _ => none
end
def pyD : Nat → Store → D → Option PyData
  | 0, _ => pyW fun _ => none
  | n + 1, G => pyW fun k => match G.lst? k with
    | some xs => (pyWs (fun j => pyD n G (.ref j)) xs).map .list
    | none => none
def eqD (G : Store) (a b : D) : Option Bool := match pyD 8 G a, pyD 8 G b with
  | some x, some y => if SeqAt.shaped x && SeqAt.shaped y then some (PyData.eqv x y) else none
  | _, _ => none

/-! ### operators -/
inductive Op2 where
  | add | sub | mul | fdiv | mod | pow | xor | eq | ne | lt | le | gt | ge | is | isnot | in_ | notin | ix
  deriving DecidableEq

def truthy (d : D) (G : Store) : Option Bool := match d with
  | .non => some false
  | .bl b => some b
  | .int i => some (i != 0)
  | .str s => if s.length ≤ sizeLine then some (!s.isEmpty) else none
  | .tup xs => some (!xs.isEmpty)
  | .ref n => (G.lst? n).map fun xs => !xs.isEmpty
  | .ty _ => none

def okB (b : Bool) (G : Store) : R D := .ok (.bl b) G
def okO (o : Option Bool) (G : Store) : R D := match o with
  | some b => .ok (.bl b) G
  | none => .stuck
def okD (o : Option D) (G : Store) : R D := match o with
  | some d => .ok d G
  | none => .stuck
def newL (xs : List D) (G : Store) : R D := if xs.length ≤ sizeLine then .ok (.ref G.cs.length) (G.new (.lst xs)) else .stuck
def flatD : D → Bool
  | .non | .bl _ | .int _ | .str _ => true
  | _ => false
/-- == of flat values -/
def eqF : D → D → Bool
  | .non, .non => true
  | .bl a, .bl b => a == b
  | .bl a, .int b => (if a then 1 else 0) == b
  | .int a, .bl b => a == (if b then 1 else 0)
  | .int a, .int b => a == b
  | .str a, .str b => a == b
  | _, _ => false
def items (d : D) (G : Store) : Option (List D) := match d with
  | .tup xs => some xs
  | .ref n => G.lst? n
  | _ => none
def inD (G : Store) (x y : D) : Option Bool := match x, y with
  | .str [c], .str s => some (decide (c ∈ s))
  | x, y => match items y G with
    | some xs => if flatD x && xs.all flatD then some (xs.any fun y => eqF y x) else none
    | none => none
def ixAt {α : Type} (xs : List α) (i : Int) : Option α := L2.atI xs i
def intsD : List D → Option (List Int)
  | [] => some []
  | .int i :: r => (intsD r).map (i :: ·)
  | _ => none

def op2 (o : Op2) (a b : D) (G : Store) : R D := match o with
  | .add => (match a, b with
    | .int i, .int j => .ok (.int (i + j)) G
    | .str x, .str y => if x.length + y.length ≤ sizeLine then .ok (.str (x ++ y)) G else .stuck
    | .tup xs, .tup ys => if xs.length + ys.length ≤ sizeLine then .ok (.tup (xs ++ ys)) G else .stuck
    | .ref m, .ref n => (match G.lst? m, G.lst? n with
      | some xs, some ys => if G.lim ≤ m ∧ G.lim ≤ n then newL (xs ++ ys) G else .stuck
      | _, _ => .stuck)
    | _, _ => .stuck)
  | .sub => (match a, b with
    | .int i, .int j => .ok (.int (i - j)) G
    | _, _ => .stuck)
  | .mul => (match a, b with
    | .int i, .int j => if i.natAbs.log2 + j.natAbs.log2 < 1000000 then .ok (.int (i * j)) G else .stuck
    | .tup xs, .int k => if xs ≠ [] ∧ 2 ≤ k ∧ k ≤ 1000 ∧ xs.length ≤ 1000 then .ok (.tup (List.replicate k.toNat xs).flatten) G else .stuck
    | .str s, .int k => if 0 ≤ k ∧ k ≤ 1000000 ∧ s.length ≤ 1000 ∧ s.length * k.toNat ≤ 1000000 then .ok (.str (List.replicate k.toNat s).flatten) G else .stuck
    | .ref m, .int k => (match G.lst? m with
      | some xs => if G.lim ≤ m ∧ -(2 ^ 63) ≤ k ∧ k < 2 ^ 63 ∧ xs.length * k.toNat ≤ sizeLine then newL (List.replicate k.toNat xs).flatten G else .stuck
      | none => .stuck)
    | _, _ => .stuck)
  | .fdiv => (match a, b with
    | .int i, .int j => if 0 < j ∧ j.natAbs.log2 < 9000 then .ok (.int (i / j)) G else .stuck
    | _, _ => .stuck)
  | .mod => (match a, b with
    | .int i, .int j => if 0 < j then .ok (.int (i % j)) G else .stuck
    | _, _ => .stuck)
  | .pow => (match a, b with
    | .int i, .int j => if 0 ≤ j ∧ j ≤ 1000000 ∧ i.natAbs < 2 ^ 64 then .ok (.int (i ^ j.toNat)) G else .stuck
    | _, _ => .stuck)
  | .xor => (match a, b with
    | .int i, .int j => .ok (.int (Spec.bitXor i j)) G
    | _, _ => .stuck)
  | .eq => okO (eqD G a b) G
  | .ne => okO ((eqD G a b).map (!·)) G
  | .lt => (match a, b with
    | .int i, .int j => .ok (.bl (decide (i < j))) G
    | _, _ => .stuck)
  | .le => (match a, b with
    | .int i, .int j => .ok (.bl (decide (i ≤ j))) G
    | _, _ => .stuck)
  | .gt => (match a, b with
    | .int i, .int j => .ok (.bl (decide (j < i))) G
    | _, _ => .stuck)
  | .ge => (match a, b with
    | .int i, .int j => .ok (.bl (decide (j ≤ i))) G
    | _, _ => .stuck)
  | .is => (match a, b with
    | .non, .non => .ok (.bl true) G
    | _, .non => .ok (.bl false) G
    | .bl x, .bl y => .ok (.bl (decide (x = y))) G
    | _, _ => .stuck)
  | .isnot => (match a, b with
    | .non, .non => .ok (.bl false) G
    | _, .non => .ok (.bl true) G
    | .bl x, .bl y => .ok (.bl (!decide (x = y))) G
    | _, _ => .stuck)
  | .in_ => okO (inD G a b) G
  | .notin => okO ((inD G a b).map (!·)) G
  | .ix => (match a, b with
    | .tup xs, .int i => okD (ixAt xs i) G
    | .str s, .int i => if s.length ≤ sizeLine then okD ((ixAt s i).map fun c => .str [c]) G else .stuck
    | .ref n, .int i => (match G.lst? n with
      | some xs => okD (ixAt xs i) G
      | none => .stuck)
    | _, _ => .stuck)

inductive Op1 where
  | not | neg
  deriving DecidableEq
def op1 (o : Op1) (a : D) (G : Store) : R D := match o with
  | .not => (match truthy a G with
    | some b => .ok (.bl (!b)) G
    | none => .stuck)
  | .neg => (match a with
    | .int i => .ok (.int (-i)) G
    | _ => .stuck)

/-- a[lo:hi] -/
def cutD {α : Type} (xs : List α) (lo hi : Option Int) : List α := (xs.drop (HT.sIx xs.length 0 lo)).take (HT.sIx xs.length xs.length hi - HT.sIx xs.length 0 lo)
def opSl (a : D) (lo hi : Option Int) (G : Store) : R D := match a with
  | .tup xs => .ok (.tup (cutD xs lo hi)) G
  | .str s => if s.length ≤ sizeLine then .ok (.str (cutD s lo hi)) G else .stuck
  | .ref n => (match G.lst? n with
    | some xs => newL (cutD xs lo hi) G
    | none => .stuck)
  | _ => .stuck
/-- a[::-1] of a list -/
def opRev (a : D) (G : Store) : R D := match a with
  | .ref n => (match G.lst? n with
    | some xs => newL xs.reverse G
    | none => .stuck)
  | _ => .stuck

/-! ### built-ins -/
def tyOf (d : D) (G : Store) : Option Ty := match d with
  | .non => some .none
  | .bl _ => some .bool
  | .int _ => some .int
  | .str _ => some .str
  | .tup _ => some .tuple
  | .ref n => (G.lst? n).map fun _ => .list
  | .ty _ => none
def isTy (a b : Ty) : Bool := a == b || (a == .bool && b == .int)
def isTys (a : Ty) : List D → Option Bool
  | [] => some false
  | .ty b :: r => (isTys a r).map fun x => isTy a b || x
  | _ => none
inductive Bf where
  | len | int | tuple | list | min | max | isin | any | sorted | sum | minL | maxL
  deriving DecidableEq
def b0 (g : Store → R D) (xs : List D) (G : Store) : R D := match xs with
  | [] => g G
  | _ => .stuck
def b1 (g : D → Store → R D) (xs : List D) (G : Store) : R D := match xs with
  | [d] => g d G
  | _ => .stuck
def b2 (g : D → D → Store → R D) (xs : List D) (G : Store) : R D := match xs with
  | [d, e] => g d e G
  | _ => .stuck
def lenD (d : D) (G : Store) : R D := match d with
  | .tup xs => .ok (.int xs.length) G
  | .str s => if s.length ≤ sizeLine then .ok (.int s.length) G else .stuck
  | .ref n => (match G.lst? n with
    | some xs => .ok (.int xs.length) G
    | none => .stuck)
  | _ => .stuck
def intD (d : D) (G : Store) : R D := match d with
  | .int i => .ok (.int i) G
  | .bl b => .ok (.int (if b then 1 else 0)) G
  | _ => .stuck
def tupD (d : D) (G : Store) : R D := match d with
  | .tup xs => .ok (.tup xs) G
  | .ref n => (match G.lst? n with
    | some xs => .ok (.tup xs) G
    | none => .stuck)
  | _ => .stuck
def lstD (d : D) (G : Store) : R D := match d with
  | .tup xs => newL xs G
  | .ref n => (match G.lst? n with
    | some xs => newL xs G
    | none => (match G.dic? n with
      | some kvs => newL (kvs.map fun kv => keyV kv.1) G
      | none => .stuck))
  | _ => .stuck
def isinD (d e : D) (G : Store) : R D := match e with
  | .ty b => okO ((tyOf d G).map fun a => isTy a b) G
  | .tup ts => (match tyOf d G with
    | some a => okO (isTys a ts) G
    | none => .stuck)
  | _ => .stuck
def minD (d e : D) (G : Store) : R D := match d, e with
  | .int i, .int j => .ok (.int (if j < i then j else i)) G
  | _, _ => .stuck
def maxD (d e : D) (G : Store) : R D := match d, e with
  | .int i, .int j => .ok (.int (if j > i then j else i)) G
  | _, _ => .stuck
def anyD (d : D) (G : Store) : R D := match items d G with
  | some xs => (match intsD xs with
    | some ns => .ok (.bl (ns.any fun i => i != 0)) G
    | none => .stuck)
  | none => .stuck
def sortI (ns : List Int) : List Int := ns.mergeSort fun a b => decide (a ≤ b)
def lstI (d : D) (G : Store) : Option (List Int) := match d with
  | .ref n => (G.lst? n).bind intsD
  | _ => none
def sortedD (d : D) (G : Store) : R D := match lstI d G with
  | some ns => newL ((sortI ns).map .int) G
  | none => .stuck
def sumD (d : D) (G : Store) : R D := match lstI d G with
  | some ns => .ok (.int ns.sum) G
  | none => .stuck
def leastI : List Int → Int
  | [] => 0
  | [i] => i
  | i :: j :: r => if i ≤ leastI (j :: r) then i else leastI (j :: r)
def mostI : List Int → Int
  | [] => 0
  | [i] => i
  | i :: j :: r => if mostI (j :: r) ≤ i then i else mostI (j :: r)
def minLD (d : D) (G : Store) : R D := match lstI d G with
  | some ns => if ns = [] then .stuck else .ok (.int (leastI ns)) G
  | none => .stuck
def maxLD (d : D) (G : Store) : R D := match lstI d G with
  | some ns => if ns = [] then .stuck else .ok (.int (mostI ns)) G
  | none => .stuck
def bf (f : Bf) : List D → Store → R D := match f with
  | .len => b1 lenD
  | .int => b1 intD
  | .tuple => b1 tupD
  | .list => b1 lstD
  | .isin => b2 isinD
  | .min => b2 minD
  | .max => b2 maxD
  | .any => b1 anyD
  | .sorted => b1 sortedD
  | .sum => b1 sumD
  | .minL => b1 minLD
  | .maxL => b1 maxLD

inductive Mt where
  | append | extend | indexL | indexS | indexT | pop | join | upper
  deriving DecidableEq
def strsD : List D → Option (List (List Nat))
  | [] => some []
  | .str s :: r => (strsD r).map (s :: ·)
  | _ => none
def joinS (sep : List Nat) : List (List Nat) → List Nat
  | [] => []
  | [x] => x
  | x :: y :: r => x ++ sep ++ joinS sep (y :: r)
def appendD (o d : D) (G : Store) : R D := match o with
  | .ref n => (match G.lst? n with
    | some ys => if G.lim ≤ n ∧ ys.length < sizeLine then .ok .non (G.put n (.lst (ys ++ [d]))) else .stuck
    | none => .stuck)
  | _ => .stuck
def ownItems (d : D) (G : Store) : Option (List D) := match d with
  | .tup xs => some xs
  | .ref n => if G.lim ≤ n then G.lst? n else none
  | _ => none
def extendD (o d : D) (G : Store) : R D := match o with
  | .ref n => (match G.lst? n, ownItems d G with
    | some ys, some zs => if G.lim ≤ n ∧ ys.length + zs.length ≤ sizeLine then .ok .non (G.put n (.lst (ys ++ zs))) else .stuck
    | _, _ => .stuck)
  | _ => .stuck
def popD (o : D) (G : Store) : R D := match o with
  | .ref n => (match G.lst? n with
    | some ys => (match ys[ys.length - 1]? with
      | some d => if G.lim ≤ n then .ok d (G.put n (.lst ys.dropLast)) else .stuck
      | none => .stuck)
    | none => .stuck)
  | _ => .stuck
def indexSD (o d : D) (G : Store) : R D := match o, d with
  | .str s, .str [c] => (match Builtin.Str.occurrences ⟨s.toArray⟩ ⟨#[c]⟩ 0 s.length 1 with
    | i :: _ => .ok (.int (i : Int)) G
    | [] => .stuck)
  | _, _ => .stuck
def indexLD (o y : D) (G : Store) : R D := match o with
  | .ref n => (match G.lst? n with
    | some ys => if flatD y && ys.all flatD then okD ((ys.findIdx? fun z => eqF z y).map fun (i : Nat) => D.int (i : Int)) G else .stuck
    | none => .stuck)
  | _ => .stuck
def indexTD (o y : D) (G : Store) : R D := match o, y with
  | .tup ys, .str z => (match strsD ys with
    | some ss => okD ((ss.findIdx? (· == z)).map fun (i : Nat) => D.int (i : Int)) G
    | none => .stuck)
  | _, _ => .stuck
def joinD (o d : D) (G : Store) : R D := match o with
  | .str sep => (match items d G with
    | some ys => (match strsD ys with
      | some ss => if (ss.map List.length).sum + ss.length * sep.length ≤ 16777216 then .ok (.str (joinS sep ss)) G else .stuck
      | none => .stuck)
    | none => .stuck)
  | _ => .stuck
def upperD (o : D) (G : Store) : R D := match o with
  | .str s => if s.length ≤ 5592405 then .ok (.str (Txt.upper ⟨s.toArray⟩).cps.toList) G else .stuck
  | _ => .stuck
def mt (m : Mt) (o : D) : List D → Store → R D := match m with
  | .append => b1 (appendD o)
  | .extend => b1 (extendD o)
  | .pop => b0 (popD o)
  | .indexS => b1 (indexSD o)
  | .indexL => b1 (indexLD o)
  | .indexT => b1 (indexTD o)
  | .join => b1 (joinD o)
  | .upper => b0 (upperD o)

/-! ### what is walked -/
inductive Src where
  | fix (ds : List D)
  | cell (n : Nat)
inductive Itv where
  | one (s : Src)
  | enum (s : Src)
  | zip (s t : Src)
  | rng (lo : Int) (n : Nat)
def Src.at (s : Src) (i : Nat) (G : Store) : Option (Option D) := match s with
  | .fix ds => some ds[i]?
  | .cell n => (G.lst? n).map fun xs => xs[i]?
/-- the i-th item: none: stuck, some none: it ends -/
def Itv.at (v : Itv) (i : Nat) (G : Store) : Option (Option D) := match v with
  | .one s => s.at i G
  | .enum s => (s.at i G).map fun o => o.map fun d => .tup [.int i, d]
  | .zip s t => match s.at i G, t.at i G with
    | some (some a), some (some b) => some (some (.tup [a, b]))
    | some _, some _ => some none
    | _, _ => none
  | .rng lo n => some (if i < n then some (.int (lo + i)) else none)
def srcOf (d : D) (G : Store) : Option Src := match d with
  | .tup xs => some (.fix xs)
  | .str s => if s.length ≤ sizeLine then some (.fix (s.map fun c => .str [c])) else none
  | .ref n => (G.lst? n).map fun _ => .cell n
  | _ => none

/-! ### targets -/
inductive Tg where
  | v (i : Nat)
  | tup (ts : List Nat)
def bindN : List Nat → List D → Env → Option Env
  | [], [], ρ => some ρ
  | i :: is, d :: ds, ρ => bindN is ds (ρ.set i (some d))
  | _, _, _ => none
def Tg.bind (t : Tg) (d : D) (ρ : Env) : Option Env := match t with
  | .v i => some (ρ.set i (some d))
  | .tup is => match d with
    | .tup ds => bindN is ds ρ
    | _ => none
def wipeE (ρ : Env) : List Nat → Env
  | [] => ρ
  | v :: vs => (wipeE ρ vs).set v none

/-! ### the text -/
mutual
inductive Ex where
  | k (d : D)
  | v (i : Nat)
  | un (o : Op1) (a : Ex)
  | bin (o : Op2) (a b : Ex)
  | and (a b : Ex)
  | or (a b : Ex)
  | ite (c a b : Ex)
  | chain (o p : Op2) (a b c : Ex)
  | tup (es : Exs)
  | lst (es : Exs)
  | dic0
  | sl (a : Ex) (lo hi : Exo)
  | rev (a : Ex)
  | call (f : Nat) (es : Exs)
  | callD (f : Nat) (es : Exs) (ds : List Int)
  | bf (f : Bf) (es : Exs)
  | mt (m : Mt) (o : Ex) (es : Exs)
  | comp (t : Tg) (it : It) (c : Exo) (e : Ex) (own : List Nat)
  | gen (all : Bool) (t : Tg) (it : It) (e : Ex) (own : List Nat)
inductive Exs where
  | nil
  | cons (e : Ex) (es : Exs)
inductive Exo where
  | none
  | some (e : Ex)
inductive It where
  | one (e : Ex)
  | enum (e : Ex)
  | zip (e f : Ex)
  | rng1 (e : Ex)
  | rng2 (e f : Ex)
end
mutual
inductive Sm where
  | pass
  | expr (e : Ex)
  | set (t : Tg) (e : Ex)
  | par (is : List Nat) (es : Exs)
  | setIx (a i e : Ex)
  | setKey (a i e : Ex)
  | aug (i : Nat) (o : Op2) (e : Ex)
  | augIx (a i : Ex) (o : Op2) (e : Ex)
  | ifs (c : Ex) (a b : Sms)
  | whil (c : Ex) (a : Sms)
  | for_ (t : Tg) (it : It) (a : Sms)
  | ret (e : Ex)
  | retN
  | brk
  | cnt
  | never
inductive Sms where
  | nil
  | cons (s : Sm) (ss : Sms)
end

/-! ### meanings -/
abbrev ME := Env → Store → R D
abbrev MEs := Env → Store → R (List D)
abbrev MEo := Env → Store → R (Option Int)
abbrev MI := Env → Store → R Itv
inductive RS where
  | nx (ρ : Env) (G : Store)
  | rt (d : D) (G : Store)
  | bk (ρ : Env) (G : Store)
  | ct (ρ : Env) (G : Store)
  | exc (c : Nat) (fs : List D) (ρ : Env) (G : Store)
  | stuck
abbrev MS := Env → Store → RS

def noExc {α : Type} (r : R α) : R α := match r with
  | .exc _ _ _ => .stuck
  | .ok a G => .ok a G
  | .stuck => .stuck
def mK (d : D) : ME := fun _ G => .ok d G
def mV (i : Nat) : ME := fun ρ G => match ρ[i]? with
  | some (some d) => .ok d G
  | _ => .stuck
def mUn (o : Op1) (a : ME) : ME := fun ρ G => (a ρ G).bind fun x G1 => noExc (op1 o x G1)
def mBin (o : Op2) (a b : ME) : ME := fun ρ G => (a ρ G).bind fun x G1 => (b ρ G1).bind fun y G2 => noExc (op2 o x y G2)
def mAnd (a b : ME) : ME := fun ρ G => (a ρ G).bind fun x G1 => match truthy x G1 with
  | some true => b ρ G1
  | some false => .ok x G1
  | none => .stuck
def mOr (a b : ME) : ME := fun ρ G => (a ρ G).bind fun x G1 => match truthy x G1 with
  | some false => b ρ G1
  | some true => .ok x G1
  | none => .stuck
def mIte (c a b : ME) : ME := fun ρ G => (c ρ G).bind fun x G1 => match truthy x G1 with
  | some true => a ρ G1
  | some false => b ρ G1
  | none => .stuck
def mChain (o p : Op2) (a b c : ME) : ME := fun ρ G => (a ρ G).bind fun x G1 => (b ρ G1).bind fun y G2 => (noExc (op2 o x y G2)).bind fun z G3 => match z with
  | .bl true => (c ρ G3).bind fun w G4 => noExc (op2 p y w G4)
  | .bl false => .ok (.bl false) G3
  | _ => .stuck
def mNil : MEs := fun _ G => .ok [] G
def mCons (a : ME) (b : MEs) : MEs := fun ρ G => (a ρ G).bind fun x G1 => (b ρ G1).bind fun xs G2 => .ok (x :: xs) G2
def mTup (a : MEs) : ME := fun ρ G => (a ρ G).bind fun xs G1 => if xs.length ≤ sizeLine then .ok (.tup xs) G1 else .stuck
def mLst (a : MEs) : ME := fun ρ G => (a ρ G).bind fun xs G1 => newL xs G1
def mDic0 : ME := fun _ G => .ok (.ref G.cs.length) (G.new (.dic []))
def mNo : MEo := fun _ G => .ok none G
def mSome (a : ME) : MEo := fun ρ G => (a ρ G).bind fun x G1 => match x with
  | .int i => .ok (some i) G1
  | _ => .stuck
def mSl (a : ME) (lo hi : MEo) : ME := fun ρ G => (a ρ G).bind fun x G1 => (lo ρ G1).bind fun l G2 => (hi ρ G2).bind fun h G3 => noExc (opSl x l h G3)
def mRev (a : ME) : ME := fun ρ G => (a ρ G).bind fun x G1 => noExc (opRev x G1)
def mArgs (f : List D → Store → R D) (a : MEs) : ME := fun ρ G => (a ρ G).bind fun xs G1 => f xs G1
def mtTy (m : Mt) (d : D) (G : Store) : Bool := match m, d with
  | .append, .ref n | .extend, .ref n | .pop, .ref n | .indexL, .ref n => (G.lst? n).isSome
  | .indexS, .str _ | .join, .str _ | .upper, .str _ => true
  | .indexT, .tup _ => true
  | _, _ => false
def mMt (m : Mt) (o : ME) (a : MEs) : ME := fun ρ G => (o ρ G).bind fun x G1 => if mtTy m x G1 then (a ρ G1).bind fun xs G2 => noExc (mt m x xs G2) else .stuck
def mOne (a : ME) : MI := fun ρ G => (a ρ G).bind fun x G1 => match srcOf x G1 with
  | some s => .ok (.one s) G1
  | none => .stuck
def mEnum (a : ME) : MI := fun ρ G => (a ρ G).bind fun x G1 => match x with
  | .ref n => if (G1.lst? n).isSome then .ok (.enum (.cell n)) G1 else .stuck
  | _ => .stuck
def mZip (a b : ME) : MI := fun ρ G => (a ρ G).bind fun x G1 => (b ρ G1).bind fun y G2 => match x, y with
  | .tup xs, .tup ys => .ok (.zip (.fix xs) (.fix ys)) G2
  | .ref m, .ref n => if (G2.lst? m).isSome ∧ (G2.lst? n).isSome then .ok (.zip (.cell m) (.cell n)) G2 else .stuck
  | _, _ => .stuck
def mRng1 (a : ME) : MI := fun ρ G => (a ρ G).bind fun x G1 => match x with
  | .int j => if -(2 ^ 62) ≤ j ∧ j < 2 ^ 62 then .ok (.rng 0 j.toNat) G1 else .stuck
  | _ => .stuck
def mRng2 (a b : ME) : MI := fun ρ G => (a ρ G).bind fun x G1 => (b ρ G1).bind fun y G2 => match x, y with
  | .int i, .int j => if -(2 ^ 62) ≤ i ∧ i < 2 ^ 62 ∧ -(2 ^ 62) ≤ j ∧ j < 2 ^ 62 then .ok (.rng i (j - i).toNat) G2 else .stuck
  | _, _ => .stuck

/-- a comprehension's turns from the i-th on: acc is what the new list (at n) holds so far -/
def compGo (t : Tg) (v : Itv) (c : Option ME) (e : ME) (ρ : Env) (n : Nat) : Nat → Nat → Store → R Unit
  | 0, _, _ => .stuck
  | f + 1, i, G => match v.at i G with
    | some none => .ok () G
    | some (some d) => (match t.bind d ρ with
      | some ρ1 => ((match c with
          | none => R.ok true G
          | some m => (m ρ1 G).bind fun x G1 => match truthy x G1 with
            | some b => .ok b G1
            | none => .stuck)).bind fun b G1 => if b then (e ρ1 G1).bind fun x G2 => (match G2.lst? n with
              | some ys => if G2.lim ≤ n ∧ ys.length < sizeLine then compGo t v c e ρ n f (i + 1) (G2.put n (.lst (ys ++ [x]))) else .stuck
              | none => .stuck) else compGo t v c e ρ n f (i + 1) G1
      | none => .stuck)
    | none => .stuck
def loopFuel : Nat := 2 ^ 25
def mComp (t : Tg) (it : MI) (c : Option ME) (e : ME) (own : List Nat) : ME := fun ρ G => (it ρ G).bind fun v G1 =>
  (noExc (compGo t v c e (wipeE ρ own) G1.cs.length loopFuel 0 (G1.new (.lst [])))).bind fun _ G2 => .ok (.ref G1.cs.length) G2
/-- all(..), any(..) of a generator expression: nothing that stood before is changed -/
def genGo (all : Bool) (t : Tg) (v : Itv) (e : ME) (ρ : Env) : Nat → Nat → Store → R D
  | 0, _, _ => .stuck
  | f + 1, i, G => match v.at i G with
    | some none => .ok (.bl all) G
    | some (some d) => (match t.bind d ρ with
      | some ρ1 => (e ρ1 G).bind fun x G1 => (match x with
        | .bl b => if b = all then genGo all t v e ρ f (i + 1) G1 else .ok (.bl (!all)) G1
        | _ => .stuck)
      | none => .stuck)
    | none => .stuck
def mGen (all : Bool) (t : Tg) (it : MI) (e : ME) (own : List Nat) : ME := fun ρ G => (it ρ G).bind fun v G1 =>
  noExc (genGo all t v e (wipeE ρ own) loopFuel 0 G1)

/-! statements -/
def RS.ofR {α : Type} (r : R α) (ρ : Env) (f : α → Store → RS) : RS := match r with
  | .ok a G => f a G
  | .exc c fs G => .exc c fs ρ G
  | .stuck => .stuck
def sPass : MS := fun ρ G => .nx ρ G
def sSeq (a b : MS) : MS := fun ρ G => match a ρ G with
  | .nx ρ1 G1 => b ρ1 G1
  | r => r
def sExpr (e : ME) : MS := fun ρ G => RS.ofR (e ρ G) ρ fun _ G1 => .nx ρ G1
def sSet (t : Tg) (e : ME) : MS := fun ρ G => RS.ofR (e ρ G) ρ fun x G1 => match t.bind x ρ with
  | some ρ1 => .nx ρ1 G1
  | none => .stuck
def sPar (is : List Nat) (a : MEs) : MS := fun ρ G => RS.ofR (a ρ G) ρ fun xs G1 => match bindN is xs ρ with
  | some ρ1 => .nx ρ1 G1
  | none => .stuck
def setAt (o i d : D) (G : Store) : Option Store := match o, i with
  | .ref n, .int k => (match G.lst? n with
    | some xs => (match L2.ixN xs.length k with
      | some j => if G.lim ≤ n then some (G.put n (.lst (xs.set j d))) else none
      | none => none)
    | none => none)
  | _, _ => none
def sSetIx (a i e : ME) : MS := fun ρ G => RS.ofR (e ρ G) ρ fun d G1 => RS.ofR (a ρ G1) ρ fun o G2 => RS.ofR (i ρ G2) ρ fun k G3 => match setAt o k d G3 with
  | some G4 => .nx ρ G4
  | none => .stuck
def setKeyAt (o i d : D) (G : Store) : Option Store := match o with
  | .ref n => (match G.dic? n, keyD i with
    | some kvs, some k => if G.lim ≤ n ∧ kvs.length < sizeLine then some (G.put n (.dic (putD kvs k d))) else none
    | _, _ => none)
  | _ => none
def sSetKey (a i e : ME) : MS := fun ρ G => RS.ofR (e ρ G) ρ fun d G1 => RS.ofR (a ρ G1) ρ fun o G2 => RS.ofR (i ρ G2) ρ fun k G3 => match setKeyAt o k d G3 with
  | some G4 => .nx ρ G4
  | none => .stuck
def augOk (o : Op2) (a b : D) : Bool := match o, a, b with
  | .add, .int _, .int _ => true
  | .sub, .int _, .int _ => true
  | .mul, .int _, .int _ => true
  | .fdiv, .int _, .int _ => true
  | .mod, .int _, .int _ => true
  | .xor, .int _, .int _ => true
  | .add, .tup _, .tup _ => true
  | .add, .str _, .str _ => true
  | _, _, _ => false
def opAug (o : Op2) (a b : D) (G : Store) : R D := if augOk o a b then op2 o a b G else .stuck
def sAug (i : Nat) (o : Op2) (e : ME) : MS := fun ρ G => match ρ[i]? with
  | some (some x) => RS.ofR (e ρ G) ρ fun y G1 => RS.ofR (noExc (opAug o x y G1)) ρ fun z G2 => .nx (ρ.set i (some z)) G2
  | _ => .stuck
def sAugIx (a i : ME) (o : Op2) (e : ME) : MS := fun ρ G => RS.ofR (a ρ G) ρ fun p G1 => RS.ofR (i ρ G1) ρ fun k G2 => RS.ofR (noExc (op2 .ix p k G2)) ρ fun x G3 => RS.ofR (e ρ G3) ρ fun y G4 => RS.ofR (noExc (opAug o x y G4)) ρ fun z G5 => match setAt p k z G5 with
  | some G6 => .nx ρ G6
  | none => .stuck
def sIf (c : ME) (a b : MS) : MS := fun ρ G => RS.ofR (c ρ G) ρ fun x G1 => match truthy x G1 with
  | some true => a ρ G1
  | some false => b ρ G1
  | none => .stuck
def whileGo (c : ME) (a : MS) : Nat → MS
  | 0, _, _ => .stuck
  | f + 1, ρ, G => RS.ofR (c ρ G) ρ fun x G1 => match truthy x G1 with
    | some true => (match a ρ G1 with
      | .nx ρ2 G2 => whileGo c a f ρ2 G2
      | .ct ρ2 G2 => whileGo c a f ρ2 G2
      | .bk ρ2 G2 => .nx ρ2 G2
      | r => r)
    | some false => .nx ρ G1
    | none => .stuck
def sWhile (c : ME) (a : MS) : MS := whileGo c a loopFuel
def forGo (t : Tg) (v : Itv) (a : MS) : Nat → Nat → MS
  | 0, _, _, _ => .stuck
  | f + 1, i, ρ, G => match v.at i G with
    | some none => .nx ρ G
    | some (some d) => (match t.bind d ρ with
      | some ρ1 => (match a ρ1 G with
        | .nx ρ2 G2 => forGo t v a f (i + 1) ρ2 G2
        | .ct ρ2 G2 => forGo t v a f (i + 1) ρ2 G2
        | .bk ρ2 G2 => .nx ρ2 G2
        | r => r)
      | none => .stuck)
    | none => .stuck
def sFor (t : Tg) (it : MI) (a : MS) : MS := fun ρ G => RS.ofR (it ρ G) ρ fun v G1 => forGo t v a loopFuel 0 ρ G1
def sRet (e : ME) : MS := fun ρ G => RS.ofR (e ρ G) ρ fun x G1 => .rt x G1

/-! ### the evaluator -/
abbrev CallF := Nat → List D → Store → R D
mutual
def ev (C : CallF) : Ex → ME
  | .k d => mK d
  | .v i => mV i
  | .un o a => mUn o (ev C a)
  | .bin o a b => mBin o (ev C a) (ev C b)
  | .and a b => mAnd (ev C a) (ev C b)
  | .or a b => mOr (ev C a) (ev C b)
  | .ite c a b => mIte (ev C c) (ev C a) (ev C b)
  | .chain o p a b c => mChain o p (ev C a) (ev C b) (ev C c)
  | .tup es => mTup (evs C es)
  | .lst es => mLst (evs C es)
  | .dic0 => mDic0
  | .sl a lo hi => mSl (ev C a) (evo C lo) (evo C hi)
  | .rev a => mRev (ev C a)
  | .call f es => mArgs (C f) (evs C es)
  | .callD f es ds => mArgs (fun xs G => C f (xs ++ ds.map .int) G) (evs C es)
  | .bf f es => mArgs (fun xs G => noExc (bf f xs G)) (evs C es)
  | .mt m o es => mMt m (ev C o) (evs C es)
  | .comp t it c e own => mComp t (evi C it) (evc C c) (ev C e) own
  | .gen all t it e own => mGen all t (evi C it) (ev C e) own
def evs (C : CallF) : Exs → MEs
  | .nil => mNil
  | .cons e es => mCons (ev C e) (evs C es)
def evo (C : CallF) : Exo → MEo
  | .none => mNo
  | .some e => mSome (ev C e)
def evc (C : CallF) : Exo → Option ME
  | .none => none
  | .some e => some (ev C e)
def evi (C : CallF) : It → MI
  | .one e => mOne (ev C e)
  | .enum e => mEnum (ev C e)
  | .zip e f => mZip (ev C e) (ev C f)
  | .rng1 e => mRng1 (ev C e)
  | .rng2 e f => mRng2 (ev C e) (ev C f)
end
mutual
def ex (C : CallF) : Sm → MS
  | .pass => sPass
  | .expr e => sExpr (ev C e)
  | .set t e => sSet t (ev C e)
  | .par is es => sPar is (evs C es)
  | .setIx a i e => sSetIx (ev C a) (ev C i) (ev C e)
  | .setKey a i e => sSetKey (ev C a) (ev C i) (ev C e)
  | .aug i o e => sAug i o (ev C e)
  | .augIx a i o e => sAugIx (ev C a) (ev C i) o (ev C e)
  | .ifs c a b => sIf (ev C c) (exs C a) (exs C b)
  | .whil c a => sWhile (ev C c) (exs C a)
  | .for_ t it a => sFor t (evi C it) (exs C a)
  | .ret e => sRet (ev C e)
  | .retN => fun _ G => .rt .non G
  | .brk => fun ρ G => .bk ρ G
  | .cnt => fun ρ G => .ct ρ G
  | .never => fun _ _ => .stuck
def exs (C : CallF) : Sms → MS
  | .nil => sPass
  | .cons s ss => sSeq (ex C s) (exs C ss)
end

/-! ### calls -/
mutual
def below (n : Nat) : D → Bool
  | .ref m => decide (m < n)
  | .tup xs => belows n xs
  | _ => true
def belows (n : Nat) : List D → Bool
  | [] => true
  | x :: xs => below n x && belows n xs
end
def cellBelow (n : Nat) : Cell → Bool
  | .lst xs => belows n xs
  | .dic kvs => belows n (kvs.map (·.2))
  | .ins _ fs => fs.all fun p => below n p.2
/-- one def: how many parameters, how many slots, its body -/
structure Fd where
  ps : Nat
  ns : Nat
  body : Sms
def start (ns : Nat) (ds : List D) : Env := ds.map some ++ List.replicate (ns - ds.length) none
def finish (r : RS) : R D := match r with
  | .nx _ G => .ok .non G
  | .rt d G => .ok d G
  | .exc c fs _ G => .exc c fs G
  | _ => .stuck
/-- behind a call: what it made and nobody reaches is forgotten -/
def gcOk (n : Nat) : List Cell → List Cell → Bool
  | [], _ => true
  | c :: cs, c' :: cs' => (decide (c = c') || cellBelow n c') && gcOk n cs cs'
  | _ :: _, [] => false
def gc (G : Store) (r : R D) : R D := match r with
  | .ok d G' => if decide (G'.lim = G.lim) && gcOk G.cs.length G.cs G'.cs then
      (if below G.cs.length d then .ok d { G' with cs := G'.cs.take G.cs.length }
      else match d with
        | .ref m => (match G'.cs[m]? with
          | some c => if G.cs.length ≤ m ∧ cellBelow G.cs.length c then .ok (.ref G.cs.length) { G' with cs := G'.cs.take G.cs.length ++ [c] } else .ok d G'
          | none => .ok d G')
        | _ => .ok d G')
    else .ok d G'
  | .exc c fs G' => if decide (G'.lim = G.lim) && gcOk G.cs.length G.cs G'.cs && belows G.cs.length fs then .exc c fs { G' with cs := G'.cs.take G.cs.length } else .exc c fs G'
  | .stuck => .stuck
def run (T : List Fd) : Nat → CallF
  | 0, _, _, _ => .stuck
  | k + 1, f, ds, G => match T[f]? with
    | some fd => if ds.length = fd.ps then gc G (finish (exs (run T k) fd.body (start fd.ns ds) G)) else .stuck
    | none => .stuck
end Cut
/-! The clean evaluator against the model: what a clean value, store, environment stands for; each operation by its rule of the hand layer. -/
namespace Cut
open PySem PySem.Spec PyProof.Rows L2

/-! ### what stands for what -/
mutual
def RD (K : PySem.W.Frag) (H : Hp) (μ : List Addr) : D → V → Prop
  | .non, v => v = .non
  | .bl b, v => v = .bl b
  | .int i, v => v = .int i
  | .str s, v => v = .str ⟨s.toArray⟩
  | .tup ds, v => ∃ a vs, v = .ref a ∧ SqT K H a vs ∧ RDs K H μ ds vs
  | .ref n, v => ∃ a, v = .ref a ∧ μ[n]? = some a
  | .ty s, v => v = .ty s.name
def RDs (K : PySem.W.Frag) (H : Hp) (μ : List Addr) : List D → List V → Prop
  | [], vs => vs = []
  | d :: ds, vs => ∃ v ws, vs = v :: ws ∧ RD K H μ d v ∧ RDs K H μ ds ws
end
/-- the heap has grown, or a list has changed: tuples and locked things stay -/
structure XT (H H' : Hp) : Prop where
  tbl : ∀ b, GxR.TabG H b → GxR.TabG H' b
  tup : ∀ a xs, H a = some (.tup xs) → H' a = some (.tup xs)
  frz : ∀ a o u, H a = some (.frz o u) → H' a = some (.frz o u)
theorem XT.refl (H : Hp) : XT H H := ⟨fun _ h => h, fun _ _ h => h, fun _ _ _ h => h⟩
theorem XT.trans {H H1 H2 : Hp} (a : XT H H1) (b : XT H1 H2) : XT H H2 := ⟨fun c h => b.tbl c (a.tbl c h), fun c xs h => b.tup c xs (a.tup c xs h), fun c o u h => b.frz c o u (a.frz c o u h)⟩
theorem XT.new {H : Hp} {p : Addr} {o : HO} (h : H p = none) : XT H (upd H p o) :=
  ⟨fun b ⟨ps, e, t⟩ => ⟨ps, by rw [upd_ne (ne_of_none e h)]; exact e, t⟩, fun a xs e => by rw [upd_ne (ne_of_none e h)]; exact e, fun a o u e => by rw [upd_ne (ne_of_none e h)]; exact e⟩
theorem XT.lst {H : Hp} {p : Addr} {o : HO} {xs : List V} (h : H p = some (.lst xs)) : XT H (upd H p o) :=
  ⟨fun b ⟨ps, e, t⟩ => ⟨ps, by rw [upd_ne (ne_of e h (by intro q; cases q))]; exact e, t⟩, fun a ys e => by rw [upd_ne (ne_of e h (by intro q; cases q))]; exact e, fun a o u e => by rw [upd_ne (ne_of e h (by intro q; cases q))]; exact e⟩
theorem XT.dK {H : Hp} {p : Addr} {o : HO} {kvs : List (L2.Key × V)} (h : H p = some (.dK kvs)) : XT H (upd H p o) :=
  ⟨fun b ⟨ps, e, t⟩ => ⟨ps, by rw [upd_ne (ne_of e h (by intro q; cases q))]; exact e, t⟩, fun a ys e => by rw [upd_ne (ne_of e h (by intro q; cases q))]; exact e, fun a o u e => by rw [upd_ne (ne_of e h (by intro q; cases q))]; exact e⟩
theorem XT.sqT {K : PySem.W.Frag} {H H' : Hp} (x : XT H H') {a : Addr} {xs : List V} (h : SqT K H a xs) : SqT K H' a xs := by
  rcases h with (h | ⟨o, h⟩) | h
  · exact .inl (.inl (x.tup _ _ h))
  · exact .inl (.inr ⟨o, x.frz _ _ _ h⟩)
  · exact .inr h
theorem pre_get {α : Type} {l l' : List α} (h : l <+: l') {n : Nat} {a : α} (e : l[n]? = some a) : l'[n]? = some a := by
  obtain ⟨t, rfl⟩ := h
  have hl := (List.getElem?_eq_some_iff.mp e).1
  rw [List.getElem?_append_left hl]; exact e
mutual
theorem RD.mono {K : PySem.W.Frag} {H H' : Hp} {μ μ' : List Addr} (x : XT H H') (p : μ <+: μ') : ∀ {d : D} {v : V}, RD K H μ d v → RD K H' μ' d v
  | .non, _, h => h
  | .bl _, _, h => h
  | .int _, _, h => h
  | .str _, _, h => h
  | .tup _, _, ⟨a, vs, e, s, r⟩ => ⟨a, vs, e, x.sqT s, RDs.mono x p r⟩
  | .ref _, _, ⟨a, e, m⟩ => ⟨a, e, pre_get p m⟩
  | .ty _, _, h => h
theorem RDs.mono {K : PySem.W.Frag} {H H' : Hp} {μ μ' : List Addr} (x : XT H H') (p : μ <+: μ') : ∀ {ds : List D} {vs : List V}, RDs K H μ ds vs → RDs K H' μ' ds vs
  | [], _, h => h
  | _ :: _, _, ⟨v, ws, e, r, rs⟩ => ⟨v, ws, e, RD.mono x p r, RDs.mono x p rs⟩
end
section
variable {K : PySem.W.Frag} {H H' : Hp} {μ μ' : List Addr}
theorem RDs.len : ∀ {ds : List D} {vs : List V}, RDs K H μ ds vs → vs.length = ds.length
  | [], _, h => by have e : _ = [] := h; rw [e]; rfl
  | _ :: _, _, ⟨_, _, e, _, rs⟩ => by rw [e, List.length_cons, List.length_cons, rs.len]
theorem RDs.app : ∀ {ds es : List D} {vs ws : List V}, RDs K H μ ds vs → RDs K H μ es ws → RDs K H μ (ds ++ es) (vs ++ ws)
  | [], _, _, _, h, k => by have e : _ = [] := h; rw [e]; exact k
  | _ :: _, _, _, _, ⟨v, us, e, r, rs⟩, k => ⟨v, us ++ _, by rw [e]; rfl, r, rs.app k⟩
theorem RDs.one {d : D} {v : V} (r : RD K H μ d v) : RDs K H μ [d] [v] := ⟨v, [], rfl, r, rfl⟩
theorem RDs.get : ∀ {ds : List D} {vs : List V} {i : Nat} {d : D}, RDs K H μ ds vs → ds[i]? = some d → ∃ v, vs[i]? = some v ∧ RD K H μ d v
  | [], _, _, _, _, e => by simp at e
  | _ :: _, _, 0, _, ⟨v, ws, e, r, _⟩, q => by
    simp at q; subst q; rw [e]; exact ⟨v, rfl, r⟩
  | _ :: _, _, i + 1, _, ⟨v, ws, e, _, rs⟩, q => by
    obtain ⟨u, h1, h2⟩ := rs.get (i := i) (by simpa using q)
    rw [e]; exact ⟨u, by simpa using h1, h2⟩
theorem RDs.set {d : D} {v : V} (r : RD K H μ d v) : ∀ {ds : List D} {vs : List V} (i : Nat), RDs K H μ ds vs → RDs K H μ (ds.set i d) (vs.set i v)
  | [], _, _, h => by have e : _ = [] := h; rw [e]; rfl
  | _ :: _, _, 0, ⟨_, ws, e, _, rs⟩ => by rw [e]; exact ⟨v, ws, rfl, r, rs⟩
  | _ :: _, _, i + 1, ⟨u, ws, e, r', rs⟩ => by rw [e]; exact ⟨u, ws.set i v, rfl, r', rs.set r i⟩
theorem RDs.take : ∀ {ds : List D} {vs : List V} (n : Nat), RDs K H μ ds vs → RDs K H μ (ds.take n) (vs.take n)
  | _, _, 0, _ => by simp only [List.take_zero]; rfl
  | [], _, _ + 1, h => by have e : _ = [] := h; rw [e]; rfl
  | _ :: _, _, n + 1, ⟨u, ws, e, r', rs⟩ => by rw [e]; exact ⟨u, ws.take n, rfl, r', rs.take n⟩
theorem RDs.drop : ∀ {ds : List D} {vs : List V} (n : Nat), RDs K H μ ds vs → RDs K H μ (ds.drop n) (vs.drop n)
  | _, _, 0, h => h
  | [], _, _ + 1, h => by have e : _ = [] := h; rw [e]; rfl
  | _ :: _, _, n + 1, ⟨u, ws, e, r', rs⟩ => by rw [e]; exact rs.drop n
theorem RDs.rev {ds : List D} : ∀ {vs : List V}, RDs K H μ ds vs → RDs K H μ ds.reverse vs.reverse := by
  induction ds with
  | nil => intro vs h; have e : vs = [] := h; rw [e]; rfl
  | cons d ds ih =>
    rintro vs ⟨v, ws, rfl, r, rs⟩
    rw [List.reverse_cons, List.reverse_cons]
    exact (ih rs).app (.one r)
theorem RDs.rep {ds : List D} {vs : List V} (r : RDs K H μ ds vs) : ∀ n : Nat, RDs K H μ (List.replicate n ds).flatten (List.replicate n vs).flatten
  | 0 => rfl
  | n + 1 => by rw [List.replicate_succ, List.replicate_succ, List.flatten_cons, List.flatten_cons]; exact r.app (r.rep n)
theorem RDs.init {ds : List D} {vs : List V} (r : RDs K H μ ds vs) : RDs K H μ ds.dropLast vs.dropLast := by
  rw [List.dropLast_eq_take, List.dropLast_eq_take, r.len]; exact r.take _
theorem RDs.cut {ds : List D} {vs : List V} (r : RDs K H μ ds vs) (lo hi : Option Int) : RDs K H μ (cutD ds lo hi) (cutV vs lo hi) := by
  unfold cutD cutV
  rw [r.len]
  exact (r.drop _).take _
theorem RDs.at {ds : List D} {vs : List V} {i : Int} {d : D} (r : RDs K H μ ds vs) (h : ixAt ds i = some d) : ∃ v, atI vs i = some v ∧ RD K H μ d v := by
  unfold ixAt atI at h
  unfold atI
  rw [r.len]
  cases e : ixN ds.length i with
  | none => rw [e] at h; cases h
  | some j =>
    rw [e] at h
    exact r.get h
end

/-! ### the store -/
/-- the tables of code objects that stand tracked -/
class Tbl where
  ps : List Addr
variable [Tbl]
/-- a list that nobody writes -/
def Fz (K : PySem.W.Frag) (H : Hp) (a : Addr) (xs : List V) : Prop := (∃ o, H a = some (.frz o (.lst xs))) ∨
  ∃ (o : Obj) (its : Array Value) (n : Nat), K.lookup a = some o ∧ o.cls = .type "list" ∧ o.dict = none ∧ o.data = .seq its n ∧ its.size ≤ sizeLine ∧ Vals xs its.toList
theorem Fz.sq {K : PySem.W.Frag} {H : Hp} {a : Addr} {xs : List V} (h : Fz K H a xs) : SqL K H a xs := by
  rcases h with ⟨o, h⟩ | h
  · exact .inl (.inr ⟨o, h⟩)
  · exact .inr h
theorem Fz.ext {K : PySem.W.Frag} {H H' : Hp} (x : XT H H') {a : Addr} {xs : List V} (h : Fz K H a xs) : Fz K H' a xs := by
  rcases h with ⟨o, h⟩ | h
  · exact .inl ⟨o, x.frz _ _ _ h⟩
  · exact .inr h
/-- what a dict holds -/
def RKs (K : PySem.W.Frag) (H : Hp) (μ : List Addr) (kvs : List (L2.Key × D)) (ws : List (L2.Key × V)) : Prop := ws.map (·.1) = kvs.map (·.1) ∧ RDs K H μ (kvs.map (·.2)) (ws.map (·.2))
theorem RKs.mono {K : PySem.W.Frag} {H H' : Hp} {μ μ' : List Addr} (x : XT H H') (p : μ <+: μ') {kvs : List (L2.Key × D)} {ws : List (L2.Key × V)} (h : RKs K H μ kvs ws) : RKs K H' μ' kvs ws := ⟨h.1, h.2.mono x p⟩
theorem RKs.put {K : PySem.W.Frag} {H : Hp} {μ : List Addr} {k : L2.Key} {d : D} {v : V} (r : RD K H μ d v) {kvs : List (L2.Key × D)} {ws : List (L2.Key × V)} (h : RKs K H μ kvs ws) : RKs K H μ (putD kvs k d) (putK ws k v) := by
  have ha : ∀ {α : Type} (l : List (L2.Key × α)), (l.any fun kv => decide (kv.1 = k)) = ((l.map (·.1)).any fun x => decide (x = k)) := fun l => by rw [List.any_map]; rfl
  unfold putD putK
  rw [ha kvs, ha ws, h.1]
  split
  · have go : ∀ (kvs : List (L2.Key × D)) (ws : List (L2.Key × V)), RKs K H μ kvs ws → RKs K H μ (kvs.map fun kv => if kv.1 = k then (kv.1, d) else kv) (ws.map fun kv => if kv.1 = k then (kv.1, v) else kv) := by
      intro kvs
      induction kvs with
      | nil =>
        intro ws h
        have : ws = [] := by have := h.1; simpa using this
        subst this; exact h
      | cons p kvs ih =>
        intro ws h
        obtain ⟨h1, v0, vs, h2, h3, h4⟩ := h
        cases ws with
        | nil => cases h2
        | cons q ws =>
          simp only [List.map_cons, List.cons.injEq] at h1 h2
          have hr := ih ws ⟨h1.2, by rw [h2.2]; exact h4⟩
          rw [List.map_cons, List.map_cons, h1.1]
          by_cases e : p.1 = k
          · rw [if_pos e, if_pos e]
            exact ⟨by rw [List.map_cons, List.map_cons, hr.1], v, _, rfl, r, hr.2⟩
          · rw [if_neg e, if_neg e]
            exact ⟨by rw [List.map_cons, List.map_cons, hr.1, h1.1], q.2, _, rfl, by rw [h2.1]; exact h3, hr.2⟩
    exact go kvs ws h
  · refine ⟨by rw [List.map_append, List.map_append, h.1]; rfl, ?_⟩
    rw [List.map_append, List.map_append]
    exact h.2.app (.one r)
/-- a list or a dict of one's own -/
def Own (o : HO) : Prop := (∃ xs, o = .lst xs) ∨ ∃ ws, o = .dK ws
theorem Own.xt {H : Hp} {p : Addr} {u o : HO} (w : Own u) (h : H p = some u) : XT H (upd H p o) := by
  rcases w with ⟨xs, rfl⟩ | ⟨ws, rfl⟩
  · exact .lst h
  · exact .dK h
def RC (K : PySem.W.Frag) (H : Hp) (μ : List Addr) (fz : Bool) (a : Addr) : Cell → Prop
  | .lst ds => ∃ vs, RDs K H μ ds vs ∧ (fz = true → Fz K H a vs) ∧ (fz = false → H a = some (.lst vs))
  | .dic kvs => fz = false ∧ ∃ ws, RKs K H μ kvs ws ∧ H a = some (.dK ws)
  | _ => False
structure RG (K : PySem.W.Frag) (H : Hp) (μ : List Addr) (G : Store) : Prop where
  len : μ.length = G.cs.length
  nd : ∀ (i j : Nat) (a : Addr), G.lim ≤ i → G.lim ≤ j → μ[i]? = some a → μ[j]? = some a → i = j
  lim : G.lim ≤ G.cs.length
  cell : ∀ (n : Nat) (c : Cell) (a : Addr), G.cs[n]? = some c → μ[n]? = some a → RC K H μ (decide (n < G.lim)) a c
  tab : ∀ P ∈ Tbl.ps, GxR.TabG H P
section
variable {K : PySem.W.Frag} {H H' : Hp} {μ μ' : List Addr} {G G' : Store}
theorem lst?_some {n : Nat} {xs : List D} : G.lst? n = some xs ↔ G.cs[n]? = some (.lst xs) := by
  unfold Store.lst?
  constructor
  · intro h
    split at h
    · rename_i ys e
      rw [e]; cases h; rfl
    · cases h
  · intro h
    rw [h]
theorem RG.at (g : RG K H μ G) {n : Nat} {c : Cell} (h : G.cs[n]? = some c) : ∃ a, μ[n]? = some a := by
  have hl := (List.getElem?_eq_some_iff.mp h).1
  rw [← g.len] at hl
  exact ⟨_, List.getElem?_eq_getElem hl⟩
theorem RG.sq (g : RG K H μ G) {n : Nat} {xs : List D} (h : G.lst? n = some xs) {a : Addr} (ha : μ[n]? = some a) : ∃ vs, RDs K H μ xs vs ∧ SqL K H a vs ∧ (G.lim ≤ n → H a = some (.lst vs)) := by
  obtain ⟨vs, r, f1, f2⟩ := g.cell n _ a (lst?_some.mp h) ha
  refine ⟨vs, r, ?_, fun q => f2 (decide_eq_false (by omega))⟩
  cases e : decide (n < G.lim) with
  | true => exact (f1 e).sq
  | false => exact .inl (.inl (f2 e))
/-- a cell that may be written is a tracked list -/
theorem RG.own (g : RG K H μ G) {n : Nat} {a : Addr} (hn : G.lim ≤ n) (ha : μ[n]? = some a) : ∃ o, H a = some o ∧ Own o := by
  have hl := (List.getElem?_eq_some_iff.mp ha).1
  rw [g.len] at hl
  have := g.cell n _ a (List.getElem?_eq_getElem hl) ha
  cases hc : G.cs[n] with
  | lst ds =>
    rw [hc] at this
    obtain ⟨vs, r, f1, f2⟩ := this
    exact ⟨_, f2 (decide_eq_false (by omega)), .inl ⟨_, rfl⟩⟩
  | dic _ =>
    rw [hc] at this
    obtain ⟨_, ws, _, h⟩ := this
    exact ⟨_, h, .inr ⟨_, rfl⟩⟩
  | ins _ _ => rw [hc] at this; exact this.elim
/-- nothing of the store has changed -/
theorem RG.ext (g : RG K H μ G) (x : XT H H') (hk : ∀ (n : Nat) (a : Addr) (o : HO), μ[n]? = some a → Own o → H a = some o → H' a = some o) : RG K H' μ G where
  tab := fun P h => x.tbl P (g.tab P h)
  len := g.len
  nd := g.nd
  lim := g.lim
  cell := fun n c a h1 h2 => by
    have := g.cell n c a h1 h2
    cases c with
    | lst ds =>
      obtain ⟨vs, r, f1, f2⟩ := this
      exact ⟨vs, r.mono x (List.prefix_refl _), fun e => (f1 e).ext x, fun e => hk n a _ h2 (.inl ⟨_, rfl⟩) (f2 e)⟩
    | dic _ =>
      obtain ⟨h0, ws, r, h⟩ := this
      exact ⟨h0, ws, r.mono x (List.prefix_refl _), hk n a _ h2 (.inr ⟨_, rfl⟩) h⟩
    | ins _ _ => exact this.elim
theorem RG.fresh (g : RG K H μ G) {p : Addr} {o : HO} (hp : H p = none) : RG K (upd H p o) μ G :=
  g.ext (.new hp) fun n a xs h1 _ h2 => by rw [upd_ne (ne_of_none h2 hp)]; exact h2
theorem RG.newC (g : RG K H μ G) {p : Addr} {c0 : Cell} {o : HO} (hp : H p = none) (r : RC K (upd H p o) (μ ++ [p]) false p c0) : RG K (upd H p o) (μ ++ [p]) (G.new c0) where
  tab := fun P h => (XT.new hp).tbl P (g.tab P h)
  len := by rw [List.length_append, g.len]; show _ = (G.cs ++ [_]).length; rw [List.length_append]; rfl
  nd := fun i j b hi hj h1 h2 => by
    have old : ∀ {i : Nat} {b : Addr}, G.lim ≤ i → (μ ++ [p])[i]? = some b → (μ[i]? = some b ∧ b ≠ p ∧ i < μ.length) ∨ (i = μ.length ∧ b = p) := fun {i b} hi h => by
      by_cases hl : i < μ.length
      · rw [List.getElem?_append_left hl] at h
        obtain ⟨vs, e, _⟩ := g.own hi h
        exact .inl ⟨h, ne_of_none e hp, hl⟩
      · have hb := (List.getElem?_eq_some_iff.mp h).1
        rw [List.length_append, List.length_singleton] at hb
        have e : i = μ.length := by omega
        subst e
        rw [List.getElem?_append_right (Nat.le_refl _), Nat.sub_self] at h
        exact .inr ⟨rfl, by simpa using h.symm⟩
    rcases old hi h1 with ⟨k1, k2, _⟩ | ⟨k1, k2⟩ <;> rcases old hj h2 with ⟨m1, m2, _⟩ | ⟨m1, m2⟩
    · exact g.nd i j b hi hj k1 m1
    · exact absurd m2 k2
    · exact absurd k2 m2
    · rw [k1, m1]
  lim := by have := g.lim; show G.lim ≤ (G.cs ++ [_]).length; rw [List.length_append]; omega
  cell := fun n c a h1 h2 => by
    have h1 : (G.cs ++ [c0])[n]? = some c := h1
    have x : XT H (upd H p o) := .new hp
    by_cases hn : n < G.cs.length
    · rw [List.getElem?_append_left hn] at h1
      rw [List.getElem?_append_left (by rw [g.len]; exact hn)] at h2
      have := g.cell n c a h1 h2
      cases c with
      | lst ds =>
        obtain ⟨us, r', f1, f2⟩ := this
        refine ⟨us, r'.mono x (List.prefix_append _ _), fun e => (f1 e).ext x, fun e => ?_⟩
        · rw [upd_ne (ne_of_none (f2 e) hp)]; exact f2 e
      | dic _ =>
        obtain ⟨h0, ws, r, h⟩ := this
        exact ⟨h0, ws, r.mono x (List.prefix_append _ _), by rw [upd_ne (ne_of_none h hp)]; exact h⟩
      | ins _ _ => exact this.elim
    · have hn' : n = G.cs.length := by
        have := (List.getElem?_eq_some_iff.mp h1).1
        rw [List.length_append, List.length_singleton] at this
        omega
      subst hn'
      rw [List.getElem?_append_right (Nat.le_refl _), Nat.sub_self] at h1
      rw [List.getElem?_append_right (by rw [g.len]; exact Nat.le_refl _), g.len, Nat.sub_self] at h2
      cases h1; cases h2
      have q : decide (G.cs.length < (G.new c0).lim) = false := decide_eq_false (by show ¬ G.cs.length < G.lim; have := g.lim; omega)
      rw [q]
      exact r
theorem RG.new (g : RG K H μ G) {p : Addr} {ds : List D} {vs : List V} (hp : H p = none) (r : RDs K H μ ds vs) : RG K (upd H p (.lst vs)) (μ ++ [p]) (G.new (.lst ds)) :=
  g.newC hp ⟨vs, r.mono (.new hp) (List.prefix_append _ _), (fun e => nomatch e), fun _ => upd_same⟩
theorem RG.newD (g : RG K H μ G) {p : Addr} (hp : H p = none) : RG K (upd H p (.dK [])) (μ ++ [p]) (G.new (.dic [])) :=
  g.newC hp ⟨rfl, [], ⟨rfl, rfl⟩, upd_same⟩
theorem RG.putC (g : RG K H μ G) {n : Nat} (hn : G.lim ≤ n) {a : Addr} (ha : μ[n]? = some a) {c0 : Cell} {u o : HO} (hH : H a = some u) (w : Own u) (r : RC K (upd H a o) μ false a c0) : RG K (upd H a o) μ (G.put n c0) where
  tab := fun P h => (w.xt hH).tbl P (g.tab P h)
  len := by rw [g.len]; show _ = (G.cs.set n _).length; rw [List.length_set]
  nd := g.nd
  lim := by have := g.lim; show G.lim ≤ (G.cs.set n _).length; rw [List.length_set]; exact this
  cell := fun m c b h1 h2 => by
    have h1 : (G.cs.set n c0)[m]? = some c := h1
    have x : XT H (upd H a o) := w.xt hH
    by_cases hm : m = n
    · subst hm
      rw [ha] at h2; cases h2
      have hl : m < G.cs.length := by rw [← g.len]; exact (List.getElem?_eq_some_iff.mp ha).1
      rw [List.getElem?_set_self hl] at h1
      cases h1
      have q : decide (m < (G.put m c0).lim) = false := decide_eq_false (by show ¬ m < G.lim; omega)
      rw [q]
      exact r
    · rw [List.getElem?_set_ne (Ne.symm hm)] at h1
      have := g.cell m c b h1 h2
      cases c with
      | lst ds =>
        obtain ⟨us, r', f1, f2⟩ := this
        refine ⟨us, r'.mono x (List.prefix_refl _), fun e => (f1 e).ext x, fun e => ?_⟩
        have ne : b ≠ a := fun z => hm (g.nd m n a (Nat.le_of_not_lt fun q => by exact absurd (decide_eq_true (show m < (G.put n c0).lim from q)) (by rw [e]; exact Bool.false_ne_true)) hn (z ▸ h2) ha)
        rw [upd_ne ne]; exact f2 e
      | dic _ =>
        obtain ⟨e, ws, r, h⟩ := this
        have ne : b ≠ a := fun z => hm (g.nd m n a (Nat.le_of_not_lt fun q => by exact absurd (decide_eq_true (show m < (G.put n c0).lim from q)) (by show ¬ decide (m < G.lim) = true; rw [e]; exact Bool.false_ne_true)) hn (z ▸ h2) ha)
        exact ⟨e, ws, r.mono x (List.prefix_refl _), by rw [upd_ne ne]; exact h⟩
      | ins _ _ => exact this.elim
theorem RG.put (g : RG K H μ G) {n : Nat} (hn : G.lim ≤ n) {a : Addr} (ha : μ[n]? = some a) {xs vs : List V} {ds : List D} (hH : H a = some (.lst xs)) (r : RDs K H μ ds vs) : RG K (upd H a (.lst vs)) μ (G.put n (.lst ds)) :=
  g.putC hn ha hH (.inl ⟨_, rfl⟩) ⟨vs, r.mono (.lst hH) (List.prefix_refl _), (fun e => nomatch e), fun _ => upd_same⟩
theorem RG.putD (g : RG K H μ G) {n : Nat} (hn : G.lim ≤ n) {a : Addr} (ha : μ[n]? = some a) {xs vs : List (L2.Key × V)} {ds : List (L2.Key × D)} (hH : H a = some (.dK xs)) (r : RKs K H μ ds vs) : RG K (upd H a (.dK vs)) μ (G.put n (.dic ds)) :=
  g.putC hn ha hH (.inr ⟨_, rfl⟩) ⟨rfl, vs, r.mono (.dK hH) (List.prefix_refl _), upd_same⟩
theorem dic?_some {n : Nat} {xs : List (L2.Key × D)} : G.dic? n = some xs ↔ G.cs[n]? = some (.dic xs) := by
  unfold Store.dic?
  constructor
  · intro h
    split at h
    · rename_i ys e
      rw [e]; cases h; rfl
    · cases h
  · intro h
    rw [h]
theorem RG.dq (g : RG K H μ G) {n : Nat} {xs : List (L2.Key × D)} (h : G.dic? n = some xs) {a : Addr} (ha : μ[n]? = some a) : ∃ ws, RKs K H μ xs ws ∧ H a = some (.dK ws) := by
  obtain ⟨_, ws, r, e⟩ := g.cell n _ a (dic?_some.mp h) ha
  exact ⟨ws, r, e⟩

end

/-! ### the slots -/
structure RE (K : PySem.W.Frag) (H : Hp) (μ : List Addr) (ρ : Env) (σ : L2.St) : Prop where
  len : ρ.length = σ.length
  at_ : ∀ (i : Nat) (d : D), ρ[i]? = some (some d) → ∃ v, σ[i]? = some (some v) ∧ RD K H μ d v
section
variable {K : PySem.W.Frag} {H H' : Hp} {μ μ' : List Addr} {ρ : Env} {σ : L2.St}
theorem RE.mono (x : XT H H') (p : μ <+: μ') (h : RE K H μ ρ σ) : RE K H' μ' ρ σ := ⟨h.len, fun i d e => by
  obtain ⟨v, q, r⟩ := h.at_ i d e
  exact ⟨v, q, r.mono x p⟩⟩
theorem RE.set {d : D} {v : V} (h : RE K H μ ρ σ) (r : RD K H μ d v) (i : Nat) : RE K H μ (ρ.set i (some d)) (σ.set i (some v)) := by
  refine ⟨by rw [List.length_set, List.length_set]; exact h.len, fun j e q => ?_⟩
  by_cases hj : j = i
  · subst hj
    have hl : j < ρ.length := by
      have := (List.getElem?_eq_some_iff.mp q).1
      rwa [List.length_set] at this
    rw [List.getElem?_set_self hl] at q
    cases q
    exact ⟨v, by rw [List.getElem?_set_self (by rw [← h.len]; exact hl)], r⟩
  · rw [List.getElem?_set_ne (Ne.symm hj)] at q
    rw [List.getElem?_set_ne (Ne.symm hj)]
    exact h.at_ j e q
theorem RE.unset (h : RE K H μ ρ σ) (i : Nat) : RE K H μ (ρ.set i none) (σ.set i none) := by
  refine ⟨by rw [List.length_set, List.length_set]; exact h.len, fun j e q => ?_⟩
  by_cases hj : j = i
  · subst hj
    have hl : j < ρ.length := by
      have := (List.getElem?_eq_some_iff.mp q).1
      rwa [List.length_set] at this
    rw [List.getElem?_set_self hl] at q
    cases q
  · rw [List.getElem?_set_ne (Ne.symm hj)] at q
    rw [List.getElem?_set_ne (Ne.symm hj)]
    exact h.at_ j e q
theorem RE.wipe (h : RE K H μ ρ σ) : ∀ vs : List Nat, RE K H μ (wipeE ρ vs) (L2.wipe σ vs)
  | [] => h
  | v :: vs => (h.wipe vs).unset v
theorem RE.start {ds : List D} {vs : List V} (r : RDs K H μ ds vs) (N : List Str) : RE K H μ (Cut.start N.length ds) (L2.start N vs) := by
  refine ⟨?_, fun i d e => ?_⟩
  · unfold Cut.start L2.start
    rw [List.length_append, List.length_append, List.length_map, List.length_map, List.length_replicate, List.length_replicate, r.len]
  · unfold Cut.start at e
    unfold L2.start
    by_cases hi : i < ds.length
    · rw [List.getElem?_append_left (by simpa using hi), List.getElem?_map] at e
      cases q : ds[i]? with
      | none => rw [q] at e; cases e
      | some d' =>
        rw [q] at e
        cases e
        obtain ⟨v, h1, h2⟩ := r.get q
        exact ⟨v, by rw [List.getElem?_append_left (by simpa [r.len] using hi), List.getElem?_map, h1]; rfl, h2⟩
    · rw [List.getElem?_append_right (by simpa using hi), List.getElem?_replicate] at e
      split at e <;> cases e
end

/-! ### wishes -/
/-- how an exception of ours stands behind one of theirs -/
abbrev XRel := Nat → List D → Hp → List Addr → Value → Option Addr → Prop
structure Ct where
  K : PySem.W.Frag
  ξ : XRel
  W : WX
def Aft (K : PySem.W.Frag) (H : Hp) (μ : List Addr) (G' : Store) (P : Hp → List Addr → Prop) : Prop := ∀ H' μ', XT H H' → μ <+: μ' → RG K H' μ' G' → P H' μ'
theorem Aft.mono {K : PySem.W.Frag} {H H1 : Hp} {μ μ1 : List Addr} {G' : Store} {P : Hp → List Addr → Prop} (x : XT H H1) (p : μ <+: μ1) (h : Aft K H μ G' P) : Aft K H1 μ1 G' P :=
  fun H' μ' x' p' g => h H' μ' (x.trans x') (p.trans p') g
theorem Aft.imp {K : PySem.W.Frag} {H : Hp} {μ : List Addr} {G' : Store} {P P' : Hp → List Addr → Prop} (h : Aft K H μ G' P) (k : ∀ H' μ', XT H H' → μ <+: μ' → RG K H' μ' G' → P H' μ' → P' H' μ') : Aft K H μ G' P' :=
  fun H' μ' x' p' g => k H' μ' x' p' g (h H' μ' x' p' g)
def Post {α : Type} (c : Ct) (σ : L2.St) (H : Hp) (μ : List Addr) (r : R α) (P : α → Store → Hp → List Addr → Prop) : Prop := match r with
  | .ok a G' => Aft c.K H μ G' (P a G')
  | .exc n fs G' => Aft c.K H μ G' fun H' μ' => ∀ cls dd, c.ξ n fs H' μ' cls dd → c.W cls dd σ H'
  | .stuck => False
def Post0 {α : Type} (K : PySem.W.Frag) (H : Hp) (μ : List Addr) (r : R α) (P : α → Store → Hp → List Addr → Prop) : Prop := match r with
  | .ok a G' => Aft K H μ G' (P a G')
  | _ => False
section
variable {α β : Type} {c : Ct} {σ : L2.St} {H H1 : Hp} {μ μ1 : List Addr} {r : R α} {P P' : α → Store → Hp → List Addr → Prop}
theorem Post.mono (x : XT H H1) (p : μ <+: μ1) (h : Post c σ H μ r P) : Post c σ H1 μ1 r P := by
  cases r with
  | ok a G => exact Aft.mono x p h
  | exc n fs G => exact Aft.mono x p h
  | stuck => exact h
theorem Post.imp (h : Post c σ H μ r P) (k : ∀ a G' H' μ', XT H H' → μ <+: μ' → RG c.K H' μ' G' → P a G' H' μ' → P' a G' H' μ') : Post c σ H μ r P' := by
  cases r with
  | ok a G => exact Aft.imp h fun H' μ' => k a G H' μ'
  | exc n fs G => exact h
  | stuck => exact h
theorem Post.bind {f : α → Store → R β} {P : β → Store → Hp → List Addr → Prop} (h : Post c σ H μ (r.bind f) P) : Post c σ H μ r fun a G' H' μ' => Post c σ H' μ' (f a G') P := by
  cases r with
  | ok a G => exact fun H' μ' x p g => Post.mono x p h
  | exc n fs G => exact h
  | stuck => exact h
theorem Post.no (h : Post c σ H μ (noExc r) P) : Post0 c.K H μ r P := by
  cases r with
  | ok a G => exact h
  | exc n fs G => exact h
  | stuck => exact h
theorem Post0.mono {K : PySem.W.Frag} (x : XT H H1) (p : μ <+: μ1) (h : Post0 K H μ r P) : Post0 K H1 μ1 r P := by
  cases r with
  | ok a G => exact Aft.mono x p h
  | exc n fs G => exact h
  | stuck => exact h
end

/-! ### readings -/
def rE (c : Ct) (f : ME) : TE := fun σ H Q => ∃ ρ G μ, RE c.K H μ ρ σ ∧ RG c.K H μ G ∧ Post c σ H μ (f ρ G) fun d _ H' μ' => ∀ v, RD c.K H' μ' d v → Q v H'
def rT (c : Ct) (f : ME) : TT := fun σ H Q => ∃ ρ G μ, RE c.K H μ ρ σ ∧ RG c.K H μ G ∧ Post c σ H μ (f ρ G) fun d G' H' _ => ∃ b, truthy d G' = some b ∧ Q b H'
def rA (c : Ct) (f : MEs) : TA := fun σ H Q => ∃ ρ G μ, RE c.K H μ ρ σ ∧ RG c.K H μ G ∧ Post c σ H μ (f ρ G) fun ds _ H' μ' => ∀ vs, RDs c.K H' μ' ds vs → Q vs H'
def rO (c : Ct) (f : MEo) : TO := fun σ H Q => ∃ ρ G μ, RE c.K H μ ρ σ ∧ RG c.K H μ G ∧ Post c σ H μ (f ρ G) fun o _ H' _ => Q o H'
/-- an operation by values -/
def r1 (K : PySem.W.Frag) (g : D → Store → R D) : V → Hp → VK → Prop := fun x H Q => ∃ d G μ, RG K H μ G ∧ RD K H μ d x ∧ Post0 K H μ (g d G) fun d _ H' μ' => ∀ v, RD K H' μ' d v → Q v H'
def r2 (K : PySem.W.Frag) (g : D → D → Store → R D) : R2 := fun x y H Q => ∃ d e G μ, RG K H μ G ∧ RD K H μ d x ∧ RD K H μ e y ∧ Post0 K H μ (g d e G) fun d _ H' μ' => ∀ v, RD K H' μ' d v → Q v H'
def rN (K : PySem.W.Frag) (g : List D → Store → R D) : List V → Hp → VK → Prop := fun xs H Q => ∃ ds G μ, RG K H μ G ∧ RDs K H μ ds xs ∧ Post0 K H μ (g ds G) fun d _ H' μ' => ∀ v, RD K H' μ' d v → Q v H'
def rM (K : PySem.W.Frag) (g : D → List D → Store → R D) : V → List V → Hp → VK → Prop := fun x xs H Q => ∃ d ds G μ, RG K H μ G ∧ RD K H μ d x ∧ RDs K H μ ds xs ∧ Post0 K H μ (g d ds G) fun d _ H' μ' => ∀ v, RD K H' μ' d v → Q v H'

theorem PE.imp {X : Cx} {e : Expr} {t t' : TE} (h : PE X e t) (k : ∀ σ H Q, t' σ H Q → t σ H Q) : PE X e t' := ⟨fun pins s σ H Q I q => h.run pins s σ H Q I (k _ _ _ q)⟩
theorem PT.imp {X : Cx} {e : Expr} {t t' : TT} (h : PT X e t) (k : ∀ σ H Q, t' σ H Q → t σ H Q) : PT X e t' := ⟨fun pins s σ H Q I q => h.run pins s σ H Q I (k _ _ _ q)⟩
theorem PW.imp {X : Cx} {e : Expr} {t t' : TT} (h : PW X e t) (k : ∀ σ H Q, t' σ H Q → t σ H Q) : PW X e t' := ⟨fun wh pins s σ H Q I q => h.run wh pins s σ H Q I (k _ _ _ q)⟩
theorem PA.imp {X : Cx} {e : List Expr} {t t' : TA} (h : PA X e t) (k : ∀ σ H Q, t' σ H Q → t σ H Q) : PA X e t' := ⟨fun pos pins s σ H Q I q => h.run pos pins s σ H Q I (k _ _ _ q)⟩
theorem PO.imp {X : Cx} {e : Option Expr} {t t' : TO} (h : PO X e t) (k : ∀ σ H Q, t' σ H Q → t σ H Q) : PO X e t' := ⟨fun pins s σ H Q I q => h.run pins s σ H Q I (k _ _ _ q)⟩
theorem PS.imp {X : Cx} {e : Stmt} {t t' : TS} (h : PS X e t) (k : ∀ D σ H, t' D σ H → t D σ H) : PS X e t' := ⟨fun pins s σ H D I q => h.run pins s σ H D I (k _ _ _ q)⟩
theorem PSs.imp {X : Cx} {e : List Stmt} {t t' : TS} (h : PSs X e t) (k : ∀ D σ H, t' D σ H → t D σ H) : PSs X e t' := ⟨fun pins s σ H D I q => h.run pins s σ H D I (k _ _ _ q)⟩
theorem PI.imp {X : Cx} {tg e : Expr} {t t' : TI} (h : PI X tg e t) (k : ∀ σ H Q, t' σ H Q → t σ H Q) : PI X tg e t' := ⟨fun pins s σ H Q I q => h.run pins s σ H Q I (k _ _ _ q)⟩
end Cut
/-! Each operation of the evaluator by a rule of the hand layer. -/
namespace Cut
open PySem PySem.Spec PyProof.Rows L2
variable [Tbl]
section
variable {K : PySem.W.Frag} {H : Hp} {μ : List Addr} {G : Store} {Q : VK}
abbrev Wn (K : PySem.W.Frag) (Q : VK) : D → Store → Hp → List Addr → Prop := fun d _ H' μ' => ∀ v, RD K H' μ' d v → Q v H'
theorem P0.here {d : D} {v : V} (g : RG K H μ G) (h : Post0 K H μ (.ok d G) (Wn K Q)) (r : RD K H μ d v) : Q v H := h H μ (.refl _) (List.prefix_refl _) g v r
theorem P0.newT {ds : List D} {vs : List V} (g : RG K H μ G) (h : Post0 K H μ (.ok (.tup ds) G) (Wn K Q)) (r : RDs K H μ ds vs) : ∀ p, H p = none → Q (.ref p) (upd H p (.tup vs)) := fun p hp =>
  h _ μ (.new hp) (List.prefix_refl _) (g.fresh hp) _ ⟨p, vs, rfl, .inl (.inl upd_same), r.mono (.new hp) (List.prefix_refl _)⟩
theorem P0.newL {ds : List D} {vs : List V} (g : RG K H μ G) (h : Post0 K H μ (Cut.newL ds G) (Wn K Q)) (r : RDs K H μ ds vs) : vs.length ≤ sizeLine ∧ ∀ p, H p = none → Q (.ref p) (upd H p (.lst vs)) := by
  unfold Cut.newL at h
  split at h
  · rename_i hl
    refine ⟨by rw [r.len]; exact hl, fun p hp => ?_⟩
    exact h _ _ (.new hp) (List.prefix_append _ _) (g.new hp r) _ ⟨p, rfl, by rw [← g.len, List.getElem?_append_right (Nat.le_refl _), Nat.sub_self]; rfl⟩
  · exact h.elim
theorem P0.put {d : D} {v : V} {n : Nat} {a : Addr} {xs vs : List V} {ds : List D} (g : RG K H μ G) (hn : G.lim ≤ n) (ha : μ[n]? = some a) (hH : H a = some (.lst xs)) (r : RDs K H μ ds vs) (h : Post0 K H μ (.ok d (G.put n (.lst ds))) (Wn K Q)) (rd : RD K H μ d v) : Q v (upd H a (.lst vs)) :=
  h _ μ (.lst hH) (List.prefix_refl _) (g.put hn ha hH r) v (rd.mono (.lst hH) (List.prefix_refl _))

/-! ### data -/
theorem dp_str (s : List Nat) : Dp K H (.str ⟨s.toArray⟩) (.str ⟨s.toArray⟩) := .str _
mutual
theorem pyW_dp {r : Nat → Option PyData} (hr : ∀ n p a, r n = some p → μ[n]? = some a → Dp K H (.ref a) p) : ∀ (d : D) (v : V) (p : PyData), pyW r d = some p → RD K H μ d v → Dp K H v p
  | .non, v, p, h, rd => by
    have e : v = _ := rd
    simp only [pyW, Option.some.injEq] at h; subst h; subst e; exact .non
  | .bl b, v, p, h, rd => by
    have e : v = _ := rd
    simp only [pyW, Option.some.injEq] at h; subst h; subst e; exact .bl b
  | .int i, v, p, h, rd => by
    have e : v = _ := rd
    simp only [pyW, Option.some.injEq] at h; subst h; subst e; exact .int i
  | .str s, v, p, h, rd => by
    have e : v = _ := rd
    simp only [pyW, Option.some.injEq] at h; subst h; subst e; exact .str _
  | .tup xs, v, p, h, rd => by
    obtain ⟨a, vs, e, s, rs⟩ := rd
    simp only [pyW, Option.map_eq_some_iff] at h
    obtain ⟨ps, h1, h2⟩ := h
    subst h2; subst e
    exact .tup s (pyWs_dp hr xs vs ps h1 rs)
  | .ref n, v, p, h, rd => by
    obtain ⟨a, e, m⟩ := rd
    simp only [pyW] at h
    subst e
    exact hr n p a h m
  | .ty s, v, p, h, rd => by simp only [pyW] at h; cases h
theorem pyWs_dp {r : Nat → Option PyData} (hr : ∀ n p a, r n = some p → μ[n]? = some a → Dp K H (.ref a) p) : ∀ (ds : List D) (vs : List V) (ps : List PyData), pyWs r ds = some ps → RDs K H μ ds vs → DpAll K H vs ps
  | [], vs, ps, h, rd => by
    have e : vs = _ := rd
    simp only [pyWs, Option.some.injEq] at h; subst h; subst e; exact .nil
  | x :: xs, vs, ps, h, rd => by
    obtain ⟨v, ws, e, r1, rs⟩ := rd
    simp only [pyWs] at h
    split at h
    · rename_i d ds h1 h2
      cases h
      subst e
      exact .cons (pyW_dp hr x v d h1 r1) (pyWs_dp hr xs ws ds h2 rs)
    · cases h
end
theorem pyD_dp (g : RG K H μ G) : ∀ (n : Nat) (d : D) (v : V) (p : PyData), pyD n G d = some p → RD K H μ d v → Dp K H v p
  | 0, d, v, p, h, rd => pyW_dp (fun n p a e _ => by cases e) d v p h rd
  | n + 1, d, v, p, h, rd => pyW_dp (fun k q a e m => by
    have e : (match G.lst? k with
      | some xs => (pyWs (fun j => pyD n G (.ref j)) xs).map PyData.list
      | none => none) = some q := e
    split at e
    · rename_i xs hx
      rw [Option.map_eq_some_iff] at e
      obtain ⟨ps, h1, h2⟩ := e
      subst h2
      obtain ⟨vs, r, s, _⟩ := g.sq hx m
      exact .lst s (pyWs_dp (fun j p a e m => pyD_dp g n (.ref j) _ p e ⟨a, rfl, m⟩) xs vs ps h1 r)
    · cases e) d v p h rd
theorem eqD_dp (g : RG K H μ G) {d e : D} {x y : V} {b : Bool} (h : eqD G d e = some b) (rx : RD K H μ d x) (ry : RD K H μ e y) : ∃ p q, Dp K H x p ∧ Dp K H y q ∧ SeqAt.shaped p = true ∧ SeqAt.shaped q = true ∧ PyData.eqv p q = b := by
  unfold eqD at h
  split at h
  · rename_i p q h1 h2
    split at h
    · rename_i hs
      obtain ⟨s1, s2⟩ := Bool.and_eq_true_iff.mp hs
      exact ⟨p, q, pyD_dp g _ _ _ _ h1 rx, pyD_dp g _ _ _ _ h2 ry, s1, s2, Option.some.inj h⟩
    · cases h
  · cases h
theorem flat_rd {d : D} {v : V} (f : flatD d = true) (r : RD K H μ d v) : flatV v = true := by
  cases d <;> first | (have e : v = _ := r; subst e; rfl) | cases f
theorem flats_rd : ∀ {ds : List D} {vs : List V}, ds.all flatD = true → RDs K H μ ds vs → vs.all flatV = true
  | [], _, _, h => by have e : _ = [] := h; rw [e]; rfl
  | d :: ds, _, f, ⟨v, ws, e, r, rs⟩ => by
    rw [List.all_cons, Bool.and_eq_true] at f
    rw [e, List.all_cons, Bool.and_eq_true]
    exact ⟨flat_rd f.1 r, flats_rd f.2 rs⟩
theorem str_beq (a b : List Nat) : ((⟨a.toArray⟩ : Str) == ⟨b.toArray⟩) = (a == b) := by
  by_cases h : a = b
  · subst h; simp
  · have : ¬ ((⟨a.toArray⟩ : Str) = ⟨b.toArray⟩) := fun e => h (by injection e with e; exact List.toArray_inj e)
    rw [beq_eq_false_iff_ne.mpr this, beq_eq_false_iff_ne.mpr h]
theorem eqF_rd {d e : D} {x y : V} (f : flatD d = true) (f' : flatD e = true) (r : RD K H μ d x) (r' : RD K H μ e y) : eqV x y = eqF d e := by
  cases d <;> try (simp [flatD] at f; done)
  all_goals
    cases e <;> try (simp [flatD] at f'; done)
    all_goals
      have e1 : x = _ := r
      have e2 : y = _ := r'
      subst e1; subst e2
      first | rfl | exact str_beq _ _
theorem anyF_rd {d : D} {x : V} (f : flatD d = true) (r : RD K H μ d x) : ∀ {ds : List D} {vs : List V}, ds.all flatD = true → RDs K H μ ds vs → (vs.any fun y => eqV y x) = ds.any fun y => eqF y d
  | [], _, _, h => by have e : _ = [] := h; rw [e]; rfl
  | e :: ds, _, fs, ⟨v, ws, q, r1, rs⟩ => by
    rw [List.all_cons, Bool.and_eq_true] at fs
    rw [q, List.any_cons, List.any_cons, eqF_rd fs.1 f r1 r, anyF_rd f r fs.2 rs]
theorem items_rd (g : RG K H μ G) {d : D} {v : V} {xs : List D} (h : items d G = some xs) (r : RD K H μ d v) : ∃ p vs, v = .ref p ∧ (SqL K H p vs ∨ SqT K H p vs) ∧ RDs K H μ xs vs := by
  cases d with
  | tup ds =>
    obtain ⟨a, vs, e, s, rs⟩ := r
    cases h
    exact ⟨a, vs, e, .inr s, rs⟩
  | ref n =>
    obtain ⟨a, e, m⟩ := r
    obtain ⟨vs, rs, s, _⟩ := g.sq (show G.lst? n = some xs from h) m
    exact ⟨a, vs, e, .inl s, rs⟩
  | _ => cases h
theorem okO_some {K : PySem.W.Frag} {H : Hp} {μ : List Addr} {o : Option Bool} {P : D → Store → Hp → List Addr → Prop} (h : Post0 K H μ (okO o G) P) : ∃ b, o = some b ∧ Post0 K H μ (.ok (.bl b) G) P := by
  cases o with
  | none => exact h.elim
  | some b => exact ⟨b, rfl, h⟩
theorem okD_some {K : PySem.W.Frag} {H : Hp} {μ : List Addr} {o : Option D} {P : D → Store → Hp → List Addr → Prop} (h : Post0 K H μ (okD o G) P) : ∃ b, o = some b ∧ Post0 K H μ (.ok b G) P := by
  cases o with
  | none => exact h.elim
  | some b => exact ⟨b, rfl, h⟩
end

/-! ### binary operators -/
section
variable {X : Cx}
theorem ok_add : OpR X (binaryOp .Add) (r2 X.K (op2 .add)) := by
  rintro pins s σ H x y v u Q I rx ry ⟨d, e, G, μ, g, r, r', h⟩
  cases d <;> cases e <;> try exact h.elim
  case int.int i j =>
    have e1 : x = _ := r; have e2 : y = _ := r'; subst e1; subst e2
    exact op_add pins s σ H _ _ v u Q I rx ry ⟨i, j, rfl, rfl, P0.here g h rfl⟩
  case str.str a b =>
    have e1 : x = _ := r; have e2 : y = _ := r'; subst e1; subst e2
    simp only [op2] at h
    split at h
    · rename_i hl
      exact op_add_str pins s σ H _ _ v u Q I rx ry ⟨_, _, rfl, rfl, by simpa [Str.length] using hl, P0.here g h (by show V.str _ = V.str _; congr 1; show Str.append _ _ = _; simp [Str.append])⟩
    · exact h.elim
  case tup.tup xs ys =>
    obtain ⟨a, vs, rfl, s1, rs⟩ := r
    obtain ⟨b, ws, rfl, s2, rs'⟩ := r'
    simp only [op2] at h
    split at h
    · rename_i hl
      refine op_catA pins s σ H _ _ v u Q I rx ry ⟨a, b, vs, ws, rfl, rfl, s1, s2, by rw [rs.len, rs'.len]; exact hl, fun e => ?_, fun _ e => ?_, fun _ _ => P0.newT g h (rs.app rs')⟩
      · subst e
        have : xs = [] := List.eq_nil_of_length_eq_zero (by rw [← rs.len]; rfl)
        subst this
        exact P0.here g h ⟨b, ws, rfl, s2, rs'⟩
      · subst e
        have : ys = [] := List.eq_nil_of_length_eq_zero (by rw [← rs'.len]; rfl)
        subst this
        rw [List.append_nil] at h
        exact P0.here g h ⟨a, vs, rfl, s1, rs⟩
    · exact h.elim
  case ref.ref m n =>
    obtain ⟨a, rfl, ma⟩ := r
    obtain ⟨b, rfl, mb⟩ := r'
    simp only [op2] at h
    split at h
    · rename_i xs ys hx hy
      split at h
      · rename_i hl
        obtain ⟨vs, rs, _, f⟩ := g.sq hx ma
        obtain ⟨ws, rs', _, f'⟩ := g.sq hy mb
        have z := P0.newL g h (rs.app rs')
        exact op_cat pins s σ H _ _ v u Q I rx ry ⟨a, b, vs, ws, rfl, rfl, f hl.1, f' hl.2, by have := z.1; rwa [List.length_append] at this, z.2⟩
      · exact h.elim
    · exact h.elim
theorem ok_sub : OpR X (binaryOp .Sub) (r2 X.K (op2 .sub)) := by
  rintro pins s σ H x y v u Q I rx ry ⟨d, e, G, μ, g, r, r', h⟩
  cases d <;> cases e <;> try exact h.elim
  case int.int i j =>
    have e1 : x = _ := r; have e2 : y = _ := r'; subst e1; subst e2
    exact op_sub pins s σ H _ _ v u Q I rx ry ⟨i, j, rfl, rfl, P0.here g h rfl⟩
theorem ok_xor : OpR X (binaryOp .BitXor) (r2 X.K (op2 .xor)) := by
  rintro pins s σ H x y v u Q I rx ry ⟨d, e, G, μ, g, r, r', h⟩
  cases d <;> cases e <;> try exact h.elim
  case int.int i j =>
    have e1 : x = _ := r; have e2 : y = _ := r'; subst e1; subst e2
    exact op_xor pins s σ H _ _ v u Q I rx ry ⟨i, j, rfl, rfl, P0.here g h rfl⟩
theorem rep_fold (s : List Nat) : ∀ (k : Nat) (acc : Array Nat), (List.replicate k s.toArray).foldl (· ++ ·) acc = acc ++ (List.replicate k s).flatten.toArray
  | 0, acc => by simp
  | k + 1, acc => by
    rw [List.replicate_succ, List.replicate_succ, List.foldl_cons, List.flatten_cons, rep_fold s k]
    simp
theorem txt_mul {s : List Nat} {k : Int} (h0 : 0 ≤ k) : Txt.mul ⟨s.toArray⟩ k = ⟨((List.replicate k.toNat s).flatten).toArray⟩ := by
  unfold Txt.mul
  by_cases h1 : k < 1
  · have : k = 0 := by omega
    subst this
    rw [if_pos (by omega)]; rfl
  · rw [if_neg h1]
    split
    · rename_i hc
      rw [Bool.or_eq_true] at hc
      rcases hc with hc | hc
      · have : k = 1 := by simpa using hc
        subst this
        show (⟨s.toArray⟩ : Str) = ⟨((List.replicate 1 s).flatten).toArray⟩
        simp
      · have hs : s = [] := by
          have : (⟨s.toArray⟩ : Str).length = 0 := by simpa using hc
          simpa [Str.length] using this
        subst hs
        congr 1
        have : ∀ n : Nat, (List.replicate n ([] : List Nat)).flatten = [] := fun n => by induction n with
          | zero => rfl
          | succ n ih => rw [List.replicate_succ, List.flatten_cons, ih]; rfl
        rw [this]
    · rw [rep_fold]
      simp
theorem ok_mul : OpR X (binaryOp .Mult) (r2 X.K (op2 .mul)) := by
  rintro pins s σ H x y v u Q I rx ry ⟨d, e, G, μ, g, r, r', h⟩
  cases d <;> cases e <;> try exact h.elim
  case int.int i j =>
    have e1 : x = _ := r; have e2 : y = _ := r'; subst e1; subst e2
    simp only [op2] at h
    split at h
    · rename_i hl
      exact op_mulW pins s σ H _ _ v u Q I rx ry ⟨i, j, rfl, rfl, hl, P0.here g h rfl⟩
    · exact h.elim
  case str.int a k =>
    have e1 : x = _ := r; have e2 : y = _ := r'; subst e1; subst e2
    simp only [op2] at h
    split at h
    · rename_i hl
      obtain ⟨t, rfl⟩ := rx
      obtain ⟨t', rfl⟩ := ry
      obtain ⟨h0, h1, h2, h3⟩ := hl
      have hsz : (⟨a.toArray⟩ : Str).length = a.length := by simp [Str.length]
      refine PySem.SB.mul ⟨?_, fun hk _ => ?_, fun hk _ => ?_⟩ fun t2 tk => ⟨.str (Txt.mul ⟨a.toArray⟩ k), H, I.tok _, ⟨_, rfl⟩, P0.here g h ?_⟩
      · rw [Bool.or_eq_false_iff, decide_eq_false_iff_not, decide_eq_false_iff_not]
        exact ⟨by omega, by omega⟩
      · rw [hsz]
        have : (1000 : Int) ≤ (2 ^ 63 - 1) / k := by
          rw [Int.le_ediv_iff_mul_le (by omega)]
          omega
        omega
      · rw [hsz]
        exact decide_eq_false (Nat.not_lt.mpr (Nat.le_trans h3 (by decide)))
      · show V.str _ = V.str _
        rw [txt_mul h0]
    · exact h.elim
  case tup.int xs k =>
    obtain ⟨a, vs, rfl, s1, rs⟩ := r
    have e2 : y = _ := r'; subst e2
    simp only [op2] at h
    split at h
    · rename_i hl
      exact op_repT pins s σ H _ _ v u Q I rx ry ⟨a, k, vs, rfl, rfl, s1, fun e => hl.1 (List.eq_nil_of_length_eq_zero (by rw [← rs.len, e]; rfl)), hl.2.1, hl.2.2.1, by rw [rs.len]; exact hl.2.2.2, P0.newT g h (rs.rep _)⟩
    · exact h.elim
  case ref.int m k =>
    obtain ⟨a, rfl, ma⟩ := r
    have e2 : y = _ := r'; subst e2
    simp only [op2] at h
    split at h
    · rename_i xs hx
      split at h
      · rename_i hl
        obtain ⟨vs, rs, _, f⟩ := g.sq hx ma
        exact op_rep pins s σ H _ _ v u Q I rx ry ⟨a, k, vs, rfl, rfl, f hl.1, hl.2.1, hl.2.2.1, by rw [rs.len]; exact hl.2.2.2, (P0.newL g h (rs.rep _)).2⟩
      · exact h.elim
    · exact h.elim
theorem ok_fdiv : OpR X (binaryOp .FloorDiv) (r2 X.K (op2 .fdiv)) := by
  rintro pins s σ H x y v u Q I rx ry ⟨d, e, G, μ, g, r, r', h⟩
  cases d <;> cases e <;> try exact h.elim
  case int.int i j =>
    have e1 : x = _ := r; have e2 : y = _ := r'; subst e1; subst e2
    simp only [op2] at h
    split at h
    · rename_i hl
      exact op_fdivW pins s σ H _ _ v u Q I rx ry ⟨i, j, rfl, rfl, hl, P0.here g h rfl⟩
    · exact h.elim
theorem ok_mod : OpR X (binaryOp .Mod) (r2 X.K (op2 .mod)) := by
  rintro pins s σ H x y v u Q I rx ry ⟨d, e, G, μ, g, r, r', h⟩
  cases d <;> cases e <;> try exact h.elim
  case int.int i j =>
    have e1 : x = _ := r; have e2 : y = _ := r'; subst e1; subst e2
    simp only [op2] at h
    split at h
    · rename_i hl
      exact op_mod pins s σ H _ _ v u Q I rx ry ⟨i, j, rfl, rfl, hl, P0.here g h rfl⟩
    · exact h.elim
theorem ok_pow : OpR X (binaryOp .Pow) (r2 X.K (op2 .pow)) := by
  rintro pins s σ H x y v u Q I rx ry ⟨d, e, G, μ, g, r, r', h⟩
  cases d <;> cases e <;> try exact h.elim
  case int.int i j =>
    have e1 : x = _ := r; have e2 : y = _ := r'; subst e1; subst e2
    simp only [op2] at h
    split at h
    · rename_i hl
      exact op_pow pins s σ H _ _ v u Q I rx ry ⟨i, j, rfl, rfl, hl, P0.here g h rfl⟩
    · exact h.elim
theorem ok_lt : OpR X (compareOp .Lt) (r2 X.K (op2 .lt)) := by
  rintro pins s σ H x y v u Q I rx ry ⟨d, e, G, μ, g, r, r', h⟩
  cases d <;> cases e <;> try exact h.elim
  case int.int i j =>
    have e1 : x = _ := r; have e2 : y = _ := r'; subst e1; subst e2
    exact op_lt pins s σ H _ _ v u Q I rx ry ⟨i, j, rfl, rfl, P0.here g h rfl⟩
theorem ok_le : OpR X (compareOp .LtE) (r2 X.K (op2 .le)) := by
  rintro pins s σ H x y v u Q I rx ry ⟨d, e, G, μ, g, r, r', h⟩
  cases d <;> cases e <;> try exact h.elim
  case int.int i j =>
    have e1 : x = _ := r; have e2 : y = _ := r'; subst e1; subst e2
    exact op_le pins s σ H _ _ v u Q I rx ry ⟨i, j, rfl, rfl, P0.here g h rfl⟩
theorem ok_gt : OpR X (compareOp .Gt) (r2 X.K (op2 .gt)) := by
  rintro pins s σ H x y v u Q I rx ry ⟨d, e, G, μ, g, r, r', h⟩
  cases d <;> cases e <;> try exact h.elim
  case int.int i j =>
    have e1 : x = _ := r; have e2 : y = _ := r'; subst e1; subst e2
    exact op_gt pins s σ H _ _ v u Q I rx ry ⟨i, j, rfl, rfl, P0.here g h rfl⟩
theorem ok_ge : OpR X (compareOp .GtE) (r2 X.K (op2 .ge)) := by
  rintro pins s σ H x y v u Q I rx ry ⟨d, e, G, μ, g, r, r', h⟩
  cases d <;> cases e <;> try exact h.elim
  case int.int i j =>
    have e1 : x = _ := r; have e2 : y = _ := r'; subst e1; subst e2
    exact op_ge pins s σ H _ _ v u Q I rx ry ⟨i, j, rfl, rfl, P0.here g h rfl⟩
theorem ok_eq (hu : X.A.units + 64 < cLine) : OpR X (compareOp .Eq) (r2 X.K (op2 .eq)) := by
  rintro pins s σ H x y v u Q I rx ry ⟨d, e, G, μ, g, r, r', h⟩
  obtain ⟨b, hb, h⟩ := okO_some h
  obtain ⟨p, q, h1, h2, s1, s2, rfl⟩ := eqD_dp g hb r r'
  exact op_eqD hu pins s σ H x y v u Q I rx ry ⟨p, q, h1, h2, s1, s2, P0.here g h rfl⟩
theorem ok_ne (hu : X.A.units + 64 < cLine) : OpR X (compareOp .NotEq) (r2 X.K (op2 .ne)) := by
  rintro pins s σ H x y v u Q I rx ry ⟨d, e, G, μ, g, r, r', h⟩
  obtain ⟨b, hb, h⟩ := okO_some h
  rw [Option.map_eq_some_iff] at hb
  obtain ⟨b', hb, rfl⟩ := hb
  obtain ⟨p, q, h1, h2, s1, s2, rfl⟩ := eqD_dp g hb r r'
  exact op_neD hu pins s σ H x y v u Q I rx ry ⟨p, q, h1, h2, s1, s2, P0.here g h rfl⟩
theorem non_iff {K : PySem.W.Frag} {H : Hp} {μ : List Addr} {d : D} {x : V} (r : RD K H μ d x) (h : d ≠ .non) : decide (x = V.non) = false := by
  refine decide_eq_false fun e => ?_
  subst e
  cases d with
  | non => exact h rfl
  | tup xs => obtain ⟨a, vs, e, _⟩ := r; cases e
  | ref n => obtain ⟨a, e, _⟩ := r; cases e
  | _ => cases r
theorem ok_is : OpR X (compareOp .Is) (r2 X.K (op2 .is)) := by
  rintro pins s σ H x y v u Q I rx ry ⟨d, e, G, μ, g, r, r', h⟩
  cases e with
  | non =>
    have e2 : y = _ := r'; subst e2
    refine op_isN pins s σ H _ _ v u Q I rx ry ⟨rfl, ?_⟩
    cases d with
    | non =>
      have e1 : x = _ := r; subst e1
      exact P0.here g h rfl
    | _ => rw [non_iff r (by intro z; cases z)]; exact P0.here g h rfl
  | bl b =>
    cases d with
    | bl a =>
      have e1 : x = _ := r; have e2 : y = _ := r'; subst e1; subst e2
      exact op_isBl pins s σ H _ _ v u Q I rx ry ⟨a, b, rfl, rfl, P0.here g h rfl⟩
    | _ => exact h.elim
  | _ => cases d <;> exact h.elim
theorem ok_isnot : OpR X (compareOp .IsNot) (r2 X.K (op2 .isnot)) := by
  rintro pins s σ H x y v u Q I rx ry ⟨d, e, G, μ, g, r, r', h⟩
  cases e with
  | non =>
    have e2 : y = _ := r'; subst e2
    refine op_notN pins s σ H _ _ v u Q I rx ry ⟨rfl, ?_⟩
    cases d with
    | non =>
      have e1 : x = _ := r; subst e1
      exact P0.here g h rfl
    | _ => rw [non_iff r (by intro z; cases z)]; exact P0.here g h rfl
  | bl b =>
    cases d with
    | bl a =>
      have e1 : x = _ := r; have e2 : y = _ := r'; subst e1; subst e2
      exact op_notBl pins s σ H _ _ v u Q I rx ry ⟨a, b, rfl, rfl, P0.here g h rfl⟩
    | _ => exact h.elim
  | _ => cases d <;> exact h.elim
end
end Cut
/-! More operations: in, items, slices, truth, built-ins, methods. -/
namespace Cut
open PySem PySem.Spec PyProof.Rows L2
variable [Tbl]
section
variable {X : Cx}
theorem sz_str (s : List Nat) : (⟨s.toArray⟩ : Str).length = s.length := by simp [Str.length]
theorem ok_in : OpR X (compareOp .In) (r2 X.K (op2 .in_)) := by
  rintro pins s σ H x y v u Q I rx ry ⟨d, e, G, μ, g, r, r', h⟩
  obtain ⟨b, hb, h⟩ := okO_some h
  have seq : ∀ xs, items e G = some xs → (if flatD d && xs.all flatD then some (xs.any fun y => eqF y d) else none) = some b → wpAny (model X.prog X.w) X.A (compareOp .In v u) (EP X pins σ Q) X.xe s := by
    intro xs hx hb
    split at hb
    · rename_i hf
      rw [Bool.and_eq_true] at hf
      cases hb
      obtain ⟨p, vs, rfl, hq, rs⟩ := items_rd g hx r'
      exact op_in_seq pins s σ H _ _ v u Q I rx ry ⟨p, vs, rfl, hq, flat_rd hf.1 r, flats_rd hf.2 rs, by
        show Q (.bl (inV x vs)) H
        unfold inV
        rw [anyF_rd hf.1 r hf.2 rs]
        exact P0.here g h rfl⟩
    · cases hb
  unfold inD at hb
  split at hb
  · rename_i c z
    cases hb
    have e1 : x = _ := r; have e2 : y = _ := r'; subst e1; subst e2
    exact op_in_sign pins s σ H _ _ v u Q I rx ry ⟨c, ⟨z.toArray⟩, rfl, rfl, P0.here g h rfl⟩
  · split at hb
    · rename_i xs hx
      exact seq xs hx hb
    · cases hb
theorem ok_notin : OpR X (compareOp .NotIn) (r2 X.K (op2 .notin)) := by
  rintro pins s σ H x y v u Q I rx ry ⟨d, e, G, μ, g, r, r', h⟩
  obtain ⟨b0, hb0, h⟩ := okO_some h
  rw [Option.map_eq_some_iff] at hb0
  obtain ⟨b, hb, rfl⟩ := hb0
  have seq : ∀ xs, items e G = some xs → (if flatD d && xs.all flatD then some (xs.any fun y => eqF y d) else none) = some b → wpAny (model X.prog X.w) X.A (compareOp .NotIn v u) (EP X pins σ Q) X.xe s := by
    intro xs hx hb
    split at hb
    · rename_i hf
      rw [Bool.and_eq_true] at hf
      cases hb
      obtain ⟨p, vs, rfl, hq, rs⟩ := items_rd g hx r'
      exact op_notIn_seq pins s σ H _ _ v u Q I rx ry ⟨p, vs, rfl, hq, flat_rd hf.1 r, flats_rd hf.2 rs, by
        show Q (.bl (!inV x vs)) H
        unfold inV
        rw [anyF_rd hf.1 r hf.2 rs]
        exact P0.here g h rfl⟩
    · cases hb
  unfold inD at hb
  split at hb
  · rename_i c z
    cases hb
    have e1 : x = _ := r; have e2 : y = _ := r'; subst e1; subst e2
    exact op_notIn_str pins s σ H _ _ v u Q I rx ry ⟨⟨#[c]⟩, ⟨z.toArray⟩, rfl, rfl, by
      rw [PySem.StrLaws.found_one]
      exact P0.here g h rfl⟩
  · split at hb
    · rename_i xs hx
      exact seq xs hx hb
    · cases hb
theorem ok_ix : IxR X (r2 X.K (op2 .ix)) := by
  rintro value slice pins s σ H x y v u Q I rx ry ⟨d, e, G, μ, g, r, r', h⟩ hs
  cases d <;> cases e <;> try exact h.elim
  case str.int z i =>
    have e1 : x = _ := r; have e2 : y = _ := r'; subst e1; subst e2
    simp only [op2] at h
    split at h
    · rename_i hl
      obtain ⟨b, hb, h⟩ := okD_some h
      rw [Option.map_eq_some_iff] at hb
      obtain ⟨c, hc, rfl⟩ := hb
      exact ix_str value slice pins s σ H _ _ v u Q I rx ry ⟨_, i, c, rfl, rfl, by rw [sz_str]; exact hl, hc, P0.here g h rfl⟩ hs
    · exact h.elim
  case tup.int xs i =>
    obtain ⟨a, vs, rfl, s1, rs⟩ := r
    have e2 : y = _ := r'; subst e2
    obtain ⟨b, hb, h⟩ := okD_some h
    obtain ⟨w, hw, rw'⟩ := rs.at hb
    exact ix_tup value slice pins s σ H _ _ v u Q I rx ry ⟨a, vs, i, w, rfl, rfl, s1, hw, P0.here g h rw'⟩ hs
  case ref.int n i =>
    obtain ⟨a, rfl, ma⟩ := r
    have e2 : y = _ := r'; subst e2
    simp only [op2] at h
    split at h
    · rename_i xs hx
      obtain ⟨vs, rs, sq, _⟩ := g.sq hx ma
      obtain ⟨b, hb, h⟩ := okD_some h
      obtain ⟨w, hw, rw'⟩ := rs.at hb
      exact ix_list value slice pins s σ H _ _ v u Q I rx ry ⟨a, vs, i, w, rfl, rfl, sq, hw, P0.here g h rw'⟩ hs
    · exact h.elim
def rSlD (K : PySem.W.Frag) : V → Option Int → Option Int → Hp → VK → Prop := fun x lo hi H Q => ∃ d G μ, RG K H μ G ∧ RD K H μ d x ∧ Post0 K H μ (opSl d lo hi G) fun d _ H' μ' => ∀ v, RD K H' μ' d v → Q v H'
theorem ok_sl : SlR X (rSlD X.K) := by
  rintro pins s σ H x v vl vu lo hi sl Q I rx hs pl pu ⟨d, G, μ, g, r, h⟩
  cases d <;> try exact h.elim
  case str z =>
    have e1 : x = _ := r; subst e1
    simp only [opSl] at h
    split at h
    · rename_i hl
      refine sl_str pins s σ H _ v vl vu lo hi sl Q I rx hs pl pu ⟨_, rfl, by rw [sz_str]; exact hl, ?_⟩
      refine P0.here g h ?_
      show V.str _ = V.str _
      congr 1
    · exact h.elim
  case tup xs =>
    obtain ⟨a, vs, rfl, s1, rs⟩ := r
    refine sl_tupA pins s σ H _ v vl vu lo hi sl Q I rx hs pl pu ⟨a, vs, rfl, s1, fun hw => ?_, fun _ => P0.newT g h (rs.cut lo hi)⟩
    have e : cutV vs lo hi = vs := by
      unfold cutV
      rw [hw.1, hw.2, List.drop_zero, Nat.sub_zero, List.take_length]
    exact P0.here g h ⟨a, vs, rfl, s1, by have := rs.cut lo hi; rw [e] at this; exact this⟩
  case ref n =>
    obtain ⟨a, rfl, ma⟩ := r
    simp only [opSl] at h
    split at h
    · rename_i xs hx
      obtain ⟨vs, rs, sq, _⟩ := g.sq hx ma
      exact sl_list pins s σ H _ v vl vu lo hi sl Q I rx hs pl pu ⟨a, vs, rfl, sq, (P0.newL g h (rs.cut lo hi)).2⟩
    · exact h.elim
theorem tru_rd {K : PySem.W.Frag} {H : Hp} {μ : List Addr} {G : Store} (g : RG K H μ G) {d : D} {x : V} {b : Bool} (h : truthy d G = some b) (r : RD K H μ d x) : TruV K x H b := by
  cases d with
  | non => have e1 : x = _ := r; subst e1; cases h; rfl
  | bl c => have e1 : x = _ := r; subst e1; cases h; rfl
  | int i => have e1 : x = _ := r; subst e1; cases h; rfl
  | str z =>
    have e1 : x = _ := r; subst e1
    simp only [truthy] at h
    split at h
    · rename_i hl
      cases h
      refine ⟨by rw [sz_str]; exact hl, ?_⟩
      rw [sz_str]
      cases z <;> simp
      all_goals omega
    · cases h
  | tup xs =>
    obtain ⟨a, vs, rfl, s1, rs⟩ := r
    cases h
    refine .inr (.inl ⟨vs, s1, ?_⟩)
    have := rs.len
    cases xs <;> cases vs <;> simp_all
  | ref n =>
    obtain ⟨a, rfl, ma⟩ := r
    simp only [truthy, Option.map_eq_some_iff] at h
    obtain ⟨xs, hx, rfl⟩ := h
    obtain ⟨vs, rs, sq, _⟩ := g.sq hx ma
    refine .inl ⟨vs, sq, ?_⟩
    have := rs.len
    cases xs <;> cases vs <;> simp_all
  | ty _ => cases h
theorem ok_neg : UnR X (unaryOp .USub) (r1 X.K (op1 .neg)) := by
  rintro pins s σ H x v Q I rx ⟨d, G, μ, g, r, h⟩
  cases d <;> try exact h.elim
  case int i =>
    have e1 : x = _ := r; subst e1
    exact un_neg pins s σ H _ v Q I rx ⟨i, rfl, P0.here g h rfl⟩

/-! ### built-ins -/
theorem RDs.nil {K : PySem.W.Frag} {H : Hp} {μ : List Addr} {vs : List V} (h : RDs K H μ [] vs) : vs = [] := h
theorem RDs.c1 {K : PySem.W.Frag} {H : Hp} {μ : List Addr} {d : D} {vs : List V} (h : RDs K H μ [d] vs) : ∃ v, vs = [v] ∧ RD K H μ d v := by
  obtain ⟨v, ws, e, r, rs⟩ := h
  exact ⟨v, by rw [e, rs.nil], r⟩
theorem RDs.c2 {K : PySem.W.Frag} {H : Hp} {μ : List Addr} {d e : D} {vs : List V} (h : RDs K H μ [d, e] vs) : ∃ v w, vs = [v, w] ∧ RD K H μ d v ∧ RD K H μ e w := by
  obtain ⟨v, ws, q, r, rs⟩ := h
  obtain ⟨w, q2, r2⟩ := RDs.c1 rs
  exact ⟨v, w, by rw [q, q2], r, r2⟩
theorem P0.b1 {g : D → Store → R D} {xs : List D} {G : Store} {K : PySem.W.Frag} {H : Hp} {μ : List Addr} {P : D → Store → Hp → List Addr → Prop} (h : Post0 K H μ (b1 g xs G) P) : ∃ d, xs = [d] ∧ Post0 K H μ (g d G) P := by
  match xs, h with
  | [], h => exact h.elim
  | [d], h => exact ⟨d, rfl, h⟩
  | _ :: _ :: _, h => exact h.elim
theorem P0.b2 {g : D → D → Store → R D} {xs : List D} {G : Store} {K : PySem.W.Frag} {H : Hp} {μ : List Addr} {P : D → Store → Hp → List Addr → Prop} (h : Post0 K H μ (b2 g xs G) P) : ∃ d e, xs = [d, e] ∧ Post0 K H μ (g d e G) P := by
  match xs, h with
  | [], h => exact h.elim
  | [d], h => exact h.elim
  | [d, e], h => exact ⟨d, e, rfl, h⟩
  | _ :: _ :: _ :: _, h => exact h.elim
theorem P0.b0 {g : Store → R D} {xs : List D} {G : Store} {K : PySem.W.Frag} {H : Hp} {μ : List Addr} {P : D → Store → Hp → List Addr → Prop} (h : Post0 K H μ (b0 g xs G) P) : xs = [] ∧ Post0 K H μ (g G) P := by
  match xs, h with
  | [], h => exact ⟨rfl, h⟩
  | _ :: _, h => exact h.elim
theorem ok_len : CallR X (.builtin "len") (rN X.K (bf .len)) := by
  rintro pins s σ H xs us Q I rs ⟨ds, G, μ, g, r0, h0⟩
  obtain ⟨d, rfl, h⟩ := P0.b1 (show Post0 X.K H μ (b1 _ ds G) _ from h0)
  clear h0
  obtain ⟨x, rfl, r⟩ := RDs.c1 r0
  clear r0
  cases d <;> try exact h.elim
  case str z =>
    have e1 : x = _ := r; subst e1
    simp only [lenD, tupD, lstD] at h
    split at h
    · rename_i hl
      exact call_len_str pins s σ H _ us Q I rs ⟨_, rfl, by rw [sz_str]; exact hl, by rw [sz_str]; exact P0.here g h rfl⟩
    · exact h.elim
  case tup ys =>
    obtain ⟨a, vs, rfl, s1, r⟩ := r
    exact call_len_seq pins s σ H _ us Q I rs ⟨a, vs, rfl, .inr s1, by rw [r.len]; exact P0.here g h rfl⟩
  case ref n =>
    obtain ⟨a, rfl, ma⟩ := r
    simp only [lenD, tupD, lstD] at h
    split at h
    · rename_i ys hx
      obtain ⟨vs, r, sq, _⟩ := g.sq hx ma
      exact call_len_seq pins s σ H _ us Q I rs ⟨a, vs, rfl, .inl sq, by rw [r.len]; exact P0.here g h rfl⟩
    · exact h.elim
theorem ok_int : CallR X (.type "int") (rN X.K (bf .int)) := by
  rintro pins s σ H xs us Q I rs ⟨ds, G, μ, g, r0, h0⟩
  obtain ⟨d, rfl, h⟩ := P0.b1 (show Post0 X.K H μ (b1 _ ds G) _ from h0)
  clear h0
  obtain ⟨x, rfl, r⟩ := RDs.c1 r0
  clear r0
  cases d <;> try exact h.elim
  case int i =>
    have e1 : x = _ := r; subst e1
    exact call_int1 pins s σ H _ us Q I rs (.inl ⟨i, rfl, P0.here g h rfl⟩)
  case bl i =>
    have e1 : x = _ := r; subst e1
    exact call_int1 pins s σ H _ us Q I rs (.inr ⟨i, rfl, P0.here g h rfl⟩)
theorem ok_tuple : CallR X (.type "tuple") (rN X.K (bf .tuple)) := by
  rintro pins s σ H xs us Q I rs ⟨ds, G, μ, g, r0, h0⟩
  obtain ⟨d, rfl, h⟩ := P0.b1 (show Post0 X.K H μ (b1 _ ds G) _ from h0)
  clear h0
  obtain ⟨x, rfl, r⟩ := RDs.c1 r0
  clear r0
  cases d <;> try exact h.elim
  case tup ys =>
    obtain ⟨a, vs, rfl, s1, r⟩ := r
    exact call_tuple_of pins s σ H _ us Q I rs ⟨a, vs, rfl, .inr ⟨s1, P0.here g h ⟨a, vs, rfl, s1, r⟩⟩⟩
  case ref n =>
    obtain ⟨a, rfl, ma⟩ := r
    simp only [lenD, tupD, lstD] at h
    split at h
    · rename_i ys hx
      obtain ⟨vs, r, sq, _⟩ := g.sq hx ma
      exact call_tuple_of pins s σ H _ us Q I rs ⟨a, vs, rfl, .inl ⟨sq, P0.newT g h r⟩⟩
    · exact h.elim
theorem rds_keys {K : PySem.W.Frag} {H : Hp} {μ : List Addr} : ∀ ks : List L2.Key, RDs K H μ (ks.map keyV) (ks.map kV)
  | [] => rfl
  | .inl i :: ks => ⟨_, _, rfl, rfl, rds_keys ks⟩
  | .inr x :: ks => ⟨_, _, rfl, (show V.str x = V.str ⟨x.cps.toList.toArray⟩ by simp), rds_keys ks⟩
theorem ok_list (hc : X.calm = true) : CallR X (.type "list") (rN X.K (bf .list)) := by
  rintro pins s σ H xs us Q I rs ⟨ds, G, μ, g, r0, h0⟩
  obtain ⟨d, rfl, h⟩ := P0.b1 (show Post0 X.K H μ (b1 _ ds G) _ from h0)
  clear h0
  obtain ⟨x, rfl, r⟩ := RDs.c1 r0
  clear r0
  cases d <;> try exact h.elim
  case tup ys =>
    obtain ⟨a, vs, rfl, s1, r⟩ := r
    exact call_list_of pins s σ H _ us Q I rs ⟨a, vs, rfl, .inr s1, (P0.newL g h r).2⟩
  case ref n =>
    obtain ⟨a, rfl, ma⟩ := r
    simp only [lenD, tupD, lstD] at h
    split at h
    · rename_i ys hx
      obtain ⟨vs, r, sq, _⟩ := g.sq hx ma
      exact call_list_of pins s σ H _ us Q I rs ⟨a, vs, rfl, .inl sq, (P0.newL g h r).2⟩
    · split at h
      · rename_i kvs hd
        obtain ⟨ws, rk, hH⟩ := g.dq hd ma
        have e1 : (kvs.map fun kv => keyV kv.1) = (ws.map (·.1)).map keyV := by rw [rk.1, List.map_map]; rfl
        have e2 : (ws.map fun kv => kV kv.1) = (ws.map (·.1)).map kV := by rw [List.map_map]; rfl
        rw [e1] at h
        refine call_listD hc pins s σ H _ us Q I rs ⟨a, ws, rfl, .inl hH, ?_⟩
        rw [e2]
        exact (P0.newL g h (rds_keys _)).2
      · exact h.elim
theorem ok_min (hc : X.calm = true) : CallR X (.builtin "min") (rN X.K (bf .min)) := by
  rintro pins s σ H xs us Q I rs ⟨ds, G, μ, g, r0, h0⟩
  obtain ⟨d, e, rfl, h⟩ := P0.b2 (show Post0 X.K H μ (b2 _ ds G) _ from h0)
  clear h0
  obtain ⟨x, y, rfl, r, r'⟩ := RDs.c2 r0
  clear r0
  cases d <;> cases e <;> try exact h.elim
  case int.int i j =>
    have e1 : x = _ := r; have e2 : y = _ := r'; subst e1; subst e2
    exact call_min2 hc pins s σ H _ us Q I rs ⟨i, j, rfl, P0.here g h rfl⟩
theorem ok_max (hc : X.calm = true) : CallR X (.builtin "max") (rN X.K (bf .max)) := by
  rintro pins s σ H xs us Q I rs ⟨ds, G, μ, g, r0, h0⟩
  obtain ⟨d, e, rfl, h⟩ := P0.b2 (show Post0 X.K H μ (b2 _ ds G) _ from h0)
  clear h0
  obtain ⟨x, y, rfl, r, r'⟩ := RDs.c2 r0
  clear r0
  cases d <;> cases e <;> try exact h.elim
  case int.int i j =>
    have e1 : x = _ := r; have e2 : y = _ := r'; subst e1; subst e2
    exact call_max2 hc pins s σ H _ us Q I rs ⟨i, j, rfl, P0.here g h rfl⟩
theorem kit_is (K : PySem.W.Frag) (a b : Ty) : PySem.W.kitOne K (.type a.name) (.type b.name) = some (isTy a b) := by
  cases a <;> cases b <;> exact kit_ty (by decide +kernel)
theorem kits_is (K : PySem.W.Frag) {H : Hp} {μ : List Addr} (a : Ty) : ∀ {ts : List D} {b : Bool} {vs : List V}, isTys a ts = some b → RDs K H μ ts vs → ∃ us, Paired ClsV vs us ∧ PySem.W.kitAny K (.type a.name) us = some b
  | [], b, vs, h, r => by rw [r.nil]; cases h; exact ⟨[], .nil, rfl⟩
  | t :: ts, b, vs, h, ⟨v, ws, e, r, rs⟩ => by
    cases t <;> try (cases h; done)
    case ty t =>
      simp only [isTys, Option.map_eq_some_iff] at h
      obtain ⟨b', h1, h2⟩ := h
      obtain ⟨us, p, k⟩ := kits_is K a h1 rs
      have e1 : v = _ := r
      subst e1; subst e
      refine ⟨.type t.name :: us, .cons (.ty _) p, ?_⟩
      unfold PySem.W.kitAny
      rw [kit_is]
      cases q : isTy a t with
      | true => rw [q] at h2; simp at h2; subst h2; rfl
      | false => rw [q] at h2; simp at h2; subst h2; exact k
theorem ty_rd {K : PySem.W.Frag} {H : Hp} {μ : List Addr} {G : Store} (g : RG K H μ G) {d : D} {x : V} {a : Ty} (h : tyOf d G = some a) (r : RD K H μ d x) : TyX K H x (.type a.name) := by
  cases d with
  | non => have e1 : x = _ := r; subst e1; cases h; exact .base .non
  | bl c => have e1 : x = _ := r; subst e1; cases h; exact .base (.bl _)
  | int i => have e1 : x = _ := r; subst e1; cases h; exact .base (.int _)
  | str z => have e1 : x = _ := r; subst e1; cases h; exact .base (.str _)
  | tup xs =>
    obtain ⟨a, vs, rfl, s1, rs⟩ := r
    cases h
    rcases s1 with (s1 | ⟨o, s1⟩) | ⟨o, its, n, h1, h2, _⟩
    · exact .base (.tup s1)
    · exact .fTuple s1
    · exact .kTuple h1 h2
  | ref n =>
    obtain ⟨a, rfl, ma⟩ := r
    simp only [tyOf, Option.map_eq_some_iff] at h
    obtain ⟨xs, hx, rfl⟩ := h
    obtain ⟨vs, rs, sq, _⟩ := g.sq hx ma
    rcases sq with (s1 | ⟨o, s1⟩) | ⟨o, its, n, h1, h2, _⟩
    · exact .base (.lst s1)
    · exact .base (.frz s1)
    · exact .kList h1 h2
  | ty _ => cases h
theorem call_isiA {X : Cx} : CallR X (.builtin "isinstance") (fun xs H Q => ∃ (x : V) (tp : Addr) (cs : List V) (t : Value) (us : List Value) (b : Bool), xs = [x, .ref tp] ∧ SqT X.K H tp cs ∧ Paired ClsV cs us ∧ TyX X.K H x t ∧ PySem.W.kitAny X.K t us = some b ∧ Q (.bl b) H) := by
  intro pins s σ H xs us Q I r h
  obtain ⟨x, tp, cs, t, ws, b, rfl, hT, k, ty, e, q⟩ := h
  obtain ⟨u1, u2, rfl, r1, r2⟩ := vals2 r
  cases (show u2 = Value.ref tp from r2)
  obtain ⟨P, Z, p, hx⟩ := kit_of I r1 ty
  obtain ⟨its, rv, ⟨o, h1, h2, n, h3⟩, _⟩ := I.tuple hT
  have e3 := ClsV.all k rv
  subst e3
  obtain ⟨oc, od, dt, sl⟩ := o
  simp only at h2 h3
  subst h2 h3
  exact PySem.W.kia_tup Z I.kIn p h1 e hx fun tk => ⟨.bl b, H, I.tok tk, rfl, q⟩
theorem ok_isin : CallR X (.builtin "isinstance") (rN X.K (bf .isin)) := by
  rintro pins s σ H xs us Q I rs ⟨ds, G, μ, g, r0, h0⟩
  obtain ⟨d, e, rfl, h⟩ := P0.b2 (show Post0 X.K H μ (b2 _ ds G) _ from h0)
  clear h0
  obtain ⟨x, y, rfl, r, r'⟩ := RDs.c2 r0
  clear r0
  cases e <;> try exact h.elim
  case ty b =>
    obtain ⟨c, hc, h⟩ := okO_some (show Post0 X.K H μ (okO ((tyOf d G).map fun a => isTy a b) G) _ from h)
    rw [Option.map_eq_some_iff] at hc
    obtain ⟨a, ha, rfl⟩ := hc
    have e2 : y = _ := r'; subst e2
    exact call_isi pins s σ H _ us Q I rs ⟨x, _, _, _, _, rfl, .ty _, ty_rd g ha r, kit_is _ a b, P0.here g h rfl⟩
  case tup ts =>
    have h : Post0 X.K H μ (match tyOf d G with
      | some a => okO (isTys a ts) G
      | none => .stuck) _ := h
    split at h
    · rename_i a ha
      obtain ⟨c, hc, h⟩ := okO_some h
      obtain ⟨tp, cs, rfl, s1, rs'⟩ := r'
      obtain ⟨us', p, k⟩ := kits_is X.K a hc rs'
      exact call_isiA pins s σ H _ us Q I rs ⟨x, tp, cs, _, us', c, rfl, s1, p, ty_rd g ha r, k, P0.here g h rfl⟩
    · exact h.elim
end
end Cut
/-! Expressions. -/
namespace Cut
open PySem PySem.Spec PyProof.Rows L2
variable [Tbl]
section
variable {X : Cx} {c : Ct}

theorem bind_ok {α β : Type} {r : R α} {f : α → Store → R β} {d : β} {G' : Store} (h : r.bind f = .ok d G') : ∃ a G, r = .ok a G ∧ f a G = .ok d G' := by
  cases r with
  | ok a G => exact ⟨a, G, rfl, h⟩
  | exc _ _ _ => cases h
  | stuck => cases h
theorem noExc_ok {α : Type} {r : R α} {d : α} {G' : Store} (h : noExc r = .ok d G') : r = .ok d G' := by
  cases r with
  | ok a G => exact h
  | exc _ _ _ => cases h
  | stuck => cases h
/-! ### binding of readings -/
theorem rE.k {d : D} {v : V} (h : ∀ H μ, RD c.K H μ d v) {σ : L2.St} {H : Hp} {Q : VK} (q : rE c (mK d) σ H Q) : tC v σ H Q := by
  obtain ⟨ρ, G, μ, re, rg, p⟩ := q
  exact p H μ (.refl _) (List.prefix_refl _) rg v (h H μ)
theorem rE.v {i : Nat} {σ : L2.St} {H : Hp} {Q : VK} (q : rE c (mV i) σ H Q) : tVar i σ H Q := by
  obtain ⟨ρ, G, μ, re, rg, p⟩ := q
  unfold mV at p
  split at p
  · rename_i d e
    obtain ⟨v, h1, h2⟩ := re.at_ i d e
    exact ⟨v, h1, p H μ (.refl _) (List.prefix_refl _) rg v h2⟩
  · exact p.elim
theorem rE.un {g : D → Store → R D} {f : ME} {σ : L2.St} {H : Hp} {Q : VK} (q : rE c (fun ρ G => (f ρ G).bind fun x G1 => noExc (g x G1)) σ H Q) : tUn (r1 c.K g) (rE c f) σ H Q := by
  obtain ⟨ρ, G, μ, re, rg, p⟩ := q
  refine ⟨ρ, G, μ, re, rg, p.bind.imp fun d G1 H1 μ1 x1 p1 g1 q1 v rv => ?_⟩
  exact ⟨d, G1, μ1, g1, rv, q1.no⟩
theorem rE.bin {g : D → D → Store → R D} {f f' : ME} {σ : L2.St} {H : Hp} {Q : VK} (q : rE c (fun ρ G => (f ρ G).bind fun x G1 => (f' ρ G1).bind fun y G2 => noExc (g x y G2)) σ H Q) : tOp (r2 c.K g) (rE c f) (rE c f') σ H Q := by
  obtain ⟨ρ, G, μ, re, rg, p⟩ := q
  refine ⟨ρ, G, μ, re, rg, p.bind.imp fun d G1 H1 μ1 x1 p1 g1 q1 v rv => ?_⟩
  refine ⟨ρ, G1, μ1, re.mono x1 p1, g1, q1.bind.imp fun e G2 H2 μ2 x2 p2 g2 q2 w rw' => ?_⟩
  exact ⟨d, e, G2, μ2, g2, rv.mono x2 p2, rw', q2.no⟩
theorem rA.nil {σ : L2.St} {H : Hp} {Q : List V → Hp → Prop} (q : rA c mNil σ H Q) : tNil σ H Q := by
  obtain ⟨ρ, G, μ, re, rg, p⟩ := q
  exact p H μ (.refl _) (List.prefix_refl _) rg [] rfl
theorem rA.cons {f : ME} {fs : MEs} {σ : L2.St} {H : Hp} {Q : List V → Hp → Prop} (q : rA c (mCons f fs) σ H Q) : tCons (rE c f) (rA c fs) σ H Q := by
  obtain ⟨ρ, G, μ, re, rg, p⟩ := q
  refine ⟨ρ, G, μ, re, rg, p.bind.imp fun d G1 H1 μ1 x1 p1 g1 q1 v rv => ?_⟩
  refine ⟨ρ, G1, μ1, re.mono x1 p1, g1, q1.bind.imp fun ds G2 H2 μ2 x2 p2 g2 q2 vs rvs => ?_⟩
  exact q2 H2 μ2 (.refl _) (List.prefix_refl _) g2 (v :: vs) ⟨v, vs, rfl, rv.mono x2 p2, rvs⟩
theorem rA.call {g : List D → Store → R D} {fs : MEs} {σ : L2.St} {H : Hp} {Q : VK} (q : rE c (mArgs (fun xs G => noExc (g xs G)) fs) σ H Q) : tCB (rN c.K g) (rA c fs) σ H Q := by
  obtain ⟨ρ, G, μ, re, rg, p⟩ := q
  refine ⟨ρ, G, μ, re, rg, p.bind.imp fun ds G1 H1 μ1 x1 p1 g1 q1 vs rvs => ?_⟩
  exact ⟨ds, G1, μ1, g1, rvs, q1.no⟩
theorem rE.tup {fs : MEs} {σ : L2.St} {H : Hp} {Q : VK} (q : rE c (mTup fs) σ H Q) : tTup (rA c fs) σ H Q := by
  obtain ⟨ρ, G, μ, re, rg, p⟩ := q
  refine ⟨ρ, G, μ, re, rg, p.bind.imp fun ds G1 H1 μ1 x1 p1 g1 q1 vs rvs => ?_⟩
  split at q1
  · rename_i hl
    exact ⟨by rw [rvs.len]; exact hl, fun a ha => P0.newT (Q := Q) g1 q1 rvs a ha⟩
  · exact q1.elim
theorem rE.dic0 {σ : L2.St} {H : Hp} {Q : VK} (q : rE c mDic0 σ H Q) : tDNewK σ H Q := by
  obtain ⟨ρ, G, μ, re, rg, p⟩ := q
  intro a ha
  exact p _ _ (.new ha) (List.prefix_append _ _) (rg.newD ha) _ ⟨a, rfl, by rw [← rg.len, List.getElem?_append_right (Nat.le_refl _), Nat.sub_self]; rfl⟩
theorem rE.lst {fs : MEs} {σ : L2.St} {H : Hp} {Q : VK} (q : rE c (mLst fs) σ H Q) : tLst (rA c fs) σ H Q := by
  obtain ⟨ρ, G, μ, re, rg, p⟩ := q
  refine ⟨ρ, G, μ, re, rg, p.bind.imp fun ds G1 H1 μ1 x1 p1 g1 q1 vs rvs => ?_⟩
  have q2 : Post0 c.K H1 μ1 (newL ds G1) (Wn c.K Q) := by
    unfold newL at q1 ⊢
    split
    · rename_i hl; rw [if_pos hl] at q1; exact q1
    · rename_i hl; rw [if_neg hl] at q1; exact q1
  exact P0.newL g1 q2 rvs
theorem rO.no {σ : L2.St} {H : Hp} {Q : Option Int → Hp → Prop} (q : rO c mNo σ H Q) : tNoPart σ H Q := by
  obtain ⟨ρ, G, μ, re, rg, p⟩ := q
  exact p H μ (.refl _) (List.prefix_refl _) rg
theorem rO.some {f : ME} {σ : L2.St} {H : Hp} {Q : Option Int → Hp → Prop} (q : rO c (mSome f) σ H Q) : tPart (rE c f) σ H Q := by
  obtain ⟨ρ, G, μ, re, rg, p⟩ := q
  refine ⟨ρ, G, μ, re, rg, p.bind.imp fun d G1 H1 μ1 x1 p1 g1 q1 v rv => ?_⟩
  cases d <;> try exact q1.elim
  case int i =>
    have e : v = _ := rv
    exact ⟨i, e, q1 H1 μ1 (.refl _) (List.prefix_refl _) g1⟩
theorem rE.sl {f : ME} {l h : MEo} {σ : L2.St} {H : Hp} {Q : VK} (q : rE c (mSl f l h) σ H Q) : tSl (rSlD c.K) (rE c f) (rO c l) (rO c h) σ H Q := by
  obtain ⟨ρ, G, μ, re, rg, p⟩ := q
  refine ⟨ρ, G, μ, re, rg, p.bind.imp fun d G1 H1 μ1 x1 p1 g1 q1 v rv => ?_⟩
  refine ⟨ρ, G1, μ1, re.mono x1 p1, g1, q1.bind.imp fun e G2 H2 μ2 x2 p2 g2 q2 => ?_⟩
  refine ⟨ρ, G2, μ2, (re.mono x1 p1).mono x2 p2, g2, q2.bind.imp fun e3 G3 H3 μ3 x3 p3 g3 q3 => ?_⟩
  exact ⟨d, G3, μ3, g3, (rv.mono x2 p2).mono x3 p3, q3.no⟩
theorem rE.rev {f : ME} {σ : L2.St} {H : Hp} {Q : VK} (q : rE c (mRev f) σ H Q) : tRevL c.K (rE c f) σ H Q := by
  obtain ⟨ρ, G, μ, re, rg, p⟩ := q
  refine ⟨ρ, G, μ, re, rg, p.bind.imp fun d G1 H1 μ1 x1 p1 g1 q1 v rv => ?_⟩
  have q1 := q1.no
  cases d <;> try exact q1.elim
  case ref n =>
    obtain ⟨a, rfl, ma⟩ := rv
    simp only [opRev] at q1
    split at q1
    · rename_i xs hx
      obtain ⟨vs, rs, sq, _⟩ := g1.sq hx ma
      exact ⟨a, vs, rfl, sq, (P0.newL g1 q1 rs.rev).2⟩
    · exact q1.elim

/-! ### truth -/
theorem rT.of {f : ME} {σ : L2.St} {H : Hp} {Q : Bool → Hp → Prop} (hK : c.K = X.K) (q : rT c f σ H Q) : rE c f σ H fun x H' => ∃ k, TruV X.K x H' k ∧ Q k H' := by
  obtain ⟨ρ, G, μ, re, rg, p⟩ := q
  refine ⟨ρ, G, μ, re, rg, p.imp fun d G1 H1 μ1 x1 p1 g1 q1 v rv => ?_⟩
  obtain ⟨b, hb, q1⟩ := q1
  exact ⟨b, hK ▸ tru_rd g1 hb rv, q1⟩
theorem pt_of {e : Expr} {f : ME} (hK : c.K = X.K) (h : PE X e (rE c f)) (he : ∀ whole, isTrue e X.env whole = (do let v ← whole; standAt e.pos; holding [v] (PySem.truthy v))) : PT X e (rT c f) :=
  PT.imp (pt_truth h he) fun σ H Q q => rT.of hK q
theorem rT.not {f : ME} {σ : L2.St} {H : Hp} {Q : Bool → Hp → Prop} (q : rT c (mUn .not f) σ H Q) : tNot (rT c f) σ H Q := by
  obtain ⟨ρ, G, μ, re, rg, p⟩ := q
  refine ⟨ρ, G, μ, re, rg, p.bind.imp fun d G1 H1 μ1 x1 p1 g1 q1 => ?_⟩
  have q1 := q1.no
  unfold op1 at q1
  simp only at q1
  split at q1
  · rename_i b hb
    obtain ⟨b', e, q2⟩ := q1 H1 μ1 (.refl _) (List.prefix_refl _) g1
    cases e
    exact ⟨b, hb, q2⟩
  · exact q1.elim
theorem rE.not {f : ME} {σ : L2.St} {H : Hp} {Q : VK} (hK : c.K = X.K) (q : rE c (mUn .not f) σ H Q) : tNotT X.K (rE c f) σ H Q := by
  obtain ⟨ρ, G, μ, re, rg, p⟩ := q
  refine ⟨ρ, G, μ, re, rg, p.bind.imp fun d G1 H1 μ1 x1 p1 g1 q1 v rv => ?_⟩
  have q1 := q1.no
  unfold op1 at q1
  simp only at q1
  split at q1
  · rename_i b hb
    exact ⟨b, hK ▸ tru_rd g1 hb rv, q1 H1 μ1 (.refl _) (List.prefix_refl _) g1 _ rfl⟩
  · exact q1.elim
theorem rT.and {f g : ME} {σ : L2.St} {H : Hp} {Q : Bool → Hp → Prop} (q : rT c (mAnd f g) σ H Q) : tAnd (rT c f) (rT c g) σ H Q := by
  obtain ⟨ρ, G, μ, re, rg, p⟩ := q
  refine ⟨ρ, G, μ, re, rg, p.bind.imp fun d G1 H1 μ1 x1 p1 g1 q1 => ?_⟩
  split at q1
  · rename_i hb
    exact ⟨true, hb, iteT (⟨ρ, G1, μ1, re.mono x1 p1, g1, q1⟩)⟩
  · rename_i hb
    obtain ⟨b, e, q2⟩ := q1 H1 μ1 (.refl _) (List.prefix_refl _) g1
    rw [hb] at e
    cases e
    exact ⟨false, hb, iteF (q2)⟩
  · exact q1.elim
theorem rT.or {f g : ME} {σ : L2.St} {H : Hp} {Q : Bool → Hp → Prop} (q : rT c (mOr f g) σ H Q) : tOr (rT c f) (rT c g) σ H Q := by
  obtain ⟨ρ, G, μ, re, rg, p⟩ := q
  refine ⟨ρ, G, μ, re, rg, p.bind.imp fun d G1 H1 μ1 x1 p1 g1 q1 => ?_⟩
  split at q1
  · rename_i hb
    exact ⟨false, hb, iteF (⟨ρ, G1, μ1, re.mono x1 p1, g1, q1⟩)⟩
  · rename_i hb
    obtain ⟨b, e, q2⟩ := q1 H1 μ1 (.refl _) (List.prefix_refl _) g1
    rw [hb] at e
    cases e
    exact ⟨true, hb, iteT (q2)⟩
  · exact q1.elim
theorem rE.and {f g : ME} {σ : L2.St} {H : Hp} {Q : VK} (hK : c.K = X.K) (q : rE c (mAnd f g) σ H Q) : tAndT X.K (rE c f) (rE c g) σ H Q := by
  obtain ⟨ρ, G, μ, re, rg, p⟩ := q
  refine ⟨ρ, G, μ, re, rg, p.bind.imp fun d G1 H1 μ1 x1 p1 g1 q1 v rv => ?_⟩
  split at q1
  · rename_i hb
    exact ⟨true, hK ▸ tru_rd g1 hb rv, iteT (⟨ρ, G1, μ1, re.mono x1 p1, g1, q1⟩)⟩
  · rename_i hb
    exact ⟨false, hK ▸ tru_rd g1 hb rv, iteF (q1 H1 μ1 (.refl _) (List.prefix_refl _) g1 v rv)⟩
  · exact q1.elim
theorem rE.or {f g : ME} {σ : L2.St} {H : Hp} {Q : VK} (hK : c.K = X.K) (q : rE c (mOr f g) σ H Q) : tOrT X.K (rE c f) (rE c g) σ H Q := by
  obtain ⟨ρ, G, μ, re, rg, p⟩ := q
  refine ⟨ρ, G, μ, re, rg, p.bind.imp fun d G1 H1 μ1 x1 p1 g1 q1 v rv => ?_⟩
  split at q1
  · rename_i hb
    exact ⟨false, hK ▸ tru_rd g1 hb rv, iteF (⟨ρ, G1, μ1, re.mono x1 p1, g1, q1⟩)⟩
  · rename_i hb
    exact ⟨true, hK ▸ tru_rd g1 hb rv, iteT (q1 H1 μ1 (.refl _) (List.prefix_refl _) g1 v rv)⟩
  · exact q1.elim
theorem rE.ite {f g h : ME} {σ : L2.St} {H : Hp} {Q : VK} (q : rE c (mIte f g h) σ H Q) : tIf (rT c f) (rE c g) (rE c h) σ H Q := by
  obtain ⟨ρ, G, μ, re, rg, p⟩ := q
  refine ⟨ρ, G, μ, re, rg, p.bind.imp fun d G1 H1 μ1 x1 p1 g1 q1 => ?_⟩
  split at q1
  · rename_i hb
    exact ⟨true, hb, iteT (⟨ρ, G1, μ1, re.mono x1 p1, g1, q1⟩)⟩
  · rename_i hb
    exact ⟨false, hb, iteF (⟨ρ, G1, μ1, re.mono x1 p1, g1, q1⟩)⟩
  · exact q1.elim
def tIfT (t ta tb : TT) : TT := fun σ H Q => t σ H fun c H1 => if c = true then ta σ H1 Q else tb σ H1 Q
theorem pt_ifExp {t a b : Expr} {pos : Pos} {tt ta tb : TT} (ht : PT X t tt) (ha : PT X a ta) (hb : PT X b tb) : PT X (.IfExp t a b pos) (tIfT tt ta tb) := by
  refine ⟨fun pins s σ H Q I h => ?_⟩
  show wpAny _ _ (do if ← isTrue t X.env (eval t X.env) then isTrue a X.env (eval a X.env) else isTrue b X.env (eval b X.env)) _ _ _
  refine wpAny_bind (thn (ht.run pins s σ H _ I h) fun d s1 ⟨H1, I1, q1⟩ => ?_)
  cases d with
  | true =>
    rw [if_pos rfl] at q1
    exact ha.run pins s1 σ H1 Q I1 q1
  | false =>
    rw [if_neg (by decide)] at q1
    exact hb.run pins s1 σ H1 Q I1 q1
theorem rT.ite {f g h : ME} {σ : L2.St} {H : Hp} {Q : Bool → Hp → Prop} (q : rT c (mIte f g h) σ H Q) : tIfT (rT c f) (rT c g) (rT c h) σ H Q := by
  obtain ⟨ρ, G, μ, re, rg, p⟩ := q
  refine ⟨ρ, G, μ, re, rg, p.bind.imp fun d G1 H1 μ1 x1 p1 g1 q1 => ?_⟩
  split at q1
  · rename_i hb
    exact ⟨true, hb, iteT (⟨ρ, G1, μ1, re.mono x1 p1, g1, q1⟩)⟩
  · rename_i hb
    exact ⟨false, hb, iteF (⟨ρ, G1, μ1, re.mono x1 p1, g1, q1⟩)⟩
  · exact q1.elim

/-! ### comparisons -/
def cmpOf : Op2 → Option CmpOp
  | .eq => some .Eq | .ne => some .NotEq | .lt => some .Lt | .le => some .LtE | .gt => some .Gt | .ge => some .GtE
  | .is => some .Is | .isnot => some .IsNot | .in_ => some .In | .notin => some .NotIn
  | _ => none
def binOf : Op2 → Option Operator
  | .add => some .Add | .sub => some .Sub | .mul => some .Mult | .fdiv => some .FloorDiv | .mod => some .Mod | .pow => some .Pow | .xor => some .BitXor
  | _ => none
theorem op2_bl {o : Op2} {p : CmpOp} (h : cmpOf o = some p) {a b d : D} {G G' : Store} (e : op2 o a b G = .ok d G') : ∃ k, d = .bl k := by
  cases o <;> (try (cases h; done))
  case eq | ne | in_ | notin =>
    simp only [op2, okO] at e
    split at e
    · cases e; exact ⟨_, rfl⟩
    · cases e
  all_goals
    simp only [op2] at e
    split at e <;> first | (cases e; done) | (cases e; exact ⟨_, rfl⟩)
theorem ok_cmp (hu : X.A.units + 64 < cLine) {o : Op2} {p : CmpOp} (h : cmpOf o = some p) : OpR X (compareOp p) (r2 X.K (op2 o)) := by
  cases o <;> first | (cases h; done) | (cases h; first | exact ok_lt | exact ok_le | exact ok_gt | exact ok_ge | exact ok_is | exact ok_isnot | exact ok_in | exact ok_notin | exact ok_eq hu | exact ok_ne hu)
theorem ok_bin {o : Op2} {p : Operator} (h : binOf o = some p) : OpR X (binaryOp p) (r2 X.K (op2 o)) := by
  cases o <;> first | (cases h; done) | (cases h; first | exact ok_add | exact ok_sub | exact ok_mul | exact ok_fdiv | exact ok_mod | exact ok_pow | exact ok_xor)
theorem rT.cmp {o : Op2} {p : CmpOp} (ho : cmpOf o = some p) {f g : ME} {σ : L2.St} {H : Hp} {Q : Bool → Hp → Prop} (q : rT c (mBin o f g) σ H Q) : tTest (tOp (r2 c.K (op2 o)) (rE c f) (rE c g)) σ H Q := by
  obtain ⟨ρ, G, μ, re, rg, p⟩ := q
  refine ⟨ρ, G, μ, re, rg, p.bind.imp fun d G1 H1 μ1 x1 p1 g1 q1 v rv => ?_⟩
  refine ⟨ρ, G1, μ1, re.mono x1 p1, g1, q1.bind.imp fun e G2 H2 μ2 x2 p2 g2 q2 w rw' => ?_⟩
  refine ⟨d, e, G2, μ2, g2, rv.mono x2 p2, rw', ?_⟩
  have q3 := q2.no
  cases q : op2 o d e G2 with
  | ok z G3 =>
    rw [q] at q3
    obtain ⟨k, rfl⟩ := op2_bl ho q
    intro H3 μ3 x3 p3 g3 u ru
    obtain ⟨b, e1, q4⟩ := q3 H3 μ3 x3 p3 g3
    cases e1
    exact ⟨k, ru, q4⟩
  | exc n fs G3 => rw [q] at q3; exact q3.elim
  | stuck => rw [q] at q3; exact q3.elim
theorem rE.chain {o o' : Op2} {p : CmpOp} (ho : cmpOf o = some p) {f g h : ME} {σ : L2.St} {H : Hp} {Q : VK} (q : rE c (mChain o o' f g h) σ H Q) : tChain (r2 c.K (op2 o)) (r2 c.K (op2 o')) (rE c f) (rE c g) (rE c h) σ H Q := by
  obtain ⟨ρ, G, μ, re, rg, p⟩ := q
  refine ⟨ρ, G, μ, re, rg, p.bind.imp fun d G1 H1 μ1 x1 p1 g1 q1 v rv => ?_⟩
  have re1 := re.mono x1 p1
  refine ⟨ρ, G1, μ1, re1, g1, q1.bind.imp fun e G2 H2 μ2 x2 p2 g2 q2 w rw' => ?_⟩
  have re2 := re1.mono x2 p2
  refine ⟨d, e, G2, μ2, g2, rv.mono x2 p2, rw', ?_⟩
  have q3 := q2.bind.no
  cases q : op2 o d e G2 with
  | ok z G3 =>
    rw [q] at q3
    obtain ⟨k, rfl⟩ := op2_bl ho q
    intro H3 μ3 x3 p3 g3 u ru
    have e1 : u = _ := ru
    refine ⟨k, e1, ?_⟩
    have q4 := q3 H3 μ3 x3 p3 g3
    cases k with
    | true =>
      rw [if_pos rfl]
      refine ⟨ρ, G3, μ3, re2.mono x3 p3, g3, q4.bind.imp fun a G4 H4 μ4 x4 p4 g4 q5 t rt => ?_⟩
      exact ⟨e, a, G4, μ4, g4, (rw'.mono x3 p3).mono x4 p4, rt, q5.no⟩
    | false =>
      rw [if_neg (by decide)]
      exact q4 H3 μ3 (.refl _) (List.prefix_refl _) g3 _ rfl
  | exc n fs G3 => rw [q] at q3; exact q3.elim
  | stuck => rw [q] at q3; exact q3.elim
theorem rT.chain {o o' : Op2} {p p' : CmpOp} (ho : cmpOf o = some p) (ho' : cmpOf o' = some p') {f g h : ME} {σ : L2.St} {H : Hp} {Q : Bool → Hp → Prop} (q : rT c (mChain o o' f g h) σ H Q) : tTest (tChain (r2 c.K (op2 o)) (r2 c.K (op2 o')) (rE c f) (rE c g) (rE c h)) σ H Q := by
  refine rE.chain ho ?_
  obtain ⟨ρ, G, μ, re, rg, p⟩ := q
  refine ⟨ρ, G, μ, re, rg, ?_⟩
  have bl : ∀ d G', mChain o o' f g h ρ G = .ok d G' → ∃ k, d = .bl k := by
    intro d G' e
    obtain ⟨x, G1, e1, e⟩ := bind_ok e
    obtain ⟨y, G2, e2, e⟩ := bind_ok e
    obtain ⟨z, G3, e3, e⟩ := bind_ok e
    split at e
    · obtain ⟨w, G4, e4, e⟩ := bind_ok e
      exact op2_bl ho' (noExc_ok e)
    · cases e; exact ⟨_, rfl⟩
    · cases e
  cases q : mChain o o' f g h ρ G with
  | ok z G3 =>
    rw [q] at p
    obtain ⟨k, rfl⟩ := bl _ _ q
    intro H3 μ3 x3 p3 g3 u ru
    obtain ⟨b, e1, q4⟩ := p H3 μ3 x3 p3 g3
    cases e1
    exact ⟨k, ru, q4⟩
  | exc n fs G3 => rw [q] at p; exact p
  | stuck => rw [q] at p; exact p
end
end Cut
/-! What is walked; targets; comprehensions. -/
namespace Cut
open PySem PySem.Spec PyProof.Rows L2
variable [Tbl]

/-- a walk of theirs does what a walk of ours tells -/
structure JV (K : PySem.W.Frag) (J : L2.It) (v : Itv) (H0 : Hp) (μ0 : List Addr) : Prop where
  go : ∀ (i : Nat) (H : Hp) (μ : List Addr) (G : Store) (d : D), XT H0 H → μ0 <+: μ → RG K H μ G → v.at i G = some (some d) → J.go i H ∧ ∀ x H', J.yld i H x H' → XT H H' ∧ RG K H' μ G ∧ RD K H' μ d x
  stop : ∀ (i : Nat) (H : Hp) (μ : List Addr) (G : Store), XT H0 H → μ0 <+: μ → RG K H μ G → v.at i G = some none → J.stop i H
def rI (c : Ct) (f : MI) : TI := fun σ H R => ∃ ρ G μ, RE c.K H μ ρ σ ∧ RG c.K H μ G ∧ Post c σ H μ (f ρ G) fun v _ H' μ' => ∀ J, JV c.K J v H' μ' → R J H'

section
variable {K : PySem.W.Frag} {H : Hp} {μ : List Addr} {G : Store}
/-- what a source is of theirs -/
inductive SV (K : PySem.W.Frag) (H : Hp) (μ : List Addr) : Src → V → Prop where
  | tup {a : Addr} {ds : List D} {vs : List V} (h : SqT K H a vs) (r : RDs K H μ ds vs) : SV K H μ (.fix ds) (.ref a)
  | lst {n : Nat} {a : Addr} (h : μ[n]? = some a) : SV K H μ (.cell n) (.ref a)
  | str (s : List Nat) : SV K H μ (.fix (s.map fun c => .str [c])) (.str ⟨s.toArray⟩)
theorem src_sv (g : RG K H μ G) {d : D} {s : Src} {v : V} (h : srcOf d G = some s) (r : RD K H μ d v) : SV K H μ s v := by
  cases d with
  | tup xs => obtain ⟨a, vs, rfl, s1, rs⟩ := r; cases h; exact .tup s1 rs
  | str z =>
    have e : v = _ := r
    subst e
    simp only [srcOf] at h
    split at h
    · cases h; exact .str z
    · cases h
  | ref n =>
    obtain ⟨a, rfl, ma⟩ := r
    simp only [srcOf, Option.map_eq_some_iff] at h
    obtain ⟨xs, _, rfl⟩ := h
    exact .lst ma
  | _ => cases h
theorem sqT_inj {X : Cx} {pins : List (Addr × Obj)} {σ : L2.St} {s : Shared} (I : Inv X pins σ H s) {a : Addr} {xs ys : List V} (h : SqT X.K H a xs) (h' : SqT X.K H a ys) : xs = ys := I.tuple_inj h h'
theorem cell_at {n i : Nat} {d : D} (h : (Src.cell n).at i G = some (some d)) : ∃ xs, G.lst? n = some xs ∧ xs[i]? = some d := by
  simp only [Src.at, Option.map_eq_some_iff] at h
  exact h
theorem cell_end {n i : Nat} (h : (Src.cell n).at i G = some none) : ∃ xs, G.lst? n = some xs ∧ xs.length ≤ i := by
  simp only [Src.at, Option.map_eq_some_iff] at h
  obtain ⟨xs, h1, h2⟩ := h
  exact ⟨xs, h1, List.getElem?_eq_none_iff.mp h2⟩
end
section
variable {X : Cx} {c : Ct} {tg e : Expr}
def iSeq (K : PySem.W.Frag) (te : TE) : TI := fun σ H R => te σ H fun x H1 => (∃ a, x = .ref a ∧ (∃ xs, SqL K H1 a xs) ∧ R (Itl K a) H1) ∨ (∃ a, x = .ref a ∧ (∃ xs, SqT K H1 a xs) ∧ R (Itt K a) H1) ∨ ∃ z, x = .str z ∧ R (Its z) H1
theorem pi_any {te : TE} (he : PE X e te) : PI X tg e (iSeq X.K te) := by
  refine ⟨fun pins s σ H R I h => thn (he.run pins s σ H _ I h) fun v s1 ⟨x, H1, I1, r1, q1⟩ => ?_⟩
  rcases q1 with ⟨a, ex, ⟨xs, hx⟩, q⟩ | ⟨a, ex, ⟨xs, hx⟩, q⟩ | ⟨z, ex, q⟩ <;> subst ex
  · cases r1
    obtain ⟨its, _, pl, _⟩ := I1.list hx
    exact wpAny_pyIter_list pl.isList (pi_one (tk := s1.toks) I1 _ (turn_list a _) ⟨_, Heap.get?_push_size _ rfl, rfl, rfl⟩ q)
  · cases r1
    obtain ⟨its, _, pl, _⟩ := I1.tuple hx
    exact wpAny_pyIter_tuple (show s1.heap.IsTuple a its.toArray from pl) (pi_one (tk := s1.toks) I1 _ (turn_tuple a _) ⟨_, Heap.get?_push_size _ rfl, rfl, rfl⟩ q)
  · obtain ⟨t, rfl⟩ := r1
    cases ha : z.cps.all (· < 128) with
    | false => exact wpAny_pyIter_wide ha (pi_one (tk := s1.toks) I1 _ (turn_str _ z t _ (.inr rfl)) ⟨_, Heap.get?_push_size _ rfl, rfl, rfl⟩ q)
    | true => exact wpAny_pyIter_ascii ha (pi_one (tk := s1.toks) I1 _ (turn_str _ z t _ (.inl rfl)) ⟨_, Heap.get?_push_size _ rfl, rfl, rfl⟩ q)

/-! ### each walk of ours by one of theirs -/
section
variable {K : PySem.W.Frag} {H0 : Hp} {μ0 : List Addr}
theorem jv_tup {a : Addr} {ds : List D} {vs : List V} (h : SqT K H0 a vs) (r : RDs K H0 μ0 ds vs) : JV K (Itt K a) (.one (.fix ds)) H0 μ0 where
  go := fun i H μ G d x p g e => by
    have e : ds[i]? = some d := Option.some.inj e
    obtain ⟨v, h1, h2⟩ := r.get e
    refine ⟨⟨vs, v, x.sqT h, h1⟩, fun y H' hy => ?_⟩
    obtain ⟨rfl, hy⟩ := hy
    have := hy vs (x.sqT h)
    rw [h1] at this
    cases this
    exact ⟨.refl _, g, h2.mono x p⟩
  stop := fun i H μ G x p g e => by
    have e : ds[i]? = none := Option.some.inj e
    exact ⟨vs, x.sqT h, by rw [r.len]; exact List.getElem?_eq_none_iff.mp e⟩
theorem jv_lst {n : Nat} {a : Addr} (h : μ0[n]? = some a) : JV K (Itl K a) (.one (.cell n)) H0 μ0 where
  go := fun i H μ G d x p g e => by
    obtain ⟨xs, h1, h2⟩ := cell_at e
    obtain ⟨vs, rs, sq, _⟩ := g.sq h1 (pre_get p h)
    obtain ⟨v, h3, h4⟩ := rs.get h2
    refine ⟨⟨vs, v, sq, h3⟩, fun y H' hy => ?_⟩
    obtain ⟨rfl, hy⟩ := hy
    have := hy vs sq
    rw [h3] at this
    cases this
    exact ⟨.refl _, g, h4⟩
  stop := fun i H μ G x p g e => by
    obtain ⟨xs, h1, h2⟩ := cell_end e
    obtain ⟨vs, rs, sq, _⟩ := g.sq h1 (pre_get p h)
    exact ⟨vs, sq, by rw [rs.len]; exact h2⟩
theorem jv_str (s : List Nat) : JV K (Its ⟨s.toArray⟩) (.one (.fix (s.map fun c => .str [c]))) H0 μ0 where
  go := fun i H μ G d x p g e => by
    have e : (s.map fun c => D.str [c])[i]? = some d := Option.some.inj e
    rw [List.getElem?_map, Option.map_eq_some_iff] at e
    obtain ⟨c, hc, rfl⟩ := e
    have hl := (List.getElem?_eq_some_iff.mp hc).1
    refine ⟨by show i < s.toArray.size; simpa using hl, fun y H' hy => ?_⟩
    obtain ⟨rfl, c', h1, rfl⟩ := hy
    have h1 : s.toArray[i]? = some c' := h1
    rw [List.getElem?_toArray, hc] at h1
    cases h1
    exact ⟨.refl _, g, rfl⟩
  stop := fun i H μ G x p g e => by
    have e : (s.map fun c => D.str [c])[i]? = none := Option.some.inj e
    rw [List.getElem?_eq_none_iff, List.length_map] at e
    show s.toArray.size ≤ i
    simpa using e
theorem jv_rng (lo : Int) (n : Nat) : JV K (Itr lo n) (.rng lo n) H0 μ0 where
  go := fun i H μ G d x p g e => by
    have e : (if i < n then some (D.int (lo + i)) else none) = some d := Option.some.inj e
    split at e
    · rename_i hi
      cases e
      refine ⟨hi, fun y H' hy => ?_⟩
      obtain ⟨rfl, rfl⟩ := hy
      exact ⟨.refl _, g, rfl⟩
    · cases e
  stop := fun i H μ G x p g e => by
    have e : (if i < n then some (D.int (lo + i)) else none) = none := Option.some.inj e
    split at e
    · cases e
    · rename_i hi
      exact Nat.le_of_not_lt hi
theorem pair_new {H : Hp} {μ : List Addr} {G : Store} {T : Addr} {d e : D} {v w : V} (g : RG K H μ G) (hT : H T = none) (r : RD K H μ d v) (r' : RD K H μ e w) : XT H (upd H T (.tup [v, w])) ∧ RG K (upd H T (.tup [v, w])) μ G ∧ RD K (upd H T (.tup [v, w])) μ (.tup [d, e]) (.ref T) :=
  ⟨.new hT, g.fresh hT, T, [v, w], rfl, .inl (.inl upd_same), v, [w], rfl, r.mono (.new hT) (List.prefix_refl _), w, [], rfl, r'.mono (.new hT) (List.prefix_refl _), rfl⟩
theorem jv_enum {n : Nat} {a : Addr} (h : μ0[n]? = some a) : JV K (Ite K a) (.enum (.cell n)) H0 μ0 where
  go := fun i H μ G d x p g e => by
    simp only [Itv.at, Option.map_eq_some_iff] at e
    obtain ⟨o, h1, d', h2, rfl⟩ := e
    subst h2
    obtain ⟨xs, h1, h2⟩ := cell_at h1
    obtain ⟨vs, rs, sq, _⟩ := g.sq h1 (pre_get p h)
    obtain ⟨v, h3, h4⟩ := rs.get h2
    refine ⟨⟨vs, v, sq, h3⟩, fun y H' hy => ?_⟩
    obtain ⟨T, z, rfl, hT, rfl, hy⟩ := hy
    have := hy vs sq
    rw [h3] at this
    cases this
    exact pair_new g hT rfl h4
  stop := fun i H μ G x p g e => by
    simp only [Itv.at, Option.map_eq_some_iff] at e
    obtain ⟨o, h1, q⟩ := e
    rw [Option.map_eq_none_iff] at q
    subst q
    obtain ⟨xs, h1, h2⟩ := cell_end h1
    obtain ⟨vs, rs, sq, _⟩ := g.sq h1 (pre_get p h)
    exact ⟨vs, sq, by rw [rs.len]; exact h2⟩
theorem jv_zipT {a b : Addr} {ds es : List D} {vs ws : List V} (h1 : SqT K H0 a vs) (r1 : RDs K H0 μ0 ds vs) (h2 : SqT K H0 b ws) (r2 : RDs K H0 μ0 es ws) : JV K (RZ.ItzT K a b) (.zip (.fix ds) (.fix es)) H0 μ0 where
  go := fun i H μ G d x p g e => by
    simp only [Itv.at, Src.at] at e
    cases ed : ds[i]? with
    | none => rw [ed] at e; cases e
    | some d1 =>
      cases ee : es[i]? with
      | none => rw [ed, ee] at e; cases e
      | some d2 =>
        rw [ed, ee] at e
        cases e
        obtain ⟨v, g1, g2⟩ := r1.get ed
        obtain ⟨w, k1, k2⟩ := r2.get ee
        refine ⟨⟨vs, ws, v, w, x.sqT h1, x.sqT h2, g1, k1⟩, fun y H' hy => ?_⟩
        obtain ⟨T, z1, z2, rfl, hT, rfl, hy1, hy2⟩ := hy
        have e1 := hy1 vs (x.sqT h1)
        rw [g1] at e1; cases e1
        have e2 := hy2 ws (x.sqT h2)
        rw [k1] at e2; cases e2
        exact pair_new g hT (g2.mono x p) (k2.mono x p)
  stop := fun i H μ G x p g e => by
    simp only [Itv.at, Src.at] at e
    refine ⟨vs, ws, x.sqT h1, x.sqT h2, ?_⟩
    rw [r1.len, r2.len]
    cases ed : ds[i]? with
    | none => exact .inl (List.getElem?_eq_none_iff.mp ed)
    | some d1 =>
      cases ee : es[i]? with
      | none => exact .inr (List.getElem?_eq_none_iff.mp ee)
      | some d2 => rw [ed, ee] at e; cases e
theorem jv_zipL {m n : Nat} {a b : Addr} (h1 : μ0[m]? = some a) (h2 : μ0[n]? = some b) : JV K (Itz K a b) (.zip (.cell m) (.cell n)) H0 μ0 where
  go := fun i H μ G d x p g e => by
    simp only [Itv.at] at e
    cases ed : (Src.cell m).at i G with
    | none => rw [ed] at e; simp at e
    | some o1 =>
      cases ee : (Src.cell n).at i G with
      | none => rw [ed, ee] at e; cases o1 <;> simp at e
      | some o2 =>
        rw [ed, ee] at e
        cases o1 with
        | none => simp at e
        | some d1 =>
          cases o2 with
          | none => simp at e
          | some d2 =>
            cases e
            obtain ⟨xs, a1, a2⟩ := cell_at ed
            obtain ⟨ys, b1, b2⟩ := cell_at ee
            obtain ⟨vs, rs, sq, _⟩ := g.sq a1 (pre_get p h1)
            obtain ⟨ws, rs', sq', _⟩ := g.sq b1 (pre_get p h2)
            obtain ⟨v, g1, g2⟩ := rs.get a2
            obtain ⟨w, k1, k2⟩ := rs'.get b2
            refine ⟨⟨vs, ws, v, w, sq, sq', g1, k1⟩, fun y H' hy => ?_⟩
            obtain ⟨T, z1, z2, rfl, hT, rfl, hy1, hy2⟩ := hy
            have e1 := hy1 vs sq
            rw [g1] at e1; cases e1
            have e2 := hy2 ws sq'
            rw [k1] at e2; cases e2
            exact pair_new g hT g2 k2
  stop := fun i H μ G x p g e => by
    simp only [Itv.at] at e
    cases ed : (Src.cell m).at i G with
    | none => rw [ed] at e; simp at e
    | some o1 =>
      cases ee : (Src.cell n).at i G with
      | none => rw [ed, ee] at e; cases o1 <;> simp at e
      | some o2 =>
        have c1 : ∃ xs, G.lst? m = some xs ∧ xs[i]? = o1 := by
          simp only [Src.at, Option.map_eq_some_iff] at ed
          exact ed
        have c2 : ∃ xs, G.lst? n = some xs ∧ xs[i]? = o2 := by
          simp only [Src.at, Option.map_eq_some_iff] at ee
          exact ee
        obtain ⟨xs, a1, a2⟩ := c1
        obtain ⟨ys, b1, b2⟩ := c2
        obtain ⟨vs, rs, sq, _⟩ := g.sq a1 (pre_get p h1)
        obtain ⟨ws, rs', sq', _⟩ := g.sq b1 (pre_get p h2)
        refine ⟨vs, ws, sq, sq', ?_⟩
        rw [rs.len, rs'.len]
        rw [ed, ee] at e
        cases o1 with
        | none => exact .inl (List.getElem?_eq_none_iff.mp a2)
        | some d1 =>
          cases o2 with
          | none => exact .inr (List.getElem?_eq_none_iff.mp b2)
          | some d2 => simp at e
end
theorem rI.one {f : ME} {σ : L2.St} {H : Hp} {R : L2.It → Hp → Prop} (q : rI c (mOne f) σ H R) : iSeq c.K (rE c f) σ H R := by
  obtain ⟨ρ, G, μ, re, rg, p⟩ := q
  refine ⟨ρ, G, μ, re, rg, p.bind.imp fun d G1 H1 μ1 x1 p1 g1 q1 v rv => ?_⟩
  split at q1
  · rename_i s hs
    have q2 := q1 H1 μ1 (.refl _) (List.prefix_refl _) g1
    cases src_sv g1 hs rv with
    | tup h r => exact .inr (.inl ⟨_, rfl, ⟨_, h⟩, q2 _ (jv_tup h r)⟩)
    | @lst n a h =>
      cases d <;> first | (cases hs; done) | skip
      case str => simp only [srcOf] at hs; split at hs <;> cases hs
      case ref m =>
        simp only [srcOf, Option.map_eq_some_iff] at hs
        obtain ⟨xs, hx, e⟩ := hs
        cases e
        obtain ⟨vs, rs, sq, _⟩ := g1.sq hx h
        exact .inl ⟨_, rfl, ⟨_, sq⟩, q2 _ (jv_lst h)⟩
    | str s => exact .inr (.inr ⟨_, rfl, q2 _ (jv_str s)⟩)
  · exact q1.elim
theorem pi_mone {f : ME} (hK : c.K = X.K) (h : PE X e (rE c f)) : PI X tg e (rI c (mOne f)) := PI.imp (pi_any h) fun σ H R q => hK ▸ rI.one q
theorem pi_mzip {f f' : ME} {e2 : Expr} {p pos tpos : Pos} {elts : List Expr} {kk : Nat} (hK : c.K = X.K) (hg : Gl X "zip") (hm : X.mg "zip" = none) (h : PE X e (rE c f)) (h' : PE X e2 (rE c f')) (hs : starEach [e, e2] X.env = (false, eval e X.env) :: starEach [e2] X.env) (hs2 : starEach [e2] X.env = (false, eval e2 X.env) :: starEach [] X.env) : PI X (.Tuple elts kk tpos) (.Call (.Name "zip" p) [e, e2] [] pos) (rI c (mZip f f')) := by
  refine PI.imp (RZ.pi_zipA hg hm (pa_cons h (pa_cons h' pa_nil hs2) hs) hs (by rw [hs2]; rfl)) fun σ H R q => ?_
  obtain ⟨ρ, G, μ, re, rg, p⟩ := q
  refine ⟨ρ, G, μ, re, rg, p.bind.imp fun d G1 H1 μ1 x1 p1 g1 q1 v rv => ?_⟩
  refine ⟨ρ, G1, μ1, re.mono x1 p1, g1, q1.bind.imp fun d2 G2 H2 μ2 x2 p2 g2 q2 v2 rv2 => ?_⟩
  have rv' := rv.mono x2 p2
  split at q2
  · obtain ⟨a, vs, rfl, s1, rs⟩ := rv'
    obtain ⟨b, ws, rfl, s2, rs2⟩ := rv2
    have q3 := q2 H2 μ2 (.refl _) (List.prefix_refl _) g2
    rw [hK] at s1 s2 rs rs2
    refine ⟨a, b, vs, ws, rfl, .inr ⟨s1, s2, ?_⟩⟩
    rw [← hK]
    exact q3 _ (by rw [hK]; exact jv_zipT s1 rs s2 rs2)
  · split at q2
    · rename_i hl
      obtain ⟨a, rfl, ma⟩ := rv'
      obtain ⟨b, rfl, mb⟩ := rv2
      have q3 := q2 H2 μ2 (.refl _) (List.prefix_refl _) g2
      obtain ⟨xs, hx⟩ := Option.isSome_iff_exists.mp hl.1
      obtain ⟨ys, hy⟩ := Option.isSome_iff_exists.mp hl.2
      obtain ⟨vs, _, sq, _⟩ := g2.sq hx ma
      obtain ⟨ws, _, sq', _⟩ := g2.sq hy mb
      rw [hK] at sq sq'
      refine ⟨a, b, vs, ws, rfl, .inl ⟨sq, sq', ?_⟩⟩
      rw [← hK]
      exact q3 _ (jv_zipL ma mb)
    · exact q2.elim
  · exact q2.elim
theorem pi_menum {f : ME} {p pos tpos : Pos} {elts : List Expr} {kk : Nat} (hK : c.K = X.K) (hg : Gl X "enumerate") (hm : X.mg "enumerate" = none) (h : PE X e (rE c f)) (hs : starEach [e] X.env = (false, eval e X.env) :: starEach [] X.env) : PI X (.Tuple elts kk tpos) (.Call (.Name "enumerate" p) [e] [] pos) (rI c (mEnum f)) := by
  refine PI.imp (pi_enum hg hm (pa_cons h pa_nil hs) hs) fun σ H R q => ?_
  obtain ⟨ρ, G, μ, re, rg, p⟩ := q
  refine ⟨ρ, G, μ, re, rg, p.bind.imp fun d G1 H1 μ1 x1 p1 g1 q1 v rv => ?_⟩
  split at q1
  · split at q1
    · rename_i hl
      obtain ⟨a, rfl, ma⟩ := rv
      have q3 := q1 H1 μ1 (.refl _) (List.prefix_refl _) g1
      obtain ⟨xs, hx⟩ := Option.isSome_iff_exists.mp hl
      obtain ⟨vs, _, sq, _⟩ := g1.sq hx ma
      rw [hK] at sq
      refine ⟨a, vs, rfl, sq, ?_⟩
      rw [← hK]
      exact q3 _ (jv_enum ma)
    · exact q1.elim
  · exact q1.elim
theorem pi_mrng1 {f : ME} {p pos : Pos} (hK : c.K = X.K) (hg : Gl X "range") (hm : X.mg "range" = none) (h : PE X e (rE c f)) (hs : starEach [e] X.env = (false, eval e X.env) :: starEach [] X.env) : PI X tg (.Call (.Name "range" p) [e] [] pos) (rI c (mRng1 f)) := by
  refine PI.imp (pi_range1 hg hm (pa_cons h pa_nil hs) hs) fun σ H R q => ?_
  obtain ⟨ρ, G, μ, re, rg, p⟩ := q
  refine ⟨ρ, G, μ, re, rg, p.bind.imp fun d G1 H1 μ1 x1 p1 g1 q1 v rv => ?_⟩
  cases d <;> try exact q1.elim
  case int j =>
    have e : v = _ := rv
    subst e
    simp only at q1
    split at q1
    · rename_i hj
      exact ⟨j, rfl, hj.1, hj.2, q1 H1 μ1 (.refl _) (List.prefix_refl _) g1 _ (jv_rng 0 _)⟩
    · exact q1.elim
theorem pi_mrng2 {f f' : ME} {e' : Expr} {p pos : Pos} (hK : c.K = X.K) (hg : Gl X "range") (hm : X.mg "range" = none) (h : PE X e (rE c f)) (h' : PE X e' (rE c f')) (hs : starEach [e, e'] X.env = (false, eval e X.env) :: starEach [e'] X.env) (hs' : starEach [e'] X.env = (false, eval e' X.env) :: starEach [] X.env) :
    PI X tg (.Call (.Name "range" p) [e, e'] [] pos) (rI c (mRng2 f f')) := by
  refine PI.imp (pi_range2 hg hm (pa_cons h (pa_cons h' pa_nil hs') hs) (by rw [hs, hs']; rfl) hs') fun σ H R q => ?_
  obtain ⟨ρ, G, μ, re, rg, p⟩ := q
  refine ⟨ρ, G, μ, re, rg, p.bind.imp fun d G1 H1 μ1 x1 p1 g1 q1 v rv => ?_⟩
  refine ⟨ρ, G1, μ1, re.mono x1 p1, g1, q1.bind.imp fun d' G2 H2 μ2 x2 p2 g2 q2 v' rv' => ?_⟩
  cases d <;> try exact q2.elim
  case int i =>
    cases d' <;> try exact q2.elim
    case int j =>
      have e : v = _ := rv
      have e' : v' = _ := rv'
      subst e; subst e'
      simp only at q2
      split at q2
      · rename_i hj
        exact ⟨i, j, rfl, hj, q2 H2 μ2 (.refl _) (List.prefix_refl _) g2 _ (jv_rng i _)⟩
      · exact q2.elim

/-! ### targets -/
def gsOf : List Nat → TGs
  | [] => gNil
  | i :: is => gCons (gName i) (gsOf is)
def gOf (K : PySem.W.Frag) : Tg → TG
  | .v i => gName i
  | .tup is => gTup K is.length (gsOf is)
theorem binds_ok {K : PySem.W.Frag} {H : Hp} {μ : List Addr} : ∀ {is : List Nat} {ds : List D} {vs : List V} {ρ ρ' : Env} {σ : L2.St} {Q : L2.St → Hp → Prop}, bindN is ds ρ = some ρ' → RDs K H μ ds vs → RE K H μ ρ σ → (∀ σ', RE K H μ ρ' σ' → Q σ' H) → gsOf is vs σ H Q
  | [], [], _, _, _, _, _, h, r, re, q => by cases h; exact ⟨r, q _ re⟩
  | [], _ :: _, _, _, _, _, _, h, _, _, _ => by cases h
  | _ :: _, [], _, _, _, _, _, h, _, _, _ => by cases h
  | i :: is, d :: ds, _, _, _, _, _, h, ⟨v, ws, e, r, rs⟩, re, q => ⟨v, ws, e, binds_ok h rs (re.set r i) q⟩
theorem binds_len {is : List Nat} : ∀ {ds : List D} {ρ ρ' : Env}, bindN is ds ρ = some ρ' → ds.length = is.length := by
  induction is with
  | nil => intro ds ρ ρ' h; cases ds with | nil => rfl | cons _ _ => cases h
  | cons i is ih => intro ds ρ ρ' h; cases ds with | nil => cases h | cons d ds => rw [List.length_cons, List.length_cons, ih h]
theorem bind_to {K : PySem.W.Frag} {H : Hp} {μ : List Addr} {t : Tg} {d : D} {v : V} {ρ ρ' : Env} {σ : L2.St} {Q : L2.St → Hp → Prop} (h : t.bind d ρ = some ρ') (r : RD K H μ d v) (re : RE K H μ ρ σ) (q : ∀ σ', RE K H μ ρ' σ' → Q σ' H) : gOf K t v σ H Q := by
  cases t with
  | v i => cases h; exact q _ (re.set r i)
  | tup is =>
    cases d <;> try (cases h; done)
    case tup ds =>
      obtain ⟨a, vs, rfl, s, rs⟩ := r
      exact ⟨a, vs, rfl, s, by rw [rs.len]; exact binds_len h, binds_ok h rs re q⟩

/-! ### comprehensions -/
section
variable {α β : Type} {K : PySem.W.Frag} {H : Hp} {μ : List Addr} {σ : L2.St}
theorem Post0.imp {r : R α} {P P' : α → Store → Hp → List Addr → Prop} (h : Post0 K H μ r P) (k : ∀ a G' H' μ', XT H H' → μ <+: μ' → RG K H' μ' G' → P a G' H' μ' → P' a G' H' μ') : Post0 K H μ r P' := by
  cases r with
  | ok a G => exact Aft.imp h fun H' μ' => k a G H' μ'
  | exc n fs G => exact h
  | stuck => exact h
theorem Post0.bind {r : R α} {f : α → Store → R β} {P : β → Store → Hp → List Addr → Prop} (h : Post0 K H μ (r.bind f) P) : Post0 K H μ r fun a G' H' μ' => Post0 K H' μ' (f a G') P := by
  cases r with
  | ok a G => exact fun H' μ' x p g => Post0.mono x p h
  | exc n fs G => exact h
  | stuck => exact h
theorem Post0.any {ξ : XRel} {W : WX} {r : R α} {P : α → Store → Hp → List Addr → Prop} (h : Post0 K H μ r P) : Post ⟨K, ξ, W⟩ σ H μ r P := by
  cases r with
  | ok a G => exact h
  | exc n fs G => exact h.elim
  | stuck => exact h
end
abbrev Ct.quiet (c : Ct) : Ct := ⟨c.K, c.ξ, fun _ _ _ _ => False⟩
def tgIn (own : List Nat) : Tg → Bool
  | .v i => own.contains i
  | .tup is => is.all own.contains
theorem wipe_set {own : List Nat} {i : Nat} (h : i ∈ own) (σ : L2.St) (v : Option V) : L2.wipe (σ.set i v) own = L2.wipe σ own := by
  induction own with
  | nil => cases h
  | cons j own ih =>
    show (L2.wipe (σ.set i v) own).set j none = (L2.wipe σ own).set j none
    by_cases hj : i ∈ own
    · rw [ih hj]
    · have e : i = j := by
        rcases List.mem_cons.mp h with h | h
        · exact h
        · exact absurd h hj
      subst e
      have : ∀ (l : List Nat), i ∉ l → L2.wipe (σ.set i v) l = (L2.wipe σ l).set i v := by
        intro l
        induction l with
        | nil => intro _; rfl
        | cons k l ihl =>
          intro hk
          rw [List.mem_cons, not_or] at hk
          show (L2.wipe (σ.set i v) l).set k none = ((L2.wipe σ l).set k none).set i v
          rw [ihl hk.2, List.set_comm _ _ hk.1]
      rw [this own hj, List.set_set]
theorem wipe_wipe (own : List Nat) (σ : L2.St) : L2.wipe (L2.wipe σ own) own = L2.wipe σ own := by
  induction own with
  | nil => rfl
  | cons j own ih => 
    show (L2.wipe ((L2.wipe σ own).set j none) own).set j none = (L2.wipe σ own).set j none
    by_cases hj : j ∈ own
    · rw [wipe_set hj, ih]
    · have : ∀ (l : List Nat) (τ : L2.St), j ∉ l → L2.wipe (τ.set j none) l = (L2.wipe τ l).set j none := by
        intro l
        induction l with
        | nil => intro _ _; rfl
        | cons k l ihl =>
          intro τ hk
          rw [List.mem_cons, not_or] at hk
          show (L2.wipe (τ.set j none) l).set k none = ((L2.wipe τ l).set k none).set j none
          rw [ihl τ hk.2, List.set_comm _ _ hk.1]
      rw [this own _ hj, ih, List.set_set]
theorem gs_wipe {own : List Nat} : ∀ {is : List Nat}, is.all own.contains = true → ∀ {vs : List V} {σ : L2.St} {H : Hp} {Q : L2.St → Hp → Prop}, gsOf is vs σ H Q → gsOf is vs σ H fun σ' H' => L2.wipe σ' own = L2.wipe σ own ∧ Q σ' H'
  | [], _, vs, σ, H, Q, ⟨e, q⟩ => ⟨e, rfl, q⟩
  | i :: is, h, vs, σ, H, Q, ⟨v, r, e, q⟩ => by
    rw [List.all_cons, Bool.and_eq_true] at h
    have hi : i ∈ own := by simpa using h.1
    refine ⟨v, r, e, ?_⟩
    have := gs_wipe h.2 q
    rw [wipe_set hi] at this
    exact this
theorem g_wipe {own : List Nat} {K : PySem.W.Frag} {t : Tg} (h : tgIn own t = true) {v : V} {σ : L2.St} {H : Hp} {Q : L2.St → Hp → Prop} (q : gOf K t v σ H Q) : gOf K t v σ H fun σ' H' => L2.wipe σ' own = L2.wipe σ own ∧ Q σ' H' := by
  cases t with
  | v i => exact ⟨wipe_set (by simpa [tgIn] using h) _ _, q⟩
  | tup is =>
    obtain ⟨a, xs, e, s, hl, q⟩ := q
    exact ⟨a, xs, e, s, hl, gs_wipe h q⟩
def tOpt (c : Ct) : Option ME → TT
  | none => tYes
  | some m => rT c m
theorem rE.comp {t : Tg} {mi : MI} {cd : Option ME} {el : ME} {own : List Nat} (ht : tgIn own t = true) {σ : L2.St} {H : Hp} {Q : VK} (q : rE c (mComp t mi cd el own) σ H Q) : tLc (rI c mi) (gOf c.K t) (tOpt c.quiet cd) (rE c.quiet el) own σ H Q := by
  obtain ⟨ρ, G, μ, re, rg, p⟩ := q
  refine ⟨ρ, G, μ, re, rg, p.bind.imp fun v G1 H1 μ1 x1 p1 g1 q1 J hJ D hD => ?_⟩
  have q2 := q1.bind.no
  clear q1 p
  have re1 := (re.mono x1 p1).wipe own
  have len1 := g1.len
  refine ⟨fun i m H => ∃ G μ, XT (upd H1 D (.lst [])) H ∧ μ1 ++ [D] <+: μ ∧ RG c.K H μ G ∧ Post0 c.K H μ (compGo t v cd el (wipeE ρ own) G1.cs.length m i G) (fun _ _ H' _ => Q (.ref D) H'), ⟨loopFuel, _, _, .refl _, List.prefix_refl _, g1.new hD (show RDs c.K H1 μ1 [] [] from rfl), ?_⟩, ?_⟩
  · refine Post0.imp (Post0.mono (.new hD) (List.prefix_append _ _) q2) fun a G2 H2 μ2 x2 p2 g2 q3 => ?_
    refine q3 H2 μ2 (.refl _) (List.prefix_refl _) g2 _ ⟨D, rfl, pre_get p2 ?_⟩
    rw [← len1, List.getElem?_append_right (Nat.le_refl _), Nat.sub_self]; rfl
  rintro i m H2 ⟨G2, μ2, x2, p2, g2, q3⟩
  have xx : XT H1 H2 := (XT.new hD).trans x2
  have pp : μ1 <+: μ2 := (List.prefix_append _ _).trans p2
  have atD : ∀ {μ3 : List Addr}, μ2 <+: μ3 → μ3[G1.cs.length]? = some D := fun p3 => pre_get (p2.trans p3) (by rw [← len1, List.getElem?_append_right (Nat.le_refl _), Nat.sub_self]; rfl)
  cases m with
  | zero => exact q3.elim
  | succ m =>
    unfold compGo at q3
    cases hv : v.at i G2 with
    | none => rw [hv] at q3; exact q3.elim
    | some o =>
      cases o with
      | none =>
        rw [hv] at q3
        exact .inl ⟨hJ.stop i H2 μ2 G2 xx pp g2 hv, q3 H2 μ2 (.refl _) (List.prefix_refl _) g2⟩
      | some d =>
        rw [hv] at q3
        obtain ⟨go, yl⟩ := hJ.go i H2 μ2 G2 d xx pp g2 hv
        refine .inr ⟨go, fun H' => ∃ G μ, XT (upd H1 D (.lst [])) H' ∧ μ1 ++ [D] <+: μ ∧ RG c.K H' μ G ∧ Post0 c.K H' μ (compGo t v cd el (wipeE ρ own) G1.cs.length m (i + 1) G) (fun _ _ H' _ => Q (.ref D) H'), fun H' h => ⟨m, Nat.lt_succ_self m, h⟩, fun x H3 hx => ?_⟩
        obtain ⟨x3, g3, rx⟩ := yl x H3 hx
        simp only at q3
        cases hb : t.bind d (wipeE ρ own) with
        | none => rw [hb] at q3; exact q3.elim
        | some ρ1 =>
          rw [hb] at q3
          simp only at q3
          have q4 := Post0.mono x3 (List.prefix_refl _) q3
          have step : ∀ (σ2 : L2.St), RE c.K H3 μ2 ρ1 σ2 → ∀ (b : Bool) (H4 : Hp) (μ4 : List Addr) (G4 : Store), XT H3 H4 → μ2 <+: μ4 → RG c.K H4 μ4 G4 →
              Post0 c.K H4 μ4 (if b = true then (el ρ1 G4).bind fun x G5 => (match G5.lst? G1.cs.length with
                | some ys => if G5.lim ≤ G1.cs.length ∧ ys.length < sizeLine then compGo t v cd el (wipeE ρ own) G1.cs.length m (i + 1) (G5.put G1.cs.length (.lst (ys ++ [x]))) else .stuck
                | none => .stuck) else compGo t v cd el (wipeE ρ own) G1.cs.length m (i + 1) G4) (fun _ _ H' _ => Q (.ref D) H') →
              if b = true then rE c.quiet el σ2 H4 fun y H5 => ∃ acc, H5 D = some (.lst acc) ∧ acc.length < sizeLine ∧
                ∃ G μ, XT (upd H1 D (.lst [])) (upd H5 D (.lst (acc ++ [y]))) ∧ μ1 ++ [D] <+: μ ∧ RG c.K (upd H5 D (.lst (acc ++ [y]))) μ G ∧ Post0 c.K (upd H5 D (.lst (acc ++ [y]))) μ (compGo t v cd el (wipeE ρ own) G1.cs.length m (i + 1) G) (fun _ _ H' _ => Q (.ref D) H')
              else ∃ G μ, XT (upd H1 D (.lst [])) H4 ∧ μ1 ++ [D] <+: μ ∧ RG c.K H4 μ G ∧ Post0 c.K H4 μ (compGo t v cd el (wipeE ρ own) G1.cs.length m (i + 1) G) (fun _ _ H' _ => Q (.ref D) H') := by
            intro σ2 re2 b H4 μ4 G4 x4 p4 g4 q5
            cases b with
            | false => exact iteF ⟨G4, μ4, (x2.trans x3).trans x4, p2.trans p4, g4, q5⟩
            | true =>
              refine iteT ⟨ρ1, G4, μ4, re2.mono x4 p4, g4, Post0.any ((Post0.bind q5).imp fun d' G5 H5 μ5 x5 p5 g5 q6 y ry => ?_)⟩
              have mD := atD (p4.trans p5)
              split at q6
              · rename_i ys hys
                split at q6
                · rename_i hl
                  obtain ⟨vs, rvs, _, hH⟩ := g5.sq hys mD
                  have hD5 := hH hl.1
                  refine ⟨vs, hD5, by rw [rvs.len]; exact hl.2, _, μ5, (((x2.trans x3).trans x4).trans x5).trans (.lst hD5), (p2.trans p4).trans p5, g5.put hl.1 mD hD5 (rvs.app (.one ry)), ?_⟩
                  exact Post0.mono (.lst hD5) (List.prefix_refl _) q6
                · exact q6.elim
              · exact q6.elim
          have key := g_wipe (own := own) ht (bind_to (Q := fun σ2 H4 => tOpt c.quiet cd σ2 H4 fun b H5 => if b = true then rE c.quiet el σ2 H5 fun y H6 => ∃ acc, H6 D = some (.lst acc) ∧ acc.length < sizeLine ∧
                ∃ G μ, XT (upd H1 D (.lst [])) (upd H6 D (.lst (acc ++ [y]))) ∧ μ1 ++ [D] <+: μ ∧ RG c.K (upd H6 D (.lst (acc ++ [y]))) μ G ∧ Post0 c.K (upd H6 D (.lst (acc ++ [y]))) μ (compGo t v cd el (wipeE ρ own) G1.cs.length m (i + 1) G) (fun _ _ H' _ => Q (.ref D) H')
              else ∃ G μ, XT (upd H1 D (.lst [])) H5 ∧ μ1 ++ [D] <+: μ ∧ RG c.K H5 μ G ∧ Post0 c.K H5 μ (compGo t v cd el (wipeE ρ own) G1.cs.length m (i + 1) G) (fun _ _ H' _ => Q (.ref D) H'))
            hb rx ((re1.mono xx pp).mono x3 (List.prefix_refl _)) fun σ2 re2 => ?_)
          · simp only [wipe_wipe] at key
            exact key
          · cases cd with
            | none => exact step σ2 re2 true H3 μ2 G2 (.refl _) (List.prefix_refl _) g3 q4
            | some mm =>
              refine ⟨ρ1, G2, μ2, re2, g3, Post0.any ((Post0.bind (Post0.bind q4)).imp fun d' G5 H5 μ5 x5 p5 g5 q6 => ?_)⟩
              split at q6
              · rename_i b hbb
                exact ⟨b, hbb, step σ2 re2 b H5 μ5 G5 x5 p5 g5 (q6 H5 μ5 (.refl _) (List.prefix_refl _) g5)⟩
              · exact q6.elim
end
end Cut
/-! Statements. -/
namespace Cut
open PySem PySem.Spec PyProof.Rows L2
variable [Tbl]
def PostS (c : Ct) (D : Ends) (H : Hp) (μ : List Addr) (r : RS) : Prop := match r with
  | .nx ρ' G' => Aft c.K H μ G' fun H' μ' => ∀ σ', RE c.K H' μ' ρ' σ' → D.nx σ' H'
  | .rt d G' => Aft c.K H μ G' fun H' μ' => ∀ v, RD c.K H' μ' d v → D.rt v H'
  | .bk ρ' G' => Aft c.K H μ G' fun H' μ' => ∀ σ', RE c.K H' μ' ρ' σ' → D.bk σ' H'
  | .ct ρ' G' => Aft c.K H μ G' fun H' μ' => ∀ σ', RE c.K H' μ' ρ' σ' → D.ct σ' H'
  | .exc n fs ρ' G' => Aft c.K H μ G' fun H' μ' => ∀ σ' cls dd, RE c.K H' μ' ρ' σ' → c.ξ n fs H' μ' cls dd → c.W cls dd σ' H'
  | .stuck => False
def rS (c : Ct) (g : MS) : TS := fun D σ H => ∃ ρ G μ, RE c.K H μ ρ σ ∧ RG c.K H μ G ∧ PostS c D H μ (g ρ G)
section
variable {c : Ct} {D : Ends} {H H1 : Hp} {μ μ1 : List Addr} {σ : L2.St} {ρ : Env} {G : Store}
theorem PostS.mono {r : RS} (x : XT H H1) (p : μ <+: μ1) (h : PostS c D H μ r) : PostS c D H1 μ1 r := by
  cases r with
  | stuck => exact h
  | _ => exact Aft.mono x p h
theorem PostS.ofR {α : Type} {r : R α} {k : α → Store → RS} (re : RE c.K H μ ρ σ) (h : PostS c D H μ (RS.ofR r ρ k)) : Post c σ H μ r fun a G' H' μ' => PostS c D H' μ' (k a G') := by
  cases r with
  | ok a G' => exact fun H' μ' x p g => PostS.mono x p h
  | exc n fs G' => exact fun H' μ' x p g cls dd hx => h H' μ' x p g σ cls dd (re.mono x p) hx
  | stuck => exact h
theorem Aft.here {P : Hp → List Addr → Prop} {K : PySem.W.Frag} (g : RG K H μ G) (h : Aft K H μ G P) : P H μ := h H μ (.refl _) (List.prefix_refl _) g

theorem rS.nil (q : rS c sPass D σ H) : tNext D σ H := by
  obtain ⟨ρ, G, μ, re, rg, p⟩ := q
  exact Aft.here rg p σ re
theorem rS.seq {a b : MS} (q : rS c (sSeq a b) D σ H) : tSeq (rS c a) (rS c b) D σ H := by
  obtain ⟨ρ, G, μ, re, rg, p⟩ := q
  refine ⟨ρ, G, μ, re, rg, ?_⟩
  unfold sSeq at p
  cases h : a ρ G with
  | nx ρ1 G1 =>
    rw [h] at p
    exact fun H' μ' x p' g σ' re' => ⟨ρ1, G1, μ', re', g, PostS.mono x p' p⟩
  | rt d G1 => rw [h] at p; exact p
  | bk ρ1 G1 => rw [h] at p; exact p
  | ct ρ1 G1 => rw [h] at p; exact p
  | exc n fs ρ1 G1 => rw [h] at p; exact p
  | stuck => rw [h] at p; exact p
theorem rS.expr {f : ME} (q : rS c (sExpr f) D σ H) : tDrop (rE c f) D σ H := by
  obtain ⟨ρ, G, μ, re, rg, p⟩ := q
  exact ⟨ρ, G, μ, re, rg, (p.ofR re).imp fun d G1 H1 μ1 x1 p1 g1 q1 v rv => Aft.here g1 q1 σ (re.mono x1 p1)⟩
theorem rS.set {t : Tg} {f : ME} (q : rS c (sSet t f) D σ H) : tAsg (rE c f) (gOf c.K t) D σ H := by
  obtain ⟨ρ, G, μ, re, rg, p⟩ := q
  refine ⟨ρ, G, μ, re, rg, (p.ofR re).imp fun d G1 H1 μ1 x1 p1 g1 q1 v rv => ?_⟩
  split at q1
  · rename_i ρ1 hb
    exact bind_to hb rv (re.mono x1 p1) fun σ' re' => Aft.here g1 q1 σ' re'
  · exact q1.elim
/-- name = [..], the list's own slots and the name apart -/
theorem rS.par {is : List Nat} {fs : MEs} (q : rS c (sPar is fs) D σ H) : rA c fs σ H fun vs H1 => gsOf is vs σ H1 D.nx := by
  obtain ⟨ρ, G, μ, re, rg, p⟩ := q
  refine ⟨ρ, G, μ, re, rg, (p.ofR re).imp fun ds G1 H1 μ1 x1 p1 g1 q1 vs rvs => ?_⟩
  split at q1
  · rename_i ρ1 hb
    exact binds_ok hb rvs (re.mono x1 p1) fun σ' re' => Aft.here g1 q1 σ' re'
  · exact q1.elim
theorem rS.par2 {i j : Nat} {fs : MEs} (q : rS c (sPar [i, j] fs) D σ H) : tPar i j (rA c fs) D σ H := by
  obtain ⟨ρ, G, μ, re, rg, p⟩ := q
  refine ⟨ρ, G, μ, re, rg, (p.ofR re).imp fun ds G1 H1 μ1 x1 p1 g1 q1 vs rvs => ?_⟩
  split at q1
  · rename_i ρ1 hb
    obtain ⟨v, r, rfl, w, r', rfl, rfl, q⟩ := binds_ok hb rvs (re.mono x1 p1) fun σ' re' => Aft.here g1 q1 σ' re'
    exact ⟨v, w, rfl, q⟩
  · exact q1.elim
theorem rS.par3 {i j k : Nat} {fs : MEs} (q : rS c (sPar [i, j, k] fs) D σ H) : tPar3 i j k (rA c fs) D σ H := by
  obtain ⟨ρ, G, μ, re, rg, p⟩ := q
  refine ⟨ρ, G, μ, re, rg, (p.ofR re).imp fun ds G1 H1 μ1 x1 p1 g1 q1 vs rvs => ?_⟩
  split at q1
  · rename_i ρ1 hb
    obtain ⟨v, r, rfl, w, r', rfl, u, r2, rfl, rfl, q⟩ := binds_ok hb rvs (re.mono x1 p1) fun σ' re' => Aft.here g1 q1 σ' re'
    exact ⟨v, w, u, rfl, q⟩
  · exact q1.elim
theorem set_at {K : PySem.W.Frag} {o i d : Cut.D} {G' : Store} {x y v : V} {Q : Hp → Prop} (g : RG K H μ G) (h : setAt o i d G = some G') (ro : RD K H μ o x) (ri : RD K H μ i y) (rd : RD K H μ d v) (q : ∀ H', XT H H' → RG K H' μ G' → Q H') : rSetL x y v H Q := by
  cases o <;> try (cases h; done)
  case ref n =>
    cases i <;> try (cases h; done)
    case int k =>
      obtain ⟨a, rfl, ma⟩ := ro
      have e : y = _ := ri
      subst e
      simp only [setAt] at h
      split at h
      · rename_i xs hx
        split at h
        · rename_i j hj
          split at h
          · rename_i hl
            cases h
            obtain ⟨vs, rs, _, f⟩ := g.sq hx ma
            have hH := f hl
            exact ⟨a, vs, k, j, rfl, rfl, hH, by rw [rs.len]; exact hj, q _ (.lst hH) (g.put hl ma hH (rs.set rd j))⟩
          · cases h
        · cases h
      · cases h
theorem rS.setIx {a i e : ME} (q : rS c (sSetIx a i e) D σ H) : tAsg (rE c e) (gSub (rE c a) (rE c i) rSetL) D σ H := by
  obtain ⟨ρ, G, μ, re, rg, p⟩ := q
  refine ⟨ρ, G, μ, re, rg, (p.ofR re).imp fun d G1 H1 μ1 x1 p1 g1 q1 v rv => ?_⟩
  have re1 := re.mono x1 p1
  refine ⟨ρ, G1, μ1, re1, g1, (q1.ofR re1).imp fun o G2 H2 μ2 x2 p2 g2 q2 ov ro => ?_⟩
  have re2 := re1.mono x2 p2
  refine ⟨ρ, G2, μ2, re2, g2, (q2.ofR re2).imp fun k G3 H3 μ3 x3 p3 g3 q3 kv rk => ?_⟩
  split at q3
  · rename_i G4 h4
    exact set_at g3 h4 (ro.mono x3 p3) rk ((rv.mono x2 p2).mono x3 p3) fun H' x' g' => q3 H' μ3 x' (List.prefix_refl _) g' σ ((re2.mono x3 p3).mono x' (List.prefix_refl _))
  · exact q3.elim
theorem rS.setKey {a i e : ME} (q : rS c (sSetKey a i e) D σ H) : tAsg (rE c e) (gSub (rE c a) (rE c i) rSetD) D σ H := by
  obtain ⟨ρ, G, μ, re, rg, p⟩ := q
  refine ⟨ρ, G, μ, re, rg, (p.ofR re).imp fun d G1 H1 μ1 x1 p1 g1 q1 v rv => ?_⟩
  have re1 := re.mono x1 p1
  refine ⟨ρ, G1, μ1, re1, g1, (q1.ofR re1).imp fun o G2 H2 μ2 x2 p2 g2 q2 ov ro => ?_⟩
  have re2 := re1.mono x2 p2
  refine ⟨ρ, G2, μ2, re2, g2, (q2.ofR re2).imp fun k G3 H3 μ3 x3 p3 g3 q3 kv rk => ?_⟩
  split at q3
  · rename_i G4 h4
    have ro := ro.mono x3 p3
    have rv := (rv.mono x2 p2).mono x3 p3
    cases o <;> try (cases h4; done)
    case ref n =>
      obtain ⟨a, rfl, ma⟩ := ro
      simp only [setKeyAt] at h4
      split at h4
      · rename_i kvs κ hd hk
        split at h4
        · rename_i hl
          cases h4
          obtain ⟨ws, rws, hH⟩ := g3.dq hd ma
          have hkv : kv = kV κ := by
            cases k <;> try (cases hk; done)
            case int i => cases hk; exact rk
            case str z => cases hk; exact rk
          have hwl : ws.length < sizeLine := by
            have := congrArg List.length rws.1
            rw [List.length_map, List.length_map] at this
            rw [this]; exact hl.2
          refine ⟨a, _, rfl, .inl ⟨ws, κ, hH, hkv, hwl, rfl⟩, ?_⟩
          have x' : XT H3 (upd H3 a (.dK (putK ws κ v))) := .dK hH
          exact q3 _ μ3 x' (List.prefix_refl _) (g3.putD hl.1 ma hH (rws.put rv)) σ ((re2.mono x3 p3).mono x' (List.prefix_refl _))
        · cases h4
      · cases h4
  · exact q3.elim
theorem rS.aug {i : Nat} {o : Op2} {e : ME} (q : rS c (sAug i o e) D σ H) : tAug i (rE c e) (r2 c.K (opAug o)) D σ H := by
  obtain ⟨ρ, G, μ, re, rg, p⟩ := q
  unfold sAug at p
  split at p
  · rename_i d hd
    obtain ⟨v, hv, rv⟩ := re.at_ i d hd
    refine ⟨v, hv, ρ, G, μ, re, rg, (p.ofR re).imp fun d' G1 H1 μ1 x1 p1 g1 q1 w rw' => ?_⟩
    have re1 := re.mono x1 p1
    refine ⟨d, d', G1, μ1, g1, rv.mono x1 p1, rw', ?_⟩
    have q2 := (q1.ofR re1)
    cases hz : opAug o d d' G1 with
    | ok z G2 =>
      rw [hz] at q2
      exact fun H' μ' x' p' g' u ru => Aft.here g' (q2 H' μ' x' p' g') _ ((re1.mono x' p').set ru i)
    | exc n fs G2 => rw [hz] at q2; exact q2.elim
    | stuck => rw [hz] at q2; exact q2.elim
  · exact p.elim
theorem rS.augIx {a i : ME} {o : Op2} {e : ME} (q : rS c (sAugIx a i o e) D σ H) : tAugS (rE c a) (rE c i) (rE c e) (r2 c.K (op2 .ix)) (r2 c.K (opAug o)) rSetL D σ H := by
  obtain ⟨ρ, G, μ, re, rg, p⟩ := q
  refine ⟨ρ, G, μ, re, rg, (p.ofR re).imp fun da G1 H1 μ1 x1 p1 g1 q1 va rva => ?_⟩
  have re1 := re.mono x1 p1
  refine ⟨ρ, G1, μ1, re1, g1, (q1.ofR re1).imp fun di G2 H2 μ2 x2 p2 g2 q2 vi rvi => ?_⟩
  have re2 := re1.mono x2 p2
  refine ⟨da, di, G2, μ2, g2, rva.mono x2 p2, rvi, ?_⟩
  have q3 := q2.ofR re2
  cases hz : op2 .ix da di G2 with
  | ok dx G3 =>
    rw [hz] at q3
    intro H3 μ3 x3 p3 g3 vx rvx
    have re3 := re2.mono x3 p3
    refine ⟨ρ, G3, μ3, re3, g3, ((q3 H3 μ3 x3 p3 g3).ofR re3).imp fun dy G4 H4 μ4 x4 p4 g4 q4 vy rvy => ?_⟩
    have re4 := re3.mono x4 p4
    refine ⟨dx, dy, G4, μ4, g4, rvx.mono x4 p4, rvy, ?_⟩
    have q5 := q4.ofR re4
    cases hw : opAug o dx dy G4 with
    | ok dz G5 =>
      rw [hw] at q5
      intro H5 μ5 x5 p5 g5 vz rvz
      have q6 : PostS c D H5 μ5 (match setAt da di dz G5 with
        | some G6 => RS.nx ρ G6
        | none => RS.stuck) := q5 H5 μ5 x5 p5 g5
      split at q6
      · rename_i G6 h6
        exact set_at g5 h6 ((((rva.mono x2 p2).mono x3 p3).mono x4 p4).mono x5 p5) (((rvi.mono x3 p3).mono x4 p4).mono x5 p5) rvz fun H' x' g' => q6 H' μ5 x' (List.prefix_refl _) g' σ ((re4.mono x5 p5).mono x' (List.prefix_refl _))
      · exact q6.elim
    | exc n fs G5 => rw [hw] at q5; exact q5.elim
    | stuck => rw [hw] at q5; exact q5.elim
  | exc n fs G3 => rw [hz] at q3; exact q3.elim
  | stuck => rw [hz] at q3; exact q3.elim
theorem rS.ret {f : ME} (q : rS c (sRet f) D σ H) : tRet (rE c f) D σ H := by
  obtain ⟨ρ, G, μ, re, rg, p⟩ := q
  exact ⟨ρ, G, μ, re, rg, (p.ofR re).imp fun d G1 H1 μ1 x1 p1 g1 q1 v rv => Aft.here g1 q1 v rv⟩
theorem rS.retN (q : rS c (fun _ G => .rt .non G) D σ H) : tRetN D σ H := by
  obtain ⟨ρ, G, μ, re, rg, p⟩ := q
  exact Aft.here rg p .non rfl
theorem rS.brk (q : rS c (fun ρ G => .bk ρ G) D σ H) : tBreak D σ H := by
  obtain ⟨ρ, G, μ, re, rg, p⟩ := q
  exact Aft.here rg p σ re
theorem rS.cnt (q : rS c (fun ρ G => .ct ρ G) D σ H) : tCont D σ H := by
  obtain ⟨ρ, G, μ, re, rg, p⟩ := q
  exact Aft.here rg p σ re
theorem rS.ifs {f : ME} {a b : MS} (q : rS c (sIf f a b) D σ H) : tIfS (rT c f) (rS c a) (rS c b) D σ H := by
  obtain ⟨ρ, G, μ, re, rg, p⟩ := q
  refine ⟨ρ, G, μ, re, rg, (p.ofR re).imp fun d G1 H1 μ1 x1 p1 g1 q1 => ?_⟩
  split at q1
  · rename_i hb
    exact ⟨true, hb, iteT ⟨ρ, G1, μ1, re.mono x1 p1, g1, q1⟩⟩
  · rename_i hb
    exact ⟨false, hb, iteF ⟨ρ, G1, μ1, re.mono x1 p1, g1, q1⟩⟩
  · exact q1.elim
theorem rS.while {f : ME} {a : MS} (q : rS c (sWhile f a) D σ H) : tWhile (rT c f) (rS c a) D σ H := by
  obtain ⟨ρ, G, μ, re, rg, p⟩ := q
  refine ⟨fun m σ H => ∃ ρ G μ, RE c.K H μ ρ σ ∧ RG c.K H μ G ∧ PostS c D H μ (whileGo f a m ρ G), ⟨loopFuel, ρ, G, μ, re, rg, p⟩, ?_⟩
  rintro m σ1 H1 ⟨ρ1, G1, μ1, re1, g1, p1⟩
  cases m with
  | zero => exact p1.elim
  | succ m =>
    unfold whileGo at p1
    refine ⟨ρ1, G1, μ1, re1, g1, (p1.ofR re1).imp fun d G2 H2 μ2 x2 p2 g2 q2 => ?_⟩
    have re2 := re1.mono x2 p2
    split at q2
    · rename_i hb
      refine ⟨true, hb, iteT ⟨fun σ H => ∃ ρ G μ, RE c.K H μ ρ σ ∧ RG c.K H μ G ∧ PostS c D H μ (whileGo f a m ρ G), fun σ' H' h => ⟨m, Nat.lt_succ_self m, h⟩, ρ1, G2, μ2, re2, g2, ?_⟩⟩
      cases ha : a ρ1 G2 with
      | nx ρ3 G3 => rw [ha] at q2; exact fun H' μ' x' p' g' σ' re' => ⟨ρ3, G3, μ', re', g', PostS.mono x' p' q2⟩
      | ct ρ3 G3 => rw [ha] at q2; exact fun H' μ' x' p' g' σ' re' => ⟨ρ3, G3, μ', re', g', PostS.mono x' p' q2⟩
      | bk ρ3 G3 => rw [ha] at q2; exact q2
      | rt d3 G3 => rw [ha] at q2; exact q2
      | exc n fs ρ3 G3 => rw [ha] at q2; exact q2
      | stuck => rw [ha] at q2; exact q2
    · rename_i hb
      exact ⟨false, hb, iteF (Aft.here g2 q2 σ1 re2)⟩
    · exact q2.elim
theorem rS.for {t : Tg} {mi : MI} {a : MS} (q : rS c (sFor t mi a) D σ H) : tFor (rI c mi) (gOf c.K t) (rS c a) D σ H := by
  obtain ⟨ρ, G, μ, re, rg, p⟩ := q
  refine ⟨ρ, G, μ, re, rg, (p.ofR re).imp fun v G1 H1 μ1 x1 p1 g1 q1 J hJ => ?_⟩
  refine ⟨fun i m σ H => ∃ ρ G μ, XT H1 H ∧ μ1 <+: μ ∧ RE c.K H μ ρ σ ∧ RG c.K H μ G ∧ PostS c D H μ (forGo t v a m i ρ G), ⟨loopFuel, ρ, G1, μ1, .refl _, List.prefix_refl _, re.mono x1 p1, g1, q1⟩, ?_⟩
  rintro i m σ2 H2 ⟨ρ2, G2, μ2, x2, p2, re2, g2, q2⟩
  cases m with
  | zero => exact q2.elim
  | succ m =>
    unfold forGo at q2
    cases hv : v.at i G2 with
    | none => rw [hv] at q2; exact q2.elim
    | some o =>
      cases o with
      | none =>
        rw [hv] at q2
        exact .inl ⟨hJ.stop i H2 μ2 G2 x2 p2 g2 hv, Aft.here g2 q2 σ2 re2⟩
      | some d =>
        rw [hv] at q2
        simp only at q2
        obtain ⟨go, yl⟩ := hJ.go i H2 μ2 G2 d x2 p2 g2 hv
        refine .inr ⟨go, fun σ H => ∃ ρ G μ, XT H1 H ∧ μ1 <+: μ ∧ RE c.K H μ ρ σ ∧ RG c.K H μ G ∧ PostS c D H μ (forGo t v a m (i + 1) ρ G), fun σ' H' h => ⟨m, Nat.lt_succ_self m, h⟩, fun x H3 hx => ?_⟩
        obtain ⟨x3, g3, rx⟩ := yl x H3 hx
        cases hb : t.bind d ρ2 with
        | none => rw [hb] at q2; exact q2.elim
        | some ρ3 =>
          rw [hb] at q2
          simp only at q2
          have q3 := PostS.mono x3 (List.prefix_refl _) q2
          refine bind_to hb rx (re2.mono x3 (List.prefix_refl _)) fun σ4 re4 => ⟨ρ3, G2, μ2, re4, g3, ?_⟩
          cases ha : a ρ3 G2 with
          | nx ρ5 G5 => rw [ha] at q3; exact fun H' μ' x' p' g' σ' re' => ⟨ρ5, G5, μ', (x2.trans x3).trans x', p2.trans p', re', g', PostS.mono x' p' q3⟩
          | ct ρ5 G5 => rw [ha] at q3; exact fun H' μ' x' p' g' σ' re' => ⟨ρ5, G5, μ', (x2.trans x3).trans x', p2.trans p', re', g', PostS.mono x' p' q3⟩
          | bk ρ5 G5 => rw [ha] at q3; exact q3
          | rt d5 G5 => rw [ha] at q3; exact q3
          | exc n fs ρ5 G5 => rw [ha] at q3; exact q3
          | stuck => rw [ha] at q3; exact q3
end
section
variable {X : Cx}
/-! ### op= -/
theorem no_tup_iadd : typeLookup (.type "tuple") (dunderI "add") = pure none := by rw [typeLookup_type, builtinLookup_eq_fast]; kernel_rfl
theorem icat_tup {prog : Program} {w : World} {A : Around} {E : Value → Shared → Prop} {s : Shared} {t b : Addr} {vs ws : List Value} {Q : Value → Shared → Prop} (ht : IsTup s.heap t vs.toArray) (hb : IsTup s.heap b ws.toArray)
    (h0 : vs = [] → Q (.ref b) s) (h1 : vs ≠ [] → ws = [] → Q (.ref t) s) (h2 : vs ≠ [] → ws ≠ [] → Q (.ref s.heap.objs.size) { s with heap := s.heap.push { cls := .type "tuple", data := .seq (vs ++ ws).toArray } })
    (hsz : vs.length + ws.length ≤ sizeLine) : wpAny (model prog w) A (inplaceOp .Add (.ref t) (.ref b)) Q E s := by
  obtain ⟨⟨cls, dd, data, sl⟩, ho, hc, n, hd⟩ := id ht
  obtain ⟨⟨cls2, dd2, data2, sl2⟩, ho2, hc2, n2, hd2⟩ := id hb
  simp only at hc hd hc2 hd2
  subst hc hd hc2 hd2
  have e : vs.toArray ++ ws.toArray = (vs ++ ws).toArray := by simp
  by_cases hv : vs = []
  · exact PyProof.Rows.inplaceOp_concat ⟨_, ho, rfl⟩ ⟨_, ho2, rfl⟩ no_tup_iadd noFill_tuple_add seq_tuple_add (call_meets PySem.F.slot_tuple_add ⟨_, ho, rfl⟩ PySem.F.entry_tuple_add (PySem.F.args_tuple_add_2 _ _) (tuple_addW0 t b vs.toArray ws.toArray n n2 dd dd2 sl sl2 (by simp [hv])) ⟨ho, ho2, h0 hv⟩)
  by_cases hw : ws = []
  · exact PyProof.Rows.inplaceOp_concat ⟨_, ho, rfl⟩ ⟨_, ho2, rfl⟩ no_tup_iadd noFill_tuple_add seq_tuple_add (call_meets PySem.F.slot_tuple_add ⟨_, ho, rfl⟩ PySem.F.entry_tuple_add (PySem.F.args_tuple_add_2 _ _) (tuple_addW1 t b vs.toArray ws.toArray n n2 dd dd2 sl sl2 (by simpa using hv) (by simp [hw])) ⟨ho, ho2, h1 hv hw⟩)
  · refine PyProof.Rows.inplaceOp_concat ⟨_, ho, rfl⟩ ⟨_, ho2, rfl⟩ no_tup_iadd noFill_tuple_add seq_tuple_add (call_meets PySem.F.slot_tuple_add ⟨_, ho, rfl⟩ PySem.F.entry_tuple_add (PySem.F.args_tuple_add_2 _ _) (tuple_addW2 t b vs.toArray ws.toArray n n2 dd dd2 sl sl2 (by simpa using hv) (by simpa using hw) (by rw [List.size_toArray, List.size_toArray]; exact hsz)) ⟨ho, ho2, ?_⟩)
    rw [e]
    exact h2 hv hw
theorem iop_catA : OpR X (inplaceOp .Add) (rCatA X.K) := by
  intro pins s σ H x y v u Q I rx ry h
  obtain ⟨a, b, xs, ys, rfl, rfl, ha, hb, hz, q0, q1, q2⟩ := h
  cases rx
  cases ry
  obtain ⟨its, r1, p1, _⟩ := I.tuple ha
  obtain ⟨its2, r2, p2, _⟩ := I.tuple hb
  refine icat_tup p1 p2 (fun z => ⟨.ref b, H, I, rfl, q0 (r1.nil_iff.mp z)⟩) (fun z z' => ⟨.ref a, H, I, rfl, q1 (fun k => z (r1.nil_iff.mpr k)) (r2.nil_iff.mp z')⟩) (fun z z' => ?_) (by rw [← r1.length, ← r2.length]; exact hz)
  refine ⟨.ref s.heap.objs.size, _, I.laid (t' := s.toks) (o := .tup (xs ++ ys)) (fun b ob q => Heap.get?_push_of_some _ q) (Nat.le_refl _) ?_, rfl, q2 (fun w => z (r1.nil_iff.mpr w)) (fun w => z' (r2.nil_iff.mpr w)) _ (I.hok.fresh (Nat.le_refl _))⟩
  exact ⟨by rw [List.length_append]; exact hz, _, r1.append r2, IsTup.new _ _⟩
theorem ok_aug {o : Op2} {p : Operator} (h : binOf o = some p) : PIp X p (r2 X.K (opAug o)) := by
  rintro pins s σ H x y v u Q I rx ry ⟨d, e, G, μ, g, r, r', q⟩
  unfold opAug at q
  split at q
  · rename_i hk
    cases o <;> try (cases h; done)
    all_goals (cases d <;> try (cases hk; done))
    all_goals (cases e <;> try (cases hk; done))
    case add.str.str a b =>
      cases h
      have e1 : x = _ := r; have e2 : y = _ := r'; subst e1; subst e2
      simp only [op2] at q
      split at q
      · rename_i hl
        exact iop_add_str pins s σ H _ _ v u Q I rx ry ⟨_, _, rfl, rfl, by simpa [Str.length] using hl, P0.here g q (by show V.str _ = V.str _; congr 1; show Str.append _ _ = _; simp [Str.append])⟩
      · exact q.elim
    case add.tup.tup xs ys =>
      cases h
      obtain ⟨a, vs, rfl, s1, rs⟩ := r
      obtain ⟨b, ws, rfl, s2, rs'⟩ := r'
      simp only [op2] at q
      split at q
      · rename_i hl
        refine iop_catA pins s σ H _ _ v u Q I rx ry ⟨a, b, vs, ws, rfl, rfl, s1, s2, by rw [rs.len, rs'.len]; exact hl, fun e => ?_, fun _ e => ?_, fun _ _ => P0.newT g q (rs.app rs')⟩
        · subst e
          have : xs = [] := List.eq_nil_of_length_eq_zero (by rw [← rs.len]; rfl)
          subst this
          exact P0.here g q ⟨b, ws, rfl, s2, rs'⟩
        · subst e
          have : ys = [] := List.eq_nil_of_length_eq_zero (by rw [← rs'.len]; rfl)
          subst this
          rw [List.append_nil] at q
          exact P0.here g q ⟨a, vs, rfl, s1, rs⟩
      · exact q.elim
    all_goals
      rename_i i j
      have e1 : x = _ := r; have e2 : y = _ := r'
      subst e1; subst e2
      cases h
    · exact iop_add pins s σ H _ _ v u Q I rx ry ⟨i, j, rfl, rfl, P0.here g q rfl⟩
    · exact iop_sub pins s σ H _ _ v u Q I rx ry ⟨i, j, rfl, rfl, P0.here g q rfl⟩
    · simp only [op2] at q
      split at q
      · rename_i hl
        obtain ⟨t, rfl⟩ := rx
        obtain ⟨t', rfl⟩ := ry
        exact imul_int ⟨.int _, H, I.tok _, ⟨_, rfl⟩, P0.here g q rfl⟩ (CMulW.ok hl)
      · exact q.elim
    · simp only [op2] at q
      split at q
      · rename_i hl
        obtain ⟨t, rfl⟩ := rx
        obtain ⟨t', rfl⟩ := ry
        refine ifloordiv_int (by omega) ?_ (.inl (PyProof.noPylong_of_log2 hl.2))
        rw [Int.fdiv_eq_ediv_of_nonneg i (by omega)]
        exact ⟨.int _, H, I.tok _, ⟨_, rfl⟩, P0.here g q rfl⟩
      · exact q.elim
    · simp only [op2] at q
      split at q
      · rename_i hl
        exact iop_mod pins s σ H _ _ v u Q I rx ry ⟨i, j, rfl, rfl, hl, P0.here g q rfl⟩
      · exact q.elim
    · exact iop_xor pins s σ H _ _ v u Q I rx ry ⟨i, j, rfl, rfl, P0.here g q rfl⟩
  · exact q.elim
end
end Cut
/-! Methods of lists and texts; calls. -/
namespace PySem.AutoSeq1
open PySem
theorem list_extend_tupW (l : Addr) (items : Array Value) (n : Nat) (b : Addr) (items2 : Array Value) (n2 : Nat) (dd : Option Addr) (sl : Array (Option Value)) (hs0 : ¬(!items.isEmpty && Builtin.List.listTooLong (items.size + items2.size)) = true) (hs1 : items.size ≤ sizeLine) (hs2 : items.size + items2.size ≤ sizeLine + 1) :
    Meets (Builtin.«list.extend» ⟨[.ref l, .ref b], []⟩) (fun _ R s => s.heap.get? l = some { cls := .type "list", dict := none, data := .seq items n, slots := #[] } ∧ s.heap.get? b = some { cls := .type "tuple", dict := dd, data := .seq items2 n2, slots := sl } ∧ R (.ok (.ret Value.none)) { s with heap := s.heap.update l (Obj.mapSeq fun x => x ++ items2), toks := s.toks }) :=
  .of_wp fun prog w A R s h => by
    obtain ⟨hp, g, d, tk, os⟩ := s; obtain ⟨hl, hb, h⟩ := h; have f1 := idx_int; have f2 := sub_tuple_tuple; have f3 := sub_list_list; have f4 := sub_tuple_list; have f5 := sub_list_tuple;
    have hz' : (items ++ items2).size ≤ sizeLine + 1 := by rw [Array.size_append]; exact hs2
    wp_walk using (wpAny_updateSeq hl rfl (hz := hs1) (_hz' := hz')), wpAny_loadPart' hl, wpAny_loadPart' hb; exact ⟨_, rfl, h⟩
end PySem.AutoSeq1
namespace Cut
open PySem PySem.Spec PyProof.Rows L2
variable [Tbl]
section
variable {X : Cx}
theorem ok_append : MtR X "list.append" (rM X.K (mt .append)) := by
  rintro pins s σ H x xs v us Q I rx rs ⟨d, ds, G, μ, g, r, r0, h0⟩
  obtain ⟨e, rfl, h⟩ := P0.b1 (show Post0 X.K H μ (b1 _ ds G) _ from h0)
  obtain ⟨y, rfl, r'⟩ := RDs.c1 r0
  clear r0 h0
  cases d <;> try exact h.elim
  case ref n =>
    obtain ⟨a, rfl, ma⟩ := r
    simp only [appendD] at h
    split at h
    · rename_i ys hx
      split at h
      · rename_i hl
        obtain ⟨vs, rv, _, f⟩ := g.sq hx ma
        have hH := f hl.1
        exact mt_append pins s σ H _ _ v us Q I rx rs ⟨a, vs, y, rfl, rfl, hH, by rw [rv.len]; exact hl.2, P0.put g hl.1 ma hH (rv.app (.one r')) h rfl⟩
      · exact h.elim
    · exact h.elim
theorem ok_pop : MtR X "list.pop" (rM X.K (mt .pop)) := by
  rintro pins s σ H x xs v us Q I rx rs ⟨d, ds, G, μ, g, r, r0, h0⟩
  obtain ⟨rfl, h⟩ := P0.b0 (show Post0 X.K H μ (b0 _ ds G) _ from h0)
  have e0 := RDs.nil r0
  subst e0
  clear r0 h0
  cases d <;> try exact h.elim
  case ref n =>
    obtain ⟨a, rfl, ma⟩ := r
    simp only [popD] at h
    split at h
    · rename_i ys hx
      split at h
      · rename_i e he
        split at h
        · rename_i hl
          obtain ⟨vs, rv, _, f⟩ := g.sq hx ma
          have hH := f hl
          obtain ⟨w, hw, rw'⟩ := rv.get he
          exact mt_pop pins s σ H _ _ v us Q I rx rs ⟨a, vs, w, rfl, rfl, hH, by rw [rv.len]; exact hw, P0.put g hl ma hH rv.init h rw'⟩
        · exact h.elim
      · exact h.elim
    · exact h.elim
theorem glue_fold (sep : List Nat) : ∀ (ss : List (List Nat)) (acc : List Nat), (ss.map fun s => (⟨s.toArray⟩ : Str)).foldl (fun (a : Array Nat) (p : Str) => a ++ sep.toArray ++ p.cps) acc.toArray = (acc ++ (ss.map fun s => sep ++ s).flatten).toArray
  | [], acc => by simp
  | s :: ss, acc => by
    rw [List.map_cons, List.foldl_cons]
    have e : acc.toArray ++ sep.toArray ++ (⟨s.toArray⟩ : Str).cps = (acc ++ (sep ++ s)).toArray := by simp
    rw [e, glue_fold sep ss]
    simp
theorem joinS_cons (sep x : List Nat) : ∀ ss : List (List Nat), joinS sep (x :: ss) = x ++ (ss.map fun s => sep ++ s).flatten
  | [] => by simp [joinS]
  | y :: r => by
    show x ++ sep ++ joinS sep (y :: r) = _
    rw [joinS_cons sep y r]
    simp
theorem joinS_eq (sep : List Nat) (ss : List (List Nat)) : Txt.join ⟨sep.toArray⟩ (ss.map fun s => (⟨s.toArray⟩ : Str)) = ⟨(joinS sep ss).toArray⟩ := by
  cases ss with
  | nil => rfl
  | cons x r =>
    show (⟨((x :: r).map fun s => (⟨s.toArray⟩ : Str)).drop 1 |>.foldl (fun (a : Array Nat) (p : Str) => a ++ sep.toArray ++ p.cps) x.toArray⟩ : Str) = _
    rw [joinS_cons, List.map_cons, List.drop_succ_cons, List.drop_zero, glue_fold]
theorem strs_rd {K : PySem.W.Frag} {H : Hp} {μ : List Addr} : ∀ {ds : List D} {ss : List (List Nat)} {vs : List V}, strsD ds = some ss → RDs K H μ ds vs → vs = (ss.map fun s => (⟨s.toArray⟩ : Str)).map V.str
  | [], ss, vs, h, r => by cases h; exact r
  | d :: ds, ss, vs, h, ⟨v, ws, e, r, rs⟩ => by
    cases d <;> try (cases h; done)
    case str s =>
      simp only [strsD, Option.map_eq_some_iff] at h
      obtain ⟨ss', h1, rfl⟩ := h
      have e1 : v = _ := r
      rw [e, e1, strs_rd h1 rs]
      rfl
theorem ok_join : MtR X "str.join" (rM X.K (mt .join)) := by
  rintro pins s σ H x xs v us Q I rx rs ⟨d, ds, G, μ, g, r, r0, h0⟩
  obtain ⟨e, rfl, h⟩ := P0.b1 (show Post0 X.K H μ (b1 _ ds G) _ from h0)
  obtain ⟨y, rfl, r'⟩ := RDs.c1 r0
  clear r0 h0
  cases d <;> try exact h.elim
  case str sep =>
    have e1 : x = _ := r
    subst e1
    simp only [joinD] at h
    split at h
    · rename_i ys hy
      split at h
      · rename_i ss hss
        split at h
        · rename_i hl
          obtain ⟨p, vs, rfl, hq, rvs⟩ := items_rd g hy r'
          have e2 := strs_rd hss rvs
          subst e2
          refine mt_join pins s σ H _ _ v us Q I rx rs ⟨_, p, ss.map fun s => (⟨s.toArray⟩ : Str), rfl, rfl, hq, ?_, ?_⟩
          · rw [List.map_map, List.length_map, sz_str]
            have : (Str.length ∘ fun s : List Nat => (⟨s.toArray⟩ : Str)) = List.length := funext fun s => sz_str s
            show (List.map (Str.length ∘ fun s : List Nat => (⟨s.toArray⟩ : Str)) ss).sum + _ ≤ _
            rw [this]
            exact hl
          · rw [joinS_eq]
            exact P0.here g h rfl
        · exact h.elim
      · exact h.elim
    · exact h.elim
theorem find_rd {K : PySem.W.Frag} {H : Hp} {μ : List Addr} {d : D} {x : V} (f : flatD d = true) (r : RD K H μ d x) : ∀ {ds : List D} {vs : List V} {i : Nat}, ds.all flatD = true → RDs K H μ ds vs → ds.findIdx? (fun z => eqF z d) = some i →
    (∃ z, vs[i]? = some z ∧ eqV z x = true) ∧ ∀ (m : Nat) (z' : V), m < i → vs[m]? = some z' → eqV z' x = false
  | [], _, i, _, _, h => by simp at h
  | e :: ds, vs, i, fs, ⟨v, ws, q, r1, rs⟩, h => by
    rw [List.all_cons, Bool.and_eq_true] at fs
    rw [List.findIdx?_cons] at h
    have hv := eqF_rd fs.1 f r1 r
    subst q
    split at h
    · rename_i he
      cases h
      exact ⟨⟨v, rfl, by rw [hv]; exact he⟩, fun m z' hm => absurd hm (Nat.not_lt_zero _)⟩
    · rename_i he
      rw [Option.map_eq_some_iff] at h
      obtain ⟨j, h1, rfl⟩ := h
      obtain ⟨⟨z, h2, h3⟩, h4⟩ := find_rd f r fs.2 rs h1
      refine ⟨⟨z, by simpa using h2, h3⟩, fun m z' hm hz => ?_⟩
      cases m with
      | zero =>
        simp at hz
        subst hz
        rw [hv]
        simpa using he
      | succ m => exact h4 m z' (by omega) (by simpa using hz)
theorem ok_indexL : MtR X "list.index" (rM X.K (mt .indexL)) := by
  rintro pins s σ H x xs v us Q I rx rs ⟨d, ds, G, μ, g, r, r0, h0⟩
  obtain ⟨e, rfl, h⟩ := P0.b1 (show Post0 X.K H μ (b1 _ ds G) _ from h0)
  obtain ⟨y, rfl, r'⟩ := RDs.c1 r0
  clear r0 h0
  cases d <;> try exact h.elim
  case ref n =>
    obtain ⟨a, rfl, ma⟩ := r
    simp only [indexLD] at h
    split at h
    · rename_i ys hx
      split at h
      · rename_i hf
        rw [Bool.and_eq_true] at hf
        obtain ⟨b, hb, h⟩ := okD_some h
        rw [Option.map_eq_some_iff] at hb
        obtain ⟨i, hi, rfl⟩ := hb
        obtain ⟨vs, rv, sq, _⟩ := g.sq hx ma
        obtain ⟨⟨z, h1, h2⟩, h3⟩ := find_rd hf.1 r' hf.2 rv hi
        exact mt_index pins s σ H _ _ v us Q I rx rs ⟨a, vs, y, i, z, rfl, rfl, sq, flat_rd hf.1 r', flats_rd hf.2 rv, h1, h2, h3, P0.here g h rfl⟩
      · exact h.elim
    · exact h.elim
theorem mt_extendT : MtM X "list.extend" (fun x vs H Q => ∃ l b xs zs, x = .ref l ∧ vs = [.ref b] ∧ H l = some (.lst xs) ∧ SqT X.K H b zs ∧ xs.length + zs.length ≤ sizeLine ∧ Q .non (upd H l (.lst (xs ++ zs)))) := by
  intro pins s σ H x vs v us Q I rx rv h
  obtain ⟨l, b, xs, zs, rfl, rfl, hH, hB, hz, q⟩ := h
  cases rx
  obtain ⟨u, rfl, ru⟩ := rv.one
  cases ru
  obtain ⟨z, its, n, r, hl, e⟩ := I.lstM hH
  obtain ⟨its2, r2, ⟨⟨cls, dd, dt, sl⟩, ho, hc, n2, hd⟩, _⟩ := I.tuple hB
  simp only at hc hd
  subst hc hd
  have hl2 : its2.length = zs.length := r2.length.symm
  have hsz : its.toArray.size + its2.toArray.size ≤ sizeLine := by rw [List.size_toArray, List.size_toArray]; omega
  have hlong : ¬ (!its.toArray.isEmpty && Builtin.List.listTooLong (its.toArray.size + its2.toArray.size)) = true := by
    rw [notLongL hsz, Bool.and_false]
    exact Bool.false_ne_true
  refine call_meets PySem.F.slot_list_extend ⟨_, e, rfl⟩ PySem.F.entry_list_extend (PySem.F.args_list_extend_2 _ _)
    (PySem.AutoSeq1.list_extend_tupW l its.toArray n b its2.toArray n2 dd sl hlong (by rw [List.size_toArray]; omega) (by omega)) ⟨e, ho, ?_⟩
  refine ⟨.non, _, I.lset (its' := its ++ its2) hH e (by simp) (r.append r2) ?_, rfl, q⟩
  rw [List.length_append]
  omega
theorem ok_extend : MtR X "list.extend" (rM X.K (mt .extend)) := by
  rintro pins s σ H x xs v us Q I rx rs ⟨d, ds, G, μ, g, r, r0, h0⟩
  obtain ⟨e, rfl, h⟩ := P0.b1 (show Post0 X.K H μ (b1 _ ds G) _ from h0)
  obtain ⟨y, rfl, r'⟩ := RDs.c1 r0
  clear r0 h0
  cases d <;> try exact h.elim
  case ref n =>
    obtain ⟨a, rfl, ma⟩ := r
    simp only [extendD] at h
    split at h
    · rename_i ys zs hx hz
      split at h
      · rename_i hl
        obtain ⟨vs, rv, _, f⟩ := g.sq hx ma
        have hH := f hl.1
        cases e <;> try (cases hz; done)
        case tup zs' =>
          cases hz
          obtain ⟨b, ws, rfl, sq, rw'⟩ := r'
          exact mt_extendT pins s σ H _ _ v us Q I rx rs ⟨a, b, vs, ws, rfl, rfl, hH, sq, by rw [rv.len, rw'.len]; exact hl.2, P0.put g hl.1 ma hH (rv.app rw') h rfl⟩
        case ref m =>
          simp only [ownItems] at hz
          split at hz
          · rename_i hm
            obtain ⟨b, rfl, mb⟩ := r'
            obtain ⟨ws, rw', _, f'⟩ := g.sq hz mb
            exact mt_extend pins s σ H _ _ v us Q I rx rs ⟨a, b, vs, ws, rfl, rfl, hH, f' hm, by rw [rv.len, rw'.len]; exact hl.2, P0.put g hl.1 ma hH (rv.app rw') h rfl⟩
          · cases hz
      · exact h.elim
    · exact h.elim
theorem ok_upper : MtR X "str.upper" (rM X.K (mt .upper)) := by
  rintro pins s σ H x xs v us Q I rx rs ⟨d, ds, G, μ, g, r, r0, h0⟩
  obtain ⟨rfl, h⟩ := P0.b0 (show Post0 X.K H μ (b0 _ ds G) _ from h0)
  have e0 := RDs.nil r0
  subst e0
  clear r0 h0
  cases d <;> try exact h.elim
  case str a =>
    have e1 : x = _ := r
    subst e1
    simp only [upperD] at h
    split at h
    · rename_i hl
      refine mt_upper pins s σ H _ _ v us Q I rx rs ⟨_, rfl, rfl, by rw [sz_str]; exact hl, P0.here g h ?_⟩
      show V.str _ = V.str _
      simp
    · exact h.elim
theorem ok_indexS : MtR X "str.index" (rM X.K (mt .indexS)) := by
  rintro pins s σ H x xs v us Q I rx rs ⟨d, ds, G, μ, g, r, r0, h0⟩
  obtain ⟨e, rfl, h⟩ := P0.b1 (show Post0 X.K H μ (b1 _ ds G) _ from h0)
  obtain ⟨y, rfl, r'⟩ := RDs.c1 r0
  clear r0 h0
  cases d <;> try exact h.elim
  case str a =>
    have e1 : x = _ := r
    subst e1
    cases e <;> try exact h.elim
    case str z =>
      rcases z with _ | ⟨c, _ | ⟨c2, z⟩⟩ <;> try exact h.elim
      have e2 : y = _ := r'
      subst e2
      simp only [indexSD] at h
      split at h
      · rename_i i rest ho
        exact mt_sindex pins s σ H _ _ v us Q I rx rs ⟨_, _, i, rest, rfl, rfl, by rw [sz_str]; exact ho, P0.here g h rfl⟩
      · exact h.elim
theorem tup_find {K : PySem.W.Frag} {H : Hp} {μ : List Addr} {ss : List (List Nat)} {z : List Nat} {j : Nat} (h : ss.findIdx? (· == z) = some j) :
    (ss.map fun s => (⟨s.toArray⟩ : Str))[j]? = some ⟨z.toArray⟩ ∧ ∀ m, m < j → (ss.map fun s => (⟨s.toArray⟩ : Str))[m]? ≠ some ⟨z.toArray⟩ := by
  obtain ⟨hl, h1, h2⟩ := List.findIdx?_eq_some_iff_getElem.mp h
  refine ⟨?_, fun m hm => ?_⟩
  · rw [List.getElem?_map, List.getElem?_eq_getElem hl]
    have : ss[j] = z := by simpa using h1
    rw [this]; rfl
  · have hml : m < ss.length := by omega
    have := h2 m hm
    rw [List.getElem?_map, List.getElem?_eq_getElem hml]
    intro e
    apply this
    have e : (⟨ss[m].toArray⟩ : Str) = ⟨z.toArray⟩ := by simpa using e
    have : ss[m] = z := by simpa using congrArg (fun s : Str => s.cps.toList) e
    simp [this]
theorem ok_indexT : MtR X "tuple.index" (rM X.K (mt .indexT)) := by
  rintro pins s σ H x xs v us Q I rx rs ⟨d, ds, G, μ, g, r, r0, h0⟩
  obtain ⟨e, rfl, h⟩ := P0.b1 (show Post0 X.K H μ (b1 _ ds G) _ from h0)
  obtain ⟨y, rfl, r'⟩ := RDs.c1 r0
  clear r0 h0
  cases d <;> try exact h.elim
  case tup ys =>
    obtain ⟨a, vs, rfl, sq, rvs⟩ := r
    cases e <;> try exact h.elim
    case str z =>
      simp only [indexTD] at h
      split at h
      · rename_i ss hss
        obtain ⟨b, hb, h⟩ := okD_some h
        rw [Option.map_eq_some_iff] at hb
        obtain ⟨j, hj, rfl⟩ := hb
        have e2 := strs_rd hss rvs
        subst e2
        have e3 : y = .str ⟨z.toArray⟩ := r'
        subst e3
        obtain ⟨h1, h2⟩ := tup_find (K := X.K) (H := H) (μ := μ) hj
        exact mt_tup_index pins s σ H _ _ v us Q I rx rs ⟨a, _, _, j, rfl, rfl, sq, h1, h2, P0.here g h rfl⟩
      · exact h.elim
def mtT : Mt → String
  | .indexS | .join | .upper => "str"
  | .indexT => "tuple"
  | _ => "list"
theorem mtTy_rd {K : PySem.W.Frag} {H : Hp} {μ : List Addr} {G : Store} {m : Mt} (hm : m ≠ .indexT) (g : RG K H μ G) {d : D} {x : V} (h : mtTy m d G = true) (r : RD K H μ d x) : tyV K (mtT m) x H := by
  cases m <;> cases d <;> first | (cases h; done) | (exact absurd rfl hm) | skip
  all_goals first
    | (have e1 : x = _ := r; subst e1; rfl)
    | (rename_i n
       obtain ⟨a, rfl, ma⟩ := r
       obtain ⟨xs, hx⟩ := Option.isSome_iff_exists.mp (show (G.lst? n).isSome = true from h)
       obtain ⟨vs, rv, sq, _⟩ := g.sq hx ma
       exact .inl ⟨rfl, vs, sq⟩)
end
section
variable {X : Cx} {c : Ct}
theorem rE.mt {m : Mt} (hn : m ≠ .indexT) {f : ME} {fs : MEs} {σ : L2.St} {H : Hp} {Q : VK} (q : rE c (mMt m f fs) σ H Q) : tBM c.K (mtT m) (rM c.K (Cut.mt m)) (rE c f) (rA c fs) σ H Q := by
  obtain ⟨ρ, G, μ, re, rg, p⟩ := q
  refine ⟨ρ, G, μ, re, rg, p.bind.imp fun d G1 H1 μ1 x1 p1 g1 q1 v rv => ?_⟩
  split at q1
  · rename_i hm
    refine ⟨mtTy_rd hn g1 hm rv, ρ, G1, μ1, re.mono x1 p1, g1, q1.bind.imp fun ds G2 H2 μ2 x2 p2 g2 q2 vs rvs => ?_⟩
    exact ⟨d, ds, G2, μ2, g2, rv.mono x2 p2, rvs, q2.no⟩
  · exact q1.elim
/-- of a tuple of the module -/
theorem rE.ofTup {xs : List D} {v : V} (hv : ∀ H μ, RD c.K H μ (.tup xs) v) (ht : ∀ H, tyV c.K "tuple" v H) {fs : MEs} {σ : L2.St} {H : Hp} {Q : VK} (q : rE c (mMt .indexT (mK (.tup xs)) fs) σ H Q) : tBM c.K "tuple" (rM c.K (Cut.mt .indexT)) (fun _ H Q => Q v H) (rA c fs) σ H Q := by
  obtain ⟨ρ, G, μ, re, rg, p⟩ := q
  refine ⟨ht H, ρ, G, μ, re, rg, ?_⟩
  have p : Post c σ H μ ((fs ρ G).bind fun xs' G2 => noExc (Cut.mt .indexT (.tup xs) xs' G2)) _ := p
  refine p.bind.imp fun ds G2 H2 μ2 x2 p2 g2 q2 vs rvs => ?_
  exact ⟨_, ds, G2, μ2, g2, hv _ _, rvs, q2.no⟩
theorem rE.mt0 {m : Mt} (hn : m ≠ .indexT) {f : ME} {σ : L2.St} {H : Hp} {Q : VK} (q : rE c (mMt m f mNil) σ H Q) : tBM0 c.K (mtT m) (rM c.K (Cut.mt m)) (rE c f) σ H Q := by
  obtain ⟨ρ, G, μ, re, rg, p⟩ := q
  refine ⟨ρ, G, μ, re, rg, p.bind.imp fun d G1 H1 μ1 x1 p1 g1 q1 v rv => ?_⟩
  split at q1
  · rename_i hm
    refine ⟨mtTy_rd hn g1 hm rv, d, [], G1, μ1, g1, rv, rfl, Post.no (c := c) (σ := σ) ?_⟩
    exact q1
  · exact q1.elim
end
/-- a call by the evaluator -/
def spR (K : PySem.W.Frag) (ξ : XRel) (n : Nat) (F : List D → Store → R D) : Sp := fun vs H Q E => vs.length = n ∧ ∃ ds G μ, RG K H μ G ∧ RDs K H μ ds vs ∧ match F ds G with
  | .ok d G' => Aft K H μ G' fun H' μ' => ∀ v, RD K H' μ' d v → Q v H'
  | .exc k fs G' => Aft K H μ G' fun H' μ' => ∀ cls dd, ξ k fs H' μ' cls dd → E cls dd H'
  | .stuck => False
section
variable {X : Cx} {c : Ct}
theorem rE.own {n : Nat} {F : List D → Store → R D} {fs : MEs} {σ : L2.St} {H : Hp} {Q : VK} (hn : ∀ ds G, ds.length ≠ n → F ds G = .stuck) (q : rE c (mArgs F fs) σ H Q) : tCallS (spR c.K c.ξ n F) (WE c.W) (rA c fs) σ H Q := by
  obtain ⟨ρ, G, μ, re, rg, p⟩ := q
  refine ⟨ρ, G, μ, re, rg, p.bind.imp fun ds G1 H1 μ1 x1 p1 g1 q1 vs rvs => ?_⟩
  by_cases hl : ds.length = n
  · refine ⟨by rw [rvs.len]; exact hl, ds, G1, μ1, g1, rvs, ?_⟩
    cases h : F ds G1 with
    | ok d G2 => rw [h] at q1; exact q1
    | exc k fs G2 => rw [h] at q1; exact q1
    | stuck => rw [h] at q1; exact q1
  · rw [hn _ _ hl] at q1
    exact q1.elim
theorem rds_ints0 {K : PySem.W.Frag} {H : Hp} {μ : List Addr} : ∀ ns : List Int, RDs K H μ (ns.map D.int) (ns.map V.int)
  | [] => rfl
  | n :: ns => ⟨_, _, rfl, rfl, rds_ints0 ns⟩
theorem rE.ownD {n : Nat} {F : List D → Store → R D} {es : List Int} {fs : MEs} {σ : L2.St} {H : Hp} {Q : VK} (hn : ∀ ds G, ds.length ≠ n → F ds G = .stuck) (q : rE c (mArgs (fun xs G => F (xs ++ es.map .int) G) fs) σ H Q) : tCallSD (spR c.K c.ξ n F) (es.map V.int) (WE c.W) (rA c fs) σ H Q := by
  obtain ⟨ρ, G, μ, re, rg, p⟩ := q
  refine ⟨ρ, G, μ, re, rg, p.bind.imp fun ds G1 H1 μ1 x1 p1 g1 q1 vs rvs => ?_⟩
  have r2 : RDs c.K H1 μ1 (ds ++ es.map .int) (vs ++ es.map V.int) := rvs.app (rds_ints0 es)
  have q1 : Post c σ H1 μ1 (F (ds ++ es.map .int) G1) _ := q1
  by_cases hl : (ds ++ es.map D.int).length = n
  · refine ⟨by rw [r2.len]; exact hl, ds ++ es.map .int, G1, μ1, g1, r2, ?_⟩
    cases h : F (ds ++ es.map .int) G1 with
    | ok d G2 => rw [h] at q1; exact q1
    | exc k fs G2 => rw [h] at q1; exact q1
    | stuck => rw [h] at q1; exact q1
  · rw [hn _ _ hl] at q1
    exact q1.elim
theorem pe_call0S {CX : CXT} {k : Nat} {f : Addr} {fd : FuncData} {ps : List Str} {sp : Sp} {E : L2.St → XK} {x : Str} {p pos : Pos} (F : FnOk X.prog X.w X.K X.mg X.base CX k f fd ps sp) (hr : Room k X.A) (hg : Gl X x) (hm : X.mg x = some (.ref f)) (hk : PySem.W.keepIn X.K (.ref f) = true) (hb : Binds X.K fd ps []) (hx : ∀ σ, PassesAt CX X σ (E σ))
    (hdb : (x == ("__debug__" : Str)) = false) : PE X (.Call (.Name x p) [] [] pos) (tCallS sp E tNil) :=
  ⟨fun pins s σ H Q I h => wpAny_Call_Name_kw (ld_glob I hg hm (PySem.W.callWith_K0 I.kIn hk (run_fnS (us := []) F hr hb (hx σ) I .nil h)) hdb)⟩
end
end Cut
/-! all(..), any(..) of a generator expression over whatever the layer walks, its element any expression that gives a bool. -/
namespace Cut
open PySem PySem.Spec PyProof.Rows L2 GxR GenW

/-- the context of a generator expression's own frame -/
abbrev genX (X : Cx) (A : Around) (s : Shared) (H : Hp) (cenv : PySem.Env) (fp : List Addr) (pn : List (Addr × Obj)) : Cx :=
  { X with A := A, s_0 := s, H_0 := H, env := cenv, outer := X.stack, stack := cenv :: X.stack, ex := fp, fn := fun _ => false, pn := pn, xe := fun _ _ => False }
/-- the names of the expression's own frame -/
structure GenOk (N : List Str) (sc scope : Scope) (own : List (Str × Nat)) : Prop where
  b : BlkOk N sc scope own
  co : scope.isCoroutine = false
  nocell : ∀ y ∈ scope.names, y.2 ≠ .cell
  dot : scope.names.lookup (".0" : Str) = some NameKind.local

theorem over_gen {A : Around} {e it : Expr} {tg : Expr} {i : Value} {env : PySem.Env} {sc : Scope} {p : Pos} {l : List PySem.Env} (h : A.frames = some l) : (A.in1.in1.over (.compLoop (.GeneratorExp e [⟨tg, it, [], 0⟩] sc p) 0 i .none env) []).frames = some (env :: l) := by
  have e : ∀ (A : Around) (c : Code), (A.over c []).frames = pushEnvs c.envs (pushEnvs (envsOf []) A.frames) := fun _ _ => rfl
  rw [e]
  show pushEnvs _ (pushEnvs _ A.frames) = _
  rw [h]
  rfl
section
variable {X : Cx} {pins : List (Addr × Obj)} {σ : L2.St} {H : Hp} {s : Shared}
theorem gen_start {A : Around} {scope : Scope} {own : List (Str × Nat)} {fp : List Addr} {code : Value} {it : Value} {h' : Heap} {go : Obj} {g' : Array GenState} {t' : Nat} (I : Inv X pins σ H s) (ok : GenOk X.N X.env.scope scope own) (hN : X.N.Nodup) (hfp : ∀ b ∈ fp, FpOk X pins H b ∧ b < s.heap.objs.size)
    (hA : X.calm = true → A.handled = none) (hF : A.frames = some (genEnv scope (cloFrom X.env.cells scope.names []) s.heap.objs.size code builtinsNs X.env :: X.stack))
    (hn : h'.Ns s.heap.objs.size (fun y => if y = ".0" then some it else none)) (hs : Heap.SameBut s.heap.objs.size (s.heap.push { cls := .type "frame", data := .dict #[] }) h') (hgo : ∀ v, go.data ≠ .cell v) (hf : (h'.push go).get? h'.objs.size = some go) (hg : AllBare g') :
    Inv (genX X A s H (genEnv scope (cloFrom X.env.cells scope.names []) s.heap.objs.size code builtinsNs X.env) fp [(h'.objs.size, go)]) [] (wipe σ (own.map (·.2))) H { s with heap := h'.push go, gens := g', toks := t' } := by
  have hfree : ∀ y ∈ scope.names, y.2 = .free → ∃ c, X.env.cells.lookup y.1 = some c := fun y hy e => by
    rcases ok.b.free y hy e with k | k
    · exact I.ok.has _ (.inl k)
    · exact I.ok.has _ (.inr k)
  generalize hcenv : genEnv scope (cloFrom X.env.cells scope.names []) s.heap.objs.size code builtinsNs X.env = cenv at hF ⊢
  have hsz : h'.objs.size = s.heap.objs.size + 1 := by rw [hs.1, Heap.size_push]
  have kp0 : ∀ b o, s.heap.get? b = some o → h'.get? b = some o := fun b o e => hs.extBut b o (Nat.ne_of_lt (Heap.lt_size e)) (Heap.get?_push_of_some _ e)
  have kp : ∀ b o, s.heap.get? b = some o → (h'.push go).get? b = some o := fun b o e => Heap.get?_push_of_some _ (kp0 b o e)
  have hL : cenv.locals = s.heap.objs.size := by rw [← hcenv]; rfl
  have hcl : cenv.cells = cloFrom X.env.cells scope.names [] := by rw [← hcenv]; rfl
  have hsc : cenv.scope = scope := by rw [← hcenv]; rfl
  have cm : ∀ {y c}, (y, c) ∈ cloFrom X.env.cells scope.names [] → X.env.cells.lookup y = some c ∧ c < s.heap.objs.size := fun {y c} hm => by
    rcases cloFrom_mem hm with hm | ⟨h1, rfl⟩
    · cases hm
    · obtain ⟨c, hc⟩ := hfree _ h1 rfl
      rw [hc]
      obtain ⟨w, z⟩ := I.cell _ _ hc
      exact ⟨rfl, z.lt⟩
  have mem : ∀ {y c}, cenv.cells.lookup y = some c → X.env.cells.lookup y = some c ∧ c < s.heap.objs.size := fun {y c} e => by
    rw [hcl] at e
    exact cm (PySem.mem_of_lookup e)
  have look : ∀ {y}, scope.names.lookup y = some .free → ∃ c, cenv.cells.lookup y = some c ∧ X.env.cells.lookup y = some c := fun {y} hl => by
    have hy : (y, NameKind.free) ∈ scope.names := PySem.mem_of_lookup hl
    obtain ⟨c', e'⟩ := L2.mem_lookup (cloFrom_has (cells := X.env.cells) (acc := []) hy)
    rw [← hcl] at e'
    exact ⟨c', e', (mem e').1⟩
  have okB : (genX X A s H cenv fp [(h'.objs.size, go)]).Ok := by
    refine ⟨I.ok.mod, by show cenv.scope.kind = _; rw [hsc]; exact ok.b.kind, by show cenv.globals = _; rw [← hcenv]; exact I.ok.glob, by show cenv.builtins = _; rw [← hcenv]; rfl, by show s.heap.objs.size ≤ cenv.locals; rw [hL]; exact Nat.le_refl _,
      fun y z c e1 e2 => ?_, fun y hy => ?_, fun y c z e => ?_, hA, hF, .inr ⟨rfl, by show cenv.frame = some cenv.locals; rw [← hcenv]; rfl⟩, fun b hb => ⟨?_, fun y c e z => ?_⟩, I.bs, Nat.le_trans I.ok.bsz I.sz, fun b o e hb => ?_, fun b hb z => ?_, I.stack, I.stkFree⟩
    · exact I.ok.inj y z c (mem e1).1 (mem e2).1
    · have hy : scope.names.lookup y = some .cell ∨ scope.names.lookup y = some .free := by rw [← hsc]; exact hy
      rcases hy with hy | hy
      · exact absurd rfl (ok.nocell _ (PySem.mem_of_lookup hy))
      · obtain ⟨c, h1, _⟩ := look hy
        exact ⟨c, h1⟩
    · cases z
    · show b ≠ cenv.locals
      rw [hL]; exact Nat.ne_of_lt (hfp b hb).2
    · exact (hfp b hb).1.2.2.2.2.1 y c (mem e).1 z
    · rcases (hfp b hb).1.2.2.2.1 with z | z
      · exact I.ok.noex b o e z
      · exact absurd (Nat.lt_of_lt_of_le (Heap.lt_size e) (Nat.le_trans I.ok.bsz z)) (Nat.lt_irrefl _)
    · rcases List.mem_cons.mp (I.stkSub b z) with z | z
      · exact (hfp b hb).1.2.1 z
      · exact (hfp b hb).1.2.2.1 z
  refine ⟨okB, rfl, hg, Un.kept kp, ⟨fun y => if y = ".0" then some it else none, ?_, fun i y av e1 e2 e3 => ?_⟩, fun y c e => ?_, ?_, fun y c e => ?_, fun p hp => ?_, I.hok.kept kp, by rw [wipe_length]; exact I.len⟩
  · show Heap.Ns _ cenv.locals _
    rw [hL]
    exact hn.keeps fun b o e => Heap.get?_push_of_some _ e
  · obtain ⟨e2, hne⟩ := wipe_some e2
    have e3 : Vis cenv.scope y := e3
    rw [hsc] at e3
    have no : ∀ k, scope.names.lookup y = some k → ¬ (k = .local ∨ k = .cell) := fun k e hh => by
      rcases ok.b.own _ (PySem.mem_of_lookup e) hh with e' | e'
      · obtain ⟨p, hp, hpy⟩ := List.mem_map.mp e'
        have e3 := ok.b.ix p hp
        have : p.1 = y := hpy
        rw [this] at e3
        exact hne (List.mem_map.mpr ⟨p, hp, nodup_ix hN e3 e1⟩)
      · exact e' (List.mem_of_getElem? e1)
    rcases e3 with e3 | e3 | e3
    · exact absurd (.inl rfl) (no _ e3)
    · exact absurd (.inr rfl) (no _ e3)
    obtain ⟨m, hn, hl⟩ := I.loc
    have hvis : Vis X.env.scope y := (ok.b.free _ (PySem.mem_of_lookup e3) rfl).elim (fun k => .inr (.inl k)) (fun k => .inr (.inr k))
    obtain ⟨w, r, q⟩ := hl i y av e1 e2 hvis
    refine ⟨w, r, .inr ⟨.inr (show cenv.scope.names.lookup y = _ by rw [hsc]; exact e3), ?_⟩⟩
    obtain ⟨c, h1, h2⟩ := look e3
    rcases q with ⟨k, _⟩ | ⟨_, c', e', z⟩
    · have k : X.env.scope.names.lookup y = some .local := k
      rcases ok.b.free _ (PySem.mem_of_lookup e3) rfl with k' | k' <;> rw [show X.env.scope.names.lookup y = _ from k'] at k <;> cases k
    · rw [h2] at e'; cases e'
      exact ⟨c, h1, z.keeps kp⟩
  · obtain ⟨h1, _⟩ := mem e
    obtain ⟨w, z⟩ := I.cell y c h1
    exact ⟨w, z.keeps kp⟩
  · show H cenv.locals = none
    rw [hL]; exact I.hok.fresh (Nat.le_refl _)
  · exact I.freeC y c (mem e).1
  · have hp : p = (h'.objs.size, go) := by simpa using hp
    subst hp
    refine ⟨hf, I.hok.fresh (by rw [hsz]; exact Nat.le_succ _), ?_, fun z => ?_, hgo⟩
    · show h'.objs.size ≠ cenv.locals
      rw [hL, hsz]; exact Nat.succ_ne_self _
    · rcases List.mem_cons.mp (I.stkSub _ z) with e | e
      · have h1 := I.lt
        rw [← e, hsz] at h1
        exact absurd (Nat.lt_of_succ_lt h1) (Nat.lt_irrefl _)
      · exact I.nofs (a := h'.objs.size) (by rw [hsz]; exact Nat.le_succ _) e

/-- all(elt for target in iter), any(..): W by the turn and a measure, Nx what a turn is to reach; the def's table may have grown ahead of the first turn -/
def tGen (al : Bool) (P : Addr) (wi : TI) (g : TG) (te : TE) (vs : List Nat) : TE := fun σ H Q => wi σ H fun J H1 => TabG H1 P ∧ ∀ H2, Tabbed P H1 H2 → ∃ W : Nat → Nat → Hp → Prop, (∃ m, W 0 m H2) ∧ ∀ i m H, W i m H →
  (J.stop i H ∧ Q (.bl al) H) ∨ (J.go i H ∧ ∃ Nx : Hp → Prop, (∀ H', Nx H' → ∃ m', m' < m ∧ W (i + 1) m' H') ∧ ∀ x H', J.yld i H x H' → g x (wipe σ vs) H' fun σ2 H2 => wipe σ2 vs = wipe σ vs ∧ te σ2 H2 fun y H3 =>
    ∃ b : Bool, y = .bl b ∧ (if b = al then Nx H3 else Q (.bl (!al)) H3))
end

/-! ### the generator's run -/
section
variable {X : Cx} {σw : L2.St} {elt tg iter : Expr} {scope : Scope} {pos : Pos} {J : L2.It} {it : Addr} {fp : List Addr} {tn : Nat → Heap → Prop} {W : Nat → Nat → Hp → Prop} {Q : VK} {al : Bool} {g : TG} {te : TE} {vs : List Nat}
def RGen (X : Cx) (σw : L2.St) (Q : VK) (al : Bool) : GenEnd := fun n s₀ r s1 => r = .ok .next ∧ ∃ H', Inv X [] σw H' s1 ∧ Q (.bl al) H'
def YGen (X : Cx) (σw : L2.St) (Q : VK) (al : Bool) : Protocol := fun n s₀ v s1 kap => ∃ (b : Bool) (H' : Hp), v = .bool b ∧ Inv X [] σw H' s1 ∧
  (b = al → ∀ s'', s''.os = s1.os → AllBare s''.gens → (∀ c o, s1.heap.get? c = some o → s''.heap.get? c = some o) → kap (.send .none) s'') ∧ (b ≠ al → Q (.bl (!al)) H')
/-- the turns of W -/
def Turns (X : Cx) (J : L2.It) (W : Nat → Nat → Hp → Prop) (σw : L2.St) (Q : VK) (al : Bool) (g : TG) (te : TE) (vs : List Nat) : Prop := ∀ i m H, W i m H →
  (J.stop i H ∧ Q (.bl al) H) ∨ (J.go i H ∧ ∃ Nx : Hp → Prop, (∀ H', Nx H' → ∃ m', m' < m ∧ W (i + 1) m' H') ∧ ∀ x H', J.yld i H x H' → g x σw H' fun σ2 H2 => wipe σ2 vs = σw ∧ te σ2 H2 fun y H3 =>
    ∃ b : Bool, y = .bl b ∧ (if b = al then Nx H3 else Q (.bl (!al)) H3))
theorem seg_gen {A : Around} {σ : L2.St} (hA : A.over (.compLoop (.GeneratorExp elt [⟨tg, iter, [], 0⟩] scope pos) 0 (.ref it) .none X.env) [] = X.A) (hc : X.calm = true) (hxe : X.xe = fun _ _ => False) (hpn : ∀ p ∈ X.pn, p.1 ∉ fp) (hfp : X.ex = fp)
    (T : Turn X.prog X.w X.K tg J fp it tn) (hsw : σw = wipe σ vs) (hco : X.env.scope.isCoroutine = false) (pg : PG X tg g) (pe : PE X elt te) (turn : Turns X J W σw Q al g te vs) :
    ∀ (n m i : Nat) (s₀ s : Shared) (H : Hp), m < n → Inv X [] σw H s → tn i s.heap → (∀ b ∈ fp, H b = none) → W i m H →
      Seg (model X.prog X.w) A (RGen X σw Q al) (YGen X σw Q al) n s₀ (.compLoop (.GeneratorExp elt [⟨tg, iter, [], 0⟩] scope pos) 0 (.ref it) .none X.env)
        ((model X.prog X.w).den (.compLoop (.GeneratorExp elt [⟨tg, iter, [], 0⟩] scope pos) 0 (.ref it) .none X.env)) [] s := by
  have stat : ∀ {σ' : L2.St} {H' : Hp} {s' : Shared}, Inv X [] σ' H' s' → (∀ b ∈ fp, H' b = none) → ∀ b ∈ fp, FpOk X [] H' b := fun {σ' H' s'} I' hn b hb =>
    ⟨hn b hb, (I'.ok.exf b (hfp ▸ hb)).1, I'.ok.exfs b (hfp ▸ hb), .inl (hfp ▸ hb), fun x c e => (I'.ok.exf b (hfp ▸ hb)).2 x c e, fun p hp e => by
      rw [List.append_nil] at hp
      exact hpn p hp (e ▸ hb)⟩
  intro n
  induction n with
  | zero => intro m i s₀ s H hm; exact absurd hm (Nat.not_lt_zero _)
  | succ n ih =>
    intro m i s₀ s H hm I st hn hw
    show Seg _ A _ _ _ s₀ _ ((compTurn (.GeneratorExp elt [⟨tg, iter, [], 0⟩] scope pos) 0 (.ref it) .none X.env).onRaise (leaving X.env)) [] s
    rw [compTurn_gen, Sem.onRaise_eq_wrap]
    refine seg_bind_wrap (wpAny_standAt ?_)
    refine seg_bind_wrap ?_
    rw [hA]
    rcases turn i m H hw with ⟨stop, qq⟩ | ⟨go, Nx, hNx, step⟩
    · refine thnF (T.done X rfl rfl rfl hc i [] s _ H (fun _ _ => False) I (stat I hn) st stop) fun r s6 ⟨hr, I6⟩ => ?_
      subst hr
      exact seg_end (.ok .next) ⟨rfl, H, I6, qq⟩
    · refine thnF (T.item X rfl rfl rfl hc i [] s _ H (fun _ _ => False) I (stat I hn) st go) fun r s6 ⟨u, hr, h6⟩ => ?_
      subst hr
      refine seg_bind_wrap ?_
      rw [hA]
      refine thnF h6 fun _ s7 ⟨x, H7, I7, r7, y7, st7, n7⟩ => ?_
      have I7' := I7.pinned (stat I7 n7) (T.obj _ _ st7)
      refine seg_bind_wrap ?_
      rw [hA]
      have pgr := pg.run _ s7 _ H7 x u _ I7' r7 (step x H7 y7)
      rw [hxe] at pgr
      refine thnF pgr fun _ s8 ⟨σ8, H8, I8, hw8, q8⟩ => ?_
      refine seg_bind_wrap (wpAny_tests_nil ?_)
      simp only [if_true]
      have hy : ∀ v, yieldOut X.env v = yieldValue v := fun v => by simp only [yieldOut, hco, Bool.false_eq_true, if_false]
      simp only [hy]
      rw [Sem.bind_eq_wrap', Sem.bind_eq_wrap', Sem.wrap_wrap, Sem.wrap_wrap]
      refine seg_wrap ?_
      rw [hA]
      have per := pe.run _ s8 σ8 H8 _ I8 q8
      rw [hxe] at per
      refine thnF per fun v s9 ⟨y, H9, I9, ry, b, ey, hb⟩ => ?_
      subst ey
      have ev : v = .bool b := ry
      subst ev
      have hl : σw.length = σ8.length := by rw [← hw8, wipe_length]
      have I9' : Inv X [] σw H9 s9 := (I9.unpinned (pins := [])).weak hl (fun j v e => by rw [← hw8] at e; exact (wipe_some e).1)
      have pin' : ∀ b ∈ fp, ∀ o, s7.heap.get? b = some o → s9.heap.get? b = some o ∧ H9 b = none := fun b hb o e =>
        let z := I9.pin (b, o) (List.mem_append_right _ (List.mem_append_right _ (mem_pinsAt hb e)))
        ⟨z.1, z.2.1⟩
      have st9 : tn (i + 1) s9.heap := T.keep _ _ _ st7 fun b hb o e => (pin' b hb o e).1
      have n9 : ∀ b ∈ fp, H9 b = none := fun b hb => by
        obtain ⟨o, e, _⟩ := T.obj _ _ st7 b hb
        exact (pin' b hb o e).2
      refine seg_at (seg_yield rfl rfl rfl ?_)
      refine ⟨b, H9, rfl, I9', fun hba s'' ho hg hk => ?_, fun hba => ?_⟩
      · rw [if_pos hba] at hb
        obtain ⟨m', hm', w'⟩ := hNx H9 hb
        refine seg_again rfl (ih m' (i + 1) s'' s'' H9 (by omega) ?_ (T.keep _ _ _ st9 fun b _ o e => hk b o e) n9 w')
        exact I9'.call' (ch := []) ho (Un.kept hk) (I9'.hok.kept hk) hg fun b z => by simp at z
      · rw [if_neg hba] at hb
        exact hb
/-- from its beginning -/
theorem seg_gen0 {A : Around} {σ : L2.St} (hA : A.over (.compLoop (.GeneratorExp elt [⟨tg, iter, [], 0⟩] scope pos) 0 (.ref it) .none X.env) [] = X.A) (hc : X.calm = true) (hxe : X.xe = fun _ _ => False) (hpn : ∀ p ∈ X.pn, p.1 ∉ fp) (hfp : X.ex = fp)
    (T : Turn X.prog X.w X.K tg J fp it tn) (hsw : σw = wipe σ vs) (hco : X.env.scope.isCoroutine = false) (pg : PG X tg g) (pe : PE X elt te) (turn : Turns X J W σw Q al g te vs) {n m i : Nat} {s₀ s : Shared} {H : Hp} (hm : m < n) (I : Inv X [] σw H s) (st : tn i s.heap) (hn : ∀ b ∈ fp, H b = none) (hw : W i m H) :
      Seg (model X.prog X.w) A (RGen X σw Q al) (YGen X σw Q al) n s₀ (.compStart (.GeneratorExp elt [⟨tg, iter, [], 0⟩] scope pos) 0 (.ref it) .none X.env)
        ((model X.prog X.w).den (.compStart (.GeneratorExp elt [⟨tg, iter, [], 0⟩] scope pos) 0 (.ref it) .none X.env)) [] s := by
  have loop := seg_gen hA hc hxe hpn hfp T hsw hco pg pe turn n m i s₀ _ H hm I st hn hw
  show Seg _ A _ _ _ s₀ _ ((compStart (.GeneratorExp elt [⟨tg, iter, [], 0⟩] scope pos) 0 (.ref it) .none X.env).onRaise (leaving X.env)) [] s
  unfold compStart
  rw [Sem.onRaise_eq_wrap]
  show Seg _ A _ _ _ s₀ _ ((ask >>= _).wrap _ _ _ _) [] s
  refine seg_bind_wrap (wpAny_askSetting ?_)
  split
  · exact seg_again rfl loop
  · first
      | exact seg_bind_wrap (wpAny_rule (seg_bind_wrap (wpAny_standAt (seg_bind_wrap (T.self _ i s _ _ st (seg_again rfl loop))))))
      | (refine seg_bind_wrap (wpAny_rule ?_); show Seg _ A _ _ _ s₀ _ ((standAt iter.pos >>= _).wrap _ _ _ _) [] s; exact seg_bind_wrap (wpAny_standAt (seg_bind_wrap (T.self _ i s _ _ st (seg_again rfl loop)))))

/-! ### all, any -/
/-- the generator at a, number g, sleeps or has not begun: its next run -/
def GAt (X : Cx) (σw : L2.St) (Q : VK) (al : Bool) (A : Around) (a : Addr) (gn n : Nat) (s : Shared) : Prop :=
  ∃ gs, s.gens[gn]? = some gs ∧ ∀ s'', s''.os = s.os → AllBare s''.gens → (∀ c o, s.heap.get? c = some o → s''.heap.get? c = some o) → gs.Goes (model X.prog X.w) A (RGen X σw Q al) (YGen X σw Q al) n (.send .none) s''
theorem next_gen {A : Around} {a : Addr} {gn n : Nat} {s : Shared} {P : Option Value → Shared → Prop} {E : Value → Shared → Prop} (hh : A.handled = none) (hd : A.depth < recursionLimit) (hl : s.heap.NoLimit) (hg : s.heap.IsGen a gn) (hb : AllBare s.gens) (hG : GAt X σw Q al A.in1 a gn n s)
    (hend : ∀ s' H', s'.os = X.s_0.os → AllBare s'.gens → Inv X [] σw H' s' → Q (.bl al) H' → P none s')
    (hgo : ∀ s' m, n = m + 1 → AllBare s'.gens → (∃ H', Inv X [] σw H' s') → GAt X σw Q al A.in1 a gn m s' → P (some (.bool al)) s')
    (hout : ∀ s' H', Inv X [] σw H' s' → Q (.bl (!al)) H' → P (some (.bool (!al))) s') : wpAny (model X.prog X.w) A (pyNext (.ref a)) P E s := by
  obtain ⟨gs, hgs, go⟩ := hG
  have hgl : gn < s.gens.size := (Array.getElem?_eq_some_iff.mp hgs).1
  refine wpAny_gsz (n := gn + 1) hgl (wpAny_pyNext_genexpQ (P := fun n s₀ s1 => ∃ H', Inv X [] σw H' s1 ∧ Q (.bl al) H') hh hl hd hg hgs (go (s.setGen gn .running) rfl (allBare_setGen hb rfl) fun _ _ e => e) (fun v s1 gs' hbare hv hsz => ?_) (fun s1 hp h' hk hsz => ?_))
  · obtain ⟨b, H', rfl, I', h1, h2⟩ := hv
    have I2 : Inv X [] σw H' (s1.setGen gn gs') := I'.call' (ch := []) rfl (Un.kept fun _ _ e => e) I'.hok (allBare_setGen I'.bare hbare) fun b z => by simp at z
    by_cases hba : b = al
    · subst hba
      have h1 := h1 rfl
      cases n with
      | zero => exact False.elim (h1 s1 rfl I'.bare fun _ _ e => e)
      | succ m => exact hgo _ m rfl I2.bare ⟨H', I2⟩ ⟨gs', setGen_at (by
          have q := setGen_size s1 gn gs'
          omega), fun s'' ho hg hk => h1 s'' ho hg hk⟩
    · have e : b = !al := by cases b <;> cases al <;> simp_all
      subst e
      exact hout _ H' I2 (h2 hba)
  · obtain ⟨H', I', q⟩ := hp
    have I2 : Inv X [] σw H' { s1.setGen gn .finished with heap := h' } := I'.call' (ch := []) rfl (Un.kept hk) (I'.hok.kept hk) (allBare_setGen I'.bare rfl) fun b z => by simp at z
    exact hend _ H' I2.os I2.bare I2 q
theorem loop_all {A : Around} {a : Addr} {gn : Nat} {go : Obj} {R : Result → Shared → Prop} (hh : A.handled = none) (hd : A.depth < recursionLimit) (hgo : (a, go) ∈ X.pn) (hgen : ∀ h : Heap, h.get? a = some go → h.IsGen a gn)
    (hR1 : ∀ s' H', Inv X [] σw H' s' → Q (.bl true) H' → R (.ok (.ret (.bool true))) s') (hR2 : ∀ s' H', Inv X [] σw H' s' → Q (.bl false) H' → R (.ok (.ret (.bool false))) s') :
    ∀ (n : Nat) (s : Shared) (H : Hp), Inv X [] σw H s → GAt X σw Q true A.in1.in1 a gn n s → codeAny (model X.prog X.w) A (.builtin "all.loop" ⟨[.ref a], []⟩) R s := by
  intro n
  induction n with
  | zero =>
    intro s H I hG
    have hg := hgen s.heap (I.pin (a, go) (List.mem_append_left _ hgo)).1
    refine codeAny_builtin F.entry_all_loop ?_
    rw [Around.under_plainId F.plain_all_loop _]
    show wpAny _ A.in1 (pyNext (.ref a) >>= _) _ _ s
    refine wpAny_bind (next_gen (A := A.in1) hh hd I.nolimit hg I.bare hG (fun s' H' _ _ I' q => ?_) (fun s' m e _ _ _ => by omega) (fun s' H' I' q => ?_))
    · exact wpAny_bind (wpAny_rule (wpAny_pure (hR1 s' H' I' q)))
    · refine wpAny_bind (wpAny_holding (wpAny_truthy_bool ?_))
      refine wpAny_bind (wpAny_letGo ?_)
      exact wpAny_bind (wpAny_rule (wpAny_pure (hR2 s' H' I' q)))
  | succ n ih =>
    intro s H I hG
    have hg := hgen s.heap (I.pin (a, go) (List.mem_append_left _ hgo)).1
    refine codeAny_builtin F.entry_all_loop ?_
    rw [Around.under_plainId F.plain_all_loop _]
    show wpAny _ A.in1 (pyNext (.ref a) >>= _) _ _ s
    refine wpAny_bind (next_gen (A := A.in1) hh hd I.nolimit hg I.bare hG (fun s' H' _ _ I' q => ?_) (fun s' m e _ ⟨H', I'⟩ hG' => ?_) (fun s' H' I' q => ?_))
    · exact wpAny_bind (wpAny_rule (wpAny_pure (hR1 s' H' I' q)))
    · have e : m = n := by omega
      subst e
      refine wpAny_bind (wpAny_holding (wpAny_truthy_bool ?_))
      refine wpAny_bind (wpAny_letGo ?_)
      simp only [if_true]
      exact wpAny_pure ⟨plainId_quiet F.plain_all_loop _, ih s' H' I' hG'⟩
    · refine wpAny_bind (wpAny_holding (wpAny_truthy_bool ?_))
      refine wpAny_bind (wpAny_letGo ?_)
      exact wpAny_bind (wpAny_rule (wpAny_pure (hR2 s' H' I' q)))
theorem loop_any {A : Around} {a : Addr} {gn : Nat} {go : Obj} {R : Result → Shared → Prop} (hh : A.handled = none) (hd : A.depth < recursionLimit) (hgo : (a, go) ∈ X.pn) (hgen : ∀ h : Heap, h.get? a = some go → h.IsGen a gn)
    (hR1 : ∀ s' H', Inv X [] σw H' s' → Q (.bl false) H' → R (.ok (.ret (.bool false))) s') (hR2 : ∀ s' H', Inv X [] σw H' s' → Q (.bl true) H' → R (.ok (.ret (.bool true))) s') :
    ∀ (n : Nat) (s : Shared) (H : Hp), Inv X [] σw H s → GAt X σw Q false A.in1.in1 a gn n s → codeAny (model X.prog X.w) A (.builtin "any.loop" ⟨[.ref a], []⟩) R s := by
  intro n
  induction n with
  | zero =>
    intro s H I hG
    have hg := hgen s.heap (I.pin (a, go) (List.mem_append_left _ hgo)).1
    refine codeAny_builtin F.entry_any_loop ?_
    rw [Around.under_plainId F.plain_any_loop _]
    show wpAny _ A.in1 (pyNext (.ref a) >>= _) _ _ s
    refine wpAny_bind (next_gen (A := A.in1) hh hd I.nolimit hg I.bare hG (fun s' H' _ _ I' q => ?_) (fun s' m e _ _ _ => by omega) (fun s' H' I' q => ?_))
    · exact wpAny_bind (wpAny_rule (wpAny_pure (hR1 s' H' I' q)))
    · refine wpAny_bind (wpAny_holding (wpAny_truthy_bool ?_))
      refine wpAny_bind (wpAny_letGo ?_)
      exact wpAny_bind (wpAny_rule (wpAny_pure (hR2 s' H' I' q)))
  | succ n ih =>
    intro s H I hG
    have hg := hgen s.heap (I.pin (a, go) (List.mem_append_left _ hgo)).1
    refine codeAny_builtin F.entry_any_loop ?_
    rw [Around.under_plainId F.plain_any_loop _]
    show wpAny _ A.in1 (pyNext (.ref a) >>= _) _ _ s
    refine wpAny_bind (next_gen (A := A.in1) hh hd I.nolimit hg I.bare hG (fun s' H' _ _ I' q => ?_) (fun s' m e _ ⟨H', I'⟩ hG' => ?_) (fun s' H' I' q => ?_))
    · exact wpAny_bind (wpAny_rule (wpAny_pure (hR1 s' H' I' q)))
    · have e : m = n := by omega
      subst e
      refine wpAny_bind (wpAny_holding (wpAny_truthy_bool ?_))
      refine wpAny_bind (wpAny_letGo ?_)
      simp only [Bool.false_eq_true, if_false]
      exact wpAny_pure ⟨plainId_quiet F.plain_any_loop _, ih s' H' I' hG'⟩
    · refine wpAny_bind (wpAny_holding (wpAny_truthy_bool ?_))
      refine wpAny_bind (wpAny_letGo ?_)
      exact wpAny_bind (wpAny_rule (wpAny_pure (hR2 s' H' I' q)))
end

/-! ### the expression -/
section
variable {X : Cx}
/-- where the element stands -/
structure InGen (X : Cx) (A : Around) : Prop where
  hd : A.handled = X.A.handled
  dp : A.depth = X.A.depth + 1
  un : A.units = X.A.units + 5
theorem InGen.room {X : Cx} {A : Around} {k : Nat} (h : InGen X A) (r : Room (k + 1) X.A) : Room k A := by
  obtain ⟨h1, h2, h3⟩ := h
  obtain ⟨r1, r2, r3⟩ := r
  exact ⟨h1.trans r1, by omega, by omega⟩
/-- the generator is made -/
def Made (X : Cx) (pins : List (Addr × Obj)) (σ : L2.St) (al : Bool) (Q : VK) (u : Value) (s5 : Shared) : Prop :=
  ∃ (Y : Cx) (σw : L2.St) (H5 : Hp) (a : Addr) (gn n : Nat) (go : Obj), Y.prog = X.prog ∧ Y.w = X.w ∧ u = .ref a ∧ (a, go) ∈ Y.pn ∧ (∀ h : Heap, h.get? a = some go → h.IsGen a gn) ∧ Inv Y [] σw H5 s5 ∧ GAt Y σw Q al X.A.in1.in1 a gn n s5 ∧ ∀ s' H', Inv Y [] σw H' s' → Inv X pins σ H' s'
theorem gen_made {c P : Addr} {elt tg iter : Expr} {scope : Scope} {own : List (Str × Nat)} {gpos : Pos} {wi : TI} {g : TG} {te : TE} {k : Nat} {al : Bool} {pins : List (Addr × Obj)} {s : Shared} {σ : L2.St} {H : Hp} {Q : VK}
    (hr : Room k X.A) (hc : X.calm = true) (hN : X.N.Nodup) (TB : GxR.TabB X.base X.mg c P) (hcode : X.env.code = .ref c) (ok : GenOk X.N X.env.scope scope own) (hi : PI X tg iter wi)
    (hg : ∀ (A : Around) (s : Shared) (H : Hp) (C : Addr) (cl : List (Str × Addr)) (cd : Value) (fp : List Addr) (pn : List (Addr × Obj)), InGen X A → PG (genX X A s H (genEnv scope cl C cd builtinsNs X.env) fp pn) tg g)
    (he : ∀ (A : Around) (s : Shared) (H : Hp) (C : Addr) (cl : List (Str × Addr)) (cd : Value) (fp : List Addr) (pn : List (Addr × Obj)), InGen X A → PE (genX X A s H (genEnv scope cl C cd builtinsNs X.env) fp pn) elt te)
    (hs : ∀ v, genFold iter X.env v = pure v) (I : Inv X pins σ H s) (h : tGen al P wi g te (own.map (·.2)) σ H Q) :
    wpAny (model X.prog X.w) X.A (eval (.GeneratorExp elt [⟨tg, iter, [], 0⟩] scope gpos) X.env) (Made X pins σ al Q) X.xe s := by
  have hfree : ∀ y ∈ scope.names, y.2 = .free → ∃ c, X.env.cells.lookup y.1 = some c := fun y hy e => by
    rcases ok.b.free y hy e with k | k
    · exact I.ok.has _ (.inl k)
    · exact I.ok.has _ (.inr k)
  refine wpAny_GeneratorExp_make ok.co (closure_ok hfree) ok.nocell ok.dot ok.b.kind (by have := hr.dp; omega) ?_ hs
  refine thn (hi.run pins s σ H _ I h) fun xv s1 hx => thn hx fun itv s2 h2 => ?_
  obtain ⟨it, fp, tn, J, H1, e, I2, T, st2, f2, ⟨ps, hP, ht⟩, q⟩ := h2
  subst e
  have hPs : s2.heap.get? P = some { cls := .none, data := .fields ps } := I2.hok P _ hP
  have hPlt : P < s2.heap.objs.size := Heap.lt_size hPs
  have cd : PySem.W.CodeHd s2.heap c P := TB.code.keeps fun b u e => I2.bk b u e
  refine ⟨I2.nolimit, ?_⟩
  have cont : ∀ (code : Value) (h3 : Heap) (tk : Nat) (ps' : Array Value), Heap.ExtBut P s2.heap h3 → s2.heap.objs.size ≤ h3.objs.size → h3.get? P = some { cls := .none, data := .fields ps' } → (∃ more, ps' = ps ++ more) → TriplesOk ps'.toList →
      wpAny (model X.prog X.w) X.A (builtinsFor X.env.globals X.env.builtins) (fun bi s₄ =>
        ∀ h', h'.Ns s₄.heap.objs.size (fun y => if y = ".0" then some (.ref it) else none) → Heap.SameBut s₄.heap.objs.size (s₄.heap.push { cls := .type "frame", data := .dict #[] }) h' →
          Made X pins σ al Q (.ref h'.objs.size) { s₄ with
            gens := s₄.gens.push (.fresh (.compStart (.GeneratorExp elt [⟨tg, iter, [], 0⟩] scope gpos) 0 (.ref it) .none (genEnv scope (cloFrom X.env.cells scope.names []) s₄.heap.objs.size code bi X.env))),
            toks := s₄.toks + 1 + 1 + 1,
            heap := h'.push { cls := .type "generator", data := .fields #[.int s₄.gens.size 0, .str "<genexpr>" (s₄.toks + 1), .str (X.env.qual ++ "<genexpr>") (s₄.toks + 1 + 1)] } }) X.xe { s2 with heap := h3, toks := tk } := by
    intro code h3 tk ps' hx hsz hP3 hmore ht3
    obtain ⟨bm, ob, e1, e2, e3, e4, e5, e6, e7, e8⟩ := TB.bm
    have hcP : cStatics ≠ P := fun e => by
      obtain ⟨_, hns, _⟩ := I2.nolimit
      obtain ⟨o', es, ep, ho, hd, _⟩ := hns
      rw [e, hPs] at ho
      cases ho
      cases hd
    have keep3 : ∀ b u, b ≠ P → s2.heap.get? b = some u → h3.get? b = some u := fun b u hb e => hx b u hb e
    obtain ⟨more, em⟩ := hmore
    have I3 : Inv X pins σ (upd H1 P (.tbl (ps ++ more))) { s2 with heap := h3, toks := tk } := inv_tab (g' := s2.gens) (d' := s2.drawn) I2 hP keep3 (by rw [← em]; exact hP3) I2.bare
    refine wpAny_builtinsFor (m := X.mg) (by rw [I2.ok.glob]; exact (I2.mod.glob.keeps I2.bk).extBut hx TB.gP) e1 e2 (keep3 _ _ e4 (I2.bk _ _ e5)) e6 e7 e8 ?_
    intro h' hn' hs'
    have hT : Tabbed P H1 (upd H1 P (.tbl (ps ++ more))) := ⟨⟨ps ++ more, upd_same, by rw [← em]; exact ht3⟩, fun b hb => upd_ne hb⟩
    obtain ⟨W, ⟨m0, w0⟩, turn⟩ := q _ hT
    have sz : ∀ b ∈ fp, b < s2.heap.objs.size := fun b hb => by
      obtain ⟨o, e, _⟩ := T.obj _ _ st2 b hb
      exact Heap.lt_size e
    have nP : ∀ b ∈ fp, b ≠ P := fun b hb z => by
      have := (f2 b hb).1
      rw [z, hP] at this
      cases this
    have f3 : ∀ b ∈ fp, FpOk X pins (upd H1 P (.tbl (ps ++ more))) b ∧ b < h3.objs.size := fun b hb => by
      refine ⟨⟨?_, (f2 b hb).2⟩, Nat.lt_of_lt_of_le (sz b hb) hsz⟩
      rw [upd_ne (nP b hb)]
      exact (f2 b hb).1
    have st3 : tn 0 h3 := T.keep _ _ _ st2 fun b hb o e => keep3 b o (nP b hb) e
    generalize hH3 : upd H1 P (.tbl (ps ++ more)) = H3 at I3 hT w0 turn f3
    generalize hs3 : ({ s2 with heap := h3, toks := tk } : Shared) = s3 at I3 hn' hs' ⊢
    have hh3 : s3.heap = h3 := by rw [← hs3]
    rw [← hh3] at st3 f3
    generalize hgo : ({ cls := .type "generator", data := .fields #[.int s3.gens.size 0, .str "<genexpr>" (s3.toks + 1), .str (X.env.qual ++ "<genexpr>") (s3.toks + 1 + 1)] } : Obj) = go
    have hgen : ∀ h : Heap, h.get? h'.objs.size = some go → h.IsGen h'.objs.size s3.gens.size := fun h e => ⟨go, _, _, e, by rw [← hgo], by rw [← hgo], by rw [← hgo]⟩
    have pushed : (h'.push go).get? h'.objs.size = some go := by rw [← hgo]; exact Heap.get?_push_size _ rfl
    have hsz' : h'.objs.size = s3.heap.objs.size + 1 := by rw [hs'.1, Heap.size_push]
    have I5 := gen_start (A := X.A.in1.in1.over (.compLoop (.GeneratorExp elt [⟨tg, iter, [], 0⟩] scope gpos) 0 (.ref it) .none (genEnv scope (cloFrom X.env.cells scope.names []) s3.heap.objs.size code builtinsNs X.env)) [])
      (code := code) (go := go) (g' := s3.gens.push (.fresh (.compStart (.GeneratorExp elt [⟨tg, iter, [], 0⟩] scope gpos) 0 (.ref it) .none (genEnv scope (cloFrom X.env.cells scope.names []) s3.heap.objs.size code builtinsNs X.env)))) (t' := s3.toks + 1 + 1 + 1) I3 ok hN f3
      (fun hcalm => I3.ok.hd hcalm) (over_gen I3.ok.frames) hn' hs' (fun v z => by rw [← hgo] at z; cases z) pushed (AllBare.push I3.bare rfl)
    generalize hce : genEnv scope (cloFrom X.env.cells scope.names []) s3.heap.objs.size code builtinsNs X.env = ce at I5 ⊢
    have hpg := hg (X.A.in1.in1.over (.compLoop (.GeneratorExp elt [⟨tg, iter, [], 0⟩] scope gpos) 0 (.ref it) .none ce) []) s3 H3 s3.heap.objs.size (cloFrom X.env.cells scope.names []) code fp [(h'.objs.size, go)] ⟨rfl, rfl, rfl⟩
    have hpe := he (X.A.in1.in1.over (.compLoop (.GeneratorExp elt [⟨tg, iter, [], 0⟩] scope gpos) 0 (.ref it) .none ce) []) s3 H3 s3.heap.objs.size (cloFrom X.env.cells scope.names []) code fp [(h'.objs.size, go)] ⟨rfl, rfl, rfl⟩
    rw [hce] at hpg hpe
    obtain ⟨vs, hvs⟩ : ∃ vs, vs = own.map (·.2) := ⟨_, rfl⟩
    rw [← hvs] at turn I5
    refine ⟨genX X (X.A.in1.in1.over (.compLoop (.GeneratorExp elt [⟨tg, iter, [], 0⟩] scope gpos) 0 (.ref it) .none ce) []) s3 H3 ce fp [(h'.objs.size, go)], wipe σ vs, H3, h'.objs.size, s3.gens.size, m0 + 1, go, rfl, rfl, rfl, ?_, hgen, I5, ⟨_, Array.getElem?_push_size .., fun s'' ho hb hk => ⟨rfl, ?_⟩⟩, fun s' H' I' => ?_⟩
    · exact List.mem_singleton.mpr rfl
    · refine seg_gen0 (X := genX X (X.A.in1.in1.over (.compLoop (.GeneratorExp elt [⟨tg, iter, [], 0⟩] scope gpos) 0 (.ref it) .none ce) []) s3 H3 ce fp [(h'.objs.size, go)]) (σ := σ) (σw := wipe σ vs) (Q := Q) (al := al) (vs := vs) (W := W) rfl hc rfl (fun p hp hb => ?_) rfl T rfl (by rw [← hce]; exact ok.co) hpg hpe turn (Nat.lt_succ_self m0) ?_ ?_ (fun b hb => (f3 b hb).1.1) w0
      · have hp : p = (h'.objs.size, go) := by simpa using hp
        subst hp
        have := (f3 _ hb).2
        rw [hsz'] at this
        exact absurd (Nat.lt_of_succ_lt this) (Nat.lt_irrefl _)
      · exact I5.call' (ch := []) ho (Un.kept hk) (I5.hok.kept hk) hb fun b z => by simp at z
      · refine T.keep _ _ _ st3 fun b hb o e => hk b o ?_
        exact Heap.get?_push_of_some _ (hs'.extBut b o (Nat.ne_of_lt (f3 b hb).2) (Heap.get?_push_of_some _ e))
    · exact I3.call' (ch := fp) I'.os I'.base I'.hok I'.bare fun b hb => ⟨(f3 b hb).1.2.2.2.1, (f3 b hb).1.2.1, (f3 b hb).1.2.2.2.2.1, (f3 b hb).1.2.2.2.2.2⟩
  cases hf : codeAmong gpos ps.toList with
  | none =>
    refine wpAny_genexprCodeX hcode (cd.code hPs ht) (cd.tab hPs) hf fun c' h' tk hx hge hlt hco' _ htab' _ => ?_
    obtain ⟨o1, vs, f1, tf, fl, tg, inF, tx, tt, op, _, _, _, _, _, _, _, _, _, htr, _⟩ := hco'
    exact cont _ h' tk _ hx (Nat.le_trans hge (Nat.le_of_lt hlt)) htab'.2 ⟨_, rfl⟩ htr
  | some cv =>
    refine wpAny_genexprCode_hit hcode (cd.code hPs ht) hf ?_
    exact cont cv s2.heap s2.toks ps (Heap.ExtBut.refl _ _) (Nat.le_refl _) hPs ⟨#[], by simp⟩ ht
theorem pe_all {c P : Addr} {elt tg iter : Expr} {scope : Scope} {own : List (Str × Nat)} {p pos gpos : Pos} {wi : TI} {g : TG} {te : TE} {k : Nat}
    (hr : Room k X.A) (hc : X.calm = true) (hN : X.N.Nodup) (hgl : Gl X "all") (hm : X.mg "all" = none) (TB : GxR.TabB X.base X.mg c P) (hcode : X.env.code = .ref c) (ok : GenOk X.N X.env.scope scope own) (hi : PI X tg iter wi)
    (hg : ∀ (A : Around) (s : Shared) (H : Hp) (C : Addr) (cl : List (Str × Addr)) (cd : Value) (fp : List Addr) (pn : List (Addr × Obj)), InGen X A → PG (genX X A s H (genEnv scope cl C cd builtinsNs X.env) fp pn) tg g)
    (he : ∀ (A : Around) (s : Shared) (H : Hp) (C : Addr) (cl : List (Str × Addr)) (cd : Value) (fp : List Addr) (pn : List (Addr × Obj)), InGen X A → PE (genX X A s H (genEnv scope cl C cd builtinsNs X.env) fp pn) elt te)
    (hs : ∀ v, genFold iter X.env v = pure v) : PE X (.Call (.Name "all" p) [.GeneratorExp elt [⟨tg, iter, [], 0⟩] scope gpos] [] pos) (tGen true P wi g te (own.map (·.2))) := by
  refine ⟨fun pins s σ H Q I h => ?_⟩
  refine wpAny_Call_Name_kw (ld_blt I hgl hm (show bootBuiltins "all" = some (.builtin "all") by decide +kernel) ?_)
  have hst : starEach [.GeneratorExp elt [⟨tg, iter, [], 0⟩] scope gpos] X.env = (false, eval (.GeneratorExp elt [⟨tg, iter, [], 0⟩] scope gpos) X.env) :: starEach [] X.env := by rfl
  refine PyProof.Rows.callWith_builtin1 ?_ hst (by rfl)
  rw [hst]
  show wpAny _ _ (spliced ((false, eval (.GeneratorExp elt [⟨tg, iter, [], 0⟩] scope gpos) X.env) :: backTo pos (starEach [] X.env))) _ _ s
  refine Calls.spliced_cons (thn (gen_made hr hc hN TB hcode ok hi hg he hs I h) fun u s5 hM => ?_)
  refine Calls.spliced_nil ?_
  obtain ⟨Y, σw, H5, a, gn, n, go, hp, hw, rfl, hgo, hgen, I5, hG, back⟩ := hM
  refine call_function_tree F.kind_all F.plain_all F.entry_all (F.args_all1 _) ?_
  unfold Builtin.«all»
  refine wpAny_bind (m := oneArg "all" _) (wpAny_pure ?_)
  refine wpAny_bind (wpAny_pyIter_gen (hgen _ (I5.pin (a, go) (List.mem_append_left _ hgo)).1) ?_)
  refine wpAny_pure ⟨plainId_quiet F.plain_all_loop _, ?_⟩
  rw [← hp, ← hw]
  exact loop_all hr.hd (by have := hr.dp; show X.A.depth < _; omega) hgo hgen (fun s' H' I' q => ⟨.bl true, H', back s' H' I', rfl, q⟩) (fun s' H' I' q => ⟨.bl false, H', back s' H' I', rfl, q⟩) n s5 H5 I5 hG
theorem pe_any {c P : Addr} {elt tg iter : Expr} {scope : Scope} {own : List (Str × Nat)} {p pos gpos : Pos} {wi : TI} {g : TG} {te : TE} {k : Nat}
    (hr : Room k X.A) (hc : X.calm = true) (hN : X.N.Nodup) (hgl : Gl X "any") (hm : X.mg "any" = none) (TB : GxR.TabB X.base X.mg c P) (hcode : X.env.code = .ref c) (ok : GenOk X.N X.env.scope scope own) (hi : PI X tg iter wi)
    (hg : ∀ (A : Around) (s : Shared) (H : Hp) (C : Addr) (cl : List (Str × Addr)) (cd : Value) (fp : List Addr) (pn : List (Addr × Obj)), InGen X A → PG (genX X A s H (genEnv scope cl C cd builtinsNs X.env) fp pn) tg g)
    (he : ∀ (A : Around) (s : Shared) (H : Hp) (C : Addr) (cl : List (Str × Addr)) (cd : Value) (fp : List Addr) (pn : List (Addr × Obj)), InGen X A → PE (genX X A s H (genEnv scope cl C cd builtinsNs X.env) fp pn) elt te)
    (hs : ∀ v, genFold iter X.env v = pure v) : PE X (.Call (.Name "any" p) [.GeneratorExp elt [⟨tg, iter, [], 0⟩] scope gpos] [] pos) (tGen false P wi g te (own.map (·.2))) := by
  refine ⟨fun pins s σ H Q I h => ?_⟩
  refine wpAny_Call_Name_kw (ld_blt I hgl hm (show bootBuiltins "any" = some (.builtin "any") from boot_any) ?_)
  have hst : starEach [.GeneratorExp elt [⟨tg, iter, [], 0⟩] scope gpos] X.env = (false, eval (.GeneratorExp elt [⟨tg, iter, [], 0⟩] scope gpos) X.env) :: starEach [] X.env := by rfl
  refine PyProof.Rows.callWith_builtin1 ?_ hst (by rfl)
  rw [hst]
  show wpAny _ _ (spliced ((false, eval (.GeneratorExp elt [⟨tg, iter, [], 0⟩] scope gpos) X.env) :: backTo pos (starEach [] X.env))) _ _ s
  refine Calls.spliced_cons (thn (gen_made hr hc hN TB hcode ok hi hg he hs I h) fun u s5 hM => ?_)
  refine Calls.spliced_nil ?_
  obtain ⟨Y, σw, H5, a, gn, n, go, hp, hw, rfl, hgo, hgen, I5, hG, back⟩ := hM
  refine call_function_tree F.kind_any F.plain_any F.entry_any (F.args_any1 _) ?_
  unfold Builtin.«any»
  refine wpAny_bind (m := oneArg "any" _) (wpAny_pure ?_)
  refine wpAny_bind (wpAny_pyIter_gen (hgen _ (I5.pin (a, go) (List.mem_append_left _ hgo)).1) ?_)
  refine wpAny_pure ⟨plainId_quiet F.plain_any_loop _, ?_⟩
  rw [← hp, ← hw]
  exact loop_any hr.hd (by have := hr.dp; show X.A.depth < _; omega) hgo hgen (fun s' H' I' q => ⟨.bl false, H', back s' H' I', rfl, q⟩) (fun s' H' I' q => ⟨.bl true, H', back s' H' I', rfl, q⟩) n s5 H5 I5 hG
end
end Cut
/-! The reading of all(..), any(..). -/
namespace Cut
open PySem PySem.Spec PyProof.Rows L2 GxR
variable [Tbl]
section
variable {K : PySem.W.Frag} {H H' : Hp} {μ : List Addr} {G : Store} {P : Addr}
theorem XT.tabbed (h : TabG H P) (t : Tabbed P H H') : XT H H' := by
  obtain ⟨ps, hP, _⟩ := h
  refine ⟨fun b hb => ?_, fun a xs e => ?_, fun a o u e => ?_⟩
  · by_cases e : b = P
    · rw [e]; exact t.1
    · obtain ⟨qs, h1, h2⟩ := hb
      exact ⟨qs, by rw [t.2 b e]; exact h1, h2⟩
  · rw [t.2 a fun z => by rw [z, hP] at e; cases e]; exact e
  · rw [t.2 a fun z => by rw [z, hP] at e; cases e]; exact e
theorem RG.tabbed (g : RG K H μ G) (h : TabG H P) (t : Tabbed P H H') : RG K H' μ G := by
  refine g.ext (.tabbed h t) fun n a o _ w e => ?_
  obtain ⟨ps, hP, _⟩ := h
  rw [t.2 a fun z => by rw [z, hP] at e; cases e; rcases w with ⟨_, w⟩ | ⟨_, w⟩ <;> cases w]; exact e
end
variable {c : Ct}
theorem rE.gen {al : Bool} {P : Addr} (hP : P ∈ Tbl.ps) {t : Tg} {mi : MI} {el : ME} {own : List Nat} (ht : tgIn own t = true) {σ : L2.St} {H : Hp} {Q : VK} (q : rE c (mGen al t mi el own) σ H Q) : tGen al P (rI c mi) (gOf c.K t) (rE c.quiet el) own σ H Q := by
  obtain ⟨ρ, G, μ, re, rg, p⟩ := q
  refine ⟨ρ, G, μ, re, rg, p.bind.imp fun v G1 H1 μ1 x1 p1 g1 q1 J hJ => ⟨g1.tab P hP, fun H2 hT => ?_⟩⟩
  have q2 := q1.no
  clear q1 p
  have xT := XT.tabbed (g1.tab P hP) hT
  have gT := g1.tabbed (g1.tab P hP) hT
  have re1 := ((re.mono x1 p1).mono xT (List.prefix_refl _)).wipe own
  refine ⟨fun i m H => ∃ G μ, XT H2 H ∧ μ1 <+: μ ∧ RG c.K H μ G ∧ Post0 c.K H μ (genGo al t v el (wipeE ρ own) m i G) (fun d _ H' μ' => ∀ v, RD c.K H' μ' d v → Q v H'), ⟨loopFuel, _, _, .refl _, List.prefix_refl _, gT, Post0.mono xT (List.prefix_refl _) q2⟩, ?_⟩
  rintro i m H3 ⟨G2, μ2, x2, p2, g2, q3⟩
  have xx : XT H1 H3 := xT.trans x2
  cases m with
  | zero => exact q3.elim
  | succ m =>
    unfold genGo at q3
    cases hv : v.at i G2 with
    | none => rw [hv] at q3; exact q3.elim
    | some o =>
      cases o with
      | none =>
        rw [hv] at q3
        exact .inl ⟨hJ.stop i H3 μ2 G2 xx p2 g2 hv, q3 H3 μ2 (.refl _) (List.prefix_refl _) g2 _ rfl⟩
      | some d =>
        rw [hv] at q3
        obtain ⟨go, yl⟩ := hJ.go i H3 μ2 G2 d xx p2 g2 hv
        refine .inr ⟨go, fun H' => ∃ G μ, XT H2 H' ∧ μ1 <+: μ ∧ RG c.K H' μ G ∧ Post0 c.K H' μ (genGo al t v el (wipeE ρ own) m (i + 1) G) (fun d _ H' μ' => ∀ v, RD c.K H' μ' d v → Q v H'), fun H' h => ⟨m, Nat.lt_succ_self m, h⟩, fun x H4 hx => ?_⟩
        obtain ⟨x3, g3, rx⟩ := yl x H4 hx
        simp only at q3
        cases hb : t.bind d (wipeE ρ own) with
        | none => rw [hb] at q3; exact q3.elim
        | some ρ1 =>
          rw [hb] at q3
          simp only at q3
          have q4 := Post0.mono x3 (List.prefix_refl _) q3
          have key := g_wipe (own := own) ht (bind_to (Q := fun σ2 H4 => rE c.quiet el σ2 H4 fun y H5 => ∃ b : Bool, y = .bl b ∧ (if b = al then ∃ G μ, XT H2 H5 ∧ μ1 <+: μ ∧ RG c.K H5 μ G ∧ Post0 c.K H5 μ (genGo al t v el (wipeE ρ own) m (i + 1) G) (fun d _ H' μ' => ∀ v, RD c.K H' μ' d v → Q v H') else Q (.bl (!al)) H5))
            hb rx ((re1.mono x2 p2).mono x3 (List.prefix_refl _)) fun σ2 re2 => ?_)
          · simp only [wipe_wipe] at key
            exact key
          · refine ⟨ρ1, G2, μ2, re2, g3, Post0.any ((Post0.bind q4).imp fun d' G5 H5 μ5 x5 p5 g5 q6 y ry => ?_)⟩
            cases d' <;> try exact q6.elim
            case bl b =>
              refine ⟨b, ry, ?_⟩
              simp only at q6
              by_cases hba : b = al
              · rw [if_pos hba] at q6 ⊢
                exact ⟨G5, μ5, (x2.trans x3).trans x5, p2.trans p5, g5, q6⟩
              · rw [if_neg hba] at q6 ⊢
                exact q6 H5 μ5 (.refl _) (List.prefix_refl _) g5 _ rfl
end Cut
/-! any, sorted, sum, min, max of what stands in a list (any: of a tuple too). -/
namespace Cut
open PySem PySem.Spec PyProof.Rows L2
variable [Tbl]
section
variable {K : PySem.W.Frag} {H : Hp} {μ : List Addr}
theorem rds_intsD : ∀ {xs : List D} {ns : List Int} {vs : List V}, intsD xs = some ns → RDs K H μ xs vs → vs = ns.map V.int
  | [], ns, vs, h, r => by cases h; exact r
  | x :: xs, ns, vs, h, ⟨v, ws, e, r, rs⟩ => by
    cases x <;> try (cases h; done)
    case int i =>
      simp only [intsD, Option.map_eq_some_iff] at h
      obtain ⟨ms, h1, rfl⟩ := h
      have e1 : v = _ := r
      rw [e, e1, rds_intsD h1 rs]; rfl
theorem rds_of_ints : ∀ ns : List Int, RDs K H μ (ns.map D.int) (ns.map V.int)
  | [] => rfl
  | n :: ns => ⟨_, _, rfl, rfl, rds_of_ints ns⟩
end
section
variable {X : Cx}
theorem ints_vals : ∀ {ns : List Int} {its : List Value}, Vals (ns.map V.int) its → ∀ i v, its[i]? = some v → ∃ t, v = Value.int (ns.getD i 0) t
  | [], its, h, i, v, e => by cases h; simp at e
  | n :: ns, its, h, i, v, e => by
    cases h with
    | cons r rs =>
      cases i with
      | zero =>
        obtain ⟨t, rfl⟩ := r
        have e : some (Value.int n t) = some v := e
        cases e; exact ⟨t, rfl⟩
      | succ i => exact ints_vals rs i v (by simpa using e)
theorem any_range0 : ∀ ns : List Int, (List.range ns.length).any (fun i => ns.getD i 0 != 0) = ns.any fun i => i != 0
  | [] => rfl
  | n :: ns => by
    rw [List.length_cons, List.range_succ_eq_map, List.any_cons, List.any_map, List.any_cons, ← any_range0 ns]
    rfl
theorem truth_ints {prog : Program} {w : World} {A : Around} {ns : List Int} {its : List Value} (h : Vals (ns.map V.int) its) : TruthOf prog w A (fun i v => its.toArray[i]? = some v) (fun i => ns.getD i 0 != 0) := fun i v s Q E hv hq => by
  obtain ⟨t, rfl⟩ := ints_vals h i v (by simpa using hv)
  exact PySem.P.truthy_int hq
theorem any_tup (hc : X.calm = true) : CallR X (.builtin "any") (fun vs H Q => ∃ (a : Addr) (ns : List Int), vs = [V.ref a] ∧ SqT X.K H a (ns.map V.int) ∧ Q (.bl (ns.any fun i => i != 0)) H) := by
  intro pins s σ H vs us Q I r h
  obtain ⟨a, ns, rfl, hs, q⟩ := h
  obtain ⟨its, rv, hl, _⟩ := I.tuple hs
  rw [Vals.ref1 r]
  have hlt : a < s.heap.objs.size := hl.lt
  refine call_any_walk (iter_tuple hl ?_)
  have hne : a ≠ s.heap.objs.size := Nat.ne_of_lt hlt
  refine ⟨_, _, _, _, _, _, _, rfl, Walks.tuple (A := X.A.in1) (I.ok.hd hc) _ a hne its.toArray, ⟨⟨_, Heap.get?_push_size _ rfl, rfl, rfl⟩, hl.push _⟩, truth_ints rv, fun h' tk hk => ?_⟩
  refine ⟨.bl _, H, I.kept fun b o eo => hk b o (fun hmem => ?_) (Heap.get?_push_of_some _ eo), ?_, q⟩
  · rcases List.mem_cons.mp hmem with e1 | hmem
    · exact absurd (e1 ▸ Heap.lt_size eo) (Nat.lt_irrefl _)
    · cases hmem
  · show Value.bool _ = Value.bool _
    rw [← any_range0, List.size_toArray, ← rv.length, List.length_map]
theorem any_lst (hc : X.calm = true) : CallR X (.builtin "any") (fun vs H Q => ∃ (a : Addr) (ns : List Int), vs = [V.ref a] ∧ SqL X.K H a (ns.map V.int) ∧ Q (.bl (ns.any fun i => i != 0)) H) := by
  intro pins s σ H vs us Q I r h
  obtain ⟨a, ns, rfl, hs, q⟩ := h
  obtain ⟨its, rv, hl, _⟩ := I.list hs
  rw [Vals.ref1 r]
  refine call_any_walk (iter_any hl.isList fun s₂ e2 st hne => ?_)
  subst e2
  refine ⟨_, _, _, _, _, _, _, rfl, Walks.list (A := X.A.in1) (I.ok.hd hc) _ a hne its.toArray, st, truth_ints rv, fun h' tk hk => ?_⟩
  refine ⟨.bl _, H, I.kept fun b o eo => hk b o (fun hmem => ?_) (Heap.get?_push_of_some _ eo), ?_, q⟩
  · rcases List.mem_cons.mp hmem with e1 | hmem
    · exact absurd (e1 ▸ Heap.lt_size eo) (Nat.lt_irrefl _)
    · cases hmem
  · show Value.bool _ = Value.bool _
    rw [← any_range0, List.size_toArray, ← rv.length, List.length_map]
theorem ok_any (hc : X.calm = true) : CallR X (.builtin "any") (rN X.K (bf .any)) := by
  rintro pins s σ H xs us Q I rs ⟨ds, G, μ, g, r0, h0⟩
  obtain ⟨d, rfl, h⟩ := P0.b1 (show Post0 X.K H μ (b1 _ ds G) _ from h0)
  clear h0
  obtain ⟨x, rfl, r⟩ := RDs.c1 r0
  clear r0
  cases d <;> try exact h.elim
  case tup ys =>
    obtain ⟨a, vs, rfl, s1, r⟩ := r
    simp only [anyD, items] at h
    split at h
    · rename_i ns hn
      rw [rds_intsD hn r] at s1
      exact any_tup hc pins s σ H _ us Q I rs ⟨a, ns, rfl, s1, P0.here g h rfl⟩
    · exact h.elim
  case ref n =>
    obtain ⟨a, rfl, ma⟩ := r
    simp only [anyD, items] at h
    split at h
    · rename_i ys hx
      split at h
      · rename_i ns hn
        obtain ⟨vs, r, sq, _⟩ := g.sq hx ma
        rw [rds_intsD hn r] at sq
        exact any_lst hc pins s σ H _ us Q I rs ⟨a, ns, rfl, sq, P0.here g h rfl⟩
      · exact h.elim
    · exact h.elim
theorem lstI_some {K : PySem.W.Frag} {H : Hp} {μ : List Addr} {G : Store} {d : D} {ns : List Int} {x : V} (g : RG K H μ G) (h : lstI d G = some ns) (r : RD K H μ d x) : ∃ a, x = .ref a ∧ SqL K H a (ns.map V.int) := by
  cases d <;> try (cases h; done)
  case ref n =>
    obtain ⟨a, rfl, ma⟩ := r
    simp only [lstI, Option.bind_eq_some_iff] at h
    obtain ⟨xs, h1, h2⟩ := h
    obtain ⟨vs, r, sq, _⟩ := g.sq h1 ma
    rw [rds_intsD h2 r] at sq
    exact ⟨a, rfl, sq⟩
theorem sort_eq {ns ms : List Int} (h1 : ms.Perm ns) (h2 : ms.Pairwise (· ≤ ·)) : ms = sortI ns := by
  refine List.Perm.eq_of_pairwise (le := (· ≤ ·)) (fun a b _ _ h h' => Int.le_antisymm h h') h2 ?_ (h1.trans (List.mergeSort_perm ns _).symm)
  have := List.pairwise_mergeSort (le := fun a b : Int => decide (a ≤ b)) (fun a b c h h' => by simp only [decide_eq_true_eq] at h h' ⊢; omega) (fun a b => by simp only [Bool.or_eq_true, decide_eq_true_eq]; omega) ns
  exact this.imp fun h => of_decide_eq_true h
theorem ok_sorted : CallR X (.builtin "sorted") (rN X.K (bf .sorted)) := by
  rintro pins s σ H xs us Q I rs ⟨ds, G, μ, g, r0, h0⟩
  obtain ⟨d, rfl, h⟩ := P0.b1 (show Post0 X.K H μ (b1 _ ds G) _ from h0)
  clear h0
  obtain ⟨x, rfl, r⟩ := RDs.c1 r0
  clear r0
  simp only [sortedD] at h
  split at h
  · rename_i ns hn
    obtain ⟨a, rfl, sq⟩ := lstI_some g hn r
    refine cr_sortedI pins s σ H _ us Q I rs ⟨a, ns, rfl, sq, fun ms p h1 h2 hp => ?_⟩
    rw [sort_eq h1 h2]
    exact (P0.newL g h (rds_of_ints _)).2 p hp
  · exact h.elim
theorem ok_sum (hc : X.calm = true) : CallR X (.builtin "sum") (rN X.K (bf .sum)) := by
  rintro pins s σ H xs us Q I rs ⟨ds, G, μ, g, r0, h0⟩
  obtain ⟨d, rfl, h⟩ := P0.b1 (show Post0 X.K H μ (b1 _ ds G) _ from h0)
  clear h0
  obtain ⟨x, rfl, r⟩ := RDs.c1 r0
  clear r0
  simp only [sumD] at h
  split at h
  · rename_i ns hn
    obtain ⟨a, rfl, sq⟩ := lstI_some g hn r
    exact cr_sum hc pins s σ H _ us Q I rs ⟨a, ns, rfl, sq, P0.here g h rfl⟩
  · exact h.elim
theorem least_spec : ∀ {ns : List Int} {m : Int}, m ∈ ns → (∀ y ∈ ns, m ≤ y) → m = leastI ns
  | [], m, h, _ => nomatch h
  | [i], m, h, _ => by simpa [leastI] using h
  | i :: j :: r, m, h, k => by
    have hl : ∀ {ns : List Int}, ns ≠ [] → leastI ns ∈ ns := by
      intro ns
      induction ns with
      | nil => intro h; exact absurd rfl h
      | cons a l ih =>
        intro _
        cases l with
        | nil => simp [leastI]
        | cons b l =>
          simp only [leastI]
          split
          · exact List.mem_cons_self ..
          · exact List.mem_cons_of_mem _ (ih (by simp))
    rcases List.mem_cons.mp h with rfl | h
    · have := k _ (List.mem_cons_of_mem _ (hl (ns := j :: r) (by simp)))
      simp only [leastI, if_pos this]
    · have e := least_spec h fun y hy => k y (List.mem_cons_of_mem _ hy)
      have hi := k i (List.mem_cons_self ..)
      simp only [leastI]
      rw [← e]
      split <;> omega
theorem most_spec : ∀ {ns : List Int} {m : Int}, m ∈ ns → (∀ y ∈ ns, y ≤ m) → m = mostI ns
  | [], m, h, _ => nomatch h
  | [i], m, h, _ => by simpa [mostI] using h
  | i :: j :: r, m, h, k => by
    have hl : ∀ {ns : List Int}, ns ≠ [] → mostI ns ∈ ns := by
      intro ns
      induction ns with
      | nil => intro h; exact absurd rfl h
      | cons a l ih =>
        intro _
        cases l with
        | nil => simp [mostI]
        | cons b l =>
          simp only [mostI]
          split
          · exact List.mem_cons_self ..
          · exact List.mem_cons_of_mem _ (ih (by simp))
    rcases List.mem_cons.mp h with rfl | h
    · have := k _ (List.mem_cons_of_mem _ (hl (ns := j :: r) (by simp)))
      simp only [mostI, if_pos this]
    · have e := most_spec h fun y hy => k y (List.mem_cons_of_mem _ hy)
      have hi := k i (List.mem_cons_self ..)
      simp only [mostI]
      rw [← e]
      split <;> omega
theorem ok_minL (hc : X.calm = true) : CallR X (.builtin "min") (rN X.K (bf .minL)) := by
  rintro pins s σ H xs us Q I rs ⟨ds, G, μ, g, r0, h0⟩
  obtain ⟨d, rfl, h⟩ := P0.b1 (show Post0 X.K H μ (b1 _ ds G) _ from h0)
  clear h0
  obtain ⟨x, rfl, r⟩ := RDs.c1 r0
  clear r0
  simp only [minLD] at h
  split at h
  · rename_i ns hn
    split at h
    · exact h.elim
    · rename_i hne
      obtain ⟨a, rfl, sq⟩ := lstI_some g hn r
      refine cr_min hc pins s σ H _ us Q I rs ⟨a, ns, rfl, sq, List.length_pos_iff.mpr hne, fun m h1 h2 => ?_⟩
      rw [least_spec h1 h2]
      exact P0.here g h rfl
  · exact h.elim
theorem ok_maxL (hc : X.calm = true) : CallR X (.builtin "max") (rN X.K (bf .maxL)) := by
  rintro pins s σ H xs us Q I rs ⟨ds, G, μ, g, r0, h0⟩
  obtain ⟨d, rfl, h⟩ := P0.b1 (show Post0 X.K H μ (b1 _ ds G) _ from h0)
  clear h0
  obtain ⟨x, rfl, r⟩ := RDs.c1 r0
  clear r0
  simp only [maxLD] at h
  split at h
  · rename_i ns hn
    split at h
    · exact h.elim
    · rename_i hne
      obtain ⟨a, rfl, sq⟩ := lstI_some g hn r
      refine cr_max hc pins s σ H _ us Q I rs ⟨a, ns, rfl, sq, List.length_pos_iff.mpr hne, fun m h1 h2 => ?_⟩
      rw [most_spec h1 h2]
      exact P0.here g h rfl
  · exact h.elim
end
end Cut
/-! Does our text stand for theirs? A look, and what follows from it. -/
namespace Cut
open PySem PySem.Spec PyProof.Rows L2
variable [Tbl]

structure Gx where
  con : List (Str × D)
  fns : List (Str × Nat)
  dfl : List (Str × List Int) := []
def Gx.dflOf (Γ : Gx) (x : Str) : List Int := (Γ.dfl.lookup x).getD []

def dbg : Str := "__debug__"
def cdc : Str := "__classdict__"
def visB (sc : Scope) (x : Str) : Bool := match sc.names.lookup x with
  | some .local | some .cell | some .free => true
  | _ => false
def glB (sc : Scope) (x : Str) : Bool := decide (sc.names.lookup x = some .globalImplicit) && !(x == dbg)
def tyN (x : Str) : Option Ty := if x = ("int" : Str) then some .int else if x = ("bool" : Str) then some .bool else if x = ("str" : Str) then some .str else if x = ("tuple" : Str) then some .tuple else if x = ("list" : Str) then some .list else if x = ("dict" : Str) then some .dict else none
def constD : Const → Option D
  | .none => some .non
  | .bool b => some (.bl b)
  | .int i => some (.int i)
  | .str s => some (.str s.cps.toList)
  | _ => none
def notSet : Expr → Bool
  | .Set _ _ _ => false
  | _ => true
def notStar : Expr → Bool
  | .Starred _ _ => false
  | _ => true
def notComp : Expr → Bool
  | .ListComp .. | .SetComp .. | .DictComp .. => false
  | _ => true
def notSlice : Expr → Bool
  | .Slice .. => false
  | _ => true
def notTuple : Expr → Bool
  | .Tuple .. => false
  | _ => true
def notList : Expr → Bool
  | .List .. => false
  | _ => true
/-- no test of its own: truth of its value -/
def plainT : Expr → Bool
  | .UnaryOp .Not _ _ | .BoolOp .. | .IfExp .. | .Compare .. => false
  | _ => true
def baseOk : Expr → Bool
  | .Call (.Name x _) [] [] _ => x != "super"
  | _ => true
def bfN : Bf → Str
  | .len => "len" | .int => "int" | .tuple => "tuple" | .list => "list" | .min => "min" | .max => "max" | .isin => "isinstance" | .any => "any" | .sorted => "sorted" | .sum => "sum" | .minL => "min" | .maxL => "max"
def mtN : Mt → Str
  | .append => "append" | .extend => "extend" | .pop => "pop" | .join => "join" | .indexL | .indexS | .indexT => "index" | .upper => "upper"
def mtOk : Mt → Bool
  | .append | .extend | .pop | .join | .indexL | .indexS | .upper => true
  | _ => false
def isTup : Expr → Bool
  | .Tuple _ _ _ => true
  | _ => false
/-- .index of a tuple of the module -/
def conT (Γ : Gx) (sc : Scope) (m : Mt) (o : Ex) (f : Expr) : Bool := match m, o, f with
  | .indexT, .k (.tup xs), .Name x _ => glB sc x && decide (Γ.con.lookup x = some (.tup xs))
  | _, _, _ => false
def ownN (N : List Str) (own : List Nat) : List (Str × Nat) := own.filterMap fun i => (N[i]?).map fun x => (x, i)
def bltNames : List Str := ["len", "int", "tuple", "list", "min", "max", "isinstance", "bool", "str", "dict", "range", "all", "any", "enumerate", "zip", "sorted", "sum"]

/-- the names of a generator expression's own frame -/
def genC (N : List Str) (sc scope : Scope) (own : List (Str × Nat)) : Bool := blkC N sc scope own && (!scope.isCoroutine && ((scope.names.all fun y => !(y.2 == .cell)) && decide (scope.names.lookup (".0" : Str) = some .local)))
section
variable (Γ : Gx) (N : List Str)
/-- a slot that may be written here -/
def ckV (sc : Scope) (df : Bool) (i : Nat) (x : Str) : Bool := decide (N[i]? = some x) && (decide (sc.names.lookup x = some .local) || (df && decide (sc.names.lookup x = some .cell)))
def ckVs (sc : Scope) (df : Bool) : List Nat → List Expr → Bool
  | [], [] => true
  | i :: is, .Name x _ :: es => ckV N sc df i x && ckVs sc df is es
  | _, _ => false
def ckTg (sc : Scope) (df : Bool) : Tg → Expr → Bool
  | .v i, .Name x _ => ckV N sc df i x
  | .tup is, .Tuple es _ _ => ckVs N sc df is es
  | _, _ => false
mutual
def ckE (tb : Bool) (sc : Scope) : Ex → Expr → Bool
  | .k d, e => (match e with
    | .Constant c _ _ => decide (constD c = some d)
    | .Name x _ => glB sc x && (decide (Γ.con.lookup x = some d) || (decide ((tyN x).map D.ty = some d) && decide (Γ.con.lookup x = none)))
    | _ => false)
  | .v i, e => (match e with
    | .Name x _ => decide (N[i]? = some x) && (visB sc x && (!(x == dbg) && !(x == cdc)))
    | _ => false)
  | .un o a, e => (match o, e with
    | .not, .UnaryOp .Not f _ => ckE tb sc a f
    | .neg, .UnaryOp .USub f _ => ckE tb sc a f
    | _, _ => false)
  | .bin o a b, e => (match e with
    | .BinOp f p g _ => decide (binOf o = some p) && (ckE tb sc a f && ckE tb sc b g)
    | .Compare f [p] [g] _ => decide (cmpOf o = some p) && (notSet g && (ckE tb sc a f && ckE tb sc b g))
    | .Subscript f g _ => decide (o = .ix) && (notSlice g && (ckE tb sc a f && ckE tb sc b g))
    | _ => false)
  | .and a b, e => (match e with
    | .BoolOp .And [f, g] _ => ckE tb sc a f && ckE tb sc b g
    | .BoolOp .And (f :: g :: h :: r) pos => ckE tb sc a f && ckE tb sc b (.BoolOp .And (g :: h :: r) pos)
    | _ => false)
  | .or a b, e => (match e with
    | .BoolOp .Or [f, g] _ => ckE tb sc a f && ckE tb sc b g
    | .BoolOp .Or (f :: g :: h :: r) pos => ckE tb sc a f && ckE tb sc b (.BoolOp .Or (g :: h :: r) pos)
    | _ => false)
  | .ite t a b, e => (match e with
    | .IfExp h f g _ => ckE tb sc t h && (ckE tb sc a f && ckE tb sc b g)
    | _ => false)
  | .chain o p a b d, e => (match e with
    | .Compare f [o', p'] [g, h] _ => decide (cmpOf o = some o') && (decide (cmpOf p = some p') && (notSet h && (ckE tb sc a f && (ckE tb sc b g && ckE tb sc d h))))
    | _ => false)
  | .tup es, e => (match e with
    | .Tuple fs _ _ => ckEs tb sc es fs
    | _ => false)
  | .lst es, e => (match e with
    | .List fs _ => ckEs tb sc es fs
    | _ => false)
  | .dic0, e => (match e with
    | .Dict [] [] _ => true
    | _ => false)
  | .sl a l h, e => (match e with
    | .Subscript f (.Slice lo hi none _) _ => ckE tb sc a f && (ckO tb sc l lo && ckO tb sc h hi)
    | _ => false)
  | .rev a, e => (match e with
    | .Subscript f (.Slice none none (some (.UnaryOp .USub (.Constant (.int 1) _ _) _)) _) _ => ckE tb sc a f
    | _ => false)
  | .call n es, e => (match e with
    | .Call (.Name x _) fs [] _ => glB sc x && (decide (Γ.fns.lookup x = some n) && ckEs tb sc es fs)
    | _ => false)
  | .callD n es ds, e => (match e with
    | .Call (.Name x _) (f :: fs) [] _ => glB sc x && (decide (Γ.fns.lookup x = some n) && (decide ((Γ.dflOf x).drop ((Γ.dflOf x).length - ds.length) = ds) && ckEs tb sc es (f :: fs)))
    | _ => false)
  | .bf b es, e => (match e with
    | .Call (.Name x _) (f :: fs) [] _ => glB sc x && (decide (x = bfN b) && ckEs tb sc es (f :: fs))
    | _ => false)
  | .mt m o es, e => (match e with
    | .Call (.Attribute f nm apos) fs [] cpos => decide (nm = mtN m) && (mtOk m && ((apos.endLine == cpos.line) && (baseOk f && (decide (fs.length < 30) && (ckE tb sc o f && ckEs tb sc es fs))))) || (decide (nm = mtN m) && (conT Γ sc m o f && (!fs.isEmpty && ((apos.endLine == cpos.line) && (decide (fs.length < 30) && ckEs tb sc es fs)))))
    | _ => false)
  | .comp t it c el own, e => (match e with
    | .ListComp elt [⟨tg, iter, ifs, 0⟩] scope _ => blkC N sc scope (ownN N own) && (decide ((ownN N own).map (·.2) = own) && (tgIn own t && (ckTg N (relS scope sc) false t tg && (ckI tb sc it iter tg && (notSet iter && (ckC tb (relS scope sc) c ifs && ckE tb (relS scope sc) el elt))))))
    | _ => false)
  | .gen all t it el own, e => (match e with
    | .Call (.Name x _) [.GeneratorExp elt [⟨tg, iter, [], 0⟩] scope _] [] _ => tb && (glB sc x && (decide (x = (if all then ("all" : Str) else "any")) && (genC N sc scope (ownN N own) && (decide ((ownN N own).map (·.2) = own) && (tgIn own t && (ckTg N scope false t tg && (ckI tb sc it iter tg && (notSet iter && (notList iter && ckE false scope el elt)))))))))
    | _ => false)
def ckEs (tb : Bool) (sc : Scope) : Exs → List Expr → Bool
  | .nil, es => es.isEmpty
  | .cons a as, es => (match es with
    | e :: r => notStar e && (ckE tb sc a e && ckEs tb sc as r)
    | [] => false)
def ckO (tb : Bool) (sc : Scope) : Exo → Option Expr → Bool
  | .none, e => e.isNone
  | .some a, e => (match e with
    | some f => ckE tb sc a f
    | none => false)
def ckC (tb : Bool) (sc : Scope) : Exo → List Expr → Bool
  | .none, e => e.isEmpty
  | .some a, e => (match e with
    | [f] => ckE tb sc a f
    | _ => false)
def ckI (tb : Bool) (sc : Scope) : It → Expr → Expr → Bool
  | .one a, e, _ => ckE tb sc a e
  | .rng1 a, e, _ => (match e with
    | .Call (.Name x _) [f] [] _ => glB sc x && (decide (x = ("range" : Str)) && (notStar f && ckE tb sc a f))
    | _ => false)
  | .rng2 a b, e, _ => (match e with
    | .Call (.Name x _) [f, g] [] _ => glB sc x && (decide (x = ("range" : Str)) && (notStar f && (notStar g && (ckE tb sc a f && ckE tb sc b g))))
    | _ => false)
  | .enum a, e, tg => isTup tg && (match e with
    | .Call (.Name x _) [f] [] _ => glB sc x && (decide (x = ("enumerate" : Str)) && (notStar f && ckE tb sc a f))
    | _ => false)
  | .zip a b, e, tg => isTup tg && (match e with
    | .Call (.Name x _) [f, g] [] _ => glB sc x && (decide (x = ("zip" : Str)) && (notStar f && (notStar g && (ckE tb sc a f && ckE tb sc b g))))
    | _ => false)
end

/-- no plain local name -/
def notLoc (sc : Scope) : Expr → Bool
  | .Name id _ => !(sc.names.lookup id == some .local)
  | _ => true
/-- a, b = x, y: the stores are not exchanged -/
def swN (sc : Scope) (ts vs : List Expr) : Bool := (!(ts.length == 2 || ts.length == 3) || vs.length != ts.length) || (vs.all (foldedForSure 8) || ts.any (notLoc sc))
/-- a, b = x, y: they are -/
def swY (vs : List Expr) : Bool := vs.all notStar && (!vs.all (foldedForSure 8) && !vs.all (constantsAlone 8))
def swE (sc : Scope) (ts : List Expr) : Expr → Bool
  | .Tuple vs _ _ => swN sc ts vs
  | _ => true
/-- is the list display's name stored within the comprehension's own run? -/
def swC (sc : Scope) (e : Expr) (x : Str) (py : Pos) : Bool := match e with
  | .ListComp _ _ scope pos => decide (sc.names.lookup x = some .local) && (py.line == pos.line && !(scope.names.any fun (n, k) => n == x && (k == .local || k == .cell)))
  | _ => false
mutual
def ckS (tb : Bool) (sc : Scope) : Sm → Stmt → Bool
  | .pass, s => (match s with
    | .Pass _ => true
    | .Expr (.Constant (.str _) _ _) _ => true
    | _ => false)
  | .expr a, s => (match s with
    | .Expr e _ => notComp e && ckE Γ N tb sc a e
    | _ => false)
  | .set t a, s => (match s with
    | .Assign [.Name x py] e pos => (match t with
      | .v i => ckV N sc true i x && ckE Γ N tb sc a e
      | _ => false)
    | .Assign [.Tuple ts _ _] e _ => (match t with
      | .tup is => ckVs N sc true is ts && (swE sc ts e && (notComp e && ckE Γ N tb sc a e))
      | _ => false)
    | _ => false)
  | .par is es, s => (match s with
    | .Assign [.Tuple ts _ _] (.Tuple vs _ _) _ => (match is, ts with
      | [i, j], [.Name x px, .Name y py] => decide (N[i]? = some x) && (decide (N[j]? = some y) && (decide (i ≠ j) && (decide (sc.names.lookup x = some .local) && (decide (sc.names.lookup y = some .local) && ((py.line == px.line && (!(x == y) && swY vs)) && (decide (vs.length = 2) && ckEs Γ N tb sc es vs))))))
      | [i, j, k], [.Name x px, .Name y py, .Name z pz] => decide (N[i]? = some x) && (decide (N[j]? = some y) && (decide (N[k]? = some z) && (decide (i ≠ j) && (decide (i ≠ k) && (decide (j ≠ k) && (decide (sc.names.lookup x = some .local) && (decide (sc.names.lookup y = some .local) && (decide (sc.names.lookup z = some .local) && ((py.line == px.line && (pz.line == px.line && (!(x == y) && (!(x == z) && (!(y == z) && swY vs))))) && (decide (vs.length = 3) && ckEs Γ N tb sc es vs))))))))))
      | _, _ => false)
    | _ => false)
  | .setIx a i e, s => (match s with
    | .Assign [.Subscript f g _] h _ => notSlice g && (notComp h && (ckE Γ N tb sc a f && (ckE Γ N tb sc i g && ckE Γ N tb sc e h)))
    | _ => false)
  | .setKey a i e, s => (match s with
    | .Assign [.Subscript f g _] h _ => notSlice g && (notComp h && (ckE Γ N tb sc a f && (ckE Γ N tb sc i g && ckE Γ N tb sc e h)))
    | _ => false)
  | .aug i o a, s => (match s with
    | .AugAssign (.Name x _) p e _ => ckV N sc true i x && (decide (binOf o = some p) && ckE Γ N tb sc a e)
    | _ => false)
  | .augIx a i o e, s => (match s with
    | .AugAssign (.Subscript f g _) p h _ => notSlice g && (decide (binOf o = some p) && (ckE Γ N tb sc a f && (ckE Γ N tb sc i g && ckE Γ N tb sc e h)))
    | _ => false)
  | .ifs t a b, s => (match s with
    | .If e s1 s2 _ => ckE Γ N tb sc t e && (ckSs tb sc a s1 && ckSs tb sc b s2)
    | _ => false)
  | .whil t a, s => (match s with
    | .While e s1 [] _ => ckE Γ N tb sc t e && ckSs tb sc a s1
    | _ => false)
  | .for_ t it a, s => (match s with
    | .For tg iter s1 [] _ => ckTg N sc true t tg && (notSet iter && (ckI Γ N tb sc it iter tg && ckSs tb sc a s1))
    | _ => false)
  | .ret a, s => (match s with
    | .Return (some e) _ => ckE Γ N tb sc a e
    | _ => false)
  | .retN, s => (match s with
    | .Return none _ => true
    | _ => false)
  | .brk, s => (match s with
    | .Break _ => true
    | _ => false)
  | .cnt, s => (match s with
    | .Continue _ => true
    | _ => false)
  | .never, _ => true
def ckSs (tb : Bool) (sc : Scope) : Sms → List Stmt → Bool
  | .nil, s => s.isEmpty
  | .cons a as, s => (match s with
    | b :: r => ckS tb sc a b && ckSs tb sc as r
    | [] => false)
end
end

/-! ### what the small looks say -/
theorem star_of {env : PySem.Env} : ∀ {e : Expr} {es : List Expr}, notStar e = true → starEach (e :: es) env = (false, eval e env) :: starEach es env := by
  intro e es h
  cases e <;> first | rfl | cases h
theorem set_of {env : PySem.Env} {e : Expr} (h : notSet e = true) (x : Value) : foldedSetIterable e env x = pure x := by
  cases e <;> first | rfl | cases h
theorem mark_of {op : CmpOp} {e : Expr} (h : notSet e = true) : behindInMarks op e = false := by
  cases e <;> first | rfl | cases h
theorem plain_of {env : PySem.Env} {e : Expr} (h : plainT e = true) (whole : Sem Value) : PySem.isTrue e env whole = (do let v ← whole; standAt e.pos; holding [v] (PySem.truthy v)) := by
  cases e <;> first | rfl | (cases h; done) | skip
  case UnaryOp op x pos => cases op <;> first | rfl | (cases h; done)
theorem comp_of {env : PySem.Env} {e : Expr} (h : notComp e = true) (t : Option Expr) (l : Nat) : swapsWith e t l env = pure false := by
  cases e <;> first | rfl | (cases h; done)
theorem notSet_comp : ∀ {e : Expr}, notComp e = false → ∃ s, (match e with
    | .ListComp _ _ s _ | .SetComp _ _ s _ | .DictComp _ _ _ s _ => some s
    | _ => none) = some s := by
  intro e h
  cases e <;> first | exact ⟨_, rfl⟩ | cases h
theorem slice_of {e : Expr} (h : notSlice e = true) : PlainIx e := by
  intro o i
  cases e <;> first | rfl | (cases h; done)
theorem base_of {env : PySem.Env} {e : Expr} (h : baseOk e = true) (nm : Str) (w : Sem Value) : attributeBase e nm env w = w := by
  cases e <;> first | rfl | skip
  case Call f as ks pos =>
    cases f <;> first | rfl | skip
    case Name x p =>
      cases as <;> first | rfl | skip
      cases ks <;> first | rfl | skip
      have h : (x != "super") = true := h
      unfold attributeBase
      simp only [h, Bool.true_or, if_true, bind_pure]
theorem splain {env : PySem.Env} {pos : Pos} {Γ : Gx} {N : List Str} {tb : Bool} {sc : Scope} : ∀ {as : Exs} {es : List Expr}, ckEs Γ N tb sc as es = true → (backTo pos (starEach es env)).any (·.1) = false ∧ (backTo pos (starEach es env)).all (fun x => !x.1) = true
  | .nil, es, h => by
    have e : es = [] := List.isEmpty_iff.mp (by simpa [ckEs] using h)
    subst e; exact ⟨rfl, rfl⟩
  | .cons a as, [], h => by simp [ckEs] at h
  | .cons a as, e :: r, h => by
    simp only [ckEs, Bool.and_eq_true] at h
    rw [star_of h.1]
    have := splain (env := env) (pos := pos) h.2.2
    exact ⟨by simpa [backTo] using this.1, by simpa [backTo] using this.2⟩
end Cut
/-! The look is right: expressions. -/
namespace Cut
open PySem PySem.Spec PyProof.Rows L2
variable [Tbl]

structure Good (Γ : Gx) (N : List Str) (C : CallF) (tb : Bool) (X : Cx) (c : Ct) (sc : Scope) : Prop where
  hK : c.K = X.K
  hN : X.N = N
  nd : N.Nodup
  hsc : X.env.scope = sc
  calm : X.calm = true
  hu : X.A.units + 65 + (if tb then 5 else 0) < cLine
  tk : Takes X c.W
  con : ∀ x d, Γ.con.lookup x = some d → ∃ v u, X.mg x = some u ∧ RelV v u ∧ (∀ H μ, RD X.K H μ d v) ∧ ∀ xs, d = .tup xs → ∀ H, tyV X.K "tuple" v H
  blt : ∀ x ∈ bltNames, X.mg x = none
  fns : ∀ x n, Γ.fns.lookup x = some n → ∃ fa fd ps k, X.mg x = some (.ref fa) ∧ PySem.W.keepIn X.K (.ref fa) = true ∧ FnOk X.prog X.w X.K X.mg X.base (L2.CX X.prog X.w) k fa fd ps (spR X.K c.ξ ps.length (C n)) ∧ Room (k + if tb then 1 else 0) X.A ∧ (∀ j, j ≤ (Γ.dflOf x).length → ∃ us, Vals (((Γ.dflOf x).drop j).map V.int) us ∧ Binds X.K fd ps us) ∧ ∀ ds G, ds.length ≠ ps.length → C n ds G = .stuck
  code : tb = true → ∃ cd P, GxR.TabB X.base X.mg cd P ∧ X.env.code = .ref cd ∧ P ∈ Tbl.ps ∧ Room 0 X.A
section
variable {Γ : Gx} {N : List Str} {C : CallF} {tb : Bool} {X : Cx} {c : Ct} {sc : Scope}
theorem Good.blk (g : Good Γ N C tb X c sc) (s : Shared) (H : Hp) (scope : Scope) (A : Addr) (cl : List (Str × Addr)) (fp : List Addr) : Good Γ N C tb (X.blk s H scope (compEnvC scope cl A X.env) fp) c.quiet (relS scope sc) :=
  ⟨g.hK, g.hN, g.nd, by rw [← g.hsc]; rfl, g.calm, g.hu, takes0, g.con, g.blt, g.fns, g.code⟩
theorem Good.gen (g : Good Γ N C true X c sc) {A : Around} (hA : InGen X A) (s : Shared) (H : Hp) (scope : Scope) (C' : Addr) (cl : List (Str × Addr)) (cd : Value) (fp : List Addr) (pn : List (Addr × Obj)) : Good Γ N C false (genX X A s H (genEnv scope cl C' cd builtinsNs X.env) fp pn) c.quiet scope :=
  ⟨g.hK, g.hN, g.nd, rfl, g.calm, by have h := g.hu; have h2 := hA.un; simp only [if_true] at h; show A.units + 65 + 0 < cLine; omega, takes0, g.con, g.blt, fun x n h => by
    obtain ⟨fa, fd, ps, k, h1, h2, h3, h4, r⟩ := g.fns x n h
    exact ⟨fa, fd, ps, k, h1, h2, h3, hA.room h4, r⟩, fun z => nomatch z⟩
theorem genOk_of {N : List Str} {sc scope : Scope} {own : List (Str × Nat)} (h : genC N sc scope own = true) : GenOk N sc scope own := by
  unfold genC at h
  simp only [Bool.and_eq_true, Bool.not_eq_true', decide_eq_true_eq, List.all_eq_true] at h
  exact ⟨blkOk_by h.1, h.2.1, fun y hy e => (by have := h.2.2.1 y hy; rw [e] at this; cases this), h.2.2.2⟩
theorem Good.gl (g : Good Γ N C tb X c sc) {x : Str} (h : glB sc x = true) : Gl X x ∧ (x == ("__debug__" : Str)) = false := by
  unfold glB at h
  rw [Bool.and_eq_true] at h
  refine ⟨?_, by simpa [dbg] using h.2⟩
  show X.env.scope.names.lookup x = _
  rw [g.hsc]
  exact of_decide_eq_true h.1
theorem Good.vis (g : Good Γ N C tb X c sc) {x : Str} (h : visB sc x = true) : Vis X.env.scope x := by
  rw [g.hsc]
  unfold visB at h
  unfold Vis
  split at h
  · rename_i e; exact .inl e
  · rename_i e; exact .inr (.inl e)
  · rename_i e; exact .inr (.inr e)
  · cases h
theorem Good.loc (g : Good Γ N C tb X c sc) {df : Bool} {i : Nat} {x : Str} (h : ckV N sc df i x = true) (hf : df = true → ∀ x, X.fn x = true) :
    X.N[i]? = some x ∧ Loc X.env.scope x ∧ (X.fn x = true ∨ X.env.scope.names.lookup x = some .local) := by
  unfold ckV at h
  simp only [Bool.and_eq_true, Bool.or_eq_true, decide_eq_true_eq] at h
  rw [g.hN, g.hsc]
  refine ⟨h.1, ?_, ?_⟩
  · rcases h.2 with h | h
    · exact .inl h
    · exact .inr h.2
  · rcases h.2 with h | h
    · exact .inr h
    · exact .inl (hf h.1 x)
theorem Good.pgs (g : Good Γ N C tb X c sc) {df : Bool} (hf : df = true → ∀ x, X.fn x = true) : ∀ {is : List Nat} {es : List Expr}, ckVs N sc df is es = true → PGs X es (gsOf is) ∧ (assignEach es X.env).length = is.length ∧ (assignEach es X.env).findIdx? (·.1) = none
  | [], [], _ => ⟨pgs_nil, rfl, rfl⟩
  | [], _ :: _, h => by simp [ckVs] at h
  | _ :: _, [], h => by simp [ckVs] at h
  | i :: is, e :: es, h => by
    cases e <;> try (simp [ckVs] at h; done)
    case Name x p =>
      simp only [ckVs, Bool.and_eq_true] at h
      obtain ⟨h1, h2, h3⟩ := g.loc h.1 hf
      obtain ⟨k1, k2, k3⟩ := g.pgs hf h.2
      refine ⟨pgs_cons (pg_name (by rw [g.hN]; exact g.nd) h1 h2 h3) k1 rfl, by show (assignEach es X.env).length + 1 = is.length + 1; rw [k2], ?_⟩
      show ((false, assign (.Name x p) X.env) :: assignEach es X.env).findIdx? (·.1) = none
      rw [List.findIdx?_cons, k3]
      rfl
theorem Good.pg (g : Good Γ N C tb X c sc) {df : Bool} (hf : df = true → ∀ x, X.fn x = true) {t : Tg} {e : Expr} (h : ckTg N sc df t e = true) : PG X e (gOf X.K t) := by
  cases t with
  | v i =>
    cases e <;> try (simp [ckTg] at h; done)
    case Name x p =>
      obtain ⟨h1, h2, h3⟩ := g.loc (show ckV N sc df i x = true by simpa [ckTg] using h) hf
      exact pg_name (by rw [g.hN]; exact g.nd) h1 h2 h3
  | tup is =>
    cases e <;> try (simp [ckTg] at h; done)
    case Tuple es k p =>
      obtain ⟨k1, k2, k3⟩ := g.pgs hf (show ckVs N sc df is es = true by simpa [ckTg] using h)
      exact pg_tup g.calm k1 k2 k3
theorem PE.andOne {e : Expr} {t : TE} {pos : Pos} {o : BoolOp} (h : PE X e t) : PE X (.BoolOp o [e] pos) t := ⟨h.run⟩
theorem tyN_ok (g : Good Γ N C tb X c sc) {x : Str} {t : Ty} (h : tyN x = some t) : X.mg x = none ∧ bootBuiltins x = some (.type t.name) ∧ x ≠ "__name__" := by
  unfold tyN at h
  split at h
  · rename_i e; subst e; cases h; exact ⟨g.blt _ (by decide +kernel), boot_int, by decide +kernel⟩
  split at h
  · rename_i e; subst e; cases h; exact ⟨g.blt _ (by decide +kernel), boot_bool, by decide +kernel⟩
  split at h
  · rename_i e; subst e; cases h; exact ⟨g.blt _ (by decide +kernel), boot_str, by decide +kernel⟩
  split at h
  · rename_i e; subst e; cases h; exact ⟨g.blt _ (by decide +kernel), boot_tuple, by decide +kernel⟩
  split at h
  · rename_i e; subst e; cases h; exact ⟨g.blt _ (by decide +kernel), boot_list, by decide +kernel⟩
  split at h
  · rename_i e; subst e; cases h; exact ⟨g.blt _ (by decide +kernel), boot_dict, by decide +kernel⟩
  · cases h
theorem pe_const {k : Const} {d : D} {j : Nat} {p : Pos} (h : constD k = some d) : PE X (.Constant k j p) (rE c (mK d)) := by
  cases k <;> try (cases h; done)
  case none => cases h; exact PE.imp pe_non fun σ H Q q => rE.k (c := c) (d := .non) (v := .non) (fun _ _ => (rfl : V.non = V.non)) q
  case bool b => cases h; exact PE.imp pe_bl fun σ H Q q => rE.k (c := c) (d := .bl b) (v := .bl b) (fun _ _ => (rfl : V.bl b = V.bl b)) q
  case int i => cases h; exact PE.imp pe_int fun σ H Q q => rE.k (c := c) (d := .int i) (v := .int i) (fun _ _ => (rfl : V.int i = V.int i)) q
  case str s =>
    cases h
    refine PE.imp pe_str fun σ H Q q => rE.k (fun _ _ => ?_) q
    show V.str s = V.str ⟨s.cps.toList.toArray⟩
    simp
theorem ok_bf (g : Good Γ N C tb X c sc) {b : Bf} {p pos : Pos} {f : Expr} {fs : List Expr} {t : TA} (hg : Gl X (bfN b)) (hd : (bfN b == ("__debug__" : Str)) = false) (ha : PA X (f :: fs) t)
    (hs : starEach (f :: fs) X.env = (false, eval f X.env) :: starEach fs X.env) (hpl : (backTo pos (starEach fs X.env)).any (·.1) = false) : PE X (.Call (.Name (bfN b) p) (f :: fs) [] pos) (tCB (rN X.K (bf b)) t) := by
  cases b
  · exact pe_callB ok_len hg (g.blt _ (by decide +kernel)) boot_len ha (by decide +kernel) hd hs hpl
  · exact pe_callTy ok_int hg (g.blt _ (by decide +kernel)) boot_int ha (by decide +kernel) hd hs hpl
  · exact pe_callTy ok_tuple hg (g.blt _ (by decide +kernel)) boot_tuple ha (by decide +kernel) hd hs hpl
  · exact pe_callTy (ok_list g.calm) hg (g.blt _ (by decide +kernel)) boot_list ha (by decide +kernel) hd hs hpl
  · exact pe_callB (ok_min g.calm) hg (g.blt _ (by decide +kernel)) boot_min ha (by decide +kernel) hd hs hpl
  · exact pe_callB (ok_max g.calm) hg (g.blt _ (by decide +kernel)) boot_max ha (by decide +kernel) hd hs hpl
  · exact pe_callB ok_isin hg (g.blt _ (by decide +kernel)) boot_isinstance ha (by decide +kernel) hd hs hpl
  · exact pe_callB (ok_any g.calm) hg (g.blt _ (by decide +kernel)) boot_any ha (by decide +kernel) hd hs hpl
  · exact pe_callB ok_sorted hg (g.blt _ (by decide +kernel)) (show bootBuiltins "sorted" = some (.builtin "sorted") by decide +kernel) ha (by decide +kernel) hd hs hpl
  · exact pe_callB (ok_sum g.calm) hg (g.blt _ (by decide +kernel)) (show bootBuiltins "sum" = some (.builtin "sum") by decide +kernel) ha (by decide +kernel) hd hs hpl
  · exact pe_callB (ok_minL g.calm) hg (g.blt _ (by decide +kernel)) boot_min ha (by decide +kernel) hd hs hpl
  · exact pe_callB (ok_maxL g.calm) hg (g.blt _ (by decide +kernel)) boot_max ha (by decide +kernel) hd hs hpl
theorem ok_mt {m : Mt} (hm : mtOk m = true) {f : Expr} {apos cpos : Pos} {to : TE} {ta : TA} {fs : List Expr} (ho : PE X f to) (ha : PA X fs ta) (hb : attributeBase f (mtN m) X.env (eval f X.env) = eval f X.env) (hl : (apos.endLine == cpos.line) = true) (hn : fs.length < 30)
    (hs : ∀ e es, fs = e :: es → starEach (e :: es) X.env = (false, eval e X.env) :: starEach es X.env ∧ (backTo cpos (starEach es X.env)).any (·.1) = false) (hall : (backTo cpos (starEach fs X.env)).all (fun x => !x.1) = true) :
    PE X (.Call (.Attribute f (mtN m) apos) fs [] cpos) (match fs with
      | [] => tBM0 X.K (mtT m) (rM X.K (mt m)) to
      | _ => tBM X.K (mtT m) (rM X.K (mt m)) to ta) := by
  cases fs with
  | nil =>
    cases m <;> first | (cases hm; done) | skip
    · exact pe_bm0 PySem.F.plainAttrs_list PySem.F.slot_list_append PySem.F.type_list_append ok_append ho hb hl
    · exact pe_bm0 PySem.F.plainAttrs_list PySem.F.slot_list_extend PySem.F.type_list_extend ok_extend ho hb hl
    · exact pe_bm0 PySem.F.plainAttrs_list PySem.F.slot_list_index PySem.F.type_list_index ok_indexL ho hb hl
    · exact pe_bm0 PySem.F.plainAttrs_str PySem.F.slot_str_index PySem.F.type_str_index ok_indexS ho hb hl
    · exact pe_bm0 PySem.F.plainAttrs_list PySem.F.slot_list_pop PySem.F.type_list_pop ok_pop ho hb hl
    · exact pe_bm0 PySem.F.plainAttrs_str PySem.F.slot_str_join PySem.F.type_str_join ok_join ho hb hl
    · exact pe_bm0 PySem.F.plainAttrs_str PySem.F.slot_str_upper PySem.F.type_str_upper ok_upper ho hb hl
  | cons e es =>
    obtain ⟨h1, h2⟩ := hs e es rfl
    have few : ((backTo cpos (starEach (e :: es) X.env)).all (fun x => !x.1) && (backToKw cpos (keywordEach [] X.env)).all (fun x => x.1.isSome)
      && decide ((e :: es).length + ([] : List Keyword).length + (if ([] : List Keyword).isEmpty then 0 else 1) < 30)) = true := by
      rw [hall]
      simp only [Bool.and_eq_true, decide_eq_true_eq]
      exact ⟨⟨trivial, rfl⟩, by simpa using hn⟩
    cases m <;> first | (cases hm; done) | skip
    · exact pe_bm PySem.F.plainAttrs_list PySem.F.slot_list_append PySem.F.type_list_append ok_append ho ha hb few hl h1 h2
    · exact pe_bm PySem.F.plainAttrs_list PySem.F.slot_list_extend PySem.F.type_list_extend ok_extend ho ha hb few hl h1 h2
    · exact pe_bm PySem.F.plainAttrs_list PySem.F.slot_list_index PySem.F.type_list_index ok_indexL ho ha hb few hl h1 h2
    · exact pe_bm PySem.F.plainAttrs_str PySem.F.slot_str_index PySem.F.type_str_index ok_indexS ho ha hb few hl h1 h2
    · exact pe_bm PySem.F.plainAttrs_list PySem.F.slot_list_pop PySem.F.type_list_pop ok_pop ho ha hb few hl h1 h2
    · exact pe_bm PySem.F.plainAttrs_str PySem.F.slot_str_join PySem.F.type_str_join ok_join ho ha hb few hl h1 h2
    · exact pe_bm PySem.F.plainAttrs_str PySem.F.slot_str_upper PySem.F.type_str_upper ok_upper ho ha hb few hl h1 h2
theorem ok_mtT {f f' : Expr} {apos cpos : Pos} {to : TE} {ta : TA} {fs : List Expr} (ho : PE X f to) (ha : PA X (f' :: fs) ta) (hl : (apos.endLine == cpos.line) = true) (hn : (f' :: fs).length < 30) (hb : attributeBase f "index" X.env (eval f X.env) = eval f X.env := by rfl)
    (h1 : starEach (f' :: fs) X.env = (false, eval f' X.env) :: starEach fs X.env) (h2 : (backTo cpos (starEach fs X.env)).any (·.1) = false) (hall : (backTo cpos (starEach (f' :: fs) X.env)).all (fun x => !x.1) = true) :
    PE X (.Call (.Attribute f "index" apos) (f' :: fs) [] cpos) (tBM X.K "tuple" (rM X.K (mt .indexT)) to ta) := by
  have few : ((backTo cpos (starEach (f' :: fs) X.env)).all (fun x => !x.1) && (backToKw cpos (keywordEach [] X.env)).all (fun x => x.1.isSome)
      && decide ((f' :: fs).length + ([] : List Keyword).length + (if ([] : List Keyword).isEmpty then 0 else 1) < 30)) = true := by
    rw [hall]
    simp only [Bool.and_eq_true, decide_eq_true_eq]
    exact ⟨⟨trivial, rfl⟩, by simpa using hn⟩
  exact pe_bm PySem.F.plainAttrs_tuple PySem.F.slot_tuple_index PySem.F.type_tuple_index ok_indexT ho ha hb few hl h1 h2
end
end Cut
/-! The look is right: all expressions. -/
namespace Cut
open PySem PySem.Spec PyProof.Rows L2
variable [Tbl]
section
variable {Γ : Gx} {N : List Str} {C : CallF}
/-- value and truth -/
structure Both (X : Cx) (c : Ct) (e : Expr) (f : ME) : Prop where
  pe : PE X e (rE c f)
  t : PT X e (rT c f)
theorem Both.mk1 {tb : Bool} {X : Cx} {c : Ct} {sc : Scope} {e : Expr} {f : ME} (g : Good Γ N C tb X c sc) (h : PE X e (rE c f)) (hp : plainT e = true) : Both X c e f := ⟨h, pt_of g.hK h (plain_of hp)⟩
/-- .. of one item and of more: the test of a chain of and (or) -/
theorem pw_of1 {X : Cx} {e : Expr} {t : TT} {o : BoolOp} {pos : Pos} (h : PT X e t) : PW X (.BoolOp o [e] pos) t := by
  cases o with
  | And => exact pw_and1 h
  | Or => exact pw_or1 h
structure BothW (X : Cx) (c : Ct) (e : Expr) (f : ME) : Prop where
  pe : PE X e (rE c f)
  w : PW X e (rT c f)
theorem BothW.b {X : Cx} {c : Ct} {e : Expr} {f : ME} (h : BothW X c e f) : Both X c e f := ⟨h.pe, h.w.pt⟩
theorem fold_of {env : PySem.Env} {e : Expr} (h : notSet e = true) (h2 : notList e = true) (x : Value) : genFold e env x = pure x := by
  cases e <;> first | rfl | (cases h; done) | (cases h2; done)
mutual
theorem sndE : ∀ (a : Ex) (e : Expr) (tb : Bool) (X : Cx) (c : Ct) (sc : Scope), ckE Γ N tb sc a e = true → Good Γ N C tb X c sc → Both X c e (ev C a)
  | .k d, e, tb, X, c, sc, h, g => by
    cases e <;> try (simp [ckE] at h; done)
    case Constant k j p =>
      exact .mk1 g (pe_const (by simpa [ckE] using h)) rfl
    case Name x p =>
      simp only [ckE, Bool.and_eq_true, Bool.or_eq_true, decide_eq_true_eq] at h
      obtain ⟨hg, hd⟩ := g.gl h.1
      refine .mk1 g ?_ rfl
      rcases h.2 with h2 | h2
      · obtain ⟨v, u, hm, rv, rd, _⟩ := g.con x d h2
        exact PE.imp (pe_glob hg hm rv hd) fun σ H Q q => rE.k (by rw [g.hK]; exact rd) q
      · obtain ⟨t, ht, rfl⟩ := Option.map_eq_some_iff.mp h2.1
        obtain ⟨k1, k2, k3⟩ := tyN_ok g ht
        exact PE.imp (pe_bltn hg k1 k2 (show RelV (.ty t.name) (.type t.name) from rfl) k3 hd) fun σ H Q q => rE.k (c := c) (d := .ty t) (v := .ty t.name) (fun _ _ => (rfl : V.ty t.name = V.ty t.name)) q
  | .v i, e, tb, X, c, sc, h, g => by
    cases e <;> try (simp [ckE] at h; done)
    case Name x p =>
      simp only [ckE, Bool.and_eq_true, decide_eq_true_eq] at h
      exact .mk1 g (PE.imp (pe_var (by rw [g.hN]; exact h.1) (g.vis h.2.1) (by simpa [dbg] using h.2.2.1) (by simpa [cdc] using h.2.2.2)) fun σ H Q q => rE.v q) rfl
  | .un o a, e, tb, X, c, sc, h, g => by
    cases e <;> try (cases o <;> simp [ckE] at h; done)
    case UnaryOp p f pos =>
      cases o with
      | not =>
        cases p <;> try (simp [ckE] at h; done)
        have b := sndE a f tb X c sc (by simpa [ckE] using h) g
        exact ⟨PE.imp (pe_notT b.pe) fun σ H Q q => rE.not g.hK q, PT.imp (pt_not b.t) fun σ H Q q => rT.not q⟩
      | neg =>
        cases p <;> try (simp [ckE] at h; done)
        have b := sndE a f tb X c sc (by simpa [ckE] using h) g
        exact .mk1 g (PE.imp (pe_un ok_neg b.pe) fun σ H Q q => g.hK ▸ rE.un q) rfl
  | .bin o a b, e, tb, X, c, sc, h, g => by
    cases e <;> try (simp [ckE] at h; done)
    case BinOp f p k pos =>
      simp only [ckE, Bool.and_eq_true, decide_eq_true_eq] at h
      have b1 := sndE a f tb X c sc h.2.1 g
      have b2 := sndE b k tb X c sc h.2.2 g
      exact .mk1 g (PE.imp (pe_op (ok_bin h.1) b1.pe b2.pe) fun σ H Q q => g.hK ▸ rE.bin q) rfl
    case Compare f ps ks pos =>
      match ps, ks, h with
      | [p], [k], h =>
        simp only [ckE, Bool.and_eq_true, decide_eq_true_eq] at h
        have b1 := sndE a f tb X c sc h.2.2.1 g
        have b2 := sndE b k tb X c sc h.2.2.2 g
        have hu : X.A.units + 64 < cLine := by have := g.hu; omega
        exact ⟨PE.imp (pe_cmpR (ok_cmp hu h.1) b1.pe b2.pe (mark_of h.2.1)) fun σ H Q q => g.hK ▸ rE.bin q, PT.imp (pt_cmpR (ok_cmp hu h.1) b1.pe b2.pe (mark_of h.2.1)) fun σ H Q q => g.hK ▸ rT.cmp h.1 q⟩
      | [], _, h => simp [ckE] at h
      | _ :: _ :: _, _, h => simp [ckE] at h
      | [_], [], h => simp [ckE] at h
      | [_], _ :: _ :: _, h => simp [ckE] at h
    case Subscript f k pos =>
      simp only [ckE, Bool.and_eq_true, decide_eq_true_eq] at h
      obtain ⟨rfl, h⟩ := h
      have b1 := sndE a f tb X c sc h.2.1 g
      have b2 := sndE b k tb X c sc h.2.2 g
      exact .mk1 g (PE.imp (pe_ix ok_ix b1.pe b2.pe (slice_of h.1)) fun σ H Q q => g.hK ▸ rE.bin q) rfl
  | .and a b, e, tb, X, c, sc, h, g => by
    cases e <;> try (simp [ckE] at h; done)
    case BoolOp o es pos =>
      match o, es, h with
      | .And, [f, k], h =>
        simp only [ckE, Bool.and_eq_true] at h
        have b1 := sndE a f tb X c sc h.1 g
        have b2 := sndE b k tb X c sc h.2 g
        exact BothW.b ⟨PE.imp (pe_andT b1.pe (PE.andOne b2.pe)) fun σ H Q q => rE.and g.hK q, PW.imp (pw_and b1.t (pw_of1 b2.t)) fun σ H Q q => rT.and q⟩
      | .And, f :: k :: l :: r, h =>
        simp only [ckE, Bool.and_eq_true] at h
        have b1 := sndE a f tb X c sc h.1 g
        have b2 := sndW b .And (k :: l :: r) pos tb X c sc h.2 g
        exact BothW.b ⟨PE.imp (pe_andT b1.pe b2.pe) fun σ H Q q => rE.and g.hK q, PW.imp (pw_and b1.t b2.w) fun σ H Q q => rT.and q⟩
      | .And, [], h => simp [ckE] at h
      | .And, [_], h => simp [ckE] at h
      | .Or, _, h => simp [ckE] at h
  | .or a b, e, tb, X, c, sc, h, g => by
    cases e <;> try (simp [ckE] at h; done)
    case BoolOp o es pos =>
      match o, es, h with
      | .Or, [f, k], h =>
        simp only [ckE, Bool.and_eq_true] at h
        have b1 := sndE a f tb X c sc h.1 g
        have b2 := sndE b k tb X c sc h.2 g
        exact BothW.b ⟨PE.imp (pe_orT b1.pe (PE.andOne b2.pe)) fun σ H Q q => rE.or g.hK q, PW.imp (pw_or b1.t (pw_of1 b2.t)) fun σ H Q q => rT.or q⟩
      | .Or, f :: k :: l :: r, h =>
        simp only [ckE, Bool.and_eq_true] at h
        have b1 := sndE a f tb X c sc h.1 g
        have b2 := sndW b .Or (k :: l :: r) pos tb X c sc h.2 g
        exact BothW.b ⟨PE.imp (pe_orT b1.pe b2.pe) fun σ H Q q => rE.or g.hK q, PW.imp (pw_or b1.t b2.w) fun σ H Q q => rT.or q⟩
      | .Or, [], h => simp [ckE] at h
      | .Or, [_], h => simp [ckE] at h
      | .And, _, h => simp [ckE] at h
  | .ite t a b, e, tb, X, c, sc, h, g => by
    cases e <;> try (simp [ckE] at h; done)
    case IfExp k f l pos =>
      simp only [ckE, Bool.and_eq_true] at h
      have b0 := sndE t k tb X c sc h.1 g
      have b1 := sndE a f tb X c sc h.2.1 g
      have b2 := sndE b l tb X c sc h.2.2 g
      exact ⟨PE.imp (pe_ifExp b0.t b1.pe b2.pe) fun σ H Q q => rE.ite q, PT.imp (pt_ifExp b0.t b1.t b2.t) fun σ H Q q => rT.ite q⟩
  | .chain o p a b d, e, tb, X, c, sc, h, g => by
    cases e <;> try (simp [ckE] at h; done)
    case Compare f ps ks pos =>
      match ps, ks, h with
      | [o', p'], [k, l], h =>
        simp only [ckE, Bool.and_eq_true, decide_eq_true_eq] at h
        have b1 := sndE a f tb X c sc h.2.2.2.1 g
        have b2 := sndE b k tb X c sc h.2.2.2.2.1 g
        have b3 := sndE d l tb X c sc h.2.2.2.2.2 g
        have hu : X.A.units + 64 < cLine := by have := g.hu; omega
        have hl : lastMarks [o', p'] [k, l] = false := mark_of h.2.2.1
        exact ⟨PE.imp (pe_chain (ok_cmp hu h.1) (ok_cmp hu h.2.1) b1.pe b2.pe b3.pe hl) fun σ H Q q => g.hK ▸ rE.chain h.1 q, PT.imp (pt_chain (ok_cmp hu h.1) (ok_cmp hu h.2.1) b1.pe b2.pe b3.pe hl) fun σ H Q q => g.hK ▸ rT.chain h.1 h.2.1 q⟩
      | [], _, h => simp [ckE] at h
      | [_], _, h => simp [ckE] at h
      | _ :: _ :: _ :: _, _, h => simp [ckE] at h
      | [_, _], [], h => simp [ckE] at h
      | [_, _], [_], h => simp [ckE] at h
      | [_, _], _ :: _ :: _ :: _, h => simp [ckE] at h
  | .tup es, e, tb, X, c, sc, h, g => by
    cases e <;> try (simp [ckE] at h; done)
    case Tuple fs k pos =>
      exact .mk1 g (PE.imp (pe_tup (sndEs es fs tb X c sc (by simpa [ckE] using h) g)) fun σ H Q q => rE.tup q) rfl
  | .lst es, e, tb, X, c, sc, h, g => by
    cases e <;> try (simp [ckE] at h; done)
    case List fs pos =>
      exact .mk1 g (PE.imp (pe_lst (sndEs es fs tb X c sc (by simpa [ckE] using h) g)) fun σ H Q q => rE.lst q) rfl
  | .dic0, e, tb, X, c, sc, h, g => by
    unfold ckE at h
    split at h
    · exact .mk1 g (PE.imp pe_dnewK fun σ H Q q => rE.dic0 q) rfl
    · cases h
  | .sl a l hh, e, tb, X, c, sc, h, g => by
    cases e <;> try (simp [ckE] at h; done)
    case Subscript f k pos =>
      cases k <;> try (simp [ckE] at h; done)
      case Slice lo hi st p2 =>
        cases st <;> try (simp [ckE] at h; done)
        simp only [ckE, Bool.and_eq_true] at h
        have b1 := sndE a f tb X c sc h.1 g
        exact .mk1 g (PE.imp (pe_slice ok_sl b1.pe (sndO l lo tb X c sc h.2.1 g) (sndO hh hi tb X c sc h.2.2 g)) fun σ H Q q => g.hK ▸ rE.sl q) rfl
  | .rev a, e, tb, X, c, sc, h, g => by
    unfold ckE at h
    split at h
    · have b1 := sndE a _ tb X c sc h g
      exact .mk1 g (PE.imp (pe_revL b1.pe) fun σ H Q q => g.hK ▸ rE.rev q) rfl
    · cases h
  | .call n es, e, tb, X, c, sc, h, g => by
    unfold ckE at h
    split at h
    · rename_i x p fs pos
      simp only [Bool.and_eq_true, decide_eq_true_eq] at h
      obtain ⟨hg, hd⟩ := g.gl h.1
      obtain ⟨fa, fd, ps, k, hm, hk, F, hr, hb', hn⟩ := g.fns x n h.2.1
      obtain ⟨us0, v0, hb⟩ := hb' _ (Nat.le_refl _)
      rw [List.drop_length] at v0
      cases v0
      refine .mk1 g ?_ rfl
      have hA := sndEs es fs tb X c sc h.2.2 g
      cases fs with
      | nil =>
        cases es with
        | nil =>
          refine PE.imp (pe_call0S F (hr.mono (Nat.le_add_right _ _)) hg hm hk hb (fun σ => passAt g.tk σ) hd) fun σ H Q q => ?_
          obtain ⟨ρ, G, μ, re, rg, q2⟩ := rE.own hn q
          have := q2 H μ (.refl _) (List.prefix_refl _) rg [] rfl
          exact g.hK ▸ this
        | cons a as => simp [ckEs] at h
      | cons f fs =>
        refine PE.imp (pe_callS F (hr.mono (Nat.le_add_right _ _)) hg hm hk hb (fun σ => passAt g.tk σ) hA hd ?_ ?_) fun σ H Q q => g.hK ▸ rE.own hn q
        · cases es with
          | nil => simp [ckEs] at h
          | cons a as => simp only [ckEs, Bool.and_eq_true] at h; exact star_of h.2.2.1
        · cases es with
          | nil => simp [ckEs] at h
          | cons a as => simp only [ckEs, Bool.and_eq_true] at h; exact (splain h.2.2.2.2).1
    · cases h
  | .callD n es ds, e, tb, X, c, sc, h, g => by
    unfold ckE at h
    split at h
    · rename_i x p f fs pos
      simp only [Bool.and_eq_true, decide_eq_true_eq] at h
      obtain ⟨hg, hd⟩ := g.gl h.1
      obtain ⟨fa, fd, ps, k, hm, hk, F, hr, hb', hn⟩ := g.fns x n h.2.1
      obtain ⟨us0, v0, hb⟩ := hb' ((Γ.dflOf x).length - ds.length) (Nat.sub_le _ _)
      rw [h.2.2.1] at v0
      refine .mk1 g ?_ rfl
      have hA := sndEs es (f :: fs) tb X c sc h.2.2.2 g
      refine PE.imp (pe_callSD F (hr.mono (Nat.le_add_right _ _)) hg hm hk hb v0 (fun σ => passAt g.tk σ) hA hd ?_ ?_) fun σ H Q q => g.hK ▸ rE.ownD hn q
      · cases es with
        | nil => simp [ckEs] at h
        | cons a as => simp only [ckEs, Bool.and_eq_true] at h; exact star_of h.2.2.2.1
      · cases es with
        | nil => simp [ckEs] at h
        | cons a as => simp only [ckEs, Bool.and_eq_true] at h; exact (splain h.2.2.2.2.2).1
    · cases h
  | .bf b es, e, tb, X, c, sc, h, g => by
    unfold ckE at h
    split at h
    · rename_i x p f fs pos
      simp only [Bool.and_eq_true, decide_eq_true_eq] at h
      obtain ⟨h1, rfl, h3⟩ := h
      obtain ⟨hg, hd⟩ := g.gl h1
      have hA := sndEs es (f :: fs) tb X c sc h3 g
      refine .mk1 g ?_ rfl
      cases es with
      | nil => simp [ckEs] at h3
      | cons a as =>
        simp only [ckEs, Bool.and_eq_true] at h3
        exact PE.imp (ok_bf g hg hd hA (star_of h3.1) (splain h3.2.2).1) fun σ H Q q => g.hK ▸ rA.call q
    · cases h
  | .mt m o es, e, tb, X, c, sc, h, g => by
    unfold ckE at h
    split at h
    · rename_i f nm apos fs cpos
      rw [Bool.or_eq_true] at h
      rcases h with h | h
      case inr =>
        simp only [Bool.and_eq_true, decide_eq_true_eq] at h
        obtain ⟨rfl, h2, h3, h4, h5, h7⟩ := h
        unfold conT at h2
        split at h2
        · rename_i xs x p
          rw [Bool.and_eq_true, decide_eq_true_eq] at h2
          obtain ⟨hg, hd⟩ := g.gl h2.1
          obtain ⟨v, u, hm, rv, rd, ht⟩ := g.con x _ h2.2
          have hA := sndEs es fs tb X c sc h7 g
          refine .mk1 g ?_ rfl
          cases fs with
          | nil => cases h3
          | cons f' fs' =>
            cases es with
            | nil => simp [ckEs] at h7
            | cons a as =>
              have h7' := h7
              simp only [ckEs, Bool.and_eq_true] at h7
              exact PE.imp (ok_mtT (pe_glob hg hm rv hd) hA h4 h5 (by rfl) (star_of h7.1) (splain h7.2.2).1 (splain h7').2) fun σ H Q q => g.hK ▸ rE.ofTup (by rw [g.hK]; exact rd) (by rw [g.hK]; exact ht _ rfl) q
        · cases h2
      simp only [Bool.and_eq_true, decide_eq_true_eq] at h
      obtain ⟨rfl, h2, h3, h4, h5, h6, h7⟩ := h
      have hnT : m ≠ .indexT := by rintro rfl; cases h2
      have b1 := sndE o f tb X c sc h6 g
      have hA := sndEs es fs tb X c sc h7 g
      refine .mk1 g (PE.imp (ok_mt h2 b1.pe hA (base_of h4 _ _) h3 h5 (fun e' es' he => ?_) (splain h7).2) fun σ H Q q => ?_) rfl
      · subst he
        cases es with
        | nil => simp [ckEs] at h7
        | cons a as =>
          simp only [ckEs, Bool.and_eq_true] at h7
          exact ⟨star_of h7.1, (splain h7.2.2).1⟩
      · cases fs with
        | nil =>
          cases es with
          | nil => exact g.hK ▸ rE.mt0 hnT q
          | cons a as => simp [ckEs] at h7
        | cons f' fs' => exact g.hK ▸ rE.mt hnT q
    · cases h
  | .comp t it cd el own, e, tb, X, c, sc, h, g => by
    unfold ckE at h
    split at h
    · rename_i elt tg iter ifs scope pos
      simp only [Bool.and_eq_true, decide_eq_true_eq] at h
      obtain ⟨h1, h2, h3, h4, h5, h6, h7, h8⟩ := h
      refine .mk1 g ?_ rfl
      have ok : BlkOk X.N X.env.scope scope (ownN N own) := by rw [g.hN, g.hsc]; exact blkOk_by h1
      refine PE.imp (pe_lc g.calm (by rw [g.hN]; exact g.nd) (sndI it iter tg tb X c sc h5 g) ok (g := gOf X.K t) (fun s H C' cl fp => (g.blk s H scope C' cl fp).pg (df := false) (fun z => nomatch z) h4)
        (fun s H C' cl fp => sndC cd ifs tb _ c.quiet _ h7 (g.blk s H scope C' cl fp)) (fun s H C' cl fp => (sndE el elt tb _ c.quiet _ h8 (g.blk s H scope C' cl fp)).pe) (fun x => set_of h6 x)) fun σ H Q q => ?_
      rw [h2]
      exact g.hK ▸ rE.comp h3 q
    · cases h
  | .gen al t it el own, e, tb, X, c, sc, h, g => by
    unfold ckE at h
    split at h
    · rename_i x p elt tg iter scope gpos pos
      simp only [Bool.and_eq_true, decide_eq_true_eq] at h
      obtain ⟨rfl, h1, rfl, h2, h3, h4, h5, h6, h7, h8, h9⟩ := h
      obtain ⟨hgl, _⟩ := g.gl h1
      obtain ⟨cd, P, TB, hcd, hP, hr⟩ := g.code rfl
      have ok : GenOk X.N X.env.scope scope (ownN N own) := by rw [g.hN, g.hsc]; exact genOk_of h2
      refine .mk1 g ?_ rfl
      cases al with
      | true =>
        refine PE.imp (pe_all hr g.calm (by rw [g.hN]; exact g.nd) hgl (g.blt _ (by decide +kernel)) TB hcd ok (sndI it iter tg true X c sc h6 g) (g := gOf X.K t) (fun A s H C' cl cd fp pn hA => (g.gen hA s H scope C' cl cd fp pn).pg (df := false) (fun z => nomatch z) h5)
          (fun A s H C' cl cd fp pn hA => (sndE el elt false _ c.quiet _ h9 (g.gen hA s H scope C' cl cd fp pn)).pe) (fun v => fold_of h7 h8 v)) fun σ H Q q => ?_
        rw [h3]; exact g.hK ▸ rE.gen hP h4 q
      | false =>
        refine PE.imp (pe_any hr g.calm (by rw [g.hN]; exact g.nd) hgl (g.blt _ (by decide +kernel)) TB hcd ok (sndI it iter tg true X c sc h6 g) (g := gOf X.K t) (fun A s H C' cl cd fp pn hA => (g.gen hA s H scope C' cl cd fp pn).pg (df := false) (fun z => nomatch z) h5)
          (fun A s H C' cl cd fp pn hA => (sndE el elt false _ c.quiet _ h9 (g.gen hA s H scope C' cl cd fp pn)).pe) (fun v => fold_of h7 h8 v)) fun σ H Q q => ?_
        rw [h3]; exact g.hK ▸ rE.gen hP h4 q
    · cases h
theorem sndW : ∀ (a : Ex) (o : BoolOp) (es : List Expr) (pos : Pos) (tb : Bool) (X : Cx) (c : Ct) (sc : Scope), ckE Γ N tb sc a (.BoolOp o es pos) = true → Good Γ N C tb X c sc → BothW X c (.BoolOp o es pos) (ev C a)
  | .and a b, o, es, pos, tb, X, c, sc, h, g => by
    match o, es, h with
    | .And, [f, k], h =>
      simp only [ckE, Bool.and_eq_true] at h
      have b1 := sndE a f tb X c sc h.1 g
      have b2 := sndE b k tb X c sc h.2 g
      exact ⟨PE.imp (pe_andT b1.pe (PE.andOne b2.pe)) fun σ H Q q => rE.and g.hK q, PW.imp (pw_and b1.t (pw_of1 b2.t)) fun σ H Q q => rT.and q⟩
    | .And, f :: k :: l :: r, h =>
      simp only [ckE, Bool.and_eq_true] at h
      have b1 := sndE a f tb X c sc h.1 g
      have b2 := sndW b .And (k :: l :: r) pos tb X c sc h.2 g
      exact ⟨PE.imp (pe_andT b1.pe b2.pe) fun σ H Q q => rE.and g.hK q, PW.imp (pw_and b1.t b2.w) fun σ H Q q => rT.and q⟩
    | .And, [], h => simp [ckE] at h
    | .And, [_], h => simp [ckE] at h
    | .Or, _, h => simp [ckE] at h
  | .or a b, o, es, pos, tb, X, c, sc, h, g => by
    match o, es, h with
    | .Or, [f, k], h =>
      simp only [ckE, Bool.and_eq_true] at h
      have b1 := sndE a f tb X c sc h.1 g
      have b2 := sndE b k tb X c sc h.2 g
      exact ⟨PE.imp (pe_orT b1.pe (PE.andOne b2.pe)) fun σ H Q q => rE.or g.hK q, PW.imp (pw_or b1.t (pw_of1 b2.t)) fun σ H Q q => rT.or q⟩
    | .Or, f :: k :: l :: r, h =>
      simp only [ckE, Bool.and_eq_true] at h
      have b1 := sndE a f tb X c sc h.1 g
      have b2 := sndW b .Or (k :: l :: r) pos tb X c sc h.2 g
      exact ⟨PE.imp (pe_orT b1.pe b2.pe) fun σ H Q q => rE.or g.hK q, PW.imp (pw_or b1.t b2.w) fun σ H Q q => rT.or q⟩
    | .Or, [], h => simp [ckE] at h
    | .Or, [_], h => simp [ckE] at h
    | .And, _, h => simp [ckE] at h
  | .k _, _, _, _, _, _, _, _, h, _ => by simp [ckE] at h
  | .v _, _, _, _, _, _, _, _, h, _ => by simp [ckE] at h
  | .un o _, _, _, _, _, _, _, _, h, _ => by cases o <;> simp [ckE] at h
  | .bin _ _ _, _, _, _, _, _, _, _, h, _ => by simp [ckE] at h
  | .ite _ _ _, _, _, _, _, _, _, _, h, _ => by simp [ckE] at h
  | .chain _ _ _ _ _, _, _, _, _, _, _, _, h, _ => by simp [ckE] at h
  | .tup _, _, _, _, _, _, _, _, h, _ => by simp [ckE] at h
  | .lst _, _, _, _, _, _, _, _, h, _ => by simp [ckE] at h
  | .dic0, _, _, _, _, _, _, _, h, _ => by simp [ckE] at h
  | .sl _ _ _, _, _, _, _, _, _, _, h, _ => by simp [ckE] at h
  | .rev _, _, _, _, _, _, _, _, h, _ => by simp [ckE] at h
  | .call _ _, _, _, _, _, _, _, _, h, _ => by simp [ckE] at h
  | .bf _ _, _, _, _, _, _, _, _, h, _ => by simp [ckE] at h
  | .callD _ _ _, _, _, _, _, _, _, _, h, _ => by simp [ckE] at h
  | .mt _ _ _, _, _, _, _, _, _, _, h, _ => by simp [ckE] at h
  | .comp _ _ _ _ _, _, _, _, _, _, _, _, h, _ => by simp [ckE] at h
  | .gen _ _ _ _ _, _, _, _, _, _, _, _, h, _ => by simp [ckE] at h
theorem sndEs : ∀ (as : Exs) (es : List Expr) (tb : Bool) (X : Cx) (c : Ct) (sc : Scope), ckEs Γ N tb sc as es = true → Good Γ N C tb X c sc → PA X es (rA c (evs C as))
  | .nil, es, tb, X, c, sc, h, g => by
    have e : es = [] := List.isEmpty_iff.mp (by simpa [ckEs] using h)
    subst e
    exact PA.imp pa_nil fun σ H Q q => rA.nil q
  | .cons a as, [], tb, X, c, sc, h, g => by simp [ckEs] at h
  | .cons a as, e :: es, tb, X, c, sc, h, g => by
    simp only [ckEs, Bool.and_eq_true] at h
    exact PA.imp (pa_cons (sndE a e tb X c sc h.2.1 g).pe (sndEs as es tb X c sc h.2.2 g) (star_of h.1)) fun σ H Q q => rA.cons q
theorem sndO : ∀ (a : Exo) (e : Option Expr) (tb : Bool) (X : Cx) (c : Ct) (sc : Scope), ckO Γ N tb sc a e = true → Good Γ N C tb X c sc → PO X e (rO c (evo C a))
  | .none, e, tb, X, c, sc, h, g => by
    have e0 : e = none := Option.isNone_iff_eq_none.mp (by simpa [ckO] using h)
    subst e0
    exact PO.imp po_none fun σ H Q q => rO.no q
  | .some a, none, tb, X, c, sc, h, g => by simp [ckO] at h
  | .some a, some e, tb, X, c, sc, h, g => PO.imp (po_some (sndE a e tb X c sc (by simpa [ckO] using h) g).pe) fun σ H Q q => rO.some q
theorem sndC : ∀ (a : Exo) (e : List Expr) (tb : Bool) (X : Cx) (c : Ct) (sc : Scope), ckC Γ N tb sc a e = true → Good Γ N C tb X c sc → PTs X e (tOpt c (evc C a))
  | .none, e, tb, X, c, sc, h, g => by
    have e0 : e = [] := List.isEmpty_iff.mp (by simpa [ckC] using h)
    subst e0
    exact pts_nil
  | .some a, [], tb, X, c, sc, h, g => by simp [ckC] at h
  | .some a, _ :: _ :: _, tb, X, c, sc, h, g => by simp [ckC] at h
  | .some a, [e], tb, X, c, sc, h, g => pts_one (sndE a e tb X c sc (by simpa [ckC] using h) g).t
theorem sndI : ∀ (a : It) (e tg : Expr) (tb : Bool) (X : Cx) (c : Ct) (sc : Scope), ckI Γ N tb sc a e tg = true → Good Γ N C tb X c sc → PI X tg e (rI c (evi C a))
  | .one a, e, tg, tb, X, c, sc, h, g => pi_mone g.hK (sndE a e tb X c sc (by simpa [ckI] using h) g).pe
  | .rng1 a, e, tg, tb, X, c, sc, h, g => by
    unfold ckI at h
    split at h
    · simp only [Bool.and_eq_true, decide_eq_true_eq] at h
      obtain ⟨h1, rfl, h3, h4⟩ := h
      exact pi_mrng1 g.hK (g.gl h1).1 (g.blt _ (by decide +kernel)) (sndE a _ tb X c sc h4 g).pe (star_of h3)
    · cases h
  | .rng2 a b, e, tg, tb, X, c, sc, h, g => by
    unfold ckI at h
    split at h
    · simp only [Bool.and_eq_true, decide_eq_true_eq] at h
      obtain ⟨h1, rfl, h3, h4, h5, h6⟩ := h
      exact pi_mrng2 g.hK (g.gl h1).1 (g.blt _ (by decide +kernel)) (sndE a _ tb X c sc h5 g).pe (sndE b _ tb X c sc h6 g).pe (star_of h3) (star_of h4)
    · cases h
  | .enum a, e, tg, tb, X, c, sc, h, g => by
    unfold ckI at h
    rw [Bool.and_eq_true] at h
    obtain ⟨ht, h⟩ := h
    cases tg <;> first | (cases ht; done) | skip
    split at h
    · simp only [Bool.and_eq_true, decide_eq_true_eq] at h
      obtain ⟨h1, rfl, h3, h4⟩ := h
      exact pi_menum g.hK (g.gl h1).1 (g.blt _ (by decide +kernel)) (sndE a _ tb X c sc h4 g).pe (star_of h3)
    · cases h
  | .zip a b, e, tg, tb, X, c, sc, h, g => by
    unfold ckI at h
    rw [Bool.and_eq_true] at h
    obtain ⟨ht, h⟩ := h
    cases tg <;> first | (cases ht; done) | skip
    split at h
    · simp only [Bool.and_eq_true, decide_eq_true_eq] at h
      obtain ⟨h1, rfl, h3, h4, h5, h6⟩ := h
      exact pi_mzip g.hK (g.gl h1).1 (g.blt _ (by decide +kernel)) (sndE a _ tb X c sc h5 g).pe (sndE b _ tb X c sc h6 g).pe (star_of h3) (star_of h4)
    · cases h
end
end
end Cut
/-! The look is right: all statements. -/
namespace Cut
open PySem PySem.Spec PyProof.Rows L2
variable [Tbl]
structure GoodS (Γ : Gx) (N : List Str) (C : CallF) (tb : Bool) (X : Cx) (c : Ct) (sc : Scope) : Prop where
  g : Good Γ N C tb X c sc
  fn : ∀ x, X.fn x = true
  hp : PassesOwn (model X.prog X.w) X.A X.env X.xe
  kind : sc.kind = .function
section
variable {Γ : Gx} {N : List Str} {C : CallF} {tb : Bool} {X : Cx} {c : Ct} {sc : Scope}
theorem GoodS.bk (g : GoodS Γ N C tb X c sc) : X.env.blockKind = .function := by
  unfold Env.blockKind
  rw [g.g.hsc, g.kind]
  rfl
theorem GoodS.swF (g : GoodS Γ N C tb X c sc) {e : Expr} {x : Str} {py : Pos} {l : Nat} (h : (match e with
    | .SetComp .. | .DictComp .. => false
    | _ => true) = true) (hs : swC sc e x py = false) : swapsWith e (some (.Name x py)) l X.env = pure false := by
  cases e <;> first | rfl | (cases h; done) | skip
  case ListComp elt gs scope pos =>
    unfold swC at hs
    unfold swapsWith
    have hk : X.env.kindOf x = sc.names.lookup x := by unfold Env.kindOf; rw [g.g.hsc]
    simp only [g.bk, hk, Expr.pos]
    have e : (sc.names.lookup x == some NameKind.local) = decide (sc.names.lookup x = some .local) := by
      by_cases q : sc.names.lookup x = some .local
      · rw [q]; rfl
      · rw [decide_eq_false q]; exact beq_eq_false_iff_ne.mpr q
    rw [e]
    simp only [Bool.and_eq_false_iff] at hs
    show pure (ScopeKind.function == ScopeKind.function && _ && _ && _) = pure false
    congr 1
    rcases hs with hs | hs | hs <;> simp [hs]
theorem star_any {vs : List Expr} (h : vs.all notStar = true) : (vs.any fun | .Starred .. => true | _ => false) = false := by
  induction vs with
  | nil => rfl
  | cons a vs ih =>
    simp only [List.all_cons, Bool.and_eq_true] at h
    rw [List.any_cons, ih h.2]
    cases a <;> first | rfl | cases h.1
theorem ite_same {α : Type} {c : Prop} [Decidable c] {a b : α} (h : b = a) : (if c then a else b) = a := by
  by_cases q : c
  · rw [if_pos q]
  · rw [if_neg q, h]
theorem few_of {α β : Type} {f : α → Option β} : ∀ {l : List α}, (∃ x ∈ l, f x = none) → (l.filterMap f).length < l.length
  | [], ⟨_, h, _⟩ => nomatch h
  | a :: l, ⟨x, h, e⟩ => by
    rw [List.filterMap_cons]
    rcases List.mem_cons.mp h with h | h
    · subst h
      rw [e]
      exact Nat.lt_succ_of_le (List.length_filterMap_le f l)
    · have := few_of (f := f) ⟨x, h, e⟩
      cases f a with
      | none => exact Nat.lt_succ_of_lt this
      | some b => exact Nat.succ_lt_succ this
theorem sw_none (g : GoodS Γ N C tb X c sc) {ts vs : List Expr} {k k2 p p2} (h : swN sc ts vs = true) : swappedStores [.Tuple ts k p] (.Tuple vs k2 p2) X.env = pure none := by
  unfold swN at h
  have h : ((!(ts.length == 2 || ts.length == 3) || vs.length != ts.length) = true) ∨ (vs.all (foldedForSure 8) = true ∨ ts.any (notLoc sc) = true) :=
    (Bool.or_eq_true_iff.mp h).imp id fun z => Bool.or_eq_true_iff.mp z
  unfold swappedStores
  rcases h with h | h | h
  · show (if (!(ts.length == 2 || ts.length == 3) || vs.length != ts.length || X.env.blockKind != .function) = true then _ else _) = _
    rw [if_pos (by rw [h]; rfl)]
  · refine ite_same (ite_same (ite_same ?_))
    rw [if_pos h]
  · refine ite_same (ite_same ?_)
    refine if_pos ?_
    rw [Bool.or_eq_true]
    refine .inl ?_
    rw [bne_iff_ne]
    refine Nat.ne_of_lt (few_of ?_)
    obtain ⟨x, hx, e⟩ := List.any_eq_true.mp h
    refine ⟨x, hx, ?_⟩
    cases x <;> try rfl
    case Name id pos =>
      have hk : X.env.kindOf id = sc.names.lookup id := by unfold Env.kindOf; rw [g.g.hsc]
      have e : (!(sc.names.lookup id == some NameKind.local)) = true := e
      simp only [hk]
      rw [Bool.not_eq_true'] at e
      rw [e, Bool.false_and]; rfl
theorem sw_two (g : GoodS Γ N C tb X c sc) {x y : Str} {px py p p2 : Pos} {k k2} {a b : Expr} (hx : X.env.scope.names.lookup x = some .local) (hy : X.env.scope.names.lookup y = some .local) (hl : (py.line == px.line) = true) (hn : (x == y) = false) (h : swY [a, b] = true) :
    swappedStores [.Tuple [.Name x px, .Name y py] k p] (.Tuple [a, b] k2 p2) X.env = pure (some [x, y]) := by
  unfold swY at h
  simp only [Bool.and_eq_true, Bool.not_eq_true'] at h
  obtain ⟨h1, h2, h3⟩ := h
  have hx : X.env.kindOf x = some .local := hx
  have hy : X.env.kindOf y = some .local := hy
  have hn' : (y == x) = false := by rw [Bool.eq_false_iff] at hn ⊢; intro z; exact hn (by rw [eq_of_beq z]; exact beq_self_eq_true _)
  have s1 := star_any h1
  simp only [List.any, Bool.or_false] at s1
  unfold swappedStores
  simp only [g.bk, hx, hy, hl, h2, h3, List.filterMap, List.head?, Option.map, Option.getD, Expr.pos, beq_self_eq_true, List.length, List.eraseDups, List.eraseDupsBy, List.eraseDupsBy.loop, List.any, hn, hn', Bool.false_or, Bool.or_false, bne_self_eq_false, Bool.and_self, if_true, if_false, List.reverse, List.reverseAux]
  refine (if_neg (by decide)).trans ((if_neg (fun z => by have z' := s1.symm.trans z; cases z')).trans ?_)
  refine (if_neg (by decide)).trans ((if_neg (by decide)).trans ((if_neg (by decide)).trans rfl))
theorem sw_three (g : GoodS Γ N C tb X c sc) {x y z : Str} {px py pz p p2 : Pos} {k k2} {a b d : Expr} (hx : X.env.scope.names.lookup x = some .local) (hy : X.env.scope.names.lookup y = some .local) (hz : X.env.scope.names.lookup z = some .local) (hl : (py.line == px.line) = true) (hl2 : (pz.line == px.line) = true) (hn : (x == y) = false) (hn2 : (x == z) = false) (hn3 : (y == z) = false) (h : swY [a, b, d] = true) :
    swappedStores [.Tuple [.Name x px, .Name y py, .Name z pz] k p] (.Tuple [a, b, d] k2 p2) X.env = pure (some [x, y, z]) := by
  unfold swY at h
  simp only [Bool.and_eq_true, Bool.not_eq_true'] at h
  obtain ⟨h1, h2, h3⟩ := h
  have hx : X.env.kindOf x = some .local := hx
  have hy : X.env.kindOf y = some .local := hy
  have hz : X.env.kindOf z = some .local := hz
  have sy : ∀ {u v : Str}, (u == v) = false → (v == u) = false := fun {u v} hn => by rw [Bool.eq_false_iff] at hn ⊢; intro z; exact hn (by rw [eq_of_beq z]; exact beq_self_eq_true _)
  have s1 := star_any h1
  simp only [List.any, Bool.or_false] at s1
  unfold swappedStores
  simp only [g.bk, hx, hy, hz, hl, hl2, h2, h3, List.filterMap, List.head?, Option.map, Option.getD, Expr.pos, beq_self_eq_true, List.length, List.eraseDups, List.eraseDupsBy, List.eraseDupsBy.loop, List.any, hn, hn2, hn3, sy hn, sy hn2, sy hn3, Bool.false_or, Bool.or_false, bne_self_eq_false, Bool.and_self, if_true, if_false, List.reverse, List.reverseAux]
  refine (if_neg (by decide)).trans ((if_neg (fun z => by have z' := s1.symm.trans z; cases z')).trans ?_)
  refine (if_neg (by decide)).trans ((if_neg (by decide)).trans ((if_neg (by decide)).trans rfl))
theorem get_ix : PGet X (r2 X.K (op2 .ix)) := by
  rintro pins s σ H x y v u Q I rx ry ⟨d, e, G, μ, g, r, r', h⟩
  cases d <;> cases e <;> try exact h.elim
  case str.int z i =>
    have e1 : x = _ := r; have e2 : y = _ := r'; subst e1; subst e2
    simp only [op2] at h
    split at h
    · rename_i hl
      obtain ⟨b, hb, h⟩ := okD_some h
      rw [Option.map_eq_some_iff] at hb
      obtain ⟨c, hc, rfl⟩ := hb
      obtain ⟨t, rfl⟩ := rx
      obtain ⟨t', rfl⟩ := ry
      obtain ⟨j, h1, h2, h3, h4, h5⟩ := atI_get hc
      have hn := line63
      exact getItem_str (c := c) (by
        have e1 : decide (i < -(2 ^ 63 : Int)) = false := decide_eq_false (by omega)
        have e2 : decide (i ≥ 2 ^ 63) = false := decide_eq_false (by omega)
        rw [e1, e2, Bool.or_false]) (by rw [show (⟨z.toArray⟩ : Str).length = z.length from by simp [Str.length], h1]; simpa using h2) ⟨.str ⟨#[c]⟩, H, I.tok _, ⟨_, rfl⟩, P0.here g h rfl⟩
    · exact h.elim
  case tup.int xs i =>
    obtain ⟨a, vs, rfl, s1, rs⟩ := r
    have e2 : y = _ := r'; subst e2
    obtain ⟨b, hb, h⟩ := okD_some h
    obtain ⟨w, hw, rw'⟩ := rs.at hb
    cases rx
    obtain ⟨t, rfl⟩ := ry
    obtain ⟨its, r, pl, hz⟩ := I.tuple s1
    obtain ⟨j, h1, h2, h3, h4, h5⟩ := atI_get hw
    obtain ⟨w', ew, rw''⟩ := r.get h2
    have hl := r.length
    have hn := line63
    exact getItem_tuple (j := j) pl (by omega) (by omega) (by rw [List.size_toArray, ← hl]; exact h1) (by simpa using ew) ⟨w, H, I, rw'', P0.here g h rw'⟩
  case ref.int n i =>
    obtain ⟨a, rfl, ma⟩ := r
    have e2 : y = _ := r'; subst e2
    simp only [op2] at h
    split at h
    · rename_i xs hx
      obtain ⟨vs, rs, sq, _⟩ := g.sq hx ma
      obtain ⟨b, hb, h⟩ := okD_some h
      obtain ⟨w, hw, rw'⟩ := rs.at hb
      cases rx
      obtain ⟨t, rfl⟩ := ry
      obtain ⟨its, r, pl, hz⟩ := I.list sq
      obtain ⟨j, h1, h2, h3, h4, h5⟩ := atI_get hw
      obtain ⟨w', ew, rw''⟩ := r.get h2
      have hl := r.length
      have hn := line63
      have fin : EP X pins σ Q w' s := ⟨w, H, I, rw'', P0.here g h rw'⟩
      by_cases h0 : 0 ≤ i
      · have hj : i.toNat = j := by
          rw [seqIndex_of h0 h5] at h1
          exact Option.some.inj h1
        exact wpAny_getItem_list pl.isList h0 (by omega) (by rw [hj]; simpa using ew) fin
      · have hj : (i + (its.toArray.size : Int)).toNat = j := by
          rw [seqIndex_neg (by omega) h4] at h1
          rw [List.size_toArray, ← hl]
          exact Option.some.inj h1
        exact wpAny_getItem_list_neg pl.isList (by omega) (by rw [List.size_toArray] <;> omega) (by omega) (by rw [hj]; simpa using ew) fin
    · exact h.elim
mutual
theorem sndS : ∀ (a : Sm) (s : Stmt), ckS Γ N tb sc a s = true → GoodS Γ N C tb X c sc → PS X s (rS c (ex C a))
  | .pass, s, h, g => by
    unfold ckS at h
    split at h
    · exact PS.imp ps_pass fun D σ H q => rS.nil q
    · exact PS.imp ps_doc fun D σ H q => rS.nil q
    · cases h
  | .expr a, s, h, g => by
    unfold ckS at h
    split at h
    · simp only [Bool.and_eq_true] at h
      exact PS.imp (ps_expr (sndE a _ tb X c sc h.2 g.g).pe (comp_of h.1 _ _)) fun D σ H q => rS.expr q
    · cases h
  | .set t a, s, h, g => by
    unfold ckS at h
    split at h
    · rename_i x py e pos
      split at h
      · rename_i i
        simp only [Bool.and_eq_true] at h
        obtain ⟨k1, k2, k3⟩ := g.g.loc h.1 (fun _ => g.fn)
        cases hs : swC sc e x py with
        | false =>
          refine PS.imp (ps_set (by rw [g.g.hN]; exact g.g.nd) k1 k2 (sndE a e tb X c sc h.2 g.g).pe (g.swF ?_ hs) k3) fun D σ H q => ?_
          · cases e <;> first | rfl | (cases a <;> first | (rename_i o _; cases o <;> simp [ckE] at h; done) | (simp [ckE] at h; done))
          · have : gOf X.K (.v i) = gName i := rfl
            rw [← this, ← g.g.hK]; exact rS.set q
        | true =>
          unfold swC at hs
          split at hs
          · rename_i elt gs scope pos'
            simp only [Bool.and_eq_true, decide_eq_true_eq] at hs
            cases a <;> first | (rename_i o _; cases o <;> simp [ckE] at h; done) | (simp [ckE] at h; done) | skip
            case comp t it cd el own =>
              have h2 := h.2
              unfold ckE at h2
              split at h2
              · rename_i elt' tg iter ifs scope' pos'' heq
                cases heq
                simp only [Bool.and_eq_true, decide_eq_true_eq] at h2
                obtain ⟨h1, h2, h3, h4, h5, h6, h7, h8⟩ := h2
                have ok : BlkOk X.N X.env.scope scope (ownN N own) := by rw [g.g.hN, g.g.hsc]; exact blkOk_by h1
                have hl : X.env.scope.names.lookup x = some .local := by rw [g.g.hsc]; exact hs.1
                refine PS.imp (ps_setLc g.g.calm (by rw [g.g.hN]; exact g.g.nd) k1 hl (sw_true (by rw [g.g.hsc]; exact g.kind) hl hs.2.1 (by simpa using hs.2.2)) (sndI it iter tg tb X c sc h5 g.g) ok (g := gOf X.K t) (fun s H C' cl fp => (g.g.blk s H scope C' cl fp).pg (df := false) (fun z => nomatch z) h4)
                  (fun s H C' cl fp => sndC cd ifs tb _ c.quiet _ h7 (g.g.blk s H scope C' cl fp)) (fun s H C' cl fp => (sndE el elt tb _ c.quiet _ h8 (g.g.blk s H scope C' cl fp)).pe) (fun x => set_of h6 x)) fun D σ H q => ?_
                have q := rS.set (t := .v i) (f := ev C (.comp t it cd el own)) q
                rw [h2]
                have q : rE c (ev C (.comp t it cd el own)) σ H fun v H1 => gName i v σ H1 D.nx := q
                exact g.g.hK ▸ rE.comp h3 q
              · cases h2
          · cases hs
      · cases h
    · rename_i ts k p e pos
      split at h
      · rename_i is
        simp only [Bool.and_eq_true, Bool.or_eq_true, decide_eq_true_eq] at h
        obtain ⟨k1, k2, k3⟩ := g.g.pgs (df := true) (fun _ => g.fn) h.1
        have hsw : swapsWithSole [.Tuple ts k p] e pos.line X.env = pure false := by
          show swapsWith e (some (.Tuple ts k p)) pos.line X.env = pure false
          exact comp_of h.2.2.1 _ _
        refine PS.imp (ps_asg (sndE a e tb X c sc h.2.2.2 g.g).pe (pg_tup g.g.calm k1 k2 k3) hsw ?_) fun D σ H q => ?_
        · cases e <;> first | rfl | skip
          case Tuple vs k2 p2 => exact sw_none g h.2.1
        · have := rS.set q
          rw [g.g.hK] at this
          exact this
      · cases h
    · cases h
  | .par is es, s, h, g => by
    unfold ckS at h
    split at h
    · rename_i ts k p vs k2 p2 pos
      split at h
      · rename_i i j x px y py
        simp only [Bool.and_eq_true, decide_eq_true_eq] at h
        obtain ⟨h1, h2, h3, h4, h5, h6, h7, h8⟩ := h
        match vs, h7, h8, h6 with
        | [a, b], _, h8, h6 =>
        have hx : X.env.scope.names.lookup x = some .local := by rw [g.g.hsc]; exact h4
        have hy : X.env.scope.names.lookup y = some .local := by rw [g.g.hsc]; exact h5
        simp only [Bool.and_eq_true, Bool.not_eq_true'] at h6
        have e1 := sw_two g (k := k) (k2 := k2) (p := p) (p2 := p2) hx hy h6.1 h6.2.1 h6.2.2
        exact PS.imp (ps_par g.g.calm (by rw [g.g.hN]; exact g.g.nd) (by rw [g.g.hN]; exact h1) (by rw [g.g.hN]; exact h2) h3 hx hy (sndEs es _ tb X c sc h8 g.g) e1) fun D σ H q => rS.par2 q
      · rename_i i j l x px y py z pz
        simp only [Bool.and_eq_true, decide_eq_true_eq] at h
        obtain ⟨h1, h2, h2', h3, h3', h3'', h4, h5, h5', h6, h7, h8⟩ := h
        match vs, h7, h8, h6 with
        | [a, b, d], _, h8, h6 =>
        have hx : X.env.scope.names.lookup x = some .local := by rw [g.g.hsc]; exact h4
        have hy : X.env.scope.names.lookup y = some .local := by rw [g.g.hsc]; exact h5
        have hz : X.env.scope.names.lookup z = some .local := by rw [g.g.hsc]; exact h5'
        simp only [Bool.and_eq_true, Bool.not_eq_true'] at h6
        have e1 := sw_three g (k := k) (k2 := k2) (p := p) (p2 := p2) hx hy hz h6.1 h6.2.1 h6.2.2.1 h6.2.2.2.1 h6.2.2.2.2.1 h6.2.2.2.2.2
        exact PS.imp (ps_par3 g.g.calm (by rw [g.g.hN]; exact g.g.nd) (by rw [g.g.hN]; exact h1) (by rw [g.g.hN]; exact h2) (by rw [g.g.hN]; exact h2') h3 h3' h3'' hx hy hz (sndEs es _ tb X c sc h8 g.g) e1) fun D σ H q => rS.par3 q
      · cases h
    · cases h
  | .setIx a i e, s, h, g => by
    unfold ckS at h
    split at h
    · rename_i f k p e' pos
      simp only [Bool.and_eq_true] at h
      obtain ⟨h1, h2, h3, h4, h5⟩ := h
      have hsw : swapsWithSole [.Subscript f k p] e' pos.line X.env = pure false := comp_of (env := X.env) h2 (some (.Subscript f k p)) pos.line
      refine PS.imp (ps_asg (sndE e e' tb X c sc h5 g.g).pe (pg_sub (sndE a f tb X c sc h3 g.g).pe (sndE i k tb X c sc h4 g.g).pe set_list ?_) hsw) fun D σ H q => ?_
      · intro v
        cases k <;> first | rfl | cases h1
      · exact rS.setIx q
    · cases h
  | .setKey a i e, s, h, g => by
    unfold ckS at h
    split at h
    · rename_i f k p e' pos
      simp only [Bool.and_eq_true] at h
      obtain ⟨h1, h2, h3, h4, h5⟩ := h
      have hsw : swapsWithSole [.Subscript f k p] e' pos.line X.env = pure false := comp_of (env := X.env) h2 (some (.Subscript f k p)) pos.line
      have hu : X.A.units + 1 < cLine := by have := g.g.hu; omega
      refine PS.imp (ps_asg (sndE e e' tb X c sc h5 g.g).pe (pg_sub (sndE a f tb X c sc h3 g.g).pe (sndE i k tb X c sc h4 g.g).pe (set_dict hu) ?_) hsw) fun D σ H q => ?_
      · intro v
        cases k <;> first | rfl | cases h1
      · exact rS.setKey q
    · cases h
  | .aug i o a, s, h, g => by
    unfold ckS at h
    split at h
    · simp only [Bool.and_eq_true, decide_eq_true_eq] at h
      obtain ⟨k1, k2, k3⟩ := g.g.loc h.1 (fun _ => g.fn)
      exact PS.imp (ps_aug (by rw [g.g.hN]; exact g.g.nd) k1 k2 (sndE a _ tb X c sc h.2.2 g.g).pe (ok_aug h.2.1) k3) fun D σ H q => g.g.hK ▸ rS.aug q
    · cases h
  | .augIx a i o e, s, h, g => by
    unfold ckS at h
    split at h
    · rename_i f k p op e' pos
      simp only [Bool.and_eq_true, decide_eq_true_eq] at h
      obtain ⟨h1, h2, h3, h4, h5⟩ := h
      refine PS.imp (ps_augS (sndE a f tb X c sc h3 g.g).pe (sndE i k tb X c sc h4 g.g).pe (tget := r2 X.K (op2 .ix)) ?_ (sndE e e' tb X c sc h5 g.g).pe (ok_aug h2) set_list ?_) fun D σ H q => ?_
      · exact get_ix
      · intro ov iv new
        cases k <;> first | rfl | cases h1
      · exact g.g.hK ▸ rS.augIx q
    · cases h
  | .ifs t a b, s, h, g => by
    unfold ckS at h
    split at h
    · simp only [Bool.and_eq_true] at h
      exact PS.imp (ps_if (sndE t _ tb X c sc h.1 g.g).t (sndSs a _ h.2.1 g) (sndSs b _ h.2.2 g)) fun D σ H q => rS.ifs q
    · cases h
  | .whil t a, s, h, g => by
    unfold ckS at h
    split at h
    · simp only [Bool.and_eq_true] at h
      exact PS.imp (ps_while g.hp (sndE t _ tb X c sc h.1 g.g).t (sndSs a _ h.2 g)) fun D σ H q => rS.while q
    · cases h
  | .for_ t it a, s, h, g => by
    unfold ckS at h
    split at h
    · simp only [Bool.and_eq_true] at h
      obtain ⟨h1, h2, h3, h4⟩ := h
      exact PS.imp (ps_for g.hp g.g.calm (sndI it _ _ tb X c sc h3 g.g) (g.g.pg (df := true) (fun _ => g.fn) h1) (sndSs a _ h4 g) (fun x => set_of h2 x)) fun D σ H q => g.g.hK ▸ rS.for q
    · cases h
  | .ret a, s, h, g => by
    unfold ckS at h
    split at h
    · exact PS.imp (ps_ret (sndE a _ tb X c sc h g.g).pe) fun D σ H q => rS.ret q
    · cases h
  | .retN, s, h, g => by
    unfold ckS at h
    split at h
    · exact PS.imp ps_retN fun D σ H q => rS.retN q
    · cases h
  | .brk, s, h, g => by
    unfold ckS at h
    split at h
    · exact PS.imp ps_break fun D σ H q => rS.brk q
    · cases h
  | .cnt, s, h, g => by
    unfold ckS at h
    split at h
    · exact PS.imp ps_continue fun D σ H q => rS.cnt q
    · cases h
  | .never, s, h, g => PS.imp ps_never fun D σ H q => by
    obtain ⟨ρ, G, μ, re, rg, p⟩ := q
    exact p
theorem sndSs : ∀ (a : Sms) (s : List Stmt), ckSs Γ N tb sc a s = true → GoodS Γ N C tb X c sc → PSs X s (rS c (exs C a))
  | .nil, s, h, g => by
    have e : s = [] := List.isEmpty_iff.mp (by simpa [ckSs] using h)
    subst e
    exact PSs.imp pss_nil fun D σ H q => rS.nil q
  | .cons a as, [], h, g => by simp [ckSs] at h
  | .cons a as, b :: r, h, g => by
    simp only [ckSs, Bool.and_eq_true] at h
    exact PSs.imp (pss_cons (sndS a b h.1 g) (sndSs as r h.2 g)) fun D σ H q => rS.seq q
end
end
end Cut
/-! Behind a call what nobody reaches is forgotten; every def keeps its promise. -/
namespace Cut
open PySem PySem.Spec PyProof.Rows L2
variable [Tbl]
section
variable {K : PySem.W.Frag} {H H' : Hp} {μ μ' : List Addr} {G G' : Store}
mutual
theorem RD.below : ∀ {d : D} {v : V}, RD K H μ d v → Cut.below μ.length d = true
  | .non, _, _ | .bl _, _, _ | .int _, _, _ | .str _, _, _ | .ty _, _, _ => rfl
  | .tup _, _, ⟨_, _, _, _, r⟩ => by unfold Cut.below; exact RDs.below r
  | .ref _, _, ⟨a, _, m⟩ => by unfold Cut.below; exact decide_eq_true (List.getElem?_eq_some_iff.mp m).1
theorem RDs.below : ∀ {ds : List D} {vs : List V}, RDs K H μ ds vs → Cut.belows μ.length ds = true
  | [], _, _ => rfl
  | _ :: _, _, ⟨_, _, _, r, rs⟩ => by unfold Cut.belows; rw [RD.below r, RDs.below rs]; rfl
end
mutual
theorem RD.cutB (p : μ <+: μ') : ∀ {d : D} {v : V}, Cut.below μ.length d = true → RD K H μ' d v → RD K H μ d v
  | .non, _, _, h | .bl _, _, _, h | .int _, _, _, h | .str _, _, _, h | .ty _, _, _, h => h
  | .tup _, _, b, ⟨a, vs, e, s, r⟩ => ⟨a, vs, e, s, RDs.cutB p (by unfold Cut.below at b; exact b) r⟩
  | .ref n, _, b, ⟨a, e, m⟩ => ⟨a, e, by
    unfold Cut.below at b
    have hb : n < μ.length := of_decide_eq_true b
    have e2 := pre_get p (List.getElem?_eq_getElem hb)
    rw [m] at e2
    rw [List.getElem?_eq_getElem hb]; exact e2.symm⟩
theorem RDs.cutB (p : μ <+: μ') : ∀ {ds : List D} {vs : List V}, Cut.belows μ.length ds = true → RDs K H μ' ds vs → RDs K H μ ds vs
  | [], _, _, h => h
  | _ :: _, _, b, ⟨v, ws, e, r, rs⟩ => by
    unfold Cut.belows at b
    rw [Bool.and_eq_true] at b
    exact ⟨v, ws, e, RD.cutB p b.1 r, RDs.cutB p b.2 rs⟩
end
theorem gcOk_at : ∀ {n : Nat} {l l' : List Cell} {i : Nat} {c : Cell}, gcOk n l l' = true → l[i]? = some c → ∃ c', l'[i]? = some c' ∧ (c = c' ∨ cellBelow n c' = true)
  | _, [], _, _, _, _, h => by simp at h
  | _, _ :: _, [], _, _, h, _ => by simp [gcOk] at h
  | n, c :: cs, c' :: cs', 0, d, h, e => by
    simp only [gcOk, Bool.and_eq_true, Bool.or_eq_true, decide_eq_true_eq] at h
    cases e
    exact ⟨c', rfl, h.1⟩
  | n, c :: cs, c' :: cs', i + 1, d, h, e => by
    simp only [gcOk, Bool.and_eq_true] at h
    exact gcOk_at (i := i) h.2 (by simpa using e)
theorem gcOk_len : ∀ {n : Nat} {l l' : List Cell}, gcOk n l l' = true → l.length ≤ l'.length
  | _, [], _, _ => Nat.zero_le _
  | _, _ :: _, [], h => by simp [gcOk] at h
  | n, c :: cs, c' :: cs', h => by
    simp only [gcOk, Bool.and_eq_true] at h
    exact Nat.succ_le_succ (gcOk_len h.2)
/-- the old cells alone -/
theorem RG.old (g : RG K H μ G) (p : μ <+: μ') (g' : RG K H' μ' G') (hl : G'.lim = G.lim) (ok : gcOk G.cs.length G.cs G'.cs = true) : RG K H' μ { G' with cs := G'.cs.take G.cs.length } where
  tab := g'.tab
  len := by rw [g.len]; show _ = (G'.cs.take _).length; rw [List.length_take, Nat.min_eq_left (gcOk_len ok)]
  nd := fun i j a hi hj h1 h2 => g'.nd i j a hi hj (pre_get p h1) (pre_get p h2)
  lim := by show G'.lim ≤ (G'.cs.take _).length; rw [List.length_take, Nat.min_eq_left (gcOk_len ok), hl]; exact g.lim
  cell := fun n c a h1 h2 => by
    have hn : n < G.cs.length := by rw [← g.len]; exact (List.getElem?_eq_some_iff.mp h2).1
    have h1 : (G'.cs.take G.cs.length)[n]? = some c := h1
    rw [List.getElem?_take_of_lt hn] at h1
    have r := g'.cell n c a h1 (pre_get p h2)
    obtain ⟨c', e1, e2⟩ := gcOk_at ok (List.getElem?_eq_getElem hn)
    rw [h1] at e1
    cases e1
    cases c with
    | lst ds =>
      obtain ⟨vs, rs, f1, f2⟩ := r
      refine ⟨vs, RDs.cutB p ?_ rs, f1, f2⟩
      rcases e2 with e2 | e2
      · have r0 := g.cell n _ a (List.getElem?_eq_getElem hn) h2
        rw [e2] at r0
        obtain ⟨vs0, rs0, _⟩ := r0
        exact rs0.below
      · rw [g.len]; exact e2
    | dic kvs =>
      obtain ⟨f0, ws, ⟨rk1, rk2⟩, hH⟩ := r
      refine ⟨f0, ws, ⟨rk1, RDs.cutB p ?_ rk2⟩, hH⟩
      rcases e2 with e2 | e2
      · have r0 := g.cell n _ a (List.getElem?_eq_getElem hn) h2
        rw [e2] at r0
        obtain ⟨_, ws0, ⟨_, rs0⟩, _⟩ := r0
        exact rs0.below
      · rw [g.len]; exact e2
    | ins _ _ => exact r.elim
/-- .. and one new list -/
theorem RG.old1 (g : RG K H μ G) (p : μ <+: μ') (g' : RG K H' μ' G') (hl : G'.lim = G.lim) (ok : gcOk G.cs.length G.cs G'.cs = true) {m : Nat} {c : Cell} {a : Addr} (hm : G.cs.length ≤ m) (hc : G'.cs[m]? = some c) (hb : cellBelow G.cs.length c = true) (ha : μ'[m]? = some a) :
    RG K H' (μ ++ [a]) { G' with cs := G'.cs.take G.cs.length ++ [c] } where
  tab := g'.tab
  len := by
    have e := (g.old p g' hl ok).len
    show _ = (G'.cs.take _ ++ [c]).length
    rw [List.length_append, List.length_append, e]; rfl
  nd := fun i j b hi hj h1 h2 => by
    have old : ∀ {i : Nat}, (μ ++ [a])[i]? = some b → (μ[i]? = some b ∧ i < μ.length) ∨ (i = μ.length ∧ b = a) := fun {i} h => by
      by_cases hl : i < μ.length
      · rw [List.getElem?_append_left hl] at h
        exact .inl ⟨h, hl⟩
      · have hb := (List.getElem?_eq_some_iff.mp h).1
        rw [List.length_append, List.length_singleton] at hb
        have e : i = μ.length := by omega
        subst e
        rw [List.getElem?_append_right (Nat.le_refl _), Nat.sub_self] at h
        exact .inr ⟨rfl, by simpa using h.symm⟩
    have hi' : G'.lim ≤ i := hi
    have hj' : G'.lim ≤ j := hj
    have hm' : G'.lim ≤ m := by rw [hl]; exact Nat.le_trans g.lim hm
    have gl := g.len
    rcases old h1 with ⟨k1, k2⟩ | ⟨k1, k2⟩ <;> rcases old h2 with ⟨m1, m2⟩ | ⟨m1, m2⟩
    · exact g'.nd i j b hi hj (pre_get p k1) (pre_get p m1)
    · have := g'.nd i m b hi' hm' (pre_get p k1) (by rw [m2]; exact ha)
      omega
    · have := g'.nd m j b hm' hj' (by rw [k2]; exact ha) (pre_get p m1)
      omega
    · rw [k1, m1]
  lim := by
    have h := (g.old p g' hl ok).lim
    show G'.lim ≤ (G'.cs.take _ ++ [c]).length
    rw [List.length_append]; exact Nat.le_trans h (Nat.le_add_right _ _)
  cell := fun n d b h1 h2 => by
    have h1 : (G'.cs.take G.cs.length ++ [c])[n]? = some d := h1
    have o := g.old p g' hl ok
    have ol : μ.length = (G'.cs.take G.cs.length).length := o.len
    by_cases hn : n < μ.length
    · rw [List.getElem?_append_left hn] at h2
      rw [List.getElem?_append_left (by rw [← ol]; exact hn)] at h1
      have r := o.cell n d b h1 h2
      cases d with
      | lst ds =>
        obtain ⟨vs, rs, f1, f2⟩ := r
        exact ⟨vs, rs.mono (.refl _) (List.prefix_append _ _), f1, f2⟩
      | dic _ =>
        obtain ⟨f0, ws, rk, hH⟩ := r
        exact ⟨f0, ws, rk.mono (.refl _) (List.prefix_append _ _), hH⟩
      | ins _ _ => exact r.elim
    · have hb' := (List.getElem?_eq_some_iff.mp h2).1
      rw [List.length_append, List.length_singleton] at hb'
      have e : n = μ.length := by omega
      subst e
      rw [List.getElem?_append_right (Nat.le_refl _), Nat.sub_self] at h2
      rw [List.getElem?_append_right (by rw [← ol]; exact Nat.le_refl _), ← ol, Nat.sub_self] at h1
      cases h1; cases h2
      have r := g'.cell m c a hc ha
      cases c with
      | lst ds =>
        obtain ⟨vs, rs, f1, f2⟩ := r
        have gl := g.len
        have glim := g.lim
        refine ⟨vs, (RDs.cutB p (by rw [g.len]; exact hb) rs).mono (.refl _) (List.prefix_append _ _), fun e => ?_, fun _ => f2 (decide_eq_false (by omega))⟩
        have q : μ.length < G'.lim := of_decide_eq_true e
        omega
      | dic kvs =>
        obtain ⟨f0, ws, ⟨rk1, rk2⟩, hH⟩ := r
        have gl := g.len
        have glim := g.lim
        exact ⟨decide_eq_false (by show ¬ μ.length < G'.lim; omega), ws, ⟨rk1, (RDs.cutB p (by rw [g.len]; exact hb) rk2).mono (.refl _) (List.prefix_append _ _)⟩, hH⟩
      | ins _ _ => exact r.elim
/-- exceptions of ours do not look beyond what they hold -/
def XCut (ξ : XRel) : Prop := ∀ n fs H (μ μ' : List Addr) cls dd, belows μ.length fs = true → μ <+: μ' → ξ n fs H μ' cls dd → ξ n fs H μ cls dd
def ResP (K : PySem.W.Frag) (ξ : XRel) (H : Hp) (μ : List Addr) (Q : VK) (E : XK) (r : R D) : Prop := match r with
  | .ok d G' => Aft K H μ G' fun H' μ' => ∀ v, RD K H' μ' d v → Q v H'
  | .exc k fs G' => Aft K H μ G' fun H' μ' => ∀ cls dd, ξ k fs H' μ' cls dd → E cls dd H'
  | .stuck => False
theorem gc_ok {ξ : XRel} (hξ : XCut ξ) {E : XK} {Q : VK} {r : R D} (g : RG K H μ G) (h : ResP K ξ H μ Q E (gc G r)) : ResP K ξ H μ Q E r := by
  have gl := g.len
  cases r with
  | stuck => exact h
  | ok d G' =>
    simp only [gc] at h
    unfold ResP at h ⊢
    by_cases hk : (decide (G'.lim = G.lim) && gcOk G.cs.length G.cs G'.cs) = true
    · rw [if_pos hk] at h
      simp only [Bool.and_eq_true, decide_eq_true_eq] at hk
      by_cases hb : Cut.below G.cs.length d = true
      · rw [if_pos hb] at h
        intro H' μ' x p g' v rv
        exact h H' μ x (List.prefix_refl _) (g.old p g' hk.1 hk.2) v (RD.cutB p (by rw [gl]; exact hb) rv)
      · rw [if_neg hb] at h
        cases d with
        | ref m =>
          simp only at h
          cases hc : G'.cs[m]? with
          | none => rw [hc] at h; exact h
          | some c =>
            rw [hc] at h
            simp only at h
            by_cases hm : G.cs.length ≤ m ∧ cellBelow G.cs.length c = true
            · rw [if_pos hm] at h
              rintro H' μ' x p g' v ⟨a, rfl, ha⟩
              exact h H' (μ ++ [a]) x (List.prefix_append _ _) (g.old1 p g' hk.1 hk.2 hm.1 hc hm.2 ha) _ ⟨a, rfl, by rw [← gl, List.getElem?_append_right (Nat.le_refl _), Nat.sub_self]; rfl⟩
            · rw [if_neg hm] at h; exact h
        | _ => exact h
    · rw [if_neg hk] at h; exact h
  | exc k fs G' =>
    simp only [gc] at h
    unfold ResP at h ⊢
    by_cases hk : (decide (G'.lim = G.lim) && gcOk G.cs.length G.cs G'.cs && belows G.cs.length fs) = true
    · rw [if_pos hk] at h
      simp only [Bool.and_eq_true, decide_eq_true_eq] at hk
      intro H' μ' x p g' cls dd hx
      exact h H' μ x (List.prefix_refl _) (g.old p g' hk.1.1 hk.1.2) cls dd (hξ k fs H' μ μ' cls dd (by rw [gl]; exact hk.2) p hx)
    · rw [if_neg hk] at h; exact h
end
end Cut
/-! Every def of a program keeps its promise: what run tells. -/
namespace Cut
open PySem PySem.Spec PyProof.Rows L2
variable [Tbl]
/-- a def of the text: its name, its statement, the slots (parameters first), our text of its body -/
structure Df where
  name : Str
  st : Stmt
  N : List Str
  np : Nat
  tb : Bool
  body : Sms
  dfl : List Int := []
def Df.fd (d : Df) : Fd := ⟨d.np, d.N.length, d.body⟩
def Df.ps (d : Df) : List Str := d.N.take d.np
/-- the look at one def -/
def Df.ck (Γ : Gx) (d : Df) : Bool :=
  decide ((defScope d.st).kind = .function) && (!(defScope d.st).isCoroutine && (!(defScope d.st).isGenerator && (decide d.N.Nodup && (decide (d.np ≤ d.N.length) && ((d.ps.all fun x => decide ((defScope d.st).names.lookup x = some .local) || decide ((defScope d.st).names.lookup x = some .cell)) &&
    (((defScope d.st).names.all fun y => !(y.2 == .free)) && ckSs Γ d.N d.tb (defScope d.st) d.body (defBody d.st)))))))
theorem Df.scope {Γ : Gx} {d : Df} (h : d.ck Γ = true) : FnScope d.N d.ps (defScope d.st) ∧ ckSs Γ d.N d.tb (defScope d.st) d.body (defBody d.st) = true ∧ d.ps.length = d.np := by
  unfold Df.ck at h
  simp only [Bool.and_eq_true, Bool.or_eq_true, Bool.not_eq_true', decide_eq_true_eq, List.all_eq_true] at h
  obtain ⟨h1, h2, h3, h4, h5, h6, h7, h8⟩ := h
  have hl : d.ps.length = d.np := by unfold Df.ps; rw [List.length_take, Nat.min_eq_left h5]
  refine ⟨⟨h1, h2, h3, h4, by rw [hl]; rfl, h6, fun y hy e => ?_⟩, h8, hl⟩
  have := h7 y hy
  rw [e] at this; cases this
/-- FunD.ok, the code object known -/
theorem okC {P : Program} {w : World} {K : PySem.W.Frag} {mg : Str → Option Value} {base : Heap} {x qual : Str} {params : Arguments} {body : List Stmt} {scope : Scope} {dvs : List V} {kws : List (Str × V)} {f : Addr} {fd : FuncData} {CX : CXT} {N ps : List Str} {k : Nat} {sp : Sp}
    (F : FunD K x qual params body scope dvs kws f fd) (S : FnScope N ps scope) (len : ∀ vs H Q E, sp vs H Q E → vs.length = ps.length)
    (hbody : ∀ (A : Around) (outer : List PySem.Env) (s : Shared) (H : Hp) (vs : List V) (Q : VK) (E : XK), Room k (A.deeper (envOfC qual scope s.heap.objs.size f fd.code)) → sp vs H Q E →
      ∃ t, PSs (cxOf CX P w K mg base N qual scope f fd.code A outer s H E) body t ∧ t { nx := fun _ H' => Q .non H', rt := Q } (L2.start N vs) H) : FnOk P w K mg base CX (k + 1) f fd ps sp := by
  obtain ⟨oc, od, dV, kV, doc, pm, an, cdv, ct, osl, rfl, lk, hcd, _, _⟩ := F.ex
  exact fn_of lk hcd S len hbody
/-- a def as it stands behind the top -/
structure DfOk (K : PySem.W.Frag) (mg : Str → Option Value) (base : Heap) (d : Df) (fa : Addr) (fd : FuncData) : Prop where
  gl : mg d.name = some (.ref fa)
  fn : FunD K d.name d.name (defArgs d.st) (defBody d.st) (defScope d.st) (d.dfl.map V.int) [] fa fd
  bi : ∀ j, j ≤ d.dfl.length → ∃ us, Vals ((d.dfl.drop j).map V.int) us ∧ Binds K fd d.ps us
  tab : d.tb = true → ∃ c P, fd.code = .ref c ∧ GxR.TabB base mg c P ∧ P ∈ Tbl.ps
theorem finish_post {c : Ct} {H : Hp} {μ : List Addr} {Q : VK} {E : XK} (hW : c.W = fun cls d _ H' => E cls d H') {r : RS} (h : ResP c.K c.ξ H μ Q E (finish r)) : PostS c { nx := fun _ H' => Q .non H', rt := Q } H μ r := by
  cases r with
  | nx ρ G' => exact fun H' μ' x p g σ _ => h H' μ' x p g .non rfl
  | rt d G' => exact h
  | bk ρ G' => exact h.elim
  | ct ρ G' => exact h.elim
  | exc k fs ρ G' => exact fun H' μ' x p g σ cls dd _ hx => by rw [hW]; exact h H' μ' x p g cls dd hx
  | stuck => exact h.elim
theorem prog_ok {P : Program} {w : World} {K : PySem.W.Frag} {mg : Str → Option Value} {base : Heap} {ξ : XRel} (hξ : XCut ξ) {Γ : Gx} {Ds : List Df}
    (hcon : ∀ x d, Γ.con.lookup x = some d → ∃ v u, mg x = some u ∧ RelV v u ∧ (∀ H μ, RD K H μ d v) ∧ ∀ xs, d = .tup xs → ∀ H, tyV K "tuple" v H) (hblt : ∀ x ∈ bltNames, mg x = none)
    (hΓ : ∀ x n, Γ.fns.lookup x = some n → ∃ d, Ds[n]? = some d ∧ d.name = x ∧ Γ.dflOf x = d.dfl) (hck : ∀ d ∈ Ds, d.ck Γ = true) (hD : ∀ d ∈ Ds, ∃ fa fd, DfOk K mg base d fa fd) :
    ∀ (k n : Nat) (d : Df) (fa : Addr) (fd : FuncData), Ds[n]? = some d → DfOk K mg base d fa fd → FnOk P w K mg base (L2.CX P w) (2 * k) fa fd d.ps (spR K ξ d.ps.length (run (Ds.map Df.fd) k n)) := by
  intro k
  induction k with
  | zero =>
    intro n d fa fd hn hd
    refine ⟨fun vs H Q E h => h.1, fun A outer s H args us vs Q E _ _ _ _ h => ?_⟩
    obtain ⟨_, ds, G, μ, _, _, h⟩ := h
    exact h.elim
  | succ k ih =>
    intro n d fa fd hn hd
    obtain ⟨S, ck, hl⟩ := Df.scope (hck d (List.mem_of_getElem? hn))
    refine okC (k := 2 * k + 1) hd.fn S (fun vs H Q E h => h.1) fun A outer s H vs Q E hr hsp => ?_
    refine ⟨rS ⟨K, ξ, fun cls d _ H' => E cls d H'⟩ (exs (run (Ds.map Df.fd) k) d.body), ?_, ?_⟩
    · refine sndSs (Γ := Γ) (N := d.N) (tb := d.tb) (sc := defScope d.st) d.body (defBody d.st) ck ⟨⟨rfl, rfl, S.nd, rfl, rfl, ?_, ?_, hcon, hblt, fun x m hx => ?_, fun htb => ?_⟩, fun _ => rfl, ?_, S.kind⟩
      · have := hr.un
        show (A.deeper _).units + 65 + _ < cLine
        split <;> omega
      · exact takes_of rfl rfl rfl rfl
      · obtain ⟨d', hn', rfl, hdf⟩ := hΓ x m hx
        obtain ⟨fa', fd', hd'⟩ := hD d' (List.mem_of_getElem? hn')
        refine ⟨fa', fd', d'.ps, 2 * k, hd'.gl, hd'.fn.kp, ih m d' fa' fd' hn' hd', hr.mono (by split <;> omega), by rw [hdf]; exact hd'.bi, fun ds G hne => ?_⟩
        cases k with
        | zero => rfl
        | succ k =>
          have hl' := (Df.scope (hck d' (List.mem_of_getElem? hn'))).2.2
          have e : (Ds.map Df.fd)[m]? = some d'.fd := by rw [List.getElem?_map, hn']; rfl
          unfold run
          rw [e]
          exact if_neg (fun z => hne (z.trans hl'.symm))
      · obtain ⟨c, P', h1, h2, h3⟩ := hd.tab htb
        exact ⟨c, P', h2, h1, h3, hr.mono (Nat.zero_le _)⟩
      · exact passes_of (K := fun e s'' => L2.CX P w outer H s E e s'') rfl
    · obtain ⟨hlen, ds, G, μ, rg, rds, h⟩ := hsp
      have e : (Ds.map Df.fd)[n]? = some d.fd := by rw [List.getElem?_map, hn]; rfl
      unfold run at h
      rw [e] at h
      have hl2 : ds.length = d.fd.ps := by rw [← rds.len, hlen, hl]; rfl
      simp only [if_pos hl2] at h
      exact ⟨_, G, μ, RE.start rds d.N, rg, finish_post (c := ⟨K, ξ, fun cls d _ H' => E cls d H'⟩) (E := E) rfl (gc_ok (E := E) (Q := Q) hξ rg h)⟩
end Cut
/-! The end of a law: what the head tells, and the evaluator's answer. -/
namespace Cut
open PySem PySem.Spec PyProof.Rows L2
/-- how a def of plain parameters binds -/
def Bnd (d : Df) : Prop := ∀ (kV doc pm : Value) (an : Option Addr) (cdv ct : Value) (us : List Value), us.length = d.ps.length → bindArgs (PySem.W.fnOf d.name d.name (defArgs d.st) (defBody d.st) (defScope d.st) .none kV doc pm an cdv ct) ⟨us, []⟩ = pure (d.ps.zip us)
/-- .. with defaults: j of them are written, too -/
def BndD (d : Df) : Prop := d.dfl ≠ [] ∧ d.np = d.ps.length ∧ d.dfl.length ≤ d.np ∧ ∀ j, j ≤ d.dfl.length → ∀ (T : Addr) (kV doc pm : Value) (an : Option Addr) (cdv ct : Value) (us its : List Value), us.length = d.np - d.dfl.length + j → its.length = d.dfl.length →
  ∃ k, bindArgs (PySem.W.fnOf d.name d.name (defArgs d.st) (defBody d.st) (defScope d.st) (.ref T) kV doc pm an cdv ct) ⟨us, []⟩ = seqItems? (.ref T) >>= k ∧ k (some its.toArray) = pure (d.ps.zip (us ++ its.drop j))
def BndA (d : Df) : Prop := (d.dfl = [] ∧ Bnd d) ∨ BndD d
def Df.he (d : Df) : He.DefD := ⟨(d.name, none), d.name, d.name, defArgs d.st, defBody d.st, defScope d.st, d.dfl.map He.Dv.int, []⟩
theorem dfl_v {K : PySem.W.Frag} : ∀ ns : List Int, (ns.map He.Dv.int).map (He.Dv.v K) = ns.map V.int
  | [] => rfl
  | n :: ns => by show V.int n :: _ = V.int n :: _; rw [dfl_v ns]
/-- a constant of the module -/
def conFa : Str × D → List He.Fa
  | (x, .int i) => [.int x i]
  | (x, .str s) => [.str x ⟨s.toArray⟩]
  | (x, .tup _) => [.glo x]
  | _ => []
/-- an item of a tuple of the module -/
def dvOf : D → Option He.Dv
  | .non => some .non
  | .bl b => some (.bl b)
  | .int i => some (.int i)
  | .str s => some (.str ⟨s.toArray⟩)
  | _ => none
def conFlat : Str × D → Bool
  | (_, .int _) | (_, .str _) => true
  | (_, .tup xs) => xs.all fun x => (dvOf x).isSome
  | _ => false
/-- no dict hangs on it -/
def bareB (K : PySem.W.Frag) (x : Str) : Bool := match K.lookup (He.ga K x) with
  | some o => decide (o.cls = .type "tuple") && o.dict.isNone
  | none => false
theorem bareB_ok {K : PySem.W.Frag} {x : Str} (h : bareB K x = true) (H : Hp) : tyV K "tuple" (.ref (He.ga K x)) H := by
  unfold bareB at h
  split at h
  · rename_i o e
    rw [Bool.and_eq_true] at h
    exact .inr (.inl ⟨rfl, o, e, of_decide_eq_true h.1, Option.isNone_iff_eq_none.mp h.2⟩)
  · cases h
def conEx1 (K : PySem.W.Frag) : Str × D → Bool
  | (x, .tup xs) => He.tupB K x (xs.filterMap dvOf) && bareB K x
  | _ => true
def conEx (Γ : Gx) (K : PySem.W.Frag) : Bool := Γ.con.all (conEx1 K)
theorem rds_dv {K : PySem.W.Frag} {H : Hp} {μ : List Addr} : ∀ {xs : List D}, xs.all (fun x => (dvOf x).isSome) = true → RDs K H μ xs ((xs.filterMap dvOf).map (He.Dv.v K))
  | [], _ => rfl
  | x :: xs, h => by
    rw [List.all_cons, Bool.and_eq_true] at h
    have ih := rds_dv (K := K) (H := H) (μ := μ) h.2
    cases x <;> first | (cases h.1; done) | exact ⟨_, _, rfl, rfl, ih⟩
def facts (Γ : Gx) (Ds : List Df) : List He.Fa := Ds.map (fun d => .glo d.name) ++ (bltNames.map .free ++ Γ.con.flatMap conFa)
def tabDefs (Ds : List Df) : List He.Defn := (Ds.filter (·.tb)).map fun d => (d.name, none)
/-- the head's hook -/
abbrev hook (m : Nat) (Γ : Gx) (Ds : List Df) : PySem.W.Hook := He.hookX m (facts Γ Ds) (Ds.map Df.he) [] (tabDefs Ds) (conEx Γ)
/-- what the evaluator is to answer -/
def Answers (Ds : List Df) (k n most : Nat) : Prop := ∀ (ns : List Int), ns.length ≤ most → (∀ z ∈ ns, Builtin.Int.intBits z ≤ 1048576) → ∀ l, l ≤ 1 → ∃ G, run (Ds.map Df.fd) k n [.ref 0] ⟨l, [.lst (ns.map D.int)]⟩ = .ok (.bl true) G
theorem rds_ints {K : PySem.W.Frag} {H : Hp} {μ : List Addr} : ∀ ns : List Int, RDs K H μ (ns.map D.int) (ns.map V.int)
  | [] => rfl
  | n :: ns => ⟨_, _, rfl, rfl, rds_ints ns⟩
def fnsB (Γ : Gx) (Ds : List Df) : Bool := Γ.fns.all fun p => match Ds[p.2]? with
  | some d => decide (d.name = p.1) && decide (Γ.dflOf p.1 = d.dfl)
  | none => false
theorem fns_of {Γ : Gx} {Ds : List Df} (h : fnsB Γ Ds = true) (x : Str) (n : Nat) (e : Γ.fns.lookup x = some n) : ∃ d, Ds[n]? = some d ∧ d.name = x ∧ Γ.dflOf x = d.dfl := by
  have := List.all_eq_true.mp h _ (PySem.mem_of_lookup e)
  cases hd : Ds[n]? with
  | none => simp only [hd] at this; cases this
  | some d => simp only [hd, Bool.and_eq_true, decide_eq_true_eq] at this; exact ⟨d, rfl, this.1, this.2⟩
theorem law_at {l : PySem.W.OpenLaw} {w : World} {Γ : Gx} {Ds : List Df} {k nl most : Nat} {dl : Df} {mg : Str → Option Value} {h : Heap} {fa : Addr} {K : PySem.W.Frag} (X : K.In h) (G : h.Ns mainGlobals mg)
    (c : He.SaysX (facts Γ Ds) (Ds.map Df.he) [] (tabDefs Ds) (conEx Γ) w h K) (hfa : mg dl.name = some (.ref fa)) (hdl : Ds[nl]? = some dl) (hps : dl.ps = [("_law_script" : Str)])
    (hflat : Γ.con.all conFlat = true) (hΓ : ∀ x n, Γ.fns.lookup x = some n → ∃ d, Ds[n]? = some d ∧ d.name = x ∧ Γ.dflOf x = d.dfl) (hck : ∀ d ∈ Ds, d.ck Γ = true) (hdl0 : dl.dfl = []) (hb : ∀ d ∈ Ds, BndA d) (ans : Answers Ds k nl most) :
    LamX.LawAtS l w K (L2.CX l.prog w) (2 * k) most "_law_script" mg fa h := by
  have cD := c.t.d
  have fact : ∀ f ∈ facts Γ Ds, f.ok K = true := fun f hf => cD.facts hf
  have glo : ∀ d ∈ Ds, mg d.name = some (.ref (He.ga K d.name)) := fun d hd => He.glo_ok X G (fact _ (List.mem_append_left _ (List.mem_map.mpr ⟨d, hd, rfl⟩)))
  have def_ : ∀ d ∈ Ds, ∃ fd, FunD K d.name d.name (defArgs d.st) (defBody d.st) (defScope d.st) (d.dfl.map V.int) [] (He.ga K d.name) fd := fun d hd => by
    obtain ⟨fd, F⟩ := cD.defs (d := d.he) (List.mem_map.mpr ⟨d, hd, rfl⟩)
    have F : FunD K d.name d.name (defArgs d.st) (defBody d.st) (defScope d.st) ((d.dfl.map He.Dv.int).map (He.Dv.v K)) [] (He.ga K d.name) fd := F
    rw [dfl_v] at F
    exact ⟨fd, F⟩
  have blt : ∀ x ∈ bltNames, mg x = none := fun x hx => He.free_ok X G (fact _ (List.mem_append_right _ (List.mem_append_left _ (List.mem_map.mpr ⟨x, hx, rfl⟩))))
  have con : ∀ x d, Γ.con.lookup x = some d → ∃ v u, mg x = some u ∧ RelV v u ∧ (∀ H μ, RD K H μ d v) ∧ ∀ xs, d = .tup xs → ∀ H, tyV K "tuple" v H := fun x d hx => by
    have hm := PySem.mem_of_lookup hx
    have hf := List.all_eq_true.mp hflat _ hm
    have hfa : ∀ f ∈ conFa (x, d), f.ok K = true := fun f hf => fact _ (List.mem_append_right _ (List.mem_append_right _ (List.mem_flatMap.mpr ⟨_, hm, hf⟩)))
    cases d <;> try (cases hf; done)
    case int i =>
      obtain ⟨t, e⟩ := He.int_ok X G (hfa _ (List.mem_singleton.mpr rfl))
      exact ⟨.int i, _, e, ⟨t, rfl⟩, fun _ _ => rfl, fun _ e => nomatch e⟩
    case str s =>
      obtain ⟨t, e⟩ := He.str_ok X G (hfa _ (List.mem_singleton.mpr rfl))
      exact ⟨.str ⟨s.toArray⟩, _, e, ⟨t, rfl⟩, fun _ _ => rfl, fun _ e => nomatch e⟩
    case tup xs =>
      have e := He.glo_ok X G (hfa _ (List.mem_singleton.mpr rfl))
      have hx := List.all_eq_true.mp c.more _ hm
      have hx : (He.tupB K x (xs.filterMap dvOf) && bareB K x) = true := hx
      rw [Bool.and_eq_true] at hx
      exact ⟨.ref (He.ga K x), _, e, rfl, fun H μ => ⟨_, _, rfl, He.tupB_ok hx.1 H, rds_dv hf⟩, fun _ _ H => bareB_ok hx.2 H⟩
  obtain ⟨fd, F⟩ := def_ dl (List.mem_of_getElem? hdl)
  have efa : fa = He.ga K dl.name := by
    have := hfa.symm.trans (glo dl (List.mem_of_getElem? hdl))
    cases this; rfl
  subst efa
  have memT : ∀ d ∈ Ds, d.tb = true → (d.name, (none : Option Str)) ∈ tabDefs Ds := fun d hd ht => List.mem_map.mpr ⟨d, List.mem_filter.mpr ⟨hd, ht⟩, rfl⟩
  letI : Tbl := ⟨((tabDefs Ds).map (He.cT K)).map (·.2)⟩
  refine ⟨fd, (tabDefs Ds).map (He.cT K), spR K (fun _ _ _ _ _ _ => False) dl.ps.length (run (Ds.map Df.fd) k nl), fun p hp => ?_, fun p hp => ?_, fun p hp => ?_, ?_, ?_, ?_⟩
  · obtain ⟨q, hq, rfl⟩ := List.mem_map.mp hp
    exact c.empty q hq
  · obtain ⟨q, hq, rfl⟩ := List.mem_map.mp hp
    exact c.out q hq
  · obtain ⟨q, hq, rfl⟩ := List.mem_map.mp hp
    exact PySem.W.codeHd_of_K X (c.hd q hq)
  · intro s u
    have hbl : Bnd dl := by
      rcases hb dl (List.mem_of_getElem? hdl) with h | h
      · exact h.2
      · exact absurd hdl0 h.1
    have F' := F
    rw [hdl0] at F'
    have q := FunD.bindsA (ps := dl.ps) F' hbl s [u] (by rw [hps]; rfl)
    rw [hps] at q
    exact q
  · intro H a ns hl hbits hT hS
    have tab : ∀ P ∈ Tbl.ps, GxR.TabG H P := fun P hP => by
      obtain ⟨p, hp, rfl⟩ := List.mem_map.mp hP
      exact ⟨#[], hT p hp, trivial⟩
    have fin : ∀ l, l ≤ 1 → RG K H [a] ⟨l, [.lst (ns.map D.int)]⟩ → spR K (fun _ _ _ _ _ _ => False) dl.ps.length (run (Ds.map Df.fd) k nl) [.ref a] H (fun v _ => v = .bl true) fun _ _ _ => False := fun l hl1 rg => by
      obtain ⟨G', e⟩ := ans ns hl hbits l hl1
      refine ⟨by rw [hps]; rfl, [.ref 0], _, [a], rg, .one ⟨a, rfl, rfl⟩, ?_⟩
      rw [e]
      exact fun H' μ' x p g v rv => rv
    rcases hS with (hS | ⟨o, hS⟩) | hS
    · refine fin 0 (by omega) ⟨rfl, fun i j b _ _ h1 h2 => ?_, Nat.zero_le _, fun n c b h1 h2 => ?_, tab⟩
      · have e1 := (List.getElem?_eq_some_iff.mp h1).1
        have e2 := (List.getElem?_eq_some_iff.mp h2).1
        simp only [List.length_singleton] at e1 e2
        omega
      · cases n with
        | zero =>
          cases h1; cases h2
          exact ⟨_, rds_ints ns, fun z => (by simp at z), fun _ => hS⟩
        | succ n => simp at h1
    · refine fin 1 (Nat.le_refl _) ⟨rfl, fun i j b hi hj h1 h2 => ?_, Nat.le_refl _, fun n c b h1 h2 => ?_, tab⟩
      · have e1 := (List.getElem?_eq_some_iff.mp h1).1
        simp only [List.length_singleton] at e1
        have hi : 1 ≤ i := hi
        omega
      · cases n with
        | zero =>
          cases h1; cases h2
          exact ⟨_, rds_ints ns, fun _ => .inl ⟨o, hS⟩, fun z => (by simp at z)⟩
        | succ n => simp at h1
    · refine fin 1 (Nat.le_refl _) ⟨rfl, fun i j b hi hj h1 h2 => ?_, Nat.le_refl _, fun n c b h1 h2 => ?_, tab⟩
      · have e1 := (List.getElem?_eq_some_iff.mp h1).1
        simp only [List.length_singleton] at e1
        have hi : 1 ≤ i := hi
        omega
      · cases n with
        | zero =>
          cases h1; cases h2
          exact ⟨_, rds_ints ns, fun _ => .inr hS, fun z => (by simp at z)⟩
        | succ n => simp at h1
  · intro base KB NB TB
    have ok : ∀ d ∈ Ds, ∀ fd, FunD K d.name d.name (defArgs d.st) (defBody d.st) (defScope d.st) (d.dfl.map V.int) [] (He.ga K d.name) fd → DfOk K mg base d (He.ga K d.name) fd := fun d hd fd F => by
      refine ⟨glo d hd, F, fun j hj => ?_, fun ht => ?_⟩
      · rcases hb d hd with ⟨h0, h⟩ | ⟨h0, hnp, hle, h⟩
        · have F' := F
          rw [h0] at F' ⊢
          exact ⟨[], by simp only [List.drop_nil, List.map_nil]; exact .nil, F'.bindsN h⟩
        · obtain ⟨us, v, b⟩ := F.binds1 (ps := d.ps) (d.np - d.dfl.length + j) j (by simpa using h0) (by rw [List.length_map, ← hnp]; omega) fun T kV doc pm an cdv ct us its h1 h2 => h j hj T kV doc pm an cdv ct us its h1 (by rw [h2, List.length_map])
          exact ⟨us, by rw [List.map_drop]; exact v, b⟩
      have hm := memT d hd ht
      have hp : He.cT K (d.name, none) ∈ (tabDefs Ds).map (He.cT K) := List.mem_map.mpr ⟨_, hm, rfl⟩
      obtain ⟨t1, t2, t3⟩ := TB _ hp
      refine ⟨(He.cT K (d.name, none)).1, (He.cT K (d.name, none)).2, ?_, ⟨t1, t2, t3⟩, List.mem_map.mpr ⟨_, hp, rfl⟩⟩
      obtain ⟨oc, od, dV, kV, doc, pm, an, cdv, ct, osl, rfl, lk, hcd, _, _⟩ := F.ex
      obtain ⟨cc, rfl⟩ := He.codeIn_ref hcd
      have := He.codeOf_eq (p := (d.name, none)) lk rfl
      show Value.ref cc = .ref (He.codeOf K (d.name, none))
      rw [this]
    have := prog_ok (P := l.prog) (w := w) (K := K) (mg := mg) (base := base) (ξ := fun _ _ _ _ _ _ => False) (fun _ _ _ _ _ _ _ _ _ h => h) con blt hΓ hck (fun d hd => by
      obtain ⟨fd', F'⟩ := def_ d hd
      exact ⟨_, fd', ok d hd fd' F'⟩) k nl dl _ fd hdl (ok dl (List.mem_of_getElem? hdl) fd F)
    rw [hps] at this ⊢
    exact this
end Cut
/-! Reasoning about the evaluator: what holds of the answer. -/
namespace Cut
open PySem
/-- the answer is a value, and P of it -/
def wp {α : Type} (r : R α) (P : α → Store → Prop) : Prop := match r with
  | .ok a G => P a G
  | _ => False
structure Po where
  nx : Env → Store → Prop
  rt : D → Store → Prop
  bk : Env → Store → Prop
  ct : Env → Store → Prop
def wps (r : RS) (D : Po) : Prop := match r with
  | .nx ρ G => D.nx ρ G
  | .rt d G => D.rt d G
  | .bk ρ G => D.bk ρ G
  | .ct ρ G => D.ct ρ G
  | _ => False
/-- by a test's answer -/
def tb (o : Option Bool) (A B : Prop) : Prop := match o with
  | some true => A
  | some false => B
  | none => False
theorem tb_dec {p : Prop} [Decidable p] {A B : Prop} : tb (some (decide p)) A B = (if p then A else B) := by
  by_cases h : p <;> simp [tb, h]
theorem tb_some {b : Bool} {A B : Prop} : tb (some b) A B = (if b = true then A else B) := by cases b <;> rfl
theorem tb_not {p : Prop} [Decidable p] {A B : Prop} : tb (some (!decide p)) A B = (if p then B else A) := by
  by_cases h : p <;> simp [tb, h]
/-- by an answer that is to be a bool -/
def zb (z : D) (A B : Prop) : Prop := match z with
  | .bl b => tb (some b) A B
  | _ => False
theorem zb_bl {b : Bool} {A B : Prop} : zb (.bl b) A B = tb (some b) A B := rfl
theorem tb_true {A B : Prop} : tb (some true) A B = A := rfl
theorem tb_false {A B : Prop} : tb (some false) A B = B := rfl
section
variable {α β : Type} {r : R α} {P : α → Store → Prop} {ρ : Env} {G : Store} {C : CallF}
theorem wp_iff : wp r P ↔ ∃ a G, r = .ok a G ∧ P a G := by
  cases r with
  | ok a G => exact ⟨fun h => ⟨a, G, rfl, h⟩, fun ⟨_, _, e, h⟩ => by cases e; exact h⟩
  | _ => exact ⟨fun h => h.elim, fun ⟨_, _, e, _⟩ => nomatch e⟩
theorem wp.imp {P' : α → Store → Prop} (h : wp r P) (k : ∀ a G, P a G → P' a G) : wp r P' := by
  cases r with
  | ok a G => exact k a G h
  | _ => exact h
theorem wps.imp {r : RS} {D D' : Po} (h : wps r D) (h1 : ∀ ρ G, D.nx ρ G → D'.nx ρ G) (h2 : ∀ d G, D.rt d G → D'.rt d G) (h3 : ∀ ρ G, D.bk ρ G → D'.bk ρ G) (h4 : ∀ ρ G, D.ct ρ G → D'.ct ρ G) : wps r D' := by
  cases r with
  | nx ρ G => exact h1 ρ G h
  | rt d G => exact h2 d G h
  | bk ρ G => exact h3 ρ G h
  | ct ρ G => exact h4 ρ G h
  | _ => exact h
theorem wp_ok (a : α) (G : Store) : wp (.ok a G) P = P a G := rfl
theorem wp_stuck : wp (.stuck : R α) P = False := rfl
theorem wp_bind {f : α → Store → R β} {P : β → Store → Prop} : wp (r.bind f) P = wp r fun a G => wp (f a G) P := by cases r <;> rfl
theorem wp_noExc : wp (noExc r) P = wp r P := by cases r <;> rfl
theorem wp_ite {c : Prop} [Decidable c] {a b : R α} : wp (if c then a else b) P = (if c then wp a P else wp b P) := by split <;> rfl
theorem wp_of_eq {a : α} {G : Store} (e : r = .ok a G) (h : P a G) : wp r P := by rw [e]; exact h
/-! expressions -/
section
variable {P : D → Store → Prop}
theorem w_k {d : D} : wp (ev C (.k d) ρ G) P = P d G := rfl
theorem w_v {i : Nat} : wp (ev C (.v i) ρ G) P = (match ρ[i]? with
  | some (some d) => P d G
  | _ => False) := by
  show wp (mV i ρ G) P = _
  unfold mV
  rcases ρ[i]? with _ | (_ | _) <;> rfl
theorem w_un {o : Op1} {a : Ex} : wp (ev C (.un o a) ρ G) P = wp (ev C a ρ G) fun x G1 => wp (op1 o x G1) P := by
  show wp (mUn o (ev C a) ρ G) P = _
  unfold mUn; simp only [wp_bind, wp_noExc]
theorem w_bin {o : Op2} {a b : Ex} : wp (ev C (.bin o a b) ρ G) P = wp (ev C a ρ G) fun x G1 => wp (ev C b ρ G1) fun y G2 => wp (op2 o x y G2) P := by
  show wp (mBin o (ev C a) (ev C b) ρ G) P = _
  unfold mBin; simp only [wp_bind, wp_noExc]
theorem w_and {a b : Ex} : wp (ev C (.and a b) ρ G) P = wp (ev C a ρ G) fun x G1 => tb (truthy x G1) (wp (ev C b ρ G1) P) (P x G1) := by
  show wp (mAnd (ev C a) (ev C b) ρ G) P = _
  unfold mAnd; rw [wp_bind]; congr; funext x G1; rcases truthy x G1 with _ | (_ | _) <;> rfl
theorem w_or {a b : Ex} : wp (ev C (.or a b) ρ G) P = wp (ev C a ρ G) fun x G1 => tb (truthy x G1) (P x G1) (wp (ev C b ρ G1) P) := by
  show wp (mOr (ev C a) (ev C b) ρ G) P = _
  unfold mOr; rw [wp_bind]; congr; funext x G1; rcases truthy x G1 with _ | (_ | _) <;> rfl
theorem w_ite {c a b : Ex} : wp (ev C (.ite c a b) ρ G) P = wp (ev C c ρ G) fun x G1 => tb (truthy x G1) (wp (ev C a ρ G1) P) (wp (ev C b ρ G1) P) := by
  show wp (mIte (ev C c) (ev C a) (ev C b) ρ G) P = _
  unfold mIte; rw [wp_bind]; congr; funext x G1; rcases truthy x G1 with _ | (_ | _) <;> rfl
theorem w_chain {o p : Op2} {a b c : Ex} : wp (ev C (.chain o p a b c) ρ G) P = wp (ev C a ρ G) fun x G1 => wp (ev C b ρ G1) fun y G2 => wp (op2 o x y G2) fun z G3 => zb z (wp (ev C c ρ G3) fun w G4 => wp (op2 p y w G4) P) (P (.bl false) G3) := by
  show wp (mChain o p (ev C a) (ev C b) (ev C c) ρ G) P = _
  unfold mChain
  simp only [wp_bind, wp_noExc]
  congr; funext x G1; congr; funext y G2; congr; funext z G3
  cases z <;> try rfl
  case bl b => cases b <;> first | rfl | (simp only [wp_bind, wp_noExc]; rfl)
theorem w_tup {es : Exs} : wp (ev C (.tup es) ρ G) P = wp (evs C es ρ G) fun xs G1 => xs.length ≤ sizeLine ∧ P (.tup xs) G1 := by
  show wp (mTup (evs C es) ρ G) P = _
  unfold mTup; rw [wp_bind]; congr; funext xs G1
  by_cases h : xs.length ≤ sizeLine <;> simp [h, wp]
theorem wp_newL {xs : List D} : wp (newL xs G) P = (xs.length ≤ sizeLine ∧ P (.ref G.cs.length) (G.new (.lst xs))) := by
  unfold newL
  by_cases h : xs.length ≤ sizeLine <;> simp [h, wp]
theorem w_lst {es : Exs} : wp (ev C (.lst es) ρ G) P = wp (evs C es ρ G) fun xs G1 => xs.length ≤ sizeLine ∧ P (.ref G1.cs.length) (G1.new (.lst xs)) := by
  show wp (mLst (evs C es) ρ G) P = _
  unfold mLst; simp only [wp_bind, wp_newL]
theorem w_dic0 : wp (ev C .dic0 ρ G) P = P (.ref G.cs.length) (G.new (.dic [])) := rfl
theorem w_sl {a : Ex} {lo hi : Exo} : wp (ev C (.sl a lo hi) ρ G) P = wp (ev C a ρ G) fun x G1 => wp (evo C lo ρ G1) fun l G2 => wp (evo C hi ρ G2) fun h G3 => wp (opSl x l h G3) P := by
  show wp (mSl (ev C a) (evo C lo) (evo C hi) ρ G) P = _
  unfold mSl; simp only [wp_bind, wp_noExc]
theorem w_rev {a : Ex} : wp (ev C (.rev a) ρ G) P = wp (ev C a ρ G) fun x G1 => wp (opRev x G1) P := by
  show wp (mRev (ev C a) ρ G) P = _
  unfold mRev; simp only [wp_bind, wp_noExc]
theorem w_call {n : Nat} {es : Exs} : wp (ev C (.call n es) ρ G) P = wp (evs C es ρ G) fun xs G1 => wp (C n xs G1) P := by
  show wp (mArgs (C n) (evs C es) ρ G) P = _
  unfold mArgs; simp only [wp_bind]
theorem w_callD {n : Nat} {es : Exs} {ds : List Int} : wp (ev C (.callD n es ds) ρ G) P = wp (evs C es ρ G) fun xs G1 => wp (C n (xs ++ ds.map .int) G1) P := by
  show wp (mArgs _ (evs C es) ρ G) P = _
  unfold mArgs; simp only [wp_bind]
theorem w_bf {b : Bf} {es : Exs} : wp (ev C (.bf b es) ρ G) P = wp (evs C es ρ G) fun xs G1 => wp (bf b xs G1) P := by
  show wp (mArgs _ (evs C es) ρ G) P = _
  unfold mArgs; simp only [wp_bind, wp_noExc]
theorem w_mt {m : Mt} {o : Ex} {es : Exs} : wp (ev C (.mt m o es) ρ G) P = wp (ev C o ρ G) fun x G1 => mtTy m x G1 = true ∧ wp (evs C es ρ G1) fun xs G2 => wp (mt m x xs G2) P := by
  show wp (mMt m (ev C o) (evs C es) ρ G) P = _
  unfold mMt; rw [wp_bind]; congr; funext x G1
  by_cases h : mtTy m x G1 = true <;> simp [h, wp_bind, wp_noExc, wp_stuck]
theorem w_nil {P : List D → Store → Prop} : wp (evs C .nil ρ G) P = P [] G := rfl
theorem w_cons {e : Ex} {es : Exs} {P : List D → Store → Prop} : wp (evs C (.cons e es) ρ G) P = wp (ev C e ρ G) fun x G1 => wp (evs C es ρ G1) fun xs G2 => P (x :: xs) G2 := by
  show wp (mCons (ev C e) (evs C es) ρ G) P = _
  unfold mCons; simp only [wp_bind, wp_ok]
theorem w_no {P : Option Int → Store → Prop} : wp (evo C .none ρ G) P = P none G := rfl
theorem w_some {e : Ex} {P : Option Int → Store → Prop} : wp (evo C (.some e) ρ G) P = wp (ev C e ρ G) fun x G1 => match x with
  | .int i => P (some i) G1
  | _ => False := by
  show wp (mSome (ev C e) ρ G) P = _
  unfold mSome; rw [wp_bind]; congr; funext x G1; cases x <;> rfl
end
/-! statements -/
section
variable {D : Po}
theorem wps_ofR {f : α → Store → RS} : wps (RS.ofR r ρ f) D = wp r fun a G1 => wps (f a G1) D := by cases r <;> rfl
theorem s_pass : wps (ex C .pass ρ G) D = D.nx ρ G := rfl
theorem s_nil : wps (exs C .nil ρ G) D = D.nx ρ G := rfl
theorem s_cons {s : Sm} {ss : Sms} : wps (exs C (.cons s ss) ρ G) D = wps (ex C s ρ G) { D with nx := fun ρ1 G1 => wps (exs C ss ρ1 G1) D } := by
  show wps (sSeq (ex C s) (exs C ss) ρ G) D = _
  unfold sSeq
  cases h : ex C s ρ G <;> rfl
theorem s_expr {e : Ex} : wps (ex C (.expr e) ρ G) D = wp (ev C e ρ G) fun _ G1 => D.nx ρ G1 := by
  show wps (sExpr (ev C e) ρ G) D = _
  unfold sExpr; rw [wps_ofR]; rfl
theorem s_set {t : Tg} {e : Ex} : wps (ex C (.set t e) ρ G) D = wp (ev C e ρ G) fun x G1 => match t.bind x ρ with
  | some ρ1 => D.nx ρ1 G1
  | none => False := by
  show wps (sSet t (ev C e) ρ G) D = _
  unfold sSet; rw [wps_ofR]; congr; funext x G1; rcases t.bind x ρ with _ | _ <;> rfl
theorem s_par {is : List Nat} {es : Exs} : wps (ex C (.par is es) ρ G) D = wp (evs C es ρ G) fun xs G1 => match bindN is xs ρ with
  | some ρ1 => D.nx ρ1 G1
  | none => False := by
  show wps (sPar is (evs C es) ρ G) D = _
  unfold sPar; rw [wps_ofR]; congr; funext x G1; rcases bindN is x ρ with _ | _ <;> rfl
theorem s_setIx {a i e : Ex} : wps (ex C (.setIx a i e) ρ G) D = wp (ev C e ρ G) fun d G1 => wp (ev C a ρ G1) fun o G2 => wp (ev C i ρ G2) fun k G3 => match setAt o k d G3 with
  | some G4 => D.nx ρ G4
  | none => False := by
  show wps (sSetIx (ev C a) (ev C i) (ev C e) ρ G) D = _
  unfold sSetIx; simp only [wps_ofR]; congr; funext d G1; congr; funext o G2; congr; funext k G3; rcases setAt o k d G3 with _ | _ <;> rfl
theorem s_setKey {a i e : Ex} : wps (ex C (.setKey a i e) ρ G) D = wp (ev C e ρ G) fun d G1 => wp (ev C a ρ G1) fun o G2 => wp (ev C i ρ G2) fun k G3 => match setKeyAt o k d G3 with
  | some G4 => D.nx ρ G4
  | none => False := by
  show wps (sSetKey (ev C a) (ev C i) (ev C e) ρ G) D = _
  unfold sSetKey; simp only [wps_ofR]; congr; funext d G1; congr; funext o G2; congr; funext k G3; rcases setKeyAt o k d G3 with _ | _ <;> rfl
theorem s_augIx {a i : Ex} {o : Op2} {e : Ex} : wps (ex C (.augIx a i o e) ρ G) D = wp (ev C a ρ G) fun p G1 => wp (ev C i ρ G1) fun k G2 => wp (op2 .ix p k G2) fun x G3 => wp (ev C e ρ G3) fun y G4 => wp (opAug o x y G4) fun z G5 => match setAt p k z G5 with
  | some G6 => D.nx ρ G6
  | none => False := by
  show wps (sAugIx (ev C a) (ev C i) o (ev C e) ρ G) D = _
  unfold sAugIx; simp only [wps_ofR, wp_noExc]; congr; funext p G1; congr; funext k G2; congr; funext x G3; congr; funext y G4; congr; funext z G5; rcases setAt p k z G5 with _ | _ <;> rfl
theorem s_aug {i : Nat} {o : Op2} {e : Ex} : wps (ex C (.aug i o e) ρ G) D = (match ρ[i]? with
  | some (some x) => wp (ev C e ρ G) fun y G1 => wp (opAug o x y G1) fun z G2 => D.nx (ρ.set i (some z)) G2
  | _ => False) := by
  show wps (sAug i o (ev C e) ρ G) D = _
  unfold sAug
  rcases ρ[i]? with _ | (_ | x)
  · rfl
  · rfl
  · simp only [wps_ofR, wp_noExc]; rfl
theorem s_ifs {c : Ex} {a b : Sms} : wps (ex C (.ifs c a b) ρ G) D = wp (ev C c ρ G) fun x G1 => tb (truthy x G1) (wps (exs C a ρ G1) D) (wps (exs C b ρ G1) D) := by
  show wps (sIf (ev C c) (exs C a) (exs C b) ρ G) D = _
  unfold sIf; rw [wps_ofR]; congr; funext x G1; rcases truthy x G1 with _ | (_ | _) <;> rfl
theorem s_ret {e : Ex} : wps (ex C (.ret e) ρ G) D = wp (ev C e ρ G) D.rt := by
  show wps (sRet (ev C e) ρ G) D = _
  unfold sRet; rw [wps_ofR]; rfl
theorem s_retN : wps (ex C .retN ρ G) D = D.rt .non G := rfl
theorem s_brk : wps (ex C .brk ρ G) D = D.bk ρ G := rfl
theorem s_cnt : wps (ex C .cnt ρ G) D = D.ct ρ G := rfl
theorem s_never : wps (ex C .never ρ G) D = False := rfl
/-- while, by an invariant with a measure -/
theorem s_while {c : Ex} {a : Sms} (I : Nat → Env → Store → Prop) (m0 : Nat) (hm : m0 < loopFuel) (h0 : I m0 ρ G)
    (turn : ∀ m ρ G, I m ρ G → wp (ev C c ρ G) fun x G1 => tb (truthy x G1) (wps (exs C a ρ G1) { D with nx := fun ρ' G' => ∃ m', m' < m ∧ I m' ρ' G', ct := fun ρ' G' => ∃ m', m' < m ∧ I m' ρ' G', bk := D.nx }) (D.nx ρ G1)) : wps (ex C (.whil c a) ρ G) D := by
  show wps (whileGo (ev C c) (exs C a) loopFuel ρ G) D
  have go : ∀ (f m : Nat) (ρ : Env) (G : Store), m < f → I m ρ G → wps (whileGo (ev C c) (exs C a) f ρ G) D := by
    intro f
    induction f with
    | zero => intro m ρ G h; exact absurd h (Nat.not_lt_zero _)
    | succ f ih =>
      intro m ρ G h hI
      unfold whileGo
      rw [wps_ofR]
      refine (turn m ρ G hI).imp fun x G1 hx => ?_
      rcases e : truthy x G1 with _ | (_ | _) <;> rw [e] at hx
      · exact hx.elim
      · exact hx
      · simp only
        cases hb : exs C a ρ G1 with
        | nx ρ2 G2 => rw [hb] at hx; obtain ⟨m', h', hI'⟩ := hx; exact ih m' ρ2 G2 (by omega) hI'
        | ct ρ2 G2 => rw [hb] at hx; obtain ⟨m', h', hI'⟩ := hx; exact ih m' ρ2 G2 (by omega) hI'
        | bk ρ2 G2 => rw [hb] at hx; exact hx
        | rt d G2 => rw [hb] at hx; exact hx
        | exc n fs ρ2 G2 => rw [hb] at hx; exact hx
        | stuck => rw [hb] at hx; exact hx
  exact go loopFuel m0 ρ G hm h0
/-- for: what the iterator yields at the i-th turn -/
theorem s_forGo {t : Tg} {v : Itv} {a : Sms} (I : Nat → Env → Store → Prop) (n : Nat) (hn : n < loopFuel) (h0 : I 0 ρ G)
    (turn : ∀ i ρ G, i < n → I i ρ G → ∃ d, v.at i G = some (some d) ∧ ∃ ρ1, t.bind d ρ = some ρ1 ∧ wps (exs C a ρ1 G) { D with nx := I (i + 1), ct := I (i + 1), bk := D.nx })
    (done : ∀ ρ G, I n ρ G → v.at n G = some none ∧ D.nx ρ G) : wps (forGo t v (exs C a) loopFuel 0 ρ G) D := by
  have go : ∀ (f i : Nat) (ρ : Env) (G : Store), n - i < f → i ≤ n → I i ρ G → wps (forGo t v (exs C a) f i ρ G) D := by
    intro f
    induction f with
    | zero => intro i ρ G h; exact absurd h (Nat.not_lt_zero _)
    | succ f ih =>
      intro i ρ G h hi hI
      unfold forGo
      by_cases hlt : i < n
      · obtain ⟨d, e1, ρ1, e2, hb⟩ := turn i ρ G hlt hI
        rw [e1]; simp only [e2]
        cases hx : exs C a ρ1 G with
        | nx ρ2 G2 => rw [hx] at hb; exact ih (i + 1) ρ2 G2 (by omega) hlt hb
        | ct ρ2 G2 => rw [hx] at hb; exact ih (i + 1) ρ2 G2 (by omega) hlt hb
        | bk ρ2 G2 => rw [hx] at hb; exact hb
        | rt d G2 => rw [hx] at hb; exact hb
        | exc n fs ρ2 G2 => rw [hx] at hb; exact hb
        | stuck => rw [hx] at hb; exact hb
      · have e : i = n := by omega
        subst e
        obtain ⟨e1, hd⟩ := done ρ G hI
        rw [e1]; exact hd
  exact go loopFuel 0 ρ G (by omega) (Nat.zero_le _) h0
theorem s_for {t : Tg} {it : It} {a : Sms} : wps (ex C (.for_ t it a) ρ G) D = wp (evi C it ρ G) fun v G1 => wps (forGo t v (exs C a) loopFuel 0 ρ G1) D := by
  show wps (sFor t (evi C it) (exs C a) ρ G) D = _
  unfold sFor; rw [wps_ofR]
end
/-! iterables -/
section
variable {P : Itv → Store → Prop}
theorem i_one {e : Ex} : wp (evi C (.one e) ρ G) P = wp (ev C e ρ G) fun x G1 => match srcOf x G1 with
  | some s => P (.one s) G1
  | none => False := by
  show wp (mOne (ev C e) ρ G) P = _
  unfold mOne; rw [wp_bind]; congr; funext x G1; rcases srcOf x G1 with _ | _ <;> rfl
theorem i_rng1 {e : Ex} : wp (evi C (.rng1 e) ρ G) P = wp (ev C e ρ G) fun x G1 => match x with
  | .int j => -(2 ^ 62) ≤ j ∧ j < 2 ^ 62 ∧ P (.rng 0 j.toNat) G1
  | _ => False := by
  show wp (mRng1 (ev C e) ρ G) P = _
  unfold mRng1; rw [wp_bind]; congr; funext x G1
  cases x <;> try rfl
  case int j =>
    by_cases h : -(2 ^ 62) ≤ j ∧ j < 2 ^ 62
    · simp only [h, and_self, if_true, true_and, wp]
    · simp only [h, if_false, wp]; exact (eq_false fun z => h ⟨z.1, z.2.1⟩).symm
theorem i_zip {e f : Ex} : wp (evi C (.zip e f) ρ G) P = wp (ev C e ρ G) fun x G1 => wp (ev C f ρ G1) fun y G2 => match x, y with
  | .tup xs, .tup ys => P (.zip (.fix xs) (.fix ys)) G2
  | .ref m, .ref n => ((G2.lst? m).isSome ∧ (G2.lst? n).isSome) ∧ P (.zip (.cell m) (.cell n)) G2
  | _, _ => False := by
  show wp (mZip (ev C e) (ev C f) ρ G) P = _
  unfold mZip; simp only [wp_bind]; congr; funext x G1; congr; funext y G2
  cases x <;> cases y <;> try rfl
  case ref.ref m n =>
    by_cases h : (G2.lst? m).isSome ∧ (G2.lst? n).isSome
    · simp only [h, and_self, if_true, true_and, wp]
    · simp only [h, if_false, wp, false_and]
theorem i_enum {e : Ex} : wp (evi C (.enum e) ρ G) P = wp (ev C e ρ G) fun x G1 => match x with
  | .ref n => (G1.lst? n).isSome ∧ P (.enum (.cell n)) G1
  | _ => False := by
  show wp (mEnum (ev C e) ρ G) P = _
  unfold mEnum; simp only [wp_bind]; congr; funext x G1
  cases x <;> try rfl
  case ref n =>
    by_cases h : (G1.lst? n).isSome = true <;> simp [h, wp]
theorem i_rng2 {e f : Ex} : wp (evi C (.rng2 e f) ρ G) P = wp (ev C e ρ G) fun x G1 => wp (ev C f ρ G1) fun y G2 => match x, y with
  | .int i, .int j => (-(2 ^ 62) ≤ i ∧ i < 2 ^ 62 ∧ -(2 ^ 62) ≤ j ∧ j < 2 ^ 62) ∧ P (.rng i (j - i).toNat) G2
  | _, _ => False := by
  show wp (mRng2 (ev C e) (ev C f) ρ G) P = _
  unfold mRng2; simp only [wp_bind]; congr; funext x G1; congr; funext y G2
  cases x <;> cases y <;> try rfl
  case int.int i j =>
    by_cases h : -(2 ^ 62) ≤ i ∧ i < 2 ^ 62 ∧ -(2 ^ 62) ≤ j ∧ j < 2 ^ 62
    · simp only [h, and_self, if_true, true_and, wp]
    · simp only [h, if_false, wp, false_and]
end
end
/-! comprehensions, all, any -/
section
variable {C : CallF} {ρ : Env} {G : Store} {P : D → Store → Prop}
/-- all / any by an invariant -/
theorem w_gen {al : Bool} {t : Tg} {it : It} {e : Ex} {own : List Nat} : wp (ev C (.gen al t it e own) ρ G) P = wp (evi C it ρ G) fun v G1 => wp (genGo al t v (ev C e) (wipeE ρ own) loopFuel 0 G1) P := by
  show wp (mGen al t (evi C it) (ev C e) own ρ G) P = _
  unfold mGen; simp only [wp_bind, wp_noExc]
/-- every element answers as al -/
theorem genGo_all {al : Bool} {t : Tg} {v : Itv} {e : ME} {n : Nat} (hn : n < loopFuel) (stop : v.at n G = some none)
    (turn : ∀ i, i < n → ∃ d ρ1, v.at i G = some (some d) ∧ t.bind d ρ = some ρ1 ∧ e ρ1 G = .ok (.bl al) G) (h : P (.bl al) G) : wp (genGo al t v e ρ loopFuel 0 G) P := by
  have go : ∀ (f i : Nat), n - i < f → i ≤ n → wp (genGo al t v e ρ f i G) P := by
    intro f
    induction f with
    | zero => intro i h; exact absurd h (Nat.not_lt_zero _)
    | succ f ih =>
      intro i h1 hi
      unfold genGo
      by_cases hlt : i < n
      · obtain ⟨d, ρ1, e1, e2, e3⟩ := turn i hlt
        rw [e1]; simp only [e2, e3, R.bind, if_true]
        exact ih (i + 1) (by omega) hlt
      · have : i = n := by omega
        subst this
        rw [stop]; exact h
  exact go loopFuel 0 (by omega) (Nat.zero_le _)
/-- the i-th turn's elements: I by the turn and the store, the new list at n within it -/
theorem compGo_inv {t : Tg} {v : Itv} {c : Option ME} {e : ME} {n k : Nat} (I : Nat → Store → Prop) {Q : Store → Prop} (hk : k < loopFuel) (h0 : I 0 G) (stop : ∀ G, I k G → v.at k G = some none ∧ Q G)
    (turn : ∀ i G, i < k → I i G → ∃ d ρ1, v.at i G = some (some d) ∧ t.bind d ρ = some ρ1 ∧ wp ((match c with
          | none => R.ok true G
          | some m => (m ρ1 G).bind fun x G1 => match truthy x G1 with
            | some b => .ok b G1
            | none => .stuck)) fun b G1 => if b = true then wp (e ρ1 G1) fun x G2 => ∃ ys, G2.lst? n = some ys ∧ G2.lim ≤ n ∧ ys.length < sizeLine ∧ I (i + 1) (G2.put n (.lst (ys ++ [x]))) else I (i + 1) G1) :
    wp (compGo t v c e ρ n loopFuel 0 G) fun _ G' => Q G' := by
  have go : ∀ (f i : Nat) (G : Store), k - i < f → i ≤ k → I i G → wp (compGo t v c e ρ n f i G) fun _ G' => Q G' := by
    intro f
    induction f with
    | zero => intro i G h; exact absurd h (Nat.not_lt_zero _)
    | succ f ih =>
      intro i G h1 hi hI
      unfold compGo
      by_cases hlt : i < k
      · obtain ⟨d, ρ1, e1, e2, h⟩ := turn i G hlt hI
        rw [e1]; simp only [e2]
        rw [wp_bind]
        refine h.imp fun b G1 hb => ?_
        cases b with
        | true =>
          simp only [if_true] at hb ⊢
          rw [wp_bind]
          refine hb.imp fun x G2 ⟨ys, h1, h2, h3, h4⟩ => ?_
          rw [h1]
          simp only [h2, h3, and_self, if_true]
          exact ih (i + 1) _ (by omega) hlt h4
        | false =>
          simp only [Bool.false_eq_true, if_false] at hb ⊢
          exact ih (i + 1) _ (by omega) hlt hb
      · have : i = k := by omega
        subst this
        obtain ⟨e1, q⟩ := stop G hI
        rw [e1]; exact q
  exact go loopFuel 0 G (by omega) (Nat.zero_le _) h0
theorem w_comp {t : Tg} {it : It} {c : Exo} {e : Ex} {own : List Nat} : wp (ev C (.comp t it c e own) ρ G) P = wp (evi C it ρ G) fun v G1 => wp (compGo t v (evc C c) (ev C e) (wipeE ρ own) G1.cs.length loopFuel 0 (G1.new (.lst []))) fun _ G2 => P (.ref G1.cs.length) G2 := by
  show wp (mComp t (evi C it) (evc C c) (ev C e) own ρ G) P = _
  unfold mComp; simp only [wp_bind, wp_noExc, wp_ok]
end
/-! calls -/
section
variable {T : List Fd} {f k : Nat} {ds : List D} {G : Store} {fd : Fd}
/-- a def's answer, by its body: Q is asked of the answer ahead of the forgetting -/
theorem run_wp {P : D → Store → Prop} (h : T[f]? = some fd) (hl : ds.length = fd.ps) (hb : wps (exs (run T k) fd.body (start fd.ns ds) G) ⟨fun _ G' => wp (gc G (.ok .non G')) P, fun d G' => wp (gc G (.ok d G')) P, fun _ _ => False, fun _ _ => False⟩) : wp (run T (k + 1) f ds G) P := by
  unfold run
  rw [h]
  simp only [if_pos hl]
  cases hx : exs (run T k) fd.body (start fd.ns ds) G <;> rw [hx] at hb <;> first | exact hb | exact hb.elim
theorem gcOk_self : ∀ (n : Nat) (cs xs : List Cell), gcOk n cs (cs ++ xs) = true
  | _, [], _ => rfl
  | n, c :: cs, xs => by
    show ((decide (c = c) || cellBelow n c) && gcOk n cs (cs ++ xs)) = true
    rw [gcOk_self n cs xs, decide_eq_true rfl]; rfl
/-- G has grown -/
structure Grown (B G : Store) : Prop where
  lim : G.lim = B.lim
  cs : ∃ xs, G.cs = B.cs ++ xs
theorem Grown.refl (G : Store) : Grown G G := ⟨rfl, [], (List.append_nil _).symm⟩
theorem Grown.new {B G : Store} (g : Grown B G) (c : Cell) : Grown B (G.new c) := by
  obtain ⟨h, xs, e⟩ := g
  exact ⟨h, xs ++ [c], by show G.cs ++ [c] = _; rw [e, List.append_assoc]⟩
theorem Grown.trans {A B G : Store} (a : Grown A B) (b : Grown B G) : Grown A G := by
  obtain ⟨h, xs, e⟩ := a
  obtain ⟨h', ys, e'⟩ := b
  exact ⟨h'.trans h, xs ++ ys, by rw [e', e, List.append_assoc]⟩
theorem Grown.len {B G : Store} (g : Grown B G) : B.cs.length ≤ G.cs.length := by
  obtain ⟨_, xs, e⟩ := g
  rw [e, List.length_append]; omega
theorem Grown.put {B G : Store} (g : Grown B G) {n : Nat} (hn : n < B.cs.length) (c : Cell) : Grown (B.put n c) (G.put n c) := by
  obtain ⟨h, xs, e⟩ := g
  exact ⟨h, xs, by show G.cs.set n c = B.cs.set n c ++ xs; rw [e, List.set_append_left _ _ hn]⟩
/-- the new cells beyond the base may change -/
theorem Grown.putNew {B G : Store} (g : Grown B G) {n : Nat} (hn : B.cs.length ≤ n) (c : Cell) : Grown B (G.put n c) := by
  obtain ⟨h, xs, e⟩ := g
  exact ⟨h, xs.set (n - B.cs.length) c, by show G.cs.set n c = _; rw [e, List.set_append_right _ _ hn]⟩
theorem lt_of_lst {G : Store} {n : Nat} {xs : List D} (h : G.lst? n = some xs) : n < G.cs.length := by
  unfold Store.lst? at h
  split at h
  · rename_i e; exact (List.getElem?_eq_some_iff.mp e).1
  · cases h
theorem Grown.lst {B G : Store} (g : Grown B G) {n : Nat} {xs : List D} (h : B.lst? n = some xs) : G.lst? n = some xs := by
  have hl := lt_of_lst h
  obtain ⟨_, ys, e⟩ := g
  unfold Store.lst? at h ⊢
  rw [e, List.getElem?_append_left hl]; exact h
theorem lst_new {G : Store} {xs : List D} : (G.new (.lst xs)).lst? G.cs.length = some xs := by
  unfold Store.lst? Store.new
  rw [List.getElem?_append_right (Nat.le_refl _), Nat.sub_self]; rfl
theorem lst_new_old {G : Store} {c : Cell} {n : Nat} {xs : List D} (h : G.lst? n = some xs) : (G.new c).lst? n = some xs := ((Grown.refl G).new c).lst h
theorem lst_put {G : Store} {n : Nat} {xs : List D} (h : n < G.cs.length) : (G.put n (.lst xs)).lst? n = some xs := by
  unfold Store.lst? Store.put
  rw [List.getElem?_set_self h]
theorem lst_put_ne {G : Store} {n m : Nat} {c : Cell} (h : n ≠ m) : (G.put n c).lst? m = G.lst? m := by
  unfold Store.lst? Store.put
  rw [List.getElem?_set_ne h]
theorem put_put {G : Store} {n : Nat} {c d : Cell} : (G.put n c).put n d = G.put n d := by
  unfold Store.put
  rw [List.set_set]
theorem len_put {G : Store} {n : Nat} {c : Cell} : (G.put n c).cs.length = G.cs.length := List.length_set ..
theorem len_new {G : Store} {c : Cell} : (G.new c).cs.length = G.cs.length + 1 := by show (G.cs ++ [c]).length = _; rw [List.length_append]; rfl
theorem take_grown {B G : Store} (g : Grown B G) : ({ G with cs := G.cs.take B.cs.length } : Store) = B := by
  obtain ⟨h, xs, e⟩ := g
  rw [e, List.take_left]
  cases B; cases G
  simp only at h; subst h; rfl
/-- nothing old has changed, the answer names nothing new -/
theorem gc_grown {G G' : Store} {d : D} (g : Grown G G') (h : below G.cs.length d = true) : gc G (.ok d G') = .ok d G := by
  have e : gcOk G.cs.length G.cs G'.cs = true := by
    obtain ⟨_, xs, e⟩ := g
    rw [e]; exact gcOk_self _ _ _
  have t := take_grown g
  have hl : G'.lim = G.lim := g.lim
  simp only [gc, e, h, if_true, Bool.and_true]
  rw [if_pos (decide_eq_true hl), t]
theorem gcOk_set : ∀ (n : Nat) (cs xs : List Cell) (i : Nat) (c : Cell), cellBelow n c = true → gcOk n cs (cs.set i c ++ xs) = true
  | _, [], _, _, _, _ => rfl
  | n, a :: cs, xs, 0, c, h => by
    show ((decide (a = c) || cellBelow n c) && gcOk n cs (cs ++ xs)) = true
    rw [h, gcOk_self, Bool.or_true]; rfl
  | n, a :: cs, xs, i + 1, c, h => by
    show ((decide (a = a) || cellBelow n a) && gcOk n cs (cs.set i c ++ xs)) = true
    rw [gcOk_set n cs xs i c h, decide_eq_true rfl]; rfl
/-- one old cell has changed -/
theorem gc_put {G G' : Store} {d : D} {i : Nat} {c : Cell} (g : Grown (G.put i c) G') (hc : cellBelow G.cs.length c = true) (h : below G.cs.length d = true) : gc G (.ok d G') = .ok d (G.put i c) := by
  have e : gcOk G.cs.length G.cs G'.cs = true := by
    obtain ⟨_, xs, e⟩ := g
    rw [e]; exact gcOk_set _ _ _ _ _ hc
  have hl : G'.lim = G.lim := g.lim
  have t := take_grown g
  rw [len_put] at t
  simp only [gc, e, h, if_true, Bool.and_true]
  rw [if_pos (decide_eq_true hl), t]
/-- the answer is a new list -/
theorem gc_newL {G G' : Store} {m : Nat} {xs : List D} (g : Grown G G') (hm : G.cs.length ≤ m) (h : G'.lst? m = some xs) (hb : belows G.cs.length xs = true) : gc G (.ok (.ref m) G') = .ok (.ref G.cs.length) (G.new (.lst xs)) := by
  have e : gcOk G.cs.length G.cs G'.cs = true := by
    obtain ⟨_, xs, e⟩ := g
    rw [e]; exact gcOk_self _ _ _
  have hl : G'.lim = G.lim := g.lim
  have hc : G'.cs[m]? = some (.lst xs) := by
    unfold Store.lst? at h
    split at h
    · rename_i e; cases h; exact e
    · cases h
  have nb : below G.cs.length (.ref m) = false := by unfold below; exact decide_eq_false (by omega)
  have t := take_grown g
  have e2 : G'.cs.take G.cs.length = G.cs := congrArg Store.cs t
  simp only [gc, e, Bool.and_true]
  rw [if_pos (decide_eq_true hl), nb]
  simp only [Bool.false_eq_true, if_false, hc]
  rw [if_pos ⟨hm, hb⟩, e2, hl]
  rfl
end
end Cut
/-! Operations, one by one. -/
namespace Cut
open PySem
section
variable {G : Store} {P : D → Store → Prop} {i j : Int} {xs ys : List D} {n : Nat}
theorem o_add : wp (op2 .add (.int i) (.int j) G) P = P (.int (i + j)) G := rfl
theorem o_addT : wp (op2 .add (.tup xs) (.tup ys) G) P = (xs.length + ys.length ≤ sizeLine ∧ P (.tup (xs ++ ys)) G) := by
  show wp (if _ then _ else _) P = _
  by_cases h : xs.length + ys.length ≤ sizeLine <;> simp [h, wp]
theorem o_sub : wp (op2 .sub (.int i) (.int j) G) P = P (.int (i - j)) G := rfl
theorem o_mul : wp (op2 .mul (.int i) (.int j) G) P = (i.natAbs.log2 + j.natAbs.log2 < 1000000 ∧ P (.int (i * j)) G) := by
  show wp (if _ then _ else _) P = _
  by_cases h : i.natAbs.log2 + j.natAbs.log2 < 1000000 <;> simp [h, wp]
theorem o_fdiv : wp (op2 .fdiv (.int i) (.int j) G) P = ((0 < j ∧ j.natAbs.log2 < 9000) ∧ P (.int (i / j)) G) := by
  show wp (if _ then _ else _) P = _
  by_cases h : 0 < j ∧ j.natAbs.log2 < 9000 <;> simp [h, wp]
theorem o_mod : wp (op2 .mod (.int i) (.int j) G) P = (0 < j ∧ P (.int (i % j)) G) := by
  show wp (if _ then _ else _) P = _
  by_cases h : 0 < j <;> simp [h, wp]
theorem o_pow : wp (op2 .pow (.int i) (.int j) G) P = ((0 ≤ j ∧ j ≤ 1000000 ∧ i.natAbs < 2 ^ 64) ∧ P (.int (i ^ j.toNat)) G) := by
  show wp (if _ then _ else _) P = _
  by_cases h : 0 ≤ j ∧ j ≤ 1000000 ∧ i.natAbs < 2 ^ 64 <;> simp [h, wp]
theorem eqD_int : eqD G (.int i) (.int j) = some (decide (i = j)) := by
  show (if SeqAt.shaped (.int i) && SeqAt.shaped (.int j) then some (PyData.eqv (.int i) (.int j)) else none) = _
  have : PyData.eqv (.int i) (.int j) = decide (i = j) := by
    by_cases h : i = j <;> simp [PyData.eqv, h]
  rw [this]; rfl
theorem o_eq : wp (op2 .eq (.int i) (.int j) G) P = P (.bl (decide (i = j))) G := by
  show wp (okO (eqD G (.int i) (.int j)) G) P = _
  rw [eqD_int]; rfl
theorem o_ne : wp (op2 .ne (.int i) (.int j) G) P = P (.bl (!decide (i = j))) G := by
  show wp (okO ((eqD G (.int i) (.int j)).map (!·)) G) P = _
  rw [eqD_int]; rfl
theorem o_lt : wp (op2 .lt (.int i) (.int j) G) P = P (.bl (decide (i < j))) G := rfl
theorem o_le : wp (op2 .le (.int i) (.int j) G) P = P (.bl (decide (i ≤ j))) G := rfl
theorem o_gt : wp (op2 .gt (.int i) (.int j) G) P = P (.bl (decide (j < i))) G := rfl
theorem o_ge : wp (op2 .ge (.int i) (.int j) G) P = P (.bl (decide (j ≤ i))) G := rfl
theorem o_isT : wp (op2 .is (.tup xs) .non G) P = P (.bl false) G := rfl
theorem o_isI : wp (op2 .is (.int i) .non G) P = P (.bl false) G := rfl
theorem o_isR : wp (op2 .is (.ref n) .non G) P = P (.bl false) G := rfl
theorem o_isN : wp (op2 .is .non .non G) P = P (.bl true) G := rfl
theorem o_eqB {a b : Bool} : wp (op2 .eq (.bl a) (.bl b) G) P = P (.bl (decide (a = b))) G := by
  cases a <;> cases b <;> rfl
theorem o_neB {a b : Bool} : wp (op2 .ne (.bl a) (.bl b) G) P = P (.bl (!decide (a = b))) G := by
  cases a <;> cases b <;> rfl
theorem o_ixT {d : D} (h : ixAt xs i = some d) : wp (op2 .ix (.tup xs) (.int i) G) P = P d G := by
  show wp (okD (ixAt xs i) G) P = _
  rw [h]; rfl
theorem o_ixL {d : D} (hx : G.lst? n = some xs) (h : ixAt xs i = some d) : wp (op2 .ix (.ref n) (.int i) G) P = P d G := by
  show wp (match G.lst? n with | some xs => okD (ixAt xs i) G | none => .stuck) P = _
  rw [hx]; simp only [h]; rfl
theorem ixN_nat {l k : Nat} (h : k < l) : L2.ixN l (k : Int) = some k := by
  unfold L2.ixN
  first
    | (rw [if_pos (by omega)]; rw [if_pos (by omega)]; congr)
    | (simp; omega)
    | (split <;> (try split) <;> simp_all <;> omega)
theorem ixAt_nat {α : Type} {xs : List α} {k : Nat} {d : α} (h : xs[k]? = some d) : ixAt xs (k : Int) = some d := by
  unfold ixAt L2.atI
  rw [ixN_nat (List.getElem?_eq_some_iff.mp h).1]
  exact h
theorem o_not {d : D} : wp (op1 .not d G) P = tb (truthy d G) (P (.bl false) G) (P (.bl true) G) := by
  show wp (match truthy d G with | some b => R.ok (D.bl (!b)) G | none => .stuck) P = _
  rcases truthy d G with _ | (_ | _) <;> rfl
theorem o_lenT : wp (bf .len [.tup xs] G) P = P (.int xs.length) G := rfl
theorem o_lenL (hx : G.lst? n = some xs) : wp (bf .len [.ref n] G) P = P (.int xs.length) G := by
  show wp (match G.lst? n with | some xs => R.ok (D.int xs.length) G | none => .stuck) P = _
  rw [hx]; rfl
theorem o_int : wp (bf .int [.int i] G) P = P (.int i) G := rfl
theorem o_tupL (hx : G.lst? n = some xs) : wp (bf .tuple [.ref n] G) P = P (.tup xs) G := by
  show wp (match G.lst? n with | some xs => R.ok (D.tup xs) G | none => .stuck) P = _
  rw [hx]; rfl
theorem o_isin {d : D} {a b : Ty} (h : tyOf d G = some a) : wp (bf .isin [d, .ty b] G) P = P (.bl (isTy a b)) G := by
  show wp (okO ((tyOf d G).map fun a => isTy a b) G) P = _
  rw [h]; rfl
theorem o_isin2 {d : D} {a b c : Ty} (h : tyOf d G = some a) : wp (bf .isin [d, .tup [.ty b, .ty c]] G) P = P (.bl (isTy a b || isTy a c)) G := by
  show wp (match tyOf d G with | some a => okO (isTys a [.ty b, .ty c]) G | none => .stuck) P = _
  rw [h]
  show wp (okO (some (isTy a b || (isTy a c || false))) G) P = _
  rw [Bool.or_false]; rfl
theorem o_revL (hx : G.lst? n = some xs) : wp (opRev (.ref n) G) P = (xs.reverse.length ≤ sizeLine ∧ P (.ref G.cs.length) (G.new (.lst xs.reverse))) := by
  show wp (match G.lst? n with | some xs => newL xs.reverse G | none => .stuck) P = _
  rw [hx]; exact wp_newL
theorem o_slT {lo hi : Option Int} : wp (opSl (.tup xs) lo hi G) P = P (.tup (cutD xs lo hi)) G := rfl
theorem sIx_nat {k l : Nat} {d : Nat} (h : k ≤ l) : HT.sIx l d (some (k : Int)) = k := by
  show (if (k : Int) < 0 then ((k : Int) + (l : Int)).toNat else min (k : Int).toNat l) = k
  rw [if_neg (by omega), Int.toNat_natCast]; omega
theorem cut_mid {α : Type} {A C B : List α} {a b : Int} (ha : a = A.length) (hb : b = (A.length + C.length : Nat)) : cutD (A ++ C ++ B) (some a) (some b) = C := by
  subst ha; subst hb
  unfold cutD
  rw [sIx_nat (by simp only [List.length_append]; omega), sIx_nat (by simp only [List.length_append]; omega)]
  rw [List.append_assoc, List.drop_left, Nat.add_sub_cancel_left, List.take_left]
theorem o_neg : wp (op1 .neg (.int i) G) P = P (.int (-i)) G := rfl
theorem cut_init {α : Type} {C : List α} {x : α} : cutD (C ++ [x]) none (some (-1)) = C := by
  have h1 : HT.sIx (C ++ [x]).length 0 none = 0 := rfl
  have h2 : HT.sIx (C ++ [x]).length (C ++ [x]).length (some (-1)) = C.length := by
    show (if (-1 : Int) < 0 then ((-1 : Int) + ((C ++ [x]).length : Int)).toNat else min (-1 : Int).toNat (C ++ [x]).length) = _
    rw [if_pos (by omega), List.length_append, List.length_singleton]; omega
  unfold cutD
  rw [h1, h2, List.drop_zero, Nat.sub_zero, List.take_left]
theorem ix_last {α : Type} {C : List α} {x : α} : ixAt (C ++ [x]) (-1) = some x := by
  have h : L2.ixN (C ++ [x]).length (-1) = some C.length := by
    unfold L2.ixN
    rw [if_neg (by omega), if_pos (by rw [List.length_append, List.length_singleton]; omega), List.length_append, List.length_singleton]
    congr 1; omega
  unfold ixAt L2.atI
  rw [h]
  show (C ++ [x])[C.length]? = some x
  rw [List.getElem?_append_right (Nat.le_refl _), Nat.sub_self]; rfl
theorem o_isinI {b : Ty} : wp (bf .isin [.int i, .ty b] G) P = P (.bl (isTy .int b)) G := rfl
theorem o_isinT {b : Ty} : wp (bf .isin [.tup xs, .ty b] G) P = P (.bl (isTy .tuple b)) G := rfl
theorem o_isinB {a : Bool} {b : Ty} : wp (bf .isin [.bl a, .ty b] G) P = P (.bl (isTy .bool b)) G := rfl
theorem o_isinI2 {b c : Ty} : wp (bf .isin [.int i, .tup [.ty b, .ty c]] G) P = P (.bl (isTy .int b || (isTy .int c || false))) G := rfl
theorem o_isinT2 {b c : Ty} : wp (bf .isin [.tup xs, .tup [.ty b, .ty c]] G) P = P (.bl (isTy .tuple b || (isTy .tuple c || false))) G := rfl
theorem t_ii : isTy .int .int = true := rfl
theorem t_ib : isTy .int .bool = false := rfl
theorem t_is : isTy .int .str = false := rfl
theorem t_it : isTy .int .tuple = false := rfl
theorem t_il : isTy .int .list = false := rfl
theorem t_tt : isTy .tuple .tuple = true := rfl
theorem t_tl : isTy .tuple .list = false := rfl
theorem t_ts : isTy .tuple .str = false := rfl
theorem t_ti : isTy .tuple .int = false := rfl
theorem t_tb : isTy .tuple .bool = false := rfl
theorem t_bb : isTy .bool .bool = true := rfl
theorem t_bi : isTy .bool .int = true := rfl
theorem o_append {d : D} (hx : G.lst? n = some xs) (hl : G.lim ≤ n) (hz : xs.length < sizeLine) : wp (mt .append (.ref n) [d] G) P = P .non (G.put n (.lst (xs ++ [d]))) := by
  show wp (match G.lst? n with | some ys => if G.lim ≤ n ∧ ys.length < sizeLine then R.ok D.non (G.put n (.lst (ys ++ [d]))) else .stuck | none => .stuck) P = _
  rw [hx]; simp only [hl, hz, and_self, if_true]; rfl
theorem ty_append (hx : G.lst? n = some xs) : mtTy .append (.ref n) G = true := by
  show (G.lst? n).isSome = true
  rw [hx]; rfl
theorem setAt_nat {k : Nat} {d : D} (hx : G.lst? n = some xs) (hl : G.lim ≤ n) (hk : k < xs.length) : setAt (.ref n) (.int (k : Int)) d G = some (G.put n (.lst (xs.set k d))) := by
  simp only [setAt, hx, ixN_nat hk, hl, if_true]
theorem setAt_L {d : D} {k : Nat} {i : Int} (hi : i = k) (hx : G.lst? n = some xs) (hl : G.lim ≤ n) (hk : k < xs.length) : setAt (.ref n) (.int i) d G = some (G.put n (.lst (xs.set k d))) := by
  subst hi; exact setAt_nat hx hl hk
end
end Cut
/-! What the laws share: their source of numbers, alikeness, codes. -/
namespace Cut
open PySem
/-- _law_taken -/
def takenFd : Fd := ⟨2, 4, (.cons (.ifs (.bin .gt (.bin .ix (.v 0) (.k (.int 3))) (.k (.int 0))) (.cons (.set (.v 2) (.bin .mod (.bf .int (.cons (.bin .ix (.v 0) (.k (.int 3))) .nil)) (.v 1))) (.cons (.setIx (.v 0) (.k (.int 3)) (.bin .fdiv (.bin .ix (.v 0) (.k (.int 3))) (.v 1))) (.cons (.ret (.v 2)) .nil))) .nil) (.cons (.setIx (.v 0) (.k (.int 1)) (.bin .add (.bin .ix (.v 0) (.k (.int 1))) (.k (.int 1)))) (.cons (.ifs (.bin .gt (.bin .ix (.v 0) (.k (.int 1))) (.bf .len (.cons (.bin .ix (.v 0) (.k (.int 0))) .nil))) (.cons (.setIx (.v 0) (.k (.int 2)) (.bin .mod (.bf .int (.cons (.bin .add (.bin .mul (.bin .ix (.v 0) (.k (.int 2))) (.k (.int 48271))) (.k (.int 11))) .nil)) (.k (.int 2147483647)))) (.cons (.ret (.bin .mod (.bf .int (.cons (.bin .fdiv (.bin .ix (.v 0) (.k (.int 2))) (.k (.int 7))) .nil)) (.v 1))) .nil)) .nil) (.cons (.set (.v 3) (.bin .ix (.bin .ix (.v 0) (.k (.int 0))) (.bin .sub (.bin .ix (.v 0) (.k (.int 1))) (.k (.int 1))))) (.cons (.setIx (.v 0) (.k (.int 2)) (.bin .mod (.bf .int (.cons (.bin .add (.bin .add (.bin .mul (.bin .ix (.v 0) (.k (.int 2))) (.k (.int 48271))) (.v 3)) (.k (.int 11))) .nil)) (.k (.int 2147483647)))) (.cons (.ifs (.bin .ge (.v 3) (.bin .pow (.k (.int 10)) (.k (.int 18)))) (.cons (.setIx (.v 0) (.k (.int 3)) (.bin .fdiv (.v 3) (.v 1))) .nil) .nil) (.cons (.ret (.bin .mod (.bf .int (.cons (.v 3) .nil)) (.v 1))) .nil)))))))⟩
/-- _law_pick -/
def pickFd (ft : Nat) : Fd := ⟨2, 2, (.cons (.ret (.bin .ix (.v 1) (.call ft (.cons (.v 0) (.cons (.bf .len (.cons (.v 1) .nil)) .nil))))) .nil)⟩
/-- _law_number -/
def numberFd (ft : Nat) (fp : Nat) : Fd := ⟨1, 3, (.cons (.set (.v 1) (.lst (.cons (.k (.int 0)) (.cons (.k (.int 127)) (.cons (.k (.int 128)) (.cons (.k (.int 16383)) (.cons (.k (.int 16384)) (.cons (.k (.int 255)) (.cons (.k (.int 256)) (.cons (.bin .pow (.k (.int 10)) (.k (.int 18))) (.cons (.bin .sub (.bin .pow (.k (.int 10)) (.k (.int 18))) (.k (.int 1))) (.cons (.k (.int 2097152)) .nil)))))))))))) (.cons (.set (.v 2) (.lst (.cons (.call ft (.cons (.v 0) (.cons (.k (.int 300)) .nil))) (.cons (.call fp (.cons (.v 0) (.cons (.v 1) .nil))) (.cons (.call ft (.cons (.v 0) (.cons (.bin .pow (.k (.int 10)) (.k (.int 6))) .nil))) (.cons (.call ft (.cons (.v 0) (.cons (.bin .pow (.k (.int 10)) (.k (.int 18))) .nil))) (.cons (.k (.int 5)) .nil))))))) (.cons (.ret (.bin .ix (.v 2) (.call ft (.cons (.v 0) (.cons (.k (.int 5)) .nil))))) .nil)))⟩
/-- _law_alike -/
def alikeFd (fa : Nat) : Fd := ⟨2, 3, (.cons (.ifs (.bf .isin (.cons (.v 1) (.cons (.tup (.cons (.k (.ty .tuple)) (.cons (.k (.ty .list)) .nil))) .nil))) (.cons (.ifs (.or (.un .not (.bf .isin (.cons (.v 0) (.cons (.tup (.cons (.k (.ty .tuple)) (.cons (.k (.ty .list)) .nil))) .nil)))) (.bin .ne (.bf .isin (.cons (.v 0) (.cons (.k (.ty .list)) .nil))) (.bf .isin (.cons (.v 1) (.cons (.k (.ty .list)) .nil))))) (.cons (.ret (.k (.bl false))) .nil) .nil) (.cons (.ifs (.bin .ne (.bf .len (.cons (.v 0) .nil)) (.bf .len (.cons (.v 1) .nil))) (.cons (.ret (.k (.bl false))) .nil) .nil) (.cons (.ret (.bin .eq (.comp (.v 2) (.rng1 (.bf .len (.cons (.v 1) .nil))) (.some (.un .not (.call fa (.cons (.bin .ix (.v 0) (.v 2)) (.cons (.bin .ix (.v 1) (.v 2)) .nil))))) (.v 2) [2]) (.lst .nil))) .nil))) .nil) (.cons (.ifs (.or (.bin .is (.v 1) (.k .non)) (.bf .isin (.cons (.v 1) (.cons (.k (.ty .str)) .nil)))) (.cons (.ret (.and (.bin .eq (.v 0) (.v 1)) (.bin .eq (.bf .isin (.cons (.v 0) (.cons (.k (.ty .str)) .nil))) (.bf .isin (.cons (.v 1) (.cons (.k (.ty .str)) .nil)))))) .nil) .nil) (.cons (.ret (.and (.bf .isin (.cons (.v 0) (.cons (.k (.ty .int)) .nil))) (.and (.bin .eq (.bf .isin (.cons (.v 0) (.cons (.k (.ty .bool)) .nil))) (.bf .isin (.cons (.v 1) (.cons (.k (.ty .bool)) .nil)))) (.bin .eq (.v 0) (.v 1))))) .nil)))⟩
/-- _law_code -/
def codeFd : Fd := ⟨1, 2, (.cons (.set (.v 1) (.tup (.cons (.bin .mod (.bf .int (.cons (.v 0) .nil)) (.k (.int 128))) .nil))) (.cons (.set (.v 0) (.bin .fdiv (.v 0) (.k (.int 128)))) (.cons (.whil (.bin .gt (.v 0) (.k (.int 0))) (.cons (.set (.v 1) (.bin .add (.sl (.v 1) .none (.some (.un .neg (.k (.int 1))))) (.tup (.cons (.bin .add (.bin .ix (.v 1) (.un .neg (.k (.int 1)))) (.k (.int 128))) (.cons (.bin .mod (.bf .int (.cons (.v 0) .nil)) (.k (.int 128))) .nil))))) (.cons (.set (.v 0) (.bin .fdiv (.v 0) (.k (.int 128)))) .nil))) (.cons (.ret (.v 1)) .nil))))⟩
/-- _law_bytes -/
def bytesFd : Fd := ⟨2, 4, (.cons (.set (.v 2) (.tup .nil)) (.cons (.for_ (.v 3) (.rng1 (.v 1)) (.cons (.set (.v 2) (.bin .add (.tup (.cons (.bin .mod (.bf .int (.cons (.v 0) .nil)) (.k (.int 256))) .nil)) (.v 2))) (.cons (.set (.v 0) (.bin .fdiv (.v 0) (.k (.int 256)))) .nil))) (.cons (.ret (.v 2)) .nil)))⟩
section
variable {T : List Fd} {ft fp fn fa fc fb : Nat}
theorem eq_of_wp {α : Type} {r : R α} {a : α} {G : Store} (h : wp r fun b G' => b = a ∧ G' = G) : r = .ok a G := by
  obtain ⟨b, G', e, rfl, rfl⟩ := wp_iff.mp h
  exact e
theorem gc_id {G : Store} {d : D} (h : below G.cs.length d = true) : gc G (.ok d G) = .ok d G := gc_grown (.refl G) h
def Byte (b : Int) : Prop := 0 ≤ b ∧ b ≤ 255
theorem belows_int : ∀ (n : Nat) (xs : List Int), belows n (xs.map D.int) = true
  | _, [] => rfl
  | n, x :: xs => by show (true && belows n (xs.map D.int)) = true; rw [belows_int n xs]; rfl
theorem log2_lt {x k : Nat} (h : x < 2 ^ k) (hk : 0 < k) : x.log2 < k := by
  by_cases h0 : x = 0
  · subst h0; simpa using hk
  · exact (Nat.log2_lt h0).mpr h
def enc (n : Nat) : List Int := if h : n < 128 then [(n : Int)] else ((n % 128 + 128 : Nat) : Int) :: enc (n / 128)
termination_by n
decreasing_by omega
theorem enc_lo {n : Nat} (h : n < 128) : enc n = [(n : Int)] := by rw [enc, dif_pos h]
theorem enc_hi {n : Nat} (h : 128 ≤ n) : enc n = ((n % 128 + 128 : Nat) : Int) :: enc (n / 128) := by rw [enc, dif_neg (by omega)]
theorem enc_len : ∀ (j n : Nat), n < 128 ^ (j + 1) → (enc n).length ≤ j + 1
  | 0, n, h => by rw [enc_lo (by simpa using h)]; exact Nat.le_refl _
  | j + 1, n, h => by
    by_cases hn : n < 128
    · rw [enc_lo hn]; exact Nat.le_add_left ..
    · rw [enc_hi (by omega), List.length_cons]
      have := enc_len j (n / 128) (by rw [Nat.div_lt_iff_lt_mul (by omega)]; rw [Nat.pow_succ] at h; exact h)
      omega
theorem enc_len9 {n : Nat} (h : n ≤ 10 ^ 18) : (enc n).length ≤ 9 := enc_len 8 n (by omega)
theorem enc_pos (n : Nat) : 0 < (enc n).length := by
  rw [enc]; split <;> simp
theorem enc_last : ∀ (n : Nat), n ≠ 0 → ∃ A x, enc n = A ++ [x] ∧ 0 < x
  | n, hn => by
    by_cases h : n < 128
    · exact ⟨[], n, by rw [enc_lo h]; rfl, by omega⟩
    · obtain ⟨A, x, e, hx⟩ := enc_last (n / 128) (by omega)
      exact ⟨_ :: A, x, by rw [enc_hi (by omega), e]; rfl, hx⟩
termination_by n => n
decreasing_by omega
theorem enc_byte (n : Nat) : ∀ b ∈ enc n, Byte b := by
  intro b hb
  rw [enc] at hb
  split at hb
  · rename_i h
    have : b = n := by simpa using hb
    subst this
    exact ⟨by omega, by omega⟩
  · rcases List.mem_cons.mp hb with h | h
    · subst h; exact ⟨by omega, by omega⟩
    · exact enc_byte (n / 128) b h
termination_by n
decreasing_by omega
def fix : Nat → Nat → List Int
  | _, 0 => []
  | v, m + 1 => fix (v / 256) m ++ [((v % 256 : Nat) : Int)]
theorem fix_len : ∀ (m v : Nat), (fix v m).length = m
  | 0, _ => rfl
  | m + 1, v => by show (fix (v / 256) m ++ [_]).length = _; rw [List.length_append, fix_len m]; rfl
theorem fix_byte : ∀ (m v : Nat), ∀ b ∈ fix v m, Byte b
  | 0, _, b, h => nomatch h
  | m + 1, v, b, h => by
    rcases List.mem_append.mp (show b ∈ fix (v / 256) m ++ [((v % 256 : Nat) : Int)] from h) with h | h
    · exact fix_byte m _ b h
    · have : b = ((v % 256 : Nat) : Int) := by simpa using h
      subst this; exact ⟨by omega, by omega⟩
def unf : Nat → List Int → Nat
  | a, [] => a
  | a, b :: r => unf (a * 256 + b.toNat) r
theorem unf_app : ∀ (l r : List Int) (a : Nat), unf a (l ++ r) = unf (unf a l) r
  | [], _, _ => rfl
  | b :: l, r, a => by show unf _ (l ++ r) = unf (unf _ l) r; rw [unf_app l r]
theorem unf_fix : ∀ (m v : Nat), v < 256 ^ m → unf 0 (fix v m) = v
  | 0, v, h => by simp at h; subst h; rfl
  | m + 1, v, h => by
    show unf 0 (fix (v / 256) m ++ [((v % 256 : Nat) : Int)]) = v
    rw [unf_app, unf_fix m (v / 256) (by rw [Nat.div_lt_iff_lt_mul (by omega)]; rw [Nat.pow_succ] at h; exact h)]
    show v / 256 * 256 + ((v % 256 : Nat) : Int).toNat = v
    rw [Int.toNat_natCast]; omega
theorem unf_lt : ∀ (l : List Int) (a j : Nat), (∀ b ∈ l, Byte b) → a < 256 ^ j → unf a l < 256 ^ (j + l.length)
  | [], a, j, _, h => h
  | b :: l, a, j, hb, h => by
    have hb1 := hb b (List.mem_cons_self ..)
    have := unf_lt l (a * 256 + b.toNat) (j + 1) (fun c hc => hb c (List.mem_cons_of_mem _ hc)) (by
      rw [Nat.pow_succ]
      have : b.toNat ≤ 255 := by have := hb1.2; have := hb1.1; omega
      omega)
    show unf (a * 256 + b.toNat) l < _
    rw [List.length_cons, show j + (l.length + 1) = j + 1 + l.length by omega]
    exact this
/-! the law's source of numbers -/
abbrev rowL (a b c : Int) : List D := [.ref 0, .int a, .int b, .int c]
def RowOk (a b c : Int) : Prop := 0 ≤ a ∧ 0 ≤ b ∧ b < 2147483647 ∧ 0 ≤ c
theorem ix0 {a b c : Int} : ixAt (rowL a b c) 0 = some (.ref 0) := rfl
theorem ix1 {a b c : Int} : ixAt (rowL a b c) 1 = some (.int a) := rfl
theorem ix2 {a b c : Int} : ixAt (rowL a b c) 2 = some (.int b) := rfl
theorem ix3 {a b c : Int} : ixAt (rowL a b c) 3 = some (.int c) := rfl
theorem log48 {b : Int} (h1 : 0 ≤ b) (h2 : b < 2147483647) : b.natAbs.log2 + (48271 : Int).natAbs.log2 < 1000000 := by
  have h : b.natAbs.log2 < 31 := log2_lt (by omega) (by omega)
  have : (48271 : Int).natAbs.log2 = 15 := by decide +kernel
  omega
theorem taken (hT : T[ft]? = some takenFd) {k r : Nat} {many : Int} {s : List Int} {a b c : Int} {G : Store} {P : D → Store → Prop} (hr : r ≠ 0) (hlim : G.lim ≤ r) (h0 : G.lst? 0 = some (s.map .int)) (hrow : G.lst? r = some (rowL a b c)) (ok : RowOk a b c)
    (hm : 0 < many) (hlog : many.natAbs.log2 < 9000) (hP : ∀ v a' b' c', 0 ≤ v → v < many → RowOk a' b' c' → P (.int v) (G.put r (.lst (rowL a' b' c')))) : wp (run T (k + 1) ft [.ref r, .int many] G) P := by
  obtain ⟨k1, k2, k3, k4⟩ := ok
  have hlen := lt_of_lst hrow
  have fin : ∀ {v a' b' c' : Int}, 0 ≤ v → v < many → RowOk a' b' c' → wp (gc G (.ok (.int v) (G.put r (.lst (rowL a' b' c'))))) P := fun {v a' b' c'} h1 h2 h3 => by
    rw [gc_put (Grown.refl _) ?_ rfl]
    · exact hP v a' b' c' h1 h2 h3
    · show (decide (0 < G.cs.length) && _) = true
      rw [decide_eq_true (Nat.lt_of_le_of_lt (Nat.zero_le r) hlen)]; rfl
  have at_ : ∀ {xs : List D}, (G.put r (.lst xs)).lst? r = some xs := fun {xs} => lst_put hlen
  have at0 : ∀ {c : Cell}, (G.put r c).lst? 0 = some (s.map D.int) := fun {c} => by rw [lst_put_ne hr]; exact h0
  refine run_wp (fd := takenFd) hT rfl ?_
  simp only [s_pass, s_nil, s_cons, s_expr, s_set, s_par, s_setIx, s_setKey, s_augIx, s_aug, s_ifs, s_ret, s_retN, s_brk, s_cnt, s_never, w_k, w_v, w_un, w_bin, w_and, w_or, w_ite, w_chain, w_tup, wp_newL, w_lst, w_dic0, w_callD, w_sl, w_rev, w_call, w_bf, w_mt, w_nil, w_cons, w_no, w_some, Tg.bind, bindN, o_add, o_addT, o_sub, o_mul, o_fdiv, o_mod, o_pow, o_eq, o_ne, o_lt, o_le, o_gt, o_ge, o_isT, o_isI, o_isR, o_isN, o_eqB, o_neB, o_not, o_neg, o_lenT, o_int, o_isinI, o_isinT, o_isinB, o_isinI2, o_isinT2, t_ii, t_ib, t_is, t_it, t_il, t_tt, t_tl, t_ts, t_ti, t_tb, t_bb, t_bi, Cut.truthy, zb_bl, Bool.or_false, Bool.false_or, Bool.not_true, Bool.not_false, Bool.true_or, Bool.or_true, tb_dec, tb_some, tb_not, tb_true, tb_false, Cut.start, List.map, List.length, List.replicate, List.append_eq, List.cons_append, List.nil_append, List.getElem?_cons_zero, List.getElem?_cons_succ, List.set_cons_zero, List.set_cons_succ, Nat.reduceAdd, Nat.reduceSub, tyOf, if_true, if_false, Bool.false_eq_true, decide_true, decide_false, wp_ok, takenFd, o_ixL hrow ix3]
  by_cases hc : 0 < c
  · simp only [s_pass, s_nil, s_cons, s_expr, s_set, s_par, s_setIx, s_setKey, s_augIx, s_aug, s_ifs, s_ret, s_retN, s_brk, s_cnt, s_never, w_k, w_v, w_un, w_bin, w_and, w_or, w_ite, w_chain, w_tup, wp_newL, w_lst, w_dic0, w_callD, w_sl, w_rev, w_call, w_bf, w_mt, w_nil, w_cons, w_no, w_some, Tg.bind, bindN, o_add, o_addT, o_sub, o_mul, o_fdiv, o_mod, o_pow, o_eq, o_ne, o_lt, o_le, o_gt, o_ge, o_isT, o_isI, o_isR, o_isN, o_eqB, o_neB, o_not, o_neg, o_lenT, o_int, o_isinI, o_isinT, o_isinB, o_isinI2, o_isinT2, t_ii, t_ib, t_is, t_it, t_il, t_tt, t_tl, t_ts, t_ti, t_tb, t_bb, t_bi, Cut.truthy, zb_bl, Bool.or_false, Bool.false_or, Bool.not_true, Bool.not_false, Bool.true_or, Bool.or_true, tb_dec, tb_some, tb_not, tb_true, tb_false, Cut.start, List.map, List.length, List.replicate, List.append_eq, List.cons_append, List.nil_append, List.getElem?_cons_zero, List.getElem?_cons_succ, List.set_cons_zero, List.set_cons_succ, Nat.reduceAdd, Nat.reduceSub, tyOf, if_true, if_false, Bool.false_eq_true, decide_true, decide_false, wp_ok, hc, o_ixL hrow ix3]
    refine ⟨hm, ⟨hm, hlog⟩, ?_⟩
    rw [setAt_L (i := 3) (k := 3) rfl hrow hlim (by simp)]
    simp only [s_pass, s_nil, s_cons, s_expr, s_set, s_par, s_setIx, s_setKey, s_augIx, s_aug, s_ifs, s_ret, s_retN, s_brk, s_cnt, s_never, w_k, w_v, w_un, w_bin, w_and, w_or, w_ite, w_chain, w_tup, wp_newL, w_lst, w_dic0, w_callD, w_sl, w_rev, w_call, w_bf, w_mt, w_nil, w_cons, w_no, w_some, Tg.bind, bindN, o_add, o_addT, o_sub, o_mul, o_fdiv, o_mod, o_pow, o_eq, o_ne, o_lt, o_le, o_gt, o_ge, o_isT, o_isI, o_isR, o_isN, o_eqB, o_neB, o_not, o_neg, o_lenT, o_int, o_isinI, o_isinT, o_isinB, o_isinI2, o_isinT2, t_ii, t_ib, t_is, t_it, t_il, t_tt, t_tl, t_ts, t_ti, t_tb, t_bb, t_bi, Cut.truthy, zb_bl, Bool.or_false, Bool.false_or, Bool.not_true, Bool.not_false, Bool.true_or, Bool.or_true, tb_dec, tb_some, tb_not, tb_true, tb_false, Cut.start, List.map, List.length, List.replicate, List.append_eq, List.cons_append, List.nil_append, List.getElem?_cons_zero, List.getElem?_cons_succ, List.set_cons_zero, List.set_cons_succ, Nat.reduceAdd, Nat.reduceSub, tyOf, if_true, if_false, Bool.false_eq_true, decide_true, decide_false, wp_ok]
    exact fin (Int.emod_nonneg _ (by omega)) (Int.emod_lt_of_pos _ hm) ⟨k1, k2, k3, Int.ediv_nonneg (by omega) (by omega)⟩
  · simp only [s_pass, s_nil, s_cons, s_expr, s_set, s_par, s_setIx, s_setKey, s_augIx, s_aug, s_ifs, s_ret, s_retN, s_brk, s_cnt, s_never, w_k, w_v, w_un, w_bin, w_and, w_or, w_ite, w_chain, w_tup, wp_newL, w_lst, w_dic0, w_callD, w_sl, w_rev, w_call, w_bf, w_mt, w_nil, w_cons, w_no, w_some, Tg.bind, bindN, o_add, o_addT, o_sub, o_mul, o_fdiv, o_mod, o_pow, o_eq, o_ne, o_lt, o_le, o_gt, o_ge, o_isT, o_isI, o_isR, o_isN, o_eqB, o_neB, o_not, o_neg, o_lenT, o_int, o_isinI, o_isinT, o_isinB, o_isinI2, o_isinT2, t_ii, t_ib, t_is, t_it, t_il, t_tt, t_tl, t_ts, t_ti, t_tb, t_bb, t_bi, Cut.truthy, zb_bl, Bool.or_false, Bool.false_or, Bool.not_true, Bool.not_false, Bool.true_or, Bool.or_true, tb_dec, tb_some, tb_not, tb_true, tb_false, Cut.start, List.map, List.length, List.replicate, List.append_eq, List.cons_append, List.nil_append, List.getElem?_cons_zero, List.getElem?_cons_succ, List.set_cons_zero, List.set_cons_succ, Nat.reduceAdd, Nat.reduceSub, tyOf, if_true, if_false, Bool.false_eq_true, decide_true, decide_false, wp_ok, hc, o_ixL hrow ix1]
    rw [setAt_L (i := 1) (k := 1) rfl hrow hlim (by simp)]
    simp only [s_pass, s_nil, s_cons, s_expr, s_set, s_par, s_setIx, s_setKey, s_augIx, s_aug, s_ifs, s_ret, s_retN, s_brk, s_cnt, s_never, w_k, w_v, w_un, w_bin, w_and, w_or, w_ite, w_chain, w_tup, wp_newL, w_lst, w_dic0, w_callD, w_sl, w_rev, w_call, w_bf, w_mt, w_nil, w_cons, w_no, w_some, Tg.bind, bindN, o_add, o_addT, o_sub, o_mul, o_fdiv, o_mod, o_pow, o_eq, o_ne, o_lt, o_le, o_gt, o_ge, o_isT, o_isI, o_isR, o_isN, o_eqB, o_neB, o_not, o_neg, o_lenT, o_int, o_isinI, o_isinT, o_isinB, o_isinI2, o_isinT2, t_ii, t_ib, t_is, t_it, t_il, t_tt, t_tl, t_ts, t_ti, t_tb, t_bb, t_bi, Cut.truthy, zb_bl, Bool.or_false, Bool.false_or, Bool.not_true, Bool.not_false, Bool.true_or, Bool.or_true, tb_dec, tb_some, tb_not, tb_true, tb_false, Cut.start, List.map, List.length, List.replicate, List.append_eq, List.cons_append, List.nil_append, List.getElem?_cons_zero, List.getElem?_cons_succ, List.set_cons_zero, List.set_cons_succ, Nat.reduceAdd, Nat.reduceSub, tyOf, if_true, if_false, Bool.false_eq_true, decide_true, decide_false, wp_ok, o_ixL at_ (ix1 (a := a + 1) (b := b) (c := c)), o_ixL at_ (ix0 (a := a + 1) (b := b) (c := c)), o_lenL at0]
    have at1 : (G.put r (.lst (rowL (a + 1) b c))).lst? r = some (rowL (a + 1) b c) := at_
    by_cases hs : ((s.map D.int).length : Int) < a + 1
    · simp only [s_pass, s_nil, s_cons, s_expr, s_set, s_par, s_setIx, s_setKey, s_augIx, s_aug, s_ifs, s_ret, s_retN, s_brk, s_cnt, s_never, w_k, w_v, w_un, w_bin, w_and, w_or, w_ite, w_chain, w_tup, wp_newL, w_lst, w_dic0, w_callD, w_sl, w_rev, w_call, w_bf, w_mt, w_nil, w_cons, w_no, w_some, Tg.bind, bindN, o_add, o_addT, o_sub, o_mul, o_fdiv, o_mod, o_pow, o_eq, o_ne, o_lt, o_le, o_gt, o_ge, o_isT, o_isI, o_isR, o_isN, o_eqB, o_neB, o_not, o_neg, o_lenT, o_int, o_isinI, o_isinT, o_isinB, o_isinI2, o_isinT2, t_ii, t_ib, t_is, t_it, t_il, t_tt, t_tl, t_ts, t_ti, t_tb, t_bb, t_bi, Cut.truthy, zb_bl, Bool.or_false, Bool.false_or, Bool.not_true, Bool.not_false, Bool.true_or, Bool.or_true, tb_dec, tb_some, tb_not, tb_true, tb_false, Cut.start, List.map, List.length, List.replicate, List.append_eq, List.cons_append, List.nil_append, List.getElem?_cons_zero, List.getElem?_cons_succ, List.set_cons_zero, List.set_cons_succ, Nat.reduceAdd, Nat.reduceSub, tyOf, if_true, if_false, Bool.false_eq_true, decide_true, decide_false, wp_ok, hs, o_ixL at_ (ix2 (a := a + 1) (b := b) (c := c))]
      refine ⟨log48 k2 k3, by decide, ?_⟩
      rw [setAt_L (i := 2) (k := 2) rfl at_ hlim (by simp)]
      have hb' : 0 ≤ (b * 48271 + 11) % 2147483647 ∧ (b * 48271 + 11) % 2147483647 < 2147483647 := ⟨Int.emod_nonneg _ (by omega), Int.emod_lt_of_pos _ (by omega)⟩
      simp only [s_pass, s_nil, s_cons, s_expr, s_set, s_par, s_setIx, s_setKey, s_augIx, s_aug, s_ifs, s_ret, s_retN, s_brk, s_cnt, s_never, w_k, w_v, w_un, w_bin, w_and, w_or, w_ite, w_chain, w_tup, wp_newL, w_lst, w_dic0, w_callD, w_sl, w_rev, w_call, w_bf, w_mt, w_nil, w_cons, w_no, w_some, Tg.bind, bindN, o_add, o_addT, o_sub, o_mul, o_fdiv, o_mod, o_pow, o_eq, o_ne, o_lt, o_le, o_gt, o_ge, o_isT, o_isI, o_isR, o_isN, o_eqB, o_neB, o_not, o_neg, o_lenT, o_int, o_isinI, o_isinT, o_isinB, o_isinI2, o_isinT2, t_ii, t_ib, t_is, t_it, t_il, t_tt, t_tl, t_ts, t_ti, t_tb, t_bb, t_bi, Cut.truthy, zb_bl, Bool.or_false, Bool.false_or, Bool.not_true, Bool.not_false, Bool.true_or, Bool.or_true, tb_dec, tb_some, tb_not, tb_true, tb_false, Cut.start, List.map, List.length, List.replicate, List.append_eq, List.cons_append, List.nil_append, List.getElem?_cons_zero, List.getElem?_cons_succ, List.set_cons_zero, List.set_cons_succ, Nat.reduceAdd, Nat.reduceSub, tyOf, if_true, if_false, Bool.false_eq_true, decide_true, decide_false, wp_ok, put_put, o_ixL at_ (ix2 (a := a + 1) (b := (b * 48271 + 11) % 2147483647) (c := c))]
      refine ⟨⟨by decide, by decide +kernel⟩, hm, ?_⟩
      exact fin (Int.emod_nonneg _ (by omega)) (Int.emod_lt_of_pos _ hm) ⟨by omega, hb'.1, hb'.2, k4⟩
    · simp only [s_pass, s_nil, s_cons, s_expr, s_set, s_par, s_setIx, s_setKey, s_augIx, s_aug, s_ifs, s_ret, s_retN, s_brk, s_cnt, s_never, w_k, w_v, w_un, w_bin, w_and, w_or, w_ite, w_chain, w_tup, wp_newL, w_lst, w_dic0, w_callD, w_sl, w_rev, w_call, w_bf, w_mt, w_nil, w_cons, w_no, w_some, Tg.bind, bindN, o_add, o_addT, o_sub, o_mul, o_fdiv, o_mod, o_pow, o_eq, o_ne, o_lt, o_le, o_gt, o_ge, o_isT, o_isI, o_isR, o_isN, o_eqB, o_neB, o_not, o_neg, o_lenT, o_int, o_isinI, o_isinT, o_isinB, o_isinI2, o_isinT2, t_ii, t_ib, t_is, t_it, t_il, t_tt, t_tl, t_ts, t_ti, t_tb, t_bb, t_bi, Cut.truthy, zb_bl, Bool.or_false, Bool.false_or, Bool.not_true, Bool.not_false, Bool.true_or, Bool.or_true, tb_dec, tb_some, tb_not, tb_true, tb_false, Cut.start, List.map, List.length, List.replicate, List.append_eq, List.cons_append, List.nil_append, List.getElem?_cons_zero, List.getElem?_cons_succ, List.set_cons_zero, List.set_cons_succ, Nat.reduceAdd, Nat.reduceSub, tyOf, if_true, if_false, Bool.false_eq_true, decide_true, decide_false, wp_ok, hs]
      obtain ⟨x, hx⟩ : ∃ x, ixAt (s.map D.int) (a + 1 - 1) = some (.int x) := by
        obtain ⟨n, hn⟩ := Int.eq_ofNat_of_zero_le k1
        rw [List.length_map] at hs
        have hlt : n < s.length := by omega
        refine ⟨s[n], ?_⟩
        rw [show a + 1 - 1 = (n : Int) by omega]
        refine ixAt_nat ?_
        rw [List.getElem?_map, List.getElem?_eq_getElem hlt]; rfl
      simp only [s_pass, s_nil, s_cons, s_expr, s_set, s_par, s_setIx, s_setKey, s_augIx, s_aug, s_ifs, s_ret, s_retN, s_brk, s_cnt, s_never, w_k, w_v, w_un, w_bin, w_and, w_or, w_ite, w_chain, w_tup, wp_newL, w_lst, w_dic0, w_callD, w_sl, w_rev, w_call, w_bf, w_mt, w_nil, w_cons, w_no, w_some, Tg.bind, bindN, o_add, o_addT, o_sub, o_mul, o_fdiv, o_mod, o_pow, o_eq, o_ne, o_lt, o_le, o_gt, o_ge, o_isT, o_isI, o_isR, o_isN, o_eqB, o_neB, o_not, o_neg, o_lenT, o_int, o_isinI, o_isinT, o_isinB, o_isinI2, o_isinT2, t_ii, t_ib, t_is, t_it, t_il, t_tt, t_tl, t_ts, t_ti, t_tb, t_bb, t_bi, Cut.truthy, zb_bl, Bool.or_false, Bool.false_or, Bool.not_true, Bool.not_false, Bool.true_or, Bool.or_true, tb_dec, tb_some, tb_not, tb_true, tb_false, Cut.start, List.map, List.length, List.replicate, List.append_eq, List.cons_append, List.nil_append, List.getElem?_cons_zero, List.getElem?_cons_succ, List.set_cons_zero, List.set_cons_succ, Nat.reduceAdd, Nat.reduceSub, tyOf, if_true, if_false, Bool.false_eq_true, decide_true, decide_false, wp_ok, o_ixL at_ (ix0 (a := a + 1) (b := b) (c := c)), o_ixL at_ (ix1 (a := a + 1) (b := b) (c := c)), o_ixL at0 hx, o_ixL at_ (ix2 (a := a + 1) (b := b) (c := c))]
      refine ⟨log48 k2 k3, by decide, ?_⟩
      rw [setAt_L (i := 2) (k := 2) rfl at_ hlim (by simp)]
      have hb' : 0 ≤ (b * 48271 + x + 11) % 2147483647 ∧ (b * 48271 + x + 11) % 2147483647 < 2147483647 := ⟨Int.emod_nonneg _ (by omega), Int.emod_lt_of_pos _ (by omega)⟩
      simp only [s_pass, s_nil, s_cons, s_expr, s_set, s_par, s_setIx, s_setKey, s_augIx, s_aug, s_ifs, s_ret, s_retN, s_brk, s_cnt, s_never, w_k, w_v, w_un, w_bin, w_and, w_or, w_ite, w_chain, w_tup, wp_newL, w_lst, w_dic0, w_callD, w_sl, w_rev, w_call, w_bf, w_mt, w_nil, w_cons, w_no, w_some, Tg.bind, bindN, o_add, o_addT, o_sub, o_mul, o_fdiv, o_mod, o_pow, o_eq, o_ne, o_lt, o_le, o_gt, o_ge, o_isT, o_isI, o_isR, o_isN, o_eqB, o_neB, o_not, o_neg, o_lenT, o_int, o_isinI, o_isinT, o_isinB, o_isinI2, o_isinT2, t_ii, t_ib, t_is, t_it, t_il, t_tt, t_tl, t_ts, t_ti, t_tb, t_bb, t_bi, Cut.truthy, zb_bl, Bool.or_false, Bool.false_or, Bool.not_true, Bool.not_false, Bool.true_or, Bool.or_true, tb_dec, tb_some, tb_not, tb_true, tb_false, Cut.start, List.map, List.length, List.replicate, List.append_eq, List.cons_append, List.nil_append, List.getElem?_cons_zero, List.getElem?_cons_succ, List.set_cons_zero, List.set_cons_succ, Nat.reduceAdd, Nat.reduceSub, tyOf, if_true, if_false, Bool.false_eq_true, decide_true, decide_false, wp_ok, put_put]
      refine ⟨by decide, ?_⟩
      by_cases hx18 : (10 : Int) ^ Int.toNat 18 ≤ x
      · simp only [s_pass, s_nil, s_cons, s_expr, s_set, s_par, s_setIx, s_setKey, s_augIx, s_aug, s_ifs, s_ret, s_retN, s_brk, s_cnt, s_never, w_k, w_v, w_un, w_bin, w_and, w_or, w_ite, w_chain, w_tup, wp_newL, w_lst, w_dic0, w_callD, w_sl, w_rev, w_call, w_bf, w_mt, w_nil, w_cons, w_no, w_some, Tg.bind, bindN, o_add, o_addT, o_sub, o_mul, o_fdiv, o_mod, o_pow, o_eq, o_ne, o_lt, o_le, o_gt, o_ge, o_isT, o_isI, o_isR, o_isN, o_eqB, o_neB, o_not, o_neg, o_lenT, o_int, o_isinI, o_isinT, o_isinB, o_isinI2, o_isinT2, t_ii, t_ib, t_is, t_it, t_il, t_tt, t_tl, t_ts, t_ti, t_tb, t_bb, t_bi, Cut.truthy, zb_bl, Bool.or_false, Bool.false_or, Bool.not_true, Bool.not_false, Bool.true_or, Bool.or_true, tb_dec, tb_some, tb_not, tb_true, tb_false, Cut.start, List.map, List.length, List.replicate, List.append_eq, List.cons_append, List.nil_append, List.getElem?_cons_zero, List.getElem?_cons_succ, List.set_cons_zero, List.set_cons_succ, Nat.reduceAdd, Nat.reduceSub, tyOf, if_true, if_false, Bool.false_eq_true, decide_true, decide_false, wp_ok, hx18]
        refine ⟨⟨hm, hlog⟩, ?_⟩
        rw [setAt_L (i := 3) (k := 3) rfl at_ hlim (by simp)]
        simp only [s_pass, s_nil, s_cons, s_expr, s_set, s_par, s_setIx, s_setKey, s_augIx, s_aug, s_ifs, s_ret, s_retN, s_brk, s_cnt, s_never, w_k, w_v, w_un, w_bin, w_and, w_or, w_ite, w_chain, w_tup, wp_newL, w_lst, w_dic0, w_callD, w_sl, w_rev, w_call, w_bf, w_mt, w_nil, w_cons, w_no, w_some, Tg.bind, bindN, o_add, o_addT, o_sub, o_mul, o_fdiv, o_mod, o_pow, o_eq, o_ne, o_lt, o_le, o_gt, o_ge, o_isT, o_isI, o_isR, o_isN, o_eqB, o_neB, o_not, o_neg, o_lenT, o_int, o_isinI, o_isinT, o_isinB, o_isinI2, o_isinT2, t_ii, t_ib, t_is, t_it, t_il, t_tt, t_tl, t_ts, t_ti, t_tb, t_bb, t_bi, Cut.truthy, zb_bl, Bool.or_false, Bool.false_or, Bool.not_true, Bool.not_false, Bool.true_or, Bool.or_true, tb_dec, tb_some, tb_not, tb_true, tb_false, Cut.start, List.map, List.length, List.replicate, List.append_eq, List.cons_append, List.nil_append, List.getElem?_cons_zero, List.getElem?_cons_succ, List.set_cons_zero, List.set_cons_succ, Nat.reduceAdd, Nat.reduceSub, tyOf, if_true, if_false, Bool.false_eq_true, decide_true, decide_false, wp_ok, put_put]
        refine ⟨hm, ?_⟩
        exact fin (Int.emod_nonneg _ (by omega)) (Int.emod_lt_of_pos _ hm) ⟨by omega, hb'.1, hb'.2, Int.ediv_nonneg (Int.le_trans (by decide) hx18) (by omega)⟩
      · simp only [s_pass, s_nil, s_cons, s_expr, s_set, s_par, s_setIx, s_setKey, s_augIx, s_aug, s_ifs, s_ret, s_retN, s_brk, s_cnt, s_never, w_k, w_v, w_un, w_bin, w_and, w_or, w_ite, w_chain, w_tup, wp_newL, w_lst, w_dic0, w_callD, w_sl, w_rev, w_call, w_bf, w_mt, w_nil, w_cons, w_no, w_some, Tg.bind, bindN, o_add, o_addT, o_sub, o_mul, o_fdiv, o_mod, o_pow, o_eq, o_ne, o_lt, o_le, o_gt, o_ge, o_isT, o_isI, o_isR, o_isN, o_eqB, o_neB, o_not, o_neg, o_lenT, o_int, o_isinI, o_isinT, o_isinB, o_isinI2, o_isinT2, t_ii, t_ib, t_is, t_it, t_il, t_tt, t_tl, t_ts, t_ti, t_tb, t_bb, t_bi, Cut.truthy, zb_bl, Bool.or_false, Bool.false_or, Bool.not_true, Bool.not_false, Bool.true_or, Bool.or_true, tb_dec, tb_some, tb_not, tb_true, tb_false, Cut.start, List.map, List.length, List.replicate, List.append_eq, List.cons_append, List.nil_append, List.getElem?_cons_zero, List.getElem?_cons_succ, List.set_cons_zero, List.set_cons_succ, Nat.reduceAdd, Nat.reduceSub, tyOf, if_true, if_false, Bool.false_eq_true, decide_true, decide_false, wp_ok, hx18]
        refine ⟨hm, ?_⟩
        exact fin (Int.emod_nonneg _ (by omega)) (Int.emod_lt_of_pos _ hm) ⟨by omega, hb'.1, hb'.2, k4⟩
theorem pick (hT : T[ft]? = some takenFd) (hP14 : T[fp]? = some (pickFd ft)) {k r e : Nat} {xs : List D} {s : List Int} {a b c : Int} {G : Store} {P : D → Store → Prop} (hr : r ≠ 0) (hlim : G.lim ≤ r) (h0 : G.lst? 0 = some (s.map .int)) (hrow : G.lst? r = some (rowL a b c)) (ok : RowOk a b c)
    (he : G.lst? e = some xs) (hne : r ≠ e) (hpos : 0 < xs.length) (hsm : xs.length < 2 ^ 20) (hb : belows G.cs.length xs = true) (hP : ∀ x ∈ xs, ∀ a' b' c', RowOk a' b' c' → P x (G.put r (.lst (rowL a' b' c')))) : wp (run T (k + 2) fp [.ref r, .ref e] G) P := by
  have hlen := lt_of_lst hrow
  refine run_wp (fd := pickFd ft) hP14 rfl ?_
  simp only [s_pass, s_nil, s_cons, s_expr, s_set, s_par, s_setIx, s_setKey, s_augIx, s_aug, s_ifs, s_ret, s_retN, s_brk, s_cnt, s_never, w_k, w_v, w_un, w_bin, w_and, w_or, w_ite, w_chain, w_tup, wp_newL, w_lst, w_dic0, w_callD, w_sl, w_rev, w_call, w_bf, w_mt, w_nil, w_cons, w_no, w_some, Tg.bind, bindN, o_add, o_addT, o_sub, o_mul, o_fdiv, o_mod, o_pow, o_eq, o_ne, o_lt, o_le, o_gt, o_ge, o_isT, o_isI, o_isR, o_isN, o_eqB, o_neB, o_not, o_neg, o_lenT, o_int, o_isinI, o_isinT, o_isinB, o_isinI2, o_isinT2, t_ii, t_ib, t_is, t_it, t_il, t_tt, t_tl, t_ts, t_ti, t_tb, t_bb, t_bi, Cut.truthy, zb_bl, Bool.or_false, Bool.false_or, Bool.not_true, Bool.not_false, Bool.true_or, Bool.or_true, tb_dec, tb_some, tb_not, tb_true, tb_false, Cut.start, List.map, List.length, List.replicate, List.append_eq, List.cons_append, List.nil_append, List.getElem?_cons_zero, List.getElem?_cons_succ, List.set_cons_zero, List.set_cons_succ, Nat.reduceAdd, Nat.reduceSub, tyOf, if_true, if_false, Bool.false_eq_true, decide_true, decide_false, wp_ok, pickFd, o_lenL he]
  refine taken hT hr hlim h0 hrow ok (by omega) (Nat.lt_trans (log2_lt (k := 20) (by omega) (by omega)) (by omega)) fun v a' b' c' h1 h2 ok' => ?_
  obtain ⟨n, hn⟩ := Int.eq_ofNat_of_zero_le h1
  have hlt : n < xs.length := by omega
  have hix : ixAt xs v = some xs[n] := by rw [hn]; exact ixAt_nat (List.getElem?_eq_getElem hlt)
  rw [o_ixL (by rw [lst_put_ne hne]; exact he) hix]
  have hbel : ∀ {xs : List D}, belows G.cs.length xs = true → ∀ x ∈ xs, below G.cs.length x = true := by
    intro xs
    induction xs with
    | nil => intro _ x hx; cases hx
    | cons y ys ih =>
      intro h x hx
      unfold belows at h
      rw [Bool.and_eq_true] at h
      rcases List.mem_cons.mp hx with e | e
      · rw [e]; exact h.1
      · exact ih h.2 x e
  rw [gc_put (Grown.refl _) ?_ (hbel hb _ (List.getElem_mem hlt))]
  · exact hP _ (List.getElem_mem hlt) a' b' c' ok'
  · show (decide (0 < G.cs.length) && _) = true
    rw [decide_eq_true (Nat.lt_of_le_of_lt (Nat.zero_le r) hlen)]; rfl
/-- amid a def that was called at B: the row at r stands, things have been made -/
structure Rw (B : Store) (r : Nat) (s : List Int) (G : Store) : Prop where
  r0 : r ≠ 0
  lim : B.lim ≤ r
  lt : r < B.cs.length
  scr : B.lst? 0 = some (s.map .int)
  row : ∃ a b c, RowOk a b c ∧ Grown (B.put r (.lst (rowL a b c))) G
/-- ahead of a call: the row stands -/
structure Rb (r : Nat) (s : List Int) (G : Store) : Prop where
  r0 : r ≠ 0
  lim : G.lim ≤ r
  scr : G.lst? 0 = some (s.map .int)
  row : ∃ a b c, RowOk a b c ∧ G.lst? r = some (rowL a b c)
theorem put_self {G : Store} {r : Nat} {xs : List D} (h : G.lst? r = some xs) : G.put r (.lst xs) = G := by
  unfold Store.lst? at h
  split at h
  · rename_i e
    cases h
    obtain ⟨hl, e⟩ := List.getElem?_eq_some_iff.mp e
    unfold Store.put
    rw [← e, List.set_getElem_self]
  · cases h
section
variable {B G : Store} {r : Nat} {s : List Int} {P : D → Store → Prop}
theorem Rb.start (h : Rb r s G) : Rw G r s G := by
  obtain ⟨h1, h2, h3, a, b, c, ok, h4⟩ := h
  exact ⟨h1, h2, lt_of_lst h4, h3, a, b, c, ok, by rw [put_self h4]; exact .refl _⟩
theorem Rw.rb (h : Rw B r s G) : Rb r s G := by
  obtain ⟨h1, h2, h3, h4, a, b, c, ok, g⟩ := h
  exact ⟨h1, by rw [g.lim]; exact h2, g.lst (by rw [lst_put_ne h1]; exact h4), a, b, c, ok, g.lst (lst_put h3)⟩
theorem Rw.new (h : Rw B r s G) (c : Cell) : Rw B r s (G.new c) := by
  obtain ⟨h1, h2, h3, h4, a, b, c', ok, g⟩ := h
  exact ⟨h1, h2, h3, h4, a, b, c', ok, g.new c⟩
theorem Rw.put (h : Rw B r s G) {a b c : Int} (ok : RowOk a b c) : Rw B r s (G.put r (.lst (rowL a b c))) := by
  obtain ⟨h1, h2, h3, h4, a', b', c', _, g⟩ := h
  refine ⟨h1, h2, h3, h4, a, b, c, ok, ?_⟩
  have := g.put (n := r) (by rw [len_put]; exact h3) (.lst (rowL a b c))
  rw [put_put] at this
  exact this
/-- a cell of its own is written -/
theorem Rw.own (h : Rw B r s G) {n : Nat} (hn : B.cs.length ≤ n) (c : Cell) : Rw B r s (G.put n c) := by
  obtain ⟨h1, h2, h3, h4, a, b, c', ok, g⟩ := h
  exact ⟨h1, h2, h3, h4, a, b, c', ok, g.putNew (by rw [len_put]; exact hn) c⟩
theorem Rw.len (h : Rw B r s G) : B.cs.length ≤ G.cs.length := by
  obtain ⟨_, _, _, _, a, b, c', ok, g⟩ := h
  have := g.len
  rw [len_put] at this; exact this
theorem Rw.glim (h : Rw B r s G) : G.lim = B.lim := by
  obtain ⟨_, _, _, _, a, b, c', ok, g⟩ := h
  exact g.lim
/-- .. and the def's end -/
theorem Rw.fin {d : D} (h : Rw B r s G) (hb : below B.cs.length d = true) (hq : ∀ a b c, RowOk a b c → P d (B.put r (.lst (rowL a b c)))) : wp (gc B (.ok d G)) P := by
  obtain ⟨h1, h2, h3, h4, a, b, c, ok, g⟩ := h
  rw [gc_put g ?_ hb]
  · exact hq a b c ok
  · show (decide (0 < B.cs.length) && _) = true
    rw [decide_eq_true (Nat.lt_of_le_of_lt (Nat.zero_le r) h3)]; rfl
theorem Rb.put (h : Rb r s G) {a b c : Int} (ok : RowOk a b c) : Rb r s (G.put r (.lst (rowL a b c))) := by
  obtain ⟨h1, h2, h3, a', b', c', _, h4⟩ := h
  exact ⟨h1, h2, by rw [lst_put_ne h1]; exact h3, a, b, c, ok, lst_put (lt_of_lst h4)⟩
/-- the state behind a call that moves the row alone -/
structure Mv (r : Nat) (s : List Int) (G G' : Store) : Prop where
  rb : Rb r s G'
  eq : ∃ a b c, RowOk a b c ∧ G' = G.put r (.lst (rowL a b c))
theorem Mv.lst {G' : Store} (m : Mv r s G G') {n : Nat} {xs : List D} (hn : r ≠ n) (h : G.lst? n = some xs) : G'.lst? n = some xs := by
  obtain ⟨_, a, b, c, _, rfl⟩ := m
  rw [lst_put_ne hn]; exact h
theorem Mv.rw {G' : Store} (m : Mv r s G G') (h : Rw B r s G) : Rw B r s G' := by
  obtain ⟨_, a, b, c, ok, rfl⟩ := m
  exact h.put ok
theorem Mv.len {G' : Store} (m : Mv r s G G') : G'.cs.length = G.cs.length := by
  obtain ⟨_, a, b, c, ok, rfl⟩ := m
  exact len_put
theorem taken' (hT : T[ft]? = some takenFd) {k : Nat} {many : Int} (h : Rb r s G) (hm : 0 < many) (hz : many < 2 ^ 70) (hP : ∀ v G', 0 ≤ v → v < many → Mv r s G G' → P (.int v) G') : wp (run T (k + 1) ft [.ref r, .int many] G) P := by
  have h' := h
  obtain ⟨h1, h2, h3, a, b, c, ok, h4⟩ := h
  exact taken hT h1 h2 h3 h4 ok hm (Nat.lt_trans (log2_lt (k := 70) (by omega) (by omega)) (by omega)) fun v a' b' c' q1 q2 ok' => hP v _ q1 q2 ⟨h'.put ok', a', b', c', ok', rfl⟩
theorem pick' (hT : T[ft]? = some takenFd) (hP14 : T[fp]? = some (pickFd ft)) {k e : Nat} {xs : List D} (h : Rb r s G) (he : G.lst? e = some xs) (hne : r ≠ e) (hpos : 0 < xs.length) (hsm : xs.length < 2 ^ 20) (hb : belows G.cs.length xs = true) (hP : ∀ x ∈ xs, ∀ G', Mv r s G G' → P x G') : wp (run T (k + 2) fp [.ref r, .ref e] G) P := by
  have h' := h
  obtain ⟨h1, h2, h3, a, b, c, ok, h4⟩ := h
  exact pick hT hP14 h1 h2 h3 h4 ok he hne hpos hsm hb fun x hx a' b' c' ok' => hP x hx _ ⟨h'.put ok', a', b', c', ok', rfl⟩
/-- a def's end, as its caller sees it -/
theorem Rw.out {d : D} (h : Rw B r s G) (hrb : Rb r s B) (hb : below B.cs.length d = true) (hP : ∀ G', Mv r s B G' → P d G') : wp (gc B (.ok d G)) P := by
  exact h.fin hb fun a b c ok => hP _ ⟨hrb.put ok, a, b, c, ok, rfl⟩
theorem in_ints {xs : List Int} {d : D} (h : d ∈ xs.map D.int) : ∃ x ∈ xs, d = .int x := by
  obtain ⟨x, hx, e⟩ := List.mem_map.mp h
  exact ⟨x, hx, e.symm⟩
theorem number (hT : T[ft]? = some takenFd) (hP14 : T[fp]? = some (pickFd ft)) (hN : T[fn]? = some (numberFd ft fp)) {k : Nat} (h : Rb r s B) (hP : ∀ (n : Nat) G', n ≤ 10 ^ 18 → Mv r s B G' → P (.int n) G') : wp (run T (k + 3) fn [.ref r] B) P := by
  refine run_wp (fd := numberFd ft fp) hN rfl ?_
  simp only [s_pass, s_nil, s_cons, s_expr, s_set, s_par, s_setIx, s_setKey, s_augIx, s_aug, s_ifs, s_ret, s_retN, s_brk, s_cnt, s_never, w_k, w_v, w_un, w_bin, w_and, w_or, w_ite, w_chain, w_tup, wp_newL, w_lst, w_dic0, w_callD, w_sl, w_rev, w_call, w_bf, w_mt, w_nil, w_cons, w_no, w_some, Tg.bind, bindN, o_add, o_addT, o_sub, o_mul, o_fdiv, o_mod, o_pow, o_eq, o_ne, o_lt, o_le, o_gt, o_ge, o_isT, o_isI, o_isR, o_isN, o_eqB, o_neB, o_not, o_neg, o_lenT, o_int, o_isinI, o_isinT, o_isinB, o_isinI2, o_isinT2, t_ii, t_ib, t_is, t_it, t_il, t_tt, t_tl, t_ts, t_ti, t_tb, t_bb, t_bi, Cut.truthy, zb_bl, Bool.or_false, Bool.false_or, Bool.not_true, Bool.not_false, Bool.true_or, Bool.or_true, tb_dec, tb_some, tb_not, tb_true, tb_false, Cut.start, List.map, List.length, List.replicate, List.append_eq, List.cons_append, List.nil_append, List.getElem?_cons_zero, List.getElem?_cons_succ, List.set_cons_zero, List.set_cons_succ, Nat.reduceAdd, Nat.reduceSub, tyOf, if_true, if_false, Bool.false_eq_true, decide_true, decide_false, wp_ok, numberFd]
  refine ⟨by decide, by decide, by decide, ?_⟩
  have w0 := h.start.new (.lst [D.int 0, D.int 127, D.int 128, D.int 16383, D.int 16384, D.int 255, D.int 256, D.int (10 ^ Int.toNat 18), D.int (10 ^ Int.toNat 18 - 1), D.int 2097152])
  have e0 := lst_new (G := B) (xs := [D.int 0, D.int 127, D.int 128, D.int 16383, D.int 16384, D.int 255, D.int 256, D.int (10 ^ Int.toNat 18), D.int (10 ^ Int.toNat 18 - 1), D.int 2097152])
  have hrl := h.start.lt
  have hne : r ≠ B.cs.length := by omega
  refine taken' hT w0.rb (by omega) (by omega) fun v1 G1 a1 a2 m1 => ?_
  have e1 := m1.lst hne e0
  refine pick' hT hP14 m1.rb e1 hne (by decide) (by decide) (by rfl) fun x hx G2 m2 => ?_
  obtain ⟨x, hx0, hx1, rfl⟩ : ∃ x' : Int, 0 ≤ x' ∧ x' ≤ 10 ^ 18 ∧ x = .int x' := by
    simp only [List.mem_cons, List.not_mem_nil, or_false] at hx
    rcases hx with rfl | rfl | rfl | rfl | rfl | rfl | rfl | rfl | rfl | rfl <;> exact ⟨_, by decide, by decide, rfl⟩
  refine ⟨by decide, ?_⟩
  refine taken' hT m2.rb (by decide) (by decide) fun v3 G3 c1 c2 m3 => ?_
  refine ⟨by decide, ?_⟩
  refine taken' hT m3.rb (by decide) (by decide) fun v4 G4 f1 f2 m4 => ?_
  refine ⟨by decide, ?_⟩
  have w4 := m4.rw (m3.rw (m2.rw (m1.rw w0)))
  have hl4 := w4.len
  have w5 := w4.new (.lst [D.int v1, D.int x, D.int v3, D.int v4, D.int 5])
  refine taken' hT w5.rb (by decide) (by decide) fun v6 G6 g1 g2 m6 => ?_
  have e6 := m6.lst (n := G4.cs.length) (by omega) lst_new
  have w6 := m6.rw w5
  obtain ⟨n, rfl⟩ := Int.eq_ofNat_of_zero_le g1
  have hn5 : n < 5 := by omega
  have fin : ∀ y : Int, 0 ≤ y → y ≤ 10 ^ 18 → ixAt [D.int v1, D.int x, D.int v3, D.int v4, D.int 5] (n : Int) = some (.int y) → wp (op2 .ix (.ref G4.cs.length) (.int (n : Int)) G6) fun d G' => wp (gc B (R.ok d G')) P := fun y y1 y2 hy => by
    rw [o_ixL e6 hy]
    refine w6.out h rfl fun G' m => ?_
    obtain ⟨z, rfl⟩ := Int.eq_ofNat_of_zero_le y1
    exact hP z G' (by omega) m
  have c18 : (10 : Int) ^ Int.toNat 18 = 10 ^ 18 := by decide
  have c6 : (10 : Int) ^ Int.toNat 6 = 10 ^ 6 := by decide
  rcases n with _ | _ | _ | _ | _ | n
  · exact fin v1 a1 (by omega) rfl
  · exact fin x hx0 hx1 rfl
  · exact fin v3 c1 (by omega) rfl
  · exact fin v4 f1 (by omega) rfl
  · exact fin 5 (by decide) (by decide) rfl
  · omega
end
def Al : Nat → D → Prop
  | _, .int _ => True
  | _, .bl _ => True
  | _, .non => True
  | _, .str s => PyData.strOk ⟨s.toArray⟩ = true
  | n + 1, .tup xs => xs.length < 2 ^ 20 ∧ ∀ x ∈ xs, Al n x
  | _, _ => False
section
variable {G : Store} {P : D → Store → Prop}
theorem o_eqSS {a : List Nat} (h : PyData.strOk ⟨a.toArray⟩ = true) : wp (op2 .eq (.str a) (.str a) G) P = P (.bl true) G := by
  show wp (okO (eqD G (.str a) (.str a)) G) P = _
  have : eqD G (.str a) (.str a) = some true := by
    show (if SeqAt.shaped (.str _) && SeqAt.shaped (.str _) then some (PyData.eqv (.str _) (.str _)) else none) = _
    simp [SeqAt.shaped, PyData.canLay0, PyData.depth, PyData.eqv, h]
  rw [this]; rfl
theorem o_eqNN : wp (op2 .eq .non .non G) P = P (.bl true) G := rfl
theorem o_isS {s : List Nat} : wp (op2 .is (.str s) .non G) P = P (.bl false) G := rfl
theorem o_isBl {s : Bool} : wp (op2 .is (.bl s) .non G) P = P (.bl false) G := rfl
theorem o_isinS {s : List Nat} {b : Ty} : wp (bf .isin [.str s, .ty b] G) P = P (.bl (isTy .str b)) G := rfl
theorem o_isinN {b : Ty} : wp (bf .isin [.non, .ty b] G) P = P (.bl (isTy .none b)) G := rfl
theorem o_isinS2 {s : List Nat} {b c : Ty} : wp (bf .isin [.str s, .tup [.ty b, .ty c]] G) P = P (.bl (isTy .str b || (isTy .str c || false))) G := rfl
theorem o_isinN2 {b c : Ty} : wp (bf .isin [.non, .tup [.ty b, .ty c]] G) P = P (.bl (isTy .none b || (isTy .none c || false))) G := rfl
theorem o_isinB2 {s : Bool} {b c : Ty} : wp (bf .isin [.bl s, .tup [.ty b, .ty c]] G) P = P (.bl (isTy .bool b || (isTy .bool c || false))) G := rfl
theorem t_ss : isTy .str .str = true := rfl
theorem t_si : isTy .str .int = false := rfl
theorem t_sb : isTy .str .bool = false := rfl
theorem t_st : isTy .str .tuple = false := rfl
theorem t_sl : isTy .str .list = false := rfl
theorem t_ni : isTy .none .int = false := rfl
theorem t_nb : isTy .none .bool = false := rfl
theorem t_ns : isTy .none .str = false := rfl
theorem t_nt : isTy .none .tuple = false := rfl
theorem t_nl : isTy .none .list = false := rfl
theorem t_bs : isTy .bool .str = false := rfl
theorem t_bt : isTy .bool .tuple = false := rfl
theorem t_bl : isTy .bool .list = false := rfl
end
theorem eq_nil {G : Store} {m n : Nat} {P : D → Store → Prop} (h1 : G.lst? m = some []) (h2 : G.lst? n = some []) : wp (op2 .eq (.ref m) (.ref n) G) P = P (.bl true) G := by
  show wp (okO (eqD G (.ref m) (.ref n)) G) P = _
  have e : ∀ j, G.lst? j = some [] → pyD 8 G (.ref j) = some (.list []) := fun j hj => by
    show (match G.lst? j with | some xs => (pyWs (fun j => pyD 7 G (.ref j)) xs).map PyData.list | none => none) = _
    rw [hj]; rfl
  unfold eqD
  rw [e m h1, e n h2]
  rfl
theorem alike (hA : T[fa]? = some (alikeFd fa)) : ∀ (n : Nat) (d : D), Al n d → ∀ (k : Nat) (G : Store), n ≤ k → G.lim ≤ G.cs.length → run T (k + 1) fa [d, d] G = .ok (.bl true) G
  | n, .int i, _, k, G, hk, hlim => by
    refine eq_of_wp (run_wp (fd := alikeFd fa) hA rfl ?_)
    simp only [s_pass, s_nil, s_cons, s_expr, s_set, s_par, s_setIx, s_setKey, s_augIx, s_aug, s_ifs, s_ret, s_retN, s_brk, s_cnt, s_never, w_k, w_v, w_un, w_bin, w_and, w_or, w_ite, w_chain, w_tup, wp_newL, w_lst, w_dic0, w_callD, w_sl, w_rev, w_call, w_bf, w_mt, w_nil, w_cons, w_no, w_some, Tg.bind, bindN, o_add, o_addT, o_sub, o_mul, o_fdiv, o_mod, o_pow, o_eq, o_ne, o_lt, o_le, o_gt, o_ge, o_isT, o_isI, o_isR, o_isN, o_eqB, o_neB, o_not, o_neg, o_lenT, o_int, o_isinI, o_isinT, o_isinB, o_isinI2, o_isinT2, t_ii, t_ib, t_is, t_it, t_il, t_tt, t_tl, t_ts, t_ti, t_tb, t_bb, t_bi, Cut.truthy, zb_bl, Bool.or_false, Bool.false_or, Bool.not_true, Bool.not_false, Bool.true_or, Bool.or_true, tb_dec, tb_some, tb_not, tb_true, tb_false, Cut.start, List.map, List.length, List.replicate, List.append_eq, List.cons_append, List.nil_append, List.getElem?_cons_zero, List.getElem?_cons_succ, List.set_cons_zero, List.set_cons_succ, Nat.reduceAdd, Nat.reduceSub, tyOf, if_true, if_false, Bool.false_eq_true, decide_true, decide_false, wp_ok, alikeFd]
    refine ⟨by decide, ?_⟩
    rw [gc_id rfl]
    exact ⟨rfl, rfl⟩
  | n + 1, .tup xs, ⟨hz, h⟩, k, G, hk, hlim => by
    obtain ⟨k, rfl⟩ : ∃ j, k = j + 1 := ⟨k - 1, by omega⟩
    refine eq_of_wp (run_wp (fd := alikeFd fa) hA rfl ?_)
    simp only [s_pass, s_nil, s_cons, s_expr, s_set, s_par, s_setIx, s_setKey, s_augIx, s_aug, s_ifs, s_ret, s_retN, s_brk, s_cnt, s_never, w_k, w_v, w_un, w_bin, w_and, w_or, w_ite, w_chain, w_tup, wp_newL, w_lst, w_dic0, w_callD, w_sl, w_rev, w_call, w_bf, w_mt, w_nil, w_cons, w_no, w_some, Tg.bind, bindN, o_add, o_addT, o_sub, o_mul, o_fdiv, o_mod, o_pow, o_eq, o_ne, o_lt, o_le, o_gt, o_ge, o_isT, o_isI, o_isR, o_isN, o_eqB, o_neB, o_not, o_neg, o_lenT, o_int, o_isinI, o_isinT, o_isinB, o_isinI2, o_isinT2, t_ii, t_ib, t_is, t_it, t_il, t_tt, t_tl, t_ts, t_ti, t_tb, t_bb, t_bi, Cut.truthy, zb_bl, Bool.or_false, Bool.false_or, Bool.not_true, Bool.not_false, Bool.true_or, Bool.or_true, tb_dec, tb_some, tb_not, tb_true, tb_false, Cut.start, List.map, List.length, List.replicate, List.append_eq, List.cons_append, List.nil_append, List.getElem?_cons_zero, List.getElem?_cons_succ, List.set_cons_zero, List.set_cons_succ, Nat.reduceAdd, Nat.reduceSub, tyOf, if_true, if_false, Bool.false_eq_true, decide_true, decide_false, wp_ok, alikeFd, w_comp, i_rng1]
    refine ⟨by decide, by decide, by omega, by omega, ?_⟩
    rw [Int.toNat_natCast]
    refine (compGo_inv (k := xs.length) (fun i G' => Grown G G' ∧ G'.lst? G.cs.length = some []) (Q := fun G' => Grown G G' ∧ G'.lst? G.cs.length = some []) (by unfold loopFuel; omega) ⟨(Grown.refl G).new _, lst_new⟩ (fun G' hI => ⟨?_, hI⟩) fun i G' hi hI => ?_).imp fun _ G' hI => ?_
    · show some (if xs.length < xs.length then _ else _) = _
      rw [if_neg (Nat.lt_irrefl _)]
    · refine ⟨.int (0 + i), _, by show some (if i < xs.length then _ else _) = _; rw [if_pos hi], rfl, ?_⟩
      have hix : ixAt xs (0 + (i : Int)) = some xs[i] := by rw [Int.zero_add]; exact ixAt_nat (List.getElem?_eq_getElem hi)
      show wp ((ev (Cut.run T (k + 1)) (Ex.un Op1.not (Ex.call fa (Exs.cons (Ex.bin Op2.ix (Ex.v 0) (Ex.v 2)) (Exs.cons (Ex.bin Op2.ix (Ex.v 1) (Ex.v 2)) Exs.nil)))) _ G').bind _) _
      rw [wp_bind]
      simp only [s_pass, s_nil, s_cons, s_expr, s_set, s_par, s_setIx, s_setKey, s_augIx, s_aug, s_ifs, s_ret, s_retN, s_brk, s_cnt, s_never, w_k, w_v, w_un, w_bin, w_and, w_or, w_ite, w_chain, w_tup, wp_newL, w_lst, w_dic0, w_callD, w_sl, w_rev, w_call, w_bf, w_mt, w_nil, w_cons, w_no, w_some, Tg.bind, bindN, o_add, o_addT, o_sub, o_mul, o_fdiv, o_mod, o_pow, o_eq, o_ne, o_lt, o_le, o_gt, o_ge, o_isT, o_isI, o_isR, o_isN, o_eqB, o_neB, o_not, o_neg, o_lenT, o_int, o_isinI, o_isinT, o_isinB, o_isinI2, o_isinT2, t_ii, t_ib, t_is, t_it, t_il, t_tt, t_tl, t_ts, t_ti, t_tb, t_bb, t_bi, Cut.truthy, zb_bl, Bool.or_false, Bool.false_or, Bool.not_true, Bool.not_false, Bool.true_or, Bool.or_true, tb_dec, tb_some, tb_not, tb_true, tb_false, Cut.start, List.map, List.length, List.replicate, List.append_eq, List.cons_append, List.nil_append, List.getElem?_cons_zero, List.getElem?_cons_succ, List.set_cons_zero, List.set_cons_succ, Nat.reduceAdd, Nat.reduceSub, tyOf, if_true, if_false, Bool.false_eq_true, decide_true, decide_false, wp_ok, wipeE, o_ixT hix]
      rw [alike hA n xs[i] (h _ (List.getElem_mem hi)) k G' (by omega) (by have := hI.1.len; have := hI.1.lim; omega)]
      simp only [s_pass, s_nil, s_cons, s_expr, s_set, s_par, s_setIx, s_setKey, s_augIx, s_aug, s_ifs, s_ret, s_retN, s_brk, s_cnt, s_never, w_k, w_v, w_un, w_bin, w_and, w_or, w_ite, w_chain, w_tup, wp_newL, w_lst, w_dic0, w_callD, w_sl, w_rev, w_call, w_bf, w_mt, w_nil, w_cons, w_no, w_some, Tg.bind, bindN, o_add, o_addT, o_sub, o_mul, o_fdiv, o_mod, o_pow, o_eq, o_ne, o_lt, o_le, o_gt, o_ge, o_isT, o_isI, o_isR, o_isN, o_eqB, o_neB, o_not, o_neg, o_lenT, o_int, o_isinI, o_isinT, o_isinB, o_isinI2, o_isinT2, t_ii, t_ib, t_is, t_it, t_il, t_tt, t_tl, t_ts, t_ti, t_tb, t_bb, t_bi, Cut.truthy, zb_bl, Bool.or_false, Bool.false_or, Bool.not_true, Bool.not_false, Bool.true_or, Bool.or_true, tb_dec, tb_some, tb_not, tb_true, tb_false, Cut.start, List.map, List.length, List.replicate, List.append_eq, List.cons_append, List.nil_append, List.getElem?_cons_zero, List.getElem?_cons_succ, List.set_cons_zero, List.set_cons_succ, Nat.reduceAdd, Nat.reduceSub, tyOf, if_true, if_false, Bool.false_eq_true, decide_true, decide_false, wp_ok]
      exact hI
    · obtain ⟨g, hx⟩ := hI
      refine ⟨by decide, ?_⟩
      rw [eq_nil (lst_new_old hx) lst_new, gc_grown (g.new _) rfl]
      exact ⟨rfl, rfl⟩
  | n, .non, _, k, G, hk, hlim => by
    refine eq_of_wp (run_wp (fd := alikeFd fa) hA rfl ?_)
    simp only [s_pass, s_nil, s_cons, s_expr, s_set, s_par, s_setIx, s_setKey, s_augIx, s_aug, s_ifs, s_ret, s_retN, s_brk, s_cnt, s_never, w_k, w_v, w_un, w_bin, w_and, w_or, w_ite, w_chain, w_tup, wp_newL, w_lst, w_dic0, w_callD, w_sl, w_rev, w_call, w_bf, w_mt, w_nil, w_cons, w_no, w_some, Tg.bind, bindN, o_add, o_addT, o_sub, o_mul, o_fdiv, o_mod, o_pow, o_eq, o_ne, o_lt, o_le, o_gt, o_ge, o_isT, o_isI, o_isR, o_isN, o_eqB, o_neB, o_not, o_neg, o_lenT, o_int, o_isinI, o_isinT, o_isinB, o_isinI2, o_isinT2, t_ii, t_ib, t_is, t_it, t_il, t_tt, t_tl, t_ts, t_ti, t_tb, t_bb, t_bi, Cut.truthy, zb_bl, Bool.or_false, Bool.false_or, Bool.not_true, Bool.not_false, Bool.true_or, Bool.or_true, tb_dec, tb_some, tb_not, tb_true, tb_false, Cut.start, List.map, List.length, List.replicate, List.append_eq, List.cons_append, List.nil_append, List.getElem?_cons_zero, List.getElem?_cons_succ, List.set_cons_zero, List.set_cons_succ, Nat.reduceAdd, Nat.reduceSub, tyOf, if_true, if_false, Bool.false_eq_true, decide_true, decide_false, wp_ok, alikeFd, o_isS, o_isBl, o_isinS, o_isinN, o_isinS2, o_isinN2, o_isinB2, t_ss, t_si, t_sb, t_st, t_sl, t_ni, t_nb, t_ns, t_nt, t_nl, t_bs, t_bt, t_bl, o_eqNN]
    refine ⟨by decide, ?_⟩
    rw [gc_id rfl]
    exact ⟨rfl, rfl⟩
  | n, .bl b, _, k, G, hk, hlim => by
    refine eq_of_wp (run_wp (fd := alikeFd fa) hA rfl ?_)
    simp only [s_pass, s_nil, s_cons, s_expr, s_set, s_par, s_setIx, s_setKey, s_augIx, s_aug, s_ifs, s_ret, s_retN, s_brk, s_cnt, s_never, w_k, w_v, w_un, w_bin, w_and, w_or, w_ite, w_chain, w_tup, wp_newL, w_lst, w_dic0, w_callD, w_sl, w_rev, w_call, w_bf, w_mt, w_nil, w_cons, w_no, w_some, Tg.bind, bindN, o_add, o_addT, o_sub, o_mul, o_fdiv, o_mod, o_pow, o_eq, o_ne, o_lt, o_le, o_gt, o_ge, o_isT, o_isI, o_isR, o_isN, o_eqB, o_neB, o_not, o_neg, o_lenT, o_int, o_isinI, o_isinT, o_isinB, o_isinI2, o_isinT2, t_ii, t_ib, t_is, t_it, t_il, t_tt, t_tl, t_ts, t_ti, t_tb, t_bb, t_bi, Cut.truthy, zb_bl, Bool.or_false, Bool.false_or, Bool.not_true, Bool.not_false, Bool.true_or, Bool.or_true, tb_dec, tb_some, tb_not, tb_true, tb_false, Cut.start, List.map, List.length, List.replicate, List.append_eq, List.cons_append, List.nil_append, List.getElem?_cons_zero, List.getElem?_cons_succ, List.set_cons_zero, List.set_cons_succ, Nat.reduceAdd, Nat.reduceSub, tyOf, if_true, if_false, Bool.false_eq_true, decide_true, decide_false, wp_ok, alikeFd, o_isS, o_isBl, o_isinS, o_isinN, o_isinS2, o_isinN2, o_isinB2, t_ss, t_si, t_sb, t_st, t_sl, t_ni, t_nb, t_ns, t_nt, t_nl, t_bs, t_bt, t_bl]
    refine ⟨by decide, ?_⟩
    rw [gc_id rfl]
    exact ⟨rfl, rfl⟩
  | n, .str s, h, k, G, hk, hlim => by
    have h : PyData.strOk ⟨s.toArray⟩ = true := by cases n <;> exact h
    refine eq_of_wp (run_wp (fd := alikeFd fa) hA rfl ?_)
    simp only [s_pass, s_nil, s_cons, s_expr, s_set, s_par, s_setIx, s_setKey, s_augIx, s_aug, s_ifs, s_ret, s_retN, s_brk, s_cnt, s_never, w_k, w_v, w_un, w_bin, w_and, w_or, w_ite, w_chain, w_tup, wp_newL, w_lst, w_dic0, w_callD, w_sl, w_rev, w_call, w_bf, w_mt, w_nil, w_cons, w_no, w_some, Tg.bind, bindN, o_add, o_addT, o_sub, o_mul, o_fdiv, o_mod, o_pow, o_eq, o_ne, o_lt, o_le, o_gt, o_ge, o_isT, o_isI, o_isR, o_isN, o_eqB, o_neB, o_not, o_neg, o_lenT, o_int, o_isinI, o_isinT, o_isinB, o_isinI2, o_isinT2, t_ii, t_ib, t_is, t_it, t_il, t_tt, t_tl, t_ts, t_ti, t_tb, t_bb, t_bi, Cut.truthy, zb_bl, Bool.or_false, Bool.false_or, Bool.not_true, Bool.not_false, Bool.true_or, Bool.or_true, tb_dec, tb_some, tb_not, tb_true, tb_false, Cut.start, List.map, List.length, List.replicate, List.append_eq, List.cons_append, List.nil_append, List.getElem?_cons_zero, List.getElem?_cons_succ, List.set_cons_zero, List.set_cons_succ, Nat.reduceAdd, Nat.reduceSub, tyOf, if_true, if_false, Bool.false_eq_true, decide_true, decide_false, wp_ok, alikeFd, o_isS, o_isBl, o_isinS, o_isinN, o_isinS2, o_isinN2, o_isinB2, t_ss, t_si, t_sb, t_st, t_sl, t_ni, t_nb, t_ns, t_nt, t_nl, t_bs, t_bt, t_bl, o_eqSS h]
    refine ⟨by decide, ?_⟩
    rw [gc_id rfl]
    exact ⟨rfl, rfl⟩
  | n, .ref _, h, _, _, _, _ => by cases n <;> exact h.elim
  | n, .ty _, h, _, _, _, _ => by cases n <;> exact h.elim
  | 0, .tup _, h, _, _, _, _ => h.elim
theorem law_code (hC : T[fc]? = some codeFd) {k : Nat} {n : Nat} {N : Int} {G : Store} (hN : N = n) (hn : n ≤ 10 ^ 18) : run T (k + 1) fc [.int N] G = .ok (.tup ((enc n).map .int)) G := by
  subst hN
  have hl9 := enc_len9 hn
  refine eq_of_wp (run_wp (fd := codeFd) hC rfl ?_)
  simp only [s_pass, s_nil, s_cons, s_expr, s_set, s_par, s_setIx, s_setKey, s_augIx, s_aug, s_ifs, s_ret, s_retN, s_brk, s_cnt, s_never, w_k, w_v, w_un, w_bin, w_and, w_or, w_ite, w_chain, w_tup, wp_newL, w_lst, w_dic0, w_callD, w_sl, w_rev, w_call, w_bf, w_mt, w_nil, w_cons, w_no, w_some, Tg.bind, bindN, o_add, o_addT, o_sub, o_mul, o_fdiv, o_mod, o_pow, o_eq, o_ne, o_lt, o_le, o_gt, o_ge, o_isT, o_isI, o_isR, o_isN, o_eqB, o_neB, o_not, o_neg, o_lenT, o_int, o_isinI, o_isinT, o_isinB, o_isinI2, o_isinT2, t_ii, t_ib, t_is, t_it, t_il, t_tt, t_tl, t_ts, t_ti, t_tb, t_bb, t_bi, Cut.truthy, zb_bl, Bool.or_false, Bool.false_or, Bool.not_true, Bool.not_false, Bool.true_or, Bool.or_true, tb_dec, tb_some, tb_not, tb_true, tb_false, Cut.start, List.map, List.length, List.replicate, List.append_eq, List.cons_append, List.nil_append, List.getElem?_cons_zero, List.getElem?_cons_succ, List.set_cons_zero, List.set_cons_succ, Nat.reduceAdd, Nat.reduceSub, tyOf, if_true, if_false, Bool.false_eq_true, decide_true, decide_false, wp_ok, codeFd, o_slT]
  refine ⟨by decide, by decide, ⟨by decide, by decide +kernel⟩, ?_⟩
  refine s_while (fun m ρ G' => ∃ (v : Nat) (C : List Int) (x : Nat), m = (if v = 0 then 0 else (enc v).length) ∧ ρ = [some (.int v), some (.tup ((C ++ [(x : Int)]).map .int))] ∧ G' = G ∧ enc n = C ++ (if v = 0 then [(x : Int)] else ((x + 128 : Nat) : Int) :: enc v)) (if n / 128 = 0 then 0 else (enc (n / 128)).length) ?_ ?_ ?_
  · split
    · decide
    · have := enc_len9 (n := n / 128) (by omega); unfold loopFuel; omega
  · refine ⟨n / 128, [], n % 128, rfl, rfl, rfl, ?_⟩
    by_cases h : n < 128
    · rw [enc_lo h, if_pos (by omega)]
      rw [Nat.mod_eq_of_lt h]; rfl
    · rw [enc_hi (by omega), if_neg (by omega)]; rfl
  · rintro m ρ G' ⟨v, C, x, rfl, rfl, rfl, he⟩
    have hC : C.length ≤ 9 := by
      have := congrArg List.length he
      rw [List.length_append] at this; omega
    simp only [s_pass, s_nil, s_cons, s_expr, s_set, s_par, s_setIx, s_setKey, s_augIx, s_aug, s_ifs, s_ret, s_retN, s_brk, s_cnt, s_never, w_k, w_v, w_un, w_bin, w_and, w_or, w_ite, w_chain, w_tup, wp_newL, w_lst, w_dic0, w_callD, w_sl, w_rev, w_call, w_bf, w_mt, w_nil, w_cons, w_no, w_some, Tg.bind, bindN, o_add, o_addT, o_sub, o_mul, o_fdiv, o_mod, o_pow, o_eq, o_ne, o_lt, o_le, o_gt, o_ge, o_isT, o_isI, o_isR, o_isN, o_eqB, o_neB, o_not, o_neg, o_lenT, o_int, o_isinI, o_isinT, o_isinB, o_isinI2, o_isinT2, t_ii, t_ib, t_is, t_it, t_il, t_tt, t_tl, t_ts, t_ti, t_tb, t_bb, t_bi, Cut.truthy, zb_bl, Bool.or_false, Bool.false_or, Bool.not_true, Bool.not_false, Bool.true_or, Bool.or_true, tb_dec, tb_some, tb_not, tb_true, tb_false, Cut.start, List.map, List.length, List.replicate, List.append_eq, List.cons_append, List.nil_append, List.getElem?_cons_zero, List.getElem?_cons_succ, List.set_cons_zero, List.set_cons_succ, Nat.reduceAdd, Nat.reduceSub, tyOf, if_true, if_false, Bool.false_eq_true, decide_true, decide_false, wp_ok]
    by_cases hv : v = 0
    · subst hv
      simp only [s_pass, s_nil, s_cons, s_expr, s_set, s_par, s_setIx, s_setKey, s_augIx, s_aug, s_ifs, s_ret, s_retN, s_brk, s_cnt, s_never, w_k, w_v, w_un, w_bin, w_and, w_or, w_ite, w_chain, w_tup, wp_newL, w_lst, w_dic0, w_callD, w_sl, w_rev, w_call, w_bf, w_mt, w_nil, w_cons, w_no, w_some, Tg.bind, bindN, o_add, o_addT, o_sub, o_mul, o_fdiv, o_mod, o_pow, o_eq, o_ne, o_lt, o_le, o_gt, o_ge, o_isT, o_isI, o_isR, o_isN, o_eqB, o_neB, o_not, o_neg, o_lenT, o_int, o_isinI, o_isinT, o_isinB, o_isinI2, o_isinT2, t_ii, t_ib, t_is, t_it, t_il, t_tt, t_tl, t_ts, t_ti, t_tb, t_bb, t_bi, Cut.truthy, zb_bl, Bool.or_false, Bool.false_or, Bool.not_true, Bool.not_false, Bool.true_or, Bool.or_true, tb_dec, tb_some, tb_not, tb_true, tb_false, Cut.start, List.map, List.length, List.replicate, List.append_eq, List.cons_append, List.nil_append, List.getElem?_cons_zero, List.getElem?_cons_succ, List.set_cons_zero, List.set_cons_succ, Nat.reduceAdd, Nat.reduceSub, tyOf, if_true, if_false, Bool.false_eq_true, decide_true, decide_false, wp_ok, show ¬ (0 : Int) < ((0 : Nat) : Int) by omega]
      rw [gc_id (show below _ (.tup ((C ++ [(x : Int)]).map D.int)) = true from belows_int _ _)]
      rw [if_pos rfl] at he
      rw [he]
      exact ⟨rfl, rfl⟩
    · rw [if_neg hv] at he
      simp only [s_pass, s_nil, s_cons, s_expr, s_set, s_par, s_setIx, s_setKey, s_augIx, s_aug, s_ifs, s_ret, s_retN, s_brk, s_cnt, s_never, w_k, w_v, w_un, w_bin, w_and, w_or, w_ite, w_chain, w_tup, wp_newL, w_lst, w_dic0, w_callD, w_sl, w_rev, w_call, w_bf, w_mt, w_nil, w_cons, w_no, w_some, Tg.bind, bindN, o_add, o_addT, o_sub, o_mul, o_fdiv, o_mod, o_pow, o_eq, o_ne, o_lt, o_le, o_gt, o_ge, o_isT, o_isI, o_isR, o_isN, o_eqB, o_neB, o_not, o_neg, o_lenT, o_int, o_isinI, o_isinT, o_isinB, o_isinI2, o_isinT2, t_ii, t_ib, t_is, t_it, t_il, t_tt, t_tl, t_ts, t_ti, t_tb, t_bb, t_bi, Cut.truthy, zb_bl, Bool.or_false, Bool.false_or, Bool.not_true, Bool.not_false, Bool.true_or, Bool.or_true, tb_dec, tb_some, tb_not, tb_true, tb_false, Cut.start, List.map, List.length, List.replicate, List.append_eq, List.cons_append, List.nil_append, List.getElem?_cons_zero, List.getElem?_cons_succ, List.set_cons_zero, List.set_cons_succ, Nat.reduceAdd, Nat.reduceSub, tyOf, if_true, if_false, Bool.false_eq_true, decide_true, decide_false, wp_ok, show (0 : Int) < (v : Int) by omega, o_slT]
      rw [List.map_append, List.map_singleton, cut_init]
      simp only [s_pass, s_nil, s_cons, s_expr, s_set, s_par, s_setIx, s_setKey, s_augIx, s_aug, s_ifs, s_ret, s_retN, s_brk, s_cnt, s_never, w_k, w_v, w_un, w_bin, w_and, w_or, w_ite, w_chain, w_tup, wp_newL, w_lst, w_dic0, w_callD, w_sl, w_rev, w_call, w_bf, w_mt, w_nil, w_cons, w_no, w_some, Tg.bind, bindN, o_add, o_addT, o_sub, o_mul, o_fdiv, o_mod, o_pow, o_eq, o_ne, o_lt, o_le, o_gt, o_ge, o_isT, o_isI, o_isR, o_isN, o_eqB, o_neB, o_not, o_neg, o_lenT, o_int, o_isinI, o_isinT, o_isinB, o_isinI2, o_isinT2, t_ii, t_ib, t_is, t_it, t_il, t_tt, t_tl, t_ts, t_ti, t_tb, t_bb, t_bi, Cut.truthy, zb_bl, Bool.or_false, Bool.false_or, Bool.not_true, Bool.not_false, Bool.true_or, Bool.or_true, tb_dec, tb_some, tb_not, tb_true, tb_false, Cut.start, List.map, List.length, List.replicate, List.append_eq, List.cons_append, List.nil_append, List.getElem?_cons_zero, List.getElem?_cons_succ, List.set_cons_zero, List.set_cons_succ, Nat.reduceAdd, Nat.reduceSub, tyOf, if_true, if_false, Bool.false_eq_true, decide_true, decide_false, wp_ok, o_ixT ix_last]
      refine ⟨by decide, by decide, ?_, ⟨by decide, by decide +kernel⟩, ?_⟩
      · rw [List.length_map]
        exact Nat.le_trans (Nat.add_le_add_right hC 2) (by decide)
      · refine ⟨(if v / 128 = 0 then 0 else (enc (v / 128)).length), ?_, v / 128, C ++ [((x + 128 : Nat) : Int)], v % 128, rfl, ?_, trivial, ?_⟩
        · rw [if_neg hv]
          by_cases h : v / 128 = 0
          · rw [if_pos h]; exact enc_pos v
          · rw [if_neg h, enc_hi (n := v) (by omega)]; exact Nat.lt_succ_self _
        · simp only [List.map_append, List.map_singleton, List.append_assoc]
          rfl
        · rw [he, List.append_assoc]
          by_cases h : v / 128 = 0
          · rw [if_pos h, enc_lo (n := v) (by omega), Nat.mod_eq_of_lt (by omega)]; rfl
          · rw [if_neg h, enc_hi (n := v) (by omega)]; rfl
theorem law_bytes (hB : T[fb]? = some bytesFd) {k : Nat} {v m : Nat} {V M : Int} {G : Store} (hV : V = v) (hM : M = m) (hm : m ≤ 7) : run T (k + 1) fb [.int V, .int M] G = .ok (.tup ((fix v m).map .int)) G := by
  refine eq_of_wp (run_wp (fd := bytesFd) hB rfl ?_)
  simp only [s_pass, s_nil, s_cons, s_expr, s_set, s_par, s_setIx, s_setKey, s_augIx, s_aug, s_ifs, s_ret, s_retN, s_brk, s_cnt, s_never, w_k, w_v, w_un, w_bin, w_and, w_or, w_ite, w_chain, w_tup, wp_newL, w_lst, w_dic0, w_callD, w_sl, w_rev, w_call, w_bf, w_mt, w_nil, w_cons, w_no, w_some, Tg.bind, bindN, o_add, o_addT, o_sub, o_mul, o_fdiv, o_mod, o_pow, o_eq, o_ne, o_lt, o_le, o_gt, o_ge, o_isT, o_isI, o_isR, o_isN, o_eqB, o_neB, o_not, o_neg, o_lenT, o_int, o_isinI, o_isinT, o_isinB, o_isinI2, o_isinT2, t_ii, t_ib, t_is, t_it, t_il, t_tt, t_tl, t_ts, t_ti, t_tb, t_bb, t_bi, Cut.truthy, zb_bl, Bool.or_false, Bool.false_or, Bool.not_true, Bool.not_false, Bool.true_or, Bool.or_true, tb_dec, tb_some, tb_not, tb_true, tb_false, Cut.start, List.map, List.length, List.replicate, List.append_eq, List.cons_append, List.nil_append, List.getElem?_cons_zero, List.getElem?_cons_succ, List.set_cons_zero, List.set_cons_succ, Nat.reduceAdd, Nat.reduceSub, tyOf, if_true, if_false, Bool.false_eq_true, decide_true, decide_false, wp_ok, bytesFd, s_for, i_rng1]
  refine ⟨by decide, by omega, by omega, ?_⟩
  rw [show M.toNat = m by omega]
  refine s_forGo (fun i ρ G' => ∃ (u : Nat) (acc : List Int) (w : Option D), ρ = [some (.int u), some (.int M), some (.tup (acc.map .int)), w] ∧ G' = G ∧ acc.length = i ∧ fix v m = fix u (m - i) ++ acc) m (by unfold loopFuel; omega) ?_ ?_ ?_
  · exact ⟨v, [], none, by rw [hV]; rfl, rfl, rfl, by simp⟩
  · rintro i ρ G' hi ⟨u, acc, w, rfl, rfl, hl, he⟩
    refine ⟨.int (0 + i), by show some (if i < m then _ else _) = _; rw [if_pos hi], _, rfl, ?_⟩
    simp only [s_pass, s_nil, s_cons, s_expr, s_set, s_par, s_setIx, s_setKey, s_augIx, s_aug, s_ifs, s_ret, s_retN, s_brk, s_cnt, s_never, w_k, w_v, w_un, w_bin, w_and, w_or, w_ite, w_chain, w_tup, wp_newL, w_lst, w_dic0, w_callD, w_sl, w_rev, w_call, w_bf, w_mt, w_nil, w_cons, w_no, w_some, Tg.bind, bindN, o_add, o_addT, o_sub, o_mul, o_fdiv, o_mod, o_pow, o_eq, o_ne, o_lt, o_le, o_gt, o_ge, o_isT, o_isI, o_isR, o_isN, o_eqB, o_neB, o_not, o_neg, o_lenT, o_int, o_isinI, o_isinT, o_isinB, o_isinI2, o_isinT2, t_ii, t_ib, t_is, t_it, t_il, t_tt, t_tl, t_ts, t_ti, t_tb, t_bb, t_bi, Cut.truthy, zb_bl, Bool.or_false, Bool.false_or, Bool.not_true, Bool.not_false, Bool.true_or, Bool.or_true, tb_dec, tb_some, tb_not, tb_true, tb_false, Cut.start, List.map, List.length, List.replicate, List.append_eq, List.cons_append, List.nil_append, List.getElem?_cons_zero, List.getElem?_cons_succ, List.set_cons_zero, List.set_cons_succ, Nat.reduceAdd, Nat.reduceSub, tyOf, if_true, if_false, Bool.false_eq_true, decide_true, decide_false, wp_ok]
    refine ⟨by decide, by decide, ?_, ⟨by decide, by decide +kernel⟩, u / 256, ((u % 256 : Nat) : Int) :: acc, some (.int (0 + i)), rfl, trivial, by rw [List.length_cons, hl], ?_⟩
    · rw [List.length_map, hl]; exact Nat.le_trans (show 1 + i ≤ 8 by omega) (by decide)
    · rw [he, show m - i = (m - (i + 1)) + 1 by omega]
      show (fix (u / 256) (m - (i + 1)) ++ [_]) ++ acc = _
      rw [List.append_assoc]; rfl
  · rintro ρ G' ⟨u, acc, w, rfl, rfl, hl, he⟩
    refine ⟨by show some (if m < m then _ else _) = _; rw [if_neg (Nat.lt_irrefl m)], ?_⟩
    simp only [s_pass, s_nil, s_cons, s_expr, s_set, s_par, s_setIx, s_setKey, s_augIx, s_aug, s_ifs, s_ret, s_retN, s_brk, s_cnt, s_never, w_k, w_v, w_un, w_bin, w_and, w_or, w_ite, w_chain, w_tup, wp_newL, w_lst, w_dic0, w_callD, w_sl, w_rev, w_call, w_bf, w_mt, w_nil, w_cons, w_no, w_some, Tg.bind, bindN, o_add, o_addT, o_sub, o_mul, o_fdiv, o_mod, o_pow, o_eq, o_ne, o_lt, o_le, o_gt, o_ge, o_isT, o_isI, o_isR, o_isN, o_eqB, o_neB, o_not, o_neg, o_lenT, o_int, o_isinI, o_isinT, o_isinB, o_isinI2, o_isinT2, t_ii, t_ib, t_is, t_it, t_il, t_tt, t_tl, t_ts, t_ti, t_tb, t_bb, t_bi, Cut.truthy, zb_bl, Bool.or_false, Bool.false_or, Bool.not_true, Bool.not_false, Bool.true_or, Bool.or_true, tb_dec, tb_some, tb_not, tb_true, tb_false, Cut.start, List.map, List.length, List.replicate, List.append_eq, List.cons_append, List.nil_append, List.getElem?_cons_zero, List.getElem?_cons_succ, List.set_cons_zero, List.set_cons_succ, Nat.reduceAdd, Nat.reduceSub, tyOf, if_true, if_false, Bool.false_eq_true, decide_true, decide_false, wp_ok]
    rw [gc_id (show below _ (.tup (acc.map D.int)) = true from belows_int _ _)]
    refine ⟨?_, rfl⟩
    rw [he, Nat.sub_self]; rfl
theorem gc_bl {B G : Store} {b : Bool} : wp (gc B (R.ok (.bl b) G)) fun d _ => d = .bl b := by
  simp only [gc]
  split
  · rw [if_pos (show below B.cs.length (.bl b) = true from rfl)]; rfl
  · rfl
section
variable {G : Store} {r : Nat} {s : List Int}
theorem Rb.new (h : Rb r s G) (c : Cell) : Rb r s (G.new c) := by
  obtain ⟨h1, h2, h3, a, b, c', ok, h4⟩ := h
  exact ⟨h1, h2, lst_new_old h3, a, b, c', ok, lst_new_old h4⟩
theorem Rb.other (h : Rb r s G) {n : Nat} (hn : n ≠ r) (hn0 : n ≠ 0) (c : Cell) : Rb r s (G.put n c) := by
  obtain ⟨h1, h2, h3, a, b, c', ok, h4⟩ := h
  exact ⟨h1, h2, by rw [lst_put_ne hn0]; exact h3, a, b, c', ok, by rw [lst_put_ne hn]; exact h4⟩
theorem Rb.lt (h : Rb r s G) : r < G.cs.length := by
  obtain ⟨h1, h2, h3, a, b, c', ok, h4⟩ := h
  exact lt_of_lst h4
theorem Rb.ll (h : Rb r s G) : G.lim ≤ G.cs.length := Nat.le_trans h.lim (Nat.le_of_lt h.lt)
end
theorem al_int (n : Nat) (i : Int) : Al n (.int i) := by cases n <;> exact trivial
theorem al_ints (xs : List Int) (h : xs.length < 2 ^ 20) : Al 1 (.tup (xs.map .int)) := ⟨by rw [List.length_map]; exact h, fun x hx => by
  obtain ⟨y, _, rfl⟩ := in_ints hx
  exact al_int _ _⟩
theorem al_two (i j : Int) : Al 1 (.tup [.int i, .int j]) := al_ints [i, j] (by simp)

end
end Cut
/-! More operations, one by one. -/
namespace Cut
open PySem
section
variable {G : Store} {P : D → Store → Prop}
theorem o_xor {a b : Nat} : wp (op2 .xor (.int a) (.int b) G) P = P (.int ((a ^^^ b : Nat) : Int)) G := by
  have e : Spec.bitXor (a : Int) (b : Int) = ((a ^^^ b : Nat) : Int) := by
    have h := Bits.bitXor_pp (x := (a : Int)) (y := (b : Int)) (by omega) (by omega)
    rw [Int.toNat_natCast, Int.toNat_natCast] at h
    exact h
  show P (.int (Spec.bitXor (a : Int) (b : Int))) G = _
  rw [e]
theorem intsD_map : ∀ ns : List Int, intsD (ns.map D.int) = some ns
  | [] => rfl
  | n :: ns => by
    show (intsD (ns.map D.int)).map (n :: ·) = _
    rw [intsD_map ns]; rfl
theorem o_anyT {ns : List Int} : wp (bf .any [.tup (ns.map .int)] G) P = P (.bl (ns.any fun i => i != 0)) G := by
  show wp (match intsD (ns.map D.int) with | some ns => R.ok (D.bl (ns.any fun i => i != 0)) G | none => .stuck) P = _
  rw [intsD_map]; rfl
theorem pyWs_ints (r : Nat → Option PyData) : ∀ ns : List Int, pyWs r (ns.map D.int) = some (ns.map PyData.int)
  | [] => rfl
  | n :: ns => by
    show (match some (PyData.int n), pyWs r (ns.map D.int) with | some d, some ds => some (d :: ds) | _, _ => none) = _
    rw [pyWs_ints r ns]; rfl
theorem shaped_ints (ns : List Int) : SeqAt.shaped (.tuple (ns.map PyData.int)) = true := by
  have h1 : ∀ ns : List Int, PyData.canLayAll0 (ns.map PyData.int) = true := fun ns => by
    induction ns with
    | nil => rfl
    | cons n ns ih => show (true && PyData.canLayAll0 (ns.map PyData.int)) = true; rw [ih]; rfl
  have h2 : ∀ ns : List Int, PyData.depthAll (ns.map PyData.int) = 0 := fun ns => by
    induction ns with
    | nil => rfl
    | cons n ns ih => show max 0 (PyData.depthAll (ns.map PyData.int)) = 0; rw [ih]; rfl
  have e1 : PyData.canLay0 (.tuple (ns.map PyData.int)) = true := by
    show PyData.canLayAll0 (ns.map PyData.int) = true
    exact h1 ns
  have e2 : PyData.depth (.tuple (ns.map PyData.int)) = 1 := by
    show PyData.depthAll (ns.map PyData.int) + 1 = 1
    rw [h2 ns]
  unfold SeqAt.shaped
  rw [e1, e2]; rfl
theorem eqv_ints : ∀ xs ys : List Int, PyData.eqvAll (xs.map PyData.int) (ys.map PyData.int) = decide (xs = ys)
  | [], [] => rfl
  | [], _ :: _ => rfl
  | _ :: _, [] => rfl
  | x :: xs, y :: ys => by
    have e : PyData.eqv (.int x) (.int y) = decide (x = y) := by
      by_cases h : x = y <;> simp [PyData.eqv, h]
    simp only [List.map_cons, PyData.eqvAll, e, eqv_ints xs ys, List.cons.injEq]
    by_cases h1 : x = y <;> by_cases h2 : xs = ys <;> simp [h1, h2]
theorem eqD_ints {xs ys : List Int} : eqD G (.tup (xs.map .int)) (.tup (ys.map .int)) = some (decide (xs = ys)) := by
  have e : ∀ zs : List Int, pyD 8 G (.tup (zs.map D.int)) = some (.tuple (zs.map PyData.int)) := fun zs => by
    show (pyWs _ (zs.map D.int)).map PyData.tuple = _
    rw [pyWs_ints]; rfl
  unfold eqD
  rw [e xs, e ys]
  show (if SeqAt.shaped (.tuple (xs.map PyData.int)) && SeqAt.shaped (.tuple (ys.map PyData.int)) then some (PyData.eqv (.tuple (xs.map PyData.int)) (.tuple (ys.map PyData.int))) else none) = _
  rw [shaped_ints, shaped_ints]
  have : PyData.eqv (.tuple (xs.map PyData.int)) (.tuple (ys.map PyData.int)) = PyData.eqvAll (xs.map PyData.int) (ys.map PyData.int) := by simp only [PyData.eqv]
  rw [this, eqv_ints]; rfl
theorem o_eqT {xs ys : List Int} : wp (op2 .eq (.tup (xs.map .int)) (.tup (ys.map .int)) G) P = P (.bl (decide (xs = ys))) G := by
  show wp (okO (eqD G _ _) G) P = _
  rw [eqD_ints]; rfl
theorem o_neT {xs ys : List Int} : wp (op2 .ne (.tup (xs.map .int)) (.tup (ys.map .int)) G) P = P (.bl (!decide (xs = ys))) G := by
  show wp (okO ((eqD G _ _).map (!·)) G) P = _
  rw [eqD_ints]; rfl
end
theorem o_min {G : Store} {P : D → Store → Prop} {i j : Int} : wp (bf .min [.int i, .int j] G) P = P (.int (min i j)) G := by
  show wp (R.ok (.int (if j < i then j else i)) G) P = _
  rw [show (if j < i then j else i) = min i j by rw [Int.min_def]; split <;> split <;> omega]; rfl
theorem o_max {G : Store} {P : D → Store → Prop} {i j : Int} : wp (bf .max [.int i, .int j] G) P = P (.int (max i j)) G := by
  show wp (R.ok (.int (if i < j then j else i)) G) P = _
  rw [show (if i < j then j else i) = max i j by rw [Int.max_def]; split <;> split <;> omega]; rfl
theorem o_addL {G : Store} {P : D → Store → Prop} {m n : Nat} {xs ys : List D} (hx : G.lst? m = some xs) (hy : G.lst? n = some ys) (h1 : G.lim ≤ m) (h2 : G.lim ≤ n) : wp (op2 .add (.ref m) (.ref n) G) P = ((xs ++ ys).length ≤ sizeLine ∧ P (.ref G.cs.length) (G.new (.lst (xs ++ ys)))) := by
  show wp (match G.lst? m, G.lst? n with
      | some xs, some ys => if G.lim ≤ m ∧ G.lim ≤ n then newL (xs ++ ys) G else .stuck
      | _, _ => .stuck) P = _
  rw [hx, hy]
  show wp (if G.lim ≤ m ∧ G.lim ≤ n then newL (xs ++ ys) G else .stuck) P = _
  rw [if_pos ⟨h1, h2⟩]; exact wp_newL
theorem flat_one {d : D} : ∀ m : Nat, (List.replicate m [d]).flatten = List.replicate m d
  | 0 => rfl
  | m + 1 => by rw [List.replicate_succ, List.flatten_cons, flat_one m, List.replicate_succ]; rfl
theorem o_mulL {G : Store} {P : D → Store → Prop} {m : Nat} {d : D} {K : Int} {k : Nat} (hx : G.lst? m = some [d]) (h1 : G.lim ≤ m) (hK : K = k) (hk : k ≤ 1000) : wp (op2 .mul (.ref m) (.int K) G) P = P (.ref G.cs.length) (G.new (.lst (List.replicate k d))) := by
  subst hK
  show wp (match G.lst? m with
      | some xs => if G.lim ≤ m ∧ -(2 ^ 63) ≤ (k : Int) ∧ (k : Int) < 2 ^ 63 ∧ xs.length * (k : Int).toNat ≤ sizeLine then newL (List.replicate (k : Int).toNat xs).flatten G else .stuck
      | none => .stuck) P = _
  rw [hx]
  show wp (if G.lim ≤ m ∧ -(2 ^ 63) ≤ (k : Int) ∧ (k : Int) < 2 ^ 63 ∧ [d].length * (k : Int).toNat ≤ sizeLine then newL (List.replicate (k : Int).toNat [d]).flatten G else .stuck) P = _
  have hs : k ≤ sizeLine := Nat.le_trans hk (by decide)
  rw [if_pos ⟨h1, by omega, by omega, by rw [Int.toNat_natCast, List.length_singleton, Nat.one_mul]; exact hs⟩, Int.toNat_natCast, flat_one, wp_newL]
  rw [List.length_replicate]
  exact propext ⟨fun h => h.2, fun h => ⟨hs, h⟩⟩
theorem Rw.lst {B G : Store} {r : Nat} {s : List Int} (h : Rw B r s G) {n : Nat} {xs : List D} (hn : r ≠ n) (hx : B.lst? n = some xs) : G.lst? n = some xs := by
  obtain ⟨h1, h2, h3, h4, a, b, c, ok, g⟩ := h
  exact g.lst (by rw [lst_put_ne hn]; exact hx)
theorem Rw.trans {A B G : Store} {r : Nat} {s : List Int} (h : Rw A r s B) (k : Rw B r s G) : Rw A r s G := by
  obtain ⟨h1, h2, h3, h4, a, b, c, ok, g⟩ := h
  obtain ⟨k1, k2, k3, k4, a', b', c', ok', g'⟩ := k
  refine ⟨h1, h2, h3, h4, a', b', c', ok', ?_⟩
  have := g.put (n := r) (by rw [len_put]; exact h3) (.lst (rowL a' b' c'))
  rw [put_put] at this
  exact this.trans g'
theorem Mv.rel {G G' : Store} {r : Nat} {s : List Int} (h : Rb r s G) (m : Mv r s G G') : Rw G r s G' := m.rw h.start
/-- a comprehension over a range, each item of Q -/
theorem comp_rng {C : CallF} {ρ : Env} {e : Ex} {j m : Nat} {r : Nat} {s : List Int} {G : Store} {P : Store → Prop} (Q : D → Prop) (hr : Rb r s G) (hm : m < 2 ^ 20)
    (turn : ∀ (i : Nat) G', i < m → Rw G r s G' → wp (ev C e (ρ.set j (some (.int (0 + (i : Int))))) G') fun x G2 => Q x ∧ Rw G' r s G2)
    (done : ∀ zs G2, zs.length = m → (∀ z ∈ zs, Q z) → Rw G r s G2 → G2.lst? G.cs.length = some zs → P G2) :
    wp (compGo (.v j) (.rng 0 m) none (ev C e) ρ G.cs.length loopFuel 0 (G.new (.lst []))) fun _ G' => P G' := by
  have hlt := hr.lt
  refine compGo_inv (k := m) (fun i G' => Rw G r s G' ∧ ∃ zs : List D, zs.length = i ∧ (∀ z ∈ zs, Q z) ∧ G'.lst? G.cs.length = some zs) (Q := P) (by unfold loopFuel; omega) ⟨hr.start.new _, [], rfl, (fun _ h => nomatch h), lst_new⟩ ?_ ?_
  · rintro G' ⟨w, zs, hl, hz, hx⟩
    exact ⟨by show some (if m < m then _ else _) = _; rw [if_neg (Nat.lt_irrefl _)], done zs G' hl hz w hx⟩
  · rintro i G' hi ⟨w, zs, hl, hz, hx⟩
    refine ⟨.int (0 + i), _, by show some (if i < m then _ else _) = _; rw [if_pos hi], rfl, ?_⟩
    show wp (ev C e (ρ.set j (some (.int (0 + (i : Int))))) G') _
    refine (turn i G' hi w).imp fun x G2 h => ?_
    obtain ⟨hq, w2⟩ := h
    have hx2 := w2.lst (n := G.cs.length) (by omega) hx
    refine ⟨zs, hx2, by rw [w2.glim, w.glim]; exact hr.ll, Nat.lt_of_lt_of_le (show zs.length < 2 ^ 20 by omega) (by decide), (w.trans w2).own (Nat.le_refl _) _, zs ++ [x], by rw [List.length_append, hl]; rfl, ?_, ?_⟩
    · intro z h
      rcases List.mem_append.mp h with h | h
      · exact hz z h
      · have e : z = x := by simpa using h
        rw [e]; exact hq
    · exact lst_put (lt_of_lst hx2)
end Cut
/-! The check of a row: by nibbles, and by bytes. -/
namespace Cut
def step1 (r h : Nat) : Nat := r % 4096 * 16 ^^^ (r / 4096 ^^^ h) * 4129
def moreL (r b : Nat) : Nat := (r / 256 ^^^ b) ^^^ (r / 256 ^^^ b) / 16
def byteL (r b : Nat) : Nat := r * 256 % 65536 ^^^ moreL r b * 4096 % 65536 ^^^ moreL r b * 32 ^^^ moreL r b
theorem xor_mul (a b i : Nat) : (a ^^^ b) * 2 ^ i = a * 2 ^ i ^^^ b * 2 ^ i := by
  rw [← Nat.shiftLeft_eq, ← Nat.shiftLeft_eq, ← Nat.shiftLeft_eq, Nat.shiftLeft_xor_distrib]
theorem xor_cancel3 (a b c : Nat) : (a ^^^ b) ^^^ c = (a ^^^ c) ^^^ b := by
  rw [Nat.xor_assoc, Nat.xor_comm b c, ← Nat.xor_assoc]
theorem step1_x {r x h : Nat} (hx : x < 4096) : step1 (r ^^^ x) h = step1 r h ^^^ x * 16 := by
  unfold step1
  have h1 : (r ^^^ x) % 4096 = r % 4096 ^^^ x := by
    rw [show 4096 = 2 ^ 12 from rfl, Nat.xor_mod_two_pow, Nat.mod_eq_of_lt (a := x) hx]
  have h2 : (r ^^^ x) / 4096 = r / 4096 := by
    rw [show 4096 = 2 ^ 12 from rfl, Nat.xor_div_two_pow, Nat.div_eq_of_lt (a := x) hx, Nat.xor_zero]
  rw [h1, h2, show 16 = 2 ^ 4 from rfl, xor_mul, xor_cancel3]
theorem byteL_x {r x b : Nat} (hx : x < 256) : byteL (r ^^^ x) b = byteL r b ^^^ x * 256 := by
  have h2 : (r ^^^ x) / 256 = r / 256 := by
    rw [show 256 = 2 ^ 8 from rfl, Nat.xor_div_two_pow, Nat.div_eq_of_lt (a := x) hx, Nat.xor_zero]
  have h1 : (r ^^^ x) * 256 % 65536 = r * 256 % 65536 ^^^ x * 256 := by
    rw [show 256 = 2 ^ 8 from rfl, xor_mul, show 65536 = 2 ^ 16 from rfl, Nat.xor_mod_two_pow, Nat.mod_eq_of_lt (a := x * 2 ^ 8) (by omega)]
  have hm : moreL (r ^^^ x) b = moreL r b := by unfold moreL; rw [h2]
  unfold byteL
  rw [h1, hm, xor_cancel3 (r * 256 % 65536), xor_cancel3 _ (x * 256), xor_cancel3 _ (x * 256)]
theorem byte_hi : ∀ r, r < 256 → ∀ b, b < 256 → step1 (step1 (r * 256) (b / 16)) (b % 16) = byteL (r * 256) b := by decide +kernel
theorem split256 (r : Nat) : r / 256 * 256 ^^^ r % 256 = r := by
  apply Nat.eq_of_testBit_eq
  intro i
  rw [Nat.testBit_xor, show 256 = 2 ^ 8 from rfl, Nat.testBit_mul_two_pow, Nat.testBit_mod_two_pow, Nat.testBit_div_two_pow]
  by_cases h : i < 8
  · simp [h, Nat.not_le.mpr h]
  · have h' : 8 ≤ i := by omega
    simp [h, h', Nat.sub_add_cancel h']
theorem byte_eq {r b : Nat} (hr : r < 65536) (hb : b < 256) : step1 (step1 r (b / 16)) (b % 16) = byteL r b := by
  have hx : r % 256 < 256 := Nat.mod_lt _ (by decide)
  have e := byte_hi (r / 256) (by omega) b hb
  rw [← split256 r, step1_x (by omega), step1_x (by omega), byteL_x hx, e, Nat.mul_assoc]
theorem byteL_lt {r b : Nat} (hr : r < 65536) (hb : b < 256) : byteL r b < 65536 := by
  have h1 : r / 256 < 2 ^ 8 := by omega
  have hm : moreL r b < 2 ^ 8 := by
    unfold moreL
    have h2 : (r / 256 ^^^ b) < 2 ^ 8 := Nat.xor_lt_two_pow h1 hb
    exact Nat.xor_lt_two_pow h2 (by omega)
  unfold byteL
  exact Nat.xor_lt_two_pow (n := 16) (Nat.xor_lt_two_pow (Nat.xor_lt_two_pow (Nat.mod_lt _ (by decide)) (Nat.mod_lt _ (by decide))) (by omega)) (by omega)
end Cut
/-! The check of a row is linear. -/
namespace Cut
/-- one place to the left, modulo the polynomial -/
def sh (v : Nat) : Nat := v * 2 % 65536 ^^^ v / 32768 * 4129
theorem sh_lt {v : Nat} (h : v < 65536) : sh v < 65536 := by
  unfold sh
  exact Nat.xor_lt_two_pow (n := 16) (Nat.mod_lt _ (by decide)) (by omega)
theorem bit_mul {s t : Nat} (hs : s < 2) (ht : t < 2) : (s ^^^ t) * 4129 = s * 4129 ^^^ t * 4129 := by
  have h1 : s = 0 ∨ s = 1 := by omega
  have h2 : t = 0 ∨ t = 1 := by omega
  rcases h1 with rfl | rfl <;> rcases h2 with rfl | rfl <;> decide
theorem xor_swap (a b c d : Nat) : (a ^^^ b) ^^^ (c ^^^ d) = (a ^^^ c) ^^^ (b ^^^ d) := by
  rw [Nat.xor_assoc, Nat.xor_assoc, ← Nat.xor_assoc b c d, Nat.xor_comm b c, Nat.xor_assoc c b d]
theorem sh_x {a b : Nat} (ha : a < 65536) (hb : b < 65536) : sh (a ^^^ b) = sh a ^^^ sh b := by
  unfold sh
  have h1 : (a ^^^ b) * 2 % 65536 = a * 2 % 65536 ^^^ b * 2 % 65536 := by
    rw [show (2 : Nat) = 2 ^ 1 from rfl, xor_mul, show 65536 = 2 ^ 16 from rfl, Nat.xor_mod_two_pow]
  have h2 : (a ^^^ b) / 32768 = a / 32768 ^^^ b / 32768 := by
    rw [show 32768 = 2 ^ 15 from rfl, Nat.xor_div_two_pow]
  rw [h1, h2, bit_mul (by omega) (by omega), xor_swap]
theorem xor0 {a b : Nat} (h : a ^^^ b = 0) : a = b := by
  have : a ^^^ (a ^^^ b) = b := by rw [← Nat.xor_assoc, Nat.xor_self, Nat.zero_xor]
  rw [h, Nat.xor_zero] at this
  exact this
theorem sh_zero {v : Nat} (h : v < 65536) (e : sh v = 0) : v = 0 := by
  unfold sh at e
  have e := xor0 e
  have h1 : v / 32768 = 0 ∨ v / 32768 = 1 := by clear e; omega
  rcases h1 with h1 | h1
  · have e' : v * 2 % 65536 = 0 := by rw [e, h1]
    clear e; omega
  · have e' : v * 2 % 65536 = 4129 := by rw [e, h1]
    clear e; omega
def shN : Nat → Nat → Nat
  | 0, v => v
  | n + 1, v => sh (shN n v)
theorem shN_lt : ∀ (n : Nat) {v : Nat}, v < 65536 → shN n v < 65536
  | 0, _, h => h
  | n + 1, _, h => sh_lt (shN_lt n h)
theorem shN_add : ∀ (m n v : Nat), shN m (shN n v) = shN (m + n) v
  | 0, n, v => by rw [Nat.zero_add]; rfl
  | m + 1, n, v => by
    rw [Nat.succ_add]
    show sh (shN m (shN n v)) = sh (shN (m + n) v)
    rw [shN_add m n v]
theorem shN_x : ∀ (n : Nat) {a b : Nat}, a < 65536 → b < 65536 → shN n (a ^^^ b) = shN n a ^^^ shN n b
  | 0, _, _, _, _ => rfl
  | n + 1, a, b, ha, hb => by
    show sh (shN n (a ^^^ b)) = sh (shN n a) ^^^ sh (shN n b)
    rw [shN_x n ha hb, sh_x (shN_lt n ha) (shN_lt n hb)]
theorem shN_zero : ∀ (n : Nat), shN n 0 = 0
  | 0 => rfl
  | n + 1 => by show sh (shN n 0) = 0; rw [shN_zero n]; rfl
theorem shN_eq0 : ∀ (n : Nat) {v : Nat}, v < 65536 → shN n v = 0 → v = 0
  | 0, _, _, e => e
  | n + 1, _, h, e => shN_eq0 n h (sh_zero (shN_lt n h) e)
theorem lo8 : ∀ b, b < 256 → shN 8 b = b * 256 := by decide +kernel
theorem hi8 : ∀ x, x < 256 → shN 8 (x * 256) = byteL (x * 256) 0 := by decide +kernel
theorem byteL_hi {x b : Nat} (hx : x < 256) : byteL (x * 256) b = byteL ((x ^^^ b) * 256) 0 := by
  have h1 : x * 256 * 256 % 65536 = 0 := by omega
  have h2 : (x ^^^ b) * 256 * 256 % 65536 = 0 := by omega
  have h3 : moreL (x * 256) b = moreL ((x ^^^ b) * 256) 0 := by
    unfold moreL
    rw [Nat.mul_div_cancel x (show 0 < 256 by decide), Nat.mul_div_cancel (x ^^^ b) (show 0 < 256 by decide), Nat.xor_zero]
  unfold byteL
  rw [h1, h2, h3]
/-- a byte's step is eight places -/
theorem byteL_sh {r b : Nat} (hr : r < 65536) (hb : b < 256) : byteL r b = shN 8 (r ^^^ b * 256) := by
  have hx : r % 256 < 256 := Nat.mod_lt _ (by decide)
  have hh : r / 256 < 256 := by omega
  have hxb : r / 256 ^^^ b < 256 := Nat.xor_lt_two_pow (n := 8) hh hb
  have e1 : byteL r b = byteL ((r / 256 ^^^ b) * 256) 0 ^^^ r % 256 * 256 := by
    conv => lhs; rw [← split256 r]
    rw [byteL_x hx, byteL_hi hh]
  have e2 : r ^^^ b * 256 = (r / 256 ^^^ b) * 256 ^^^ r % 256 := by
    conv => lhs; rw [← split256 r]
    rw [show (256 : Nat) = 2 ^ 8 from rfl, xor_mul, xor_cancel3]
  rw [e1, e2, shN_x 8 (by omega) (by omega), hi8 _ hxb, lo8 _ hx]
theorem xor_256 {a b : Nat} (hb : b < 256) : a * 256 ^^^ b = a * 256 + b := by
  apply Nat.eq_of_testBit_eq
  intro i
  rw [Nat.testBit_xor, show 256 = 2 ^ 8 from rfl, Nat.testBit_mul_two_pow, Nat.mul_comm a, Nat.testBit_two_pow_mul_add a (i := 8) hb]
  by_cases h : i < 8
  · simp [h, Nat.not_le.mpr h]
  · have h' : 8 ≤ i := by omega
    have : b.testBit i = false := Nat.testBit_lt_two_pow (Nat.lt_of_lt_of_le hb (Nat.pow_le_pow_right (show 0 < 2 by decide) h'))
    simp [h, h', this]
theorem two_bytes {s a b : Nat} (hs : s < 65536) (ha : a < 256) (hb : b < 256) : byteL (byteL s a) b = 0 ↔ s = a * 256 + b := by
  have hsa : s ^^^ a * 256 < 65536 := Nat.xor_lt_two_pow (n := 16) hs (by omega)
  have h8 := shN_lt 8 hsa
  have e : byteL (byteL s a) b = shN 8 (shN 8 (s ^^^ a * 256 ^^^ b)) := by
    rw [byteL_sh hs ha, byteL_sh h8 hb, ← lo8 b hb, ← shN_x 8 hsa (by omega)]
  have hlt : s ^^^ a * 256 ^^^ b < 65536 := Nat.xor_lt_two_pow (n := 16) hsa (by omega)
  rw [e]
  constructor
  · intro h
    have h1 := shN_eq0 8 hlt (shN_eq0 8 (shN_lt 8 hlt) h)
    rw [Nat.xor_assoc] at h1
    rw [← xor_256 hb]
    exact xor0 h1
  · intro h
    have : s ^^^ a * 256 ^^^ b = 0 := by
      rw [Nat.xor_assoc, xor_256 hb, ← h]
      exact Nat.xor_self s
    rw [this, shN_zero, shN_zero]
theorem one_sh : ∀ j, j < 8 → shN (15 - j) 1 = 2 ^ (7 - j) * 256 := by decide +kernel
theorem taps : shN 16 1 ^^^ shN 12 1 ^^^ shN 5 1 ^^^ shN 0 1 = 0 := by decide +kernel
theorem three : shN 2 1 ^^^ shN 1 1 ^^^ shN 0 1 = 7 := by decide +kernel
theorem bit_flip : ∀ b, b < 256 → ∀ j, j < 8 → (b ^^^ 2 ^ j) < 256 ∧ (b ^^^ 2 ^ j) = (if b / 2 ^ j % 2 = 1 then b - 2 ^ j else b + 2 ^ j) ∧ (b ^^^ (b ^^^ 2 ^ j)) = 2 ^ j ∧ (b / 2 ^ j % 2 = 1 → 2 ^ j ≤ b) := by decide +kernel
/-- one bit of a row that is divided -/
theorem bit_step {r t : Nat} (hr : r < 65536) (ht : t < 2) : (if (r / 32768 + t) % 2 = 1 then (r * 2 % 65536) ^^^ 4129 else r * 2 % 65536) = sh (r ^^^ t * 32768) := by
  have h1 : (r ^^^ t * 32768) * 2 % 65536 = r * 2 % 65536 := by
    rw [show (2 : Nat) = 2 ^ 1 from rfl, xor_mul, show 65536 = 2 ^ 16 from rfl, Nat.xor_mod_two_pow]
    have : t * 32768 * 2 ^ 1 % 2 ^ 16 = 0 := by
      have h2 : t = 0 ∨ t = 1 := by omega
      rcases h2 with rfl | rfl <;> decide
    rw [this, Nat.xor_zero]
  have h2 : (r ^^^ t * 32768) / 32768 = r / 32768 ^^^ t := by
    rw [show 32768 = 2 ^ 15 from rfl, Nat.xor_div_two_pow, Nat.mul_div_cancel t (show 0 < 2 ^ 15 by decide)]
  unfold sh
  rw [h1, h2]
  have h3 : r / 32768 = 0 ∨ r / 32768 = 1 := by omega
  have h4 : t = 0 ∨ t = 1 := by omega
  rcases h3 with e | e <;> rcases h4 with rfl | rfl <;> rw [e] <;> simp
/-- .. after the first i bits of the byte b: r -/
def bitsN (r b : Nat) : Nat → Nat
  | 0 => r
  | i + 1 => sh (bitsN r b i ^^^ (b / 2 ^ (7 - i) % 2) * 32768)
theorem bits_lt {r b : Nat} (hr : r < 65536) : ∀ i, bitsN r b i < 65536
  | 0 => hr
  | i + 1 => sh_lt (Nat.xor_lt_two_pow (n := 16) (bits_lt hr i) (by omega))
theorem bits_x {r b : Nat} (hr : r < 65536) : ∀ i, bitsN r b i = shN i r ^^^ bitsN 0 b i
  | 0 => by show r = r ^^^ 0; rw [Nat.xor_zero]
  | i + 1 => by
    show sh (bitsN r b i ^^^ _) = sh (shN i r) ^^^ sh (bitsN 0 b i ^^^ _)
    rw [bits_x hr i, Nat.xor_assoc, sh_x (shN_lt i hr) (Nat.xor_lt_two_pow (n := 16) (bits_lt (by decide) i) (by omega))]
theorem bits_byte : ∀ b, b < 256 → bitsN 0 b 8 = byteL 0 b := by decide +kernel
theorem bits8 {r b : Nat} (hr : r < 65536) (hb : b < 256) : bitsN r b 8 = byteL r b := by
  rw [bits_x hr 8, bits_byte b hb, byteL_sh hr hb, byteL_sh (by decide) hb, Nat.zero_xor, shN_x 8 hr (by omega)]
end Cut
/-! A drawn label. -/
namespace Cut
open PySem
def kindS : List (List Nat) := [[112, 97, 114, 116], [112, 97, 103, 101], [104, 101, 97, 100], [98, 108, 97, 110, 107]]
/-- _law_drawn_label -/
def labelFd (ft fp : Nat) : Fd := ⟨1, 10, (.cons (.set (.tup [1, 2]) (.tup (.cons (.call fp (.cons (.v 0) (.cons (.lst (.cons (.k (.str [112, 97, 114, 116])) (.cons (.k (.str [112, 97, 103, 101])) (.cons (.k (.str [104, 101, 97, 100])) (.cons (.k (.str [98, 108, 97, 110, 107])) .nil))))) .nil))) (.cons (.bin .sub (.bin .pow (.k (.int 2)) (.k (.int 32))) (.k (.int 1))) .nil)))) (.cons (.set (.v 3) (.lst (.cons (.k (.int 0)) (.cons (.k (.int 1)) (.cons (.k (.int 2)) (.cons (.k (.int 255)) (.cons (.call ft (.cons (.v 0) (.cons (.k (.int 256)) .nil))) .nil))))))) (.cons (.set (.v 4) (.bin .ix (.lst (.cons (.k (.int 0)) (.cons (.k (.int 1)) (.cons (.k (.int 5)) (.cons (.k (.int 96)) .nil))))) (.call ft (.cons (.v 0) (.cons (.k (.int 4)) .nil))))) (.cons (.set (.v 5) (.bf .tuple (.cons (.bin .add (.comp (.v 6) (.rng1 (.bf .min (.cons (.k (.int 4)) (.cons (.v 4) .nil)))) .none (.call fp (.cons (.v 0) (.cons (.lst (.cons (.k (.int 0)) (.cons (.k (.int 1)) (.cons (.k (.int 255)) .nil)))) .nil))) [6]) (.bin .mul (.lst (.cons (.k (.int 9)) .nil)) (.bf .max (.cons (.k (.int 0)) (.cons (.bin .sub (.v 4) (.k (.int 4))) .nil))))) .nil))) (.cons (.set (.v 7) (.comp (.v 8) (.rng1 (.k (.int 2))) .none (.call fp (.cons (.v 0) (.cons (.lst (.cons (.k (.int 0)) (.cons (.k (.int 1)) (.cons (.v 2) (.cons (.call ft (.cons (.v 0) (.cons (.bin .pow (.k (.int 10)) (.k (.int 6))) .nil))) .nil))))) .nil))) [8])) (.cons (.set (.v 9) (.call fp (.cons (.v 0) (.cons (.lst (.cons (.k (.int 0)) (.cons (.k (.int 65535)) (.cons (.call ft (.cons (.v 0) (.cons (.k (.int 300)) .nil))) .nil)))) .nil)))) (.cons (.ret (.tup (.cons (.v 1) (.cons (.call fp (.cons (.v 0) (.cons (.v 3) .nil))) (.cons (.call fp (.cons (.v 0) (.cons (.v 3) .nil))) (.cons (.bin .ix (.v 7) (.k (.int 0))) (.cons (.bin .ix (.v 7) (.k (.int 1))) (.cons (.v 9) (.cons (.v 5) .nil))))))))) .nil)))))))⟩
theorem all_ints : ∀ zs : List D, (∀ z ∈ zs, ∃ i : Int, z = .int i ∧ Byte i) → ∃ C : List Int, zs = C.map .int ∧ ∀ b ∈ C, Byte b
  | [], _ => ⟨[], rfl, fun _ h => nomatch h⟩
  | z :: zs, h => by
    obtain ⟨i, rfl, hi⟩ := h z (List.mem_cons_self ..)
    obtain ⟨C, rfl, hC⟩ := all_ints zs fun z hz => h z (List.mem_cons_of_mem _ hz)
    exact ⟨i :: C, rfl, fun b hb => by
      rcases List.mem_cons.mp hb with e | e
      · rw [e]; exact hi
      · exact hC b e⟩
theorem drawn_label {T : List Fd} {ft fp fl : Nat} (hT : T[ft]? = some takenFd) (hP14 : T[fp]? = some (pickFd ft)) (hL : T[fl]? = some (labelFd ft fp)) {k r : Nat} {s : List Int} {B : Store} {P : D → Store → Prop} (h : Rb r s B)
    (done : ∀ (kk ix mn e c n : Nat) (IX MN E C' N' : Int) (C : List Int) G', IX = ix → MN = mn → E = e → C' = c → N' = n → kk < 4 → ix < 256 → mn < 256 → e < 2 ^ 32 → c < 2 ^ 32 → n < 2 ^ 16 → C.length ≤ 96 → (∀ b ∈ C, Byte b) → Mv r s B G' →
      P (.tup [.str (kindS.getD kk []), .int IX, .int MN, .int E, .int C', .int N', .tup (C.map .int)]) G') : wp (run T (k + 3) fl [.ref r] B) P := by
  refine run_wp (fd := labelFd ft fp) hL rfl ?_
  have hrl := h.lt
  simp only [s_pass, s_nil, s_cons, s_expr, s_set, s_par, s_setIx, s_setKey, s_augIx, s_aug, s_ifs, s_ret, s_retN, s_brk, s_cnt, s_never, w_k, w_v, w_un, w_bin, w_and, w_or, w_ite, w_chain, w_tup, wp_newL, w_lst, w_dic0, w_callD, w_sl, w_rev, w_call, w_bf, w_mt, w_nil, w_cons, w_no, w_some, Tg.bind, bindN, o_add, o_addT, o_sub, o_mul, o_fdiv, o_mod, o_pow, o_eq, o_ne, o_lt, o_le, o_gt, o_ge, o_isT, o_isI, o_isR, o_isN, o_eqB, o_neB, o_not, o_neg, o_lenT, o_int, o_isinI, o_isinT, o_isinB, o_isinI2, o_isinT2, t_ii, t_ib, t_is, t_it, t_il, t_tt, t_tl, t_ts, t_ti, t_tb, t_bb, t_bi, Cut.truthy, zb_bl, Bool.or_false, Bool.false_or, Bool.not_true, Bool.not_false, Bool.true_or, Bool.or_true, tb_dec, tb_some, tb_not, tb_true, tb_false, Cut.start, List.map, List.length, List.replicate, List.append_eq, List.cons_append, List.nil_append, List.getElem?_cons_zero, List.getElem?_cons_succ, List.set_cons_zero, List.set_cons_succ, Nat.reduceAdd, Nat.reduceSub, tyOf, if_true, if_false, Bool.false_eq_true, decide_true, decide_false, wp_ok, labelFd, w_comp, i_rng1]
  refine ⟨by decide, ?_⟩
  have w0 := h.start.new (.lst [D.str [112, 97, 114, 116], D.str [112, 97, 103, 101], D.str [104, 101, 97, 100], D.str [98, 108, 97, 110, 107]])
  refine pick' hT hP14 w0.rb lst_new (by omega) (by decide) (by decide) (by rfl) fun x hx G1 m1 => ?_
  obtain ⟨kk, hkk, rfl⟩ : ∃ kk : Nat, kk < 4 ∧ x = .str (kindS.getD kk []) := by
    simp only [List.mem_cons, List.not_mem_nil, or_false] at hx
    rcases hx with rfl | rfl | rfl | rfl
    · exact ⟨0, by decide, rfl⟩
    · exact ⟨1, by decide, rfl⟩
    · exact ⟨2, by decide, rfl⟩
    · exact ⟨3, by decide, rfl⟩
  have w1 := m1.rw w0
  refine ⟨by decide, by decide, ?_⟩
  refine taken' hT m1.rb (by decide) (by decide) fun v1 G2 a1 a2 m2 => ?_
  refine ⟨by decide, by decide, ?_⟩
  have w2 := m2.rw w1
  have l2 := w2.len
  have eN : (G2.new (.lst [D.int 0, D.int 1, D.int 2, D.int 255, D.int v1])).lst? G2.cs.length = some [D.int 0, D.int 1, D.int 2, D.int 255, D.int v1] := lst_new
  have w3 := w2.new (.lst [D.int 0, D.int 1, D.int 2, D.int 255, D.int v1])
  have l3 := len_new (G := G2) (c := .lst [D.int 0, D.int 1, D.int 2, D.int 255, D.int v1])
  generalize G2.new (.lst [D.int 0, D.int 1, D.int 2, D.int 255, D.int v1]) = G3 at eN w3 l3 ⊢
  refine taken' hT (w3.new _).rb (by decide) (by decide) fun v2 G4 b1 b2 m4 => ?_
  have w4 := m4.rw (w3.new _)
  have l4 := m4.len
  rw [len_new] at l4
  have eN4 := m4.lst (by omega) (lst_new_old eN)
  have e4 := m4.lst (n := G3.cs.length) (by omega) lst_new
  obtain ⟨M, hM0, hM1, hM⟩ : ∃ M : Int, 0 ≤ M ∧ M ≤ 96 ∧ ixAt [D.int 0, D.int 1, D.int 5, D.int 96] v2 = some (.int M) := by
    obtain ⟨q, rfl⟩ := Int.eq_ofNat_of_zero_le b1
    have hq : q < 4 := by omega
    rcases q with _ | _ | _ | _ | q
    · exact ⟨0, by decide, by decide, rfl⟩
    · exact ⟨1, by decide, by decide, rfl⟩
    · exact ⟨5, by decide, by decide, rfl⟩
    · exact ⟨96, by decide, by decide, rfl⟩
    · omega
  rw [o_ixL e4 hM, o_min]
  refine ⟨by omega, by omega, ?_⟩
  refine comp_rng (fun d => ∃ i : Int, d = .int i ∧ Byte i) w4.rb (by omega) ?_ ?_
  · intro i G' hi hw
    simp only [s_pass, s_nil, s_cons, s_expr, s_set, s_par, s_setIx, s_setKey, s_augIx, s_aug, s_ifs, s_ret, s_retN, s_brk, s_cnt, s_never, w_k, w_v, w_un, w_bin, w_and, w_or, w_ite, w_chain, w_tup, wp_newL, w_lst, w_dic0, w_callD, w_sl, w_rev, w_call, w_bf, w_mt, w_nil, w_cons, w_no, w_some, Tg.bind, bindN, o_add, o_addT, o_sub, o_mul, o_fdiv, o_mod, o_pow, o_eq, o_ne, o_lt, o_le, o_gt, o_ge, o_isT, o_isI, o_isR, o_isN, o_eqB, o_neB, o_not, o_neg, o_lenT, o_int, o_isinI, o_isinT, o_isinB, o_isinI2, o_isinT2, t_ii, t_ib, t_is, t_it, t_il, t_tt, t_tl, t_ts, t_ti, t_tb, t_bb, t_bi, Cut.truthy, zb_bl, Bool.or_false, Bool.false_or, Bool.not_true, Bool.not_false, Bool.true_or, Bool.or_true, tb_dec, tb_some, tb_not, tb_true, tb_false, Cut.start, List.map, List.length, List.replicate, List.append_eq, List.cons_append, List.nil_append, List.getElem?_cons_zero, List.getElem?_cons_succ, List.set_cons_zero, List.set_cons_succ, Nat.reduceAdd, Nat.reduceSub, tyOf, if_true, if_false, Bool.false_eq_true, decide_true, decide_false, wp_ok, wipeE]
    refine ⟨by decide, ?_⟩
    have hl := hw.len
    refine pick' hT hP14 (hw.rb.new _) lst_new (by omega) (by decide) (by decide) (by rfl) fun x hx G2 m => ?_
    refine ⟨?_, m.rw (hw.rb.start.new _)⟩
    simp only [List.mem_cons, List.not_mem_nil, or_false] at hx
    rcases hx with rfl | rfl | rfl <;> exact ⟨_, rfl, by decide, by decide⟩
  · intro zs G5 hz1 hz2 w5 e5
    obtain ⟨C1, rfl, hC1⟩ := all_ints zs hz2
    rw [List.length_map] at hz1
    refine ⟨by decide, ?_⟩
    rw [o_sub, o_max]
    have l5 := w5.len
    have ll4 := w4.rb.ll
    have ll5 := w5.rb.ll
    have gl5 := w5.glim
    have w6 := (w4.trans w5).new (.lst [D.int 9])
    have e6 : (G5.new (.lst [D.int 9])).lst? G5.cs.length = some [D.int 9] := lst_new
    have e56 := lst_new_old (c := .lst [D.int 9]) e5
    have eN6 := lst_new_old (c := .lst [D.int 9]) (w5.lst (by omega) eN4)
    have l6 := len_new (G := G5) (c := .lst [D.int 9])
    have gl6 : (G5.new (.lst [D.int 9])).lim = G5.lim := rfl
    generalize G5.new (.lst [D.int 9]) = G6 at w6 e6 e56 eN6 l6 gl6 ⊢
    rw [o_mulL (k := (max 0 (M - 4)).toNat) e6 (by omega) (by omega) (by omega)]
    rw [o_addL (lst_new_old e56) lst_new (by show G6.lim ≤ _; omega) (by show G6.lim ≤ _; omega)]
    rw [o_tupL lst_new]
    have sm : ∀ {n : Nat}, n ≤ 1000 → n ≤ sizeLine := fun h => Nat.le_trans h (by decide)
    refine ⟨sm (by rw [List.length_append, List.length_map, List.length_replicate]; omega), by decide, by decide, ?_⟩
    rw [show C1.map D.int ++ List.replicate (max 0 (M - 4)).toNat (D.int 9) = (C1 ++ List.replicate (max 0 (M - 4)).toNat 9).map D.int by rw [List.map_append, List.map_replicate]]
    obtain ⟨C, hC, hCl⟩ : ∃ C : List Int, C = C1 ++ List.replicate (max 0 (M - 4)).toNat 9 ∧ C.length ≤ 96 ∧ ∀ b ∈ C, Byte b := by
      refine ⟨_, rfl, by rw [List.length_append, List.length_replicate]; omega, fun b hb => ?_⟩
      rcases List.mem_append.mp hb with h | h
      · exact hC1 b h
      · rw [(List.mem_replicate.mp h).2]; exact ⟨by decide, by decide⟩
    rw [← hC]
    have w7 := (w6.new (.lst (List.replicate (max 0 (M - 4)).toNat (D.int 9)))).new (.lst (C.map D.int))
    have eN7 := lst_new_old (c := .lst (C.map D.int)) (lst_new_old (c := .lst (List.replicate (max 0 (M - 4)).toNat (D.int 9))) eN6)
    generalize (G6.new (.lst (List.replicate (max 0 (M - 4)).toNat (D.int 9)))).new (.lst (C.map D.int)) = G7 at w7 eN7 ⊢
    have l7 := w7.len
    have ll7 := w7.rb.ll
    refine comp_rng (fun d => ∃ i : Nat, d = .int i ∧ i < 2 ^ 32) w7.rb (by decide) ?_ ?_
    · intro i G' hi hw
      simp only [s_pass, s_nil, s_cons, s_expr, s_set, s_par, s_setIx, s_setKey, s_augIx, s_aug, s_ifs, s_ret, s_retN, s_brk, s_cnt, s_never, w_k, w_v, w_un, w_bin, w_and, w_or, w_ite, w_chain, w_tup, wp_newL, w_lst, w_dic0, w_callD, w_sl, w_rev, w_call, w_bf, w_mt, w_nil, w_cons, w_no, w_some, Tg.bind, bindN, o_add, o_addT, o_sub, o_mul, o_fdiv, o_mod, o_pow, o_eq, o_ne, o_lt, o_le, o_gt, o_ge, o_isT, o_isI, o_isR, o_isN, o_eqB, o_neB, o_not, o_neg, o_lenT, o_int, o_isinI, o_isinT, o_isinB, o_isinI2, o_isinT2, t_ii, t_ib, t_is, t_it, t_il, t_tt, t_tl, t_ts, t_ti, t_tb, t_bb, t_bi, Cut.truthy, zb_bl, Bool.or_false, Bool.false_or, Bool.not_true, Bool.not_false, Bool.true_or, Bool.or_true, tb_dec, tb_some, tb_not, tb_true, tb_false, Cut.start, List.map, List.length, List.replicate, List.append_eq, List.cons_append, List.nil_append, List.getElem?_cons_zero, List.getElem?_cons_succ, List.set_cons_zero, List.set_cons_succ, Nat.reduceAdd, Nat.reduceSub, tyOf, if_true, if_false, Bool.false_eq_true, decide_true, decide_false, wp_ok, wipeE]
      refine ⟨by decide, ?_⟩
      have hl := hw.len
      refine taken' hT hw.rb (by decide) (by decide) fun v G2 q1 q2 m => ?_
      have hm := m.len
      have c6 : (10 : Int) ^ Int.toNat 6 = 10 ^ 6 := by decide
      refine ⟨by decide, ?_⟩
      refine pick' hT hP14 (m.rb.new _) lst_new (by omega) (by simp) (by simp) (by rfl) fun x hx G3 m2 => ?_
      refine ⟨?_, m2.rw ((m.rw hw.rb.start).new _)⟩
      simp only [List.mem_cons, List.not_mem_nil, or_false] at hx
      obtain ⟨n, rfl⟩ := Int.eq_ofNat_of_zero_le q1
      rcases hx with rfl | rfl | rfl | rfl
      · exact ⟨0, rfl, by decide⟩
      · exact ⟨1, rfl, by decide⟩
      · exact ⟨2 ^ 32 - 1, rfl, by decide⟩
      · exact ⟨n, rfl, by omega⟩
    · intro zs2 G8 hz3 hz4 w8 e8
      obtain ⟨x0, x1, rfl⟩ : ∃ x0 x1, zs2 = [x0, x1] := by
        rcases zs2 with _ | ⟨x0, _ | ⟨x1, _ | ⟨x2, zs⟩⟩⟩
        · simp at hz3
        · simp at hz3
        · exact ⟨x0, x1, rfl⟩
        · simp at hz3
      obtain ⟨n0, rfl, hn0⟩ := hz4 x0 (by simp)
      obtain ⟨n1, rfl, hn1⟩ := hz4 x1 (by simp)
      have w9 := w7.trans w8
      have l8 := w8.len
      have eN8 := w8.lst (by omega) eN7
      refine taken' hT w9.rb (by decide) (by decide) fun v3 G9 c1 c2 m9 => ?_
      have l9 := m9.len
      refine ⟨by decide, ?_⟩
      have w10 := m9.rw w9
      have eN9 := m9.lst (by omega) eN8
      have e9 := m9.lst (by omega) e8
      refine pick' hT hP14 (w10.new _).rb lst_new (by omega) (by simp) (by simp) (by rfl) fun xs hxs G10 m10 => ?_
      have w11 := m10.rw (w10.new _)
      have l10 := m10.len
      have eN10 := m10.lst (by omega) (lst_new_old eN9)
      have e10 := m10.lst (by omega) (lst_new_old e9)
      obtain ⟨n, rfl, hn⟩ : ∃ n : Nat, xs = .int n ∧ n < 2 ^ 16 := by
        simp only [List.mem_cons, List.not_mem_nil, or_false] at hxs
        obtain ⟨q, rfl⟩ := Int.eq_ofNat_of_zero_le c1
        rcases hxs with rfl | rfl | rfl
        · exact ⟨0, rfl, by decide⟩
        · exact ⟨65535, rfl, by decide⟩
        · exact ⟨q, rfl, by omega⟩
      have byte : ∀ x ∈ [D.int 0, D.int 1, D.int 2, D.int 255, D.int v1], ∃ n : Nat, x = .int n ∧ n < 256 := by
        intro x hx
        simp only [List.mem_cons, List.not_mem_nil, or_false] at hx
        obtain ⟨q, rfl⟩ := Int.eq_ofNat_of_zero_le a1
        rcases hx with rfl | rfl | rfl | rfl | rfl
        · exact ⟨0, rfl, by decide⟩
        · exact ⟨1, rfl, by decide⟩
        · exact ⟨2, rfl, by decide⟩
        · exact ⟨255, rfl, by decide⟩
        · exact ⟨q, rfl, by omega⟩
      refine pick' hT hP14 w11.rb eN10 (by omega) (by simp) (by simp) (by rfl) fun x hx G11 m11 => ?_
      obtain ⟨ix, rfl, hix⟩ := byte x hx
      have eN11 := m11.lst (by omega) eN10
      have e11 := m11.lst (by omega) e10
      refine pick' hT hP14 m11.rb eN11 (by omega) (by simp) (by simp) (by rfl) fun x hx G12 m12 => ?_
      obtain ⟨mn, rfl, hmn⟩ := byte x hx
      have e12 := m12.lst (by omega) e11
      rw [o_ixL e12 (d := .int n0) rfl, o_ixL e12 (d := .int n1) rfl]
      refine ⟨by decide, ?_⟩
      have w12 := m12.rw (m11.rw w11)
      refine w12.out h ?_ fun G' m => done kk ix mn n0 n1 n _ _ _ _ _ C G' rfl rfl rfl rfl rfl hkk hix hmn hn0 hn1 hn hCl.1 hCl.2 m
      show belows _ [_, _, _, _, _, _, .tup (C.map D.int)] = true
      simp only [belows, below, belows_int, Bool.and_self]
theorem rng_end {lo : Int} {n : Nat} {G : Store} : (Itv.rng lo n).at n G = some none := by
  show some (if n < n then _ else _) = _; rw [if_neg (Nat.lt_irrefl _)]
theorem rng_at {lo : Int} {n i : Nat} {G : Store} (h : i < n) : (Itv.rng lo n).at i G = some (some (.int (lo + i))) := by
  show some (if i < n then _ else _) = _; rw [if_pos h]
theorem s_mid {C : CallF} {ρ : Cut.Env} {G : Store} {s : Sm} {ss : Sms} {D : Po} {Q : Cut.Env → Store → Prop} (h : wps (ex C s ρ G) ⟨Q, D.rt, D.bk, D.ct⟩) (k : ∀ ρ G, Q ρ G → wps (exs C ss ρ G) D) : wps (exs C (.cons s ss) ρ G) D := by
  rw [s_cons]
  exact h.imp k (fun _ _ h => h) (fun _ _ h => h) (fun _ _ h => h)
theorem byte_at {bs : List Int} (hb : ∀ b ∈ bs, Byte b) {i : Nat} (h : i < bs.length) : ∃ n : Nat, n < 256 ∧ bs[i]? = some (n : Int) := by
  have := hb _ (List.getElem_mem h)
  obtain ⟨n, e⟩ := Int.eq_ofNat_of_zero_le this.1
  exact ⟨n, by have := this.2; omega, by rw [List.getElem?_eq_getElem h, e]⟩
theorem at_byte {bs : List Int} (hb : ∀ b ∈ bs, Byte b) {i : Nat} {I : Int} (hI : I = i) (h : i < bs.length) : ∃ v : Int, Byte v ∧ ixAt (bs.map D.int) I = some (.int v) := by
  subst hI
  exact ⟨bs[i], hb _ (List.getElem_mem h), ixAt_nat (by rw [List.getElem?_map, List.getElem?_eq_getElem h]; rfl)⟩
theorem flatD_ints (xs : List Int) : (xs.map D.int).all flatD = true := by
  rw [List.all_eq_true]; intro x hx; obtain ⟨y, _, rfl⟩ := List.mem_map.mp hx; rfl
theorem inD_ints {G : Store} {m : Nat} {xs : List Int} {i : Int} (hx : G.lst? m = some (xs.map .int)) : inD G (.int i) (.ref m) = some (decide (i ∈ xs)) := by
  show (match G.lst? m with | some xs => if flatD (.int i) && xs.all flatD then some (xs.any fun y => eqF y (.int i)) else none | none => none) = _
  rw [hx]
  show (if (true && (xs.map D.int).all flatD) = true then some ((xs.map D.int).any fun y => eqF y (.int i)) else none) = _
  rw [flatD_ints]
  show some _ = _
  congr 1
  rw [Bool.eq_iff_iff, List.any_eq_true, decide_eq_true_iff]
  constructor
  · rintro ⟨y, hy, he⟩
    obtain ⟨z, hz, rfl⟩ := List.mem_map.mp hy
    have : z = i := by simpa [eqF] using he
    exact this ▸ hz
  · intro h
    exact ⟨.int i, List.mem_map.mpr ⟨i, h, rfl⟩, by simp [eqF]⟩
theorem o_inL {G : Store} {P : D → Store → Prop} {m : Nat} {xs : List Int} {i : Int} (hx : G.lst? m = some (xs.map .int)) : wp (op2 .in_ (.int i) (.ref m) G) P = P (.bl (decide (i ∈ xs))) G := by
  show wp (okO (inD G (.int i) (.ref m)) G) P = _
  rw [inD_ints hx]; rfl
theorem o_notinL {G : Store} {P : D → Store → Prop} {m : Nat} {xs : List Int} {i : Int} (hx : G.lst? m = some (xs.map .int)) : wp (op2 .notin (.int i) (.ref m) G) P = P (.bl (!decide (i ∈ xs))) G := by
  show wp (okO ((inD G (.int i) (.ref m)).map (!·)) G) P = _
  rw [inD_ints hx]; rfl
theorem o_isnN {G : Store} {P : D → Store → Prop} : wp (op2 .isnot .non .non G) P = P (.bl false) G := rfl
theorem o_isnT {G : Store} {P : D → Store → Prop} {xs : List D} : wp (op2 .isnot (.tup xs) .non G) P = P (.bl true) G := rfl
theorem o_isnI {G : Store} {P : D → Store → Prop} {i : Int} : wp (op2 .isnot (.int i) .non G) P = P (.bl true) G := rfl
theorem o_isnB {G : Store} {P : D → Store → Prop} {a b : Bool} : wp (op2 .isnot (.bl a) (.bl b) G) P = P (.bl (!decide (a = b))) G := rfl
theorem o_isB {G : Store} {P : D → Store → Prop} {a b : Bool} : wp (op2 .is (.bl a) (.bl b) G) P = P (.bl (decide (a = b))) G := rfl
theorem o_intB {G : Store} {P : D → Store → Prop} {b : Bool} : wp (bf .int [.bl b] G) P = P (.int (if b then 1 else 0)) G := rfl
theorem o_inTS {G : Store} {P : D → Store → Prop} {s : List Nat} {xs : List D} {b : Bool} (h : inD G (.str s) (.tup xs) = some b) : wp (op2 .in_ (.str s) (.tup xs) G) P = P (.bl b) G := by
  show wp (okO (inD G _ _) G) P = _
  rw [h]; rfl
theorem o_notinTS {G : Store} {P : D → Store → Prop} {s : List Nat} {xs : List D} {b : Bool} (h : inD G (.str s) (.tup xs) = some b) : wp (op2 .notin (.str s) (.tup xs) G) P = P (.bl (!b)) G := by
  show wp (okO ((inD G _ _).map (!·)) G) P = _
  rw [h]; rfl
end Cut
namespace K05
open PySem PySem.Spec PyProof.Rows L2 Cut
abbrev top (i : Nat) : Stmt := PySem.Challenge.pw_cutledger_k05_whole_checks.main.body.getD i (.Pass ⟨0, 0, 0, 0⟩)
def d0 : Df := { name := "is_number", st := top 8, N := ["value", "low", "high"], np := 3, tb := false, body := (.cons (.ret (.and (.bf .isin (.cons (.v 0) (.cons (.k (.ty .int)) .nil))) (.and (.un .not (.bf .isin (.cons (.v 0) (.cons (.k (.ty .bool)) .nil)))) (.chain .le .le (.v 1) (.v 0) (.v 2))))) .nil) }
def d1 : Df := { name := "are_bytes", st := top 9, N := ["value", "most", "byte"], np := 2, tb := true, body := (.cons (.ret (.and (.bf .isin (.cons (.v 0) (.cons (.k (.ty .tuple)) .nil))) (.and (.bin .le (.bf .len (.cons (.v 0) .nil)) (.v 1)) (.gen true (.v 2) (.one (.v 0)) (.call 0 (.cons (.v 2) (.cons (.k (.int 0)) (.cons (.k (.int 255)) .nil)))) [2])))) .nil) }
def d2 : Df := { name := "need_row", st := top 10, N := ["value"], np := 1, tb := false, body := (.cons (.ifs (.un .not (.call 1 (.cons (.v 0) (.cons (.k (.int 4096)) .nil)))) (.cons .never .nil) .nil) .nil) }
def d3 : Df := { name := "need_number", st := top 11, N := ["value", "low", "high"], np := 3, tb := false, body := (.cons (.ifs (.un .not (.call 0 (.cons (.v 0) (.cons (.v 1) (.cons (.v 2) .nil))))) (.cons .never .nil) .nil) .nil) }
def d4 : Df := { name := "fixed_code", st := top 12, N := ["value", "many", "found", "_"], np := 2, tb := false, body := (.cons (.set (.v 2) (.lst .nil)) (.cons (.for_ (.v 3) (.rng1 (.v 1)) (.cons (.expr (.mt .append (.v 2) (.cons (.bin .mod (.v 0) (.k (.int 256))) .nil))) (.cons (.aug 0 .fdiv (.k (.int 256))) .nil))) (.cons (.ret (.bf .tuple (.cons (.rev (.v 2)) .nil))) .nil))) }
def d5 : Df := { name := "shifted", st := top 18, N := ["rest"], np := 1, tb := false, body := (.cons (.aug 0 .mul (.k (.int 2))) (.cons (.ret (.ite (.bin .ge (.v 0) (.k (.int 65536))) (.bin .xor (.bin .sub (.v 0) (.k (.int 65536))) (.k (.int 4129))) (.v 0))) .nil)) }
def d6 : Df := { name := "check_row", st := top 19, N := ["row", "rest", "byte", "half"], np := 1, tb := false, body := (.cons (.set (.v 1) (.k (.int 0))) (.cons (.for_ (.v 2) (.one (.v 0)) (.cons (.for_ (.v 3) (.one (.tup (.cons (.bin .fdiv (.v 2) (.k (.int 16))) (.cons (.bin .mod (.v 2) (.k (.int 16))) .nil)))) (.cons (.set (.v 1) (.bin .xor (.bin .mul (.bin .mod (.v 1) (.k (.int 4096))) (.k (.int 16))) (.bin .mul (.bin .xor (.bin .fdiv (.v 1) (.k (.int 4096))) (.v 3)) (.k (.int 4129))))) .nil)) .nil)) (.cons (.ret (.v 1)) .nil))) }
def d7 : Df := { name := "are_flips", st := top 20, N := ["value", "bits", "flip", "one", "other"], np := 2, tb := true, body := (.cons (.ifs (.or (.un .not (.bf .isin (.cons (.v 0) (.cons (.k (.ty .tuple)) .nil)))) (.bin .gt (.bf .len (.cons (.v 0) .nil)) (.k (.int 64)))) (.cons (.ret (.k (.bl false))) .nil) .nil) (.cons (.ifs (.un .not (.gen true (.v 2) (.one (.v 0)) (.call 0 (.cons (.v 2) (.cons (.k (.int 0)) (.cons (.bin .sub (.v 1) (.k (.int 1))) .nil)))) [2])) (.cons (.ret (.k (.bl false))) .nil) .nil) (.cons (.ret (.gen true (.tup [3, 4]) (.zip (.v 0) (.sl (.v 0) (.some (.k (.int 1))) .none)) (.bin .lt (.v 3) (.v 4)) [3, 4])) .nil))) }
def d8 : Df := { name := "need_flips", st := top 21, N := ["value", "bits"], np := 2, tb := false, body := (.cons (.ifs (.un .not (.call 7 (.cons (.v 0) (.cons (.v 1) .nil)))) (.cons .never .nil) .nil) .nil) }
def d9 : Df := { name := "rests_of", st := top 22, N := ["bits", "found", "rest", "_"], np := 1, tb := false, body := (.cons (.par [1, 2] (.cons (.lst .nil) (.cons (.k (.int 1)) .nil))) (.cons (.for_ (.v 3) (.rng1 (.v 0)) (.cons (.expr (.mt .append (.v 1) (.cons (.v 2) .nil))) (.cons (.set (.v 2) (.call 5 (.cons (.v 2) .nil))) .nil))) (.cons (.ret (.rev (.v 1))) .nil))) }
def d10 : Df := { name := "check_of", st := top 23, N := ["row"], np := 1, tb := false, body := (.cons (.expr (.call 2 (.cons (.v 0) .nil))) (.cons (.ret (.call 6 (.cons (.v 0) .nil))) .nil)) }
def d11 : Df := { name := "sealed", st := top 24, N := ["row"], np := 1, tb := false, body := (.cons (.expr (.call 2 (.cons (.v 0) .nil))) (.cons (.ifs (.bin .gt (.bin .add (.bf .len (.cons (.v 0) .nil)) (.k (.int 2))) (.k (.int 4096))) (.cons .never .nil) .nil) (.cons (.ret (.bin .add (.v 0) (.call 4 (.cons (.call 6 (.cons (.v 0) .nil)) (.cons (.k (.int 2)) .nil))))) .nil))) }
def d12 : Df := { name := "is_sealed", st := top 25, N := ["row"], np := 1, tb := false, body := (.cons (.expr (.call 2 (.cons (.v 0) .nil))) (.cons (.ret (.and (.bin .ge (.bf .len (.cons (.v 0) .nil)) (.k (.int 2))) (.bin .eq (.call 6 (.cons (.v 0) .nil)) (.k (.int 0))))) .nil)) }
def d13 : Df := { name := "flipped", st := top 26, N := ["row", "flips", "found", "flip"], np := 2, tb := false, body := (.cons (.expr (.call 2 (.cons (.v 0) .nil))) (.cons (.expr (.call 8 (.cons (.v 1) (.cons (.bin .mul (.k (.int 8)) (.bf .len (.cons (.v 0) .nil))) .nil)))) (.cons (.set (.v 2) (.bf .list (.cons (.v 0) .nil))) (.cons (.for_ (.v 3) (.one (.v 1)) (.cons (.augIx (.v 2) (.bin .fdiv (.v 3) (.k (.int 8))) .xor (.bin .ix (.k (.tup [(.int 128), (.int 64), (.int 32), (.int 16), (.int 8), (.int 4), (.int 2), (.int 1)])) (.bin .mod (.v 3) (.k (.int 8))))) .nil)) (.cons (.ret (.bf .tuple (.cons (.v 2) .nil))) .nil))))) }
def d14 : Df := { name := "is_unseen", st := top 27, N := ["length", "flips", "rests", "rest", "flip"], np := 2, tb := false, body := (.cons (.expr (.call 3 (.cons (.v 0) (.cons (.k (.int 2)) (.cons (.k (.int 4096)) .nil))))) (.cons (.expr (.call 8 (.cons (.v 1) (.cons (.bin .mul (.k (.int 8)) (.v 0)) .nil)))) (.cons (.par [2, 3] (.cons (.call 9 (.cons (.bin .mul (.k (.int 8)) (.v 0)) .nil)) (.cons (.k (.int 0)) .nil))) (.cons (.for_ (.v 4) (.one (.v 1)) (.cons (.aug 3 .xor (.bin .ix (.v 2) (.v 4))) .nil)) (.cons (.ret (.bin .eq (.v 3) (.k (.int 0)))) .nil))))) }
def d15 : Df := { name := "_law_taken", st := top 29, N := ["_law_row_here", "_law_many", "_law_found", "_law_cell"], np := 2, tb := false, body := (.cons (.ifs (.bin .gt (.bin .ix (.v 0) (.k (.int 3))) (.k (.int 0))) (.cons (.set (.v 2) (.bin .mod (.bf .int (.cons (.bin .ix (.v 0) (.k (.int 3))) .nil)) (.v 1))) (.cons (.setIx (.v 0) (.k (.int 3)) (.bin .fdiv (.bin .ix (.v 0) (.k (.int 3))) (.v 1))) (.cons (.ret (.v 2)) .nil))) .nil) (.cons (.setIx (.v 0) (.k (.int 1)) (.bin .add (.bin .ix (.v 0) (.k (.int 1))) (.k (.int 1)))) (.cons (.ifs (.bin .gt (.bin .ix (.v 0) (.k (.int 1))) (.bf .len (.cons (.bin .ix (.v 0) (.k (.int 0))) .nil))) (.cons (.setIx (.v 0) (.k (.int 2)) (.bin .mod (.bf .int (.cons (.bin .add (.bin .mul (.bin .ix (.v 0) (.k (.int 2))) (.k (.int 48271))) (.k (.int 11))) .nil)) (.k (.int 2147483647)))) (.cons (.ret (.bin .mod (.bf .int (.cons (.bin .fdiv (.bin .ix (.v 0) (.k (.int 2))) (.k (.int 7))) .nil)) (.v 1))) .nil)) .nil) (.cons (.set (.v 3) (.bin .ix (.bin .ix (.v 0) (.k (.int 0))) (.bin .sub (.bin .ix (.v 0) (.k (.int 1))) (.k (.int 1))))) (.cons (.setIx (.v 0) (.k (.int 2)) (.bin .mod (.bf .int (.cons (.bin .add (.bin .add (.bin .mul (.bin .ix (.v 0) (.k (.int 2))) (.k (.int 48271))) (.v 3)) (.k (.int 11))) .nil)) (.k (.int 2147483647)))) (.cons (.ifs (.bin .ge (.v 3) (.bin .pow (.k (.int 10)) (.k (.int 18)))) (.cons (.setIx (.v 0) (.k (.int 3)) (.bin .fdiv (.v 3) (.v 1))) .nil) .nil) (.cons (.ret (.bin .mod (.bf .int (.cons (.v 3) .nil)) (.v 1))) .nil))))))) }
def d16 : Df := { name := "_law_pick", st := top 30, N := ["_law_row_here", "_law_things"], np := 2, tb := false, body := (.cons (.ret (.bin .ix (.v 1) (.call 15 (.cons (.v 0) (.cons (.bf .len (.cons (.v 1) .nil)) .nil))))) .nil) }
def d17 : Df := { name := "_law_row", st := top 31, N := ["_law_row_here", "_law_most", "_law_many", "_law_some", "_law_at"], np := 2, tb := false, body := (.cons (.set (.tup [2, 3]) (.tup (.cons (.call 15 (.cons (.v 0) (.cons (.bin .add (.v 1) (.k (.int 1))) .nil))) (.cons (.lst (.cons (.k (.int 0)) (.cons (.k (.int 255)) (.cons (.k (.int 128)) .nil)))) .nil)))) (.cons (.ret (.bf .tuple (.cons (.comp (.v 4) (.rng1 (.v 2)) .none (.call 16 (.cons (.v 0) (.cons (.bin .add (.v 3) (.lst (.cons (.call 15 (.cons (.v 0) (.cons (.k (.int 256)) .nil))) .nil))) .nil))) [4]) .nil))) .nil)) }
def d18 : Df := { name := "_law_alike", st := top 32, N := ["_law_found", "_law_due", "_law_k"], np := 2, tb := false, body := (.cons (.ifs (.bf .isin (.cons (.v 1) (.cons (.tup (.cons (.k (.ty .tuple)) (.cons (.k (.ty .list)) .nil))) .nil))) (.cons (.ifs (.or (.un .not (.bf .isin (.cons (.v 0) (.cons (.tup (.cons (.k (.ty .tuple)) (.cons (.k (.ty .list)) .nil))) .nil)))) (.bin .ne (.bf .isin (.cons (.v 0) (.cons (.k (.ty .list)) .nil))) (.bf .isin (.cons (.v 1) (.cons (.k (.ty .list)) .nil))))) (.cons (.ret (.k (.bl false))) .nil) .nil) (.cons (.ifs (.bin .ne (.bf .len (.cons (.v 0) .nil)) (.bf .len (.cons (.v 1) .nil))) (.cons (.ret (.k (.bl false))) .nil) .nil) (.cons (.ret (.bin .eq (.comp (.v 2) (.rng1 (.bf .len (.cons (.v 1) .nil))) (.some (.un .not (.call 18 (.cons (.bin .ix (.v 0) (.v 2)) (.cons (.bin .ix (.v 1) (.v 2)) .nil))))) (.v 2) [2]) (.lst .nil))) .nil))) .nil) (.cons (.ifs (.or (.bin .is (.v 1) (.k .non)) (.bf .isin (.cons (.v 1) (.cons (.k (.ty .str)) .nil)))) (.cons (.ret (.and (.bin .eq (.v 0) (.v 1)) (.bin .eq (.bf .isin (.cons (.v 0) (.cons (.k (.ty .str)) .nil))) (.bf .isin (.cons (.v 1) (.cons (.k (.ty .str)) .nil)))))) .nil) .nil) (.cons (.ret (.and (.bf .isin (.cons (.v 0) (.cons (.k (.ty .int)) .nil))) (.and (.bin .eq (.bf .isin (.cons (.v 0) (.cons (.k (.ty .bool)) .nil))) (.bf .isin (.cons (.v 1) (.cons (.k (.ty .bool)) .nil)))) (.bin .eq (.v 0) (.v 1))))) .nil))) }
def d19 : Df := { name := "_law_divided", st := top 33, N := ["_law_row_here", "_law_rest", "_law_byte", "_law_at", "_law_top"], np := 1, tb := false, body := (.cons (.set (.v 1) (.k (.int 0))) (.cons (.for_ (.v 2) (.one (.v 0)) (.cons (.for_ (.v 3) (.rng1 (.k (.int 8))) (.cons (.set (.v 4) (.bin .fdiv (.v 1) (.k (.int 32768)))) (.cons (.set (.v 1) (.bin .mod (.bf .int (.cons (.bin .mul (.v 1) (.k (.int 2))) .nil)) (.k (.int 65536)))) (.cons (.ifs (.bin .eq (.bin .mod (.bf .int (.cons (.bin .add (.v 4) (.bin .fdiv (.v 2) (.bin .ix (.lst (.cons (.k (.int 128)) (.cons (.k (.int 64)) (.cons (.k (.int 32)) (.cons (.k (.int 16)) (.cons (.k (.int 8)) (.cons (.k (.int 4)) (.cons (.k (.int 2)) (.cons (.k (.int 1)) .nil))))))))) (.v 3)))) .nil)) (.k (.int 2))) (.k (.int 1))) (.cons (.set (.v 1) (.bin .xor (.v 1) (.k (.int 4129)))) .nil) .nil) .nil)))) .nil)) (.cons (.ret (.v 1)) .nil))) }
def d20 : Df := { name := "_law_crc", st := top 34, N := ["_law_row_here", "_law_rest", "_law_byte", "_law_more"], np := 1, tb := false, body := (.cons (.set (.v 1) (.k (.int 0))) (.cons (.for_ (.v 2) (.one (.v 0)) (.cons (.set (.v 3) (.bin .xor (.bin .fdiv (.v 1) (.k (.int 256))) (.v 2))) (.cons (.set (.v 3) (.bin .xor (.v 3) (.bin .fdiv (.v 3) (.k (.int 16))))) (.cons (.set (.v 1) (.bin .xor (.bin .xor (.bin .xor (.bin .mod (.bf .int (.cons (.bin .mul (.v 1) (.k (.int 256))) .nil)) (.k (.int 65536))) (.bin .mod (.bf .int (.cons (.bin .mul (.v 3) (.k (.int 4096))) .nil)) (.k (.int 65536)))) (.bin .mul (.v 3) (.k (.int 32)))) (.v 3))) .nil)))) (.cons (.ret (.v 1)) .nil))) }
def d21 : Df := { name := "_law_bytes", st := top 35, N := ["_law_value", "_law_many", "_law_found", "_law_at"], np := 2, tb := false, body := (.cons (.set (.v 2) (.tup .nil)) (.cons (.for_ (.v 3) (.rng1 (.v 1)) (.cons (.set (.v 2) (.bin .add (.tup (.cons (.bin .mod (.bf .int (.cons (.v 0) .nil)) (.k (.int 256))) .nil)) (.v 2))) (.cons (.set (.v 0) (.bin .fdiv (.v 0) (.k (.int 256)))) .nil))) (.cons (.ret (.v 2)) .nil))) }
def d22 : Df := { name := "_law_flips", st := top 36, N := ["_law_row_here", "_law_bits", "_law_way", "_law_some", "_law_start", "_law_turn", "_law_spot"], np := 2, tb := false, body := (.cons (.par [2, 3] (.cons (.call 15 (.cons (.v 0) (.cons (.k (.int 3)) .nil))) (.cons .dic0 .nil))) (.cons (.set (.v 4) (.call 15 (.cons (.v 0) (.cons (.v 1) .nil)))) (.cons (.for_ (.v 5) (.rng1 (.call 15 (.cons (.v 0) (.cons (.k (.int 7)) .nil)))) (.cons (.set (.v 6) (.ite (.bin .gt (.v 2) (.k (.int 0))) (.call 15 (.cons (.v 0) (.cons (.v 1) .nil))) (.bf .min (.cons (.bin .sub (.v 1) (.k (.int 1))) (.cons (.bin .add (.v 4) (.call 15 (.cons (.v 0) (.cons (.k (.int 16)) .nil)))) .nil))))) (.cons (.setKey (.v 3) (.v 6) (.k (.bl true))) .nil))) (.cons (.ret (.bf .tuple (.cons (.bf .sorted (.cons (.bf .list (.cons (.v 3) .nil)) .nil)) .nil))) .nil)))) }
def d23 : Df := { name := "_law_flipped", st := top 37, N := ["_law_row_here", "_law_flips_here", "_law_found", "_law_flip", "_law_bit", "_law_here"], np := 2, tb := false, body := (.cons (.set (.v 2) (.bf .list (.cons (.v 0) .nil))) (.cons (.for_ (.v 3) (.one (.v 1)) (.cons (.set (.v 4) (.bin .ix (.lst (.cons (.k (.int 128)) (.cons (.k (.int 64)) (.cons (.k (.int 32)) (.cons (.k (.int 16)) (.cons (.k (.int 8)) (.cons (.k (.int 4)) (.cons (.k (.int 2)) (.cons (.k (.int 1)) .nil))))))))) (.bin .mod (.bf .int (.cons (.v 3) .nil)) (.k (.int 8))))) (.cons (.set (.v 5) (.bin .ix (.v 2) (.bin .fdiv (.v 3) (.k (.int 8))))) (.cons (.setIx (.v 2) (.bin .fdiv (.v 3) (.k (.int 8))) (.ite (.bin .eq (.bin .mod (.bf .int (.cons (.bin .fdiv (.v 5) (.v 4)) .nil)) (.k (.int 2))) (.k (.int 1))) (.bin .sub (.v 5) (.v 4)) (.bin .add (.v 5) (.v 4)))) .nil)))) (.cons (.ret (.bf .tuple (.cons (.v 2) .nil))) .nil))) }
def d24 : Df := { name := "law", st := top 38, N := ["_law_script", "_law_row_here", "_law_one", "_law_whole", "_law_turn", "_law_flips_here", "_law_changed", "_law_stays", "_law_taps", "_law_start", "_law_known", "_law_tap", "_law_many", "_law_due", "_law_other"], np := 1, tb := false, body := (.cons (.set (.v 1) (.lst (.cons (.v 0) (.cons (.k (.int 0)) (.cons (.k (.int 9005)) (.cons (.k (.int 0)) .nil)))))) (.cons (.set (.v 2) (.call 17 (.cons (.v 1) (.cons (.k (.int 20)) .nil)))) (.cons (.ifs (.or (.un .not (.call 18 (.cons (.call 10 (.cons (.v 2) .nil)) (.cons (.call 19 (.cons (.v 2) .nil)) .nil)))) (.bin .ne (.call 19 (.cons (.v 2) .nil)) (.call 20 (.cons (.v 2) .nil)))) (.cons (.ret (.k (.bl false))) .nil) .nil) (.cons (.set (.v 3) (.bin .add (.v 2) (.call 21 (.cons (.call 20 (.cons (.v 2) .nil)) (.cons (.k (.int 2)) .nil))))) (.cons (.ifs (.or (.un .not (.call 18 (.cons (.call 11 (.cons (.v 2) .nil)) (.cons (.v 3) .nil)))) (.bin .isnot (.call 12 (.cons (.v 3) .nil)) (.k (.bl true)))) (.cons (.ret (.k (.bl false))) .nil) .nil) (.cons (.ifs (.un .not (.call 18 (.cons (.call 12 (.cons (.v 2) .nil)) (.cons (.and (.bin .gt (.bf .len (.cons (.v 2) .nil)) (.k (.int 1))) (.bin .eq (.call 21 (.cons (.call 20 (.cons (.sl (.v 2) .none (.some (.un .neg (.k (.int 2))))) .nil)) (.cons (.k (.int 2)) .nil))) (.sl (.v 2) (.some (.un .neg (.k (.int 2)))) .none))) .nil)))) (.cons (.ret (.k (.bl false))) .nil) .nil) (.cons (.for_ (.v 4) (.rng1 (.k (.int 5))) (.cons (.set (.v 5) (.call 22 (.cons (.v 1) (.cons (.bin .mul (.k (.int 8)) (.bf .len (.cons (.v 3) .nil))) .nil)))) (.cons (.set (.v 6) (.call 23 (.cons (.v 3) (.cons (.v 5) .nil)))) (.cons (.set (.v 7) (.bin .eq (.call 21 (.cons (.call 20 (.cons (.sl (.v 6) .none (.some (.un .neg (.k (.int 2))))) .nil)) (.cons (.k (.int 2)) .nil))) (.sl (.v 6) (.some (.un .neg (.k (.int 2)))) .none))) (.cons (.ifs (.un .not (.call 18 (.cons (.lst (.cons (.call 13 (.cons (.v 3) (.cons (.v 5) .nil))) (.cons (.call 12 (.cons (.v 6) .nil)) .nil))) (.cons (.lst (.cons (.v 6) (.cons (.v 7) .nil))) .nil)))) (.cons (.ret (.k (.bl false))) .nil) .nil) (.cons (.ifs (.un .not (.call 18 (.cons (.call 14 (.cons (.bf .len (.cons (.v 3) .nil)) (.cons (.v 5) .nil))) (.cons (.v 7) .nil)))) (.cons (.ret (.k (.bl false))) .nil) .nil) .nil)))))) (.cons (.set (.tup [8, 9]) (.tup (.cons (.lst (.cons (.k (.int 0)) (.cons (.k (.int 4)) (.cons (.k (.int 11)) (.cons (.k (.int 16)) .nil))))) (.cons (.call 15 (.cons (.v 1) (.cons (.k (.int 30)) .nil))) .nil)))) (.cons (.set (.v 10) (.bf .tuple (.cons (.comp (.v 11) (.one (.v 8)) .none (.bin .add (.v 9) (.v 11)) [11]) .nil))) (.cons (.set (.v 12) (.bin .add (.k (.int 3)) (.call 15 (.cons (.v 1) (.cons (.k (.int 60)) .nil))))) (.cons (.set (.v 13) (.bin .lt (.bin .add (.v 9) (.k (.int 16))) (.bin .mul (.k (.int 8)) (.v 12)))) (.cons (.ifs (.and (.v 13) (.bin .isnot (.call 14 (.cons (.v 12) (.cons (.v 10) .nil))) (.k (.bl true)))) (.cons (.ret (.k (.bl false))) .nil) .nil) (.cons (.set (.v 14) (.bf .tuple (.cons (.comp (.v 2) (.rng2 (.v 9) (.bin .add (.v 9) (.k (.int 3)))) .none (.v 2) [2]) .nil))) (.cons (.ret (.or (.bin .ge (.bin .add (.v 9) (.k (.int 2))) (.bin .mul (.k (.int 8)) (.v 12))) (.bin .is (.call 14 (.cons (.v 12) (.cons (.v 14) .nil))) (.k (.bl false))))) .nil)))))))))))))) }
def Ds : List Df := [d0, d1, d2, d3, d4, d5, d6, d7, d8, d9, d10, d11, d12, d13, d14, d15, d16, d17, d18, d19, d20, d21, d22, d23, d24]
def Γ : Gx := { con := [("MOST_ROW", (.int 4096)), ("TOP", (.int 65536)), ("TAPS", (.int 4129)), ("MOST_FLIPS", (.int 64)), ("BIT_VALUES", (.tup [(.int 128), (.int 64), (.int 32), (.int 16), (.int 8), (.int 4), (.int 2), (.int 1)]))], fns := [("is_number", 0), ("are_bytes", 1), ("need_row", 2), ("need_number", 3), ("fixed_code", 4), ("shifted", 5), ("check_row", 6), ("are_flips", 7), ("need_flips", 8), ("rests_of", 9), ("check_of", 10), ("sealed", 11), ("is_sealed", 12), ("flipped", 13), ("is_unseen", 14), ("_law_taken", 15), ("_law_pick", 16), ("_law_row", 17), ("_law_alike", 18), ("_law_divided", 19), ("_law_crc", 20), ("_law_bytes", 21), ("_law_flips", 22), ("_law_flipped", 23), ("law", 24)] }
theorem ck0 : d0.ck Γ = true := by decide +kernel
theorem ck1 : d1.ck Γ = true := by decide +kernel
theorem ck2 : d2.ck Γ = true := by decide +kernel
theorem ck3 : d3.ck Γ = true := by decide +kernel
theorem ck4 : d4.ck Γ = true := by decide +kernel
theorem ck5 : d5.ck Γ = true := by decide +kernel
theorem ck6 : d6.ck Γ = true := by decide +kernel
theorem ck7 : d7.ck Γ = true := by decide +kernel
theorem ck8 : d8.ck Γ = true := by decide +kernel
theorem ck9 : d9.ck Γ = true := by decide +kernel
theorem ck10 : d10.ck Γ = true := by decide +kernel
theorem ck11 : d11.ck Γ = true := by decide +kernel
theorem ck12 : d12.ck Γ = true := by decide +kernel
theorem ck13 : d13.ck Γ = true := by decide +kernel
theorem ck14 : d14.ck Γ = true := by decide +kernel
theorem ck15 : d15.ck Γ = true := by decide +kernel
theorem ck16 : d16.ck Γ = true := by decide +kernel
theorem ck17 : d17.ck Γ = true := by decide +kernel
theorem ck18 : d18.ck Γ = true := by decide +kernel
theorem ck19 : d19.ck Γ = true := by decide +kernel
theorem ck20 : d20.ck Γ = true := by decide +kernel
theorem ck21 : d21.ck Γ = true := by decide +kernel
theorem ck22 : d22.ck Γ = true := by decide +kernel
theorem ck23 : d23.ck Γ = true := by decide +kernel
theorem ck24 : d24.ck Γ = true := by decide +kernel
theorem cks : ∀ d ∈ Ds, d.ck Γ = true := List.forall_mem_cons.2 ⟨ck0, List.forall_mem_cons.2 ⟨ck1, List.forall_mem_cons.2 ⟨ck2, List.forall_mem_cons.2 ⟨ck3, List.forall_mem_cons.2 ⟨ck4, List.forall_mem_cons.2 ⟨ck5, List.forall_mem_cons.2 ⟨ck6, List.forall_mem_cons.2 ⟨ck7, List.forall_mem_cons.2 ⟨ck8, List.forall_mem_cons.2 ⟨ck9, List.forall_mem_cons.2 ⟨ck10, List.forall_mem_cons.2 ⟨ck11, List.forall_mem_cons.2 ⟨ck12, List.forall_mem_cons.2 ⟨ck13, List.forall_mem_cons.2 ⟨ck14, List.forall_mem_cons.2 ⟨ck15, List.forall_mem_cons.2 ⟨ck16, List.forall_mem_cons.2 ⟨ck17, List.forall_mem_cons.2 ⟨ck18, List.forall_mem_cons.2 ⟨ck19, List.forall_mem_cons.2 ⟨ck20, List.forall_mem_cons.2 ⟨ck21, List.forall_mem_cons.2 ⟨ck22, List.forall_mem_cons.2 ⟨ck23, List.forall_mem_cons.2 ⟨ck24, fun _ h => nomatch h⟩⟩⟩⟩⟩⟩⟩⟩⟩⟩⟩⟩⟩⟩⟩⟩⟩⟩⟩⟩⟩⟩⟩⟩⟩
theorem bn0 : BndA d0 := .inl ⟨rfl, fun _ _ _ _ _ _ us hl => match us, hl with | [_, _, _], _ => rfl⟩
theorem bn1 : BndA d1 := .inl ⟨rfl, fun _ _ _ _ _ _ us hl => match us, hl with | [_, _], _ => rfl⟩
theorem bn2 : BndA d2 := .inl ⟨rfl, fun _ _ _ _ _ _ us hl => match us, hl with | [_], _ => rfl⟩
theorem bn3 : BndA d3 := .inl ⟨rfl, fun _ _ _ _ _ _ us hl => match us, hl with | [_, _, _], _ => rfl⟩
theorem bn4 : BndA d4 := .inl ⟨rfl, fun _ _ _ _ _ _ us hl => match us, hl with | [_, _], _ => rfl⟩
theorem bn5 : BndA d5 := .inl ⟨rfl, fun _ _ _ _ _ _ us hl => match us, hl with | [_], _ => rfl⟩
theorem bn6 : BndA d6 := .inl ⟨rfl, fun _ _ _ _ _ _ us hl => match us, hl with | [_], _ => rfl⟩
theorem bn7 : BndA d7 := .inl ⟨rfl, fun _ _ _ _ _ _ us hl => match us, hl with | [_, _], _ => rfl⟩
theorem bn8 : BndA d8 := .inl ⟨rfl, fun _ _ _ _ _ _ us hl => match us, hl with | [_, _], _ => rfl⟩
theorem bn9 : BndA d9 := .inl ⟨rfl, fun _ _ _ _ _ _ us hl => match us, hl with | [_], _ => rfl⟩
theorem bn10 : BndA d10 := .inl ⟨rfl, fun _ _ _ _ _ _ us hl => match us, hl with | [_], _ => rfl⟩
theorem bn11 : BndA d11 := .inl ⟨rfl, fun _ _ _ _ _ _ us hl => match us, hl with | [_], _ => rfl⟩
theorem bn12 : BndA d12 := .inl ⟨rfl, fun _ _ _ _ _ _ us hl => match us, hl with | [_], _ => rfl⟩
theorem bn13 : BndA d13 := .inl ⟨rfl, fun _ _ _ _ _ _ us hl => match us, hl with | [_, _], _ => rfl⟩
theorem bn14 : BndA d14 := .inl ⟨rfl, fun _ _ _ _ _ _ us hl => match us, hl with | [_, _], _ => rfl⟩
theorem bn15 : BndA d15 := .inl ⟨rfl, fun _ _ _ _ _ _ us hl => match us, hl with | [_, _], _ => rfl⟩
theorem bn16 : BndA d16 := .inl ⟨rfl, fun _ _ _ _ _ _ us hl => match us, hl with | [_, _], _ => rfl⟩
theorem bn17 : BndA d17 := .inl ⟨rfl, fun _ _ _ _ _ _ us hl => match us, hl with | [_, _], _ => rfl⟩
theorem bn18 : BndA d18 := .inl ⟨rfl, fun _ _ _ _ _ _ us hl => match us, hl with | [_, _], _ => rfl⟩
theorem bn19 : BndA d19 := .inl ⟨rfl, fun _ _ _ _ _ _ us hl => match us, hl with | [_], _ => rfl⟩
theorem bn20 : BndA d20 := .inl ⟨rfl, fun _ _ _ _ _ _ us hl => match us, hl with | [_], _ => rfl⟩
theorem bn21 : BndA d21 := .inl ⟨rfl, fun _ _ _ _ _ _ us hl => match us, hl with | [_, _], _ => rfl⟩
theorem bn22 : BndA d22 := .inl ⟨rfl, fun _ _ _ _ _ _ us hl => match us, hl with | [_, _], _ => rfl⟩
theorem bn23 : BndA d23 := .inl ⟨rfl, fun _ _ _ _ _ _ us hl => match us, hl with | [_, _], _ => rfl⟩
theorem bn24 : BndA d24 := .inl ⟨rfl, fun _ _ _ _ _ _ us hl => match us, hl with | [_], _ => rfl⟩
theorem bns : ∀ d ∈ Ds, BndA d := List.forall_mem_cons.2 ⟨bn0, List.forall_mem_cons.2 ⟨bn1, List.forall_mem_cons.2 ⟨bn2, List.forall_mem_cons.2 ⟨bn3, List.forall_mem_cons.2 ⟨bn4, List.forall_mem_cons.2 ⟨bn5, List.forall_mem_cons.2 ⟨bn6, List.forall_mem_cons.2 ⟨bn7, List.forall_mem_cons.2 ⟨bn8, List.forall_mem_cons.2 ⟨bn9, List.forall_mem_cons.2 ⟨bn10, List.forall_mem_cons.2 ⟨bn11, List.forall_mem_cons.2 ⟨bn12, List.forall_mem_cons.2 ⟨bn13, List.forall_mem_cons.2 ⟨bn14, List.forall_mem_cons.2 ⟨bn15, List.forall_mem_cons.2 ⟨bn16, List.forall_mem_cons.2 ⟨bn17, List.forall_mem_cons.2 ⟨bn18, List.forall_mem_cons.2 ⟨bn19, List.forall_mem_cons.2 ⟨bn20, List.forall_mem_cons.2 ⟨bn21, List.forall_mem_cons.2 ⟨bn22, List.forall_mem_cons.2 ⟨bn23, List.forall_mem_cons.2 ⟨bn24, fun _ h => nomatch h⟩⟩⟩⟩⟩⟩⟩⟩⟩⟩⟩⟩⟩⟩⟩⟩⟩⟩⟩⟩⟩⟩⟩⟩⟩
end K05
namespace K05
open PySem Cut
abbrev T : List Fd := Ds.map Df.fd
theorem is_number {k : Nat} {v lo hi : Int} {G : Store} (h1 : lo ≤ v) (h2 : v ≤ hi) : run T (k + 1) 0 [.int v, .int lo, .int hi] G = .ok (.bl true) G := by
  refine eq_of_wp (run_wp (fd := d0.fd) rfl rfl ?_)
  simp only [s_pass, s_nil, s_cons, s_expr, s_set, s_par, s_setIx, s_setKey, s_augIx, s_aug, s_ifs, s_ret, s_retN, s_brk, s_cnt, s_never, w_k, w_v, w_un, w_bin, w_and, w_or, w_ite, w_chain, w_tup, wp_newL, w_lst, w_dic0, w_callD, w_sl, w_rev, w_call, w_bf, w_mt, w_nil, w_cons, w_no, w_some, Tg.bind, bindN, o_add, o_addT, o_sub, o_mul, o_fdiv, o_mod, o_pow, o_eq, o_ne, o_lt, o_le, o_gt, o_ge, o_isT, o_isI, o_isR, o_isN, o_eqB, o_neB, o_not, o_neg, o_lenT, o_int, o_isinI, o_isinT, o_isinB, o_isinI2, o_isinT2, t_ii, t_ib, t_is, t_it, t_il, t_tt, t_tl, t_ts, t_ti, t_tb, t_bb, t_bi, Cut.truthy, zb_bl, Bool.or_false, Bool.false_or, Bool.not_true, Bool.not_false, Bool.true_or, Bool.or_true, tb_dec, tb_some, tb_not, tb_true, tb_false, Cut.start, List.map, List.length, List.replicate, List.append_eq, List.cons_append, List.nil_append, List.getElem?_cons_zero, List.getElem?_cons_succ, List.set_cons_zero, List.set_cons_succ, Nat.reduceAdd, Nat.reduceSub, tyOf, if_true, if_false, Bool.false_eq_true, decide_true, decide_false, wp_ok, Df.fd, d0]
  simp only [h1, h2, decide_true, if_true]
  rw [gc_id rfl]
  exact ⟨rfl, rfl⟩
theorem are_bytes {k : Nat} {bs : List Int} {most : Int} {G : Store} (hb : ∀ b ∈ bs, Byte b) (hl : (bs.length : Int) ≤ most) (hz : bs.length < loopFuel) : run T (k + 2) 1 [.tup (bs.map .int), .int most] G = .ok (.bl true) G := by
  refine eq_of_wp (run_wp (fd := d1.fd) rfl rfl ?_)
  simp only [s_pass, s_nil, s_cons, s_expr, s_set, s_par, s_setIx, s_setKey, s_augIx, s_aug, s_ifs, s_ret, s_retN, s_brk, s_cnt, s_never, w_k, w_v, w_un, w_bin, w_and, w_or, w_ite, w_chain, w_tup, wp_newL, w_lst, w_dic0, w_callD, w_sl, w_rev, w_call, w_bf, w_mt, w_nil, w_cons, w_no, w_some, Tg.bind, bindN, o_add, o_addT, o_sub, o_mul, o_fdiv, o_mod, o_pow, o_eq, o_ne, o_lt, o_le, o_gt, o_ge, o_isT, o_isI, o_isR, o_isN, o_eqB, o_neB, o_not, o_neg, o_lenT, o_int, o_isinI, o_isinT, o_isinB, o_isinI2, o_isinT2, t_ii, t_ib, t_is, t_it, t_il, t_tt, t_tl, t_ts, t_ti, t_tb, t_bb, t_bi, Cut.truthy, zb_bl, Bool.or_false, Bool.false_or, Bool.not_true, Bool.not_false, Bool.true_or, Bool.or_true, tb_dec, tb_some, tb_not, tb_true, tb_false, Cut.start, List.map, List.length, List.replicate, List.append_eq, List.cons_append, List.nil_append, List.getElem?_cons_zero, List.getElem?_cons_succ, List.set_cons_zero, List.set_cons_succ, Nat.reduceAdd, Nat.reduceSub, tyOf, if_true, if_false, Bool.false_eq_true, decide_true, decide_false, wp_ok, Df.fd, d1, w_gen, i_one, srcOf, List.length_map]
  simp only [hl, if_true]
  refine genGo_all (n := bs.length) hz ?_ (fun i hi => ?_) ?_
  · show some ((bs.map D.int)[bs.length]?) = _
    rw [List.getElem?_eq_none (by simp)]
  · refine ⟨.int bs[i], _, ?_, rfl, ?_⟩
    · show some ((bs.map D.int)[i]?) = _
      rw [List.getElem?_map, List.getElem?_eq_getElem hi]; rfl
    · have h := hb bs[i] (List.getElem_mem hi)
      refine eq_of_wp ?_
      simp only [s_pass, s_nil, s_cons, s_expr, s_set, s_par, s_setIx, s_setKey, s_augIx, s_aug, s_ifs, s_ret, s_retN, s_brk, s_cnt, s_never, w_k, w_v, w_un, w_bin, w_and, w_or, w_ite, w_chain, w_tup, wp_newL, w_lst, w_dic0, w_callD, w_sl, w_rev, w_call, w_bf, w_mt, w_nil, w_cons, w_no, w_some, Tg.bind, bindN, o_add, o_addT, o_sub, o_mul, o_fdiv, o_mod, o_pow, o_eq, o_ne, o_lt, o_le, o_gt, o_ge, o_isT, o_isI, o_isR, o_isN, o_eqB, o_neB, o_not, o_neg, o_lenT, o_int, o_isinI, o_isinT, o_isinB, o_isinI2, o_isinT2, t_ii, t_ib, t_is, t_it, t_il, t_tt, t_tl, t_ts, t_ti, t_tb, t_bb, t_bi, Cut.truthy, zb_bl, Bool.or_false, Bool.false_or, Bool.not_true, Bool.not_false, Bool.true_or, Bool.or_true, tb_dec, tb_some, tb_not, tb_true, tb_false, Cut.start, List.map, List.length, List.replicate, List.append_eq, List.cons_append, List.nil_append, List.getElem?_cons_zero, List.getElem?_cons_succ, List.set_cons_zero, List.set_cons_succ, Nat.reduceAdd, Nat.reduceSub, tyOf, if_true, if_false, Bool.false_eq_true, decide_true, decide_false, wp_ok, wipeE]
      rw [is_number h.1 h.2]
      exact ⟨rfl, rfl⟩
  · show wp (gc G (R.ok (D.bl true) G)) _
    rw [gc_id rfl]
    exact ⟨rfl, rfl⟩
/-- the check of a row, byte by byte -/
def crc : Nat → List Int → Nat
  | r, [] => r
  | r, b :: bs => crc (byteL r b.toNat) bs
theorem crc_app : ∀ (l m : List Int) (r : Nat), crc r (l ++ m) = crc (crc r l) m
  | [], _, _ => rfl
  | b :: l, m, r => crc_app l m _
theorem crc_lt : ∀ (l : List Int) (r : Nat), r < 65536 → (∀ b ∈ l, Byte b) → crc r l < 65536
  | [], r, h, _ => h
  | b :: l, r, h, hb => crc_lt l _ (byteL_lt h (by have := (hb b (List.mem_cons_self ..)).2; have := (hb b (List.mem_cons_self ..)).1; omega)) fun c hc => hb c (List.mem_cons_of_mem _ hc)
theorem check_row {k : Nat} {bs : List Int} {G : Store} (hb : ∀ b ∈ bs, Byte b) (hz : bs.length < loopFuel) : run T (k + 1) 6 [.tup (bs.map .int)] G = .ok (.int (crc 0 bs)) G := by
  refine eq_of_wp (run_wp (fd := d6.fd) rfl rfl ?_)
  simp only [s_pass, s_nil, s_cons, s_expr, s_set, s_par, s_setIx, s_setKey, s_augIx, s_aug, s_ifs, s_ret, s_retN, s_brk, s_cnt, s_never, w_k, w_v, w_un, w_bin, w_and, w_or, w_ite, w_chain, w_tup, wp_newL, w_lst, w_dic0, w_callD, w_sl, w_rev, w_call, w_bf, w_mt, w_nil, w_cons, w_no, w_some, Tg.bind, bindN, o_add, o_addT, o_sub, o_mul, o_fdiv, o_mod, o_pow, o_eq, o_ne, o_lt, o_le, o_gt, o_ge, o_isT, o_isI, o_isR, o_isN, o_eqB, o_neB, o_not, o_neg, o_lenT, o_int, o_isinI, o_isinT, o_isinB, o_isinI2, o_isinT2, t_ii, t_ib, t_is, t_it, t_il, t_tt, t_tl, t_ts, t_ti, t_tb, t_bb, t_bi, Cut.truthy, zb_bl, Bool.or_false, Bool.false_or, Bool.not_true, Bool.not_false, Bool.true_or, Bool.or_true, tb_dec, tb_some, tb_not, tb_true, tb_false, Cut.start, List.map, List.length, List.replicate, List.append_eq, List.cons_append, List.nil_append, List.getElem?_cons_zero, List.getElem?_cons_succ, List.set_cons_zero, List.set_cons_succ, Nat.reduceAdd, Nat.reduceSub, tyOf, if_true, if_false, Bool.false_eq_true, decide_true, decide_false, wp_ok, Df.fd, d6, s_for, i_one, srcOf]
  refine s_forGo (fun i ρ G' => ∃ (w w2 : Option D), ρ = [some (.tup (bs.map .int)), some (.int (crc 0 (bs.take i))), w, w2] ∧ G' = G) bs.length hz ⟨none, none, rfl, rfl⟩ ?_ ?_
  · rintro i ρ G' hi ⟨w, w2, rfl, rfl⟩
    refine ⟨.int bs[i], by show some ((bs.map D.int)[i]?) = _; rw [List.getElem?_map, List.getElem?_eq_getElem hi]; rfl, _, rfl, ?_⟩
    have hbi := hb bs[i] (List.getElem_mem hi)
    obtain ⟨n, hn⟩ := Int.eq_ofNat_of_zero_le hbi.1
    have hr := crc_lt (bs.take i) 0 (by decide) fun b h => hb b (List.mem_of_mem_take h)
    have hstep : crc 0 (bs.take (i + 1)) = byteL (crc 0 (bs.take i)) n := by
      rw [List.take_succ_eq_append_getElem hi, crc_app]
      show byteL _ (bs[i]).toNat = _
      rw [hn, Int.toNat_natCast]
    generalize crc 0 (bs.take i) = r at hr hstep ⊢
    generalize bs[i] = b at hbi hn ⊢
    simp only [s_pass, s_nil, s_cons, s_expr, s_set, s_par, s_setIx, s_setKey, s_augIx, s_aug, s_ifs, s_ret, s_retN, s_brk, s_cnt, s_never, w_k, w_v, w_un, w_bin, w_and, w_or, w_ite, w_chain, w_tup, wp_newL, w_lst, w_dic0, w_callD, w_sl, w_rev, w_call, w_bf, w_mt, w_nil, w_cons, w_no, w_some, Tg.bind, bindN, o_add, o_addT, o_sub, o_mul, o_fdiv, o_mod, o_pow, o_eq, o_ne, o_lt, o_le, o_gt, o_ge, o_isT, o_isI, o_isR, o_isN, o_eqB, o_neB, o_not, o_neg, o_lenT, o_int, o_isinI, o_isinT, o_isinB, o_isinI2, o_isinT2, t_ii, t_ib, t_is, t_it, t_il, t_tt, t_tl, t_ts, t_ti, t_tb, t_bb, t_bi, Cut.truthy, zb_bl, Bool.or_false, Bool.false_or, Bool.not_true, Bool.not_false, Bool.true_or, Bool.or_true, tb_dec, tb_some, tb_not, tb_true, tb_false, Cut.start, List.map, List.length, List.replicate, List.append_eq, List.cons_append, List.nil_append, List.getElem?_cons_zero, List.getElem?_cons_succ, List.set_cons_zero, List.set_cons_succ, Nat.reduceAdd, Nat.reduceSub, tyOf, if_true, if_false, Bool.false_eq_true, decide_true, decide_false, wp_ok, s_for, i_one, srcOf]
    refine ⟨⟨by decide, by decide +kernel⟩, by decide, by decide, ?_⟩
    have hn255 : n < 256 := by have := hbi.2; omega
    have item : ∀ j, j < 2 → ∃ x : Nat, x < 16 ∧ [D.int (b / 16), D.int (b % 16)][j]? = some (.int (x : Int)) ∧ x = (if j = 0 then n / 16 else n % 16) := by
      intro j hj
      rcases j with _ | _ | j
      · exact ⟨n / 16, by omega, by rw [hn]; rfl, rfl⟩
      · exact ⟨n % 16, by omega, by rw [hn]; rfl, rfl⟩
      · omega
    refine s_forGo (fun j ρ G'' => ∃ (w2 : Option D) (q : Nat), q < 65536 ∧ ρ = [some (.tup (bs.map .int)), some (.int (q : Int)), some (.int b), w2] ∧ G'' = G' ∧ q = (if j = 0 then r else if j = 1 then step1 r (n / 16) else step1 (step1 r (n / 16)) (n % 16))) 2 (by decide) ⟨w2, r, hr, rfl, rfl, rfl⟩ ?_ ?_
    · rintro j ρ G'' hj ⟨w2, q, hq, rfl, rfl, hqe⟩
      obtain ⟨x, hx, hit, hxe⟩ := item j hj
      refine ⟨.int (x : Int), by show some ([D.int (b / 16), D.int (b % 16)][j]?) = _; rw [hit], _, rfl, ?_⟩
      have e1 : (q : Int) % 4096 * 16 = ((q % 4096 * 16 : Nat) : Int) := by omega
      have e2 : (q : Int) / 4096 = ((q / 4096 : Nat) : Int) := by omega
      have hxx : q / 4096 ^^^ x < 16 := Nat.xor_lt_two_pow (n := 4) (by omega) hx
      have hs : step1 q x < 65536 := by
        unfold step1
        exact Nat.xor_lt_two_pow (n := 16) (by omega) (by omega)
      simp only [s_pass, s_nil, s_cons, s_expr, s_set, s_par, s_setIx, s_setKey, s_augIx, s_aug, s_ifs, s_ret, s_retN, s_brk, s_cnt, s_never, w_k, w_v, w_un, w_bin, w_and, w_or, w_ite, w_chain, w_tup, wp_newL, w_lst, w_dic0, w_callD, w_sl, w_rev, w_call, w_bf, w_mt, w_nil, w_cons, w_no, w_some, Tg.bind, bindN, o_add, o_addT, o_sub, o_mul, o_fdiv, o_mod, o_pow, o_eq, o_ne, o_lt, o_le, o_gt, o_ge, o_isT, o_isI, o_isR, o_isN, o_eqB, o_neB, o_not, o_neg, o_lenT, o_int, o_isinI, o_isinT, o_isinB, o_isinI2, o_isinT2, t_ii, t_ib, t_is, t_it, t_il, t_tt, t_tl, t_ts, t_ti, t_tb, t_bb, t_bi, Cut.truthy, zb_bl, Bool.or_false, Bool.false_or, Bool.not_true, Bool.not_false, Bool.true_or, Bool.or_true, tb_dec, tb_some, tb_not, tb_true, tb_false, Cut.start, List.map, List.length, List.replicate, List.append_eq, List.cons_append, List.nil_append, List.getElem?_cons_zero, List.getElem?_cons_succ, List.set_cons_zero, List.set_cons_succ, Nat.reduceAdd, Nat.reduceSub, tyOf, if_true, if_false, Bool.false_eq_true, decide_true, decide_false, wp_ok, e2, o_xor]
      refine ⟨by decide, ?_, ⟨by decide, by decide +kernel⟩, ?_, ?_⟩
      · have h1 : ((q : Int) % 4096).natAbs.log2 < 12 := log2_lt (by omega) (by omega)
        have : (16 : Int).natAbs.log2 = 4 := by decide +kernel
        omega
      · have h1 : (((q / 4096 ^^^ x : Nat)) : Int).natAbs.log2 < 4 := log2_lt (by rw [Int.natAbs_natCast]; exact hxx) (by omega)
        have : (4129 : Int).natAbs.log2 = 12 := by decide +kernel
        omega
      · rw [e1, show ((q / 4096 ^^^ x : Nat) : Int) * 4129 = (((q / 4096 ^^^ x) * 4129 : Nat) : Int) by omega, o_xor]
        refine ⟨some (.int (x : Int)), step1 q x, hs, rfl, rfl, ?_⟩
        rcases j with _ | _ | j
        · simp only [if_true] at hqe hxe
          simp only [Nat.zero_add, if_true]
          rw [if_neg (by omega), hqe, hxe]
        · simp only [Nat.zero_add, if_true] at hqe hxe
          rw [if_neg (by omega)] at hqe hxe
          rw [if_neg (by omega), if_neg (by omega), hqe, hxe]
        · omega
    · rintro ρ G'' ⟨w2, q, hq, rfl, rfl, hqe⟩
      refine ⟨rfl, some (.int b), w2, ?_, rfl⟩
      rw [if_neg (by omega), if_neg (by omega), byte_eq hr hn255] at hqe
      rw [hqe, hstep]
  · rintro ρ G' ⟨w, w2, rfl, rfl⟩
    refine ⟨by show some ((bs.map D.int)[bs.length]?) = _; rw [List.getElem?_eq_none (by simp)], ?_⟩
    simp only [s_pass, s_nil, s_cons, s_expr, s_set, s_par, s_setIx, s_setKey, s_augIx, s_aug, s_ifs, s_ret, s_retN, s_brk, s_cnt, s_never, w_k, w_v, w_un, w_bin, w_and, w_or, w_ite, w_chain, w_tup, wp_newL, w_lst, w_dic0, w_callD, w_sl, w_rev, w_call, w_bf, w_mt, w_nil, w_cons, w_no, w_some, Tg.bind, bindN, o_add, o_addT, o_sub, o_mul, o_fdiv, o_mod, o_pow, o_eq, o_ne, o_lt, o_le, o_gt, o_ge, o_isT, o_isI, o_isR, o_isN, o_eqB, o_neB, o_not, o_neg, o_lenT, o_int, o_isinI, o_isinT, o_isinB, o_isinI2, o_isinT2, t_ii, t_ib, t_is, t_it, t_il, t_tt, t_tl, t_ts, t_ti, t_tb, t_bb, t_bi, Cut.truthy, zb_bl, Bool.or_false, Bool.false_or, Bool.not_true, Bool.not_false, Bool.true_or, Bool.or_true, tb_dec, tb_some, tb_not, tb_true, tb_false, Cut.start, List.map, List.length, List.replicate, List.append_eq, List.cons_append, List.nil_append, List.getElem?_cons_zero, List.getElem?_cons_succ, List.set_cons_zero, List.set_cons_succ, Nat.reduceAdd, Nat.reduceSub, tyOf, if_true, if_false, Bool.false_eq_true, decide_true, decide_false, wp_ok]
    rw [gc_id rfl, List.take_length]
    exact ⟨rfl, rfl⟩
theorem law_crc {k : Nat} {bs : List Int} {G : Store} (hb : ∀ b ∈ bs, Byte b) (hz : bs.length < loopFuel) : run T (k + 1) 20 [.tup (bs.map .int)] G = .ok (.int (crc 0 bs)) G := by
  refine eq_of_wp (run_wp (fd := d20.fd) rfl rfl ?_)
  simp only [s_pass, s_nil, s_cons, s_expr, s_set, s_par, s_setIx, s_setKey, s_augIx, s_aug, s_ifs, s_ret, s_retN, s_brk, s_cnt, s_never, w_k, w_v, w_un, w_bin, w_and, w_or, w_ite, w_chain, w_tup, wp_newL, w_lst, w_dic0, w_callD, w_sl, w_rev, w_call, w_bf, w_mt, w_nil, w_cons, w_no, w_some, Tg.bind, bindN, o_add, o_addT, o_sub, o_mul, o_fdiv, o_mod, o_pow, o_eq, o_ne, o_lt, o_le, o_gt, o_ge, o_isT, o_isI, o_isR, o_isN, o_eqB, o_neB, o_not, o_neg, o_lenT, o_int, o_isinI, o_isinT, o_isinB, o_isinI2, o_isinT2, t_ii, t_ib, t_is, t_it, t_il, t_tt, t_tl, t_ts, t_ti, t_tb, t_bb, t_bi, Cut.truthy, zb_bl, Bool.or_false, Bool.false_or, Bool.not_true, Bool.not_false, Bool.true_or, Bool.or_true, tb_dec, tb_some, tb_not, tb_true, tb_false, Cut.start, List.map, List.length, List.replicate, List.append_eq, List.cons_append, List.nil_append, List.getElem?_cons_zero, List.getElem?_cons_succ, List.set_cons_zero, List.set_cons_succ, Nat.reduceAdd, Nat.reduceSub, tyOf, if_true, if_false, Bool.false_eq_true, decide_true, decide_false, wp_ok, Df.fd, d20, s_for, i_one, srcOf]
  refine s_forGo (fun i ρ G' => ∃ (w w2 : Option D), ρ = [some (.tup (bs.map .int)), some (.int (crc 0 (bs.take i))), w, w2] ∧ G' = G) bs.length hz ⟨none, none, rfl, rfl⟩ ?_ ?_
  · rintro i ρ G' hi ⟨w, w2, rfl, rfl⟩
    refine ⟨.int bs[i], by show some ((bs.map D.int)[i]?) = _; rw [List.getElem?_map, List.getElem?_eq_getElem hi]; rfl, _, rfl, ?_⟩
    have hbi := hb bs[i] (List.getElem_mem hi)
    obtain ⟨n, hn⟩ := Int.eq_ofNat_of_zero_le hbi.1
    have hr := crc_lt (bs.take i) 0 (by decide) fun b h => hb b (List.mem_of_mem_take h)
    have hstep : crc 0 (bs.take (i + 1)) = byteL (crc 0 (bs.take i)) n := by
      rw [List.take_succ_eq_append_getElem hi, crc_app]
      show byteL _ (bs[i]).toNat = _
      rw [hn, Int.toNat_natCast]
    generalize crc 0 (bs.take i) = r at hr hstep ⊢
    have hn255 : n < 256 := by have := hbi.2; omega
    have e2 : (r : Int) / 256 = ((r / 256 : Nat) : Int) := by omega
    have hm1 : r / 256 ^^^ n < 256 := Nat.xor_lt_two_pow (n := 8) (by omega) hn255
    have e3 : ((r / 256 ^^^ n : Nat) : Int) / 16 = (((r / 256 ^^^ n) / 16 : Nat) : Int) := by omega
    have hml : moreL r n < 256 := by
      unfold moreL
      exact Nat.xor_lt_two_pow (n := 8) hm1 (by omega)
    have em : ((r / 256 ^^^ n) ^^^ (r / 256 ^^^ n) / 16) = moreL r n := rfl
    rw [hn]
    simp only [s_pass, s_nil, s_cons, s_expr, s_set, s_par, s_setIx, s_setKey, s_augIx, s_aug, s_ifs, s_ret, s_retN, s_brk, s_cnt, s_never, w_k, w_v, w_un, w_bin, w_and, w_or, w_ite, w_chain, w_tup, wp_newL, w_lst, w_dic0, w_callD, w_sl, w_rev, w_call, w_bf, w_mt, w_nil, w_cons, w_no, w_some, Tg.bind, bindN, o_add, o_addT, o_sub, o_mul, o_fdiv, o_mod, o_pow, o_eq, o_ne, o_lt, o_le, o_gt, o_ge, o_isT, o_isI, o_isR, o_isN, o_eqB, o_neB, o_not, o_neg, o_lenT, o_int, o_isinI, o_isinT, o_isinB, o_isinI2, o_isinT2, t_ii, t_ib, t_is, t_it, t_il, t_tt, t_tl, t_ts, t_ti, t_tb, t_bb, t_bi, Cut.truthy, zb_bl, Bool.or_false, Bool.false_or, Bool.not_true, Bool.not_false, Bool.true_or, Bool.or_true, tb_dec, tb_some, tb_not, tb_true, tb_false, Cut.start, List.map, List.length, List.replicate, List.append_eq, List.cons_append, List.nil_append, List.getElem?_cons_zero, List.getElem?_cons_succ, List.set_cons_zero, List.set_cons_succ, Nat.reduceAdd, Nat.reduceSub, tyOf, if_true, if_false, Bool.false_eq_true, decide_true, decide_false, wp_ok, e2, o_xor, e3, em]
    refine ⟨⟨by decide, by decide +kernel⟩, ⟨by decide, by decide +kernel⟩, ?_⟩
    have l1 : (r : Int).natAbs.log2 < 16 := log2_lt (by omega) (by omega)
    have l2 : (moreL r n : Int).natAbs.log2 < 8 := log2_lt (by omega) (by omega)
    have c1 : (256 : Int).natAbs.log2 = 8 := by decide +kernel
    have c2 : (4096 : Int).natAbs.log2 = 12 := by decide +kernel
    have c3 : (32 : Int).natAbs.log2 = 5 := by decide +kernel
    have f1 : (r : Int) * 256 % 65536 = ((r * 256 % 65536 : Nat) : Int) := by omega
    have f2 : (moreL r n : Int) * 4096 % 65536 = ((moreL r n * 4096 % 65536 : Nat) : Int) := by omega
    have f3 : (moreL r n : Int) * 32 = ((moreL r n * 32 : Nat) : Int) := by omega
    rw [f1, f2, f3]
    simp only [s_pass, s_nil, s_cons, s_expr, s_set, s_par, s_setIx, s_setKey, s_augIx, s_aug, s_ifs, s_ret, s_retN, s_brk, s_cnt, s_never, w_k, w_v, w_un, w_bin, w_and, w_or, w_ite, w_chain, w_tup, wp_newL, w_lst, w_dic0, w_callD, w_sl, w_rev, w_call, w_bf, w_mt, w_nil, w_cons, w_no, w_some, Tg.bind, bindN, o_add, o_addT, o_sub, o_mul, o_fdiv, o_mod, o_pow, o_eq, o_ne, o_lt, o_le, o_gt, o_ge, o_isT, o_isI, o_isR, o_isN, o_eqB, o_neB, o_not, o_neg, o_lenT, o_int, o_isinI, o_isinT, o_isinB, o_isinI2, o_isinT2, t_ii, t_ib, t_is, t_it, t_il, t_tt, t_tl, t_ts, t_ti, t_tb, t_bb, t_bi, Cut.truthy, zb_bl, Bool.or_false, Bool.false_or, Bool.not_true, Bool.not_false, Bool.true_or, Bool.or_true, tb_dec, tb_some, tb_not, tb_true, tb_false, Cut.start, List.map, List.length, List.replicate, List.append_eq, List.cons_append, List.nil_append, List.getElem?_cons_zero, List.getElem?_cons_succ, List.set_cons_zero, List.set_cons_succ, Nat.reduceAdd, Nat.reduceSub, tyOf, if_true, if_false, Bool.false_eq_true, decide_true, decide_false, wp_ok, o_xor]
    refine ⟨by omega, by decide, by omega, by decide, by omega, some (.int (n : Int)), some (.int (moreL r n : Int)), ?_, trivial⟩
    rw [hstep]; rfl
  · rintro ρ G' ⟨w, w2, rfl, rfl⟩
    refine ⟨by show some ((bs.map D.int)[bs.length]?) = _; rw [List.getElem?_eq_none (by simp)], ?_⟩
    simp only [s_pass, s_nil, s_cons, s_expr, s_set, s_par, s_setIx, s_setKey, s_augIx, s_aug, s_ifs, s_ret, s_retN, s_brk, s_cnt, s_never, w_k, w_v, w_un, w_bin, w_and, w_or, w_ite, w_chain, w_tup, wp_newL, w_lst, w_dic0, w_callD, w_sl, w_rev, w_call, w_bf, w_mt, w_nil, w_cons, w_no, w_some, Tg.bind, bindN, o_add, o_addT, o_sub, o_mul, o_fdiv, o_mod, o_pow, o_eq, o_ne, o_lt, o_le, o_gt, o_ge, o_isT, o_isI, o_isR, o_isN, o_eqB, o_neB, o_not, o_neg, o_lenT, o_int, o_isinI, o_isinT, o_isinB, o_isinI2, o_isinT2, t_ii, t_ib, t_is, t_it, t_il, t_tt, t_tl, t_ts, t_ti, t_tb, t_bb, t_bi, Cut.truthy, zb_bl, Bool.or_false, Bool.false_or, Bool.not_true, Bool.not_false, Bool.true_or, Bool.or_true, tb_dec, tb_some, tb_not, tb_true, tb_false, Cut.start, List.map, List.length, List.replicate, List.append_eq, List.cons_append, List.nil_append, List.getElem?_cons_zero, List.getElem?_cons_succ, List.set_cons_zero, List.set_cons_succ, Nat.reduceAdd, Nat.reduceSub, tyOf, if_true, if_false, Bool.false_eq_true, decide_true, decide_false, wp_ok]
    rw [gc_id rfl, List.take_length]
    exact ⟨rfl, rfl⟩
theorem cut_nat {α : Type} {xs : List α} {a m : Nat} (h : a + m ≤ xs.length) : cutD xs (some (a : Int)) (some ((a + m : Nat) : Int)) = (xs.drop a).take m := by
  unfold cutD
  rw [sIx_nat (k := a + m) h, sIx_nat (k := a) (by omega), Nat.add_sub_cancel_left]
theorem unf_go {C : List Int} (hC : ∀ b ∈ C, Byte b) (hl : C.length ≤ 7) {i : Nat} (hi : i < C.length) : (unf 0 (C.take i) : Int).natAbs.log2 + (256 : Int).natAbs.log2 < 1000000 ∧ ((unf 0 (C.take (i + 1)) : Nat) : Int) = (unf 0 (C.take i) : Int) * 256 + C[i] := by
  have hb := hC C[i] (List.getElem_mem hi)
  have hu := unf_lt (C.take i) 0 0 (fun b hb => hC b (List.mem_of_mem_take hb)) (by decide)
  have hu2 : unf 0 (C.take i) < 256 ^ 7 := Nat.lt_of_lt_of_le hu (Nat.pow_le_pow_right (by omega) (by rw [List.length_take]; omega))
  constructor
  · have h1 : (unf 0 (C.take i) : Int).natAbs.log2 < 56 := log2_lt (by rw [Int.natAbs_natCast]; exact hu2) (by omega)
    have : (256 : Int).natAbs.log2 = 8 := by decide +kernel
    omega
  · rw [List.take_succ_eq_append_getElem hi, unf_app]
    show ((unf 0 (C.take i) * 256 + C[i].toNat : Nat) : Int) = _
    have := hb.1
    omega
/-- the other way round: the bytes of what they tell -/
theorem fix_unf : ∀ (n : Nat) (C : List Int), C.length = n → (∀ b ∈ C, Byte b) → fix (unf 0 C) n = C := by
  intro n
  induction n with
  | zero => intro C hl _; rw [List.length_eq_zero_iff.mp hl]; rfl
  | succ n ih =>
    intro D hl hb
    rcases List.eq_nil_or_concat D with rfl | ⟨C, b, rfl⟩
    · simp at hl
    · have hbb := hb b (by simp)
      have hl' : C.length = n := by simpa using hl
      rw [List.concat_eq_append, unf_app]
      show fix ((unf 0 C * 256 + b.toNat) / 256) n ++ [(((unf 0 C * 256 + b.toNat) % 256 : Nat) : Int)] = _
      have h1 : (unf 0 C * 256 + b.toNat) / 256 = unf 0 C := by have := hbb.1; have := hbb.2; omega
      have h2 : (((unf 0 C * 256 + b.toNat) % 256 : Nat) : Int) = b := by have := hbb.1; have := hbb.2; omega
      rw [h1, h2, ih C hl' fun c hc => hb c (by simp [hc])]
end K05
namespace K05
open PySem Cut
theorem need_row {k : Nat} {bs : List Int} {G : Store} (hb : ∀ b ∈ bs, Byte b) (hl : bs.length ≤ 4096) : run T (k + 3) 2 [.tup (bs.map .int)] G = .ok .non G := by
  refine eq_of_wp (run_wp (fd := d2.fd) rfl rfl ?_)
  simp only [s_pass, s_nil, s_cons, s_expr, s_set, s_par, s_setIx, s_setKey, s_augIx, s_aug, s_ifs, s_ret, s_retN, s_brk, s_cnt, s_never, w_k, w_v, w_un, w_bin, w_and, w_or, w_ite, w_chain, w_tup, wp_newL, w_lst, w_dic0, w_callD, w_sl, w_rev, w_call, w_bf, w_mt, w_nil, w_cons, w_no, w_some, Tg.bind, bindN, o_add, o_addT, o_sub, o_mul, o_fdiv, o_mod, o_pow, o_eq, o_ne, o_lt, o_le, o_gt, o_ge, o_isT, o_isI, o_isR, o_isN, o_eqB, o_neB, o_not, o_neg, o_lenT, o_int, o_isinI, o_isinT, o_isinB, o_isinI2, o_isinT2, t_ii, t_ib, t_is, t_it, t_il, t_tt, t_tl, t_ts, t_ti, t_tb, t_bb, t_bi, Cut.truthy, zb_bl, Bool.or_false, Bool.false_or, Bool.not_true, Bool.not_false, Bool.true_or, Bool.or_true, tb_dec, tb_some, tb_not, tb_true, tb_false, Cut.start, List.map, List.length, List.replicate, List.append_eq, List.cons_append, List.nil_append, List.getElem?_cons_zero, List.getElem?_cons_succ, List.set_cons_zero, List.set_cons_succ, Nat.reduceAdd, Nat.reduceSub, tyOf, if_true, if_false, Bool.false_eq_true, decide_true, decide_false, wp_ok, Df.fd, d2]
  rw [are_bytes hb (by omega) (by unfold loopFuel; omega)]
  simp only [s_pass, s_nil, s_cons, s_expr, s_set, s_par, s_setIx, s_setKey, s_augIx, s_aug, s_ifs, s_ret, s_retN, s_brk, s_cnt, s_never, w_k, w_v, w_un, w_bin, w_and, w_or, w_ite, w_chain, w_tup, wp_newL, w_lst, w_dic0, w_callD, w_sl, w_rev, w_call, w_bf, w_mt, w_nil, w_cons, w_no, w_some, Tg.bind, bindN, o_add, o_addT, o_sub, o_mul, o_fdiv, o_mod, o_pow, o_eq, o_ne, o_lt, o_le, o_gt, o_ge, o_isT, o_isI, o_isR, o_isN, o_eqB, o_neB, o_not, o_neg, o_lenT, o_int, o_isinI, o_isinT, o_isinB, o_isinI2, o_isinT2, t_ii, t_ib, t_is, t_it, t_il, t_tt, t_tl, t_ts, t_ti, t_tb, t_bb, t_bi, Cut.truthy, zb_bl, Bool.or_false, Bool.false_or, Bool.not_true, Bool.not_false, Bool.true_or, Bool.or_true, tb_dec, tb_some, tb_not, tb_true, tb_false, Cut.start, List.map, List.length, List.replicate, List.append_eq, List.cons_append, List.nil_append, List.getElem?_cons_zero, List.getElem?_cons_succ, List.set_cons_zero, List.set_cons_succ, Nat.reduceAdd, Nat.reduceSub, tyOf, if_true, if_false, Bool.false_eq_true, decide_true, decide_false, wp_ok]
  rw [gc_id rfl]
  exact ⟨rfl, rfl⟩
theorem need_number {k : Nat} {v lo hi : Int} {G : Store} (h1 : lo ≤ v) (h2 : v ≤ hi) : run T (k + 2) 3 [.int v, .int lo, .int hi] G = .ok .non G := by
  refine eq_of_wp (run_wp (fd := d3.fd) rfl rfl ?_)
  simp only [s_pass, s_nil, s_cons, s_expr, s_set, s_par, s_setIx, s_setKey, s_augIx, s_aug, s_ifs, s_ret, s_retN, s_brk, s_cnt, s_never, w_k, w_v, w_un, w_bin, w_and, w_or, w_ite, w_chain, w_tup, wp_newL, w_lst, w_dic0, w_callD, w_sl, w_rev, w_call, w_bf, w_mt, w_nil, w_cons, w_no, w_some, Tg.bind, bindN, o_add, o_addT, o_sub, o_mul, o_fdiv, o_mod, o_pow, o_eq, o_ne, o_lt, o_le, o_gt, o_ge, o_isT, o_isI, o_isR, o_isN, o_eqB, o_neB, o_not, o_neg, o_lenT, o_int, o_isinI, o_isinT, o_isinB, o_isinI2, o_isinT2, t_ii, t_ib, t_is, t_it, t_il, t_tt, t_tl, t_ts, t_ti, t_tb, t_bb, t_bi, Cut.truthy, zb_bl, Bool.or_false, Bool.false_or, Bool.not_true, Bool.not_false, Bool.true_or, Bool.or_true, tb_dec, tb_some, tb_not, tb_true, tb_false, Cut.start, List.map, List.length, List.replicate, List.append_eq, List.cons_append, List.nil_append, List.getElem?_cons_zero, List.getElem?_cons_succ, List.set_cons_zero, List.set_cons_succ, Nat.reduceAdd, Nat.reduceSub, tyOf, if_true, if_false, Bool.false_eq_true, decide_true, decide_false, wp_ok, Df.fd, d3]
  rw [is_number h1 h2]
  simp only [s_pass, s_nil, s_cons, s_expr, s_set, s_par, s_setIx, s_setKey, s_augIx, s_aug, s_ifs, s_ret, s_retN, s_brk, s_cnt, s_never, w_k, w_v, w_un, w_bin, w_and, w_or, w_ite, w_chain, w_tup, wp_newL, w_lst, w_dic0, w_callD, w_sl, w_rev, w_call, w_bf, w_mt, w_nil, w_cons, w_no, w_some, Tg.bind, bindN, o_add, o_addT, o_sub, o_mul, o_fdiv, o_mod, o_pow, o_eq, o_ne, o_lt, o_le, o_gt, o_ge, o_isT, o_isI, o_isR, o_isN, o_eqB, o_neB, o_not, o_neg, o_lenT, o_int, o_isinI, o_isinT, o_isinB, o_isinI2, o_isinT2, t_ii, t_ib, t_is, t_it, t_il, t_tt, t_tl, t_ts, t_ti, t_tb, t_bb, t_bi, Cut.truthy, zb_bl, Bool.or_false, Bool.false_or, Bool.not_true, Bool.not_false, Bool.true_or, Bool.or_true, tb_dec, tb_some, tb_not, tb_true, tb_false, Cut.start, List.map, List.length, List.replicate, List.append_eq, List.cons_append, List.nil_append, List.getElem?_cons_zero, List.getElem?_cons_succ, List.set_cons_zero, List.set_cons_succ, Nat.reduceAdd, Nat.reduceSub, tyOf, if_true, if_false, Bool.false_eq_true, decide_true, decide_false, wp_ok]
  rw [gc_id rfl]
  exact ⟨rfl, rfl⟩
/-! codes -/
/-! so many bytes -/
theorem fixed_code {k : Nat} {v m : Nat} {V M : Int} {G : Store} (hV : V = v) (hM : M = m) (hv : v ≤ 10 ^ 18) (hm : m ≤ 7) (hlim : G.lim ≤ G.cs.length) : run T (k + 1) 4 [.int V, .int M] G = .ok (.tup ((fix v m).map .int)) G := by
  refine eq_of_wp (run_wp (fd := d4.fd) rfl rfl ?_)
  simp only [s_pass, s_nil, s_cons, s_expr, s_set, s_par, s_setIx, s_setKey, s_augIx, s_aug, s_ifs, s_ret, s_retN, s_brk, s_cnt, s_never, w_k, w_v, w_un, w_bin, w_and, w_or, w_ite, w_chain, w_tup, wp_newL, w_lst, w_dic0, w_callD, w_sl, w_rev, w_call, w_bf, w_mt, w_nil, w_cons, w_no, w_some, Tg.bind, bindN, o_add, o_addT, o_sub, o_mul, o_fdiv, o_mod, o_pow, o_eq, o_ne, o_lt, o_le, o_gt, o_ge, o_isT, o_isI, o_isR, o_isN, o_eqB, o_neB, o_not, o_neg, o_lenT, o_int, o_isinI, o_isinT, o_isinB, o_isinI2, o_isinT2, t_ii, t_ib, t_is, t_it, t_il, t_tt, t_tl, t_ts, t_ti, t_tb, t_bb, t_bi, Cut.truthy, zb_bl, Bool.or_false, Bool.false_or, Bool.not_true, Bool.not_false, Bool.true_or, Bool.or_true, tb_dec, tb_some, tb_not, tb_true, tb_false, Cut.start, List.map, List.length, List.replicate, List.append_eq, List.cons_append, List.nil_append, List.getElem?_cons_zero, List.getElem?_cons_succ, List.set_cons_zero, List.set_cons_succ, Nat.reduceAdd, Nat.reduceSub, tyOf, if_true, if_false, Bool.false_eq_true, decide_true, decide_false, wp_ok, Df.fd, d4, s_for, i_rng1]
  refine ⟨by decide, by omega, by omega, ?_⟩
  rw [show M.toNat = m by omega]
  refine s_forGo (fun i ρ G' => ∃ (u : Nat) (acc : List Int) (w : Option D), ρ = [some (.int u), some (.int M), some (.ref G.cs.length), w] ∧ Grown G G' ∧ G'.lst? G.cs.length = some (acc.map .int) ∧ acc.length = i ∧ fix v m = fix u (m - i) ++ acc.reverse) m (by unfold loopFuel; omega) ?_ ?_ ?_
  · exact ⟨v, [], none, by rw [hV], (Grown.refl G).new _, lst_new, rfl, by simp⟩
  · rintro i ρ G' hi ⟨u, acc, w, rfl, g, hx, hl, he⟩
    refine ⟨.int (0 + i), by show some (if i < m then _ else _) = _; rw [if_pos hi], _, rfl, ?_⟩
    have hlim' : G'.lim ≤ G.cs.length := by rw [g.lim]; exact hlim
    simp only [s_pass, s_nil, s_cons, s_expr, s_set, s_par, s_setIx, s_setKey, s_augIx, s_aug, s_ifs, s_ret, s_retN, s_brk, s_cnt, s_never, w_k, w_v, w_un, w_bin, w_and, w_or, w_ite, w_chain, w_tup, wp_newL, w_lst, w_dic0, w_callD, w_sl, w_rev, w_call, w_bf, w_mt, w_nil, w_cons, w_no, w_some, Tg.bind, bindN, o_add, o_addT, o_sub, o_mul, o_fdiv, o_mod, o_pow, o_eq, o_ne, o_lt, o_le, o_gt, o_ge, o_isT, o_isI, o_isR, o_isN, o_eqB, o_neB, o_not, o_neg, o_lenT, o_int, o_isinI, o_isinT, o_isinB, o_isinI2, o_isinT2, t_ii, t_ib, t_is, t_it, t_il, t_tt, t_tl, t_ts, t_ti, t_tb, t_bb, t_bi, Cut.truthy, zb_bl, Bool.or_false, Bool.false_or, Bool.not_true, Bool.not_false, Bool.true_or, Bool.or_true, tb_dec, tb_some, tb_not, tb_true, tb_false, Cut.start, List.map, List.length, List.replicate, List.append_eq, List.cons_append, List.nil_append, List.getElem?_cons_zero, List.getElem?_cons_succ, List.set_cons_zero, List.set_cons_succ, Nat.reduceAdd, Nat.reduceSub, tyOf, if_true, if_false, Bool.false_eq_true, decide_true, decide_false, wp_ok, opAug, augOk]
    refine ⟨ty_append hx, by omega, ?_⟩
    rw [o_append hx hlim' (by rw [List.length_map, hl]; exact Nat.lt_of_le_of_lt (by omega) (by decide : 7 < sizeLine))]
    refine ⟨⟨by omega, by decide +kernel⟩, u / 256, acc ++ [((u % 256 : Nat) : Int)], some (.int (0 + i)), rfl, g.putNew (Nat.le_refl _) _, ?_, by rw [List.length_append, hl]; rfl, ?_⟩
    · rw [lst_put (lt_of_lst hx), List.map_append]; rfl
    · rw [he, show m - i = (m - (i + 1)) + 1 by omega, List.reverse_append]
      show (fix (u / 256) (m - (i + 1)) ++ [_]) ++ acc.reverse = _
      rw [List.append_assoc]; rfl
  · rintro ρ G' ⟨u, acc, w, rfl, g, hx, hl, he⟩
    refine ⟨by show some (if m < m then _ else _) = _; rw [if_neg (Nat.lt_irrefl m)], ?_⟩
    simp only [s_pass, s_nil, s_cons, s_expr, s_set, s_par, s_setIx, s_setKey, s_augIx, s_aug, s_ifs, s_ret, s_retN, s_brk, s_cnt, s_never, w_k, w_v, w_un, w_bin, w_and, w_or, w_ite, w_chain, w_tup, wp_newL, w_lst, w_dic0, w_callD, w_sl, w_rev, w_call, w_bf, w_mt, w_nil, w_cons, w_no, w_some, Tg.bind, bindN, o_add, o_addT, o_sub, o_mul, o_fdiv, o_mod, o_pow, o_eq, o_ne, o_lt, o_le, o_gt, o_ge, o_isT, o_isI, o_isR, o_isN, o_eqB, o_neB, o_not, o_neg, o_lenT, o_int, o_isinI, o_isinT, o_isinB, o_isinI2, o_isinT2, t_ii, t_ib, t_is, t_it, t_il, t_tt, t_tl, t_ts, t_ti, t_tb, t_bb, t_bi, Cut.truthy, zb_bl, Bool.or_false, Bool.false_or, Bool.not_true, Bool.not_false, Bool.true_or, Bool.or_true, tb_dec, tb_some, tb_not, tb_true, tb_false, Cut.start, List.map, List.length, List.replicate, List.append_eq, List.cons_append, List.nil_append, List.getElem?_cons_zero, List.getElem?_cons_succ, List.set_cons_zero, List.set_cons_succ, Nat.reduceAdd, Nat.reduceSub, tyOf, if_true, if_false, Bool.false_eq_true, decide_true, decide_false, wp_ok]
    rw [o_revL hx]
    refine ⟨by rw [List.length_reverse, List.length_map, hl]; exact Nat.le_trans hm (by decide), ?_⟩
    rw [o_tupL lst_new, gc_grown (g.new _) ?_]
    · refine ⟨?_, rfl⟩
      rw [he, Nat.sub_self, ← List.map_reverse]; rfl
    · rw [← List.map_reverse]; exact belows_int _ _
end K05
namespace K05
open PySem Cut
theorem sm {n : Nat} (h : n ≤ 1000) : n ≤ sizeLine := Nat.le_trans h (by decide)
theorem o_xor' {G : Store} {P : D → Store → Prop} {A B : Int} {a b : Nat} (ha : A = a) (hb : B = b) : wp (op2 .xor (.int A) (.int B) G) P = P (.int ((a ^^^ b : Nat) : Int)) G := by
  subst ha hb; exact o_xor
theorem shifted {k : Nat} {v : Nat} {G : Store} (h : v < 65536) : run T (k + 1) 5 [.int (v : Int)] G = .ok (.int (sh v : Int)) G := by
  refine eq_of_wp (run_wp (fd := d5.fd) rfl rfl ?_)
  simp only [s_pass, s_nil, s_cons, s_expr, s_set, s_par, s_setIx, s_setKey, s_augIx, s_aug, s_ifs, s_ret, s_retN, s_brk, s_cnt, s_never, w_k, w_v, w_un, w_bin, w_and, w_or, w_ite, w_chain, w_tup, wp_newL, w_lst, w_dic0, w_callD, w_sl, w_rev, w_call, w_bf, w_mt, w_nil, w_cons, w_no, w_some, Tg.bind, bindN, o_add, o_addT, o_sub, o_mul, o_fdiv, o_mod, o_pow, o_eq, o_ne, o_lt, o_le, o_gt, o_ge, o_isT, o_isI, o_isR, o_isN, o_eqB, o_neB, o_not, o_neg, o_lenT, o_int, o_isinI, o_isinT, o_isinB, o_isinI2, o_isinT2, t_ii, t_ib, t_is, t_it, t_il, t_tt, t_tl, t_ts, t_ti, t_tb, t_bb, t_bi, Cut.truthy, zb_bl, Bool.or_false, Bool.false_or, Bool.not_true, Bool.not_false, Bool.true_or, Bool.or_true, tb_dec, tb_some, tb_not, tb_true, tb_false, Cut.start, List.map, List.length, List.replicate, List.append_eq, List.cons_append, List.nil_append, List.getElem?_cons_zero, List.getElem?_cons_succ, List.set_cons_zero, List.set_cons_succ, Nat.reduceAdd, Nat.reduceSub, tyOf, if_true, if_false, Bool.false_eq_true, decide_true, decide_false, wp_ok, Df.fd, d5, opAug, augOk]
  refine ⟨?_, ?_⟩
  · have h1 : (v : Int).natAbs.log2 < 16 := log2_lt (by rw [Int.natAbs_natCast]; exact h) (by decide)
    have : (2 : Int).natAbs.log2 = 1 := by decide +kernel
    omega
  · by_cases h2 : (65536 : Int) ≤ (v : Int) * 2
    · simp only [s_pass, s_nil, s_cons, s_expr, s_set, s_par, s_setIx, s_setKey, s_augIx, s_aug, s_ifs, s_ret, s_retN, s_brk, s_cnt, s_never, w_k, w_v, w_un, w_bin, w_and, w_or, w_ite, w_chain, w_tup, wp_newL, w_lst, w_dic0, w_callD, w_sl, w_rev, w_call, w_bf, w_mt, w_nil, w_cons, w_no, w_some, Tg.bind, bindN, o_add, o_addT, o_sub, o_mul, o_fdiv, o_mod, o_pow, o_eq, o_ne, o_lt, o_le, o_gt, o_ge, o_isT, o_isI, o_isR, o_isN, o_eqB, o_neB, o_not, o_neg, o_lenT, o_int, o_isinI, o_isinT, o_isinB, o_isinI2, o_isinT2, t_ii, t_ib, t_is, t_it, t_il, t_tt, t_tl, t_ts, t_ti, t_tb, t_bb, t_bi, Cut.truthy, zb_bl, Bool.or_false, Bool.false_or, Bool.not_true, Bool.not_false, Bool.true_or, Bool.or_true, tb_dec, tb_some, tb_not, tb_true, tb_false, Cut.start, List.map, List.length, List.replicate, List.append_eq, List.cons_append, List.nil_append, List.getElem?_cons_zero, List.getElem?_cons_succ, List.set_cons_zero, List.set_cons_succ, Nat.reduceAdd, Nat.reduceSub, tyOf, if_true, if_false, Bool.false_eq_true, decide_true, decide_false, wp_ok, h2]
      rw [o_xor' (A := (v : Int) * 2 - 65536) (B := 4129) (a := v * 2 % 65536) (b := 4129) (by omega) rfl, gc_id rfl]
      refine ⟨?_, rfl⟩
      unfold sh
      rw [show v / 32768 = 1 by omega]
    · simp only [s_pass, s_nil, s_cons, s_expr, s_set, s_par, s_setIx, s_setKey, s_augIx, s_aug, s_ifs, s_ret, s_retN, s_brk, s_cnt, s_never, w_k, w_v, w_un, w_bin, w_and, w_or, w_ite, w_chain, w_tup, wp_newL, w_lst, w_dic0, w_callD, w_sl, w_rev, w_call, w_bf, w_mt, w_nil, w_cons, w_no, w_some, Tg.bind, bindN, o_add, o_addT, o_sub, o_mul, o_fdiv, o_mod, o_pow, o_eq, o_ne, o_lt, o_le, o_gt, o_ge, o_isT, o_isI, o_isR, o_isN, o_eqB, o_neB, o_not, o_neg, o_lenT, o_int, o_isinI, o_isinT, o_isinB, o_isinI2, o_isinT2, t_ii, t_ib, t_is, t_it, t_il, t_tt, t_tl, t_ts, t_ti, t_tb, t_bb, t_bi, Cut.truthy, zb_bl, Bool.or_false, Bool.false_or, Bool.not_true, Bool.not_false, Bool.true_or, Bool.or_true, tb_dec, tb_some, tb_not, tb_true, tb_false, Cut.start, List.map, List.length, List.replicate, List.append_eq, List.cons_append, List.nil_append, List.getElem?_cons_zero, List.getElem?_cons_succ, List.set_cons_zero, List.set_cons_succ, Nat.reduceAdd, Nat.reduceSub, tyOf, if_true, if_false, Bool.false_eq_true, decide_true, decide_false, wp_ok, h2]
      rw [gc_id rfl]
      refine ⟨?_, rfl⟩
      unfold sh
      rw [show v / 32768 = 0 by omega, Nat.zero_mul, Nat.xor_zero, show v * 2 % 65536 = v * 2 by omega]
      rfl
def RL (N : Nat) : List D := ((List.range N).map fun i => D.int (shN i 1 : Nat)).reverse
theorem RL_at {N f : Nat} (h : f < N) : (RL N)[f]? = some (.int ((shN (N - 1 - f) 1 : Nat) : Int)) := by
  unfold RL
  rw [List.getElem?_reverse (by simpa using h)]
  simp only [List.length_map, List.length_range, List.getElem?_map]
  rw [List.getElem?_range (by omega)]; rfl
theorem RL_below (N n : Nat) : belows n (RL N) = true := by
  have : ∀ xs : List D, (∀ x ∈ xs, ∃ i : Int, x = .int i) → belows n xs = true := by
    intro xs
    induction xs with
    | nil => intro _; rfl
    | cons x xs ih =>
      intro h
      obtain ⟨i, rfl⟩ := h x (List.mem_cons_self ..)
      show (true && belows n xs) = true
      rw [ih fun y hy => h y (List.mem_cons_of_mem _ hy)]; rfl
  refine this _ fun x hx => ?_
  unfold RL at hx
  rw [List.mem_reverse] at hx
  obtain ⟨i, _, rfl⟩ := List.mem_map.mp hx
  exact ⟨_, rfl⟩
theorem rests_of {k : Nat} {N : Nat} {NN : Int} {G : Store} (hN : NN = N) (h : N ≤ 1000) (hlim : G.lim ≤ G.cs.length) : run T (k + 2) 9 [.int NN] G = .ok (.ref G.cs.length) (G.new (.lst (RL N))) := by
  refine eq_of_wp (run_wp (fd := d9.fd) rfl rfl ?_)
  simp only [s_pass, s_nil, s_cons, s_expr, s_set, s_par, s_setIx, s_setKey, s_augIx, s_aug, s_ifs, s_ret, s_retN, s_brk, s_cnt, s_never, w_k, w_v, w_un, w_bin, w_and, w_or, w_ite, w_chain, w_tup, wp_newL, w_lst, w_dic0, w_callD, w_sl, w_rev, w_call, w_bf, w_mt, w_nil, w_cons, w_no, w_some, Tg.bind, bindN, o_add, o_addT, o_sub, o_mul, o_fdiv, o_mod, o_pow, o_eq, o_ne, o_lt, o_le, o_gt, o_ge, o_isT, o_isI, o_isR, o_isN, o_eqB, o_neB, o_not, o_neg, o_lenT, o_int, o_isinI, o_isinT, o_isinB, o_isinI2, o_isinT2, t_ii, t_ib, t_is, t_it, t_il, t_tt, t_tl, t_ts, t_ti, t_tb, t_bb, t_bi, Cut.truthy, zb_bl, Bool.or_false, Bool.false_or, Bool.not_true, Bool.not_false, Bool.true_or, Bool.or_true, tb_dec, tb_some, tb_not, tb_true, tb_false, Cut.start, List.map, List.length, List.replicate, List.append_eq, List.cons_append, List.nil_append, List.getElem?_cons_zero, List.getElem?_cons_succ, List.set_cons_zero, List.set_cons_succ, Nat.reduceAdd, Nat.reduceSub, tyOf, if_true, if_false, Bool.false_eq_true, decide_true, decide_false, wp_ok, Df.fd, d9, s_for, i_rng1]
  refine ⟨by decide, by omega, by omega, ?_⟩
  rw [show NN.toNat = N by omega]
  refine s_forGo (fun i ρ G' => ∃ w : Option D, ρ = [some (.int NN), some (.ref G.cs.length), some (.int ((shN i 1 : Nat) : Int)), w] ∧ Grown G G' ∧ G'.lst? G.cs.length = some ((List.range i).map fun i => D.int (shN i 1 : Nat))) N (by unfold loopFuel; omega) ⟨none, rfl, (Grown.refl G).new _, lst_new⟩ ?_ ?_
  · rintro i ρ G' hi ⟨w, rfl, g, hx⟩
    refine ⟨.int (0 + i), rng_at hi, _, rfl, ?_⟩
    simp only [s_pass, s_nil, s_cons, s_expr, s_set, s_par, s_setIx, s_setKey, s_augIx, s_aug, s_ifs, s_ret, s_retN, s_brk, s_cnt, s_never, w_k, w_v, w_un, w_bin, w_and, w_or, w_ite, w_chain, w_tup, wp_newL, w_lst, w_dic0, w_callD, w_sl, w_rev, w_call, w_bf, w_mt, w_nil, w_cons, w_no, w_some, Tg.bind, bindN, o_add, o_addT, o_sub, o_mul, o_fdiv, o_mod, o_pow, o_eq, o_ne, o_lt, o_le, o_gt, o_ge, o_isT, o_isI, o_isR, o_isN, o_eqB, o_neB, o_not, o_neg, o_lenT, o_int, o_isinI, o_isinT, o_isinB, o_isinI2, o_isinT2, t_ii, t_ib, t_is, t_it, t_il, t_tt, t_tl, t_ts, t_ti, t_tb, t_bb, t_bi, Cut.truthy, zb_bl, Bool.or_false, Bool.false_or, Bool.not_true, Bool.not_false, Bool.true_or, Bool.or_true, tb_dec, tb_some, tb_not, tb_true, tb_false, Cut.start, List.map, List.length, List.replicate, List.append_eq, List.cons_append, List.nil_append, List.getElem?_cons_zero, List.getElem?_cons_succ, List.set_cons_zero, List.set_cons_succ, Nat.reduceAdd, Nat.reduceSub, tyOf, if_true, if_false, Bool.false_eq_true, decide_true, decide_false, wp_ok]
    refine ⟨ty_append hx, ?_⟩
    rw [o_append hx (by rw [g.lim]; exact hlim) (Nat.lt_of_lt_of_le (show _ < 1001 by rw [List.length_map, List.length_range]; omega) (by decide))]
    rw [shifted (shN_lt i (by decide))]
    simp only [s_pass, s_nil, s_cons, s_expr, s_set, s_par, s_setIx, s_setKey, s_augIx, s_aug, s_ifs, s_ret, s_retN, s_brk, s_cnt, s_never, w_k, w_v, w_un, w_bin, w_and, w_or, w_ite, w_chain, w_tup, wp_newL, w_lst, w_dic0, w_callD, w_sl, w_rev, w_call, w_bf, w_mt, w_nil, w_cons, w_no, w_some, Tg.bind, bindN, o_add, o_addT, o_sub, o_mul, o_fdiv, o_mod, o_pow, o_eq, o_ne, o_lt, o_le, o_gt, o_ge, o_isT, o_isI, o_isR, o_isN, o_eqB, o_neB, o_not, o_neg, o_lenT, o_int, o_isinI, o_isinT, o_isinB, o_isinI2, o_isinT2, t_ii, t_ib, t_is, t_it, t_il, t_tt, t_tl, t_ts, t_ti, t_tb, t_bb, t_bi, Cut.truthy, zb_bl, Bool.or_false, Bool.false_or, Bool.not_true, Bool.not_false, Bool.true_or, Bool.or_true, tb_dec, tb_some, tb_not, tb_true, tb_false, Cut.start, List.map, List.length, List.replicate, List.append_eq, List.cons_append, List.nil_append, List.getElem?_cons_zero, List.getElem?_cons_succ, List.set_cons_zero, List.set_cons_succ, Nat.reduceAdd, Nat.reduceSub, tyOf, if_true, if_false, Bool.false_eq_true, decide_true, decide_false, wp_ok]
    refine ⟨some (.int (0 + i)), rfl, g.putNew (Nat.le_refl _) _, ?_⟩
    rw [lst_put (lt_of_lst hx), List.range_succ, List.map_append]; rfl
  · rintro ρ G' ⟨w, rfl, g, hx⟩
    refine ⟨rng_end, ?_⟩
    simp only [s_pass, s_nil, s_cons, s_expr, s_set, s_par, s_setIx, s_setKey, s_augIx, s_aug, s_ifs, s_ret, s_retN, s_brk, s_cnt, s_never, w_k, w_v, w_un, w_bin, w_and, w_or, w_ite, w_chain, w_tup, wp_newL, w_lst, w_dic0, w_callD, w_sl, w_rev, w_call, w_bf, w_mt, w_nil, w_cons, w_no, w_some, Tg.bind, bindN, o_add, o_addT, o_sub, o_mul, o_fdiv, o_mod, o_pow, o_eq, o_ne, o_lt, o_le, o_gt, o_ge, o_isT, o_isI, o_isR, o_isN, o_eqB, o_neB, o_not, o_neg, o_lenT, o_int, o_isinI, o_isinT, o_isinB, o_isinI2, o_isinT2, t_ii, t_ib, t_is, t_it, t_il, t_tt, t_tl, t_ts, t_ti, t_tb, t_bb, t_bi, Cut.truthy, zb_bl, Bool.or_false, Bool.false_or, Bool.not_true, Bool.not_false, Bool.true_or, Bool.or_true, tb_dec, tb_some, tb_not, tb_true, tb_false, Cut.start, List.map, List.length, List.replicate, List.append_eq, List.cons_append, List.nil_append, List.getElem?_cons_zero, List.getElem?_cons_succ, List.set_cons_zero, List.set_cons_succ, Nat.reduceAdd, Nat.reduceSub, tyOf, if_true, if_false, Bool.false_eq_true, decide_true, decide_false, wp_ok]
    rw [o_revL hx]
    refine ⟨sm (by rw [List.length_reverse, List.length_map, List.length_range]; exact h), ?_⟩
    show wp (gc G (R.ok (D.ref G'.cs.length) (G'.new (.lst (RL N))))) _
    rw [gc_newL (g.new _) g.len lst_new (RL_below N _)]
    exact ⟨rfl, rfl⟩
/-- places of a row, as they stand in a tuple -/
def ni (fl : List Nat) : List D := fl.map fun f : Nat => D.int (f : Int)
theorem ni_len {fl : List Nat} : (ni fl).length = fl.length := List.length_map ..
theorem ni_at {fl : List Nat} {i : Nat} (h : i < fl.length) : (ni fl)[i]? = some (.int (fl[i] : Int)) := by
  unfold ni; rw [List.getElem?_map, List.getElem?_eq_getElem h]; rfl
def Flips (fl : List Nat) (N : Nat) : Prop := fl.length ≤ 60 ∧ (∀ f ∈ fl, f < N) ∧ fl.Pairwise (· < ·)
theorem cut_1 {α : Type} {xs : List α} : cutD xs (some 1) none = xs.drop 1 := by
  unfold cutD
  rcases xs with _ | ⟨x, xs⟩
  · rfl
  · have h1 : HT.sIx (x :: xs).length 0 (some 1) = 1 := by
      show (if (1 : Int) < 0 then ((1 : Int) + ((x :: xs).length : Int)).toNat else min (1 : Int).toNat (x :: xs).length) = 1
      rw [if_neg (by omega), List.length_cons]
      show min 1 (xs.length + 1) = 1
      omega
    rw [h1]
    show (xs).take ((xs.length + 1) - 1) = xs
    rw [Nat.add_sub_cancel, List.take_length]
theorem are_flips {k : Nat} {fl : List Nat} {N : Nat} {NN : Int} {G : Store} (hN : NN = N) (h : Flips fl N) : run T (k + 2) 7 [.tup (ni fl), .int NN] G = .ok (.bl true) G := by
  obtain ⟨h1, h2, h3⟩ := h
  refine eq_of_wp (run_wp (fd := d7.fd) rfl rfl ?_)
  simp only [s_pass, s_nil, s_cons, s_expr, s_set, s_par, s_setIx, s_setKey, s_augIx, s_aug, s_ifs, s_ret, s_retN, s_brk, s_cnt, s_never, w_k, w_v, w_un, w_bin, w_and, w_or, w_ite, w_chain, w_tup, wp_newL, w_lst, w_dic0, w_callD, w_sl, w_rev, w_call, w_bf, w_mt, w_nil, w_cons, w_no, w_some, Tg.bind, bindN, o_add, o_addT, o_sub, o_mul, o_fdiv, o_mod, o_pow, o_eq, o_ne, o_lt, o_le, o_gt, o_ge, o_isT, o_isI, o_isR, o_isN, o_eqB, o_neB, o_not, o_neg, o_lenT, o_int, o_isinI, o_isinT, o_isinB, o_isinI2, o_isinT2, t_ii, t_ib, t_is, t_it, t_il, t_tt, t_tl, t_ts, t_ti, t_tb, t_bb, t_bi, Cut.truthy, zb_bl, Bool.or_false, Bool.false_or, Bool.not_true, Bool.not_false, Bool.true_or, Bool.or_true, tb_dec, tb_some, tb_not, tb_true, tb_false, Cut.start, List.map, List.length, List.replicate, List.append_eq, List.cons_append, List.nil_append, List.getElem?_cons_zero, List.getElem?_cons_succ, List.set_cons_zero, List.set_cons_succ, Nat.reduceAdd, Nat.reduceSub, tyOf, if_true, if_false, Bool.false_eq_true, decide_true, decide_false, wp_ok, Df.fd, d7, ni_len, show ¬ (64 : Int) < (fl.length : Int) by omega, w_gen, i_one, srcOf, i_zip, o_slT]
  rw [cut_1]
  refine genGo_all (n := fl.length) (by unfold loopFuel; omega) (by show some ((ni fl)[fl.length]?) = _; rw [List.getElem?_eq_none (by rw [ni_len]; exact Nat.le_refl _)]) (fun i hi => ?_) ?_
  · refine ⟨.int (fl[i] : Int), _, by show some ((ni fl)[i]?) = _; rw [ni_at hi], rfl, ?_⟩
    refine eq_of_wp ?_
    simp only [s_pass, s_nil, s_cons, s_expr, s_set, s_par, s_setIx, s_setKey, s_augIx, s_aug, s_ifs, s_ret, s_retN, s_brk, s_cnt, s_never, w_k, w_v, w_un, w_bin, w_and, w_or, w_ite, w_chain, w_tup, wp_newL, w_lst, w_dic0, w_callD, w_sl, w_rev, w_call, w_bf, w_mt, w_nil, w_cons, w_no, w_some, Tg.bind, bindN, o_add, o_addT, o_sub, o_mul, o_fdiv, o_mod, o_pow, o_eq, o_ne, o_lt, o_le, o_gt, o_ge, o_isT, o_isI, o_isR, o_isN, o_eqB, o_neB, o_not, o_neg, o_lenT, o_int, o_isinI, o_isinT, o_isinB, o_isinI2, o_isinT2, t_ii, t_ib, t_is, t_it, t_il, t_tt, t_tl, t_ts, t_ti, t_tb, t_bb, t_bi, Cut.truthy, zb_bl, Bool.or_false, Bool.false_or, Bool.not_true, Bool.not_false, Bool.true_or, Bool.or_true, tb_dec, tb_some, tb_not, tb_true, tb_false, Cut.start, List.map, List.length, List.replicate, List.append_eq, List.cons_append, List.nil_append, List.getElem?_cons_zero, List.getElem?_cons_succ, List.set_cons_zero, List.set_cons_succ, Nat.reduceAdd, Nat.reduceSub, tyOf, if_true, if_false, Bool.false_eq_true, decide_true, decide_false, wp_ok, wipeE]
    have := h2 _ (List.getElem_mem hi)
    rw [is_number (by omega) (by omega)]
    exact ⟨rfl, rfl⟩
  · simp only [s_pass, s_nil, s_cons, s_expr, s_set, s_par, s_setIx, s_setKey, s_augIx, s_aug, s_ifs, s_ret, s_retN, s_brk, s_cnt, s_never, w_k, w_v, w_un, w_bin, w_and, w_or, w_ite, w_chain, w_tup, wp_newL, w_lst, w_dic0, w_callD, w_sl, w_rev, w_call, w_bf, w_mt, w_nil, w_cons, w_no, w_some, Tg.bind, bindN, o_add, o_addT, o_sub, o_mul, o_fdiv, o_mod, o_pow, o_eq, o_ne, o_lt, o_le, o_gt, o_ge, o_isT, o_isI, o_isR, o_isN, o_eqB, o_neB, o_not, o_neg, o_lenT, o_int, o_isinI, o_isinT, o_isinB, o_isinI2, o_isinT2, t_ii, t_ib, t_is, t_it, t_il, t_tt, t_tl, t_ts, t_ti, t_tb, t_bb, t_bi, Cut.truthy, zb_bl, Bool.or_false, Bool.false_or, Bool.not_true, Bool.not_false, Bool.true_or, Bool.or_true, tb_dec, tb_some, tb_not, tb_true, tb_false, Cut.start, List.map, List.length, List.replicate, List.append_eq, List.cons_append, List.nil_append, List.getElem?_cons_zero, List.getElem?_cons_succ, List.set_cons_zero, List.set_cons_succ, Nat.reduceAdd, Nat.reduceSub, tyOf, if_true, if_false, Bool.false_eq_true, decide_true, decide_false, wp_ok]
    refine genGo_all (n := fl.length - 1) (by unfold loopFuel; omega) ?_ (fun i hi => ?_) ?_
    · show (match some ((ni fl)[fl.length - 1]?), some (((ni fl).drop 1)[fl.length - 1]?) with
        | some (some a), some (some b) => some (some (D.tup [a, b]))
        | some _, some _ => some none
        | _, _ => none) = _
      rw [List.getElem?_drop, List.getElem?_eq_none (l := ni fl) (i := 1 + (fl.length - 1)) (by rw [ni_len]; omega)]
      cases (ni fl)[fl.length - 1]? <;> rfl
    · refine ⟨.tup [.int (fl[i] : Int), .int (fl[i + 1] : Int)], _, ?_, rfl, ?_⟩
      · show (match some ((ni fl)[i]?), some (((ni fl).drop 1)[i]?) with
          | some (some a), some (some b) => some (some (D.tup [a, b]))
          | some _, some _ => some none
          | _, _ => none) = _
        rw [List.getElem?_drop, Nat.add_comm 1 i, ni_at (show i < fl.length by omega), ni_at (show i + 1 < fl.length by omega)]
      · refine eq_of_wp ?_
        have := List.pairwise_iff_getElem.mp h3 i (i + 1) (by omega) (by omega) (by omega)
        simp only [s_pass, s_nil, s_cons, s_expr, s_set, s_par, s_setIx, s_setKey, s_augIx, s_aug, s_ifs, s_ret, s_retN, s_brk, s_cnt, s_never, w_k, w_v, w_un, w_bin, w_and, w_or, w_ite, w_chain, w_tup, wp_newL, w_lst, w_dic0, w_callD, w_sl, w_rev, w_call, w_bf, w_mt, w_nil, w_cons, w_no, w_some, Tg.bind, bindN, o_add, o_addT, o_sub, o_mul, o_fdiv, o_mod, o_pow, o_eq, o_ne, o_lt, o_le, o_gt, o_ge, o_isT, o_isI, o_isR, o_isN, o_eqB, o_neB, o_not, o_neg, o_lenT, o_int, o_isinI, o_isinT, o_isinB, o_isinI2, o_isinT2, t_ii, t_ib, t_is, t_it, t_il, t_tt, t_tl, t_ts, t_ti, t_tb, t_bb, t_bi, Cut.truthy, zb_bl, Bool.or_false, Bool.false_or, Bool.not_true, Bool.not_false, Bool.true_or, Bool.or_true, tb_dec, tb_some, tb_not, tb_true, tb_false, Cut.start, List.map, List.length, List.replicate, List.append_eq, List.cons_append, List.nil_append, List.getElem?_cons_zero, List.getElem?_cons_succ, List.set_cons_zero, List.set_cons_succ, Nat.reduceAdd, Nat.reduceSub, tyOf, if_true, if_false, Bool.false_eq_true, decide_true, decide_false, wp_ok, wipeE, show (fl[i] : Int) < (fl[i + 1] : Int) by omega]
        exact ⟨trivial, trivial⟩
    · rw [gc_id rfl]
      exact ⟨rfl, rfl⟩
theorem need_flips {k : Nat} {fl : List Nat} {N : Nat} {NN : Int} {G : Store} (hN : NN = N) (h : Flips fl N) : run T (k + 3) 8 [.tup (ni fl), .int NN] G = .ok .non G := by
  refine eq_of_wp (run_wp (fd := d8.fd) rfl rfl ?_)
  simp only [s_pass, s_nil, s_cons, s_expr, s_set, s_par, s_setIx, s_setKey, s_augIx, s_aug, s_ifs, s_ret, s_retN, s_brk, s_cnt, s_never, w_k, w_v, w_un, w_bin, w_and, w_or, w_ite, w_chain, w_tup, wp_newL, w_lst, w_dic0, w_callD, w_sl, w_rev, w_call, w_bf, w_mt, w_nil, w_cons, w_no, w_some, Tg.bind, bindN, o_add, o_addT, o_sub, o_mul, o_fdiv, o_mod, o_pow, o_eq, o_ne, o_lt, o_le, o_gt, o_ge, o_isT, o_isI, o_isR, o_isN, o_eqB, o_neB, o_not, o_neg, o_lenT, o_int, o_isinI, o_isinT, o_isinB, o_isinI2, o_isinT2, t_ii, t_ib, t_is, t_it, t_il, t_tt, t_tl, t_ts, t_ti, t_tb, t_bb, t_bi, Cut.truthy, zb_bl, Bool.or_false, Bool.false_or, Bool.not_true, Bool.not_false, Bool.true_or, Bool.or_true, tb_dec, tb_some, tb_not, tb_true, tb_false, Cut.start, List.map, List.length, List.replicate, List.append_eq, List.cons_append, List.nil_append, List.getElem?_cons_zero, List.getElem?_cons_succ, List.set_cons_zero, List.set_cons_succ, Nat.reduceAdd, Nat.reduceSub, tyOf, if_true, if_false, Bool.false_eq_true, decide_true, decide_false, wp_ok, Df.fd, d8]
  rw [are_flips hN h]
  simp only [s_pass, s_nil, s_cons, s_expr, s_set, s_par, s_setIx, s_setKey, s_augIx, s_aug, s_ifs, s_ret, s_retN, s_brk, s_cnt, s_never, w_k, w_v, w_un, w_bin, w_and, w_or, w_ite, w_chain, w_tup, wp_newL, w_lst, w_dic0, w_callD, w_sl, w_rev, w_call, w_bf, w_mt, w_nil, w_cons, w_no, w_some, Tg.bind, bindN, o_add, o_addT, o_sub, o_mul, o_fdiv, o_mod, o_pow, o_eq, o_ne, o_lt, o_le, o_gt, o_ge, o_isT, o_isI, o_isR, o_isN, o_eqB, o_neB, o_not, o_neg, o_lenT, o_int, o_isinI, o_isinT, o_isinB, o_isinI2, o_isinT2, t_ii, t_ib, t_is, t_it, t_il, t_tt, t_tl, t_ts, t_ti, t_tb, t_bb, t_bi, Cut.truthy, zb_bl, Bool.or_false, Bool.false_or, Bool.not_true, Bool.not_false, Bool.true_or, Bool.or_true, tb_dec, tb_some, tb_not, tb_true, tb_false, Cut.start, List.map, List.length, List.replicate, List.append_eq, List.cons_append, List.nil_append, List.getElem?_cons_zero, List.getElem?_cons_succ, List.set_cons_zero, List.set_cons_succ, Nat.reduceAdd, Nat.reduceSub, tyOf, if_true, if_false, Bool.false_eq_true, decide_true, decide_false, wp_ok]
  rw [gc_id rfl]
  exact ⟨rfl, rfl⟩
/-- what the places add up to -/
def seen (N : Nat) (fl : List Nat) : Nat := fl.foldl (fun x f => x ^^^ shN (N - 1 - f) 1) 0
theorem seen_app (N : Nat) (fl : List Nat) (f : Nat) : seen N (fl ++ [f]) = seen N fl ^^^ shN (N - 1 - f) 1 := by
  unfold seen; rw [List.foldl_append]; rfl
theorem is_unseen {k : Nat} {fl : List Nat} {n : Nat} {NN : Int} {G : Store} (hN : NN = n) (hn2 : 2 ≤ n) (hn : n ≤ 100) (h : Flips fl (8 * n)) (hlim : G.lim ≤ G.cs.length) : run T (k + 4) 14 [.int NN, .tup (ni fl)] G = .ok (.bl (decide (seen (8 * n) fl = 0))) G := by
  have hlog : (8 : Int).natAbs.log2 = 3 := by decide +kernel
  have hlog2 : NN.natAbs.log2 < 8 := log2_lt (by omega) (by decide)
  obtain ⟨h1, h2, h3⟩ := id h
  refine eq_of_wp (run_wp (fd := d14.fd) rfl rfl ?_)
  simp only [s_pass, s_nil, s_cons, s_expr, s_set, s_par, s_setIx, s_setKey, s_augIx, s_aug, s_ifs, s_ret, s_retN, s_brk, s_cnt, s_never, w_k, w_v, w_un, w_bin, w_and, w_or, w_ite, w_chain, w_tup, wp_newL, w_lst, w_dic0, w_callD, w_sl, w_rev, w_call, w_bf, w_mt, w_nil, w_cons, w_no, w_some, Tg.bind, bindN, o_add, o_addT, o_sub, o_mul, o_fdiv, o_mod, o_pow, o_eq, o_ne, o_lt, o_le, o_gt, o_ge, o_isT, o_isI, o_isR, o_isN, o_eqB, o_neB, o_not, o_neg, o_lenT, o_int, o_isinI, o_isinT, o_isinB, o_isinI2, o_isinT2, t_ii, t_ib, t_is, t_it, t_il, t_tt, t_tl, t_ts, t_ti, t_tb, t_bb, t_bi, Cut.truthy, zb_bl, Bool.or_false, Bool.false_or, Bool.not_true, Bool.not_false, Bool.true_or, Bool.or_true, tb_dec, tb_some, tb_not, tb_true, tb_false, Cut.start, List.map, List.length, List.replicate, List.append_eq, List.cons_append, List.nil_append, List.getElem?_cons_zero, List.getElem?_cons_succ, List.set_cons_zero, List.set_cons_succ, Nat.reduceAdd, Nat.reduceSub, tyOf, if_true, if_false, Bool.false_eq_true, decide_true, decide_false, wp_ok, Df.fd, d14, s_for, i_one, srcOf]
  rw [need_number (by omega) (by omega)]
  simp only [s_pass, s_nil, s_cons, s_expr, s_set, s_par, s_setIx, s_setKey, s_augIx, s_aug, s_ifs, s_ret, s_retN, s_brk, s_cnt, s_never, w_k, w_v, w_un, w_bin, w_and, w_or, w_ite, w_chain, w_tup, wp_newL, w_lst, w_dic0, w_callD, w_sl, w_rev, w_call, w_bf, w_mt, w_nil, w_cons, w_no, w_some, Tg.bind, bindN, o_add, o_addT, o_sub, o_mul, o_fdiv, o_mod, o_pow, o_eq, o_ne, o_lt, o_le, o_gt, o_ge, o_isT, o_isI, o_isR, o_isN, o_eqB, o_neB, o_not, o_neg, o_lenT, o_int, o_isinI, o_isinT, o_isinB, o_isinI2, o_isinT2, t_ii, t_ib, t_is, t_it, t_il, t_tt, t_tl, t_ts, t_ti, t_tb, t_bb, t_bi, Cut.truthy, zb_bl, Bool.or_false, Bool.false_or, Bool.not_true, Bool.not_false, Bool.true_or, Bool.or_true, tb_dec, tb_some, tb_not, tb_true, tb_false, Cut.start, List.map, List.length, List.replicate, List.append_eq, List.cons_append, List.nil_append, List.getElem?_cons_zero, List.getElem?_cons_succ, List.set_cons_zero, List.set_cons_succ, Nat.reduceAdd, Nat.reduceSub, tyOf, if_true, if_false, Bool.false_eq_true, decide_true, decide_false, wp_ok]
  refine ⟨by omega, ?_⟩
  rw [need_flips (N := 8 * n) (by omega) h]
  simp only [s_pass, s_nil, s_cons, s_expr, s_set, s_par, s_setIx, s_setKey, s_augIx, s_aug, s_ifs, s_ret, s_retN, s_brk, s_cnt, s_never, w_k, w_v, w_un, w_bin, w_and, w_or, w_ite, w_chain, w_tup, wp_newL, w_lst, w_dic0, w_callD, w_sl, w_rev, w_call, w_bf, w_mt, w_nil, w_cons, w_no, w_some, Tg.bind, bindN, o_add, o_addT, o_sub, o_mul, o_fdiv, o_mod, o_pow, o_eq, o_ne, o_lt, o_le, o_gt, o_ge, o_isT, o_isI, o_isR, o_isN, o_eqB, o_neB, o_not, o_neg, o_lenT, o_int, o_isinI, o_isinT, o_isinB, o_isinI2, o_isinT2, t_ii, t_ib, t_is, t_it, t_il, t_tt, t_tl, t_ts, t_ti, t_tb, t_bb, t_bi, Cut.truthy, zb_bl, Bool.or_false, Bool.false_or, Bool.not_true, Bool.not_false, Bool.true_or, Bool.or_true, tb_dec, tb_some, tb_not, tb_true, tb_false, Cut.start, List.map, List.length, List.replicate, List.append_eq, List.cons_append, List.nil_append, List.getElem?_cons_zero, List.getElem?_cons_succ, List.set_cons_zero, List.set_cons_succ, Nat.reduceAdd, Nat.reduceSub, tyOf, if_true, if_false, Bool.false_eq_true, decide_true, decide_false, wp_ok]
  refine ⟨by omega, ?_⟩
  rw [rests_of (N := 8 * n) (by omega) (by omega) hlim]
  simp only [s_pass, s_nil, s_cons, s_expr, s_set, s_par, s_setIx, s_setKey, s_augIx, s_aug, s_ifs, s_ret, s_retN, s_brk, s_cnt, s_never, w_k, w_v, w_un, w_bin, w_and, w_or, w_ite, w_chain, w_tup, wp_newL, w_lst, w_dic0, w_callD, w_sl, w_rev, w_call, w_bf, w_mt, w_nil, w_cons, w_no, w_some, Tg.bind, bindN, o_add, o_addT, o_sub, o_mul, o_fdiv, o_mod, o_pow, o_eq, o_ne, o_lt, o_le, o_gt, o_ge, o_isT, o_isI, o_isR, o_isN, o_eqB, o_neB, o_not, o_neg, o_lenT, o_int, o_isinI, o_isinT, o_isinB, o_isinI2, o_isinT2, t_ii, t_ib, t_is, t_it, t_il, t_tt, t_tl, t_ts, t_ti, t_tb, t_bb, t_bi, Cut.truthy, zb_bl, Bool.or_false, Bool.false_or, Bool.not_true, Bool.not_false, Bool.true_or, Bool.or_true, tb_dec, tb_some, tb_not, tb_true, tb_false, Cut.start, List.map, List.length, List.replicate, List.append_eq, List.cons_append, List.nil_append, List.getElem?_cons_zero, List.getElem?_cons_succ, List.set_cons_zero, List.set_cons_succ, Nat.reduceAdd, Nat.reduceSub, tyOf, if_true, if_false, Bool.false_eq_true, decide_true, decide_false, wp_ok, srcOf]
  have hx : (G.new (.lst (RL (8 * n)))).lst? G.cs.length = some (RL (8 * n)) := lst_new
  have g := (Grown.refl G).new (.lst (RL (8 * n)))
  generalize G.new (.lst (RL (8 * n))) = G1 at hx g ⊢
  refine s_forGo (fun i ρ G' => ∃ w : Option D, ρ = [some (.int NN), some (.tup (ni fl)), some (.ref G.cs.length), some (.int ((seen (8 * n) (fl.take i) : Nat) : Int)), w] ∧ G' = G1) fl.length (by unfold loopFuel; omega) ⟨none, rfl, rfl⟩ ?_ ?_
  · rintro i ρ G' hi ⟨w, rfl, rfl⟩
    refine ⟨.int (fl[i] : Int), by show some ((ni fl)[i]?) = _; rw [ni_at hi], _, rfl, ?_⟩
    have hlt := h2 _ (List.getElem_mem hi)
    simp only [s_pass, s_nil, s_cons, s_expr, s_set, s_par, s_setIx, s_setKey, s_augIx, s_aug, s_ifs, s_ret, s_retN, s_brk, s_cnt, s_never, w_k, w_v, w_un, w_bin, w_and, w_or, w_ite, w_chain, w_tup, wp_newL, w_lst, w_dic0, w_callD, w_sl, w_rev, w_call, w_bf, w_mt, w_nil, w_cons, w_no, w_some, Tg.bind, bindN, o_add, o_addT, o_sub, o_mul, o_fdiv, o_mod, o_pow, o_eq, o_ne, o_lt, o_le, o_gt, o_ge, o_isT, o_isI, o_isR, o_isN, o_eqB, o_neB, o_not, o_neg, o_lenT, o_int, o_isinI, o_isinT, o_isinB, o_isinI2, o_isinT2, t_ii, t_ib, t_is, t_it, t_il, t_tt, t_tl, t_ts, t_ti, t_tb, t_bb, t_bi, Cut.truthy, zb_bl, Bool.or_false, Bool.false_or, Bool.not_true, Bool.not_false, Bool.true_or, Bool.or_true, tb_dec, tb_some, tb_not, tb_true, tb_false, Cut.start, List.map, List.length, List.replicate, List.append_eq, List.cons_append, List.nil_append, List.getElem?_cons_zero, List.getElem?_cons_succ, List.set_cons_zero, List.set_cons_succ, Nat.reduceAdd, Nat.reduceSub, tyOf, if_true, if_false, Bool.false_eq_true, decide_true, decide_false, wp_ok, opAug, augOk, o_ixL hx (ixAt_nat (RL_at hlt)), o_xor]
    refine ⟨some (.int (fl[i] : Int)), ?_, trivial⟩
    rw [List.take_succ_eq_append_getElem hi, seen_app]
  · rintro ρ G' ⟨w, rfl, rfl⟩
    refine ⟨by show some ((ni fl)[fl.length]?) = _; rw [List.getElem?_eq_none (by rw [ni_len]; exact Nat.le_refl _)], ?_⟩
    rw [List.take_length]
    simp only [s_pass, s_nil, s_cons, s_expr, s_set, s_par, s_setIx, s_setKey, s_augIx, s_aug, s_ifs, s_ret, s_retN, s_brk, s_cnt, s_never, w_k, w_v, w_un, w_bin, w_and, w_or, w_ite, w_chain, w_tup, wp_newL, w_lst, w_dic0, w_callD, w_sl, w_rev, w_call, w_bf, w_mt, w_nil, w_cons, w_no, w_some, Tg.bind, bindN, o_add, o_addT, o_sub, o_mul, o_fdiv, o_mod, o_pow, o_eq, o_ne, o_lt, o_le, o_gt, o_ge, o_isT, o_isI, o_isR, o_isN, o_eqB, o_neB, o_not, o_neg, o_lenT, o_int, o_isinI, o_isinT, o_isinB, o_isinI2, o_isinT2, t_ii, t_ib, t_is, t_it, t_il, t_tt, t_tl, t_ts, t_ti, t_tb, t_bb, t_bi, Cut.truthy, zb_bl, Bool.or_false, Bool.false_or, Bool.not_true, Bool.not_false, Bool.true_or, Bool.or_true, tb_dec, tb_some, tb_not, tb_true, tb_false, Cut.start, List.map, List.length, List.replicate, List.append_eq, List.cons_append, List.nil_append, List.getElem?_cons_zero, List.getElem?_cons_succ, List.set_cons_zero, List.set_cons_succ, Nat.reduceAdd, Nat.reduceSub, tyOf, if_true, if_false, Bool.false_eq_true, decide_true, decide_false, wp_ok]
    rw [gc_grown g rfl]
    refine ⟨?_, rfl⟩
    congr 1
    rw [decide_eq_decide]
    omega
theorem check_of {k : Nat} {bs : List Int} {G : Store} (hb : ∀ b ∈ bs, Byte b) (hl : bs.length ≤ 1000) : run T (k + 4) 10 [.tup (bs.map .int)] G = .ok (.int (crc 0 bs)) G := by
  refine eq_of_wp (run_wp (fd := d10.fd) rfl rfl ?_)
  simp only [s_pass, s_nil, s_cons, s_expr, s_set, s_par, s_setIx, s_setKey, s_augIx, s_aug, s_ifs, s_ret, s_retN, s_brk, s_cnt, s_never, w_k, w_v, w_un, w_bin, w_and, w_or, w_ite, w_chain, w_tup, wp_newL, w_lst, w_dic0, w_callD, w_sl, w_rev, w_call, w_bf, w_mt, w_nil, w_cons, w_no, w_some, Tg.bind, bindN, o_add, o_addT, o_sub, o_mul, o_fdiv, o_mod, o_pow, o_eq, o_ne, o_lt, o_le, o_gt, o_ge, o_isT, o_isI, o_isR, o_isN, o_eqB, o_neB, o_not, o_neg, o_lenT, o_int, o_isinI, o_isinT, o_isinB, o_isinI2, o_isinT2, t_ii, t_ib, t_is, t_it, t_il, t_tt, t_tl, t_ts, t_ti, t_tb, t_bb, t_bi, Cut.truthy, zb_bl, Bool.or_false, Bool.false_or, Bool.not_true, Bool.not_false, Bool.true_or, Bool.or_true, tb_dec, tb_some, tb_not, tb_true, tb_false, Cut.start, List.map, List.length, List.replicate, List.append_eq, List.cons_append, List.nil_append, List.getElem?_cons_zero, List.getElem?_cons_succ, List.set_cons_zero, List.set_cons_succ, Nat.reduceAdd, Nat.reduceSub, tyOf, if_true, if_false, Bool.false_eq_true, decide_true, decide_false, wp_ok, Df.fd, d10]
  rw [need_row hb (by omega)]
  simp only [s_pass, s_nil, s_cons, s_expr, s_set, s_par, s_setIx, s_setKey, s_augIx, s_aug, s_ifs, s_ret, s_retN, s_brk, s_cnt, s_never, w_k, w_v, w_un, w_bin, w_and, w_or, w_ite, w_chain, w_tup, wp_newL, w_lst, w_dic0, w_callD, w_sl, w_rev, w_call, w_bf, w_mt, w_nil, w_cons, w_no, w_some, Tg.bind, bindN, o_add, o_addT, o_sub, o_mul, o_fdiv, o_mod, o_pow, o_eq, o_ne, o_lt, o_le, o_gt, o_ge, o_isT, o_isI, o_isR, o_isN, o_eqB, o_neB, o_not, o_neg, o_lenT, o_int, o_isinI, o_isinT, o_isinB, o_isinI2, o_isinT2, t_ii, t_ib, t_is, t_it, t_il, t_tt, t_tl, t_ts, t_ti, t_tb, t_bb, t_bi, Cut.truthy, zb_bl, Bool.or_false, Bool.false_or, Bool.not_true, Bool.not_false, Bool.true_or, Bool.or_true, tb_dec, tb_some, tb_not, tb_true, tb_false, Cut.start, List.map, List.length, List.replicate, List.append_eq, List.cons_append, List.nil_append, List.getElem?_cons_zero, List.getElem?_cons_succ, List.set_cons_zero, List.set_cons_succ, Nat.reduceAdd, Nat.reduceSub, tyOf, if_true, if_false, Bool.false_eq_true, decide_true, decide_false, wp_ok]
  rw [check_row hb (by unfold loopFuel; omega)]
  rw [wp_ok, gc_id rfl]
  exact ⟨rfl, rfl⟩
theorem is_sealed {k : Nat} {bs : List Int} {G : Store} (hb : ∀ b ∈ bs, Byte b) (hl : bs.length ≤ 1000) : run T (k + 4) 12 [.tup (bs.map .int)] G = .ok (.bl (decide (2 ≤ bs.length ∧ crc 0 bs = 0))) G := by
  refine eq_of_wp (run_wp (fd := d12.fd) rfl rfl ?_)
  simp only [s_pass, s_nil, s_cons, s_expr, s_set, s_par, s_setIx, s_setKey, s_augIx, s_aug, s_ifs, s_ret, s_retN, s_brk, s_cnt, s_never, w_k, w_v, w_un, w_bin, w_and, w_or, w_ite, w_chain, w_tup, wp_newL, w_lst, w_dic0, w_callD, w_sl, w_rev, w_call, w_bf, w_mt, w_nil, w_cons, w_no, w_some, Tg.bind, bindN, o_add, o_addT, o_sub, o_mul, o_fdiv, o_mod, o_pow, o_eq, o_ne, o_lt, o_le, o_gt, o_ge, o_isT, o_isI, o_isR, o_isN, o_eqB, o_neB, o_not, o_neg, o_lenT, o_int, o_isinI, o_isinT, o_isinB, o_isinI2, o_isinT2, t_ii, t_ib, t_is, t_it, t_il, t_tt, t_tl, t_ts, t_ti, t_tb, t_bb, t_bi, Cut.truthy, zb_bl, Bool.or_false, Bool.false_or, Bool.not_true, Bool.not_false, Bool.true_or, Bool.or_true, tb_dec, tb_some, tb_not, tb_true, tb_false, Cut.start, List.map, List.length, List.replicate, List.append_eq, List.cons_append, List.nil_append, List.getElem?_cons_zero, List.getElem?_cons_succ, List.set_cons_zero, List.set_cons_succ, Nat.reduceAdd, Nat.reduceSub, tyOf, if_true, if_false, Bool.false_eq_true, decide_true, decide_false, wp_ok, Df.fd, d12]
  rw [need_row hb (by omega)]
  simp only [s_pass, s_nil, s_cons, s_expr, s_set, s_par, s_setIx, s_setKey, s_augIx, s_aug, s_ifs, s_ret, s_retN, s_brk, s_cnt, s_never, w_k, w_v, w_un, w_bin, w_and, w_or, w_ite, w_chain, w_tup, wp_newL, w_lst, w_dic0, w_callD, w_sl, w_rev, w_call, w_bf, w_mt, w_nil, w_cons, w_no, w_some, Tg.bind, bindN, o_add, o_addT, o_sub, o_mul, o_fdiv, o_mod, o_pow, o_eq, o_ne, o_lt, o_le, o_gt, o_ge, o_isT, o_isI, o_isR, o_isN, o_eqB, o_neB, o_not, o_neg, o_lenT, o_int, o_isinI, o_isinT, o_isinB, o_isinI2, o_isinT2, t_ii, t_ib, t_is, t_it, t_il, t_tt, t_tl, t_ts, t_ti, t_tb, t_bb, t_bi, Cut.truthy, zb_bl, Bool.or_false, Bool.false_or, Bool.not_true, Bool.not_false, Bool.true_or, Bool.or_true, tb_dec, tb_some, tb_not, tb_true, tb_false, Cut.start, List.map, List.length, List.replicate, List.append_eq, List.cons_append, List.nil_append, List.getElem?_cons_zero, List.getElem?_cons_succ, List.set_cons_zero, List.set_cons_succ, Nat.reduceAdd, Nat.reduceSub, tyOf, if_true, if_false, Bool.false_eq_true, decide_true, decide_false, wp_ok, List.length_map]
  by_cases h2 : (2 : Int) ≤ (bs.length : Int)
  · simp only [s_pass, s_nil, s_cons, s_expr, s_set, s_par, s_setIx, s_setKey, s_augIx, s_aug, s_ifs, s_ret, s_retN, s_brk, s_cnt, s_never, w_k, w_v, w_un, w_bin, w_and, w_or, w_ite, w_chain, w_tup, wp_newL, w_lst, w_dic0, w_callD, w_sl, w_rev, w_call, w_bf, w_mt, w_nil, w_cons, w_no, w_some, Tg.bind, bindN, o_add, o_addT, o_sub, o_mul, o_fdiv, o_mod, o_pow, o_eq, o_ne, o_lt, o_le, o_gt, o_ge, o_isT, o_isI, o_isR, o_isN, o_eqB, o_neB, o_not, o_neg, o_lenT, o_int, o_isinI, o_isinT, o_isinB, o_isinI2, o_isinT2, t_ii, t_ib, t_is, t_it, t_il, t_tt, t_tl, t_ts, t_ti, t_tb, t_bb, t_bi, Cut.truthy, zb_bl, Bool.or_false, Bool.false_or, Bool.not_true, Bool.not_false, Bool.true_or, Bool.or_true, tb_dec, tb_some, tb_not, tb_true, tb_false, Cut.start, List.map, List.length, List.replicate, List.append_eq, List.cons_append, List.nil_append, List.getElem?_cons_zero, List.getElem?_cons_succ, List.set_cons_zero, List.set_cons_succ, Nat.reduceAdd, Nat.reduceSub, tyOf, if_true, if_false, Bool.false_eq_true, decide_true, decide_false, wp_ok, h2]
    rw [check_row hb (by unfold loopFuel; omega)]
    simp only [s_pass, s_nil, s_cons, s_expr, s_set, s_par, s_setIx, s_setKey, s_augIx, s_aug, s_ifs, s_ret, s_retN, s_brk, s_cnt, s_never, w_k, w_v, w_un, w_bin, w_and, w_or, w_ite, w_chain, w_tup, wp_newL, w_lst, w_dic0, w_callD, w_sl, w_rev, w_call, w_bf, w_mt, w_nil, w_cons, w_no, w_some, Tg.bind, bindN, o_add, o_addT, o_sub, o_mul, o_fdiv, o_mod, o_pow, o_eq, o_ne, o_lt, o_le, o_gt, o_ge, o_isT, o_isI, o_isR, o_isN, o_eqB, o_neB, o_not, o_neg, o_lenT, o_int, o_isinI, o_isinT, o_isinB, o_isinI2, o_isinT2, t_ii, t_ib, t_is, t_it, t_il, t_tt, t_tl, t_ts, t_ti, t_tb, t_bb, t_bi, Cut.truthy, zb_bl, Bool.or_false, Bool.false_or, Bool.not_true, Bool.not_false, Bool.true_or, Bool.or_true, tb_dec, tb_some, tb_not, tb_true, tb_false, Cut.start, List.map, List.length, List.replicate, List.append_eq, List.cons_append, List.nil_append, List.getElem?_cons_zero, List.getElem?_cons_succ, List.set_cons_zero, List.set_cons_succ, Nat.reduceAdd, Nat.reduceSub, tyOf, if_true, if_false, Bool.false_eq_true, decide_true, decide_false, wp_ok]
    rw [gc_id rfl]
    refine ⟨?_, rfl⟩
    congr 1
    rw [decide_eq_decide]
    omega
  · simp only [s_pass, s_nil, s_cons, s_expr, s_set, s_par, s_setIx, s_setKey, s_augIx, s_aug, s_ifs, s_ret, s_retN, s_brk, s_cnt, s_never, w_k, w_v, w_un, w_bin, w_and, w_or, w_ite, w_chain, w_tup, wp_newL, w_lst, w_dic0, w_callD, w_sl, w_rev, w_call, w_bf, w_mt, w_nil, w_cons, w_no, w_some, Tg.bind, bindN, o_add, o_addT, o_sub, o_mul, o_fdiv, o_mod, o_pow, o_eq, o_ne, o_lt, o_le, o_gt, o_ge, o_isT, o_isI, o_isR, o_isN, o_eqB, o_neB, o_not, o_neg, o_lenT, o_int, o_isinI, o_isinT, o_isinB, o_isinI2, o_isinT2, t_ii, t_ib, t_is, t_it, t_il, t_tt, t_tl, t_ts, t_ti, t_tb, t_bb, t_bi, Cut.truthy, zb_bl, Bool.or_false, Bool.false_or, Bool.not_true, Bool.not_false, Bool.true_or, Bool.or_true, tb_dec, tb_some, tb_not, tb_true, tb_false, Cut.start, List.map, List.length, List.replicate, List.append_eq, List.cons_append, List.nil_append, List.getElem?_cons_zero, List.getElem?_cons_succ, List.set_cons_zero, List.set_cons_succ, Nat.reduceAdd, Nat.reduceSub, tyOf, if_true, if_false, Bool.false_eq_true, decide_true, decide_false, wp_ok, h2]
    rw [gc_id rfl]
    refine ⟨?_, rfl⟩
    rw [decide_eq_false]
    omega
theorem sealed {k : Nat} {bs : List Int} {G : Store} (hb : ∀ b ∈ bs, Byte b) (hl : bs.length ≤ 900) (hlim : G.lim ≤ G.cs.length) : run T (k + 4) 11 [.tup (bs.map .int)] G = .ok (.tup ((bs ++ fix (crc 0 bs) 2).map .int)) G := by
  have hcr := crc_lt bs 0 (by decide) hb
  refine eq_of_wp (run_wp (fd := d11.fd) rfl rfl ?_)
  simp only [s_pass, s_nil, s_cons, s_expr, s_set, s_par, s_setIx, s_setKey, s_augIx, s_aug, s_ifs, s_ret, s_retN, s_brk, s_cnt, s_never, w_k, w_v, w_un, w_bin, w_and, w_or, w_ite, w_chain, w_tup, wp_newL, w_lst, w_dic0, w_callD, w_sl, w_rev, w_call, w_bf, w_mt, w_nil, w_cons, w_no, w_some, Tg.bind, bindN, o_add, o_addT, o_sub, o_mul, o_fdiv, o_mod, o_pow, o_eq, o_ne, o_lt, o_le, o_gt, o_ge, o_isT, o_isI, o_isR, o_isN, o_eqB, o_neB, o_not, o_neg, o_lenT, o_int, o_isinI, o_isinT, o_isinB, o_isinI2, o_isinT2, t_ii, t_ib, t_is, t_it, t_il, t_tt, t_tl, t_ts, t_ti, t_tb, t_bb, t_bi, Cut.truthy, zb_bl, Bool.or_false, Bool.false_or, Bool.not_true, Bool.not_false, Bool.true_or, Bool.or_true, tb_dec, tb_some, tb_not, tb_true, tb_false, Cut.start, List.map, List.length, List.replicate, List.append_eq, List.cons_append, List.nil_append, List.getElem?_cons_zero, List.getElem?_cons_succ, List.set_cons_zero, List.set_cons_succ, Nat.reduceAdd, Nat.reduceSub, tyOf, if_true, if_false, Bool.false_eq_true, decide_true, decide_false, wp_ok, Df.fd, d11]
  rw [need_row hb (by omega)]
  simp only [s_pass, s_nil, s_cons, s_expr, s_set, s_par, s_setIx, s_setKey, s_augIx, s_aug, s_ifs, s_ret, s_retN, s_brk, s_cnt, s_never, w_k, w_v, w_un, w_bin, w_and, w_or, w_ite, w_chain, w_tup, wp_newL, w_lst, w_dic0, w_callD, w_sl, w_rev, w_call, w_bf, w_mt, w_nil, w_cons, w_no, w_some, Tg.bind, bindN, o_add, o_addT, o_sub, o_mul, o_fdiv, o_mod, o_pow, o_eq, o_ne, o_lt, o_le, o_gt, o_ge, o_isT, o_isI, o_isR, o_isN, o_eqB, o_neB, o_not, o_neg, o_lenT, o_int, o_isinI, o_isinT, o_isinB, o_isinI2, o_isinT2, t_ii, t_ib, t_is, t_it, t_il, t_tt, t_tl, t_ts, t_ti, t_tb, t_bb, t_bi, Cut.truthy, zb_bl, Bool.or_false, Bool.false_or, Bool.not_true, Bool.not_false, Bool.true_or, Bool.or_true, tb_dec, tb_some, tb_not, tb_true, tb_false, Cut.start, List.map, List.length, List.replicate, List.append_eq, List.cons_append, List.nil_append, List.getElem?_cons_zero, List.getElem?_cons_succ, List.set_cons_zero, List.set_cons_succ, Nat.reduceAdd, Nat.reduceSub, tyOf, if_true, if_false, Bool.false_eq_true, decide_true, decide_false, wp_ok, List.length_map, show ¬ (4096 : Int) < (bs.length : Int) + 2 by omega]
  rw [check_row hb (by unfold loopFuel; omega)]
  simp only [s_pass, s_nil, s_cons, s_expr, s_set, s_par, s_setIx, s_setKey, s_augIx, s_aug, s_ifs, s_ret, s_retN, s_brk, s_cnt, s_never, w_k, w_v, w_un, w_bin, w_and, w_or, w_ite, w_chain, w_tup, wp_newL, w_lst, w_dic0, w_callD, w_sl, w_rev, w_call, w_bf, w_mt, w_nil, w_cons, w_no, w_some, Tg.bind, bindN, o_add, o_addT, o_sub, o_mul, o_fdiv, o_mod, o_pow, o_eq, o_ne, o_lt, o_le, o_gt, o_ge, o_isT, o_isI, o_isR, o_isN, o_eqB, o_neB, o_not, o_neg, o_lenT, o_int, o_isinI, o_isinT, o_isinB, o_isinI2, o_isinT2, t_ii, t_ib, t_is, t_it, t_il, t_tt, t_tl, t_ts, t_ti, t_tb, t_bb, t_bi, Cut.truthy, zb_bl, Bool.or_false, Bool.false_or, Bool.not_true, Bool.not_false, Bool.true_or, Bool.or_true, tb_dec, tb_some, tb_not, tb_true, tb_false, Cut.start, List.map, List.length, List.replicate, List.append_eq, List.cons_append, List.nil_append, List.getElem?_cons_zero, List.getElem?_cons_succ, List.set_cons_zero, List.set_cons_succ, Nat.reduceAdd, Nat.reduceSub, tyOf, if_true, if_false, Bool.false_eq_true, decide_true, decide_false, wp_ok]
  rw [fixed_code (v := crc 0 bs) (m := 2) (M := 2) rfl rfl (by omega) (by omega) hlim]
  simp only [s_pass, s_nil, s_cons, s_expr, s_set, s_par, s_setIx, s_setKey, s_augIx, s_aug, s_ifs, s_ret, s_retN, s_brk, s_cnt, s_never, w_k, w_v, w_un, w_bin, w_and, w_or, w_ite, w_chain, w_tup, wp_newL, w_lst, w_dic0, w_callD, w_sl, w_rev, w_call, w_bf, w_mt, w_nil, w_cons, w_no, w_some, Tg.bind, bindN, o_add, o_addT, o_sub, o_mul, o_fdiv, o_mod, o_pow, o_eq, o_ne, o_lt, o_le, o_gt, o_ge, o_isT, o_isI, o_isR, o_isN, o_eqB, o_neB, o_not, o_neg, o_lenT, o_int, o_isinI, o_isinT, o_isinB, o_isinI2, o_isinT2, t_ii, t_ib, t_is, t_it, t_il, t_tt, t_tl, t_ts, t_ti, t_tb, t_bb, t_bi, Cut.truthy, zb_bl, Bool.or_false, Bool.false_or, Bool.not_true, Bool.not_false, Bool.true_or, Bool.or_true, tb_dec, tb_some, tb_not, tb_true, tb_false, Cut.start, List.map, List.length, List.replicate, List.append_eq, List.cons_append, List.nil_append, List.getElem?_cons_zero, List.getElem?_cons_succ, List.set_cons_zero, List.set_cons_succ, Nat.reduceAdd, Nat.reduceSub, tyOf, if_true, if_false, Bool.false_eq_true, decide_true, decide_false, wp_ok, List.length_map, fix_len]
  refine ⟨sm (by omega), ?_⟩
  rw [← List.map_append, gc_id (show below _ (.tup ((bs ++ fix (crc 0 bs) 2).map D.int)) = true from belows_int _ _)]
  exact ⟨rfl, rfl⟩
end K05
namespace K05
open PySem Cut
def flip1 (row : List Int) (f : Nat) : List Int := row.set (f / 8) (((row.getD (f / 8) 0).toNat ^^^ 2 ^ (7 - f % 8) : Nat) : Int)
theorem flip_len {row : List Int} {f : Nat} : (flip1 row f).length = row.length := List.length_set ..
theorem byte_of {bs : List Int} (hb : ∀ b ∈ bs, Byte b) {i : Nat} (h : i < bs.length) : ∃ n : Nat, n < 256 ∧ bs[i]? = some (n : Int) ∧ bs.getD i 0 = (n : Int) := by
  obtain ⟨n, h1, h2⟩ := byte_at hb h
  exact ⟨n, h1, h2, by rw [List.getD_eq_getElem?_getD, h2]; rfl⟩
theorem flip_byte {row : List Int} {f : Nat} (hb : ∀ b ∈ row, Byte b) (hf : f < 8 * row.length) : ∀ b ∈ flip1 row f, Byte b := by
  obtain ⟨x, hx, _, hd⟩ := byte_of hb (i := f / 8) (by omega)
  intro b h
  unfold flip1 at h
  rcases List.mem_or_eq_of_mem_set h with h | h
  · exact hb b h
  · have := (bit_flip x hx (7 - f % 8) (by omega)).1
    rw [hd, Int.toNat_natCast] at h
    rw [h]; exact ⟨by omega, by omega⟩
theorem flips_ok : ∀ (fl : List Nat) (row : List Int), (∀ b ∈ row, Byte b) → (∀ f ∈ fl, f < 8 * row.length) → (∀ b ∈ fl.foldl flip1 row, Byte b) ∧ (fl.foldl flip1 row).length = row.length
  | [], row, hb, _ => ⟨hb, rfl⟩
  | f :: fl, row, hb, h => by
    have := flips_ok fl (flip1 row f) (flip_byte hb (h f (List.mem_cons_self ..))) fun g hg => by rw [flip_len]; exact h g (List.mem_cons_of_mem _ hg)
    exact ⟨this.1, by rw [List.foldl_cons, this.2, flip_len]⟩
/-! the check of a changed row -/
theorem crc_x : ∀ (l : List Int) (u v : Nat), (∀ b ∈ l, Byte b) → u < 65536 → v < 65536 → crc (u ^^^ v) l = crc u l ^^^ shN (8 * l.length) v
  | [], _, _, _, _, _ => rfl
  | b :: l, u, v, hb, hu, hv => by
    have hbb := hb b (List.mem_cons_self ..)
    have hbn : b.toNat < 256 := by have := hbb.1; have := hbb.2; omega
    have hbx : b.toNat * 256 < 65536 := by omega
    show crc (byteL (u ^^^ v) b.toNat) l = crc (byteL u b.toNat) l ^^^ _
    have huv : u ^^^ v < 65536 := Nat.xor_lt_two_pow (n := 16) hu hv
    have e : byteL (u ^^^ v) b.toNat = byteL u b.toNat ^^^ shN 8 v := by
      rw [byteL_sh huv hbn, byteL_sh hu hbn, xor_cancel3, shN_x 8 (Nat.xor_lt_two_pow (n := 16) hu hbx) hv]
    rw [e, crc_x l _ _ (fun c hc => hb c (List.mem_cons_of_mem _ hc)) (byteL_lt hu hbn) (shN_lt 8 hv), shN_add, List.length_cons, show 8 * (l.length + 1) = 8 * l.length + 8 by omega]
theorem crc_set : ∀ (l : List Int) (r q x y : Nat), (∀ b ∈ l, Byte b) → r < 65536 → l[q]? = some (x : Int) → y < 256 → crc r (l.set q (y : Int)) = crc r l ^^^ shN (8 * (l.length - 1 - q)) (shN 8 ((x ^^^ y) * 256))
  | [], _, _, _, _, _, _, h, _ => by simp at h
  | b :: l, r, 0, x, y, hb, hr, h, hy => by
    have hbx : b = (x : Int) := by simpa using h
    have hbb := hb b (List.mem_cons_self ..)
    have hx : x < 256 := by have := hbb.2; omega
    subst hbx
    show crc (byteL r ((y : Int)).toNat) l = crc (byteL r ((x : Int)).toNat) l ^^^ _
    rw [Int.toNat_natCast, Int.toNat_natCast]
    have hxy : x ^^^ y < 256 := Nat.xor_lt_two_pow (n := 8) hx hy
    have e : byteL r y = byteL r x ^^^ shN 8 ((x ^^^ y) * 256) := by
      rw [byteL_sh hr hy, byteL_sh hr hx, ← shN_x 8 (Nat.xor_lt_two_pow (n := 16) hr (by omega)) (by omega)]
      congr 1
      rw [show (256 : Nat) = 2 ^ 8 from rfl, xor_mul, ← Nat.xor_assoc, Nat.xor_assoc r, Nat.xor_self, Nat.xor_zero]
    rw [e, crc_x l _ _ (fun c hc => hb c (List.mem_cons_of_mem _ hc)) (byteL_lt hr hx) (shN_lt 8 (by omega))]
    rfl
  | b :: l, r, q + 1, x, y, hb, hr, h, hy => by
    have hbb := hb b (List.mem_cons_self ..)
    show crc (byteL r b.toNat) (l.set q (y : Int)) = crc (byteL r b.toNat) l ^^^ _
    rw [crc_set l _ q x y (fun c hc => hb c (List.mem_cons_of_mem _ hc)) (byteL_lt hr (by have := hbb.1; have := hbb.2; omega)) (by simpa using h) hy]
    rw [List.length_cons, show l.length + 1 - 1 - (q + 1) = l.length - 1 - q by omega]
theorem crc_flip {row : List Int} {f : Nat} (hb : ∀ b ∈ row, Byte b) (hf : f < 8 * row.length) : crc 0 (flip1 row f) = crc 0 row ^^^ shN (16 + (8 * row.length - 1 - f)) 1 := by
  obtain ⟨x, hx, hq, hd⟩ := byte_of hb (i := f / 8) (by omega)
  have hj : f % 8 < 8 := Nat.mod_lt _ (by decide)
  obtain ⟨h1, _, h3, _⟩ := bit_flip x hx (7 - f % 8) (by omega)
  unfold flip1
  rw [hd, Int.toNat_natCast, crc_set row 0 (f / 8) x _ hb (by decide) hq h1, h3, ← one_sh _ hj, shN_add, shN_add]
  congr 2
  omega
theorem seen_from (N : Nat) : ∀ (fl : List Nat) (x : Nat), fl.foldl (fun x f => x ^^^ shN (N - 1 - f) 1) x = x ^^^ seen N fl
  | [], x => by show x = x ^^^ 0; rw [Nat.xor_zero]
  | f :: fl, x => by
    unfold seen
    rw [List.foldl_cons, List.foldl_cons, seen_from N fl, seen_from N fl (0 ^^^ _), Nat.zero_xor, Nat.xor_assoc]
theorem seen_cons (N : Nat) (f : Nat) (fl : List Nat) : seen N (f :: fl) = shN (N - 1 - f) 1 ^^^ seen N fl := by
  show (fl.foldl (fun x f => x ^^^ shN (N - 1 - f) 1) (0 ^^^ shN (N - 1 - f) 1)) = _
  rw [seen_from, Nat.zero_xor]
theorem seen_lt (N : Nat) : ∀ fl, seen N fl < 65536
  | [] => by show 0 < 65536; decide
  | f :: fl => by rw [seen_cons]; exact Nat.xor_lt_two_pow (n := 16) (shN_lt _ (by decide)) (seen_lt N fl)
theorem crc_flips : ∀ (fl : List Nat) (row : List Int), (∀ b ∈ row, Byte b) → (∀ f ∈ fl, f < 8 * row.length) → crc 0 (fl.foldl flip1 row) = crc 0 row ^^^ shN 16 (seen (8 * row.length) fl)
  | [], row, _, _ => by show crc 0 row = crc 0 row ^^^ shN 16 0; rw [shN_zero, Nat.xor_zero]
  | f :: fl, row, hb, h => by
    have hf := h f (List.mem_cons_self ..)
    rw [List.foldl_cons, crc_flips fl _ (flip_byte hb hf) (fun g hg => by rw [flip_len]; exact h g (List.mem_cons_of_mem _ hg)), flip_len, crc_flip hb hf, seen_cons, shN_x 16 (shN_lt _ (by decide)) (seen_lt _ _), shN_add, Nat.xor_assoc]
/-- a row is whole if its last two bytes are the check of the others -/
theorem seal_iff {row : List Int} (hb : ∀ b ∈ row, Byte b) (hl : 2 ≤ row.length) : crc 0 row = 0 ↔ fix (crc 0 (row.take (row.length - 2))) 2 = row.drop (row.length - 2) := by
  have hd : (row.drop (row.length - 2)).length = 2 := by rw [List.length_drop]; omega
  have hbd : ∀ b ∈ row.drop (row.length - 2), Byte b := fun b h => hb b (List.mem_of_mem_drop h)
  have hr := crc_lt (row.take (row.length - 2)) 0 (by decide) fun b h => hb b (List.mem_of_mem_take h)
  have hsp : row = row.take (row.length - 2) ++ row.drop (row.length - 2) := (List.take_append_drop ..).symm
  rcases hy : row.drop (row.length - 2) with _ | ⟨a, _ | ⟨b, _ | ⟨c, l⟩⟩⟩
  · rw [hy] at hd; cases hd
  · rw [hy] at hd; cases hd
  · rw [hy] at hsp hbd
    have ha := hbd a (by simp)
    have hb' := hbd b (by simp)
    have e : crc 0 row = byteL (byteL (crc 0 (row.take (row.length - 2))) a.toNat) b.toNat := by
      conv => lhs; rw [hsp, crc_app]
      rfl
    obtain ⟨x, rfl⟩ := Int.eq_ofNat_of_zero_le ha.1
    obtain ⟨y, rfl⟩ := Int.eq_ofNat_of_zero_le hb'.1
    have hx : x < 256 := by have := ha.2; omega
    have hy' : y < 256 := by have := hb'.2; omega
    rw [e, Int.toNat_natCast, Int.toNat_natCast, two_bytes hr hx hy']
    generalize crc 0 (row.take (row.length - 2)) = s at hr ⊢
    constructor
    · rintro rfl
      show [(((x * 256 + y) / 256 % 256 : Nat) : Int), (((x * 256 + y) % 256 : Nat) : Int)] = _
      rw [show (x * 256 + y) / 256 % 256 = x by omega, show (x * 256 + y) % 256 = y by omega]
    · intro h
      have h : [((s / 256 % 256 : Nat) : Int), ((s % 256 : Nat) : Int)] = [(x : Int), (y : Int)] := h
      simp only [List.cons.injEq, and_true] at h
      omega
  · rw [hy] at hd; simp at hd
theorem bits_ix {G : Store} {P : D → Store → Prop} {j : Nat} {J : Int} (hJ : J = j) (h : j < 8) : wp (op2 .ix (.tup [D.int 128, D.int 64, D.int 32, D.int 16, D.int 8, D.int 4, D.int 2, D.int 1]) (.int J) G) P = P (.int ((2 ^ (7 - j) : Nat) : Int)) G := by
  subst hJ
  refine o_ixT ?_
  rcases j with _ | _ | _ | _ | _ | _ | _ | _ | j
  · rfl
  · rfl
  · rfl
  · rfl
  · rfl
  · rfl
  · rfl
  · rfl
  · omega
theorem bits_ixL {G : Store} {P : D → Store → Prop} {m j : Nat} {J : Int} (hJ : J = j) (h : j < 8) (hx : G.lst? m = some [D.int 128, D.int 64, D.int 32, D.int 16, D.int 8, D.int 4, D.int 2, D.int 1]) : wp (op2 .ix (.ref m) (.int J) G) P = P (.int ((2 ^ (7 - j) : Nat) : Int)) G := by
  subst hJ
  refine o_ixL hx ?_
  rcases j with _ | _ | _ | _ | _ | _ | _ | _ | j
  · rfl
  · rfl
  · rfl
  · rfl
  · rfl
  · rfl
  · rfl
  · rfl
  · omega
theorem o_listT {G : Store} {P : D → Store → Prop} {xs : List D} (h : xs.length ≤ 1000) : wp (bf .list [.tup xs] G) P = P (.ref G.cs.length) (G.new (.lst xs)) := by
  show wp (newL xs G) P = _
  rw [wp_newL]
  exact propext ⟨fun h => h.2, fun h' => ⟨sm h, h'⟩⟩
theorem flipped {k : Nat} {fl : List Nat} {row : List Int} {G : Store} (hb : ∀ b ∈ row, Byte b) (hl : row.length ≤ 100) (h : Flips fl (8 * row.length)) (hlim : G.lim ≤ G.cs.length) : run T (k + 4) 13 [.tup (row.map .int), .tup (ni fl)] G = .ok (.tup ((fl.foldl flip1 row).map .int)) G := by
  have hlog : (8 : Int).natAbs.log2 = 3 := by decide +kernel
  have hlog2 : (row.length : Int).natAbs.log2 < 8 := log2_lt (by omega) (by decide)
  refine eq_of_wp (run_wp (fd := d13.fd) rfl rfl ?_)
  simp only [s_pass, s_nil, s_cons, s_expr, s_set, s_par, s_setIx, s_setKey, s_augIx, s_aug, s_ifs, s_ret, s_retN, s_brk, s_cnt, s_never, w_k, w_v, w_un, w_bin, w_and, w_or, w_ite, w_chain, w_tup, wp_newL, w_lst, w_dic0, w_callD, w_sl, w_rev, w_call, w_bf, w_mt, w_nil, w_cons, w_no, w_some, Tg.bind, bindN, o_add, o_addT, o_sub, o_mul, o_fdiv, o_mod, o_pow, o_eq, o_ne, o_lt, o_le, o_gt, o_ge, o_isT, o_isI, o_isR, o_isN, o_eqB, o_neB, o_not, o_neg, o_lenT, o_int, o_isinI, o_isinT, o_isinB, o_isinI2, o_isinT2, t_ii, t_ib, t_is, t_it, t_il, t_tt, t_tl, t_ts, t_ti, t_tb, t_bb, t_bi, Cut.truthy, zb_bl, Bool.or_false, Bool.false_or, Bool.not_true, Bool.not_false, Bool.true_or, Bool.or_true, tb_dec, tb_some, tb_not, tb_true, tb_false, Cut.start, List.map, List.length, List.replicate, List.append_eq, List.cons_append, List.nil_append, List.getElem?_cons_zero, List.getElem?_cons_succ, List.set_cons_zero, List.set_cons_succ, Nat.reduceAdd, Nat.reduceSub, tyOf, if_true, if_false, Bool.false_eq_true, decide_true, decide_false, wp_ok, Df.fd, d13, s_for, i_one, srcOf]
  rw [need_row hb (by omega)]
  simp only [s_pass, s_nil, s_cons, s_expr, s_set, s_par, s_setIx, s_setKey, s_augIx, s_aug, s_ifs, s_ret, s_retN, s_brk, s_cnt, s_never, w_k, w_v, w_un, w_bin, w_and, w_or, w_ite, w_chain, w_tup, wp_newL, w_lst, w_dic0, w_callD, w_sl, w_rev, w_call, w_bf, w_mt, w_nil, w_cons, w_no, w_some, Tg.bind, bindN, o_add, o_addT, o_sub, o_mul, o_fdiv, o_mod, o_pow, o_eq, o_ne, o_lt, o_le, o_gt, o_ge, o_isT, o_isI, o_isR, o_isN, o_eqB, o_neB, o_not, o_neg, o_lenT, o_int, o_isinI, o_isinT, o_isinB, o_isinI2, o_isinT2, t_ii, t_ib, t_is, t_it, t_il, t_tt, t_tl, t_ts, t_ti, t_tb, t_bb, t_bi, Cut.truthy, zb_bl, Bool.or_false, Bool.false_or, Bool.not_true, Bool.not_false, Bool.true_or, Bool.or_true, tb_dec, tb_some, tb_not, tb_true, tb_false, Cut.start, List.map, List.length, List.replicate, List.append_eq, List.cons_append, List.nil_append, List.getElem?_cons_zero, List.getElem?_cons_succ, List.set_cons_zero, List.set_cons_succ, Nat.reduceAdd, Nat.reduceSub, tyOf, if_true, if_false, Bool.false_eq_true, decide_true, decide_false, wp_ok, List.length_map]
  refine ⟨by omega, ?_⟩
  rw [need_flips (N := 8 * row.length) (by omega) h]
  simp only [s_pass, s_nil, s_cons, s_expr, s_set, s_par, s_setIx, s_setKey, s_augIx, s_aug, s_ifs, s_ret, s_retN, s_brk, s_cnt, s_never, w_k, w_v, w_un, w_bin, w_and, w_or, w_ite, w_chain, w_tup, wp_newL, w_lst, w_dic0, w_callD, w_sl, w_rev, w_call, w_bf, w_mt, w_nil, w_cons, w_no, w_some, Tg.bind, bindN, o_add, o_addT, o_sub, o_mul, o_fdiv, o_mod, o_pow, o_eq, o_ne, o_lt, o_le, o_gt, o_ge, o_isT, o_isI, o_isR, o_isN, o_eqB, o_neB, o_not, o_neg, o_lenT, o_int, o_isinI, o_isinT, o_isinB, o_isinI2, o_isinT2, t_ii, t_ib, t_is, t_it, t_il, t_tt, t_tl, t_ts, t_ti, t_tb, t_bb, t_bi, Cut.truthy, zb_bl, Bool.or_false, Bool.false_or, Bool.not_true, Bool.not_false, Bool.true_or, Bool.or_true, tb_dec, tb_some, tb_not, tb_true, tb_false, Cut.start, List.map, List.length, List.replicate, List.append_eq, List.cons_append, List.nil_append, List.getElem?_cons_zero, List.getElem?_cons_succ, List.set_cons_zero, List.set_cons_succ, Nat.reduceAdd, Nat.reduceSub, tyOf, if_true, if_false, Bool.false_eq_true, decide_true, decide_false, wp_ok]
  rw [o_listT (by rw [List.length_map]; omega)]
  refine s_forGo (fun i ρ G' => ∃ w : Option D, ρ = [some (.tup (row.map .int)), some (.tup (ni fl)), some (.ref G.cs.length), w] ∧ Grown G G' ∧ G'.lst? G.cs.length = some (((fl.take i).foldl flip1 row).map .int)) fl.length (by have := h.1; unfold loopFuel; omega) ⟨none, rfl, (Grown.refl G).new _, lst_new⟩ ?_ ?_
  · rintro i ρ G' hi ⟨w, rfl, g, hx⟩
    refine ⟨.int (fl[i] : Int), by show some ((ni fl)[i]?) = _; rw [ni_at hi], _, rfl, ?_⟩
    have hlt := h.2.1 _ (List.getElem_mem hi)
    obtain ⟨cb, cl⟩ := flips_ok (fl.take i) row hb fun f hf => h.2.1 f (List.mem_of_mem_take hf)
    have hnext : (fl.take (i + 1)).foldl flip1 row = flip1 ((fl.take i).foldl flip1 row) fl[i] := by
      rw [List.take_succ_eq_append_getElem hi, List.foldl_append]; rfl
    generalize (fl.take i).foldl flip1 row = cur at hx cb cl hnext
    generalize fl[i] = f at hlt hnext ⊢
    obtain ⟨x, hx256, hq, hd⟩ := byte_of cb (i := f / 8) (by omega)
    have hix : ixAt (cur.map D.int) ((f : Int) / 8) = some (.int (x : Int)) := by
      rw [show (f : Int) / 8 = ((f / 8 : Nat) : Int) by omega]
      exact ixAt_nat (by rw [List.getElem?_map, hq]; rfl)
    simp only [s_pass, s_nil, s_cons, s_expr, s_set, s_par, s_setIx, s_setKey, s_augIx, s_aug, s_ifs, s_ret, s_retN, s_brk, s_cnt, s_never, w_k, w_v, w_un, w_bin, w_and, w_or, w_ite, w_chain, w_tup, wp_newL, w_lst, w_dic0, w_callD, w_sl, w_rev, w_call, w_bf, w_mt, w_nil, w_cons, w_no, w_some, Tg.bind, bindN, o_add, o_addT, o_sub, o_mul, o_fdiv, o_mod, o_pow, o_eq, o_ne, o_lt, o_le, o_gt, o_ge, o_isT, o_isI, o_isR, o_isN, o_eqB, o_neB, o_not, o_neg, o_lenT, o_int, o_isinI, o_isinT, o_isinB, o_isinI2, o_isinT2, t_ii, t_ib, t_is, t_it, t_il, t_tt, t_tl, t_ts, t_ti, t_tb, t_bb, t_bi, Cut.truthy, zb_bl, Bool.or_false, Bool.false_or, Bool.not_true, Bool.not_false, Bool.true_or, Bool.or_true, tb_dec, tb_some, tb_not, tb_true, tb_false, Cut.start, List.map, List.length, List.replicate, List.append_eq, List.cons_append, List.nil_append, List.getElem?_cons_zero, List.getElem?_cons_succ, List.set_cons_zero, List.set_cons_succ, Nat.reduceAdd, Nat.reduceSub, tyOf, if_true, if_false, Bool.false_eq_true, decide_true, decide_false, wp_ok]
    refine ⟨⟨by decide, by decide +kernel⟩, ?_⟩
    rw [o_ixL hx hix]
    refine ⟨by decide, ?_⟩
    rw [bits_ix (j := f % 8) (by omega) (by omega)]
    simp only [s_pass, s_nil, s_cons, s_expr, s_set, s_par, s_setIx, s_setKey, s_augIx, s_aug, s_ifs, s_ret, s_retN, s_brk, s_cnt, s_never, w_k, w_v, w_un, w_bin, w_and, w_or, w_ite, w_chain, w_tup, wp_newL, w_lst, w_dic0, w_callD, w_sl, w_rev, w_call, w_bf, w_mt, w_nil, w_cons, w_no, w_some, Tg.bind, bindN, o_add, o_addT, o_sub, o_mul, o_fdiv, o_mod, o_pow, o_eq, o_ne, o_lt, o_le, o_gt, o_ge, o_isT, o_isI, o_isR, o_isN, o_eqB, o_neB, o_not, o_neg, o_lenT, o_int, o_isinI, o_isinT, o_isinB, o_isinI2, o_isinT2, t_ii, t_ib, t_is, t_it, t_il, t_tt, t_tl, t_ts, t_ti, t_tb, t_bb, t_bi, Cut.truthy, zb_bl, Bool.or_false, Bool.false_or, Bool.not_true, Bool.not_false, Bool.true_or, Bool.or_true, tb_dec, tb_some, tb_not, tb_true, tb_false, Cut.start, List.map, List.length, List.replicate, List.append_eq, List.cons_append, List.nil_append, List.getElem?_cons_zero, List.getElem?_cons_succ, List.set_cons_zero, List.set_cons_succ, Nat.reduceAdd, Nat.reduceSub, tyOf, if_true, if_false, Bool.false_eq_true, decide_true, decide_false, wp_ok, opAug, augOk]
    rw [o_xor]
    rw [setAt_L (k := f / 8) (by omega) hx (by rw [g.lim]; exact hlim) (by rw [List.length_map]; omega)]
    refine ⟨some (.int (f : Int)), rfl, g.putNew (Nat.le_refl _) _, ?_⟩
    rw [lst_put (lt_of_lst hx), hnext]
    unfold flip1
    rw [hd, Int.toNat_natCast, List.map_set]
  · rintro ρ G' ⟨w, rfl, g, hx⟩
    refine ⟨by show some ((ni fl)[fl.length]?) = _; rw [List.getElem?_eq_none (by rw [ni_len]; exact Nat.le_refl _)], ?_⟩
    rw [List.take_length] at hx
    simp only [s_pass, s_nil, s_cons, s_expr, s_set, s_par, s_setIx, s_setKey, s_augIx, s_aug, s_ifs, s_ret, s_retN, s_brk, s_cnt, s_never, w_k, w_v, w_un, w_bin, w_and, w_or, w_ite, w_chain, w_tup, wp_newL, w_lst, w_dic0, w_callD, w_sl, w_rev, w_call, w_bf, w_mt, w_nil, w_cons, w_no, w_some, Tg.bind, bindN, o_add, o_addT, o_sub, o_mul, o_fdiv, o_mod, o_pow, o_eq, o_ne, o_lt, o_le, o_gt, o_ge, o_isT, o_isI, o_isR, o_isN, o_eqB, o_neB, o_not, o_neg, o_lenT, o_int, o_isinI, o_isinT, o_isinB, o_isinI2, o_isinT2, t_ii, t_ib, t_is, t_it, t_il, t_tt, t_tl, t_ts, t_ti, t_tb, t_bb, t_bi, Cut.truthy, zb_bl, Bool.or_false, Bool.false_or, Bool.not_true, Bool.not_false, Bool.true_or, Bool.or_true, tb_dec, tb_some, tb_not, tb_true, tb_false, Cut.start, List.map, List.length, List.replicate, List.append_eq, List.cons_append, List.nil_append, List.getElem?_cons_zero, List.getElem?_cons_succ, List.set_cons_zero, List.set_cons_succ, Nat.reduceAdd, Nat.reduceSub, tyOf, if_true, if_false, Bool.false_eq_true, decide_true, decide_false, wp_ok]
    rw [o_tupL hx, gc_grown g (show below _ (.tup ((fl.foldl flip1 row).map D.int)) = true from belows_int _ _)]
    exact ⟨rfl, rfl⟩
theorem law_flipped {k : Nat} {fl : List Nat} {row : List Int} {G : Store} (hb : ∀ b ∈ row, Byte b) (hl : row.length ≤ 100) (h : Flips fl (8 * row.length)) (hlim : G.lim ≤ G.cs.length) : run T (k + 1) 23 [.tup (row.map .int), .tup (ni fl)] G = .ok (.tup ((fl.foldl flip1 row).map .int)) G := by
  refine eq_of_wp (run_wp (fd := d23.fd) rfl rfl ?_)
  simp only [s_pass, s_nil, s_cons, s_expr, s_set, s_par, s_setIx, s_setKey, s_augIx, s_aug, s_ifs, s_ret, s_retN, s_brk, s_cnt, s_never, w_k, w_v, w_un, w_bin, w_and, w_or, w_ite, w_chain, w_tup, wp_newL, w_lst, w_dic0, w_callD, w_sl, w_rev, w_call, w_bf, w_mt, w_nil, w_cons, w_no, w_some, Tg.bind, bindN, o_add, o_addT, o_sub, o_mul, o_fdiv, o_mod, o_pow, o_eq, o_ne, o_lt, o_le, o_gt, o_ge, o_isT, o_isI, o_isR, o_isN, o_eqB, o_neB, o_not, o_neg, o_lenT, o_int, o_isinI, o_isinT, o_isinB, o_isinI2, o_isinT2, t_ii, t_ib, t_is, t_it, t_il, t_tt, t_tl, t_ts, t_ti, t_tb, t_bb, t_bi, Cut.truthy, zb_bl, Bool.or_false, Bool.false_or, Bool.not_true, Bool.not_false, Bool.true_or, Bool.or_true, tb_dec, tb_some, tb_not, tb_true, tb_false, Cut.start, List.map, List.length, List.replicate, List.append_eq, List.cons_append, List.nil_append, List.getElem?_cons_zero, List.getElem?_cons_succ, List.set_cons_zero, List.set_cons_succ, Nat.reduceAdd, Nat.reduceSub, tyOf, if_true, if_false, Bool.false_eq_true, decide_true, decide_false, wp_ok, Df.fd, d23, s_for, i_one, srcOf]
  rw [o_listT (by rw [List.length_map]; omega)]
  refine s_forGo (fun i ρ G' => ∃ w x y : Option D, ρ = [some (.tup (row.map .int)), some (.tup (ni fl)), some (.ref G.cs.length), w, x, y] ∧ Grown G G' ∧ G'.lst? G.cs.length = some (((fl.take i).foldl flip1 row).map .int)) fl.length (by have := h.1; unfold loopFuel; omega) ⟨none, none, none, rfl, (Grown.refl G).new _, lst_new⟩ ?_ ?_
  · rintro i ρ G' hi ⟨w, x, y, rfl, g, hx⟩
    refine ⟨.int (fl[i] : Int), by show some ((ni fl)[i]?) = _; rw [ni_at hi], _, rfl, ?_⟩
    have hlt := h.2.1 _ (List.getElem_mem hi)
    obtain ⟨cb, cl⟩ := flips_ok (fl.take i) row hb fun f hf => h.2.1 f (List.mem_of_mem_take hf)
    have hnext : (fl.take (i + 1)).foldl flip1 row = flip1 ((fl.take i).foldl flip1 row) fl[i] := by
      rw [List.take_succ_eq_append_getElem hi, List.foldl_append]; rfl
    generalize (fl.take i).foldl flip1 row = cur at hx cb cl hnext
    generalize fl[i] = f at hlt hnext ⊢
    obtain ⟨x, hx256, hq, hd⟩ := byte_of cb (i := f / 8) (by omega)
    have hix : ixAt (cur.map D.int) ((f : Int) / 8) = some (.int (x : Int)) := by
      rw [show (f : Int) / 8 = ((f / 8 : Nat) : Int) by omega]
      exact ixAt_nat (by rw [List.getElem?_map, hq]; rfl)
    have hj : f % 8 < 8 := Nat.mod_lt _ (by decide)
    obtain ⟨b1, b2, b3, b4⟩ := bit_flip x hx256 (7 - f % 8) (by omega)
    have hpos : 0 < 2 ^ (7 - f % 8) := Nat.pow_pos (by decide)
    have hple : 2 ^ (7 - f % 8) ≤ 2 ^ 7 := Nat.pow_le_pow_right (by decide) (by omega)
    simp only [s_pass, s_nil, s_cons, s_expr, s_set, s_par, s_setIx, s_setKey, s_augIx, s_aug, s_ifs, s_ret, s_retN, s_brk, s_cnt, s_never, w_k, w_v, w_un, w_bin, w_and, w_or, w_ite, w_chain, w_tup, wp_newL, w_lst, w_dic0, w_callD, w_sl, w_rev, w_call, w_bf, w_mt, w_nil, w_cons, w_no, w_some, Tg.bind, bindN, o_add, o_addT, o_sub, o_mul, o_fdiv, o_mod, o_pow, o_eq, o_ne, o_lt, o_le, o_gt, o_ge, o_isT, o_isI, o_isR, o_isN, o_eqB, o_neB, o_not, o_neg, o_lenT, o_int, o_isinI, o_isinT, o_isinB, o_isinI2, o_isinT2, t_ii, t_ib, t_is, t_it, t_il, t_tt, t_tl, t_ts, t_ti, t_tb, t_bb, t_bi, Cut.truthy, zb_bl, Bool.or_false, Bool.false_or, Bool.not_true, Bool.not_false, Bool.true_or, Bool.or_true, tb_dec, tb_some, tb_not, tb_true, tb_false, Cut.start, List.map, List.length, List.replicate, List.append_eq, List.cons_append, List.nil_append, List.getElem?_cons_zero, List.getElem?_cons_succ, List.set_cons_zero, List.set_cons_succ, Nat.reduceAdd, Nat.reduceSub, tyOf, if_true, if_false, Bool.false_eq_true, decide_true, decide_false, wp_ok]
    refine ⟨by decide, by decide, ?_⟩
    rw [bits_ixL (j := f % 8) (by omega) hj lst_new]
    have hx1 := lst_new_old (c := .lst [D.int 128, D.int 64, D.int 32, D.int 16, D.int 8, D.int 4, D.int 2, D.int 1]) hx
    have g1 := g.new (.lst [D.int 128, D.int 64, D.int 32, D.int 16, D.int 8, D.int 4, D.int 2, D.int 1])
    generalize G'.new (.lst [D.int 128, D.int 64, D.int 32, D.int 16, D.int 8, D.int 4, D.int 2, D.int 1]) = G1 at hx1 g1 ⊢
    refine ⟨⟨by decide, by decide +kernel⟩, ?_⟩
    rw [o_ixL hx1 hix]
    generalize hp : 2 ^ (7 - f % 8) = p at b1 b2 b3 b4 hpos hple ⊢
    have hlog : (p : Int).natAbs.log2 < 8 := log2_lt (by rw [Int.natAbs_natCast]; omega) (by decide)
    simp only [s_pass, s_nil, s_cons, s_expr, s_set, s_par, s_setIx, s_setKey, s_augIx, s_aug, s_ifs, s_ret, s_retN, s_brk, s_cnt, s_never, w_k, w_v, w_un, w_bin, w_and, w_or, w_ite, w_chain, w_tup, wp_newL, w_lst, w_dic0, w_callD, w_sl, w_rev, w_call, w_bf, w_mt, w_nil, w_cons, w_no, w_some, Tg.bind, bindN, o_add, o_addT, o_sub, o_mul, o_fdiv, o_mod, o_pow, o_eq, o_ne, o_lt, o_le, o_gt, o_ge, o_isT, o_isI, o_isR, o_isN, o_eqB, o_neB, o_not, o_neg, o_lenT, o_int, o_isinI, o_isinT, o_isinB, o_isinI2, o_isinT2, t_ii, t_ib, t_is, t_it, t_il, t_tt, t_tl, t_ts, t_ti, t_tb, t_bb, t_bi, Cut.truthy, zb_bl, Bool.or_false, Bool.false_or, Bool.not_true, Bool.not_false, Bool.true_or, Bool.or_true, tb_dec, tb_some, tb_not, tb_true, tb_false, Cut.start, List.map, List.length, List.replicate, List.append_eq, List.cons_append, List.nil_append, List.getElem?_cons_zero, List.getElem?_cons_succ, List.set_cons_zero, List.set_cons_succ, Nat.reduceAdd, Nat.reduceSub, tyOf, if_true, if_false, Bool.false_eq_true, decide_true, decide_false, wp_ok]
    refine ⟨⟨by omega, by omega⟩, by decide, ?_⟩
    have hfin : ∀ Z : Int, Z = ((x ^^^ p : Nat) : Int) → (match setAt (.ref G.cs.length) (.int ((f : Int) / 8)) (.int Z) G1 with
        | some G4 => (fun ρ' G' => ∃ w x y : Option D, ρ' = [some (.tup (row.map .int)), some (.tup (ni fl)), some (.ref G.cs.length), w, x, y] ∧ Grown G G' ∧ G'.lst? G.cs.length = some (((fl.take (i + 1)).foldl flip1 row).map .int)) [some (.tup (row.map .int)), some (.tup (ni fl)), some (.ref G.cs.length), some (.int (f : Int)), some (.int (p : Int)), some (.int (x : Int))] G4
        | none => False) := fun Z hZ => by
      rw [setAt_L (k := f / 8) (by omega) hx1 (by rw [g1.lim]; exact hlim) (by rw [List.length_map]; omega)]
      refine ⟨_, _, _, rfl, g1.putNew (Nat.le_refl _) _, ?_⟩
      rw [lst_put (lt_of_lst hx1), hnext, hZ]
      unfold flip1
      rw [hd, Int.toNat_natCast, hp, List.map_set]
    by_cases hbit : (x : Int) / (p : Int) % 2 = 1
    · simp only [s_pass, s_nil, s_cons, s_expr, s_set, s_par, s_setIx, s_setKey, s_augIx, s_aug, s_ifs, s_ret, s_retN, s_brk, s_cnt, s_never, w_k, w_v, w_un, w_bin, w_and, w_or, w_ite, w_chain, w_tup, wp_newL, w_lst, w_dic0, w_callD, w_sl, w_rev, w_call, w_bf, w_mt, w_nil, w_cons, w_no, w_some, Tg.bind, bindN, o_add, o_addT, o_sub, o_mul, o_fdiv, o_mod, o_pow, o_eq, o_ne, o_lt, o_le, o_gt, o_ge, o_isT, o_isI, o_isR, o_isN, o_eqB, o_neB, o_not, o_neg, o_lenT, o_int, o_isinI, o_isinT, o_isinB, o_isinI2, o_isinT2, t_ii, t_ib, t_is, t_it, t_il, t_tt, t_tl, t_ts, t_ti, t_tb, t_bb, t_bi, Cut.truthy, zb_bl, Bool.or_false, Bool.false_or, Bool.not_true, Bool.not_false, Bool.true_or, Bool.or_true, tb_dec, tb_some, tb_not, tb_true, tb_false, Cut.start, List.map, List.length, List.replicate, List.append_eq, List.cons_append, List.nil_append, List.getElem?_cons_zero, List.getElem?_cons_succ, List.set_cons_zero, List.set_cons_succ, Nat.reduceAdd, Nat.reduceSub, tyOf, if_true, if_false, Bool.false_eq_true, decide_true, decide_false, wp_ok, hbit]
      refine ⟨⟨by decide, by decide +kernel⟩, ?_⟩
      have hn : x / p % 2 = 1 := by
        have : ((x / p % 2 : Nat) : Int) = 1 := by rw [← hbit]; push_cast; rfl
        omega
      rw [if_pos hn] at b2
      have := b4 hn
      exact hfin _ (by rw [b2]; omega)
    · simp only [s_pass, s_nil, s_cons, s_expr, s_set, s_par, s_setIx, s_setKey, s_augIx, s_aug, s_ifs, s_ret, s_retN, s_brk, s_cnt, s_never, w_k, w_v, w_un, w_bin, w_and, w_or, w_ite, w_chain, w_tup, wp_newL, w_lst, w_dic0, w_callD, w_sl, w_rev, w_call, w_bf, w_mt, w_nil, w_cons, w_no, w_some, Tg.bind, bindN, o_add, o_addT, o_sub, o_mul, o_fdiv, o_mod, o_pow, o_eq, o_ne, o_lt, o_le, o_gt, o_ge, o_isT, o_isI, o_isR, o_isN, o_eqB, o_neB, o_not, o_neg, o_lenT, o_int, o_isinI, o_isinT, o_isinB, o_isinI2, o_isinT2, t_ii, t_ib, t_is, t_it, t_il, t_tt, t_tl, t_ts, t_ti, t_tb, t_bb, t_bi, Cut.truthy, zb_bl, Bool.or_false, Bool.false_or, Bool.not_true, Bool.not_false, Bool.true_or, Bool.or_true, tb_dec, tb_some, tb_not, tb_true, tb_false, Cut.start, List.map, List.length, List.replicate, List.append_eq, List.cons_append, List.nil_append, List.getElem?_cons_zero, List.getElem?_cons_succ, List.set_cons_zero, List.set_cons_succ, Nat.reduceAdd, Nat.reduceSub, tyOf, if_true, if_false, Bool.false_eq_true, decide_true, decide_false, wp_ok, hbit]
      refine ⟨⟨by decide, by decide +kernel⟩, ?_⟩
      have hn : ¬ x / p % 2 = 1 := fun hn => hbit (by
        have : ((x / p % 2 : Nat) : Int) = 1 := by rw [hn]; rfl
        rw [← this]; push_cast; rfl)
      rw [if_neg hn] at b2
      exact hfin _ (by rw [b2]; omega)
  · rintro ρ G' ⟨w, x, y, rfl, g, hx⟩
    refine ⟨by show some ((ni fl)[fl.length]?) = _; rw [List.getElem?_eq_none (by rw [ni_len]; exact Nat.le_refl _)], ?_⟩
    rw [List.take_length] at hx
    simp only [s_pass, s_nil, s_cons, s_expr, s_set, s_par, s_setIx, s_setKey, s_augIx, s_aug, s_ifs, s_ret, s_retN, s_brk, s_cnt, s_never, w_k, w_v, w_un, w_bin, w_and, w_or, w_ite, w_chain, w_tup, wp_newL, w_lst, w_dic0, w_callD, w_sl, w_rev, w_call, w_bf, w_mt, w_nil, w_cons, w_no, w_some, Tg.bind, bindN, o_add, o_addT, o_sub, o_mul, o_fdiv, o_mod, o_pow, o_eq, o_ne, o_lt, o_le, o_gt, o_ge, o_isT, o_isI, o_isR, o_isN, o_eqB, o_neB, o_not, o_neg, o_lenT, o_int, o_isinI, o_isinT, o_isinB, o_isinI2, o_isinT2, t_ii, t_ib, t_is, t_it, t_il, t_tt, t_tl, t_ts, t_ti, t_tb, t_bb, t_bi, Cut.truthy, zb_bl, Bool.or_false, Bool.false_or, Bool.not_true, Bool.not_false, Bool.true_or, Bool.or_true, tb_dec, tb_some, tb_not, tb_true, tb_false, Cut.start, List.map, List.length, List.replicate, List.append_eq, List.cons_append, List.nil_append, List.getElem?_cons_zero, List.getElem?_cons_succ, List.set_cons_zero, List.set_cons_succ, Nat.reduceAdd, Nat.reduceSub, tyOf, if_true, if_false, Bool.false_eq_true, decide_true, decide_false, wp_ok]
    rw [o_tupL hx, gc_grown g (show below _ (.tup ((fl.foldl flip1 row).map D.int)) = true from belows_int _ _)]
    exact ⟨rfl, rfl⟩
end K05
namespace K05
open PySem Cut
theorem hT : T[15]? = some takenFd := rfl
theorem hP : T[16]? = some (pickFd 15) := rfl
theorem hA : T[18]? = some (alikeFd 18) := rfl
theorem law_divided {k : Nat} {bs : List Int} {G : Store} (hb : ∀ b ∈ bs, Byte b) (hz : bs.length ≤ 1000) : run T (k + 1) 19 [.tup (bs.map .int)] G = .ok (.int (crc 0 bs)) G := by
  refine eq_of_wp (run_wp (fd := d19.fd) rfl rfl ?_)
  simp only [s_pass, s_nil, s_cons, s_expr, s_set, s_par, s_setIx, s_setKey, s_augIx, s_aug, s_ifs, s_ret, s_retN, s_brk, s_cnt, s_never, w_k, w_v, w_un, w_bin, w_and, w_or, w_ite, w_chain, w_tup, wp_newL, w_lst, w_dic0, w_callD, w_sl, w_rev, w_call, w_bf, w_mt, w_nil, w_cons, w_no, w_some, Tg.bind, bindN, o_add, o_addT, o_sub, o_mul, o_fdiv, o_mod, o_pow, o_eq, o_ne, o_lt, o_le, o_gt, o_ge, o_isT, o_isI, o_isR, o_isN, o_eqB, o_neB, o_not, o_neg, o_lenT, o_int, o_isinI, o_isinT, o_isinB, o_isinI2, o_isinT2, t_ii, t_ib, t_is, t_it, t_il, t_tt, t_tl, t_ts, t_ti, t_tb, t_bb, t_bi, Cut.truthy, zb_bl, Bool.or_false, Bool.false_or, Bool.not_true, Bool.not_false, Bool.true_or, Bool.or_true, tb_dec, tb_some, tb_not, tb_true, tb_false, Cut.start, List.map, List.length, List.replicate, List.append_eq, List.cons_append, List.nil_append, List.getElem?_cons_zero, List.getElem?_cons_succ, List.set_cons_zero, List.set_cons_succ, Nat.reduceAdd, Nat.reduceSub, tyOf, if_true, if_false, Bool.false_eq_true, decide_true, decide_false, wp_ok, Df.fd, d19, s_for, i_one, i_rng1, srcOf]
  refine s_forGo (fun i ρ G' => ∃ (w x y : Option D), ρ = [some (.tup (bs.map .int)), some (.int (crc 0 (bs.take i))), w, x, y] ∧ Grown G G') bs.length (by unfold loopFuel; omega) ⟨none, none, none, rfl, .refl _⟩ ?_ ?_
  · rintro i ρ G' hi ⟨w, x, y, rfl, g⟩
    refine ⟨.int bs[i], by show some ((bs.map D.int)[i]?) = _; rw [List.getElem?_map, List.getElem?_eq_getElem hi]; rfl, _, rfl, ?_⟩
    have hbi := hb bs[i] (List.getElem_mem hi)
    obtain ⟨n, hn⟩ := Int.eq_ofNat_of_zero_le hbi.1
    have hr := crc_lt (bs.take i) 0 (by decide) fun b h => hb b (List.mem_of_mem_take h)
    have hstep : crc 0 (bs.take (i + 1)) = byteL (crc 0 (bs.take i)) n := by
      rw [List.take_succ_eq_append_getElem hi, crc_app]
      show byteL _ (bs[i]).toNat = _
      rw [hn, Int.toNat_natCast]
    have hn255 : n < 256 := by have := hbi.2; omega
    generalize crc 0 (bs.take i) = r at hr hstep ⊢
    rw [hn]
    simp only [s_pass, s_nil, s_cons, s_expr, s_set, s_par, s_setIx, s_setKey, s_augIx, s_aug, s_ifs, s_ret, s_retN, s_brk, s_cnt, s_never, w_k, w_v, w_un, w_bin, w_and, w_or, w_ite, w_chain, w_tup, wp_newL, w_lst, w_dic0, w_callD, w_sl, w_rev, w_call, w_bf, w_mt, w_nil, w_cons, w_no, w_some, Tg.bind, bindN, o_add, o_addT, o_sub, o_mul, o_fdiv, o_mod, o_pow, o_eq, o_ne, o_lt, o_le, o_gt, o_ge, o_isT, o_isI, o_isR, o_isN, o_eqB, o_neB, o_not, o_neg, o_lenT, o_int, o_isinI, o_isinT, o_isinB, o_isinI2, o_isinT2, t_ii, t_ib, t_is, t_it, t_il, t_tt, t_tl, t_ts, t_ti, t_tb, t_bb, t_bi, Cut.truthy, zb_bl, Bool.or_false, Bool.false_or, Bool.not_true, Bool.not_false, Bool.true_or, Bool.or_true, tb_dec, tb_some, tb_not, tb_true, tb_false, Cut.start, List.map, List.length, List.replicate, List.append_eq, List.cons_append, List.nil_append, List.getElem?_cons_zero, List.getElem?_cons_succ, List.set_cons_zero, List.set_cons_succ, Nat.reduceAdd, Nat.reduceSub, tyOf, if_true, if_false, Bool.false_eq_true, decide_true, decide_false, wp_ok, s_for, i_rng1]
    refine ⟨by decide, by decide, ?_⟩
    refine s_forGo (fun j ρ G'' => ∃ (x y : Option D), ρ = [some (.tup (bs.map .int)), some (.int ((bitsN r n j : Nat) : Int)), some (.int (n : Int)), x, y] ∧ Grown G G'') 8 (by decide) ⟨x, y, rfl, g⟩ ?_ ?_
    · rintro j ρ G'' hj ⟨x, y, rfl, g⟩
      refine ⟨.int (0 + j), rng_at hj, _, rfl, ?_⟩
      have hq := bits_lt (b := n) hr j
      have hbits : bitsN r n (j + 1) = sh (bitsN r n j ^^^ (n / 2 ^ (7 - j) % 2) * 32768) := rfl
      rw [← bit_step hq (by omega)] at hbits
      generalize bitsN r n j = q at hq hbits ⊢
      simp only [s_pass, s_nil, s_cons, s_expr, s_set, s_par, s_setIx, s_setKey, s_augIx, s_aug, s_ifs, s_ret, s_retN, s_brk, s_cnt, s_never, w_k, w_v, w_un, w_bin, w_and, w_or, w_ite, w_chain, w_tup, wp_newL, w_lst, w_dic0, w_callD, w_sl, w_rev, w_call, w_bf, w_mt, w_nil, w_cons, w_no, w_some, Tg.bind, bindN, o_add, o_addT, o_sub, o_mul, o_fdiv, o_mod, o_pow, o_eq, o_ne, o_lt, o_le, o_gt, o_ge, o_isT, o_isI, o_isR, o_isN, o_eqB, o_neB, o_not, o_neg, o_lenT, o_int, o_isinI, o_isinT, o_isinB, o_isinI2, o_isinT2, t_ii, t_ib, t_is, t_it, t_il, t_tt, t_tl, t_ts, t_ti, t_tb, t_bb, t_bi, Cut.truthy, zb_bl, Bool.or_false, Bool.false_or, Bool.not_true, Bool.not_false, Bool.true_or, Bool.or_true, tb_dec, tb_some, tb_not, tb_true, tb_false, Cut.start, List.map, List.length, List.replicate, List.append_eq, List.cons_append, List.nil_append, List.getElem?_cons_zero, List.getElem?_cons_succ, List.set_cons_zero, List.set_cons_succ, Nat.reduceAdd, Nat.reduceSub, tyOf, if_true, if_false, Bool.false_eq_true, decide_true, decide_false, wp_ok]
      have hl1 : (q : Int).natAbs.log2 < 16 := log2_lt (by rw [Int.natAbs_natCast]; exact hq) (by decide)
      have hl2 : (2 : Int).natAbs.log2 = 1 := by decide +kernel
      refine ⟨⟨by decide, by decide +kernel⟩, by omega, by decide, by decide, ?_⟩
      rw [bits_ixL (j := j) (by omega) hj lst_new]
      have g1 := g.new (.lst [D.int 128, D.int 64, D.int 32, D.int 16, D.int 8, D.int 4, D.int 2, D.int 1])
      generalize G''.new (.lst [D.int 128, D.int 64, D.int 32, D.int 16, D.int 8, D.int 4, D.int 2, D.int 1]) = G1 at g1 ⊢
      have hpos : 0 < 2 ^ (7 - j) := Nat.pow_pos (by decide)
      have hple : 2 ^ (7 - j) ≤ 2 ^ 7 := Nat.pow_le_pow_right (by decide) (by omega)
      generalize 2 ^ (7 - j) = p at hpos hple hbits ⊢
      have hlog : (p : Int).natAbs.log2 < 8 := log2_lt (by rw [Int.natAbs_natCast]; omega) (by decide)
      simp only [s_pass, s_nil, s_cons, s_expr, s_set, s_par, s_setIx, s_setKey, s_augIx, s_aug, s_ifs, s_ret, s_retN, s_brk, s_cnt, s_never, w_k, w_v, w_un, w_bin, w_and, w_or, w_ite, w_chain, w_tup, wp_newL, w_lst, w_dic0, w_callD, w_sl, w_rev, w_call, w_bf, w_mt, w_nil, w_cons, w_no, w_some, Tg.bind, bindN, o_add, o_addT, o_sub, o_mul, o_fdiv, o_mod, o_pow, o_eq, o_ne, o_lt, o_le, o_gt, o_ge, o_isT, o_isI, o_isR, o_isN, o_eqB, o_neB, o_not, o_neg, o_lenT, o_int, o_isinI, o_isinT, o_isinB, o_isinI2, o_isinT2, t_ii, t_ib, t_is, t_it, t_il, t_tt, t_tl, t_ts, t_ti, t_tb, t_bb, t_bi, Cut.truthy, zb_bl, Bool.or_false, Bool.false_or, Bool.not_true, Bool.not_false, Bool.true_or, Bool.or_true, tb_dec, tb_some, tb_not, tb_true, tb_false, Cut.start, List.map, List.length, List.replicate, List.append_eq, List.cons_append, List.nil_append, List.getElem?_cons_zero, List.getElem?_cons_succ, List.set_cons_zero, List.set_cons_succ, Nat.reduceAdd, Nat.reduceSub, tyOf, if_true, if_false, Bool.false_eq_true, decide_true, decide_false, wp_ok]
      refine ⟨⟨by omega, by omega⟩, by decide, ?_⟩
      have hdv : (n : Int) / (p : Int) = ((n / p : Nat) : Int) := by push_cast; rfl
      rw [hdv]
      generalize n / p = z at hbits ⊢
      have e2 : (q : Int) * 2 % 65536 = ((q * 2 % 65536 : Nat) : Int) := by omega
      by_cases hc : ((q : Int) / 32768 + (z : Int)) % 2 = 1
      · simp only [s_pass, s_nil, s_cons, s_expr, s_set, s_par, s_setIx, s_setKey, s_augIx, s_aug, s_ifs, s_ret, s_retN, s_brk, s_cnt, s_never, w_k, w_v, w_un, w_bin, w_and, w_or, w_ite, w_chain, w_tup, wp_newL, w_lst, w_dic0, w_callD, w_sl, w_rev, w_call, w_bf, w_mt, w_nil, w_cons, w_no, w_some, Tg.bind, bindN, o_add, o_addT, o_sub, o_mul, o_fdiv, o_mod, o_pow, o_eq, o_ne, o_lt, o_le, o_gt, o_ge, o_isT, o_isI, o_isR, o_isN, o_eqB, o_neB, o_not, o_neg, o_lenT, o_int, o_isinI, o_isinT, o_isinB, o_isinI2, o_isinT2, t_ii, t_ib, t_is, t_it, t_il, t_tt, t_tl, t_ts, t_ti, t_tb, t_bb, t_bi, Cut.truthy, zb_bl, Bool.or_false, Bool.false_or, Bool.not_true, Bool.not_false, Bool.true_or, Bool.or_true, tb_dec, tb_some, tb_not, tb_true, tb_false, Cut.start, List.map, List.length, List.replicate, List.append_eq, List.cons_append, List.nil_append, List.getElem?_cons_zero, List.getElem?_cons_succ, List.set_cons_zero, List.set_cons_succ, Nat.reduceAdd, Nat.reduceSub, tyOf, if_true, if_false, Bool.false_eq_true, decide_true, decide_false, wp_ok, hc]
        rw [if_pos (by omega)] at hbits
        rw [o_xor' (A := (q : Int) * 2 % 65536) (B := 4129) e2 rfl]
        exact ⟨_, _, by rw [hbits], g1⟩
      · simp only [s_pass, s_nil, s_cons, s_expr, s_set, s_par, s_setIx, s_setKey, s_augIx, s_aug, s_ifs, s_ret, s_retN, s_brk, s_cnt, s_never, w_k, w_v, w_un, w_bin, w_and, w_or, w_ite, w_chain, w_tup, wp_newL, w_lst, w_dic0, w_callD, w_sl, w_rev, w_call, w_bf, w_mt, w_nil, w_cons, w_no, w_some, Tg.bind, bindN, o_add, o_addT, o_sub, o_mul, o_fdiv, o_mod, o_pow, o_eq, o_ne, o_lt, o_le, o_gt, o_ge, o_isT, o_isI, o_isR, o_isN, o_eqB, o_neB, o_not, o_neg, o_lenT, o_int, o_isinI, o_isinT, o_isinB, o_isinI2, o_isinT2, t_ii, t_ib, t_is, t_it, t_il, t_tt, t_tl, t_ts, t_ti, t_tb, t_bb, t_bi, Cut.truthy, zb_bl, Bool.or_false, Bool.false_or, Bool.not_true, Bool.not_false, Bool.true_or, Bool.or_true, tb_dec, tb_some, tb_not, tb_true, tb_false, Cut.start, List.map, List.length, List.replicate, List.append_eq, List.cons_append, List.nil_append, List.getElem?_cons_zero, List.getElem?_cons_succ, List.set_cons_zero, List.set_cons_succ, Nat.reduceAdd, Nat.reduceSub, tyOf, if_true, if_false, Bool.false_eq_true, decide_true, decide_false, wp_ok, hc]
        rw [if_neg (by omega)] at hbits
        exact ⟨_, _, by rw [hbits, e2], g1⟩
    · rintro ρ G'' ⟨x, y, rfl, g⟩
      refine ⟨rng_end, some (.int (n : Int)), x, y, ?_, g⟩
      rw [hstep, bits8 hr hn255]
  · rintro ρ G' ⟨w, x, y, rfl, g⟩
    refine ⟨by show some ((bs.map D.int)[bs.length]?) = _; rw [List.getElem?_eq_none (by simp)], ?_⟩
    simp only [s_pass, s_nil, s_cons, s_expr, s_set, s_par, s_setIx, s_setKey, s_augIx, s_aug, s_ifs, s_ret, s_retN, s_brk, s_cnt, s_never, w_k, w_v, w_un, w_bin, w_and, w_or, w_ite, w_chain, w_tup, wp_newL, w_lst, w_dic0, w_callD, w_sl, w_rev, w_call, w_bf, w_mt, w_nil, w_cons, w_no, w_some, Tg.bind, bindN, o_add, o_addT, o_sub, o_mul, o_fdiv, o_mod, o_pow, o_eq, o_ne, o_lt, o_le, o_gt, o_ge, o_isT, o_isI, o_isR, o_isN, o_eqB, o_neB, o_not, o_neg, o_lenT, o_int, o_isinI, o_isinT, o_isinB, o_isinI2, o_isinT2, t_ii, t_ib, t_is, t_it, t_il, t_tt, t_tl, t_ts, t_ti, t_tb, t_bb, t_bi, Cut.truthy, zb_bl, Bool.or_false, Bool.false_or, Bool.not_true, Bool.not_false, Bool.true_or, Bool.or_true, tb_dec, tb_some, tb_not, tb_true, tb_false, Cut.start, List.map, List.length, List.replicate, List.append_eq, List.cons_append, List.nil_append, List.getElem?_cons_zero, List.getElem?_cons_succ, List.set_cons_zero, List.set_cons_succ, Nat.reduceAdd, Nat.reduceSub, tyOf, if_true, if_false, Bool.false_eq_true, decide_true, decide_false, wp_ok]
    rw [gc_grown g rfl, List.take_length]
    exact ⟨rfl, rfl⟩
section
variable {B G : Store} {r : Nat} {s : List Int} {P : D → Store → Prop}
theorem law_row {k : Nat} (h : Rb r s B) (done : ∀ (bs : List Int) G', (∀ b ∈ bs, Byte b) → bs.length ≤ 20 → Mv r s B G' → P (.tup (bs.map .int)) G') : wp (run T (k + 3) 17 [.ref r, .int 20] B) P := by
  refine run_wp (fd := d17.fd) rfl rfl ?_
  simp only [s_pass, s_nil, s_cons, s_expr, s_set, s_par, s_setIx, s_setKey, s_augIx, s_aug, s_ifs, s_ret, s_retN, s_brk, s_cnt, s_never, w_k, w_v, w_un, w_bin, w_and, w_or, w_ite, w_chain, w_tup, wp_newL, w_lst, w_dic0, w_callD, w_sl, w_rev, w_call, w_bf, w_mt, w_nil, w_cons, w_no, w_some, Tg.bind, bindN, o_add, o_addT, o_sub, o_mul, o_fdiv, o_mod, o_pow, o_eq, o_ne, o_lt, o_le, o_gt, o_ge, o_isT, o_isI, o_isR, o_isN, o_eqB, o_neB, o_not, o_neg, o_lenT, o_int, o_isinI, o_isinT, o_isinB, o_isinI2, o_isinT2, t_ii, t_ib, t_is, t_it, t_il, t_tt, t_tl, t_ts, t_ti, t_tb, t_bb, t_bi, Cut.truthy, zb_bl, Bool.or_false, Bool.false_or, Bool.not_true, Bool.not_false, Bool.true_or, Bool.or_true, tb_dec, tb_some, tb_not, tb_true, tb_false, Cut.start, List.map, List.length, List.replicate, List.append_eq, List.cons_append, List.nil_append, List.getElem?_cons_zero, List.getElem?_cons_succ, List.set_cons_zero, List.set_cons_succ, Nat.reduceAdd, Nat.reduceSub, tyOf, if_true, if_false, Bool.false_eq_true, decide_true, decide_false, wp_ok, Df.fd, d17, w_comp, i_rng1]
  refine taken' hT h (by decide) (by decide) fun v G1 a1 a2 m1 => ?_
  have w1 := m1.rw h.start
  refine ⟨by decide, by decide, by omega, by omega, ?_⟩
  have hlt := w1.rb.lt
  have w2 := w1.new (.lst [D.int 0, D.int 255, D.int 128])
  have e2 : (G1.new (.lst [D.int 0, D.int 255, D.int 128])).lst? G1.cs.length = some [D.int 0, D.int 255, D.int 128] := lst_new
  have l2 := len_new (G := G1) (c := .lst [D.int 0, D.int 255, D.int 128])
  have ll1 := w1.rb.ll
  have gl2 : (G1.new (.lst [D.int 0, D.int 255, D.int 128])).lim = G1.lim := rfl
  generalize G1.new (.lst [D.int 0, D.int 255, D.int 128]) = G2 at w2 e2 l2 gl2 ⊢
  refine comp_rng (fun d => ∃ i : Int, d = .int i ∧ Byte i) w2.rb (by omega) ?_ ?_
  · intro i G' hi hw
    simp only [s_pass, s_nil, s_cons, s_expr, s_set, s_par, s_setIx, s_setKey, s_augIx, s_aug, s_ifs, s_ret, s_retN, s_brk, s_cnt, s_never, w_k, w_v, w_un, w_bin, w_and, w_or, w_ite, w_chain, w_tup, wp_newL, w_lst, w_dic0, w_callD, w_sl, w_rev, w_call, w_bf, w_mt, w_nil, w_cons, w_no, w_some, Tg.bind, bindN, o_add, o_addT, o_sub, o_mul, o_fdiv, o_mod, o_pow, o_eq, o_ne, o_lt, o_le, o_gt, o_ge, o_isT, o_isI, o_isR, o_isN, o_eqB, o_neB, o_not, o_neg, o_lenT, o_int, o_isinI, o_isinT, o_isinB, o_isinI2, o_isinT2, t_ii, t_ib, t_is, t_it, t_il, t_tt, t_tl, t_ts, t_ti, t_tb, t_bb, t_bi, Cut.truthy, zb_bl, Bool.or_false, Bool.false_or, Bool.not_true, Bool.not_false, Bool.true_or, Bool.or_true, tb_dec, tb_some, tb_not, tb_true, tb_false, Cut.start, List.map, List.length, List.replicate, List.append_eq, List.cons_append, List.nil_append, List.getElem?_cons_zero, List.getElem?_cons_succ, List.set_cons_zero, List.set_cons_succ, Nat.reduceAdd, Nat.reduceSub, tyOf, if_true, if_false, Bool.false_eq_true, decide_true, decide_false, wp_ok, wipeE]
    refine taken' hT hw.rb (by decide) (by decide) fun v G3 b1 b2 m => ?_
    refine ⟨by decide, ?_⟩
    have hl' := hw.len
    have e3 := m.lst (n := G1.cs.length) (by omega) (hw.lst (by omega) e2)
    have ml := m.len
    have glw := hw.glim
    have mw := m.rb.ll
    have glm : G3.lim = G'.lim := by obtain ⟨_, _, _, _, _, rfl⟩ := m; rfl
    rw [o_addL (lst_new_old e3) lst_new (by show G3.lim ≤ _; omega) (by show G3.lim ≤ _; omega)]
    refine ⟨by show 3 + 1 ≤ sizeLine; decide, ?_⟩
    refine pick' hT hP ((m.rb.new _).new _) lst_new (by show r ≠ (G3.cs ++ [_]).length; rw [List.length_append]; show r ≠ G3.cs.length + 1; omega) (by simp) (by simp) (by rfl) fun x hx G4 m4 => ?_
    refine ⟨?_, m4.rw (((m.rw hw.rb.start).new _).new _)⟩
    rcases List.mem_append.mp hx with hx | hx
    · simp only [List.mem_cons, List.not_mem_nil, or_false] at hx
      rcases hx with rfl | rfl | rfl <;> exact ⟨_, rfl, by decide, by decide⟩
    · have e : x = .int v := by simpa using hx
      exact ⟨v, e, b1, by omega⟩
  · intro zs G3 hz1 hz2 w3 e3
    obtain ⟨C, rfl, hC⟩ := all_ints zs hz2
    rw [List.length_map] at hz1
    rw [o_tupL e3]
    exact (w2.trans w3).out h (show below _ (.tup (C.map D.int)) = true from belows_int _ _) fun G' m => done C G' hC (by omega) m
/-! dicts in the store -/
theorem dic_new {c : List (L2.Key × D)} : (G.new (.dic c)).dic? G.cs.length = some c := by
  unfold Store.dic? Store.new
  rw [List.getElem?_append_right (Nat.le_refl _), Nat.sub_self]; rfl
theorem dic_put {n : Nat} {c : List (L2.Key × D)} (h : n < G.cs.length) : (G.put n (.dic c)).dic? n = some c := by
  unfold Store.dic? Store.put
  rw [List.getElem?_set_self h]
theorem dic_put_ne {n m : Nat} {c : Cell} (h : n ≠ m) : (G.put n c).dic? m = G.dic? m := by
  unfold Store.dic? Store.put
  rw [List.getElem?_set_ne h]
theorem lt_of_dic {n : Nat} {c : List (L2.Key × D)} (h : G.dic? n = some c) : n < G.cs.length := by
  unfold Store.dic? at h
  split at h
  · rename_i e; exact (List.getElem?_eq_some_iff.mp e).1
  · cases h
theorem mv_dic {G' : Store} {n : Nat} {c : List (L2.Key × D)} (m : Mv r s G G') (hn : r ≠ n) (h : G.dic? n = some c) : G'.dic? n = some c := by
  obtain ⟨_, a, b, c', _, rfl⟩ := m
  rw [dic_put_ne hn]; exact h
theorem lst_of_dic {n : Nat} {c : List (L2.Key × D)} (h : G.dic? n = some c) : G.lst? n = none := by
  unfold Store.dic? at h
  split at h
  · rename_i e
    unfold Store.lst?
    rw [e]
  · cases h
def keysD (ks : List Nat) : List (L2.Key × D) := ks.map fun k : Nat => ((.inl (k : Int) : L2.Key), D.bl true)
theorem putD_keys (ks : List Nat) (k : Nat) : putD (keysD ks) (.inl (k : Int)) (.bl true) = keysD (if k ∈ ks then ks else ks ++ [k]) := by
  have ha : ((keysD ks).any fun kv => decide (kv.1 = (.inl (k : Int) : L2.Key))) = decide (k ∈ ks) := by
    rw [Bool.eq_iff_iff, List.any_eq_true, decide_eq_true_iff]
    constructor
    · rintro ⟨p, hp, e⟩
      obtain ⟨z, hz, rfl⟩ := List.mem_map.mp hp
      have e := of_decide_eq_true e
      have : (z : Int) = (k : Int) := Sum.inl.inj e
      have : z = k := by omega
      exact this ▸ hz
    · intro h
      exact ⟨_, List.mem_map.mpr ⟨k, h, rfl⟩, decide_eq_true rfl⟩
  unfold putD
  rw [ha]
  by_cases h : k ∈ ks
  · rw [if_pos (decide_eq_true h), if_pos h]
    unfold keysD
    rw [List.map_map]
    apply List.map_congr_left
    intro z _
    show (if (Sum.inl (z : Int) : L2.Key) = .inl (k : Int) then ((Sum.inl (z : Int) : L2.Key), D.bl true) else (.inl (z : Int), .bl true)) = _
    split <;> rfl
  · rw [if_neg (by simpa using h), if_neg h]
    unfold keysD
    rw [List.map_append]; rfl
theorem sorted_flips {ks : List Nat} (hn : ks.Nodup) : ∃ fl : List Nat, sortI (ks.map fun k : Nat => (k : Int)) = fl.map (fun k : Nat => (k : Int)) ∧ fl.Pairwise (· < ·) ∧ (∀ f ∈ fl, f ∈ ks) ∧ fl.length = ks.length := by
  have hp := List.mergeSort_perm (ks.map fun k : Nat => (k : Int)) (fun a b => decide (a ≤ b))
  have hs : (sortI (ks.map fun k : Nat => (k : Int))).Pairwise (fun a b => decide (a ≤ b) = true) := List.pairwise_mergeSort (fun a b c h1 h2 => by simp at *; omega) (fun a b => by simp; omega) _
  have hall : ∀ z ∈ sortI (ks.map fun k : Nat => (k : Int)), ∃ k : Nat, k ∈ ks ∧ z = (k : Int) := fun z hz => by
    obtain ⟨k, hk, e⟩ := List.mem_map.mp (hp.mem_iff.mp hz)
    exact ⟨k, hk, e.symm⟩
  have hnd : (sortI (ks.map fun k : Nat => (k : Int))).Nodup := hp.nodup_iff.mpr (by
    rw [List.nodup_iff_pairwise_ne, List.pairwise_map]
    exact (List.nodup_iff_pairwise_ne.mp hn).imp fun h e => h (by omega))
  have hlen := hp.length_eq
  refine ⟨(sortI (ks.map fun k : Nat => (k : Int))).map Int.toNat, ?_, ?_, ?_, ?_⟩
  · rw [List.map_map]
    conv => lhs; rw [← List.map_id (sortI _)]
    apply List.map_congr_left
    intro z hz
    obtain ⟨k, _, rfl⟩ := hall z hz
    show (k : Int) = (((k : Int).toNat : Nat) : Int)
    rw [Int.toNat_natCast]
  · rw [List.pairwise_map]
    have h2 := hs.and (List.nodup_iff_pairwise_ne.mp hnd)
    refine h2.imp_of_mem fun {a b} ha hb h => ?_
    obtain ⟨x, _, rfl⟩ := hall a ha
    obtain ⟨y, _, rfl⟩ := hall b hb
    have h1 := of_decide_eq_true h.1
    have h3 := h.2
    rw [Int.toNat_natCast, Int.toNat_natCast]
    omega
  · intro f hf
    obtain ⟨z, hz, rfl⟩ := List.mem_map.mp hf
    obtain ⟨k, hk, rfl⟩ := hall z hz
    rw [Int.toNat_natCast]; exact hk
  · rw [List.length_map]
    show (sortI _).length = _
    unfold sortI
    rw [hlen, List.length_map]
theorem o_sortedL {n : Nat} {ns : List Int} (hx : G.lst? n = some (ns.map .int)) (h : ns.length ≤ 1000) : wp (bf .sorted [.ref n] G) P = P (.ref G.cs.length) (G.new (.lst ((sortI ns).map .int))) := by
  show wp (match (G.lst? n).bind intsD with | some ns => newL ((sortI ns).map .int) G | none => .stuck) P = _
  rw [hx]
  show wp (match intsD (ns.map D.int) with | some ns => newL ((sortI ns).map .int) G | none => .stuck) P = _
  rw [intsD_map]
  show wp (newL ((sortI ns).map .int) G) P = _
  rw [wp_newL]
  have : ((sortI ns).map D.int).length ≤ sizeLine := by
    rw [List.length_map]
    unfold sortI
    rw [List.length_mergeSort]; exact sm h
  exact propext ⟨fun h => h.2, fun h' => ⟨this, h'⟩⟩
theorem o_listD {n : Nat} {kvs : List (L2.Key × D)} (hx : G.dic? n = some kvs) (h : kvs.length ≤ 1000) : wp (bf .list [.ref n] G) P = P (.ref G.cs.length) (G.new (.lst (kvs.map fun kv => keyV kv.1))) := by
  show wp (match G.lst? n with
    | some xs => newL xs G
    | none => (match G.dic? n with
      | some kvs => newL (kvs.map fun kv => keyV kv.1) G
      | none => .stuck)) P = _
  rw [lst_of_dic hx, hx]
  show wp (newL (kvs.map fun kv => keyV kv.1) G) P = _
  rw [wp_newL]
  exact propext ⟨fun h => h.2, fun h' => ⟨sm (by rw [List.length_map]; exact h), h'⟩⟩
theorem law_flips {k N : Nat} {NN : Int} (hN : NN = N) (hN1 : 1 ≤ N) (hN2 : N ≤ 10000) (h : Rb r s B) (done : ∀ (fl : List Nat) G', Flips fl N → fl.length ≤ 6 → Mv r s B G' → P (.tup (ni fl)) G') : wp (run T (k + 2) 22 [.ref r, .int NN] B) P := by
  refine run_wp (fd := d22.fd) rfl rfl ?_
  simp only [s_pass, s_nil, s_cons, s_expr, s_set, s_par, s_setIx, s_setKey, s_augIx, s_aug, s_ifs, s_ret, s_retN, s_brk, s_cnt, s_never, w_k, w_v, w_un, w_bin, w_and, w_or, w_ite, w_chain, w_tup, wp_newL, w_lst, w_dic0, w_callD, w_sl, w_rev, w_call, w_bf, w_mt, w_nil, w_cons, w_no, w_some, Tg.bind, bindN, o_add, o_addT, o_sub, o_mul, o_fdiv, o_mod, o_pow, o_eq, o_ne, o_lt, o_le, o_gt, o_ge, o_isT, o_isI, o_isR, o_isN, o_eqB, o_neB, o_not, o_neg, o_lenT, o_int, o_isinI, o_isinT, o_isinB, o_isinI2, o_isinT2, t_ii, t_ib, t_is, t_it, t_il, t_tt, t_tl, t_ts, t_ti, t_tb, t_bb, t_bi, Cut.truthy, zb_bl, Bool.or_false, Bool.false_or, Bool.not_true, Bool.not_false, Bool.true_or, Bool.or_true, tb_dec, tb_some, tb_not, tb_true, tb_false, Cut.start, List.map, List.length, List.replicate, List.append_eq, List.cons_append, List.nil_append, List.getElem?_cons_zero, List.getElem?_cons_succ, List.set_cons_zero, List.set_cons_succ, Nat.reduceAdd, Nat.reduceSub, tyOf, if_true, if_false, Bool.false_eq_true, decide_true, decide_false, wp_ok, Df.fd, d22, s_for, i_rng1]
  refine taken' hT h (by decide) (by decide) fun v0 G1 a1 a2 m1 => ?_
  have w1 := m1.rw h.start
  have hlt := h.lt
  have l1 := w1.len
  have w2 := w1.new (.dic [])
  have e2 : (G1.new (.dic [])).dic? G1.cs.length = some (keysD []) := dic_new
  generalize G1.new (.dic []) = G2 at w2 e2 ⊢
  refine taken' hT w2.rb (by omega) (by omega) fun v1 G3 b1 b2 m3 => ?_
  have e3 := mv_dic m3 (by omega) e2
  refine taken' hT m3.rb (by decide) (by decide) fun v2 G4 c1 c2 m4 => ?_
  have e4 := mv_dic m4 (by omega) e3
  have w4 := m4.rw (m3.rw w2)
  refine ⟨by omega, by omega, ?_⟩
  refine s_forGo (fun i ρ G' => ∃ (ks : List Nat) (x y : Option D), ρ = [some (.ref r), some (.int NN), some (.int v0), some (.ref G1.cs.length), some (.int v1), x, y] ∧ Rw B r s G' ∧ G'.dic? G1.cs.length = some (keysD ks) ∧ ks.Nodup ∧ (∀ f ∈ ks, f < N) ∧ ks.length ≤ i) v2.toNat (by unfold loopFuel; omega) ⟨[], none, none, rfl, w4, e4, .nil, (fun _ h => nomatch h), Nat.le_refl _⟩ ?_ ?_
  · clear e4 w4 e3 e2 w2
    rintro i ρ G' hi ⟨ks, x, y, rfl, w, e, hnd, hlt', hlen⟩
    refine ⟨.int (0 + i), rng_at hi, _, rfl, ?_⟩
    have fin : ∀ (z : Nat) (G5 : Store), z < N → Mv r s G' G5 → (match setKeyAt (.ref G1.cs.length) (.int (z : Int)) (.bl true) G5 with
        | some G6 => (fun ρ' G'' => ∃ (ks : List Nat) (x y : Option D), ρ' = [some (.ref r), some (.int NN), some (.int v0), some (.ref G1.cs.length), some (.int v1), x, y] ∧ Rw B r s G'' ∧ G''.dic? G1.cs.length = some (keysD ks) ∧ ks.Nodup ∧ (∀ f ∈ ks, f < N) ∧ ks.length ≤ i + 1) [some (.ref r), some (.int NN), some (.int v0), some (.ref G1.cs.length), some (.int v1), some (.int (0 + i)), some (.int (z : Int))] G6
        | none => False) := fun z G5 hz m => by
      have e5 := mv_dic m (by omega) e
      have w5 := m.rw w
      have gl : G5.lim ≤ G1.cs.length := by rw [w5.glim]; have := h.ll; omega
      have hs : setKeyAt (.ref G1.cs.length) (.int (z : Int)) (.bl true) G5 = some (G5.put G1.cs.length (.dic (keysD (if z ∈ ks then ks else ks ++ [z])))) := by
        simp only [setKeyAt, e5, keyD]
        rw [if_pos ⟨gl, Nat.lt_of_lt_of_le (show (keysD ks).length < 1001 by unfold keysD; rw [List.length_map]; omega) (by decide)⟩, putD_keys]
      rw [hs]
      refine ⟨if z ∈ ks then ks else ks ++ [z], _, _, rfl, w5.own (by omega) _, dic_put (lt_of_dic e5), ?_, ?_, ?_⟩
      · split
        · exact hnd
        · rename_i hm
          rw [List.nodup_append]
          refine ⟨hnd, by simp, fun a ha b hb => ?_⟩
          have : b = z := by simpa using hb
          rw [this]
          rintro rfl
          exact hm ha
      · intro f hf
        split at hf
        · exact hlt' f hf
        · rcases List.mem_append.mp hf with hf | hf
          · exact hlt' f hf
          · have : f = z := by simpa using hf
            rw [this]; exact hz
      · split
        · omega
        · rw [List.length_append, List.length_singleton]; omega
    by_cases hv : 0 < v0
    · simp only [s_pass, s_nil, s_cons, s_expr, s_set, s_par, s_setIx, s_setKey, s_augIx, s_aug, s_ifs, s_ret, s_retN, s_brk, s_cnt, s_never, w_k, w_v, w_un, w_bin, w_and, w_or, w_ite, w_chain, w_tup, wp_newL, w_lst, w_dic0, w_callD, w_sl, w_rev, w_call, w_bf, w_mt, w_nil, w_cons, w_no, w_some, Tg.bind, bindN, o_add, o_addT, o_sub, o_mul, o_fdiv, o_mod, o_pow, o_eq, o_ne, o_lt, o_le, o_gt, o_ge, o_isT, o_isI, o_isR, o_isN, o_eqB, o_neB, o_not, o_neg, o_lenT, o_int, o_isinI, o_isinT, o_isinB, o_isinI2, o_isinT2, t_ii, t_ib, t_is, t_it, t_il, t_tt, t_tl, t_ts, t_ti, t_tb, t_bb, t_bi, Cut.truthy, zb_bl, Bool.or_false, Bool.false_or, Bool.not_true, Bool.not_false, Bool.true_or, Bool.or_true, tb_dec, tb_some, tb_not, tb_true, tb_false, Cut.start, List.map, List.length, List.replicate, List.append_eq, List.cons_append, List.nil_append, List.getElem?_cons_zero, List.getElem?_cons_succ, List.set_cons_zero, List.set_cons_succ, Nat.reduceAdd, Nat.reduceSub, tyOf, if_true, if_false, Bool.false_eq_true, decide_true, decide_false, wp_ok, hv]
      refine taken' hT w.rb (by omega) (by omega) fun v5 G5 d1 d2 m5 => ?_
      obtain ⟨z, rfl⟩ := Int.eq_ofNat_of_zero_le d1
      exact fin z G5 (by omega) m5
    · simp only [s_pass, s_nil, s_cons, s_expr, s_set, s_par, s_setIx, s_setKey, s_augIx, s_aug, s_ifs, s_ret, s_retN, s_brk, s_cnt, s_never, w_k, w_v, w_un, w_bin, w_and, w_or, w_ite, w_chain, w_tup, wp_newL, w_lst, w_dic0, w_callD, w_sl, w_rev, w_call, w_bf, w_mt, w_nil, w_cons, w_no, w_some, Tg.bind, bindN, o_add, o_addT, o_sub, o_mul, o_fdiv, o_mod, o_pow, o_eq, o_ne, o_lt, o_le, o_gt, o_ge, o_isT, o_isI, o_isR, o_isN, o_eqB, o_neB, o_not, o_neg, o_lenT, o_int, o_isinI, o_isinT, o_isinB, o_isinI2, o_isinT2, t_ii, t_ib, t_is, t_it, t_il, t_tt, t_tl, t_ts, t_ti, t_tb, t_bb, t_bi, Cut.truthy, zb_bl, Bool.or_false, Bool.false_or, Bool.not_true, Bool.not_false, Bool.true_or, Bool.or_true, tb_dec, tb_some, tb_not, tb_true, tb_false, Cut.start, List.map, List.length, List.replicate, List.append_eq, List.cons_append, List.nil_append, List.getElem?_cons_zero, List.getElem?_cons_succ, List.set_cons_zero, List.set_cons_succ, Nat.reduceAdd, Nat.reduceSub, tyOf, if_true, if_false, Bool.false_eq_true, decide_true, decide_false, wp_ok, hv]
      refine taken' hT w.rb (by decide) (by decide) fun v5 G5 d1 d2 m5 => ?_
      simp only [s_pass, s_nil, s_cons, s_expr, s_set, s_par, s_setIx, s_setKey, s_augIx, s_aug, s_ifs, s_ret, s_retN, s_brk, s_cnt, s_never, w_k, w_v, w_un, w_bin, w_and, w_or, w_ite, w_chain, w_tup, wp_newL, w_lst, w_dic0, w_callD, w_sl, w_rev, w_call, w_bf, w_mt, w_nil, w_cons, w_no, w_some, Tg.bind, bindN, o_add, o_addT, o_sub, o_mul, o_fdiv, o_mod, o_pow, o_eq, o_ne, o_lt, o_le, o_gt, o_ge, o_isT, o_isI, o_isR, o_isN, o_eqB, o_neB, o_not, o_neg, o_lenT, o_int, o_isinI, o_isinT, o_isinB, o_isinI2, o_isinT2, t_ii, t_ib, t_is, t_it, t_il, t_tt, t_tl, t_ts, t_ti, t_tb, t_bb, t_bi, Cut.truthy, zb_bl, Bool.or_false, Bool.false_or, Bool.not_true, Bool.not_false, Bool.true_or, Bool.or_true, tb_dec, tb_some, tb_not, tb_true, tb_false, Cut.start, List.map, List.length, List.replicate, List.append_eq, List.cons_append, List.nil_append, List.getElem?_cons_zero, List.getElem?_cons_succ, List.set_cons_zero, List.set_cons_succ, Nat.reduceAdd, Nat.reduceSub, tyOf, if_true, if_false, Bool.false_eq_true, decide_true, decide_false, wp_ok]
      rw [o_min]
      obtain ⟨z, hz⟩ := Int.eq_ofNat_of_zero_le (show 0 ≤ min (NN - 1) (v1 + v5) by omega)
      rw [hz]
      exact fin z G5 (by omega) m5
  · rintro ρ G' ⟨ks, x, y, rfl, w, e, hnd, hlt', hlen⟩
    refine ⟨rng_end, ?_⟩
    simp only [s_pass, s_nil, s_cons, s_expr, s_set, s_par, s_setIx, s_setKey, s_augIx, s_aug, s_ifs, s_ret, s_retN, s_brk, s_cnt, s_never, w_k, w_v, w_un, w_bin, w_and, w_or, w_ite, w_chain, w_tup, wp_newL, w_lst, w_dic0, w_callD, w_sl, w_rev, w_call, w_bf, w_mt, w_nil, w_cons, w_no, w_some, Tg.bind, bindN, o_add, o_addT, o_sub, o_mul, o_fdiv, o_mod, o_pow, o_eq, o_ne, o_lt, o_le, o_gt, o_ge, o_isT, o_isI, o_isR, o_isN, o_eqB, o_neB, o_not, o_neg, o_lenT, o_int, o_isinI, o_isinT, o_isinB, o_isinI2, o_isinT2, t_ii, t_ib, t_is, t_it, t_il, t_tt, t_tl, t_ts, t_ti, t_tb, t_bb, t_bi, Cut.truthy, zb_bl, Bool.or_false, Bool.false_or, Bool.not_true, Bool.not_false, Bool.true_or, Bool.or_true, tb_dec, tb_some, tb_not, tb_true, tb_false, Cut.start, List.map, List.length, List.replicate, List.append_eq, List.cons_append, List.nil_append, List.getElem?_cons_zero, List.getElem?_cons_succ, List.set_cons_zero, List.set_cons_succ, Nat.reduceAdd, Nat.reduceSub, tyOf, if_true, if_false, Bool.false_eq_true, decide_true, decide_false, wp_ok]
    rw [o_listD e (by unfold keysD; rw [List.length_map]; omega)]
    have hk : (keysD ks).map (fun kv => keyV kv.1) = (ks.map fun k : Nat => (k : Int)).map D.int := by
      unfold keysD
      rw [List.map_map, List.map_map]; rfl
    rw [hk, o_sortedL lst_new (by rw [List.length_map]; omega)]
    obtain ⟨fl, hf1, hf2, hf3, hf4⟩ := sorted_flips hnd
    rw [hf1, o_tupL lst_new, show (fl.map fun k : Nat => (k : Int)).map D.int = ni fl from by unfold ni; rw [List.map_map]; rfl]
    have hbel : ∀ m, below m (.tup (ni fl)) = true := fun m => by
      show belows m (ni fl) = true
      unfold ni
      rw [show (fl.map fun f : Nat => D.int (f : Int)) = (fl.map fun k : Nat => (k : Int)).map D.int by rw [List.map_map]; rfl]
      exact belows_int _ _
    refine ((w.new _).new _).out h (hbel _) fun G'' m => done fl G'' ⟨by omega, fun f hf => hlt' f (hf3 f hf), hf2⟩ (by omega) m
end
end K05
namespace K05
open PySem Cut
theorem comp_items {C : CallF} {ρ : Cut.Env} {e : Ex} {j : Nat} {v : Itv} {ds : List D} {f : D → D} {G : Store} {P : Store → Prop} (hl : G.lim ≤ G.cs.length) (hz : ds.length < 2 ^ 20) (hv : ∀ i G', Grown G G' → v.at i G' = some ds[i]?)
    (turn : ∀ d ∈ ds, ∀ G', Grown G G' → wp (ev C e (ρ.set j (some d)) G') fun x G2 => x = f d ∧ G2 = G')
    (done : ∀ G2, Grown G G2 → G2.lst? G.cs.length = some (ds.map f) → P G2) : wp (compGo (.v j) v none (ev C e) ρ G.cs.length loopFuel 0 (G.new (.lst []))) fun _ G' => P G' := by
  refine compGo_inv (k := ds.length) (fun i G' => Grown G G' ∧ G'.lst? G.cs.length = some ((ds.take i).map f)) (Q := P) (by unfold loopFuel; omega) ⟨(Grown.refl G).new _, lst_new⟩ ?_ ?_
  · rintro G' ⟨g, hx⟩
    rw [List.take_length] at hx
    exact ⟨by rw [hv _ _ g, List.getElem?_eq_none (Nat.le_refl _)], done G' g hx⟩
  · rintro i G' hi ⟨g, hx⟩
    refine ⟨ds[i], _, by rw [hv _ _ g, List.getElem?_eq_getElem hi], rfl, ?_⟩
    show wp (ev C e (ρ.set j (some ds[i])) G') _
    refine (turn ds[i] (List.getElem_mem hi) G' g).imp fun x G2 h => ?_
    obtain ⟨rfl, rfl⟩ := h
    refine ⟨_, hx, by rw [g.lim]; exact hl, Nat.lt_of_lt_of_le (show ((ds.take i).map f).length < 2 ^ 20 by rw [List.length_map, List.length_take]; omega) (by decide), g.putNew (Nat.le_refl _) _, ?_⟩
    rw [lst_put (lt_of_lst hx), List.take_succ_eq_append_getElem hi, List.map_append]; rfl
theorem rb_grown {B G : Store} {r : Nat} {s : List Int} (h : Rb r s B) (g : Grown B G) : Rb r s G := by
  obtain ⟨h1, h2, h3, a, b, c, ok, h4⟩ := h
  exact ⟨h1, by rw [g.lim]; exact h2, g.lst h3, a, b, c, ok, g.lst h4⟩
theorem o_isinL2 {G : Store} {P : D → Store → Prop} {n : Nat} {xs : List D} {b c : Ty} (hx : G.lst? n = some xs) : wp (bf .isin [.ref n, .tup [.ty b, .ty c]] G) P = P (.bl (isTy .list b || (isTy .list c || false))) G := by
  show wp (match (G.lst? n).map fun _ => Ty.list with | some a => okO (isTys a [.ty b, .ty c]) G | none => .stuck) P = _
  rw [hx]; rfl
theorem o_isinL {G : Store} {P : D → Store → Prop} {n : Nat} {xs : List D} {b : Ty} (hx : G.lst? n = some xs) : wp (bf .isin [.ref n, .ty b] G) P = P (.bl (isTy .list b)) G := by
  show wp (okO (((G.lst? n).map fun _ => Ty.list).map fun a => isTy a b) G) P = _
  rw [hx]; rfl
theorem t_ll : isTy .list .list = true := rfl
theorem t_lt : isTy .list .tuple = false := rfl
/-- two lists of the same things -/
theorem alike_lst {k n a b : Nat} {xs : List D} {G : Store} (h : ∀ x ∈ xs, Al n x) (hz : xs.length < 2 ^ 20) (h1 : G.lst? a = some xs) (h2 : G.lst? b = some xs) (hk : n + 1 ≤ k) (hlim : G.lim ≤ G.cs.length) : run T (k + 1) 18 [.ref a, .ref b] G = .ok (.bl true) G := by
  obtain ⟨k, rfl⟩ : ∃ j, k = j + 1 := ⟨k - 1, by omega⟩
  refine eq_of_wp (run_wp (fd := alikeFd 18) hA rfl ?_)
  simp only [s_pass, s_nil, s_cons, s_expr, s_set, s_par, s_setIx, s_setKey, s_augIx, s_aug, s_ifs, s_ret, s_retN, s_brk, s_cnt, s_never, w_k, w_v, w_un, w_bin, w_and, w_or, w_ite, w_chain, w_tup, wp_newL, w_lst, w_dic0, w_callD, w_sl, w_rev, w_call, w_bf, w_mt, w_nil, w_cons, w_no, w_some, Tg.bind, bindN, o_add, o_addT, o_sub, o_mul, o_fdiv, o_mod, o_pow, o_eq, o_ne, o_lt, o_le, o_gt, o_ge, o_isT, o_isI, o_isR, o_isN, o_eqB, o_neB, o_not, o_neg, o_lenT, o_int, o_isinI, o_isinT, o_isinB, o_isinI2, o_isinT2, t_ii, t_ib, t_is, t_it, t_il, t_tt, t_tl, t_ts, t_ti, t_tb, t_bb, t_bi, Cut.truthy, zb_bl, Bool.or_false, Bool.false_or, Bool.not_true, Bool.not_false, Bool.true_or, Bool.or_true, tb_dec, tb_some, tb_not, tb_true, tb_false, Cut.start, List.map, List.length, List.replicate, List.append_eq, List.cons_append, List.nil_append, List.getElem?_cons_zero, List.getElem?_cons_succ, List.set_cons_zero, List.set_cons_succ, Nat.reduceAdd, Nat.reduceSub, tyOf, if_true, if_false, Bool.false_eq_true, decide_true, decide_false, wp_ok, alikeFd, w_comp, i_rng1, o_isinL2 h1, o_isinL2 h2, o_isinL h1, o_isinL h2, t_ll, t_lt, o_lenL h1, o_lenL h2]
  refine ⟨by decide, by decide, by omega, by omega, ?_⟩
  rw [Int.toNat_natCast]
  refine (compGo_inv (k := xs.length) (fun i G' => Grown G G' ∧ G'.lst? G.cs.length = some []) (Q := fun G' => Grown G G' ∧ G'.lst? G.cs.length = some []) (by unfold loopFuel; omega) ⟨(Grown.refl G).new _, lst_new⟩ (fun G' hI => ⟨rng_end, hI⟩) fun i G' hi hI => ?_).imp fun _ G' hI => ?_
  · refine ⟨.int (0 + i), _, rng_at hi, rfl, ?_⟩
    have hix : ixAt xs (0 + (i : Int)) = some xs[i] := by rw [Int.zero_add]; exact ixAt_nat (List.getElem?_eq_getElem hi)
    show wp ((ev (Cut.run T (k + 1)) (Ex.un Op1.not (Ex.call 18 (Exs.cons (Ex.bin Op2.ix (Ex.v 0) (Ex.v 2)) (Exs.cons (Ex.bin Op2.ix (Ex.v 1) (Ex.v 2)) Exs.nil)))) _ G').bind _) _
    rw [wp_bind]
    simp only [s_pass, s_nil, s_cons, s_expr, s_set, s_par, s_setIx, s_setKey, s_augIx, s_aug, s_ifs, s_ret, s_retN, s_brk, s_cnt, s_never, w_k, w_v, w_un, w_bin, w_and, w_or, w_ite, w_chain, w_tup, wp_newL, w_lst, w_dic0, w_callD, w_sl, w_rev, w_call, w_bf, w_mt, w_nil, w_cons, w_no, w_some, Tg.bind, bindN, o_add, o_addT, o_sub, o_mul, o_fdiv, o_mod, o_pow, o_eq, o_ne, o_lt, o_le, o_gt, o_ge, o_isT, o_isI, o_isR, o_isN, o_eqB, o_neB, o_not, o_neg, o_lenT, o_int, o_isinI, o_isinT, o_isinB, o_isinI2, o_isinT2, t_ii, t_ib, t_is, t_it, t_il, t_tt, t_tl, t_ts, t_ti, t_tb, t_bb, t_bi, Cut.truthy, zb_bl, Bool.or_false, Bool.false_or, Bool.not_true, Bool.not_false, Bool.true_or, Bool.or_true, tb_dec, tb_some, tb_not, tb_true, tb_false, Cut.start, List.map, List.length, List.replicate, List.append_eq, List.cons_append, List.nil_append, List.getElem?_cons_zero, List.getElem?_cons_succ, List.set_cons_zero, List.set_cons_succ, Nat.reduceAdd, Nat.reduceSub, tyOf, if_true, if_false, Bool.false_eq_true, decide_true, decide_false, wp_ok, wipeE, o_ixL (hI.1.lst h1) hix, o_ixL (hI.1.lst h2) hix]
    rw [Cut.alike hA n xs[i] (h _ (List.getElem_mem hi)) k G' (by omega) (by have := hI.1.len; have := hI.1.lim; omega)]
    simp only [s_pass, s_nil, s_cons, s_expr, s_set, s_par, s_setIx, s_setKey, s_augIx, s_aug, s_ifs, s_ret, s_retN, s_brk, s_cnt, s_never, w_k, w_v, w_un, w_bin, w_and, w_or, w_ite, w_chain, w_tup, wp_newL, w_lst, w_dic0, w_callD, w_sl, w_rev, w_call, w_bf, w_mt, w_nil, w_cons, w_no, w_some, Tg.bind, bindN, o_add, o_addT, o_sub, o_mul, o_fdiv, o_mod, o_pow, o_eq, o_ne, o_lt, o_le, o_gt, o_ge, o_isT, o_isI, o_isR, o_isN, o_eqB, o_neB, o_not, o_neg, o_lenT, o_int, o_isinI, o_isinT, o_isinB, o_isinI2, o_isinT2, t_ii, t_ib, t_is, t_it, t_il, t_tt, t_tl, t_ts, t_ti, t_tb, t_bb, t_bi, Cut.truthy, zb_bl, Bool.or_false, Bool.false_or, Bool.not_true, Bool.not_false, Bool.true_or, Bool.or_true, tb_dec, tb_some, tb_not, tb_true, tb_false, Cut.start, List.map, List.length, List.replicate, List.append_eq, List.cons_append, List.nil_append, List.getElem?_cons_zero, List.getElem?_cons_succ, List.set_cons_zero, List.set_cons_succ, Nat.reduceAdd, Nat.reduceSub, tyOf, if_true, if_false, Bool.false_eq_true, decide_true, decide_false, wp_ok]
    exact hI
  · obtain ⟨g, hx⟩ := hI
    refine ⟨by decide, ?_⟩
    rw [eq_nil (lst_new_old hx) lst_new, gc_grown (g.new _) rfl]
    exact ⟨rfl, rfl⟩
theorem cut_m2a {xs : List Int} : cutD (xs.map D.int) none (some (-2)) = (xs.take (xs.length - 2)).map D.int := by
  unfold cutD
  have h1 : HT.sIx (xs.map D.int).length 0 none = 0 := rfl
  have h2 : HT.sIx (xs.map D.int).length (xs.map D.int).length (some (-2)) = xs.length - 2 := by
    show (if (-2 : Int) < 0 then ((-2 : Int) + ((xs.map D.int).length : Int)).toNat else min (-2 : Int).toNat (xs.map D.int).length) = _
    rw [if_pos (by omega), List.length_map]; omega
  rw [h1, h2, List.drop_zero, Nat.sub_zero, List.map_take]
theorem cut_m2b {xs : List Int} : cutD (xs.map D.int) (some (-2)) none = (xs.drop (xs.length - 2)).map D.int := by
  unfold cutD
  have h1 : HT.sIx (xs.map D.int).length (xs.map D.int).length none = (xs.map D.int).length := rfl
  have h2 : HT.sIx (xs.map D.int).length 0 (some (-2)) = xs.length - 2 := by
    show (if (-2 : Int) < 0 then ((-2 : Int) + ((xs.map D.int).length : Int)).toNat else min (-2 : Int).toNat (xs.map D.int).length) = _
    rw [if_pos (by omega), List.length_map]; omega
  rw [h1, h2, List.map_drop]
  rw [List.take_of_length_le (by rw [List.length_drop]; exact Nat.le_refl _)]
theorem seal_0 {row : List Int} (hb : ∀ b ∈ row, Byte b) : crc 0 (row ++ fix (crc 0 row) 2) = 0 := by
  have hl : (row ++ fix (crc 0 row) 2).length = row.length + 2 := by rw [List.length_append, fix_len]
  have hb2 : ∀ b ∈ row ++ fix (crc 0 row) 2, Byte b := fun b h => (List.mem_append.mp h).elim (hb b) (fix_byte _ _ b)
  rw [seal_iff hb2 (by omega), hl, Nat.add_sub_cancel, List.take_left, List.drop_left]
/-- x^16 + x^12 + x^5 + 1 -/
theorem seen_taps {N s : Nat} (h : s + 16 < N) : seen N [s, s + 4, s + 11, s + 16] = 0 := by
  rw [seen_cons, seen_cons, seen_cons, seen_cons]
  show shN (N - 1 - s) 1 ^^^ (shN (N - 1 - (s + 4)) 1 ^^^ (shN (N - 1 - (s + 11)) 1 ^^^ (shN (N - 1 - (s + 16)) 1 ^^^ 0))) = 0
  rw [Nat.xor_zero]
  obtain ⟨m, hm⟩ : ∃ m, m = N - 17 - s := ⟨_, rfl⟩
  have e : ∀ j i, j + (s + i) + 1 + m = N → True := fun _ _ _ => trivial
  rw [show N - 1 - s = m + 16 by omega, show N - 1 - (s + 4) = m + 12 by omega, show N - 1 - (s + 11) = m + 5 by omega, show N - 1 - (s + 16) = m + 0 by omega]
  rw [← shN_add, ← shN_add, ← shN_add, ← shN_add]
  have l16 := shN_lt 16 (v := 1) (by decide)
  have l12 := shN_lt 12 (v := 1) (by decide)
  have l5 := shN_lt 5 (v := 1) (by decide)
  have l0 := shN_lt 0 (v := 1) (by decide)
  have x1 := Nat.xor_lt_two_pow (n := 16) l5 l0
  have x2 := Nat.xor_lt_two_pow (n := 16) l12 x1
  rw [← shN_x m l5 l0, ← shN_x m l12 x1, ← shN_x m l16 x2]
  have := taps
  rw [Nat.xor_assoc, Nat.xor_assoc] at this
  rw [this, shN_zero]
theorem seen_three {N s : Nat} (h : s + 2 < N) : seen N [s, s + 1, s + 2] ≠ 0 := by
  rw [seen_cons, seen_cons, seen_cons]
  show shN (N - 1 - s) 1 ^^^ (shN (N - 1 - (s + 1)) 1 ^^^ (shN (N - 1 - (s + 2)) 1 ^^^ 0)) ≠ 0
  rw [Nat.xor_zero]
  obtain ⟨m, hm⟩ : ∃ m, m = N - 3 - s := ⟨_, rfl⟩
  rw [show N - 1 - s = m + 2 by omega, show N - 1 - (s + 1) = m + 1 by omega, show N - 1 - (s + 2) = m + 0 by omega]
  rw [← shN_add, ← shN_add, ← shN_add]
  have l2 := shN_lt 2 (v := 1) (by decide)
  have l1 := shN_lt 1 (v := 1) (by decide)
  have l0 := shN_lt 0 (v := 1) (by decide)
  have x1 := Nat.xor_lt_two_pow (n := 16) l1 l0
  rw [← shN_x m l1 l0, ← shN_x m l2 x1]
  intro h
  have h := shN_eq0 m (Nat.xor_lt_two_pow (n := 16) l2 x1) h
  have := three
  rw [Nat.xor_assoc, h] at this
  cases this
theorem answers : Answers Ds 12 24 63 := by
  intro ns hl hbits l hl1
  have : wp (run (Ds.map Df.fd) 12 24 [.ref 0] ⟨l, [.lst (ns.map D.int)]⟩) fun d _ => d = .bl true := by
    have h0 : (⟨l, [.lst (ns.map D.int)]⟩ : Store).lst? 0 = some (ns.map D.int) := rfl
    have hlim : (⟨l, [.lst (ns.map D.int)]⟩ : Store).lim ≤ 1 := hl1
    have hlen : (⟨l, [.lst (ns.map D.int)]⟩ : Store).cs.length = 1 := rfl
    generalize (⟨l, [.lst (ns.map D.int)]⟩ : Store) = G0 at h0 hlim hlen ⊢
    refine run_wp (fd := d24.fd) rfl rfl ?_
    show wps (exs _ (.cons _ (.cons _ (.cons _ (.cons _ (.cons _ (.cons _ (.cons _ _))))))) _ _) _
    refine s_mid (Q := fun ρ G => ρ = [some (.ref 0), some (.ref 1), none, none, none, none, none, none, none, none, none, none, none, none, none] ∧ Rb 1 ns G) ?_ ?_
    · simp only [s_pass, s_nil, s_cons, s_expr, s_set, s_par, s_setIx, s_setKey, s_augIx, s_aug, s_ifs, s_ret, s_retN, s_brk, s_cnt, s_never, w_k, w_v, w_un, w_bin, w_and, w_or, w_ite, w_chain, w_tup, wp_newL, w_lst, w_dic0, w_callD, w_sl, w_rev, w_call, w_bf, w_mt, w_nil, w_cons, w_no, w_some, Tg.bind, bindN, o_add, o_addT, o_sub, o_mul, o_fdiv, o_mod, o_pow, o_eq, o_ne, o_lt, o_le, o_gt, o_ge, o_isT, o_isI, o_isR, o_isN, o_eqB, o_neB, o_not, o_neg, o_lenT, o_int, o_isinI, o_isinT, o_isinB, o_isinI2, o_isinT2, t_ii, t_ib, t_is, t_it, t_il, t_tt, t_tl, t_ts, t_ti, t_tb, t_bb, t_bi, Cut.truthy, zb_bl, Bool.or_false, Bool.false_or, Bool.not_true, Bool.not_false, Bool.true_or, Bool.or_true, tb_dec, tb_some, tb_not, tb_true, tb_false, Cut.start, List.map, List.length, List.replicate, List.append_eq, List.cons_append, List.nil_append, List.getElem?_cons_zero, List.getElem?_cons_succ, List.set_cons_zero, List.set_cons_succ, Nat.reduceAdd, Nat.reduceSub, tyOf, if_true, if_false, Bool.false_eq_true, decide_true, decide_false, wp_ok, hlen]
      exact ⟨by decide, rfl, by decide, hlim, lst_new_old h0, 0, 9005, 0, ⟨by decide, by decide, by decide, by decide⟩, by rw [← hlen]; exact lst_new⟩
    rintro ρ G ⟨rfl, rb⟩
    refine s_mid (Q := fun ρ G => ∃ bs : List Int, ρ = [some (.ref 0), some (.ref 1), some (.tup (bs.map .int)), none, none, none, none, none, none, none, none, none, none, none, none] ∧ Rb 1 ns G ∧ (∀ b ∈ bs, Byte b) ∧ bs.length ≤ 20) ?_ ?_
    · simp only [s_pass, s_nil, s_cons, s_expr, s_set, s_par, s_setIx, s_setKey, s_augIx, s_aug, s_ifs, s_ret, s_retN, s_brk, s_cnt, s_never, w_k, w_v, w_un, w_bin, w_and, w_or, w_ite, w_chain, w_tup, wp_newL, w_lst, w_dic0, w_callD, w_sl, w_rev, w_call, w_bf, w_mt, w_nil, w_cons, w_no, w_some, Tg.bind, bindN, o_add, o_addT, o_sub, o_mul, o_fdiv, o_mod, o_pow, o_eq, o_ne, o_lt, o_le, o_gt, o_ge, o_isT, o_isI, o_isR, o_isN, o_eqB, o_neB, o_not, o_neg, o_lenT, o_int, o_isinI, o_isinT, o_isinB, o_isinI2, o_isinT2, t_ii, t_ib, t_is, t_it, t_il, t_tt, t_tl, t_ts, t_ti, t_tb, t_bb, t_bi, Cut.truthy, zb_bl, Bool.or_false, Bool.false_or, Bool.not_true, Bool.not_false, Bool.true_or, Bool.or_true, tb_dec, tb_some, tb_not, tb_true, tb_false, Cut.start, List.map, List.length, List.replicate, List.append_eq, List.cons_append, List.nil_append, List.getElem?_cons_zero, List.getElem?_cons_succ, List.set_cons_zero, List.set_cons_succ, Nat.reduceAdd, Nat.reduceSub, tyOf, if_true, if_false, Bool.false_eq_true, decide_true, decide_false, wp_ok]
      refine law_row rb fun bs G1 hb hl m => ?_
      exact ⟨bs, rfl, m.rb, hb, hl⟩
    rintro ρ G ⟨bs, rfl, rb, hb, hl⟩
    have ll := rb.ll
    have hcr := crc_lt bs 0 (by decide) hb
    refine s_mid (Q := fun ρ G' => ρ = [some (.ref 0), some (.ref 1), some (.tup (bs.map .int)), none, none, none, none, none, none, none, none, none, none, none, none] ∧ G' = G) ?_ ?_
    · simp only [s_pass, s_nil, s_cons, s_expr, s_set, s_par, s_setIx, s_setKey, s_augIx, s_aug, s_ifs, s_ret, s_retN, s_brk, s_cnt, s_never, w_k, w_v, w_un, w_bin, w_and, w_or, w_ite, w_chain, w_tup, wp_newL, w_lst, w_dic0, w_callD, w_sl, w_rev, w_call, w_bf, w_mt, w_nil, w_cons, w_no, w_some, Tg.bind, bindN, o_add, o_addT, o_sub, o_mul, o_fdiv, o_mod, o_pow, o_eq, o_ne, o_lt, o_le, o_gt, o_ge, o_isT, o_isI, o_isR, o_isN, o_eqB, o_neB, o_not, o_neg, o_lenT, o_int, o_isinI, o_isinT, o_isinB, o_isinI2, o_isinT2, t_ii, t_ib, t_is, t_it, t_il, t_tt, t_tl, t_ts, t_ti, t_tb, t_bb, t_bi, Cut.truthy, zb_bl, Bool.or_false, Bool.false_or, Bool.not_true, Bool.not_false, Bool.true_or, Bool.or_true, tb_dec, tb_some, tb_not, tb_true, tb_false, Cut.start, List.map, List.length, List.replicate, List.append_eq, List.cons_append, List.nil_append, List.getElem?_cons_zero, List.getElem?_cons_succ, List.set_cons_zero, List.set_cons_succ, Nat.reduceAdd, Nat.reduceSub, tyOf, if_true, if_false, Bool.false_eq_true, decide_true, decide_false, wp_ok]
      rw [check_of hb (by omega)]
      simp only [s_pass, s_nil, s_cons, s_expr, s_set, s_par, s_setIx, s_setKey, s_augIx, s_aug, s_ifs, s_ret, s_retN, s_brk, s_cnt, s_never, w_k, w_v, w_un, w_bin, w_and, w_or, w_ite, w_chain, w_tup, wp_newL, w_lst, w_dic0, w_callD, w_sl, w_rev, w_call, w_bf, w_mt, w_nil, w_cons, w_no, w_some, Tg.bind, bindN, o_add, o_addT, o_sub, o_mul, o_fdiv, o_mod, o_pow, o_eq, o_ne, o_lt, o_le, o_gt, o_ge, o_isT, o_isI, o_isR, o_isN, o_eqB, o_neB, o_not, o_neg, o_lenT, o_int, o_isinI, o_isinT, o_isinB, o_isinI2, o_isinT2, t_ii, t_ib, t_is, t_it, t_il, t_tt, t_tl, t_ts, t_ti, t_tb, t_bb, t_bi, Cut.truthy, zb_bl, Bool.or_false, Bool.false_or, Bool.not_true, Bool.not_false, Bool.true_or, Bool.or_true, tb_dec, tb_some, tb_not, tb_true, tb_false, Cut.start, List.map, List.length, List.replicate, List.append_eq, List.cons_append, List.nil_append, List.getElem?_cons_zero, List.getElem?_cons_succ, List.set_cons_zero, List.set_cons_succ, Nat.reduceAdd, Nat.reduceSub, tyOf, if_true, if_false, Bool.false_eq_true, decide_true, decide_false, wp_ok]
      rw [law_divided hb (by omega)]
      simp only [s_pass, s_nil, s_cons, s_expr, s_set, s_par, s_setIx, s_setKey, s_augIx, s_aug, s_ifs, s_ret, s_retN, s_brk, s_cnt, s_never, w_k, w_v, w_un, w_bin, w_and, w_or, w_ite, w_chain, w_tup, wp_newL, w_lst, w_dic0, w_callD, w_sl, w_rev, w_call, w_bf, w_mt, w_nil, w_cons, w_no, w_some, Tg.bind, bindN, o_add, o_addT, o_sub, o_mul, o_fdiv, o_mod, o_pow, o_eq, o_ne, o_lt, o_le, o_gt, o_ge, o_isT, o_isI, o_isR, o_isN, o_eqB, o_neB, o_not, o_neg, o_lenT, o_int, o_isinI, o_isinT, o_isinB, o_isinI2, o_isinT2, t_ii, t_ib, t_is, t_it, t_il, t_tt, t_tl, t_ts, t_ti, t_tb, t_bb, t_bi, Cut.truthy, zb_bl, Bool.or_false, Bool.false_or, Bool.not_true, Bool.not_false, Bool.true_or, Bool.or_true, tb_dec, tb_some, tb_not, tb_true, tb_false, Cut.start, List.map, List.length, List.replicate, List.append_eq, List.cons_append, List.nil_append, List.getElem?_cons_zero, List.getElem?_cons_succ, List.set_cons_zero, List.set_cons_succ, Nat.reduceAdd, Nat.reduceSub, tyOf, if_true, if_false, Bool.false_eq_true, decide_true, decide_false, wp_ok]
      rw [Cut.alike hA 1 (.int (crc 0 bs)) (al_int _ _) 10 G (by decide) ll]
      simp only [s_pass, s_nil, s_cons, s_expr, s_set, s_par, s_setIx, s_setKey, s_augIx, s_aug, s_ifs, s_ret, s_retN, s_brk, s_cnt, s_never, w_k, w_v, w_un, w_bin, w_and, w_or, w_ite, w_chain, w_tup, wp_newL, w_lst, w_dic0, w_callD, w_sl, w_rev, w_call, w_bf, w_mt, w_nil, w_cons, w_no, w_some, Tg.bind, bindN, o_add, o_addT, o_sub, o_mul, o_fdiv, o_mod, o_pow, o_eq, o_ne, o_lt, o_le, o_gt, o_ge, o_isT, o_isI, o_isR, o_isN, o_eqB, o_neB, o_not, o_neg, o_lenT, o_int, o_isinI, o_isinT, o_isinB, o_isinI2, o_isinT2, t_ii, t_ib, t_is, t_it, t_il, t_tt, t_tl, t_ts, t_ti, t_tb, t_bb, t_bi, Cut.truthy, zb_bl, Bool.or_false, Bool.false_or, Bool.not_true, Bool.not_false, Bool.true_or, Bool.or_true, tb_dec, tb_some, tb_not, tb_true, tb_false, Cut.start, List.map, List.length, List.replicate, List.append_eq, List.cons_append, List.nil_append, List.getElem?_cons_zero, List.getElem?_cons_succ, List.set_cons_zero, List.set_cons_succ, Nat.reduceAdd, Nat.reduceSub, tyOf, if_true, if_false, Bool.false_eq_true, decide_true, decide_false, wp_ok]
      rw [law_divided hb (by omega)]
      simp only [s_pass, s_nil, s_cons, s_expr, s_set, s_par, s_setIx, s_setKey, s_augIx, s_aug, s_ifs, s_ret, s_retN, s_brk, s_cnt, s_never, w_k, w_v, w_un, w_bin, w_and, w_or, w_ite, w_chain, w_tup, wp_newL, w_lst, w_dic0, w_callD, w_sl, w_rev, w_call, w_bf, w_mt, w_nil, w_cons, w_no, w_some, Tg.bind, bindN, o_add, o_addT, o_sub, o_mul, o_fdiv, o_mod, o_pow, o_eq, o_ne, o_lt, o_le, o_gt, o_ge, o_isT, o_isI, o_isR, o_isN, o_eqB, o_neB, o_not, o_neg, o_lenT, o_int, o_isinI, o_isinT, o_isinB, o_isinI2, o_isinT2, t_ii, t_ib, t_is, t_it, t_il, t_tt, t_tl, t_ts, t_ti, t_tb, t_bb, t_bi, Cut.truthy, zb_bl, Bool.or_false, Bool.false_or, Bool.not_true, Bool.not_false, Bool.true_or, Bool.or_true, tb_dec, tb_some, tb_not, tb_true, tb_false, Cut.start, List.map, List.length, List.replicate, List.append_eq, List.cons_append, List.nil_append, List.getElem?_cons_zero, List.getElem?_cons_succ, List.set_cons_zero, List.set_cons_succ, Nat.reduceAdd, Nat.reduceSub, tyOf, if_true, if_false, Bool.false_eq_true, decide_true, decide_false, wp_ok]
      rw [law_crc hb (by unfold loopFuel; omega)]
      simp only [s_pass, s_nil, s_cons, s_expr, s_set, s_par, s_setIx, s_setKey, s_augIx, s_aug, s_ifs, s_ret, s_retN, s_brk, s_cnt, s_never, w_k, w_v, w_un, w_bin, w_and, w_or, w_ite, w_chain, w_tup, wp_newL, w_lst, w_dic0, w_callD, w_sl, w_rev, w_call, w_bf, w_mt, w_nil, w_cons, w_no, w_some, Tg.bind, bindN, o_add, o_addT, o_sub, o_mul, o_fdiv, o_mod, o_pow, o_eq, o_ne, o_lt, o_le, o_gt, o_ge, o_isT, o_isI, o_isR, o_isN, o_eqB, o_neB, o_not, o_neg, o_lenT, o_int, o_isinI, o_isinT, o_isinB, o_isinI2, o_isinT2, t_ii, t_ib, t_is, t_it, t_il, t_tt, t_tl, t_ts, t_ti, t_tb, t_bb, t_bi, Cut.truthy, zb_bl, Bool.or_false, Bool.false_or, Bool.not_true, Bool.not_false, Bool.true_or, Bool.or_true, tb_dec, tb_some, tb_not, tb_true, tb_false, Cut.start, List.map, List.length, List.replicate, List.append_eq, List.cons_append, List.nil_append, List.getElem?_cons_zero, List.getElem?_cons_succ, List.set_cons_zero, List.set_cons_succ, Nat.reduceAdd, Nat.reduceSub, tyOf, if_true, if_false, Bool.false_eq_true, decide_true, decide_false, wp_ok, eq_self]
      exact ⟨trivial, trivial⟩
    rintro ρ G' ⟨rfl, rfl⟩
    have hbB : ∀ {V : Int} {v : Nat} {G : Store}, V = v → run T 11 21 [.int V, .int 2] G = .ok (.tup ((fix v 2).map .int)) G := fun h1 => law_bytes (T := T) (fb := 21) (m := 2) rfl h1 rfl (by omega)
    have hW : ∃ W : List Int, W = bs ++ fix (crc 0 bs) 2 := ⟨_, rfl⟩
    obtain ⟨W, hWe⟩ := hW
    have hWb : ∀ b ∈ W, Byte b := fun b h => by rw [hWe] at h; exact (List.mem_append.mp h).elim (hb b) (fix_byte _ _ b)
    have hWl : W.length = bs.length + 2 := by rw [hWe, List.length_append, fix_len]
    have hW0 : crc 0 W = 0 := by rw [hWe]; exact seal_0 hb
    refine s_mid (Q := fun ρ G => ρ = [some (.ref 0), some (.ref 1), some (.tup (bs.map .int)), some (.tup (W.map .int)), none, none, none, none, none, none, none, none, none, none, none] ∧ G = G') ?_ ?_
    · simp only [s_pass, s_nil, s_cons, s_expr, s_set, s_par, s_setIx, s_setKey, s_augIx, s_aug, s_ifs, s_ret, s_retN, s_brk, s_cnt, s_never, w_k, w_v, w_un, w_bin, w_and, w_or, w_ite, w_chain, w_tup, wp_newL, w_lst, w_dic0, w_callD, w_sl, w_rev, w_call, w_bf, w_mt, w_nil, w_cons, w_no, w_some, Tg.bind, bindN, o_add, o_addT, o_sub, o_mul, o_fdiv, o_mod, o_pow, o_eq, o_ne, o_lt, o_le, o_gt, o_ge, o_isT, o_isI, o_isR, o_isN, o_eqB, o_neB, o_not, o_neg, o_lenT, o_int, o_isinI, o_isinT, o_isinB, o_isinI2, o_isinT2, t_ii, t_ib, t_is, t_it, t_il, t_tt, t_tl, t_ts, t_ti, t_tb, t_bb, t_bi, Cut.truthy, zb_bl, Bool.or_false, Bool.false_or, Bool.not_true, Bool.not_false, Bool.true_or, Bool.or_true, tb_dec, tb_some, tb_not, tb_true, tb_false, Cut.start, List.map, List.length, List.replicate, List.append_eq, List.cons_append, List.nil_append, List.getElem?_cons_zero, List.getElem?_cons_succ, List.set_cons_zero, List.set_cons_succ, Nat.reduceAdd, Nat.reduceSub, tyOf, if_true, if_false, Bool.false_eq_true, decide_true, decide_false, wp_ok]
      rw [law_crc hb (by unfold loopFuel; omega)]
      simp only [s_pass, s_nil, s_cons, s_expr, s_set, s_par, s_setIx, s_setKey, s_augIx, s_aug, s_ifs, s_ret, s_retN, s_brk, s_cnt, s_never, w_k, w_v, w_un, w_bin, w_and, w_or, w_ite, w_chain, w_tup, wp_newL, w_lst, w_dic0, w_callD, w_sl, w_rev, w_call, w_bf, w_mt, w_nil, w_cons, w_no, w_some, Tg.bind, bindN, o_add, o_addT, o_sub, o_mul, o_fdiv, o_mod, o_pow, o_eq, o_ne, o_lt, o_le, o_gt, o_ge, o_isT, o_isI, o_isR, o_isN, o_eqB, o_neB, o_not, o_neg, o_lenT, o_int, o_isinI, o_isinT, o_isinB, o_isinI2, o_isinT2, t_ii, t_ib, t_is, t_it, t_il, t_tt, t_tl, t_ts, t_ti, t_tb, t_bb, t_bi, Cut.truthy, zb_bl, Bool.or_false, Bool.false_or, Bool.not_true, Bool.not_false, Bool.true_or, Bool.or_true, tb_dec, tb_some, tb_not, tb_true, tb_false, Cut.start, List.map, List.length, List.replicate, List.append_eq, List.cons_append, List.nil_append, List.getElem?_cons_zero, List.getElem?_cons_succ, List.set_cons_zero, List.set_cons_succ, Nat.reduceAdd, Nat.reduceSub, tyOf, if_true, if_false, Bool.false_eq_true, decide_true, decide_false, wp_ok]
      rw [hbB rfl]
      simp only [s_pass, s_nil, s_cons, s_expr, s_set, s_par, s_setIx, s_setKey, s_augIx, s_aug, s_ifs, s_ret, s_retN, s_brk, s_cnt, s_never, w_k, w_v, w_un, w_bin, w_and, w_or, w_ite, w_chain, w_tup, wp_newL, w_lst, w_dic0, w_callD, w_sl, w_rev, w_call, w_bf, w_mt, w_nil, w_cons, w_no, w_some, Tg.bind, bindN, o_add, o_addT, o_sub, o_mul, o_fdiv, o_mod, o_pow, o_eq, o_ne, o_lt, o_le, o_gt, o_ge, o_isT, o_isI, o_isR, o_isN, o_eqB, o_neB, o_not, o_neg, o_lenT, o_int, o_isinI, o_isinT, o_isinB, o_isinI2, o_isinT2, t_ii, t_ib, t_is, t_it, t_il, t_tt, t_tl, t_ts, t_ti, t_tb, t_bb, t_bi, Cut.truthy, zb_bl, Bool.or_false, Bool.false_or, Bool.not_true, Bool.not_false, Bool.true_or, Bool.or_true, tb_dec, tb_some, tb_not, tb_true, tb_false, Cut.start, List.map, List.length, List.replicate, List.append_eq, List.cons_append, List.nil_append, List.getElem?_cons_zero, List.getElem?_cons_succ, List.set_cons_zero, List.set_cons_succ, Nat.reduceAdd, Nat.reduceSub, tyOf, if_true, if_false, Bool.false_eq_true, decide_true, decide_false, wp_ok, List.length_map, fix_len]
      refine ⟨sm (by omega), by rw [hWe, List.map_append], trivial⟩
    rintro ρ G ⟨rfl, rfl⟩
    refine s_mid (Q := fun ρ G' => ρ = [some (.ref 0), some (.ref 1), some (.tup (bs.map .int)), some (.tup (W.map .int)), none, none, none, none, none, none, none, none, none, none, none] ∧ G' = G) ?_ ?_
    · simp only [s_pass, s_nil, s_cons, s_expr, s_set, s_par, s_setIx, s_setKey, s_augIx, s_aug, s_ifs, s_ret, s_retN, s_brk, s_cnt, s_never, w_k, w_v, w_un, w_bin, w_and, w_or, w_ite, w_chain, w_tup, wp_newL, w_lst, w_dic0, w_callD, w_sl, w_rev, w_call, w_bf, w_mt, w_nil, w_cons, w_no, w_some, Tg.bind, bindN, o_add, o_addT, o_sub, o_mul, o_fdiv, o_mod, o_pow, o_eq, o_ne, o_lt, o_le, o_gt, o_ge, o_isT, o_isI, o_isR, o_isN, o_eqB, o_neB, o_not, o_neg, o_lenT, o_int, o_isinI, o_isinT, o_isinB, o_isinI2, o_isinT2, t_ii, t_ib, t_is, t_it, t_il, t_tt, t_tl, t_ts, t_ti, t_tb, t_bb, t_bi, Cut.truthy, zb_bl, Bool.or_false, Bool.false_or, Bool.not_true, Bool.not_false, Bool.true_or, Bool.or_true, tb_dec, tb_some, tb_not, tb_true, tb_false, Cut.start, List.map, List.length, List.replicate, List.append_eq, List.cons_append, List.nil_append, List.getElem?_cons_zero, List.getElem?_cons_succ, List.set_cons_zero, List.set_cons_succ, Nat.reduceAdd, Nat.reduceSub, tyOf, if_true, if_false, Bool.false_eq_true, decide_true, decide_false, wp_ok]
      rw [sealed hb (by omega) ll, ← hWe]
      simp only [s_pass, s_nil, s_cons, s_expr, s_set, s_par, s_setIx, s_setKey, s_augIx, s_aug, s_ifs, s_ret, s_retN, s_brk, s_cnt, s_never, w_k, w_v, w_un, w_bin, w_and, w_or, w_ite, w_chain, w_tup, wp_newL, w_lst, w_dic0, w_callD, w_sl, w_rev, w_call, w_bf, w_mt, w_nil, w_cons, w_no, w_some, Tg.bind, bindN, o_add, o_addT, o_sub, o_mul, o_fdiv, o_mod, o_pow, o_eq, o_ne, o_lt, o_le, o_gt, o_ge, o_isT, o_isI, o_isR, o_isN, o_eqB, o_neB, o_not, o_neg, o_lenT, o_int, o_isinI, o_isinT, o_isinB, o_isinI2, o_isinT2, t_ii, t_ib, t_is, t_it, t_il, t_tt, t_tl, t_ts, t_ti, t_tb, t_bb, t_bi, Cut.truthy, zb_bl, Bool.or_false, Bool.false_or, Bool.not_true, Bool.not_false, Bool.true_or, Bool.or_true, tb_dec, tb_some, tb_not, tb_true, tb_false, Cut.start, List.map, List.length, List.replicate, List.append_eq, List.cons_append, List.nil_append, List.getElem?_cons_zero, List.getElem?_cons_succ, List.set_cons_zero, List.set_cons_succ, Nat.reduceAdd, Nat.reduceSub, tyOf, if_true, if_false, Bool.false_eq_true, decide_true, decide_false, wp_ok]
      rw [Cut.alike hA 1 _ (al_ints _ (by omega)) 10 G (by decide) ll]
      simp only [s_pass, s_nil, s_cons, s_expr, s_set, s_par, s_setIx, s_setKey, s_augIx, s_aug, s_ifs, s_ret, s_retN, s_brk, s_cnt, s_never, w_k, w_v, w_un, w_bin, w_and, w_or, w_ite, w_chain, w_tup, wp_newL, w_lst, w_dic0, w_callD, w_sl, w_rev, w_call, w_bf, w_mt, w_nil, w_cons, w_no, w_some, Tg.bind, bindN, o_add, o_addT, o_sub, o_mul, o_fdiv, o_mod, o_pow, o_eq, o_ne, o_lt, o_le, o_gt, o_ge, o_isT, o_isI, o_isR, o_isN, o_eqB, o_neB, o_not, o_neg, o_lenT, o_int, o_isinI, o_isinT, o_isinB, o_isinI2, o_isinT2, t_ii, t_ib, t_is, t_it, t_il, t_tt, t_tl, t_ts, t_ti, t_tb, t_bb, t_bi, Cut.truthy, zb_bl, Bool.or_false, Bool.false_or, Bool.not_true, Bool.not_false, Bool.true_or, Bool.or_true, tb_dec, tb_some, tb_not, tb_true, tb_false, Cut.start, List.map, List.length, List.replicate, List.append_eq, List.cons_append, List.nil_append, List.getElem?_cons_zero, List.getElem?_cons_succ, List.set_cons_zero, List.set_cons_succ, Nat.reduceAdd, Nat.reduceSub, tyOf, if_true, if_false, Bool.false_eq_true, decide_true, decide_false, wp_ok]
      rw [is_sealed hWb (by omega), decide_eq_true ⟨by omega, hW0⟩]
      simp only [s_pass, s_nil, s_cons, s_expr, s_set, s_par, s_setIx, s_setKey, s_augIx, s_aug, s_ifs, s_ret, s_retN, s_brk, s_cnt, s_never, w_k, w_v, w_un, w_bin, w_and, w_or, w_ite, w_chain, w_tup, wp_newL, w_lst, w_dic0, w_callD, w_sl, w_rev, w_call, w_bf, w_mt, w_nil, w_cons, w_no, w_some, Tg.bind, bindN, o_add, o_addT, o_sub, o_mul, o_fdiv, o_mod, o_pow, o_eq, o_ne, o_lt, o_le, o_gt, o_ge, o_isT, o_isI, o_isR, o_isN, o_eqB, o_neB, o_not, o_neg, o_lenT, o_int, o_isinI, o_isinT, o_isinB, o_isinI2, o_isinT2, t_ii, t_ib, t_is, t_it, t_il, t_tt, t_tl, t_ts, t_ti, t_tb, t_bb, t_bi, Cut.truthy, zb_bl, Bool.or_false, Bool.false_or, Bool.not_true, Bool.not_false, Bool.true_or, Bool.or_true, tb_dec, tb_some, tb_not, tb_true, tb_false, Cut.start, List.map, List.length, List.replicate, List.append_eq, List.cons_append, List.nil_append, List.getElem?_cons_zero, List.getElem?_cons_succ, List.set_cons_zero, List.set_cons_succ, Nat.reduceAdd, Nat.reduceSub, tyOf, if_true, if_false, Bool.false_eq_true, decide_true, decide_false, wp_ok, o_isnB, eq_self]
      exact ⟨trivial, trivial⟩
    rintro ρ G' ⟨rfl, rfl⟩
    refine s_mid (Q := fun ρ G => ρ = [some (.ref 0), some (.ref 1), some (.tup (bs.map .int)), some (.tup (W.map .int)), none, none, none, none, none, none, none, none, none, none, none] ∧ G = G') ?_ ?_
    · simp only [s_pass, s_nil, s_cons, s_expr, s_set, s_par, s_setIx, s_setKey, s_augIx, s_aug, s_ifs, s_ret, s_retN, s_brk, s_cnt, s_never, w_k, w_v, w_un, w_bin, w_and, w_or, w_ite, w_chain, w_tup, wp_newL, w_lst, w_dic0, w_callD, w_sl, w_rev, w_call, w_bf, w_mt, w_nil, w_cons, w_no, w_some, Tg.bind, bindN, o_add, o_addT, o_sub, o_mul, o_fdiv, o_mod, o_pow, o_eq, o_ne, o_lt, o_le, o_gt, o_ge, o_isT, o_isI, o_isR, o_isN, o_eqB, o_neB, o_not, o_neg, o_lenT, o_int, o_isinI, o_isinT, o_isinB, o_isinI2, o_isinT2, t_ii, t_ib, t_is, t_it, t_il, t_tt, t_tl, t_ts, t_ti, t_tb, t_bb, t_bi, Cut.truthy, zb_bl, Bool.or_false, Bool.false_or, Bool.not_true, Bool.not_false, Bool.true_or, Bool.or_true, tb_dec, tb_some, tb_not, tb_true, tb_false, Cut.start, List.map, List.length, List.replicate, List.append_eq, List.cons_append, List.nil_append, List.getElem?_cons_zero, List.getElem?_cons_succ, List.set_cons_zero, List.set_cons_succ, Nat.reduceAdd, Nat.reduceSub, tyOf, if_true, if_false, Bool.false_eq_true, decide_true, decide_false, wp_ok, List.length_map, o_slT]
      rw [is_sealed hb (by omega)]
      simp only [s_pass, s_nil, s_cons, s_expr, s_set, s_par, s_setIx, s_setKey, s_augIx, s_aug, s_ifs, s_ret, s_retN, s_brk, s_cnt, s_never, w_k, w_v, w_un, w_bin, w_and, w_or, w_ite, w_chain, w_tup, wp_newL, w_lst, w_dic0, w_callD, w_sl, w_rev, w_call, w_bf, w_mt, w_nil, w_cons, w_no, w_some, Tg.bind, bindN, o_add, o_addT, o_sub, o_mul, o_fdiv, o_mod, o_pow, o_eq, o_ne, o_lt, o_le, o_gt, o_ge, o_isT, o_isI, o_isR, o_isN, o_eqB, o_neB, o_not, o_neg, o_lenT, o_int, o_isinI, o_isinT, o_isinB, o_isinI2, o_isinT2, t_ii, t_ib, t_is, t_it, t_il, t_tt, t_tl, t_ts, t_ti, t_tb, t_bb, t_bi, Cut.truthy, zb_bl, Bool.or_false, Bool.false_or, Bool.not_true, Bool.not_false, Bool.true_or, Bool.or_true, tb_dec, tb_some, tb_not, tb_true, tb_false, Cut.start, List.map, List.length, List.replicate, List.append_eq, List.cons_append, List.nil_append, List.getElem?_cons_zero, List.getElem?_cons_succ, List.set_cons_zero, List.set_cons_succ, Nat.reduceAdd, Nat.reduceSub, tyOf, if_true, if_false, Bool.false_eq_true, decide_true, decide_false, wp_ok]
      by_cases h2 : (1 : Int) < (bs.length : Int)
      · simp only [s_pass, s_nil, s_cons, s_expr, s_set, s_par, s_setIx, s_setKey, s_augIx, s_aug, s_ifs, s_ret, s_retN, s_brk, s_cnt, s_never, w_k, w_v, w_un, w_bin, w_and, w_or, w_ite, w_chain, w_tup, wp_newL, w_lst, w_dic0, w_callD, w_sl, w_rev, w_call, w_bf, w_mt, w_nil, w_cons, w_no, w_some, Tg.bind, bindN, o_add, o_addT, o_sub, o_mul, o_fdiv, o_mod, o_pow, o_eq, o_ne, o_lt, o_le, o_gt, o_ge, o_isT, o_isI, o_isR, o_isN, o_eqB, o_neB, o_not, o_neg, o_lenT, o_int, o_isinI, o_isinT, o_isinB, o_isinI2, o_isinT2, t_ii, t_ib, t_is, t_it, t_il, t_tt, t_tl, t_ts, t_ti, t_tb, t_bb, t_bi, Cut.truthy, zb_bl, Bool.or_false, Bool.false_or, Bool.not_true, Bool.not_false, Bool.true_or, Bool.or_true, tb_dec, tb_some, tb_not, tb_true, tb_false, Cut.start, List.map, List.length, List.replicate, List.append_eq, List.cons_append, List.nil_append, List.getElem?_cons_zero, List.getElem?_cons_succ, List.set_cons_zero, List.set_cons_succ, Nat.reduceAdd, Nat.reduceSub, tyOf, if_true, if_false, Bool.false_eq_true, decide_true, decide_false, wp_ok, h2]
        rw [cut_m2a, cut_m2b, law_crc (fun b h => hb b (List.mem_of_mem_take h)) (by rw [List.length_take]; unfold loopFuel; omega)]
        simp only [s_pass, s_nil, s_cons, s_expr, s_set, s_par, s_setIx, s_setKey, s_augIx, s_aug, s_ifs, s_ret, s_retN, s_brk, s_cnt, s_never, w_k, w_v, w_un, w_bin, w_and, w_or, w_ite, w_chain, w_tup, wp_newL, w_lst, w_dic0, w_callD, w_sl, w_rev, w_call, w_bf, w_mt, w_nil, w_cons, w_no, w_some, Tg.bind, bindN, o_add, o_addT, o_sub, o_mul, o_fdiv, o_mod, o_pow, o_eq, o_ne, o_lt, o_le, o_gt, o_ge, o_isT, o_isI, o_isR, o_isN, o_eqB, o_neB, o_not, o_neg, o_lenT, o_int, o_isinI, o_isinT, o_isinB, o_isinI2, o_isinT2, t_ii, t_ib, t_is, t_it, t_il, t_tt, t_tl, t_ts, t_ti, t_tb, t_bb, t_bi, Cut.truthy, zb_bl, Bool.or_false, Bool.false_or, Bool.not_true, Bool.not_false, Bool.true_or, Bool.or_true, tb_dec, tb_some, tb_not, tb_true, tb_false, Cut.start, List.map, List.length, List.replicate, List.append_eq, List.cons_append, List.nil_append, List.getElem?_cons_zero, List.getElem?_cons_succ, List.set_cons_zero, List.set_cons_succ, Nat.reduceAdd, Nat.reduceSub, tyOf, if_true, if_false, Bool.false_eq_true, decide_true, decide_false, wp_ok]
        rw [hbB rfl]
        simp only [s_pass, s_nil, s_cons, s_expr, s_set, s_par, s_setIx, s_setKey, s_augIx, s_aug, s_ifs, s_ret, s_retN, s_brk, s_cnt, s_never, w_k, w_v, w_un, w_bin, w_and, w_or, w_ite, w_chain, w_tup, wp_newL, w_lst, w_dic0, w_callD, w_sl, w_rev, w_call, w_bf, w_mt, w_nil, w_cons, w_no, w_some, Tg.bind, bindN, o_add, o_addT, o_sub, o_mul, o_fdiv, o_mod, o_pow, o_eq, o_ne, o_lt, o_le, o_gt, o_ge, o_isT, o_isI, o_isR, o_isN, o_eqB, o_neB, o_not, o_neg, o_lenT, o_int, o_isinI, o_isinT, o_isinB, o_isinI2, o_isinT2, t_ii, t_ib, t_is, t_it, t_il, t_tt, t_tl, t_ts, t_ti, t_tb, t_bb, t_bi, Cut.truthy, zb_bl, Bool.or_false, Bool.false_or, Bool.not_true, Bool.not_false, Bool.true_or, Bool.or_true, tb_dec, tb_some, tb_not, tb_true, tb_false, Cut.start, List.map, List.length, List.replicate, List.append_eq, List.cons_append, List.nil_append, List.getElem?_cons_zero, List.getElem?_cons_succ, List.set_cons_zero, List.set_cons_succ, Nat.reduceAdd, Nat.reduceSub, tyOf, if_true, if_false, Bool.false_eq_true, decide_true, decide_false, wp_ok, o_eqT]
        have e : decide (2 ≤ bs.length ∧ crc 0 bs = 0) = decide (fix (crc 0 (bs.take (bs.length - 2))) 2 = bs.drop (bs.length - 2)) := by
          rw [decide_eq_decide, ← seal_iff hb (by omega)]
          exact ⟨fun h => h.2, fun h => ⟨by omega, h⟩⟩
        rw [e, Cut.alike hA 1 (.bl _) trivial 10 G' (by decide) ll]
        simp only [s_pass, s_nil, s_cons, s_expr, s_set, s_par, s_setIx, s_setKey, s_augIx, s_aug, s_ifs, s_ret, s_retN, s_brk, s_cnt, s_never, w_k, w_v, w_un, w_bin, w_and, w_or, w_ite, w_chain, w_tup, wp_newL, w_lst, w_dic0, w_callD, w_sl, w_rev, w_call, w_bf, w_mt, w_nil, w_cons, w_no, w_some, Tg.bind, bindN, o_add, o_addT, o_sub, o_mul, o_fdiv, o_mod, o_pow, o_eq, o_ne, o_lt, o_le, o_gt, o_ge, o_isT, o_isI, o_isR, o_isN, o_eqB, o_neB, o_not, o_neg, o_lenT, o_int, o_isinI, o_isinT, o_isinB, o_isinI2, o_isinT2, t_ii, t_ib, t_is, t_it, t_il, t_tt, t_tl, t_ts, t_ti, t_tb, t_bb, t_bi, Cut.truthy, zb_bl, Bool.or_false, Bool.false_or, Bool.not_true, Bool.not_false, Bool.true_or, Bool.or_true, tb_dec, tb_some, tb_not, tb_true, tb_false, Cut.start, List.map, List.length, List.replicate, List.append_eq, List.cons_append, List.nil_append, List.getElem?_cons_zero, List.getElem?_cons_succ, List.set_cons_zero, List.set_cons_succ, Nat.reduceAdd, Nat.reduceSub, tyOf, if_true, if_false, Bool.false_eq_true, decide_true, decide_false, wp_ok]
        exact ⟨trivial, trivial⟩
      · simp only [s_pass, s_nil, s_cons, s_expr, s_set, s_par, s_setIx, s_setKey, s_augIx, s_aug, s_ifs, s_ret, s_retN, s_brk, s_cnt, s_never, w_k, w_v, w_un, w_bin, w_and, w_or, w_ite, w_chain, w_tup, wp_newL, w_lst, w_dic0, w_callD, w_sl, w_rev, w_call, w_bf, w_mt, w_nil, w_cons, w_no, w_some, Tg.bind, bindN, o_add, o_addT, o_sub, o_mul, o_fdiv, o_mod, o_pow, o_eq, o_ne, o_lt, o_le, o_gt, o_ge, o_isT, o_isI, o_isR, o_isN, o_eqB, o_neB, o_not, o_neg, o_lenT, o_int, o_isinI, o_isinT, o_isinB, o_isinI2, o_isinT2, t_ii, t_ib, t_is, t_it, t_il, t_tt, t_tl, t_ts, t_ti, t_tb, t_bb, t_bi, Cut.truthy, zb_bl, Bool.or_false, Bool.false_or, Bool.not_true, Bool.not_false, Bool.true_or, Bool.or_true, tb_dec, tb_some, tb_not, tb_true, tb_false, Cut.start, List.map, List.length, List.replicate, List.append_eq, List.cons_append, List.nil_append, List.getElem?_cons_zero, List.getElem?_cons_succ, List.set_cons_zero, List.set_cons_succ, Nat.reduceAdd, Nat.reduceSub, tyOf, if_true, if_false, Bool.false_eq_true, decide_true, decide_false, wp_ok, h2]
        rw [decide_eq_false (show ¬ (2 ≤ bs.length ∧ crc 0 bs = 0) by omega), Cut.alike hA 1 (.bl _) trivial 10 G' (by decide) ll]
        simp only [s_pass, s_nil, s_cons, s_expr, s_set, s_par, s_setIx, s_setKey, s_augIx, s_aug, s_ifs, s_ret, s_retN, s_brk, s_cnt, s_never, w_k, w_v, w_un, w_bin, w_and, w_or, w_ite, w_chain, w_tup, wp_newL, w_lst, w_dic0, w_callD, w_sl, w_rev, w_call, w_bf, w_mt, w_nil, w_cons, w_no, w_some, Tg.bind, bindN, o_add, o_addT, o_sub, o_mul, o_fdiv, o_mod, o_pow, o_eq, o_ne, o_lt, o_le, o_gt, o_ge, o_isT, o_isI, o_isR, o_isN, o_eqB, o_neB, o_not, o_neg, o_lenT, o_int, o_isinI, o_isinT, o_isinB, o_isinI2, o_isinT2, t_ii, t_ib, t_is, t_it, t_il, t_tt, t_tl, t_ts, t_ti, t_tb, t_bb, t_bi, Cut.truthy, zb_bl, Bool.or_false, Bool.false_or, Bool.not_true, Bool.not_false, Bool.true_or, Bool.or_true, tb_dec, tb_some, tb_not, tb_true, tb_false, Cut.start, List.map, List.length, List.replicate, List.append_eq, List.cons_append, List.nil_append, List.getElem?_cons_zero, List.getElem?_cons_succ, List.set_cons_zero, List.set_cons_succ, Nat.reduceAdd, Nat.reduceSub, tyOf, if_true, if_false, Bool.false_eq_true, decide_true, decide_false, wp_ok]
        exact ⟨trivial, trivial⟩
    rintro ρ G ⟨rfl, rfl⟩
    refine s_mid (Q := fun ρ G => ∃ x4 x5 x6 x7 : Option D, ρ = [some (.ref 0), some (.ref 1), some (.tup (bs.map .int)), some (.tup (W.map .int)), x4, x5, x6, x7, none, none, none, none, none, none, none] ∧ Rb 1 ns G) ?_ ?_
    · rw [s_for, i_rng1]
      simp only [s_pass, s_nil, s_cons, s_expr, s_set, s_par, s_setIx, s_setKey, s_augIx, s_aug, s_ifs, s_ret, s_retN, s_brk, s_cnt, s_never, w_k, w_v, w_un, w_bin, w_and, w_or, w_ite, w_chain, w_tup, wp_newL, w_lst, w_dic0, w_callD, w_sl, w_rev, w_call, w_bf, w_mt, w_nil, w_cons, w_no, w_some, Tg.bind, bindN, o_add, o_addT, o_sub, o_mul, o_fdiv, o_mod, o_pow, o_eq, o_ne, o_lt, o_le, o_gt, o_ge, o_isT, o_isI, o_isR, o_isN, o_eqB, o_neB, o_not, o_neg, o_lenT, o_int, o_isinI, o_isinT, o_isinB, o_isinI2, o_isinT2, t_ii, t_ib, t_is, t_it, t_il, t_tt, t_tl, t_ts, t_ti, t_tb, t_bb, t_bi, Cut.truthy, zb_bl, Bool.or_false, Bool.false_or, Bool.not_true, Bool.not_false, Bool.true_or, Bool.or_true, tb_dec, tb_some, tb_not, tb_true, tb_false, Cut.start, List.map, List.length, List.replicate, List.append_eq, List.cons_append, List.nil_append, List.getElem?_cons_zero, List.getElem?_cons_succ, List.set_cons_zero, List.set_cons_succ, Nat.reduceAdd, Nat.reduceSub, tyOf, if_true, if_false, Bool.false_eq_true, decide_true, decide_false, wp_ok]
      refine ⟨by decide, by decide, ?_⟩
      refine s_forGo (fun i ρ G => ∃ x4 x5 x6 x7 : Option D, ρ = [some (.ref 0), some (.ref 1), some (.tup (bs.map .int)), some (.tup (W.map .int)), x4, x5, x6, x7, none, none, none, none, none, none, none] ∧ Rb 1 ns G) 5 (by decide) ⟨_, _, _, _, rfl, rb⟩ ?_ ?_
      · clear rb ll
        rintro i ρ G hi ⟨x4, x5, x6, x7, rfl, rb⟩
        refine ⟨.int (0 + i), rng_at hi, _, rfl, ?_⟩
        have hlog : (8 : Int).natAbs.log2 = 3 := by decide +kernel
        have hlog2 : (W.length : Int).natAbs.log2 < 8 := log2_lt (by omega) (by decide)
        refine s_mid (Q := fun ρ G => ∃ fl : List Nat, ρ = [some (.ref 0), some (.ref 1), some (.tup (bs.map .int)), some (.tup (W.map .int)), some (.int (0 + i)), some (.tup (ni fl)), x6, x7, none, none, none, none, none, none, none] ∧ Rb 1 ns G ∧ Flips fl (8 * W.length)) ?_ ?_
        · simp only [s_pass, s_nil, s_cons, s_expr, s_set, s_par, s_setIx, s_setKey, s_augIx, s_aug, s_ifs, s_ret, s_retN, s_brk, s_cnt, s_never, w_k, w_v, w_un, w_bin, w_and, w_or, w_ite, w_chain, w_tup, wp_newL, w_lst, w_dic0, w_callD, w_sl, w_rev, w_call, w_bf, w_mt, w_nil, w_cons, w_no, w_some, Tg.bind, bindN, o_add, o_addT, o_sub, o_mul, o_fdiv, o_mod, o_pow, o_eq, o_ne, o_lt, o_le, o_gt, o_ge, o_isT, o_isI, o_isR, o_isN, o_eqB, o_neB, o_not, o_neg, o_lenT, o_int, o_isinI, o_isinT, o_isinB, o_isinI2, o_isinT2, t_ii, t_ib, t_is, t_it, t_il, t_tt, t_tl, t_ts, t_ti, t_tb, t_bb, t_bi, Cut.truthy, zb_bl, Bool.or_false, Bool.false_or, Bool.not_true, Bool.not_false, Bool.true_or, Bool.or_true, tb_dec, tb_some, tb_not, tb_true, tb_false, Cut.start, List.map, List.length, List.replicate, List.append_eq, List.cons_append, List.nil_append, List.getElem?_cons_zero, List.getElem?_cons_succ, List.set_cons_zero, List.set_cons_succ, Nat.reduceAdd, Nat.reduceSub, tyOf, if_true, if_false, Bool.false_eq_true, decide_true, decide_false, wp_ok, List.length_map]
          refine ⟨by omega, ?_⟩
          refine law_flips (N := 8 * W.length) (by omega) (by omega) (by omega) rb fun fl G1 hf _ m => ?_
          exact ⟨fl, rfl, m.rb, hf⟩
        rintro ρ G1 ⟨fl, rfl, rb1, hf⟩
        have ll := rb1.ll
        obtain ⟨cb, cl⟩ := flips_ok fl W hWb hf.2.1
        have hcf := crc_flips fl W hWb hf.2.1
        rw [hW0, Nat.zero_xor] at hcf
        have hseen : crc 0 (fl.foldl flip1 W) = 0 ↔ seen (8 * W.length) fl = 0 := by
          rw [hcf]
          exact ⟨fun h => shN_eq0 16 (seen_lt _ _) h, fun h => by rw [h, shN_zero]⟩
        refine s_mid (Q := fun ρ G => ρ = [some (.ref 0), some (.ref 1), some (.tup (bs.map .int)), some (.tup (W.map .int)), some (.int (0 + i)), some (.tup (ni fl)), some (.tup ((fl.foldl flip1 W).map .int)), x7, none, none, none, none, none, none, none] ∧ G = G1) ?_ ?_
        · simp only [s_pass, s_nil, s_cons, s_expr, s_set, s_par, s_setIx, s_setKey, s_augIx, s_aug, s_ifs, s_ret, s_retN, s_brk, s_cnt, s_never, w_k, w_v, w_un, w_bin, w_and, w_or, w_ite, w_chain, w_tup, wp_newL, w_lst, w_dic0, w_callD, w_sl, w_rev, w_call, w_bf, w_mt, w_nil, w_cons, w_no, w_some, Tg.bind, bindN, o_add, o_addT, o_sub, o_mul, o_fdiv, o_mod, o_pow, o_eq, o_ne, o_lt, o_le, o_gt, o_ge, o_isT, o_isI, o_isR, o_isN, o_eqB, o_neB, o_not, o_neg, o_lenT, o_int, o_isinI, o_isinT, o_isinB, o_isinI2, o_isinT2, t_ii, t_ib, t_is, t_it, t_il, t_tt, t_tl, t_ts, t_ti, t_tb, t_bb, t_bi, Cut.truthy, zb_bl, Bool.or_false, Bool.false_or, Bool.not_true, Bool.not_false, Bool.true_or, Bool.or_true, tb_dec, tb_some, tb_not, tb_true, tb_false, Cut.start, List.map, List.length, List.replicate, List.append_eq, List.cons_append, List.nil_append, List.getElem?_cons_zero, List.getElem?_cons_succ, List.set_cons_zero, List.set_cons_succ, Nat.reduceAdd, Nat.reduceSub, tyOf, if_true, if_false, Bool.false_eq_true, decide_true, decide_false, wp_ok]
          rw [law_flipped hWb (by omega) hf ll]
          simp only [s_pass, s_nil, s_cons, s_expr, s_set, s_par, s_setIx, s_setKey, s_augIx, s_aug, s_ifs, s_ret, s_retN, s_brk, s_cnt, s_never, w_k, w_v, w_un, w_bin, w_and, w_or, w_ite, w_chain, w_tup, wp_newL, w_lst, w_dic0, w_callD, w_sl, w_rev, w_call, w_bf, w_mt, w_nil, w_cons, w_no, w_some, Tg.bind, bindN, o_add, o_addT, o_sub, o_mul, o_fdiv, o_mod, o_pow, o_eq, o_ne, o_lt, o_le, o_gt, o_ge, o_isT, o_isI, o_isR, o_isN, o_eqB, o_neB, o_not, o_neg, o_lenT, o_int, o_isinI, o_isinT, o_isinB, o_isinI2, o_isinT2, t_ii, t_ib, t_is, t_it, t_il, t_tt, t_tl, t_ts, t_ti, t_tb, t_bb, t_bi, Cut.truthy, zb_bl, Bool.or_false, Bool.false_or, Bool.not_true, Bool.not_false, Bool.true_or, Bool.or_true, tb_dec, tb_some, tb_not, tb_true, tb_false, Cut.start, List.map, List.length, List.replicate, List.append_eq, List.cons_append, List.nil_append, List.getElem?_cons_zero, List.getElem?_cons_succ, List.set_cons_zero, List.set_cons_succ, Nat.reduceAdd, Nat.reduceSub, tyOf, if_true, if_false, Bool.false_eq_true, decide_true, decide_false, wp_ok]
          exact ⟨trivial, trivial⟩
        rintro ρ G2 ⟨rfl, rfl⟩
        have hfx : ∀ G : Store, G.lim ≤ G.cs.length → Cut.run T 11 13 [.tup (W.map .int), .tup (ni fl)] G = .ok (.tup ((fl.foldl flip1 W).map .int)) G := fun G hG => flipped hWb (by omega) hf hG
        generalize fl.foldl flip1 W = Ch at cb cl hcf hseen hfx ⊢
        have hst : decide (fix (crc 0 (Ch.take (Ch.length - 2))) 2 = Ch.drop (Ch.length - 2)) = decide (seen (8 * W.length) fl = 0) := by
          rw [decide_eq_decide, ← seal_iff cb (by omega), hseen]
        refine s_mid (Q := fun ρ G => ρ = [some (.ref 0), some (.ref 1), some (.tup (bs.map .int)), some (.tup (W.map .int)), some (.int (0 + i)), some (.tup (ni fl)), some (.tup (Ch.map .int)), some (.bl (decide (seen (8 * W.length) fl = 0))), none, none, none, none, none, none, none] ∧ G = G2) ?_ ?_
        · simp only [s_pass, s_nil, s_cons, s_expr, s_set, s_par, s_setIx, s_setKey, s_augIx, s_aug, s_ifs, s_ret, s_retN, s_brk, s_cnt, s_never, w_k, w_v, w_un, w_bin, w_and, w_or, w_ite, w_chain, w_tup, wp_newL, w_lst, w_dic0, w_callD, w_sl, w_rev, w_call, w_bf, w_mt, w_nil, w_cons, w_no, w_some, Tg.bind, bindN, o_add, o_addT, o_sub, o_mul, o_fdiv, o_mod, o_pow, o_eq, o_ne, o_lt, o_le, o_gt, o_ge, o_isT, o_isI, o_isR, o_isN, o_eqB, o_neB, o_not, o_neg, o_lenT, o_int, o_isinI, o_isinT, o_isinB, o_isinI2, o_isinT2, t_ii, t_ib, t_is, t_it, t_il, t_tt, t_tl, t_ts, t_ti, t_tb, t_bb, t_bi, Cut.truthy, zb_bl, Bool.or_false, Bool.false_or, Bool.not_true, Bool.not_false, Bool.true_or, Bool.or_true, tb_dec, tb_some, tb_not, tb_true, tb_false, Cut.start, List.map, List.length, List.replicate, List.append_eq, List.cons_append, List.nil_append, List.getElem?_cons_zero, List.getElem?_cons_succ, List.set_cons_zero, List.set_cons_succ, Nat.reduceAdd, Nat.reduceSub, tyOf, if_true, if_false, Bool.false_eq_true, decide_true, decide_false, wp_ok, o_slT]
          rw [cut_m2a, cut_m2b, law_crc (fun b h => cb b (List.mem_of_mem_take h)) (by rw [List.length_take]; unfold loopFuel; omega)]
          simp only [s_pass, s_nil, s_cons, s_expr, s_set, s_par, s_setIx, s_setKey, s_augIx, s_aug, s_ifs, s_ret, s_retN, s_brk, s_cnt, s_never, w_k, w_v, w_un, w_bin, w_and, w_or, w_ite, w_chain, w_tup, wp_newL, w_lst, w_dic0, w_callD, w_sl, w_rev, w_call, w_bf, w_mt, w_nil, w_cons, w_no, w_some, Tg.bind, bindN, o_add, o_addT, o_sub, o_mul, o_fdiv, o_mod, o_pow, o_eq, o_ne, o_lt, o_le, o_gt, o_ge, o_isT, o_isI, o_isR, o_isN, o_eqB, o_neB, o_not, o_neg, o_lenT, o_int, o_isinI, o_isinT, o_isinB, o_isinI2, o_isinT2, t_ii, t_ib, t_is, t_it, t_il, t_tt, t_tl, t_ts, t_ti, t_tb, t_bb, t_bi, Cut.truthy, zb_bl, Bool.or_false, Bool.false_or, Bool.not_true, Bool.not_false, Bool.true_or, Bool.or_true, tb_dec, tb_some, tb_not, tb_true, tb_false, Cut.start, List.map, List.length, List.replicate, List.append_eq, List.cons_append, List.nil_append, List.getElem?_cons_zero, List.getElem?_cons_succ, List.set_cons_zero, List.set_cons_succ, Nat.reduceAdd, Nat.reduceSub, tyOf, if_true, if_false, Bool.false_eq_true, decide_true, decide_false, wp_ok]
          rw [hbB rfl]
          simp only [s_pass, s_nil, s_cons, s_expr, s_set, s_par, s_setIx, s_setKey, s_augIx, s_aug, s_ifs, s_ret, s_retN, s_brk, s_cnt, s_never, w_k, w_v, w_un, w_bin, w_and, w_or, w_ite, w_chain, w_tup, wp_newL, w_lst, w_dic0, w_callD, w_sl, w_rev, w_call, w_bf, w_mt, w_nil, w_cons, w_no, w_some, Tg.bind, bindN, o_add, o_addT, o_sub, o_mul, o_fdiv, o_mod, o_pow, o_eq, o_ne, o_lt, o_le, o_gt, o_ge, o_isT, o_isI, o_isR, o_isN, o_eqB, o_neB, o_not, o_neg, o_lenT, o_int, o_isinI, o_isinT, o_isinB, o_isinI2, o_isinT2, t_ii, t_ib, t_is, t_it, t_il, t_tt, t_tl, t_ts, t_ti, t_tb, t_bb, t_bi, Cut.truthy, zb_bl, Bool.or_false, Bool.false_or, Bool.not_true, Bool.not_false, Bool.true_or, Bool.or_true, tb_dec, tb_some, tb_not, tb_true, tb_false, Cut.start, List.map, List.length, List.replicate, List.append_eq, List.cons_append, List.nil_append, List.getElem?_cons_zero, List.getElem?_cons_succ, List.set_cons_zero, List.set_cons_succ, Nat.reduceAdd, Nat.reduceSub, tyOf, if_true, if_false, Bool.false_eq_true, decide_true, decide_false, wp_ok, o_eqT, hst]
          exact ⟨trivial, trivial⟩
        rintro ρ G3 ⟨rfl, rfl⟩
        have hsd : decide (2 ≤ Ch.length ∧ crc 0 Ch = 0) = decide (seen (8 * W.length) fl = 0) := by
          rw [decide_eq_decide, hseen]; exact ⟨fun h => h.2, fun h => ⟨by omega, h⟩⟩
        refine s_mid (Q := fun ρ G => ρ = [some (.ref 0), some (.ref 1), some (.tup (bs.map .int)), some (.tup (W.map .int)), some (.int (0 + i)), some (.tup (ni fl)), some (.tup (Ch.map .int)), some (.bl (decide (seen (8 * W.length) fl = 0))), none, none, none, none, none, none, none] ∧ Rb 1 ns G) ?_ ?_
        · simp only [s_pass, s_nil, s_cons, s_expr, s_set, s_par, s_setIx, s_setKey, s_augIx, s_aug, s_ifs, s_ret, s_retN, s_brk, s_cnt, s_never, w_k, w_v, w_un, w_bin, w_and, w_or, w_ite, w_chain, w_tup, wp_newL, w_lst, w_dic0, w_callD, w_sl, w_rev, w_call, w_bf, w_mt, w_nil, w_cons, w_no, w_some, Tg.bind, bindN, o_add, o_addT, o_sub, o_mul, o_fdiv, o_mod, o_pow, o_eq, o_ne, o_lt, o_le, o_gt, o_ge, o_isT, o_isI, o_isR, o_isN, o_eqB, o_neB, o_not, o_neg, o_lenT, o_int, o_isinI, o_isinT, o_isinB, o_isinI2, o_isinT2, t_ii, t_ib, t_is, t_it, t_il, t_tt, t_tl, t_ts, t_ti, t_tb, t_bb, t_bi, Cut.truthy, zb_bl, Bool.or_false, Bool.false_or, Bool.not_true, Bool.not_false, Bool.true_or, Bool.or_true, tb_dec, tb_some, tb_not, tb_true, tb_false, Cut.start, List.map, List.length, List.replicate, List.append_eq, List.cons_append, List.nil_append, List.getElem?_cons_zero, List.getElem?_cons_succ, List.set_cons_zero, List.set_cons_succ, Nat.reduceAdd, Nat.reduceSub, tyOf, if_true, if_false, Bool.false_eq_true, decide_true, decide_false, wp_ok]
          rw [hfx G3 ll]
          simp only [s_pass, s_nil, s_cons, s_expr, s_set, s_par, s_setIx, s_setKey, s_augIx, s_aug, s_ifs, s_ret, s_retN, s_brk, s_cnt, s_never, w_k, w_v, w_un, w_bin, w_and, w_or, w_ite, w_chain, w_tup, wp_newL, w_lst, w_dic0, w_callD, w_sl, w_rev, w_call, w_bf, w_mt, w_nil, w_cons, w_no, w_some, Tg.bind, bindN, o_add, o_addT, o_sub, o_mul, o_fdiv, o_mod, o_pow, o_eq, o_ne, o_lt, o_le, o_gt, o_ge, o_isT, o_isI, o_isR, o_isN, o_eqB, o_neB, o_not, o_neg, o_lenT, o_int, o_isinI, o_isinT, o_isinB, o_isinI2, o_isinT2, t_ii, t_ib, t_is, t_it, t_il, t_tt, t_tl, t_ts, t_ti, t_tb, t_bb, t_bi, Cut.truthy, zb_bl, Bool.or_false, Bool.false_or, Bool.not_true, Bool.not_false, Bool.true_or, Bool.or_true, tb_dec, tb_some, tb_not, tb_true, tb_false, Cut.start, List.map, List.length, List.replicate, List.append_eq, List.cons_append, List.nil_append, List.getElem?_cons_zero, List.getElem?_cons_succ, List.set_cons_zero, List.set_cons_succ, Nat.reduceAdd, Nat.reduceSub, tyOf, if_true, if_false, Bool.false_eq_true, decide_true, decide_false, wp_ok]
          rw [is_sealed cb (by omega), hsd]
          simp only [s_pass, s_nil, s_cons, s_expr, s_set, s_par, s_setIx, s_setKey, s_augIx, s_aug, s_ifs, s_ret, s_retN, s_brk, s_cnt, s_never, w_k, w_v, w_un, w_bin, w_and, w_or, w_ite, w_chain, w_tup, wp_newL, w_lst, w_dic0, w_callD, w_sl, w_rev, w_call, w_bf, w_mt, w_nil, w_cons, w_no, w_some, Tg.bind, bindN, o_add, o_addT, o_sub, o_mul, o_fdiv, o_mod, o_pow, o_eq, o_ne, o_lt, o_le, o_gt, o_ge, o_isT, o_isI, o_isR, o_isN, o_eqB, o_neB, o_not, o_neg, o_lenT, o_int, o_isinI, o_isinT, o_isinB, o_isinI2, o_isinT2, t_ii, t_ib, t_is, t_it, t_il, t_tt, t_tl, t_ts, t_ti, t_tb, t_bb, t_bi, Cut.truthy, zb_bl, Bool.or_false, Bool.false_or, Bool.not_true, Bool.not_false, Bool.true_or, Bool.or_true, tb_dec, tb_some, tb_not, tb_true, tb_false, Cut.start, List.map, List.length, List.replicate, List.append_eq, List.cons_append, List.nil_append, List.getElem?_cons_zero, List.getElem?_cons_succ, List.set_cons_zero, List.set_cons_succ, Nat.reduceAdd, Nat.reduceSub, tyOf, if_true, if_false, Bool.false_eq_true, decide_true, decide_false, wp_ok]
          refine ⟨by decide, by decide, ?_⟩
          have r2 := (rb1.new (.lst [D.tup (Ch.map .int), .bl (decide (seen (8 * W.length) fl = 0))])).new (.lst [D.tup (Ch.map .int), .bl (decide (seen (8 * W.length) fl = 0))])
          rw [alike_lst (k := 10) (n := 1) (xs := [D.tup (Ch.map .int), .bl (decide (seen (8 * W.length) fl = 0))]) ?_ (show 2 < 2 ^ 20 by decide) (lst_new_old lst_new) lst_new (by decide) r2.ll]
          · simp only [s_pass, s_nil, s_cons, s_expr, s_set, s_par, s_setIx, s_setKey, s_augIx, s_aug, s_ifs, s_ret, s_retN, s_brk, s_cnt, s_never, w_k, w_v, w_un, w_bin, w_and, w_or, w_ite, w_chain, w_tup, wp_newL, w_lst, w_dic0, w_callD, w_sl, w_rev, w_call, w_bf, w_mt, w_nil, w_cons, w_no, w_some, Tg.bind, bindN, o_add, o_addT, o_sub, o_mul, o_fdiv, o_mod, o_pow, o_eq, o_ne, o_lt, o_le, o_gt, o_ge, o_isT, o_isI, o_isR, o_isN, o_eqB, o_neB, o_not, o_neg, o_lenT, o_int, o_isinI, o_isinT, o_isinB, o_isinI2, o_isinT2, t_ii, t_ib, t_is, t_it, t_il, t_tt, t_tl, t_ts, t_ti, t_tb, t_bb, t_bi, Cut.truthy, zb_bl, Bool.or_false, Bool.false_or, Bool.not_true, Bool.not_false, Bool.true_or, Bool.or_true, tb_dec, tb_some, tb_not, tb_true, tb_false, Cut.start, List.map, List.length, List.replicate, List.append_eq, List.cons_append, List.nil_append, List.getElem?_cons_zero, List.getElem?_cons_succ, List.set_cons_zero, List.set_cons_succ, Nat.reduceAdd, Nat.reduceSub, tyOf, if_true, if_false, Bool.false_eq_true, decide_true, decide_false, wp_ok]
            exact ⟨trivial, r2⟩
          · intro x hx
            rcases List.mem_cons.mp hx with rfl | hx
            · exact al_ints _ (by omega)
            · rw [List.mem_singleton.mp hx]; trivial
        rintro ρ G4 ⟨rfl, rb4⟩
        have ll4 := rb4.ll
        simp only [s_pass, s_nil, s_cons, s_expr, s_set, s_par, s_setIx, s_setKey, s_augIx, s_aug, s_ifs, s_ret, s_retN, s_brk, s_cnt, s_never, w_k, w_v, w_un, w_bin, w_and, w_or, w_ite, w_chain, w_tup, wp_newL, w_lst, w_dic0, w_callD, w_sl, w_rev, w_call, w_bf, w_mt, w_nil, w_cons, w_no, w_some, Tg.bind, bindN, o_add, o_addT, o_sub, o_mul, o_fdiv, o_mod, o_pow, o_eq, o_ne, o_lt, o_le, o_gt, o_ge, o_isT, o_isI, o_isR, o_isN, o_eqB, o_neB, o_not, o_neg, o_lenT, o_int, o_isinI, o_isinT, o_isinB, o_isinI2, o_isinT2, t_ii, t_ib, t_is, t_it, t_il, t_tt, t_tl, t_ts, t_ti, t_tb, t_bb, t_bi, Cut.truthy, zb_bl, Bool.or_false, Bool.false_or, Bool.not_true, Bool.not_false, Bool.true_or, Bool.or_true, tb_dec, tb_some, tb_not, tb_true, tb_false, Cut.start, List.map, List.length, List.replicate, List.append_eq, List.cons_append, List.nil_append, List.getElem?_cons_zero, List.getElem?_cons_succ, List.set_cons_zero, List.set_cons_succ, Nat.reduceAdd, Nat.reduceSub, tyOf, if_true, if_false, Bool.false_eq_true, decide_true, decide_false, wp_ok]
        rw [is_unseen (k := 7) (n := W.length) (NN := ((W.map D.int).length : Int)) (by rw [List.length_map]) (by omega) (by omega) hf ll4]
        simp only [s_pass, s_nil, s_cons, s_expr, s_set, s_par, s_setIx, s_setKey, s_augIx, s_aug, s_ifs, s_ret, s_retN, s_brk, s_cnt, s_never, w_k, w_v, w_un, w_bin, w_and, w_or, w_ite, w_chain, w_tup, wp_newL, w_lst, w_dic0, w_callD, w_sl, w_rev, w_call, w_bf, w_mt, w_nil, w_cons, w_no, w_some, Tg.bind, bindN, o_add, o_addT, o_sub, o_mul, o_fdiv, o_mod, o_pow, o_eq, o_ne, o_lt, o_le, o_gt, o_ge, o_isT, o_isI, o_isR, o_isN, o_eqB, o_neB, o_not, o_neg, o_lenT, o_int, o_isinI, o_isinT, o_isinB, o_isinI2, o_isinT2, t_ii, t_ib, t_is, t_it, t_il, t_tt, t_tl, t_ts, t_ti, t_tb, t_bb, t_bi, Cut.truthy, zb_bl, Bool.or_false, Bool.false_or, Bool.not_true, Bool.not_false, Bool.true_or, Bool.or_true, tb_dec, tb_some, tb_not, tb_true, tb_false, Cut.start, List.map, List.length, List.replicate, List.append_eq, List.cons_append, List.nil_append, List.getElem?_cons_zero, List.getElem?_cons_succ, List.set_cons_zero, List.set_cons_succ, Nat.reduceAdd, Nat.reduceSub, tyOf, if_true, if_false, Bool.false_eq_true, decide_true, decide_false, wp_ok]
        rw [Cut.alike hA 1 (.bl _) trivial 10 G4 (by decide) ll4]
        simp only [s_pass, s_nil, s_cons, s_expr, s_set, s_par, s_setIx, s_setKey, s_augIx, s_aug, s_ifs, s_ret, s_retN, s_brk, s_cnt, s_never, w_k, w_v, w_un, w_bin, w_and, w_or, w_ite, w_chain, w_tup, wp_newL, w_lst, w_dic0, w_callD, w_sl, w_rev, w_call, w_bf, w_mt, w_nil, w_cons, w_no, w_some, Tg.bind, bindN, o_add, o_addT, o_sub, o_mul, o_fdiv, o_mod, o_pow, o_eq, o_ne, o_lt, o_le, o_gt, o_ge, o_isT, o_isI, o_isR, o_isN, o_eqB, o_neB, o_not, o_neg, o_lenT, o_int, o_isinI, o_isinT, o_isinB, o_isinI2, o_isinT2, t_ii, t_ib, t_is, t_it, t_il, t_tt, t_tl, t_ts, t_ti, t_tb, t_bb, t_bi, Cut.truthy, zb_bl, Bool.or_false, Bool.false_or, Bool.not_true, Bool.not_false, Bool.true_or, Bool.or_true, tb_dec, tb_some, tb_not, tb_true, tb_false, Cut.start, List.map, List.length, List.replicate, List.append_eq, List.cons_append, List.nil_append, List.getElem?_cons_zero, List.getElem?_cons_succ, List.set_cons_zero, List.set_cons_succ, Nat.reduceAdd, Nat.reduceSub, tyOf, if_true, if_false, Bool.false_eq_true, decide_true, decide_false, wp_ok]
        exact ⟨_, _, _, _, rfl, rb4⟩
      · rintro ρ G ⟨x4, x5, x6, x7, rfl, rb⟩
        exact ⟨rng_end, x4, x5, x6, x7, rfl, rb⟩
    rintro ρ G ⟨x4, x5, x6, x7, rfl, rb⟩
    refine s_mid (Q := fun ρ G => ∃ (t : Nat) (v : Nat), ρ = [some (.ref 0), some (.ref 1), some (.tup (bs.map .int)), some (.tup (W.map .int)), x4, x5, x6, x7, some (.ref t), some (.int (v : Int)), none, none, none, none, none] ∧ Rb 1 ns G ∧ G.lst? t = some [.int 0, .int 4, .int 11, .int 16] ∧ v < 30) ?_ ?_
    · simp only [s_pass, s_nil, s_cons, s_expr, s_set, s_par, s_setIx, s_setKey, s_augIx, s_aug, s_ifs, s_ret, s_retN, s_brk, s_cnt, s_never, w_k, w_v, w_un, w_bin, w_and, w_or, w_ite, w_chain, w_tup, wp_newL, w_lst, w_dic0, w_callD, w_sl, w_rev, w_call, w_bf, w_mt, w_nil, w_cons, w_no, w_some, Tg.bind, bindN, o_add, o_addT, o_sub, o_mul, o_fdiv, o_mod, o_pow, o_eq, o_ne, o_lt, o_le, o_gt, o_ge, o_isT, o_isI, o_isR, o_isN, o_eqB, o_neB, o_not, o_neg, o_lenT, o_int, o_isinI, o_isinT, o_isinB, o_isinI2, o_isinT2, t_ii, t_ib, t_is, t_it, t_il, t_tt, t_tl, t_ts, t_ti, t_tb, t_bb, t_bi, Cut.truthy, zb_bl, Bool.or_false, Bool.false_or, Bool.not_true, Bool.not_false, Bool.true_or, Bool.or_true, tb_dec, tb_some, tb_not, tb_true, tb_false, Cut.start, List.map, List.length, List.replicate, List.append_eq, List.cons_append, List.nil_append, List.getElem?_cons_zero, List.getElem?_cons_succ, List.set_cons_zero, List.set_cons_succ, Nat.reduceAdd, Nat.reduceSub, tyOf, if_true, if_false, Bool.false_eq_true, decide_true, decide_false, wp_ok]
      refine ⟨by decide, ?_⟩
      have rb2 := rb.new (.lst [.int 0, .int 4, .int 11, .int 16])
      have hlt := rb.lt
      refine taken' hT rb2 (by decide) (by decide) fun v G1 a1 a2 m => ?_
      obtain ⟨v, rfl⟩ := Int.eq_ofNat_of_zero_le a1
      exact ⟨by decide, G.cs.length, v, rfl, m.rb, m.lst (by omega) lst_new, by omega⟩
    rintro ρ G1 ⟨t, v, rfl, rb1, ht, hv⟩
    have ll1 := rb1.ll
    refine s_mid (Q := fun ρ G => ρ = [some (.ref 0), some (.ref 1), some (.tup (bs.map .int)), some (.tup (W.map .int)), x4, x5, x6, x7, some (.ref t), some (.int (v : Int)), some (.tup (ni [v, v + 4, v + 11, v + 16])), none, none, none, none] ∧ Rb 1 ns G) ?_ ?_
    · simp only [s_pass, s_nil, s_cons, s_expr, s_set, s_par, s_setIx, s_setKey, s_augIx, s_aug, s_ifs, s_ret, s_retN, s_brk, s_cnt, s_never, w_k, w_v, w_un, w_bin, w_and, w_or, w_ite, w_chain, w_tup, wp_newL, w_lst, w_dic0, w_callD, w_sl, w_rev, w_call, w_bf, w_mt, w_nil, w_cons, w_no, w_some, Tg.bind, bindN, o_add, o_addT, o_sub, o_mul, o_fdiv, o_mod, o_pow, o_eq, o_ne, o_lt, o_le, o_gt, o_ge, o_isT, o_isI, o_isR, o_isN, o_eqB, o_neB, o_not, o_neg, o_lenT, o_int, o_isinI, o_isinT, o_isinB, o_isinI2, o_isinT2, t_ii, t_ib, t_is, t_it, t_il, t_tt, t_tl, t_ts, t_ti, t_tb, t_bb, t_bi, Cut.truthy, zb_bl, Bool.or_false, Bool.false_or, Bool.not_true, Bool.not_false, Bool.true_or, Bool.or_true, tb_dec, tb_some, tb_not, tb_true, tb_false, Cut.start, List.map, List.length, List.replicate, List.append_eq, List.cons_append, List.nil_append, List.getElem?_cons_zero, List.getElem?_cons_succ, List.set_cons_zero, List.set_cons_succ, Nat.reduceAdd, Nat.reduceSub, tyOf, if_true, if_false, Bool.false_eq_true, decide_true, decide_false, wp_ok, w_comp, i_one, srcOf, ht]
      refine comp_items (ds := [.int 0, .int 4, .int 11, .int 16]) (f := fun d => match d with | .int i => .int (v + i) | d => d) ll1 (by show 4 < 2 ^ 20; decide) (fun i G' g => ?_) ?_ ?_
      · show (G'.lst? t).map _ = _
        rw [g.lst ht]; rfl
      · intro d hd G' g
        simp only [List.mem_cons, List.not_mem_nil, or_false] at hd
        rcases hd with rfl | rfl | rfl | rfl
        · simp only [s_pass, s_nil, s_cons, s_expr, s_set, s_par, s_setIx, s_setKey, s_augIx, s_aug, s_ifs, s_ret, s_retN, s_brk, s_cnt, s_never, w_k, w_v, w_un, w_bin, w_and, w_or, w_ite, w_chain, w_tup, wp_newL, w_lst, w_dic0, w_callD, w_sl, w_rev, w_call, w_bf, w_mt, w_nil, w_cons, w_no, w_some, Tg.bind, bindN, o_add, o_addT, o_sub, o_mul, o_fdiv, o_mod, o_pow, o_eq, o_ne, o_lt, o_le, o_gt, o_ge, o_isT, o_isI, o_isR, o_isN, o_eqB, o_neB, o_not, o_neg, o_lenT, o_int, o_isinI, o_isinT, o_isinB, o_isinI2, o_isinT2, t_ii, t_ib, t_is, t_it, t_il, t_tt, t_tl, t_ts, t_ti, t_tb, t_bb, t_bi, Cut.truthy, zb_bl, Bool.or_false, Bool.false_or, Bool.not_true, Bool.not_false, Bool.true_or, Bool.or_true, tb_dec, tb_some, tb_not, tb_true, tb_false, Cut.start, List.map, List.length, List.replicate, List.append_eq, List.cons_append, List.nil_append, List.getElem?_cons_zero, List.getElem?_cons_succ, List.set_cons_zero, List.set_cons_succ, Nat.reduceAdd, Nat.reduceSub, tyOf, if_true, if_false, Bool.false_eq_true, decide_true, decide_false, wp_ok, wipeE]
          exact ⟨trivial, trivial⟩
        · simp only [s_pass, s_nil, s_cons, s_expr, s_set, s_par, s_setIx, s_setKey, s_augIx, s_aug, s_ifs, s_ret, s_retN, s_brk, s_cnt, s_never, w_k, w_v, w_un, w_bin, w_and, w_or, w_ite, w_chain, w_tup, wp_newL, w_lst, w_dic0, w_callD, w_sl, w_rev, w_call, w_bf, w_mt, w_nil, w_cons, w_no, w_some, Tg.bind, bindN, o_add, o_addT, o_sub, o_mul, o_fdiv, o_mod, o_pow, o_eq, o_ne, o_lt, o_le, o_gt, o_ge, o_isT, o_isI, o_isR, o_isN, o_eqB, o_neB, o_not, o_neg, o_lenT, o_int, o_isinI, o_isinT, o_isinB, o_isinI2, o_isinT2, t_ii, t_ib, t_is, t_it, t_il, t_tt, t_tl, t_ts, t_ti, t_tb, t_bb, t_bi, Cut.truthy, zb_bl, Bool.or_false, Bool.false_or, Bool.not_true, Bool.not_false, Bool.true_or, Bool.or_true, tb_dec, tb_some, tb_not, tb_true, tb_false, Cut.start, List.map, List.length, List.replicate, List.append_eq, List.cons_append, List.nil_append, List.getElem?_cons_zero, List.getElem?_cons_succ, List.set_cons_zero, List.set_cons_succ, Nat.reduceAdd, Nat.reduceSub, tyOf, if_true, if_false, Bool.false_eq_true, decide_true, decide_false, wp_ok, wipeE]
          exact ⟨trivial, trivial⟩
        · simp only [s_pass, s_nil, s_cons, s_expr, s_set, s_par, s_setIx, s_setKey, s_augIx, s_aug, s_ifs, s_ret, s_retN, s_brk, s_cnt, s_never, w_k, w_v, w_un, w_bin, w_and, w_or, w_ite, w_chain, w_tup, wp_newL, w_lst, w_dic0, w_callD, w_sl, w_rev, w_call, w_bf, w_mt, w_nil, w_cons, w_no, w_some, Tg.bind, bindN, o_add, o_addT, o_sub, o_mul, o_fdiv, o_mod, o_pow, o_eq, o_ne, o_lt, o_le, o_gt, o_ge, o_isT, o_isI, o_isR, o_isN, o_eqB, o_neB, o_not, o_neg, o_lenT, o_int, o_isinI, o_isinT, o_isinB, o_isinI2, o_isinT2, t_ii, t_ib, t_is, t_it, t_il, t_tt, t_tl, t_ts, t_ti, t_tb, t_bb, t_bi, Cut.truthy, zb_bl, Bool.or_false, Bool.false_or, Bool.not_true, Bool.not_false, Bool.true_or, Bool.or_true, tb_dec, tb_some, tb_not, tb_true, tb_false, Cut.start, List.map, List.length, List.replicate, List.append_eq, List.cons_append, List.nil_append, List.getElem?_cons_zero, List.getElem?_cons_succ, List.set_cons_zero, List.set_cons_succ, Nat.reduceAdd, Nat.reduceSub, tyOf, if_true, if_false, Bool.false_eq_true, decide_true, decide_false, wp_ok, wipeE]
          exact ⟨trivial, trivial⟩
        · simp only [s_pass, s_nil, s_cons, s_expr, s_set, s_par, s_setIx, s_setKey, s_augIx, s_aug, s_ifs, s_ret, s_retN, s_brk, s_cnt, s_never, w_k, w_v, w_un, w_bin, w_and, w_or, w_ite, w_chain, w_tup, wp_newL, w_lst, w_dic0, w_callD, w_sl, w_rev, w_call, w_bf, w_mt, w_nil, w_cons, w_no, w_some, Tg.bind, bindN, o_add, o_addT, o_sub, o_mul, o_fdiv, o_mod, o_pow, o_eq, o_ne, o_lt, o_le, o_gt, o_ge, o_isT, o_isI, o_isR, o_isN, o_eqB, o_neB, o_not, o_neg, o_lenT, o_int, o_isinI, o_isinT, o_isinB, o_isinI2, o_isinT2, t_ii, t_ib, t_is, t_it, t_il, t_tt, t_tl, t_ts, t_ti, t_tb, t_bb, t_bi, Cut.truthy, zb_bl, Bool.or_false, Bool.false_or, Bool.not_true, Bool.not_false, Bool.true_or, Bool.or_true, tb_dec, tb_some, tb_not, tb_true, tb_false, Cut.start, List.map, List.length, List.replicate, List.append_eq, List.cons_append, List.nil_append, List.getElem?_cons_zero, List.getElem?_cons_succ, List.set_cons_zero, List.set_cons_succ, Nat.reduceAdd, Nat.reduceSub, tyOf, if_true, if_false, Bool.false_eq_true, decide_true, decide_false, wp_ok, wipeE]
          exact ⟨trivial, trivial⟩
      · intro G2 g hx
        rw [o_tupL hx]
        exact ⟨rfl, rb_grown rb1 g⟩
    rintro ρ G2 ⟨rfl, rb2⟩
    refine s_mid (Q := fun ρ G => ∃ m : Nat, ρ = [some (.ref 0), some (.ref 1), some (.tup (bs.map .int)), some (.tup (W.map .int)), x4, x5, x6, x7, some (.ref t), some (.int (v : Int)), some (.tup (ni [v, v + 4, v + 11, v + 16])), none, some (.int (m : Int)), none, none] ∧ Rb 1 ns G ∧ 3 ≤ m ∧ m < 63) ?_ ?_
    · simp only [s_pass, s_nil, s_cons, s_expr, s_set, s_par, s_setIx, s_setKey, s_augIx, s_aug, s_ifs, s_ret, s_retN, s_brk, s_cnt, s_never, w_k, w_v, w_un, w_bin, w_and, w_or, w_ite, w_chain, w_tup, wp_newL, w_lst, w_dic0, w_callD, w_sl, w_rev, w_call, w_bf, w_mt, w_nil, w_cons, w_no, w_some, Tg.bind, bindN, o_add, o_addT, o_sub, o_mul, o_fdiv, o_mod, o_pow, o_eq, o_ne, o_lt, o_le, o_gt, o_ge, o_isT, o_isI, o_isR, o_isN, o_eqB, o_neB, o_not, o_neg, o_lenT, o_int, o_isinI, o_isinT, o_isinB, o_isinI2, o_isinT2, t_ii, t_ib, t_is, t_it, t_il, t_tt, t_tl, t_ts, t_ti, t_tb, t_bb, t_bi, Cut.truthy, zb_bl, Bool.or_false, Bool.false_or, Bool.not_true, Bool.not_false, Bool.true_or, Bool.or_true, tb_dec, tb_some, tb_not, tb_true, tb_false, Cut.start, List.map, List.length, List.replicate, List.append_eq, List.cons_append, List.nil_append, List.getElem?_cons_zero, List.getElem?_cons_succ, List.set_cons_zero, List.set_cons_succ, Nat.reduceAdd, Nat.reduceSub, tyOf, if_true, if_false, Bool.false_eq_true, decide_true, decide_false, wp_ok]
      refine taken' hT rb2 (by decide) (by decide) fun w G1 a1 a2 m => ?_
      obtain ⟨w, rfl⟩ := Int.eq_ofNat_of_zero_le a1
      simp only [s_pass, s_nil, s_cons, s_expr, s_set, s_par, s_setIx, s_setKey, s_augIx, s_aug, s_ifs, s_ret, s_retN, s_brk, s_cnt, s_never, w_k, w_v, w_un, w_bin, w_and, w_or, w_ite, w_chain, w_tup, wp_newL, w_lst, w_dic0, w_callD, w_sl, w_rev, w_call, w_bf, w_mt, w_nil, w_cons, w_no, w_some, Tg.bind, bindN, o_add, o_addT, o_sub, o_mul, o_fdiv, o_mod, o_pow, o_eq, o_ne, o_lt, o_le, o_gt, o_ge, o_isT, o_isI, o_isR, o_isN, o_eqB, o_neB, o_not, o_neg, o_lenT, o_int, o_isinI, o_isinT, o_isinB, o_isinI2, o_isinT2, t_ii, t_ib, t_is, t_it, t_il, t_tt, t_tl, t_ts, t_ti, t_tb, t_bb, t_bi, Cut.truthy, zb_bl, Bool.or_false, Bool.false_or, Bool.not_true, Bool.not_false, Bool.true_or, Bool.or_true, tb_dec, tb_some, tb_not, tb_true, tb_false, Cut.start, List.map, List.length, List.replicate, List.append_eq, List.cons_append, List.nil_append, List.getElem?_cons_zero, List.getElem?_cons_succ, List.set_cons_zero, List.set_cons_succ, Nat.reduceAdd, Nat.reduceSub, tyOf, if_true, if_false, Bool.false_eq_true, decide_true, decide_false, wp_ok]
      exact ⟨3 + w, rfl, m.rb, by omega, by omega⟩
    rintro ρ G3 ⟨m, rfl, rb3, hm1, hm2⟩
    have ll3 := rb3.ll
    have hlog : (8 : Int).natAbs.log2 = 3 := by decide +kernel
    have hlogm : (m : Int).natAbs.log2 < 8 := log2_lt (by rw [Int.natAbs_natCast]; omega) (by decide)
    refine s_mid (Q := fun ρ G => ρ = [some (.ref 0), some (.ref 1), some (.tup (bs.map .int)), some (.tup (W.map .int)), x4, x5, x6, x7, some (.ref t), some (.int (v : Int)), some (.tup (ni [v, v + 4, v + 11, v + 16])), none, some (.int (m : Int)), some (.bl (decide ((v : Int) + 16 < 8 * m))), none] ∧ G = G3) ?_ ?_
    · simp only [s_pass, s_nil, s_cons, s_expr, s_set, s_par, s_setIx, s_setKey, s_augIx, s_aug, s_ifs, s_ret, s_retN, s_brk, s_cnt, s_never, w_k, w_v, w_un, w_bin, w_and, w_or, w_ite, w_chain, w_tup, wp_newL, w_lst, w_dic0, w_callD, w_sl, w_rev, w_call, w_bf, w_mt, w_nil, w_cons, w_no, w_some, Tg.bind, bindN, o_add, o_addT, o_sub, o_mul, o_fdiv, o_mod, o_pow, o_eq, o_ne, o_lt, o_le, o_gt, o_ge, o_isT, o_isI, o_isR, o_isN, o_eqB, o_neB, o_not, o_neg, o_lenT, o_int, o_isinI, o_isinT, o_isinB, o_isinI2, o_isinT2, t_ii, t_ib, t_is, t_it, t_il, t_tt, t_tl, t_ts, t_ti, t_tb, t_bb, t_bi, Cut.truthy, zb_bl, Bool.or_false, Bool.false_or, Bool.not_true, Bool.not_false, Bool.true_or, Bool.or_true, tb_dec, tb_some, tb_not, tb_true, tb_false, Cut.start, List.map, List.length, List.replicate, List.append_eq, List.cons_append, List.nil_append, List.getElem?_cons_zero, List.getElem?_cons_succ, List.set_cons_zero, List.set_cons_succ, Nat.reduceAdd, Nat.reduceSub, tyOf, if_true, if_false, Bool.false_eq_true, decide_true, decide_false, wp_ok]
      exact ⟨by omega, trivial, trivial⟩
    rintro ρ G4 ⟨rfl, rfl⟩
    refine s_mid (Q := fun ρ G => ρ = [some (.ref 0), some (.ref 1), some (.tup (bs.map .int)), some (.tup (W.map .int)), x4, x5, x6, x7, some (.ref t), some (.int (v : Int)), some (.tup (ni [v, v + 4, v + 11, v + 16])), none, some (.int (m : Int)), some (.bl (decide ((v : Int) + 16 < 8 * m))), none] ∧ G = G4) ?_ ?_
    · by_cases hd : (v : Int) + 16 < 8 * m
      · rw [decide_eq_true hd]
        simp only [s_pass, s_nil, s_cons, s_expr, s_set, s_par, s_setIx, s_setKey, s_augIx, s_aug, s_ifs, s_ret, s_retN, s_brk, s_cnt, s_never, w_k, w_v, w_un, w_bin, w_and, w_or, w_ite, w_chain, w_tup, wp_newL, w_lst, w_dic0, w_callD, w_sl, w_rev, w_call, w_bf, w_mt, w_nil, w_cons, w_no, w_some, Tg.bind, bindN, o_add, o_addT, o_sub, o_mul, o_fdiv, o_mod, o_pow, o_eq, o_ne, o_lt, o_le, o_gt, o_ge, o_isT, o_isI, o_isR, o_isN, o_eqB, o_neB, o_not, o_neg, o_lenT, o_int, o_isinI, o_isinT, o_isinB, o_isinI2, o_isinT2, t_ii, t_ib, t_is, t_it, t_il, t_tt, t_tl, t_ts, t_ti, t_tb, t_bb, t_bi, Cut.truthy, zb_bl, Bool.or_false, Bool.false_or, Bool.not_true, Bool.not_false, Bool.true_or, Bool.or_true, tb_dec, tb_some, tb_not, tb_true, tb_false, Cut.start, List.map, List.length, List.replicate, List.append_eq, List.cons_append, List.nil_append, List.getElem?_cons_zero, List.getElem?_cons_succ, List.set_cons_zero, List.set_cons_succ, Nat.reduceAdd, Nat.reduceSub, tyOf, if_true, if_false, Bool.false_eq_true, decide_true, decide_false, wp_ok]
        have hf : Flips [v, v + 4, v + 11, v + 16] (8 * m) := ⟨by show 4 ≤ _; omega, by simp; omega, by simp⟩
        rw [is_unseen (k := 7) (n := m) rfl (by omega) (by omega) hf ll3, seen_taps (by omega)]
        simp only [s_pass, s_nil, s_cons, s_expr, s_set, s_par, s_setIx, s_setKey, s_augIx, s_aug, s_ifs, s_ret, s_retN, s_brk, s_cnt, s_never, w_k, w_v, w_un, w_bin, w_and, w_or, w_ite, w_chain, w_tup, wp_newL, w_lst, w_dic0, w_callD, w_sl, w_rev, w_call, w_bf, w_mt, w_nil, w_cons, w_no, w_some, Tg.bind, bindN, o_add, o_addT, o_sub, o_mul, o_fdiv, o_mod, o_pow, o_eq, o_ne, o_lt, o_le, o_gt, o_ge, o_isT, o_isI, o_isR, o_isN, o_eqB, o_neB, o_not, o_neg, o_lenT, o_int, o_isinI, o_isinT, o_isinB, o_isinI2, o_isinT2, t_ii, t_ib, t_is, t_it, t_il, t_tt, t_tl, t_ts, t_ti, t_tb, t_bb, t_bi, Cut.truthy, zb_bl, Bool.or_false, Bool.false_or, Bool.not_true, Bool.not_false, Bool.true_or, Bool.or_true, tb_dec, tb_some, tb_not, tb_true, tb_false, Cut.start, List.map, List.length, List.replicate, List.append_eq, List.cons_append, List.nil_append, List.getElem?_cons_zero, List.getElem?_cons_succ, List.set_cons_zero, List.set_cons_succ, Nat.reduceAdd, Nat.reduceSub, tyOf, if_true, if_false, Bool.false_eq_true, decide_true, decide_false, wp_ok]
        exact ⟨trivial, rfl⟩
      · rw [decide_eq_false hd]
        simp only [s_pass, s_nil, s_cons, s_expr, s_set, s_par, s_setIx, s_setKey, s_augIx, s_aug, s_ifs, s_ret, s_retN, s_brk, s_cnt, s_never, w_k, w_v, w_un, w_bin, w_and, w_or, w_ite, w_chain, w_tup, wp_newL, w_lst, w_dic0, w_callD, w_sl, w_rev, w_call, w_bf, w_mt, w_nil, w_cons, w_no, w_some, Tg.bind, bindN, o_add, o_addT, o_sub, o_mul, o_fdiv, o_mod, o_pow, o_eq, o_ne, o_lt, o_le, o_gt, o_ge, o_isT, o_isI, o_isR, o_isN, o_eqB, o_neB, o_not, o_neg, o_lenT, o_int, o_isinI, o_isinT, o_isinB, o_isinI2, o_isinT2, t_ii, t_ib, t_is, t_it, t_il, t_tt, t_tl, t_ts, t_ti, t_tb, t_bb, t_bi, Cut.truthy, zb_bl, Bool.or_false, Bool.false_or, Bool.not_true, Bool.not_false, Bool.true_or, Bool.or_true, tb_dec, tb_some, tb_not, tb_true, tb_false, Cut.start, List.map, List.length, List.replicate, List.append_eq, List.cons_append, List.nil_append, List.getElem?_cons_zero, List.getElem?_cons_succ, List.set_cons_zero, List.set_cons_succ, Nat.reduceAdd, Nat.reduceSub, tyOf, if_true, if_false, Bool.false_eq_true, decide_true, decide_false, wp_ok]
        exact ⟨trivial, trivial⟩
    rintro ρ G5 ⟨rfl, rfl⟩
    generalize decide ((v : Int) + 16 < 8 * m) = due
    generalize ni [v, v + 4, v + 11, v + 16] = kn
    generalize hni : ni [v, v + 1, v + 2] = ot
    generalize W.map D.int = xW
    generalize bs.map D.int = xb
    clear h0 hlim hlen hbits hcr hbB rb1 rb2 ht rb hl
    simp only [s_pass, s_nil, s_cons, s_expr, s_set, s_par, s_setIx, s_setKey, s_augIx, s_aug, s_ifs, s_ret, s_retN, s_brk, s_cnt, s_never, w_k, w_v, w_un, w_bin, w_and, w_or, w_ite, w_chain, w_tup, wp_newL, w_lst, w_dic0, w_callD, w_sl, w_rev, w_call, w_bf, w_mt, w_nil, w_cons, w_no, w_some, Tg.bind, bindN, o_add, o_addT, o_sub, o_mul, o_fdiv, o_mod, o_pow, o_eq, o_ne, o_lt, o_le, o_gt, o_ge, o_isT, o_isI, o_isR, o_isN, o_eqB, o_neB, o_not, o_neg, o_lenT, o_int, o_isinI, o_isinT, o_isinB, o_isinI2, o_isinT2, t_ii, t_ib, t_is, t_it, t_il, t_tt, t_tl, t_ts, t_ti, t_tb, t_bb, t_bi, Cut.truthy, zb_bl, Bool.or_false, Bool.false_or, Bool.not_true, Bool.not_false, Bool.true_or, Bool.or_true, tb_dec, tb_some, tb_not, tb_true, tb_false, Cut.start, List.map, List.length, List.replicate, List.append_eq, List.cons_append, List.nil_append, List.getElem?_cons_zero, List.getElem?_cons_succ, List.set_cons_zero, List.set_cons_succ, Nat.reduceAdd, Nat.reduceSub, tyOf, if_true, if_false, Bool.false_eq_true, decide_true, decide_false, wp_ok, w_comp]
    rw [i_rng2]
    simp only [s_pass, s_nil, s_cons, s_expr, s_set, s_par, s_setIx, s_setKey, s_augIx, s_aug, s_ifs, s_ret, s_retN, s_brk, s_cnt, s_never, w_k, w_v, w_un, w_bin, w_and, w_or, w_ite, w_chain, w_tup, wp_newL, w_lst, w_dic0, w_callD, w_sl, w_rev, w_call, w_bf, w_mt, w_nil, w_cons, w_no, w_some, Tg.bind, bindN, o_add, o_addT, o_sub, o_mul, o_fdiv, o_mod, o_pow, o_eq, o_ne, o_lt, o_le, o_gt, o_ge, o_isT, o_isI, o_isR, o_isN, o_eqB, o_neB, o_not, o_neg, o_lenT, o_int, o_isinI, o_isinT, o_isinB, o_isinI2, o_isinT2, t_ii, t_ib, t_is, t_it, t_il, t_tt, t_tl, t_ts, t_ti, t_tb, t_bb, t_bi, Cut.truthy, zb_bl, Bool.or_false, Bool.false_or, Bool.not_true, Bool.not_false, Bool.true_or, Bool.or_true, tb_dec, tb_some, tb_not, tb_true, tb_false, Cut.start, List.map, List.length, List.replicate, List.append_eq, List.cons_append, List.nil_append, List.getElem?_cons_zero, List.getElem?_cons_succ, List.set_cons_zero, List.set_cons_succ, Nat.reduceAdd, Nat.reduceSub, tyOf, if_true, if_false, Bool.false_eq_true, decide_true, decide_false, wp_ok]
    refine ⟨by omega, ?_⟩
    rw [show ((v : Int) + 3 - v).toNat = 3 by omega]
    refine comp_items (ds := [.int v, .int (v + 1), .int (v + 2)]) (f := fun d => d) ll3 (by show 3 < 2 ^ 20; decide) (fun i G' g => ?_) ?_ ?_
    · show some (if i < 3 then some (D.int (v + i)) else none) = _
      match i with
      | 0 => rfl
      | 1 => rfl
      | 2 => rfl
      | i + 3 => rw [if_neg (by omega)]; rfl
    · intro d hd G' g
      simp only [s_pass, s_nil, s_cons, s_expr, s_set, s_par, s_setIx, s_setKey, s_augIx, s_aug, s_ifs, s_ret, s_retN, s_brk, s_cnt, s_never, w_k, w_v, w_un, w_bin, w_and, w_or, w_ite, w_chain, w_tup, wp_newL, w_lst, w_dic0, w_callD, w_sl, w_rev, w_call, w_bf, w_mt, w_nil, w_cons, w_no, w_some, Tg.bind, bindN, o_add, o_addT, o_sub, o_mul, o_fdiv, o_mod, o_pow, o_eq, o_ne, o_lt, o_le, o_gt, o_ge, o_isT, o_isI, o_isR, o_isN, o_eqB, o_neB, o_not, o_neg, o_lenT, o_int, o_isinI, o_isinT, o_isinB, o_isinI2, o_isinT2, t_ii, t_ib, t_is, t_it, t_il, t_tt, t_tl, t_ts, t_ti, t_tb, t_bb, t_bi, Cut.truthy, zb_bl, Bool.or_false, Bool.false_or, Bool.not_true, Bool.not_false, Bool.true_or, Bool.or_true, tb_dec, tb_some, tb_not, tb_true, tb_false, Cut.start, List.map, List.length, List.replicate, List.append_eq, List.cons_append, List.nil_append, List.getElem?_cons_zero, List.getElem?_cons_succ, List.set_cons_zero, List.set_cons_succ, Nat.reduceAdd, Nat.reduceSub, tyOf, if_true, if_false, Bool.false_eq_true, decide_true, decide_false, wp_ok, wipeE]
      exact ⟨trivial, trivial⟩
    · intro G2 g hx
      have ll6 : G2.lim ≤ G2.cs.length := by have := g.len; have := g.lim; omega
      rw [o_tupL hx, show ([D.int v, D.int (v + 1), D.int (v + 2)].map fun d => d) = ot from hni]
      subst hni
      refine ⟨by omega, ?_⟩
      by_cases hd : 8 * (m : Int) ≤ (v : Int) + 2
      · rw [if_pos (decide_eq_true hd), decide_eq_true hd]
        exact gc_bl
      · rw [if_neg (by simpa using hd)]
        have hf : Flips [v, v + 1, v + 2] (8 * m) := ⟨by show 3 ≤ _; omega, by simp; omega, by simp⟩
        rw [is_unseen (k := 7) (n := m) rfl (by omega) (by omega) hf ll6, decide_eq_false (seen_three (by omega))]
        simp only [s_pass, s_nil, s_cons, s_expr, s_set, s_par, s_setIx, s_setKey, s_augIx, s_aug, s_ifs, s_ret, s_retN, s_brk, s_cnt, s_never, w_k, w_v, w_un, w_bin, w_and, w_or, w_ite, w_chain, w_tup, wp_newL, w_lst, w_dic0, w_callD, w_sl, w_rev, w_call, w_bf, w_mt, w_nil, w_cons, w_no, w_some, Tg.bind, bindN, o_add, o_addT, o_sub, o_mul, o_fdiv, o_mod, o_pow, o_eq, o_ne, o_lt, o_le, o_gt, o_ge, o_isT, o_isI, o_isR, o_isN, o_eqB, o_neB, o_not, o_neg, o_lenT, o_int, o_isinI, o_isinT, o_isinB, o_isinI2, o_isinT2, t_ii, t_ib, t_is, t_it, t_il, t_tt, t_tl, t_ts, t_ti, t_tb, t_bb, t_bi, Cut.truthy, zb_bl, Bool.or_false, Bool.false_or, Bool.not_true, Bool.not_false, Bool.true_or, Bool.or_true, tb_dec, tb_some, tb_not, tb_true, tb_false, Cut.start, List.map, List.length, List.replicate, List.append_eq, List.cons_append, List.nil_append, List.getElem?_cons_zero, List.getElem?_cons_succ, List.set_cons_zero, List.set_cons_succ, Nat.reduceAdd, Nat.reduceSub, tyOf, if_true, if_false, Bool.false_eq_true, decide_true, decide_false, wp_ok]
        exact gc_bl
  obtain ⟨d, G, e, rfl⟩ := wp_iff.mp this
  exact ⟨G, e⟩
end K05
namespace K05
open PySem Cut
theorem fnsOk : ∀ x n, Γ.fns.lookup x = some n → ∃ d, Ds[n]? = some d ∧ d.name = x ∧ Γ.dflOf x = d.dfl := Cut.fns_of (by decide +kernel)
end K05
namespace K05
open PySem PySem.Spec PyProof.Rows L2 Cut
abbrev R : PySem.W.OpenRow := PySem.W.OpenLaw.row PySem.Challenge.rw_cutledger_k05_whole_checks
abbrev hk : PySem.W.Hook := Cut.hook 4 Γ Ds
def ob (s : PySem.W.SharedT) : He.AlX := He.obsX 4 (facts Γ Ds) (Ds.map Df.he) [] (tabDefs Ds) (conEx Γ) (HandSHeadRun.getT s)
theorem ob_eq (s : PySem.W.SharedT) : ob s = hk.obs s.abs := He.obsX_eq (HandSHeadRun.getT_eq s)
def loose : List PySem.Str := (["CutError", "BadRow", "BadNumber", "BadFlips", "TooMany", "MOST_ROW", "is_number", "are_bytes", "need_row", "need_number", "fixed_code", "TOP", "TAPS", "BIT_VALUES", "MOST_FLIPS", "shifted"] : List PySem.Str) ++ (["check_row", "are_flips", "need_flips", "rests_of", "check_of", "sealed", "is_sealed", "flipped", "is_unseen", "_law_taken", "_law_pick", "_law_row", "_law_alike", "_law_divided", "_law_crc", "_law_bytes"] : List PySem.Str) ++ (["_law_flips", "_law_flipped"] : List PySem.Str)
theorem run (w : World) : HandSHeadRun.RunEq R (PySem.W.view R.prog [38]) hk ob 8000 loose w := by
  intro os
  kernel_rfl
end K05
open PySem PySem.W PySem.Calls PyProof.Rows
theorem PySem.Challenge.cw_cutledger_k05_whole_checks_holds : PySem.Challenge.rw_cutledger_k05_whole_checks.Holds := by
  w_on; o_law
  refine HandSHeadRun.head_any (r := OpenLaw.row PySem.Challenge.rw_cutledger_k05_whole_checks) (q := view (OpenLaw.row PySem.Challenge.rw_cutledger_k05_whole_checks).prog [38]) (H := K05.hk) (ob := K05.ob) (M := 8000) (loose := K05.loose) (d := HandSHeadRun.topDef (OpenLaw.row PySem.Challenge.rw_cutledger_k05_whole_checks).prog 38) (kwd := []) K05.ob_eq
    (by kernel_rfl) (fun s => by kernel_rfl) K05.run (by kernel_rfl) (by kernel_rfl) (by kernel_rfl) (by rfl) (by first | assumption | decide +kernel) (by decide +kernel) ⟨rfl, rfl, rfl, rfl, rfl, by decide +kernel⟩ ?hw ?hc
  case hw => w_witness2
  case hc =>
    refine LamX.walk_ofTsE (l := PySem.Challenge.rw_cutledger_k05_whole_checks) (n := 63) (k := 2 * 12) (x := "_law_script") (CX := fun w => L2.CX (PySem.Challenge.rw_cutledger_k05_whole_checks).prog w) rfl (by decide) (by kernel_rfl) ⟨rfl, by decide, by decide⟩ ?F (fun _ _ _ _ _ ⟨_, _, _, _, _, _, _, _, _, _, _, _, z⟩ => z.elim)
    intro w mg fa h Y G hmg0
    obtain ⟨K, KX, c⟩ := Y
    have hmg : mg ("law" : PySem.Str) = some (.ref fa) := by
      have e : (HandSHeadRun.topDef (OpenLaw.row PySem.Challenge.rw_cutledger_k05_whole_checks).prog 38).name = ("law" : PySem.Str) := by kernel_rfl
      rw [← e]
      exact hmg0
    exact ⟨K, KX, Cut.law_at (Γ := K05.Γ) (Ds := K05.Ds) (k := 12) (nl := 24) (most := 63) (dl := K05.d24) KX G c hmg rfl rfl (by decide +kernel) K05.fnsOk K05.cks rfl K05.bns K05.answers⟩
