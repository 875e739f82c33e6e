import PyProof.Rows.All
import Wide.All
import OpenK.AllK
import Wide.FinOn
import HandS.ForMost
import HandS.ForExc
import HandS.WordsExc
import KE.SortData
import KE.KeyNested
import HandS.TupAny
import HandS.TupMul
import HandS.IsInst
import HandS.Deep
import HandS.Style
import HandS.CallSlots
import HandS.Walk
import HandS.Zip
import HandS.Conv
import KE.DataCmp
import KE.DataMinMax
import PyProof.P3In
import HandS.RaiseMore
import HandS.SetFor
import KE.KIndexOf
import HandS.ExcOwn
import KE.GoesEnum
import KE.GoesMore
import HandS.Small
import HandS.Strs
import HandS.HotCalls
import HandS.ExcIs
import HandS.CallRecv
import HandS.TupSets
import KE.KDictKeyed
import HandS.EndBits
import PyProof.ExcBaseAll.ValueError
import PySem.Challenge.RW_bothrounds_k13_books_refused
set_option Elab.async false
set_option linter.all false
set_option maxRecDepth 100000
/-! B0: data, a small syntax of our own, its evaluator. -/
namespace Bo
open PySem

abbrev Key := L2.Key

/-- data: None, bools, ints, texts, tuples, lists and dicts that no longer change, the script, a tuple of the module's, a mutable thing by its number, a def or class by its number -/
inductive D where
  | non | bl (b : Bool) | int (i : Int) | str (s : Str)
  | tup (ds : List D) | lst (ds : List D)
  | dct (ks : List (List Key)) (vs : List D)
  | arg (ns : List Int)
  | ktp (ds : List D)
  | ref (n : Nat)
  | fn (f : Nat)
  deriving Inhabited

/-- mutable things -/
inductive MO where
  | lst (ds : List D) | dct (ks : List (List Key)) (vs : List D) | ins (c : Nat) (fs : List (Str × D))
abbrev M := List MO
abbrev Sg := List (Option D)

inductive Rs (α : Type) where
  | ok (a : α) | ex (c : Nat)

section
variable {α β : Type}
def bnd (r : Option (Rs α × M)) (k : α → M → Option (Rs β × M)) : Option (Rs β × M) :=
  match r with
  | some (.ok a, m) => k a m
  | some (.ex c, m) => some (.ex c, m)
  | none => none
@[simp] theorem bnd_ok (a : α) (m : M) (k : α → M → Option (Rs β × M)) : bnd (some (.ok a, m)) k = k a m := rfl
@[simp] theorem bnd_ex (c : Nat) (m : M) (k : α → M → Option (Rs β × M)) : bnd (some (.ex c, m)) k = some (.ex c, m) := rfl
@[simp] theorem bnd_none (k : α → M → Option (Rs β × M)) : bnd (none : Option (Rs α × M)) k = none := rfl
/-- a value that may be missing -/
def giv (d : Option α) (m : M) : Option (Rs α × M) := match d with
  | some d => some (.ok d, m)
  | none => none
@[simp] theorem giv_some (d : α) (m : M) : giv (some d) m = some (.ok d, m) := rfl
@[simp] theorem giv_none (m : M) : giv (none : Option α) m = none := rfl
end

mutual
def D.beq : D → D → Bool
  | .non, .non => true
  | .bl a, .bl b => a == b
  | .int a, .int b => a == b
  | .str a, .str b => a == b
  | .tup a, .tup b => D.beqs a b
  | .lst a, .lst b => D.beqs a b
  | .ktp a, .ktp b => D.beqs a b
  | .dct a u, .dct b v => decide (a = b) && D.beqs u v
  | .arg a, .arg b => a == b
  | .ref a, .ref b => a == b
  | .fn a, .fn b => a == b
  | _, _ => false
def D.beqs : List D → List D → Bool
  | [], [] => true
  | a :: r, b :: s => D.beq a b && D.beqs r s
  | _, _ => false
end
mutual
theorem D.beq_eq : ∀ (a b : D), D.beq a b = true → a = b
  | .non, b, h => by cases b <;> simp_all [D.beq]
  | .bl _, b, h => by cases b <;> simp_all [D.beq]
  | .int _, b, h => by cases b <;> simp_all [D.beq]
  | .str _, b, h => by cases b <;> simp_all [D.beq]
  | .tup x, b, h => by
    cases b with
    | tup y => rw [D.beqs_eq x y (by simpa [D.beq] using h)]
    | _ => simp [D.beq] at h
  | .lst x, b, h => by
    cases b with
    | lst y => rw [D.beqs_eq x y (by simpa [D.beq] using h)]
    | _ => simp [D.beq] at h
  | .ktp x, b, h => by
    cases b with
    | ktp y => rw [D.beqs_eq x y (by simpa [D.beq] using h)]
    | _ => simp [D.beq] at h
  | .dct k x, b, h => by
    cases b with
    | dct l y =>
      have h' : k = l ∧ D.beqs x y = true := by simpa [D.beq] using h
      rw [h'.1, D.beqs_eq x y h'.2]
    | _ => simp [D.beq] at h
  | .arg _, b, h => by cases b <;> simp_all [D.beq]
  | .ref _, b, h => by cases b <;> simp_all [D.beq]
  | .fn _, b, h => by cases b <;> simp_all [D.beq]
theorem D.beqs_eq : ∀ (a b : List D), D.beqs a b = true → a = b
  | [], [], _ => rfl
  | [], _ :: _, h => by simp [D.beqs] at h
  | _ :: _, [], h => by simp [D.beqs] at h
  | a :: r, b :: s, h => by
    have h' : D.beq a b = true ∧ D.beqs r s = true := by simpa [D.beqs] using h
    rw [D.beq_eq a b h'.1, D.beqs_eq r s h'.2]
end
mutual
theorem D.beq_refl : ∀ (a : D), D.beq a a = true
  | .non => by simp [D.beq]
  | .bl _ => by simp [D.beq]
  | .int _ => by simp [D.beq]
  | .str _ => by simp [D.beq]
  | .tup x => by simp [D.beq, D.beqs_refl x]
  | .lst x => by simp [D.beq, D.beqs_refl x]
  | .ktp x => by simp [D.beq, D.beqs_refl x]
  | .dct k x => by simp [D.beq, D.beqs_refl x]
  | .arg _ => by simp [D.beq]
  | .ref _ => by simp [D.beq]
  | .fn _ => by simp [D.beq]
theorem D.beqs_refl : ∀ (a : List D), D.beqs a a = true
  | [] => by simp [D.beqs]
  | a :: r => by simp [D.beqs, D.beq_refl a, D.beqs_refl r]
end

/-! ### what data read as, to the library -/
mutual
def D.py : D → Option PyData
  | .non => some .none
  | .bl b => some (.bool b)
  | .int i => some (.int i)
  | .str s => some (.str s)
  | .tup ds => (pys ds).map .tuple
  | .lst ds => (pys ds).map .list
  | .ktp ds => (pys ds).map .tuple
  | .arg ns => some (.list (ns.map .int))
  | .dct _ _ => none
  | .ref _ => none
  | .fn _ => none
def pys : List D → Option (List PyData)
  | [] => some []
  | d :: r => match D.py d, pys r with
    | some x, some y => some (x :: y)
    | _, _ => none
end
mutual
/-- no mutable thing within -/
def D.nr : D → Bool
  | .tup ds => nrs ds
  | .lst ds => nrs ds
  | .ktp ds => nrs ds
  | .dct _ vs => nrs vs
  | .ref _ => false
  | _ => true
def nrs : List D → Bool
  | [] => true
  | d :: r => D.nr d && nrs r
end
/-- the items of a list, a tuple, a mutable list -/
def seqM (m : M) : D → Option (List D)
  | .tup ds => some ds
  | .lst ds => some ds
  | .ktp ds => some ds
  | .arg ns => some (ns.map .int)
  | .ref n => match m[n]? with
    | some (.lst ds) => some ds
    | _ => none
  | _ => none
/-- the items of a list (no tuple) -/
def lstM (m : M) : D → Option (List D)
  | .lst ds => some ds
  | .ref n => match m[n]? with
    | some (.lst ds) => some ds
    | _ => none
  | _ => none
def pyM (m : M) : D → Option PyData
  | .ref n => match m[n]? with
    | some (.lst ds) => (pys ds).map .list
    | _ => none
  | d => d.py
def shp (p : PyData) : Bool := SeqAt.shaped p

/-! ### keys, dicts -/
def keyD : Key → D
  | .inl i => .int i
  | .inr s => .str s
def keyT (k : List Key) : D := .tup (k.map keyD)
def toK1 : D → Option Key
  | .int i => some (.inl i)
  | .str s => some (.inr s)
  | _ => none
def toKs : List D → Option (List Key)
  | [] => some []
  | d :: r => match toK1 d, toKs r with
    | some k, some ks => some (k :: ks)
    | _, _ => none
def toK : D → Option (List Key)
  | .tup ds => toKs ds
  | _ => none
def dget : List (List Key) → List D → List Key → Option D
  | a :: ks, v :: vs, k => if a = k then some v else dget ks vs k
  | _, _, _ => none
def drep : List (List Key) → List D → List Key → D → List D
  | a :: ks, v :: vs, k, x => (if a = k then x else v) :: drep ks vs k x
  | _, _, _, _ => []
def dput (ks : List (List Key)) (vs : List D) (k : List Key) (x : D) : List D := if (dget ks vs k).isSome then drep ks vs k x else vs ++ [x]
def dctM (m : M) : D → Option (List (List Key) × List D)
  | .dct ks vs => some (ks, vs)
  | .ref n => match m[n]? with
    | some (.dct ks vs) => some (ks, vs)
    | _ => none
  | _ => none

/-! ### operators -/
inductive Op where
  | add | sub | mul | fdiv | mod | pow
  deriving DecidableEq
inductive Cm where
  | eq | ne | lt | le | gt | ge | isin | notin
  deriving DecidableEq
inductive Bi where
  | len | sum | all | any | srt | tup | min1 | min2 | abs | str | int
  deriving DecidableEq

def small (i : Int) : Bool := decide (-(2 ^ 64) < i) && decide (i < 2 ^ 64)
def rep (k : Nat) (ds : List D) : List D := (List.replicate k ds).flatten
def addD (m : M) : D → D → Option D
  | .int i, .int j => some (.int (i + j))
  | .str a, .str b => if a.length + b.length ≤ sizeLine then some (.str (a ++ b)) else none
  | .tup a, .tup b => if a.length + b.length ≤ sizeLine then some (.tup (a ++ b)) else none
  | x, y => match lstM m x, lstM m y with
    | some a, some b => if a.length + b.length ≤ sizeLine then some (.lst (a ++ b)) else none
    | _, _ => none
def mulD (m : M) : D → D → Option D
  | .int i, .int j => if small i || small j then some (.int (i * j)) else none
  | .tup a, .int k => if decide (2 ≤ k) && decide (k ≤ 1000) && decide (a.length ≤ 1000) && !a.isEmpty then some (.tup (rep k.toNat a)) else none
  | x, .int k => match lstM m x with
    | some a => if decide (0 ≤ k) && decide (k ≤ 1000) && decide (a.length ≤ 1000) then some (.lst (rep k.toNat a)) else none
    | none => none
  | _, _ => none
def intD (f : Int → Int → Option Int) : D → D → Option D
  | .int i, .int j => (f i j).map .int
  | _, _ => none
def opBin (m : M) (o : Op) (x y : D) : Option D := match o with
  | .add => addD m x y
  | .mul => mulD m x y
  | .sub => intD (fun i j => some (i - j)) x y
  | .fdiv => intD (fun i j => if decide (0 < j) && decide (j < 1073741824) then some (i / j) else none) x y
  | .mod => intD (fun i j => if decide (0 < j) then some (i % j) else none) x y
  | .pow => intD (fun i j => if decide (0 ≤ j) && decide (j ≤ 1000000) && decide (i.natAbs < 2 ^ 64) then some (i ^ j.toNat) else none) x y

def eqD (m : M) : D → D → Option Bool
  | .int i, .int j => some (decide (i = j))
  | .str a, .str b => some (decide (a = b))
  | .bl a, .bl b => some (decide (a = b))
  | x, y => match pyM m x, pyM m y with
    | some p, some q => if shp p && shp q then some (PyData.eqv p q) else none
    | _, _ => none
def ltD (m : M) : D → D → Option Bool
  | .int i, .int j => some (decide (i < j))
  | .non, _ => none
  | x, y => match D.py x, D.py y with
    | some p, some q => if W.alike p q && shp p && shp q then some (W.dataLt p q) else none
    | _, _ => none
/-- is d among the items -/
def inL (d : PyData) (ps : List PyData) : Bool := ps.any fun z => PyData.eqv z d
def inD (m : M) (x y : D) : Option Bool :=
  match dctM m y with
  | some (ks, vs) => match toK x with
    | some k => some (dget ks vs k).isSome
    | none => none
  | none => match y with
    | .str b => match x with
      | .str a => some (!(Builtin.Str.occurrences b a 0 b.length 1).isEmpty)
      | _ => none
    | y => match seqM m y with
      | some ds => match D.py x, pys ds with
        | some p, some ps => if shp p && shp (.list ps) then some (inL p ps) else none
        | _, _ => none
      | none => none
def intB (f : Int → Int → Bool) : D → D → Option Bool
  | .int i, .int j => some (f i j)
  | _, _ => none
def opCmp (m : M) (o : Cm) (x y : D) : Option Bool := match o with
  | .eq => eqD m x y
  | .ne => (eqD m x y).map not
  | .lt => ltD m x y
  | .gt => ltD m y x
  | .le => intB (fun i j => decide (i ≤ j)) x y
  | .ge => intB (fun i j => decide (j ≤ i)) x y
  | .isin => inD m x y
  | .notin => (inD m x y).map not

def intsD : List D → Option (List Int)
  | [] => some []
  | .int i :: r => (intsD r).map (i :: ·)
  | _ :: _ => none
def blsD : List D → Option (List Bool)
  | [] => some []
  | .bl b :: r => (blsD r).map (b :: ·)
  | _ :: _ => none
/-- an order's insertion -/
def ins1 {α : Type} (le : α → α → Bool) (x : α) : List α → List α
  | [] => [x]
  | y :: r => if le x y then x :: y :: r else y :: ins1 le x r
def isort {α : Type} (le : α → α → Bool) : List α → List α
  | [] => []
  | x :: r => ins1 le x (isort le r)
def encD (d : D) : PyData := (D.py d).getD .none
def leD (a b : D) : Bool := !W.dataLt (encD b) (encD a)
def alikes (ps : List PyData) : Bool := ps.all fun p => ps.all fun q => W.alike p q
def srtOk (ps : List PyData) : Bool :=
  alikes ps && ps.all shp && (ps.all (fun | .tuple (_ :: _) => true | _ => false) || ps.all fun | .none => false | .tuple _ => false | _ => true)
def srtD (ds : List D) : Option (List D) := match pys ds with
  | some ps => if srtOk ps && decide (ds.length ≤ sizeLine) then some (isort (W.dataLe false encD) ds) else none
  | none => none
mutual
/-- what a set of these may have: ints, texts, tuples of such -/
def D.hsh : D → Bool
  | .int _ => true
  | .str _ => true
  | .tup ds => hshs ds
  | _ => false
def hshs : List D → Bool
  | [] => true
  | d :: r => D.hsh d && hshs r
end
/-- put into a strictly rising list -/
def insS (x : Int) : List Int → List Int
  | [] => [x]
  | y :: r => if x < y then x :: y :: r else if x = y then y :: r else y :: insS x r
/-- each once, rising -/
def sdI (ns : List Int) : List Int := ns.foldr insS []
/-! a datum as a key -/
mutual
def nk : D → NestedKey
  | .int i => .num i
  | .str x => .text x
  | .tup ds => .tup (nks ds)
  | _ => .none
def nks : List D → List NestedKey
  | [] => []
  | d :: r => nk d :: nks r
end
/-- each once -/
def ddD : List D → List D
  | [] => []
  | d :: r => if (ddD r).any (D.beq d) then ddD r else d :: ddD r
def upD : List D → Bool
  | [] => true
  | a :: r => r.all (fun b => W.dataLt (encD a) (encD b)) && upD r
/-- sorted(set(..)) of a list of tuples -/
def sstL (ds : List D) : Option (List D) :=
  if (ds.all fun d => match d with | .tup es => hshs es && decide ((nk d).depth ≤ 8) | _ => false) && decide (ds.length < 64) then
    match srtD (ddD ds) with
    | some L => if upD L then some L else none
    | none => none
  else none
/-- sorted(set(..)), len(set(..)) -/
def sstM (m : M) (x : D) : Option (List D) := match x with
  | .tup ds => (intsD ds).bind fun ns => if ns.length < 60 then some ((sdI ns).map .int) else none
  | x => (lstM m x).bind sstL
def lstD1 (ds : List D) : Option Nat := match intsD ds with
  | some ns => if ns.length ≤ 4000 then some (sdI ns).length else none
  | none => none
def strsD : List D → Option (List Str)
  | [] => some []
  | .str s :: r => (strsD r).map (s :: ·)
  | _ :: _ => none
/-- the least, the first of several -/
def least : D → List D → D
  | x, [] => x
  | x, y :: r => if W.dataLt (encD y) (encD x) then least y r else least x r
def minD : List D → Option D
  | [] => none
  | x :: r => match pys (x :: r) with
    | some ps => if alikes ps && ps.all shp && ps.all (fun | .none => false | _ => true) then some (least x r) else none
    | none => none

def lenD (m : M) : List D → Option D
  | [x] => match x with
    | .str s => if s.length ≤ sizeLine then some (.int s.length) else none
    | x => match seqM m x with
      | some ds => some (.int (ds.length : Nat))
      | none => none
  | _ => none
def sumD (m : M) : List D → Option D
  | [x] => ((lstM m x).bind intsD).map fun ns => .int ns.sum
  | _ => none
def allD (m : M) : List D → Option D
  | [x] => ((lstM m x).bind blsD).map fun bs => .bl (bs.all id)
  | _ => none
def anyD (m : M) : List D → Option D
  | [x] => ((lstM m x).bind blsD).map fun bs => .bl (bs.any id)
  | _ => none
/-- the items of a list, the script's too -/
def lsaM (m : M) : D → Option (List D)
  | .arg ns => some (ns.map .int)
  | x => lstM m x
/-- what sorted takes -/
def stsM (m : M) : D → Option (List D)
  | .tup ds => some ds
  | x => lsaM m x
def srt1 (m : M) : List D → Option D
  | [x] => ((stsM m x).bind srtD).map .lst
  | _ => none
def tupD (m : M) : List D → Option D
  | [.ktp _] => none
  | [x] => (seqM m x).map .tup
  | _ => none
def min1D (m : M) : List D → Option D
  | [x] => (lstM m x).bind minD
  | _ => none
def min2D : List D → Option D
  | [.int i, .int j] => some (.int (if j < i then j else i))
  | _ => none
def absD : List D → Option D
  | [.int i] => some (.int (if i < 0 then -i else i))
  | _ => none
def strD : List D → Option D
  | [.int i] => if i.natAbs.log2 < 1920 then some (.str (toString i)) else none
  | [.str s] => some (.str s)
  | _ => none
def intD1 : List D → Option D
  | [.int i] => some (.int i)
  | [.bl b] => some (.int (if b then 1 else 0))
  | [.str s] => match intText? s with
    | some n => if s.length ≤ 640 then some (.int n) else none
    | none => none
  | _ => none
def opBi (m : M) (b : Bi) (ds : List D) : Option D := match b with
  | .len => lenD m ds
  | .sum => sumD m ds
  | .all => allD m ds
  | .any => anyD m ds
  | .srt => srt1 m ds
  | .tup => tupD m ds
  | .min1 => min1D m ds
  | .min2 => min2D ds
  | .abs => absD ds
  | .str => strD ds
  | .int => intD1 ds

/-! ### places -/
def ixD (m : M) (x i : D) : Option D :=
  match dctM m x with
  | some (ks, vs) => (toK i).bind fun k => dget ks vs k
  | none => match x, i with
    | .str s, .int j => if s.length ≤ sizeLine then (L2.atI s.cps.toList j).map fun c => .str ⟨#[c]⟩ else none
    | x, .int j => (seqM m x).bind fun ds => L2.atI ds j
    | _, _ => none
def cut {α : Type} (xs : List α) (lo hi : Option Int) : List α := (xs.drop (HT.sIx xs.length 0 lo)).take (HT.sIx xs.length xs.length hi - HT.sIx xs.length 0 lo)
def slD (m : M) (x : D) (lo hi : Option Int) : Option D :=
  match x with
  | .tup ds => some (.tup (cut ds lo hi))
  | .str s => if s.length ≤ sizeLine then some (.str (L2.cutS s lo hi)) else none
  | x => (lstM m x).map fun ds => .lst (cut ds lo hi)
def rvD (m : M) (x : D) : Option D :=
  match x with
  | .tup ds => some (.tup ds.reverse)
  | x => (lstM m x).map fun ds => .lst ds.reverse

/-! ### methods -/
def cntD (m : M) (o d : D) : Option D := match d with
  | .int k => ((lstM m o).bind intsD).map fun ns => .int (ns.count k : Nat)
  | _ => none
def idxD (o d : D) : Option D := match o with
  | .tup ds => match d with
    | .int k => (intsD ds).bind fun ns => if k ∈ ns then some (.int (ns.idxOf k : Nat)) else none
    | _ => none
  | _ => none
def joinD (m : M) (o d : D) : Option D := match o with
  | .str a => ((lstM m d).bind strsD).bind fun ys => if (ys.map (·.length)).sum + ys.length * a.length ≤ 16777216 then some (.str (Txt.join a ys)) else none
  | _ => none
def spltD (o d : D) : Option D := match o with
  | .str a => match d with
    | .str b => if decide (b.length ≠ 0) && decide (a.length + 2 ≤ sizeLine) then some (.lst ((Txt.split a b).map .str)) else none
    | _ => none
  | _ => none
def isTup : D → Bool
  | .tup _ => true
  | _ => false
def isStr : D → Bool
  | .str _ => true
  | _ => false

/-! ### kinds of things, for isinstance -/
inductive Ki where
  | int | bool | tup | str | lst | cls (c : Nat)
  deriving DecidableEq
/-- the type of a thing, by name -/
def tyD (m : M) : D → Option String
  | .non => some "NoneType"
  | .bl _ => some "bool"
  | .int _ => some "int"
  | .str _ => some "str"
  | .tup _ => some "tuple"
  | .ktp _ => some "tuple"
  | .lst _ => some "list"
  | .arg _ => some "list"
  | .ref n => match m[n]? with
    | some (.lst _) => some "list"
    | some (.dct _ _) => some "dict"
    | _ => none
  | _ => none
def isT (k : Ki) (T : String) : Bool := match k with
  | .int => T == "int" || T == "bool"
  | .bool => T == "bool"
  | .tup => T == "tuple"
  | .str => T == "str"
  | .lst => T == "list"
  | .cls _ => false
def isK (m : M) (k : Ki) (d : D) : Option Bool := match tyD m d with
  | some T => some (isT k T)
  | none => match k with
    | .cls c => match d with
      | .ref n => match m[n]? with
        | some (.ins c' _) => if c = 13 ∧ c' = 13 then some true else none
        | _ => none
      | _ => none
    | _ => none

/-! ### the syntax -/
inductive P where
  | v (i : Nat) | t (ps : P) | nil | cons (p ps : P)
inductive E where
  | v (i : Nat)
  | k (d : D)
  | gl (i : Nat) (d : D)
  | fnm (f : Nat)
  | nil | cons (a r : E)
  | tup (es : E) | lst (es : E) | new (es : E) | dnew | d1 (k v : E)
  | bin (o : Op) (a b : E) | cat (a b : E)
  | cmp (o : Cm) (a b : E)
  | chn (o p : Cm) (a b c : E)
  | isk (yes : Bool) (a : E) (d : D)
  | and (es : E) | or (es : E) | not (a : E)
  | ife (t a b : E)
  | ix (a i : E) | sl (a lo hi : E) | rv (a : E)
  | bi (b : Bi) (es : E)
  | isi (a : E) (k : Ki)
  | lsr (al : Bool) (es : E)          -- list(range(..))
  | lsq (al : Bool) (a : E)           -- list(..)
  | dcp (a : E)                       -- dict(..) of a dict
  | dpr (a : E)                       -- dict(..) of pairs
  | sst (a : E) | lst1 (a : E)        -- sorted(set(..)), len(set(..))
  | cnt (a x : E) | idx (a x : E) | join (a x : E) | splt (a x : E)
  | app (a x : E) | ext (a x : E) | pop0 (a : E) | pop1 (a i : E) | rvs (a : E)
  | call (f : Nat) (es : E) | callx (a : E) (es : E) | callk (f : Nat) (es : E)
  | mth (f : Nat) (a : E) (es : E) | mthk (f : Nat) (a : E) (es : E) | mk (c f : Nat) (es : E)
  | dun (k f : Nat) (es : E) | deq (f : Nat) (a b : E)
  | fld (a : E) (x : Str)
  | lc (al : Bool) (vs : List Nat) (e : E) (p : P) (it c : E)
  | lc2 (vs vs1 : List Nat) (e : E) (p : P) (it c : E) (p1 : P) (it1 c1 : E)
  | dc (vs : List Nat) (k e : E) (p : P) (it c : E)
  | rng (es : E) | enm (a : E) | zip (a b : E) | ov (a : E)
inductive S where
  | nop | seq (a b : S)
  | asg (i : Nat) (e : E)
  | asgp (p : P) (e : E)
  | par2 (i j : Nat) (a b : E) | par3 (i j k : Nat) (a b c : E)
  | seti (o k v : E)
  | set2 (o1 k1 o2 k2 v1 v2 : E)
  | augi (o k v : E)
  | ex (e : E)
  | ret (e : E) | retn
  | ife (c : E) (a b : S)
  | for (p : P) (it : E) (b : S)
  | whl (n : Nat) (c : E) (b : S)
  | rse (c : Nat) (x : Str)
  | tryw (b : S) (c : Nat) (i : Nat) (f : Nat)
  | tryo (b : S) (c : Nat) (h : S)
  | setf (o : E) (x : Str) (e : E)
structure Fn where
  np : Nat
  nn : Nat
  body : S

/-! ### the evaluator -/
mutual
def setP : P → D → Sg → Option Sg
  | .v i, d, s => some (s.set i (some d))
  | .t ps, .tup ds, s => setPs ps ds s
  | _, _, _ => none
def setPs : P → List D → Sg → Option Sg
  | .nil, [], s => some s
  | .cons p ps, d :: ds, s => match setP p d s with
    | some s' => setPs ps ds s'
    | none => none
  | _, _, _ => none
end
/-- a pattern's names -/
def pv : P → List Nat
  | .v i => [i]
  | .t ps => pv ps
  | .nil => []
  | .cons p ps => pv p ++ pv ps
def wip (s : Sg) : List Nat → Sg
  | [] => s
  | v :: vs => (wip s vs).set v none
/-- what a walk goes over: the items, and the mutable list that must stay as it is -/
abbrev Its := List D × Option (Nat × List D)
def stands (m : M) : Option (Nat × List D) → Bool
  | none => true
  | some (n, ds) => match m[n]? with
    | some (.lst es) => D.beqs ds es
    | _ => false
def itsM (m : M) : D → Option Its
  | .ref n => match m[n]? with
    | some (.lst ds) => some (ds, some (n, ds))
    | _ => none
  | .dct ks _ => some (ks.map keyT, none)
  | .str s => some (s.cps.toList.map fun c => .str ⟨#[c]⟩, none)
  | d => (seqM m d).map fun ds => (ds, none)
def enmD : Nat → List D → List D
  | _, [] => []
  | i, d :: r => .tup [.int i, d] :: enmD (i + 1) r
def zipD : List D → List D → List D
  | a :: r, b :: s => .tup [a, b] :: zipD r s
  | _, _ => []
/-- what enumerate goes over -/
def enmM (m : M) (x : D) : Option Its := match x with
  | .dct _ _ => none
  | .str _ => none
  | x => (itsM m x).map fun its => (enmD 0 its.1, its.2)
def zipM (x y : D) : Option Its := match x, y with
  | .tup ds, .tup es => some (zipD ds es, none)
  | .lst ds, .lst es => some (zipD ds es, none)
  | _, _ => none
def rngD (lo : Int) (n : Nat) : List D := (List.range n).map fun i => .int (lo + (i : Nat))
/-- ranges -/
def rgD : List D → Option (List D)
  | [.int j] => if decide (-(2 ^ 62) ≤ j) && decide (j < 2 ^ 62) then some (rngD 0 j.toNat) else none
  | [.int i, .int j] => if decide (-(2 ^ 62) ≤ i) && decide (i < 2 ^ 62) && decide (-(2 ^ 62) ≤ j) && decide (j < 2 ^ 62) then some (rngD i (j - i).toNat) else none
  | [.int i, .int j, .int (-1)] => if decide (-(2 ^ 62) ≤ i) && decide (i < 2 ^ 62) && decide (-(2 ^ 62) ≤ j) && decide (j < 2 ^ 62) then
      some ((List.range (i - j).toNat).map fun k => .int (i + (k : Nat) * (-1))) else none
  | _ => none

/-- a list made, kept as a mutable one or not -/
def lstK (al : Bool) (o : Option (List D)) (m : M) : Option (Rs D × M) := match o with
  | some ds => if ds.length ≤ sizeLine then (if al then some (.ok (.ref m.length), m ++ [.lst ds]) else some (.ok (.lst ds), m)) else none
  | none => none
def lsrK (al : Bool) (ds : List D) (m : M) : Option (Rs D × M) := lstK al (rgD ds) m
def lsqM (m : M) (x : D) : Option (List D) := match x with
  | .dct ks _ => some (ks.map keyT)
  | x => seqM m x
/-- the turns of a list comprehension -/
def lcGo (src : Option (Nat × List D)) (bd : D → M → Option (Rs (Option D) × M)) : List D → M → Option (Rs (List D) × M)
  | [], m => if stands m src then some (.ok [], m) else none
  | x :: r, m => if stands m src then (match bd x m with
    | some (.ok o, m1) => (match lcGo src bd r m1 with
        | some (.ok ds, m2) => some (.ok (o.toList ++ ds), m2)
        | _ => none)
    | _ => none) else none
def lc2Go (src : Option (Nat × List D)) (bd : D → M → Option (Rs (List D) × M)) : List D → M → Option (Rs (List D) × M)
  | [], m => if stands m src then some (.ok [], m) else none
  | x :: r, m => if stands m src then (match bd x m with
    | some (.ok o, m1) => (match lc2Go src bd r m1 with
        | some (.ok ds, m2) => some (.ok (o ++ ds), m2)
        | _ => none)
    | _ => none) else none
def dcGo (src : Option (Nat × List D)) (bd : D → M → Option (Rs (Option (List Key × D)) × M)) : List D → List (List Key) × List D → M → Option (Rs (List (List Key) × List D) × M)
  | [], a, m => if stands m src then some (.ok a, m) else none
  | x :: r, a, m => if stands m src then (match bd x m with
    | some (.ok (some (k, v)), m1) => dcGo src bd r (if (dget a.1 a.2 k).isSome then a.1 else a.1 ++ [k], dput a.1 a.2 k v) m1
    | some (.ok none, m1) => dcGo src bd r a m1
    | _ => none) else none

/-- the items of a list or tuple that no longer changes -/
def seqI : D → Option (List D)
  | .lst ds => some ds
  | .tup ds => some ds
  | _ => none
/-- dict(pairs) -/
def dprD : List D → Option (List (List Key) × List D)
  | [] => some ([], [])
  | ds => ds.foldl (fun a d => match a, d with
    | some (ks, vs), .tup [k, v] => (toK k).map fun k => (if (dget ks vs k).isSome then ks else ks ++ [k], dput ks vs k v)
    | _, _ => none) (some ([], []))
/-- a mutable list is changed -/
def updL (b : Nat) (m : M) (o : D) (f : List D → Option (D × List D)) (add : List D) : Option (Rs D × M) :=
  match o with
  | .ref n => match m[n]? with
    | some (.lst ds) => match f ds with
      | some (r, es) => if (decide (b ≤ n) || nrs add) && decide (es.length ≤ sizeLine) then some (.ok r, m.set n (.lst es)) else none
      | none => none
    | _ => none
  | _ => none

abbrev CallE := Nat → List D → M → Option (Rs D × M)
/-- the fields of books: how, past, calls -/
def fldN : List Str := [⟨#[104, 111, 119]⟩, ⟨#[112, 97, 115, 116]⟩, ⟨#[99, 97, 108, 108, 115]⟩]
/-- books, with no other fields -/
def isBk (m : M) : D → Bool
  | .ref n => match m[n]? with
    | some (.ins c fs) => c == 13 && fs.all fun p => fldN.any fun x => decide (x = p.1)
    | _ => false
  | _ => false
/-- what len, str and == want of the books' own -/
def dunR (k : Nat) (m : M) (ds : List D) (r : Option (Rs D × M)) : Option (Rs D × M) :=
  match k, ds, r with
  | 0, [x], some (.ok (.int i), m1) => if isBk m x && decide (0 ≤ i) && decide (i < 2 ^ 63) then some (.ok (.int i), m1) else none
  | 1, [x], some (.ok (.str t), m1) => if isBk m x then some (.ok (.str t), m1) else none
  | 2, [x, y], some (.ok (.bl t), m1) => if isBk m x && (isBk m y || (match y with | .str _ => true | _ => false)) then some (.ok (.bl t), m1) else none
  | _, _, _ => none
/-- cl: a call of a def; ck: one that keeps what it made -/
structure Cl where
  b : Nat
  cl : CallE
  ck : Nat → Nat → List D → M → Option (Rs D × M)
  cls : Nat → Option Str

section
variable (C : Cl)
def isD (d x : D) : Option Bool := match d with
  | .non => match x with
    | .non => some true
    | .fn _ => none
    | _ => some false
  | .bl b => match x with
    | .bl a => some (a == b)
    | _ => none
  | _ => none
mutual
def ev : E → Sg → M → Option (Rs D × M)
  | .v i, s, m => match s[i]? with
    | some (some d) => some (.ok d, m)
    | _ => none
  | .k d, _, m => some (.ok d, m)
  | .gl _ d, _, m => some (.ok d, m)
  | .fnm f, _, m => some (.ok (.fn f), m)
  | .tup es, s, m => bnd (evs es s m) fun ds m1 => if ds.length ≤ sizeLine then some (.ok (.tup ds), m1) else none
  | .lst es, s, m => bnd (evs es s m) fun ds m1 => if ds.length ≤ sizeLine then some (.ok (.lst ds), m1) else none
  | .new es, s, m => bnd (evs es s m) fun ds m1 => if ds.length ≤ sizeLine then some (.ok (.ref m1.length), m1 ++ [.lst ds]) else none
  | .dnew, _, m => some (.ok (.ref m.length), m ++ [.dct [] []])
  | .d1 k v, s, m => bnd (ev k s m) fun dk m1 => bnd (ev v s m1) fun dv m2 => match toK dk with
    | some k => some (.ok (.ref m2.length), m2 ++ [.dct [k] [dv]])
    | none => none
  | .bin o a b, s, m => bnd (ev a s m) fun x m1 => bnd (ev b s m1) fun y m2 => giv (opBin m2 o x y) m2
  | .cat a b, s, m => bnd (ev a s m) fun x m1 => bnd (ev b s m1) fun y m2 => match lstM m2 x, lstM m2 y with
    | some p, some q => if p.length + q.length ≤ sizeLine then some (.ok (.ref m2.length), m2 ++ [.lst (p ++ q)]) else none
    | _, _ => none
  | .cmp o a b, s, m => bnd (ev a s m) fun x m1 => bnd (ev b s m1) fun y m2 => giv ((opCmp m2 o x y).map .bl) m2
  | .chn o p a b c, s, m => bnd (ev a s m) fun x m1 => bnd (ev b s m1) fun y m2 => match opCmp m2 o x y with
    | some true => bnd (ev c s m2) fun z m3 => giv ((opCmp m3 p y z).map .bl) m3
    | some false => some (.ok (.bl false), m2)
    | none => none
  | .isk yes a d, s, m => bnd (ev a s m) fun x m1 => giv ((isD d x).map fun b => .bl (b == yes)) m1
  | .and es, s, m => evAnd es s m
  | .or es, s, m => evOr es s m
  | .not a, s, m => bnd (ev a s m) fun x m1 => match x with
    | .bl b => some (.ok (.bl (!b)), m1)
    | _ => none
  | .ife t a b, s, m => bnd (ev t s m) fun x m1 => match x with
    | .bl true => ev a s m1
    | .bl false => ev b s m1
    | _ => none
  | .ix a i, s, m => bnd (ev a s m) fun x m1 => bnd (ev i s m1) fun y m2 => giv (ixD m2 x y) m2
  | .sl a lo hi, s, m => bnd (ev a s m) fun x m1 => bnd (evO lo s m1) fun l m2 => bnd (evO hi s m2) fun h m3 => giv (slD m3 x l h) m3
  | .rv a, s, m => bnd (ev a s m) fun x m1 => giv (rvD m1 x) m1
  | .bi b es, s, m => bnd (evs es s m) fun ds m1 => giv (opBi m1 b ds) m1
  | .isi a k, s, m => bnd (ev a s m) fun x m1 => giv ((isK m1 k x).map .bl) m1
  | .lsr al es, s, m => bnd (evs es s m) fun ds m1 => lsrK al ds m1
  | .lsq al a, s, m => bnd (ev a s m) fun x m1 => lstK al (lsqM m1 x) m1
  | .dcp a, s, m => bnd (ev a s m) fun x m1 => match dctM m1 x with
    | some (ks, vs) => some (.ok (.ref m1.length), m1 ++ [.dct ks vs])
    | none => none
  | .dpr a, s, m => bnd (ev a s m) fun x m1 => giv (((lstM m1 x).bind dprD).map fun q => .dct q.1 q.2) m1
  | .sst a, s, m => bnd (ev a s m) fun x m1 => giv ((sstM m1 x).map .lst) m1
  | .lst1 a, s, m => bnd (ev a s m) fun x m1 => giv (((lstM m1 x).bind lstD1).map fun n => .int (n : Nat)) m1
  | .cnt a x, s, m => bnd (ev a s m) fun o m1 => if (lstM m1 o).isSome then bnd (ev x s m1) fun d m2 => giv (cntD m2 o d) m2 else none
  | .idx a x, s, m => bnd (ev a s m) fun o m1 => if isTup o then bnd (ev x s m1) fun d m2 => giv (idxD o d) m2 else none
  | .join a x, s, m => bnd (ev a s m) fun o m1 => if isStr o then bnd (ev x s m1) fun d m2 => giv (joinD m2 o d) m2 else none
  | .splt a x, s, m => bnd (ev a s m) fun o m1 => if isStr o then bnd (ev x s m1) fun d m2 => giv (spltD o d) m2 else none
  | .app a x, s, m => bnd (ev a s m) fun o m1 => if (lstM m1 o).isSome then bnd (ev x s m1) fun d m2 => updL C.b m2 o (fun ds => some (.non, ds ++ [d])) [d] else none
  | .ext a x, s, m => bnd (ev a s m) fun o m1 => if (lstM m1 o).isSome then bnd (ev x s m1) fun d m2 => match lstM m2 d with
    | some es => updL C.b m2 o (fun ds => some (.non, ds ++ es)) es
    | none => none else none
  | .pop0 a, s, m => bnd (ev a s m) fun o m1 => updL C.b m1 o (fun ds => ds.getLast?.map fun d => (d, ds.dropLast)) []
  | .pop1 a i, s, m => bnd (ev a s m) fun o m1 => if (lstM m1 o).isSome then bnd (ev i s m1) fun j m2 => match j with
    | .int j => if decide (0 ≤ j) && decide (j < 2 ^ 63) then updL C.b m2 o (fun ds => ds[j.toNat]?.map fun d => (d, ds.eraseIdx j.toNat)) [] else none
    | _ => none else none
  | .rvs a, s, m => bnd (ev a s m) fun o m1 => updL C.b m1 o (fun ds => some (.non, ds.reverse)) []
  | .call f es, s, m => bnd (evs es s m) fun ds m1 => C.cl f ds m1
  | .callx a es, s, m => bnd (ev a s m) fun g m1 => match g with
    | .fn f => bnd (evs es s m1) fun ds m2 => C.cl f ds m2
    | _ => none
  | .callk f es, s, m => bnd (evs es s m) fun ds m1 => C.ck C.b f ds m1
  | .mth f a es, s, m => bnd (ev a s m) fun o m1 => if isBk m1 o then bnd (evs es s m1) fun ds m2 => C.cl f (o :: ds) m2 else none
  | .mthk f a es, s, m => bnd (ev a s m) fun o m1 => if isBk m1 o then bnd (evs es s m1) fun ds m2 => C.ck C.b f (o :: ds) m2 else none
  | .mk c f es, s, m => bnd (evs es s m) fun ds m1 => bnd (C.ck C.b f (.ref m1.length :: ds) (m1 ++ [.ins c []])) fun d m2 => match d with
    | .non => some (.ok (.ref m1.length), m2)
    | _ => none
  | .fld a x, s, m => bnd (ev a s m) fun o m1 => if isBk m1 o then (match o with
    | .ref n => (match m1[n]? with
      | some (.ins _ fs) => giv (fs.lookup x) m1
      | _ => none)
    | _ => none) else none
  | .dun k f es, s, m => bnd (evs es s m) fun ds m1 => dunR k m1 ds (C.cl f ds m1)
  | .deq f a b, s, m => bnd (ev a s m) fun x m1 => bnd (ev b s m1) fun y m2 => dunR 2 m2 [x, y] (C.cl f [x, y] m2)
  | .lc al vs e p it c, s, m => bnd (evIt it s m) fun its m1 =>
    bnd (lcGo its.2 (fun x m2 => match setP p x (wip s vs) with
      | some s2 => bnd (evC c s2 m2) fun k m3 => if k then bnd (ev e s2 m3) fun d m4 => some (.ok (some d), m4) else some (.ok none, m3)
      | none => none) its.1 m1) fun ds m2 => if ds.length ≤ sizeLine then (if al then some (.ok (.ref m2.length), m2 ++ [.lst ds]) else some (.ok (.lst ds), m2)) else none
  | .lc2 vs vs1 e p it c p1 a1 c1, s, m => bnd (evIt it s m) fun its m1 =>
    bnd (lc2Go its.2 (fun x m2 => match setP p x (wip s vs) with
      | some s2 => bnd (evC c s2 m2) fun k m3 => if k then bnd (ev a1 s2 m3) fun y m4 => (match seqI y with
          | some ds => lcGo none (fun z m5 => match setP p1 z (wip s2 vs1) with
            | some s3 => bnd (evC c1 s3 m5) fun k1 m6 => if k1 then bnd (ev e s3 m6) fun d m7 => some (.ok (some d), m7) else some (.ok none, m6)
            | none => none) ds m4
          | none => none) else some (.ok [], m3)
      | none => none) its.1 m1) fun ds m2 => if ds.length ≤ sizeLine then some (.ok (.lst ds), m2) else none
  | .dc vs k e p it c, s, m => bnd (evIt it s m) fun its m1 =>
    bnd (dcGo its.2 (fun x m2 => match setP p x (wip s vs) with
      | some s2 => bnd (evC c s2 m2) fun b m3 => if b then bnd (ev k s2 m3) fun dk m4 => bnd (ev e s2 m4) fun d m5 => (match toK dk with
          | some kk => some (.ok (some (kk, d)), m5)
          | none => none) else some (.ok none, m3)
      | none => none) its.1 ([], []) m1) fun q m2 => if q.1.length ≤ sizeLine then some (.ok (.dct q.1 q.2), m2) else none
  | _, _, _ => none
def evs : E → Sg → M → Option (Rs (List D) × M)
  | .nil, _, m => some (.ok [], m)
  | .cons a r, s, m => bnd (ev a s m) fun d m1 => bnd (evs r s m1) fun ds m2 => some (.ok (d :: ds), m2)
  | _, _, _ => none
/-- a slice's bound -/
def evO : E → Sg → M → Option (Rs (Option Int) × M)
  | .nil, _, m => some (.ok none, m)
  | .cons a .nil, s, m => bnd (ev a s m) fun x m1 => match x with
    | .int i => some (.ok (some i), m1)
    | _ => none
  | _, _, _ => none
def evAnd : E → Sg → M → Option (Rs D × M)
  | .cons a r, s, m => bnd (ev a s m) fun x m1 => match x with
    | .bl true => (match r with
      | .nil => some (.ok (.bl true), m1)
      | r => evAnd r s m1)
    | .bl false => some (.ok (.bl false), m1)
    | _ => none
  | _, _, _ => none
def evOr : E → Sg → M → Option (Rs D × M)
  | .cons a r, s, m => bnd (ev a s m) fun x m1 => match x with
    | .bl false => (match r with
      | .nil => some (.ok (.bl false), m1)
      | r => evOr r s m1)
    | .bl true => some (.ok (.bl true), m1)
    | _ => none
  | _, _, _ => none
/-- the tests of a comprehension's clause: none or one -/
def evC : E → Sg → M → Option (Rs Bool × M)
  | .nil, _, m => some (.ok true, m)
  | .cons a .nil, s, m => bnd (ev a s m) fun x m1 => match x with
    | .bl b => some (.ok b, m1)
    | _ => none
  | _, _, _ => none
def evIt : E → Sg → M → Option (Rs Its × M)
  | .rng es, s, m => bnd (evs es s m) fun ds m1 => giv ((rgD ds).map fun rs => (rs, none)) m1
  | .enm a, s, m => bnd (ev a s m) fun x m1 => giv (enmM m1 x) m1
  | .zip a b, s, m => bnd (ev a s m) fun x m1 => bnd (ev b s m1) fun y m2 => giv (zipM x y) m2
  | .ov a, s, m => bnd (ev a s m) fun x m1 => giv (itsM m1 x) m1
  | _, _, _ => none
end
end

/-! ### statements -/
inductive Out where
  | nx (s : Sg) | rt (d : D) | ex (c : Nat)
/-- an expression's value, then a statement's end -/
def eb (r : Option (Rs D × M)) (k : D → M → Option (Out × M)) : Option (Out × M) :=
  match r with
  | some (.ok a, m) => k a m
  | some (.ex c, m) => some (.ex c, m)
  | none => none
@[simp] theorem eb_ok (a : D) (m : M) (k : D → M → Option (Out × M)) : eb (some (.ok a, m)) k = k a m := rfl
@[simp] theorem eb_ex (c : Nat) (m : M) (k : D → M → Option (Out × M)) : eb (some (.ex c, m)) k = some (.ex c, m) := rfl
@[simp] theorem eb_none (k : D → M → Option (Out × M)) : eb none k = none := rfl
def sb (r : Option (Out × M)) (k : Sg → M → Option (Out × M)) : Option (Out × M) :=
  match r with
  | some (.nx s, m) => k s m
  | r => r
@[simp] theorem sb_nx (s : Sg) (m : M) (k : Sg → M → Option (Out × M)) : sb (some (.nx s, m)) k = k s m := rfl
@[simp] theorem sb_rt (d : D) (m : M) (k : Sg → M → Option (Out × M)) : sb (some (.rt d, m)) k = some (.rt d, m) := rfl
@[simp] theorem sb_ex (c : Nat) (m : M) (k : Sg → M → Option (Out × M)) : sb (some (.ex c, m)) k = some (.ex c, m) := rfl
@[simp] theorem sb_none (k : Sg → M → Option (Out × M)) : sb none k = none := rfl
def forGo (src : Option (Nat × List D)) (bd : D → Sg → M → Option (Out × M)) : List D → Sg → M → Option (Out × M)
  | [], s, m => if stands m src then some (.nx s, m) else none
  | x :: r, s, m => if stands m src then sb (bd x s m) fun s1 m1 => forGo src bd r s1 m1 else none
def whlGo (c : Sg → M → Option (Rs D × M)) (bd : Sg → M → Option (Out × M)) : Nat → Sg → M → Option (Out × M)
  | 0, _, _ => none
  | n + 1, s, m => eb (c s m) fun x m1 => match x with
    | .bl true => sb (bd s m1) fun s2 m2 => whlGo c bd n s2 m2
    | .bl false => some (.nx s, m1)
    | _ => none
def putF (x : Str) (d : D) : List (Str × D) → List (Str × D)
  | [] => [(x, d)]
  | (y, e) :: r => if y = x then (x, d) :: r else (y, e) :: putF x d r
/-- o[k] = v -/
def setD (b : Nat) (m : M) (o k v : D) : Option M :=
  match o with
  | .ref n => match m[n]? with
    | some (.lst ds) => match k with
      | .int i => (L2.ixN ds.length i).bind fun j => if decide (b ≤ n) || v.nr then some (m.set n (.lst (ds.set j v))) else none
      | _ => none
    | some (.dct ks vs) => (toK k).bind fun kk => if (decide (b ≤ n) || v.nr) && decide (ks.length < sizeLine) then
        some (m.set n (.dct (if (dget ks vs kk).isSome then ks else ks ++ [kk]) (dput ks vs kk v))) else none
    | _ => none
  | _ => none
/-- c' is c or under it: 0 has 1 .. 12 under it -/
def subC (c' c : Nat) : Bool := c' == c || (c == 0 && decide (1 ≤ c') && decide (c' ≤ 12))
section
variable (C : Cl)
def exS : S → Sg → M → Option (Out × M)
  | .nop, s, m => some (.nx s, m)
  | .seq a b, s, m => sb (exS a s m) fun s1 m1 => exS b s1 m1
  | .asg i e, s, m => eb (ev C e s m) fun d m1 => some (.nx (s.set i (some d)), m1)
  | .asgp p e, s, m => eb (ev C e s m) fun d m1 => match setP p d s with
    | some s1 => some (.nx s1, m1)
    | none => none
  | .par2 i j a b, s, m => eb (ev C a s m) fun x m1 => eb (ev C b s m1) fun y m2 => some (.nx ((s.set i (some x)).set j (some y)), m2)
  | .par3 i j k a b c, s, m => eb (ev C a s m) fun x m1 => eb (ev C b s m1) fun y m2 => eb (ev C c s m2) fun z m3 =>
      some (.nx (((s.set i (some x)).set j (some y)).set k (some z)), m3)
  | .seti o k v, s, m => eb (ev C v s m) fun x m1 => eb (ev C o s m1) fun y m2 => eb (ev C k s m2) fun z m3 => match setD C.b m3 y z x with
    | some m4 => some (.nx s, m4)
    | none => none
  | .set2 o1 k1 o2 k2 v1 v2, s, m => eb (ev C v1 s m) fun x1 m1 => eb (ev C v2 s m1) fun x2 m2 =>
      eb (ev C o1 s m2) fun y1 m3 => eb (ev C k1 s m3) fun z1 m4 => match setD C.b m4 y1 z1 x1 with
      | some m5 => eb (ev C o2 s m5) fun y2 m6 => eb (ev C k2 s m6) fun z2 m7 => (match setD C.b m7 y2 z2 x2 with
        | some m8 => some (.nx s, m8)
        | none => none)
      | none => none
  | .augi o k v, s, m => eb (ev C o s m) fun y m1 => eb (ev C k s m1) fun z m2 => match ixD m2 y z with
    | some x => eb (ev C v s m2) fun w m3 => (match opBin m3 .add x w with
      | some r => (match setD C.b m3 y z r with
        | some m4 => some (.nx s, m4)
        | none => none)
      | none => none)
    | none => none
  | .ex e, s, m => eb (ev C e s m) fun _ m1 => some (.nx s, m1)
  | .ret e, s, m => eb (ev C e s m) fun d m1 => some (.rt d, m1)
  | .retn, _, m => some (.rt .non, m)
  | .ife c a b, s, m => eb (ev C c s m) fun x m1 => match x with
    | .bl true => exS a s m1
    | .bl false => exS b s m1
    | _ => none
  | .for p it b, s, m => match evIt C it s m with
    | some (.ok its, m1) => forGo its.2 (fun x s1 m2 => match setP p x s1 with
      | some s2 => exS b s2 m2
      | none => none) its.1 s m1
    | some (.ex c, m1) => some (.ex c, m1)
    | none => none
  | .whl n c b, s, m => whlGo (fun s1 m1 => ev C c s1 m1) (fun s1 m1 => exS b s1 m1) n s m
  | .rse c _, _, m => some (.ex c, m)
  | .tryw b _ i _, s, m => match exS b s m with
    | some (.ex c', m1) => if decide (1 ≤ c') && decide (c' ≤ 12) && decide (i < s.length) then some (.rt (.tup [.str ⟨#[114, 101, 102, 117, 115, 101, 100]⟩, .int ((c' : Int) - 1)]), m1) else none
    | r => r
  | .tryo b c h, s, m => match exS b s m with
    | some (.ex c', m1) => if subC c' c then exS h (List.replicate s.length none) m1 else some (.ex c', m1)
    | r => r
  | .setf o x e, s, m => eb (ev C e s m) fun d m1 => eb (ev C o s m1) fun y m2 => match y with
    | .ref n => match m2[n]? with
      | some (.ins k fs) => if k == 13 && (decide (C.b ≤ n) || d.nr) && decide (fs.length < 1000) then some (.nx s, m2.set n (.ins k (putF x d fs))) else none
      | _ => none
    | _ => none
end

/-! ### calls -/
def mapO {α β : Type} (f : α → Option β) : List α → Option (List β)
  | [] => some []
  | x :: r => match f x, mapO f r with
    | some y, some s => some (y :: s)
    | _, _ => none
/-- what a def hands back, its own mutable things taken as they stand at its end -/
def snap (m : M) (b : Nat) : Nat → D → Option D
  | 0, _ => none
  | k + 1, d => if d.nr then some d else match d with
    | .ref n => if n < b then some (.ref n) else match m[n]? with
      | some (.lst ds) => (mapO (snap m b k) ds).map .lst
      | some (.dct ks vs) => (mapO (snap m b k) vs).map (.dct ks)
      | _ => none
    | .tup ds => (mapO (snap m b k) ds).map .tup
    | .lst ds => (mapO (snap m b k) ds).map .lst
    | .dct ks vs => (mapO (snap m b k) vs).map (.dct ks)
    | _ => none
abbrev Tb := Nat → Option Fn
def st0 (F : Fn) (ds : List D) : Sg := ds.map some ++ List.replicate (F.nn - ds.length) none
mutual
/-- a call: n calls may stand one in another -/
def callN (T : Tb) : Nat → Nat → List D → M → Option (Rs D × M)
  | 0, _, _, _ => none
  | n + 1, f, ds, m => match T f with
    | none => none
    | some F => if ds.length = F.np then
        (match exS ⟨m.length, callN T n, keepN T n, fun _ => none⟩ F.body (st0 F ds) m with
        | some (.rt d, m1) => match snap m1 m.length 8 d with
          | some d1 => some (.ok d1, m1.take m.length)
          | none => none
        | some (.nx _, m1) => some (.ok .non, m1.take m.length)
        | some (.ex c, m1) => some (.ex c, m1.take m.length)
        | none => none) else none
/-- one that keeps what it made -/
def keepN (T : Tb) : Nat → Nat → Nat → List D → M → Option (Rs D × M)
  | 0, _, _, _, _ => none
  | n + 1, b, f, ds, m => match T f with
    | none => none
    | some F => if ds.length = F.np then
        (match exS ⟨b, callN T n, keepN T n, fun _ => none⟩ F.body (st0 F ds) m with
        | some (.rt d, m1) => some (.ok d, m1)
        | some (.nx _, m1) => some (.ok .non, m1)
        | some (.ex c, m1) => some (.ex c, m1)
        | none => none) else none
end
end Bo

set_option Elab.async false
set_option linter.all false
set_option maxRecDepth 100000
/-! B1: how data stand in the abstract heap; what stays. -/
namespace Bo
open PySem
open L2 (V HO Hp Rd SqL SqT Vals upd)

/-- where the defs and classes stand -/
structure Ad where
  fa : Nat → Option Addr
  ca : Nat → Option Addr
  /-- what is being made just now, told to nobody -/
  hd : List Addr
abbrev Ad.wh (A : Ad) (hd : List Addr) : Ad := { A with hd := hd }
abbrev Ad.hide (A : Ad) (D : Addr) : Ad := { A with hd := D :: A.hd }
/-- none of the mutable things, nor of those being made -/
def Un (A : Ad) (io : List Addr) (a : Addr) : Prop := a ∉ io ∧ a ∉ A.hd

def KSeq (K : W.Frag) (cls : String) (a : Addr) (vs : List V) : Prop :=
  ∃ (o : Obj) (its : Array Value) (n : Nat), K.lookup a = some o ∧ o.cls = .type cls ∧ o.dict = none ∧ o.data = .seq its n ∧ its.size ≤ sizeLine ∧ Vals vs its.toList
/-- a tuple, a list that is read, none of the mutable things -/
def TupAt (A : Ad) (io : List Addr) (H : Hp) (a : Addr) (vs : List V) : Prop := Un A io a ∧ H a = some (.tup vs)
def LstAt (A : Ad) (K : W.Frag) (io : List Addr) (H : Hp) (a : Addr) (vs : List V) : Prop := (Un A io a ∧ Rd H a (.lst vs)) ∨ KSeq K "list" a vs
theorem TupAt.sq {A : Ad} {K : W.Frag} {io : List Addr} {H : Hp} {a : Addr} {vs : List V} (h : TupAt A io H a vs) : SqT K H a vs := .inl (.inl h.2)
theorem KSeq.sq {K : W.Frag} {H : Hp} {a : Addr} {vs : List V} (h : KSeq K "tuple" a vs) : SqT K H a vs := by
  obtain ⟨o, its, n, h1, h2, _, h4, h5, h6⟩ := h
  exact .inr ⟨o, its, n, h1, h2, h4, h5, h6⟩
theorem LstAt.sq {A : Ad} {K : W.Frag} {io : List Addr} {H : Hp} {a : Addr} {vs : List V} (h : LstAt A K io H a vs) : SqL K H a vs := by
  rcases h with ⟨_, h⟩ | ⟨o, its, n, h1, h2, h3, h4, h5, h6⟩
  · exact .inl h
  · exact .inr ⟨o, its, n, h1, h2, h3, h4, h5, h6⟩

section
variable (A : Ad) (K : W.Frag) (io : List Addr) (b : Nat) (H : Hp)
mutual
/-- v stands for d; mutable things within have numbers below b -/
inductive Rep : D → V → Prop where
  | non : Rep .non .non
  | bl (k : Bool) : Rep (.bl k) (.bl k)
  | int (i : Int) : Rep (.int i) (.int i)
  | str (s : Str) : Rep (.str s) (.str s)
  | tup {a : Addr} {vs : List V} {ds : List D} : TupAt A io H a vs → ds.length ≤ sizeLine → Reps ds vs → Rep (.tup ds) (.ref a)
  | lst {a : Addr} {vs : List V} {ds : List D} : Un A io a → H a = some (.lst vs) → ds.length ≤ sizeLine → Reps ds vs → Rep (.lst ds) (.ref a)
  | ktp {a : Addr} {vs : List V} {ds : List D} : KSeq K "tuple" a vs → ds.length ≤ sizeLine → Reps ds vs → Rep (.ktp ds) (.ref a)
  | arg {a : Addr} {ns : List Int} : LstAt A K io H a (ns.map V.int) → ns.length ≤ sizeLine → Rep (.arg ns) (.ref a)
  | dct {a : Addr} {kvs : List (List Key × V)} {ks : List (List Key)} {vs : List D} : Un A io a → Rd H a (.dT kvs) → kvs.map (·.1) = ks → Reps vs (kvs.map (·.2)) → ks.length ≤ sizeLine → Rep (.dct ks vs) (.ref a)
  | ref {n : Nat} {a : Addr} : n < b → io[n]? = some a → Rep (.ref n) (.ref a)
  | fn {f : Nat} {a : Addr} : A.fa f = some a → Rep (.fn f) (.ref a)
inductive Reps : List D → List V → Prop where
  | nil : Reps [] []
  | cons {d : D} {v : V} {ds : List D} {vs : List V} : Rep d v → Reps ds vs → Reps (d :: ds) (v :: vs)
end
end

section
variable {A : Ad} {K : W.Frag} {io io' : List Addr} {b b' : Nat} {H H' : Hp}
theorem Reps.length : ∀ {ds : List D} {vs : List V}, Reps A K io b H ds vs → ds.length = vs.length
  | _, _, .nil => rfl
  | _, _, .cons _ r => by rw [List.length_cons, List.length_cons, Reps.length r]
theorem Reps.get : ∀ {ds : List D} {vs : List V} {i : Nat} {d : D}, Reps A K io b H ds vs → ds[i]? = some d → ∃ v, vs[i]? = some v ∧ Rep A K io b H d v
  | _, _, _, _, .nil, e => by simp at e
  | _, _, 0, _, .cons r _, e => by simp at e; subst e; exact ⟨_, rfl, r⟩
  | _, _, i + 1, d, .cons _ t, e => by
    obtain ⟨v, h1, h2⟩ := Reps.get (i := i) (d := d) t (by simpa using e)
    exact ⟨v, by simpa using h1, h2⟩
theorem Reps.append : ∀ {ds es : List D} {vs ws : List V}, Reps A K io b H ds vs → Reps A K io b H es ws → Reps A K io b H (ds ++ es) (vs ++ ws)
  | _, _, _, _, .nil, s => s
  | _, _, _, _, .cons r t, s => .cons r (Reps.append t s)
theorem Reps.take : ∀ {ds : List D} {vs : List V} (n : Nat), Reps A K io b H ds vs → Reps A K io b H (ds.take n) (vs.take n)
  | _, _, 0, _ => by rw [List.take_zero, List.take_zero]; exact .nil
  | _, _, _ + 1, .nil => by rw [List.take_nil, List.take_nil]; exact .nil
  | _, _, n + 1, .cons r t => by rw [List.take_succ_cons, List.take_succ_cons]; exact .cons r (Reps.take n t)
theorem Reps.drop : ∀ {ds : List D} {vs : List V} (n : Nat), Reps A K io b H ds vs → Reps A K io b H (ds.drop n) (vs.drop n)
  | _, _, 0, r => r
  | _, _, _ + 1, .nil => by rw [List.drop_nil, List.drop_nil]; exact .nil
  | _, _, n + 1, .cons r t => by rw [List.drop_succ_cons, List.drop_succ_cons]; exact Reps.drop n t
theorem Reps.snoc {d : D} {v : V} {ds : List D} {vs : List V} (h : Reps A K io b H ds vs) (r : Rep A K io b H d v) : Reps A K io b H (ds ++ [d]) (vs ++ [v]) := h.append (.cons r .nil)
theorem Reps.reverse : ∀ {ds : List D} {vs : List V}, Reps A K io b H ds vs → Reps A K io b H ds.reverse vs.reverse
  | _, _, .nil => .nil
  | _, _, .cons r t => by rw [List.reverse_cons, List.reverse_cons]; exact (Reps.reverse t).snoc r
theorem Reps.set {d : D} {v : V} (r : Rep A K io b H d v) : ∀ {ds : List D} {vs : List V} (i : Nat), Reps A K io b H ds vs → Reps A K io b H (ds.set i d) (vs.set i v)
  | _, _, _, .nil => .nil
  | _, _, 0, .cons _ t => .cons r t
  | _, _, i + 1, .cons q t => .cons q (Reps.set r i t)
theorem Reps.eraseIdx : ∀ {ds : List D} {vs : List V} (i : Nat), Reps A K io b H ds vs → Reps A K io b H (ds.eraseIdx i) (vs.eraseIdx i)
  | _, _, _, .nil => .nil
  | _, _, 0, .cons _ t => t
  | _, _, i + 1, .cons q t => .cons q (Reps.eraseIdx i t)
theorem Reps.dropLast {ds : List D} {vs : List V} (h : Reps A K io b H ds vs) : Reps A K io b H ds.dropLast vs.dropLast := by
  rw [List.dropLast_eq_take, List.dropLast_eq_take, h.length]
  exact h.take _
theorem Reps.map {α : Type} {f : α → D} {g : α → V} (h : ∀ x, Rep A K io b H (f x) (g x)) : ∀ xs : List α, Reps A K io b H (xs.map f) (xs.map g)
  | [] => .nil
  | x :: r => .cons (h x) (Reps.map h r)
theorem Reps.rep {ds : List D} {vs : List V} (h : Reps A K io b H ds vs) : ∀ k : Nat, Reps A K io b H (rep k ds) (List.replicate k vs).flatten
  | 0 => .nil
  | k + 1 => by
    unfold Bo.rep
    rw [List.replicate_succ, List.replicate_succ, List.flatten_cons, List.flatten_cons]
    exact h.append (Reps.rep h k)

/-! ### what stays -/
structure Ext (A : Ad) (io io' : List Addr) (H H' : Hp) : Prop where
  pre : ∃ new, io' = io ++ new
  keep : ∀ a o, Un A io a → H a = some o → H' a = some o ∨ ∃ ob kvs, o = .dT kvs ∧ H' a = some (.frz ob (.dT kvs))
  new : ∀ a, a ∈ io' → a ∉ io → H a = none
  hid : ∀ a o, a ∈ A.hd → H a = some o → H' a = some o
theorem Ext.refl (io : List Addr) (H : Hp) : Ext A io io H H := ⟨⟨[], by simp⟩, fun _ _ _ h => .inl h, fun _ h n => absurd h n, fun _ _ _ h => h⟩
theorem Ext.trans {io1 io2 io3 : List Addr} {H1 H2 H3 : Hp} (x : Ext A io1 io2 H1 H2) (y : Ext A io2 io3 H2 H3) : Ext A io1 io3 H1 H3 := by
  obtain ⟨⟨n1, e1⟩, k1, w1, d1⟩ := x
  obtain ⟨⟨n2, e2⟩, k2, w2, d2⟩ := y
  refine ⟨⟨n1 ++ n2, by rw [e2, e1, List.append_assoc]⟩, fun a o ha h => ?_, fun a ha hn => ?_, fun a o ha h => d2 a o ha (d1 a o ha h)⟩
  · have ha2 : Un A io2 a := ⟨fun z => (by rw [w1 a z ha.1] at h; cases h), ha.2⟩
    rcases k1 a o ha h with q | ⟨ob, kvs, e, q⟩
    · exact k2 a o ha2 q
    · subst e
      rcases k2 a _ ha2 q with q | ⟨_, _, e, _⟩
      · exact .inr ⟨ob, kvs, rfl, q⟩
      · cases e
  · by_cases h2 : a ∈ io2
    · exact w1 a h2 hn
    · have h := w2 a ha h2
      cases q : H1 a with
      | none => rfl
      | some o =>
        by_cases hh : a ∈ A.hd
        · rw [d1 a o hh q] at h
          cases h
        · rcases k1 a o ⟨hn, hh⟩ q with z | ⟨_, _, _, z⟩ <;> rw [h] at z <;> cases z
/-- while D is being made -/
theorem Ext.transD {D : Addr} {io1 io2 io3 : List Addr} {H1 H2 H3 : Hp} (x : Ext A io1 io2 H1 H2) (hD : H1 D = none) (y : Ext (A.hide D) io2 io3 H2 H3) : Ext A io1 io3 H1 H3 := by
  obtain ⟨⟨n1, e1⟩, k1, w1, d1⟩ := x
  obtain ⟨⟨n2, e2⟩, k2, w2, d2⟩ := y
  have ne : ∀ a o, H1 a = some o → a ≠ D := fun a o e q => by rw [q, hD] at e; cases e
  have hh : ∀ a, a ≠ D → a ∉ A.hd → a ∉ (A.hide D).hd := fun a h1 h2 z => by
    rcases List.mem_cons.mp z with z | z
    · exact h1 z
    · exact h2 z
  refine ⟨⟨n1 ++ n2, by rw [e2, e1, List.append_assoc]⟩, fun a o ha h => ?_, fun a ha hn => ?_, fun a o ha h => d2 a o (List.mem_cons_of_mem _ ha) (d1 a o ha h)⟩
  · have ha2 : Un (A.hide D) io2 a := ⟨fun z => (by rw [w1 a z ha.1] at h; cases h), hh a (ne a o h) ha.2⟩
    rcases k1 a o ha h with q | ⟨ob, kvs, e, q⟩
    · exact k2 a o ha2 q
    · subst e
      rcases k2 a _ ha2 q with q | ⟨_, _, e, _⟩
      · exact .inr ⟨ob, kvs, rfl, q⟩
      · cases e
  · by_cases h2 : a ∈ io2
    · exact w1 a h2 hn
    · have h := w2 a ha h2
      cases q : H1 a with
      | none => rfl
      | some o =>
        by_cases hh : a ∈ A.hd
        · rw [d1 a o hh q] at h
          cases h
        · have h5 : H2 a ≠ none := by
            rcases k1 a o ⟨hn, hh⟩ q with z | ⟨_, _, _, z⟩ <;> rw [z] <;> simp
          exact absurd h h5
theorem Ext.updD {D : Addr} {o : HO} (x : Ext A io io' H H') (hD : H D = none) : Ext A io io' H (upd H' D o) := by
  obtain ⟨p, k, w, d⟩ := x
  have ne : ∀ a o, H a = some o → a ≠ D := fun a o e q => by rw [q, hD] at e; cases e
  refine ⟨p, fun a u ha h => ?_, w, fun a u ha h => ?_⟩
  · rw [L2.upd_ne (ne a u h)]
    exact k a u ha h
  · rw [L2.upd_ne (ne a u h)]
    exact d a u ha h
theorem Ext.notin {a : Addr} {o : HO} (x : Ext A io io' H H') (h : Un A io a) (e : H a = some o) : Un A io' a := ⟨fun z => (by
  rw [x.new a z h.1] at e
  cases e), h.2⟩
theorem Ext.len (x : Ext A io io' H H') : io.length ≤ io'.length := by
  obtain ⟨n, e⟩ := x.pre
  rw [e, List.length_append]
  omega
theorem Ext.get (x : Ext A io io' H H') {n : Nat} {a : Addr} (h : io[n]? = some a) : io'[n]? = some a := by
  obtain ⟨nw, e⟩ := x.pre
  rw [e, List.getElem?_append_left (List.getElem?_eq_some_iff.mp h).1]
  exact h
theorem Ext.rd {a : Addr} {u : HO} (x : Ext A io io' H H') (h : Un A io a) (hu : ∀ kvs, u ≠ .dT kvs) (e : H a = some u) : H' a = some u := by
  rcases x.keep a u h e with q | ⟨_, kvs, q, _⟩
  · exact q
  · exact absurd q (hu kvs)
theorem TupAt.mono {a : Addr} {vs : List V} (x : Ext A io io' H H') (h : TupAt A io H a vs) : TupAt A io' H' a vs := ⟨x.notin h.1 h.2, x.rd h.1 (fun _ z => by cases z) h.2⟩
theorem LstAt.mono {a : Addr} {vs : List V} (x : Ext A io io' H H') (h : LstAt A K io H a vs) : LstAt A K io' H' a vs := by
  rcases h with ⟨h1, h2 | ⟨o, h2⟩⟩ | h
  · exact .inl ⟨x.notin h1 h2, .inl (x.rd h1 (fun _ z => by cases z) h2)⟩
  · exact .inl ⟨x.notin h1 h2, .inr ⟨o, x.rd h1 (fun _ z => by cases z) h2⟩⟩
  · exact .inr h
theorem rd_mono {a : Addr} {kvs : List (List Key × V)} (x : Ext A io io' H H') (h1 : Un A io a) (h : Rd H a (.dT kvs)) : Un A io' a ∧ Rd H' a (.dT kvs) := by
  rcases h with h2 | ⟨o, h2⟩
  · refine ⟨x.notin h1 h2, ?_⟩
    rcases x.keep a _ h1 h2 with q | ⟨ob, kvs', q, q2⟩
    · exact .inl q
    · cases q
      exact .inr ⟨ob, q2⟩
  · exact ⟨x.notin h1 h2, .inr ⟨o, x.rd h1 (fun _ z => by cases z) h2⟩⟩
mutual
theorem Rep.mono (x : Ext A io io' H H') (hb : b ≤ b') : ∀ {d : D} {v : V}, Rep A K io b H d v → Rep A K io' b' H' d v
  | _, _, .non => .non
  | _, _, .bl _ => .bl _
  | _, _, .int _ => .int _
  | _, _, .str _ => .str _
  | _, _, .tup h z r => .tup (h.mono x) z (Reps.mono x hb r)
  | _, _, .lst h1 h2 z r => .lst (x.notin h1 h2) (x.rd h1 (fun _ z => by cases z) h2) z (Reps.mono x hb r)
  | _, _, .ktp h z r => .ktp h z (Reps.mono x hb r)
  | _, _, .arg h z => .arg (h.mono x) z
  | _, _, .dct h1 h2 e r z => .dct (rd_mono x h1 h2).1 (rd_mono x h1 h2).2 e (Reps.mono x hb r) z
  | _, _, .ref h1 h2 => .ref (Nat.lt_of_lt_of_le h1 hb) (x.get h2)
  | _, _, .fn h => .fn h
theorem Reps.mono (x : Ext A io io' H H') (hb : b ≤ b') : ∀ {ds : List D} {vs : List V}, Reps A K io b H ds vs → Reps A K io' b' H' ds vs
  | _, _, .nil => .nil
  | _, _, .cons r t => .cons (Rep.mono x hb r) (Reps.mono x hb t)
end
/-- fewer mutable things are told -/
theorem Un.less {a : Addr} (hs : ∀ a, a ∈ io' → a ∈ io) (h : Un A io a) : Un A io' a := ⟨fun z => h.1 (hs a z), h.2⟩
theorem TupAt.less {a : Addr} {vs : List V} (hs : ∀ a, a ∈ io' → a ∈ io) (h : TupAt A io H a vs) : TupAt A io' H a vs := ⟨h.1.less hs, h.2⟩
theorem LstAt.less {a : Addr} {vs : List V} (hs : ∀ a, a ∈ io' → a ∈ io) (h : LstAt A K io H a vs) : LstAt A K io' H a vs := by
  rcases h with ⟨h1, h2⟩ | h
  · exact .inl ⟨h1.less hs, h2⟩
  · exact .inr h
mutual
theorem Rep.less (hs : ∀ a, a ∈ io' → a ∈ io) (hg : ∀ n a, n < b → io[n]? = some a → n < b' ∧ io'[n]? = some a) : ∀ {d : D} {v : V}, Rep A K io b H d v → Rep A K io' b' H d v
  | _, _, .non => .non
  | _, _, .bl _ => .bl _
  | _, _, .int _ => .int _
  | _, _, .str _ => .str _
  | _, _, .tup h z r => .tup (h.less hs) z (Reps.less hs hg r)
  | _, _, .lst h1 h2 z r => .lst (h1.less hs) h2 z (Reps.less hs hg r)
  | _, _, .ktp h z r => .ktp h z (Reps.less hs hg r)
  | _, _, .arg h z => .arg (h.less hs) z
  | _, _, .dct h1 h2 e r z => .dct (h1.less hs) h2 e (Reps.less hs hg r) z
  | _, _, .ref h1 h2 => .ref (hg _ _ h1 h2).1 (hg _ _ h1 h2).2
  | _, _, .fn h => .fn h
theorem Reps.less (hs : ∀ a, a ∈ io' → a ∈ io) (hg : ∀ n a, n < b → io[n]? = some a → n < b' ∧ io'[n]? = some a) : ∀ {ds : List D} {vs : List V}, Reps A K io b H ds vs → Reps A K io' b' H ds vs
  | _, _, .nil => .nil
  | _, _, .cons r t => .cons (Rep.less hs hg r) (Reps.less hs hg t)
end
mutual
/-- without mutable things the bound does not matter -/
theorem Rep.nr : ∀ {d : D} {v : V}, Rep A K io b H d v → d.nr = true → Rep A K io b' H d v
  | _, _, .non, _ => .non
  | _, _, .bl _, _ => .bl _
  | _, _, .int _, _ => .int _
  | _, _, .str _, _ => .str _
  | _, _, .tup h z r, e => .tup h z (Reps.nr r (by simpa [D.nr] using e))
  | _, _, .lst h1 h2 z r, e => .lst h1 h2 z (Reps.nr r (by simpa [D.nr] using e))
  | _, _, .ktp h z r, e => .ktp h z (Reps.nr r (by simpa [D.nr] using e))
  | _, _, .arg h z, _ => .arg h z
  | _, _, .dct h1 h2 e r z, q => .dct h1 h2 e (Reps.nr r (by simpa [D.nr] using q)) z
  | _, _, .ref _ _, e => by simp [D.nr] at e
  | _, _, .fn h, _ => .fn h
theorem Reps.nr : ∀ {ds : List D} {vs : List V}, Reps A K io b H ds vs → nrs ds = true → Reps A K io b' H ds vs
  | _, _, .nil, _ => .nil
  | d :: ds, _, .cons r t, e => by
    have e' : D.nr d = true ∧ nrs ds = true := by simpa [nrs] using e
    exact .cons (Rep.nr r e'.1) (Reps.nr t e'.2)
end

/-! ### the mutable things -/
def FldsR (A : Ad) (K : W.Frag) (io : List Addr) (b : Nat) (H : Hp) (fs : List (Str × D)) (gs : List (Str × V)) : Prop := fs.map (·.1) = gs.map (·.1) ∧ Reps A K io b H (fs.map (·.2)) (gs.map (·.2))
def ObjR (A : Ad) (K : W.Frag) (io : List Addr) (b : Nat) (H : Hp) (a : Addr) : MO → Prop
  | .lst ds => ∃ vs, H a = some (.lst vs) ∧ Reps A K io b H ds vs ∧ ds.length ≤ sizeLine
  | .dct ks ds => ∃ kvs, H a = some (.dT kvs) ∧ kvs.map (·.1) = ks ∧ Reps A K io b H ds (kvs.map (·.2)) ∧ ks.length ≤ sizeLine
  | .ins c fs => ∃ C dx gs, A.ca c = some C ∧ H a = some (.ins C dx gs) ∧ FldsR A K io b H fs gs
/-- the bound of a mutable thing's content: B for those of the callers, none for one's own -/
def bnds (B : Nat → Nat) (b : Nat) (io : List Addr) (n : Nat) : Nat := if n < b then B n else io.length
structure Rel (A : Ad) (K : W.Frag) (B : Nat → Nat) (b : Nat) (io : List Addr) (H : Hp) (m : M) : Prop where
  len : io.length = m.length
  nd : io.Nodup
  base : b ≤ io.length
  hid : ∀ a, a ∈ A.hd → a ∉ io ∧ ∃ o, H a = some o ∧ ∀ vs, o ≠ .tup vs
  bd : ∀ n, n < b → B n ≤ b
  ob : ∀ n a o, io[n]? = some a → m[n]? = some o → ObjR A K io (bnds B b io n) H a o
theorem ObjR.some {a : Addr} {o : MO} (h : ObjR A K io b H a o) : ∃ u, H a = Option.some u := by
  cases o with
  | lst ds => obtain ⟨vs, e, _⟩ := h; exact ⟨_, e⟩
  | dct ks ds => obtain ⟨vs, e, _⟩ := h; exact ⟨_, e⟩
  | ins c fs => obtain ⟨_, _, _, _, e, _⟩ := h; exact ⟨_, e⟩
theorem Rel.tracked {B : Nat → Nat} {m : M} (R : Rel A K B b io H m) {a : Addr} (h : a ∈ io) : ∃ u, H a = some u := by
  obtain ⟨n, hn, e⟩ := List.getElem_of_mem h
  have e1 : io[n]? = some a := by rw [List.getElem?_eq_getElem hn, e]
  have hm : n < m.length := by rw [← R.len]; exact hn
  exact (R.ob n a m[n] e1 (List.getElem?_eq_getElem hm)).some
theorem Rel.fresh {B : Nat → Nat} {m : M} (R : Rel A K B b io H m) {a : Addr} (h : H a = none) : Un A io a := ⟨fun z => (by
  obtain ⟨u, e⟩ := R.tracked z
  rw [h] at e
  cases e), fun z => (by
  obtain ⟨_, u, e, _⟩ := R.hid a z
  rw [h] at e
  cases e)⟩
/-- a new thing, laid at p -/
theorem ext_new {p : Addr} (o : HO) (h : H p = none) : Ext A io io H (upd H p o) := (Ext.refl io H).updD h
theorem ext_new1 {p : Addr} (o : HO) (h : H p = none) : Ext A io (io ++ [p]) H (upd H p o) := by
  refine ⟨⟨[p], rfl⟩, (ext_new o h).keep, fun a z n => ?_, (ext_new (io := io) o h).hid⟩
  rcases List.mem_append.mp z with z | z
  · exact absurd z n
  · have e : a = p := by simpa using z
    rw [e]
    exact h
theorem FldsR.mono (x : Ext A io io' H H') (hb : b ≤ b') {fs : List (Str × D)} {gs : List (Str × V)} (h : FldsR A K io b H fs gs) : FldsR A K io' b' H' fs gs := ⟨h.1, h.2.mono x hb⟩
theorem ObjR.mono (x : Ext A io io' H H') (hb : b ≤ b') {a : Addr} (ha : H' a = H a) : ∀ {o : MO}, ObjR A K io b H a o → ObjR A K io' b' H' a o
  | .lst ds, ⟨vs, e, r, z⟩ => ⟨vs, by rw [ha]; exact e, r.mono x hb, z⟩
  | .dct ks ds, ⟨kvs, e, q, r, z⟩ => ⟨kvs, by rw [ha]; exact e, q, r.mono x hb, z⟩
  | .ins c fs, ⟨C, dx, gs, c1, e, f⟩ => ⟨C, dx, gs, c1, by rw [ha]; exact e, f.mono x hb⟩
theorem bnds_le {B : Nat → Nat} (h : io.length ≤ io'.length) (n : Nat) : bnds B b io n ≤ bnds B b io' n := by
  unfold bnds
  split
  · exact Nat.le_refl _
  · exact h
/-- all mutable things as they were, the rest grown -/
theorem Rel.same {B : Nat → Nat} {m : M} (R : Rel A K B b io H m) (x : Ext A io io H H') (h : ∀ a, a ∈ io → H' a = H a) : Rel A K B b io H' m :=
  ⟨R.len, R.nd, R.base, fun a ha => ⟨(R.hid a ha).1, let ⟨o, e, t⟩ := (R.hid a ha).2; ⟨o, x.hid a o ha e, t⟩⟩, R.bd, fun n a o e1 e2 => (R.ob n a o e1 e2).mono x (Nat.le_refl _) (h a (List.mem_of_getElem? e1))⟩
theorem Rel.laid {B : Nat → Nat} {m : M} (R : Rel A K B b io H m) {p : Addr} {o : HO} (h : H p = none) : Rel A K B b io (upd H p o) m :=
  R.same (ext_new o h) fun a z => L2.upd_ne fun q => (R.fresh h).1 (q ▸ z)
/-- a new mutable thing -/
theorem Rel.push {B : Nat → Nat} {m : M} (R : Rel A K B b io H m) {p : Addr} {o : HO} {mo : MO} (h : H p = none) (ho : ObjR A K (io ++ [p]) (io.length + 1) (upd H p o) p mo) : Rel A K B b (io ++ [p]) (upd H p o) (m ++ [mo]) := by
  have hp := R.fresh h
  refine ⟨by rw [List.length_append, List.length_append, R.len]; rfl, ?_, by rw [List.length_append]; exact Nat.le_trans R.base (Nat.le_add_right _ _), fun a ha => ⟨fun z => ?_, let ⟨o', e, t⟩ := (R.hid a ha).2; ⟨o', (ext_new (io := io) o h).hid a o' ha e, t⟩⟩, R.bd, fun n a u e1 e2 => ?_⟩
  · exact List.nodup_append.mpr ⟨R.nd, by simp, fun x hx y hy => by
      have e : y = p := by simpa using hy
      rw [e]
      exact fun z => hp.1 (z ▸ hx)⟩
  · rcases List.mem_append.mp z with z | z
    · exact (R.hid a ha).1 z
    · have e : a = p := by simpa using z
      exact hp.2 (e ▸ ha)
  · by_cases hn : n < io.length
    · rw [List.getElem?_append_left hn] at e1
      rw [List.getElem?_append_left (by rw [← R.len]; exact hn)] at e2
      exact (R.ob n a u e1 e2).mono (ext_new1 o h) (bnds_le (by rw [List.length_append]; exact Nat.le_add_right _ _) n) (L2.upd_ne fun q => hp.1 (q ▸ List.mem_of_getElem? e1))
    · have hm : ¬ n < m.length := by rw [← R.len]; exact hn
      rw [List.getElem?_append_right (by omega)] at e1 e2
      have e0 : n = io.length := by
        have := (List.getElem?_eq_some_iff.mp e1).1
        simp only [List.length_singleton] at this
        omega
      subst e0
      rw [Nat.sub_self] at e1
      rw [R.len, Nat.sub_self] at e2
      simp at e1 e2
      subst e1 e2
      have hb : bnds B b (io ++ [p]) io.length = io.length + 1 := by
        unfold bnds
        rw [if_neg (Nat.not_lt.mpr R.base), List.length_append]
        rfl
      rw [hb]
      exact ho
/-- the n-th mutable thing is changed -/
theorem Rel.write {B : Nat → Nat} {m : M} (R : Rel A K B b io H m) {n : Nat} {p : Addr} {o : HO} {mo : MO} (hp : io[n]? = some p) (x : Ext A io io H (upd H p o)) (ho : ObjR A K io (bnds B b io n) (upd H p o) p mo) : Rel A K B b io (upd H p o) (m.set n mo) := by
  refine ⟨by rw [List.length_set]; exact R.len, R.nd, R.base, fun a ha => ⟨(R.hid a ha).1, let ⟨o', e, t⟩ := (R.hid a ha).2; ⟨o', x.hid a o' ha e, t⟩⟩, R.bd, fun j a u e1 e2 => ?_⟩
  by_cases hj : j = n
  · subst hj
    rw [hp] at e1
    cases e1
    rw [List.getElem?_set_self (by rw [← R.len]; exact (List.getElem?_eq_some_iff.mp hp).1)] at e2
    cases e2
    exact ho
  · rw [List.getElem?_set_ne (fun z => hj z.symm)] at e2
    refine (R.ob j a u e1 e2).mono x (Nat.le_refl _) (L2.upd_ne fun q => hj ?_)
    subst q
    obtain ⟨h1, q1⟩ := List.getElem?_eq_some_iff.mp e1
    obtain ⟨h2, q2⟩ := List.getElem?_eq_some_iff.mp hp
    exact (List.getElem_inj R.nd).mp (q1.trans q2.symm)
theorem Rel.ext_write {B : Nat → Nat} {m : M} (R : Rel A K B b io H m) {p : Addr} {o : HO} (hp : p ∈ io) : Ext A io io H (upd H p o) := by
  refine ⟨⟨[], by simp⟩, fun a u ha e => .inl ?_, fun _ z n => absurd z n, fun a u ha e => ?_⟩
  · rw [L2.upd_ne fun q => ha.1 (by rw [q]; exact hp)]
    exact e
  · rw [L2.upd_ne fun q => (R.hid a ha).1 (by rw [q]; exact hp)]
    exact e

/-! ### what is being made -/
theorem Un.hide {a D : Addr} {o : HO} (h : Un A io a) (e : H a = some o) (hD : H D = none) : Un (A.hide D) io a := ⟨h.1, fun z => by
  rcases List.mem_cons.mp z with z | z
  · rw [z, hD] at e
    cases e
  · exact h.2 z⟩
theorem Un.unhide {a D : Addr} (h : Un (A.hide D) io a) : Un A io a := ⟨h.1, fun z => h.2 (List.mem_cons_of_mem _ z)⟩
theorem Un.ne {a D : Addr} (h : Un (A.hide D) io a) : a ≠ D := fun z => h.2 (z ▸ List.mem_cons_self)
theorem rd_some {a : Addr} {u : HO} (h : Rd H a u) : ∃ o, H a = some o := by
  rcases h with h | ⟨o, h⟩
  · exact ⟨_, h⟩
  · exact ⟨_, h⟩
mutual
theorem Rep.hide {D : Addr} (hD : H D = none) : ∀ {d : Bo.D} {v : V}, Rep A K io b H d v → Rep (A.hide D) K io b H d v
  | _, _, .non => .non
  | _, _, .bl _ => .bl _
  | _, _, .int _ => .int _
  | _, _, .str _ => .str _
  | _, _, .tup h z r => .tup ⟨h.1.hide h.2 hD, h.2⟩ z (Reps.hide hD r)
  | _, _, .lst h1 h2 z r => .lst (h1.hide h2 hD) h2 z (Reps.hide hD r)
  | _, _, .ktp h z r => .ktp h z (Reps.hide hD r)
  | _, _, .arg h z => .arg (by
      rcases h with ⟨h1, h2⟩ | h
      · obtain ⟨o, e⟩ := rd_some h2
        exact .inl ⟨h1.hide e hD, h2⟩
      · exact .inr h) z
  | _, _, .dct h1 h2 e r z => .dct (let ⟨_, q⟩ := rd_some h2; h1.hide q hD) h2 e (Reps.hide hD r) z
  | _, _, .ref h1 h2 => .ref h1 h2
  | _, _, .fn h => .fn h
theorem Reps.hide {D : Addr} (hD : H D = none) : ∀ {ds : List Bo.D} {vs : List V}, Reps A K io b H ds vs → Reps (A.hide D) K io b H ds vs
  | _, _, .nil => .nil
  | _, _, .cons r t => .cons (Rep.hide hD r) (Reps.hide hD t)
end
mutual
theorem Rep.unhide {D : Addr} : ∀ {d : Bo.D} {v : V}, Rep (A.hide D) K io b H d v → Rep A K io b H d v
  | _, _, .non => .non
  | _, _, .bl _ => .bl _
  | _, _, .int _ => .int _
  | _, _, .str _ => .str _
  | _, _, .tup h z r => .tup ⟨h.1.unhide, h.2⟩ z (Reps.unhide r)
  | _, _, .lst h1 h2 z r => .lst h1.unhide h2 z (Reps.unhide r)
  | _, _, .ktp h z r => .ktp h z (Reps.unhide r)
  | _, _, .arg h z => .arg (h.imp (fun h => ⟨h.1.unhide, h.2⟩) id) z
  | _, _, .dct h1 h2 e r z => .dct h1.unhide h2 e (Reps.unhide r) z
  | _, _, .ref h1 h2 => .ref h1 h2
  | _, _, .fn h => .fn h
theorem Reps.unhide {D : Addr} : ∀ {ds : List Bo.D} {vs : List V}, Reps (A.hide D) K io b H ds vs → Reps A K io b H ds vs
  | _, _, .nil => .nil
  | _, _, .cons r t => .cons (Rep.unhide r) (Reps.unhide t)
end
theorem rd_upd {a D : Addr} {u o : HO} (h : Rd H a u) (ne : a ≠ D) : Rd (upd H D o) a u := by
  rcases h with h | ⟨x, h⟩
  · exact .inl (by rw [L2.upd_ne ne]; exact h)
  · exact .inr ⟨x, by rw [L2.upd_ne ne]; exact h⟩
mutual
theorem Rep.updD {D : Addr} {o : HO} : ∀ {d : Bo.D} {v : V}, Rep (A.hide D) K io b H d v → Rep (A.hide D) K io b (upd H D o) d v
  | _, _, .non => .non
  | _, _, .bl _ => .bl _
  | _, _, .int _ => .int _
  | _, _, .str _ => .str _
  | _, _, .tup h z r => .tup ⟨h.1, by rw [L2.upd_ne h.1.ne]; exact h.2⟩ z (Reps.updD r)
  | _, _, .lst h1 h2 z r => .lst h1 (by rw [L2.upd_ne h1.ne]; exact h2) z (Reps.updD r)
  | _, _, .ktp h z r => .ktp h z (Reps.updD r)
  | _, _, .arg h z => .arg (h.imp (fun h => ⟨h.1, rd_upd h.2 h.1.ne⟩) id) z
  | _, _, .dct h1 h2 e r z => .dct h1 (rd_upd h2 h1.ne) e (Reps.updD r) z
  | _, _, .ref h1 h2 => .ref h1 h2
  | _, _, .fn h => .fn h
theorem Reps.updD {D : Addr} {o : HO} : ∀ {ds : List Bo.D} {vs : List V}, Reps (A.hide D) K io b H ds vs → Reps (A.hide D) K io b (upd H D o) ds vs
  | _, _, .nil => .nil
  | _, _, .cons r t => .cons (Rep.updD r) (Reps.updD t)
end
theorem ObjR.hide {a D : Addr} (hD : H D = none) : ∀ {o : MO}, ObjR A K io b H a o → ObjR (A.hide D) K io b H a o
  | .lst _, ⟨vs, e, r, z⟩ => ⟨vs, e, r.hide hD, z⟩
  | .dct _ _, ⟨kvs, e, q, r, z⟩ => ⟨kvs, e, q, r.hide hD, z⟩
  | .ins _ _, ⟨C, dx, gs, c1, e, f⟩ => ⟨C, dx, gs, c1, e, f.1, f.2.hide hD⟩
theorem ObjR.unhide {a D : Addr} : ∀ {o : MO}, ObjR (A.hide D) K io b H a o → ObjR A K io b H a o
  | .lst _, ⟨vs, e, r, z⟩ => ⟨vs, e, r.unhide, z⟩
  | .dct _ _, ⟨kvs, e, q, r, z⟩ => ⟨kvs, e, q, r.unhide, z⟩
  | .ins _ _, ⟨C, dx, gs, c1, e, f⟩ => ⟨C, dx, gs, c1, e, f.1, f.2.unhide⟩
theorem ObjR.updD {a D : Addr} {u : HO} (ne : a ≠ D) : ∀ {o : MO}, ObjR (A.hide D) K io b H a o → ObjR (A.hide D) K io b (upd H D u) a o
  | .lst _, ⟨vs, e, r, z⟩ => ⟨vs, by rw [L2.upd_ne ne]; exact e, r.updD, z⟩
  | .dct _ _, ⟨kvs, e, q, r, z⟩ => ⟨kvs, by rw [L2.upd_ne ne]; exact e, q, r.updD, z⟩
  | .ins _ _, ⟨C, dx, gs, c1, e, f⟩ => ⟨C, dx, gs, c1, by rw [L2.upd_ne ne]; exact e, f.1, f.2.updD⟩
theorem Rel.updD {B : Nat → Nat} {m : M} {D : Addr} {u : HO} (R : Rel (A.hide D) K B b io H m) (hu : ∀ vs, u ≠ .tup vs) : Rel (A.hide D) K B b io (upd H D u) m :=
  ⟨R.len, R.nd, R.base, fun a ha => ⟨(R.hid a ha).1, by
    obtain ⟨o, e, t⟩ := (R.hid a ha).2
    by_cases q : a = D
    · exact ⟨u, by rw [q]; exact L2.upd_same, hu⟩
    · exact ⟨o, by rw [L2.upd_ne q]; exact e, t⟩⟩, R.bd, fun n a o e1 e2 => (R.ob n a o e1 e2).updD fun (q : a = D) => (R.hid D List.mem_cons_self).1 (by rw [← q]; exact List.mem_of_getElem? e1)⟩
theorem Rel.hide {B : Nat → Nat} {m : M} {D : Addr} {u : HO} (R : Rel A K B b io H m) (hD : H D = none) (hu : ∀ vs, u ≠ .tup vs) : Rel (A.hide D) K B b io (upd H D u) m := by
  have hf := R.fresh hD
  refine ⟨R.len, R.nd, R.base, fun a ha => ?_, R.bd, fun n a o e1 e2 => ?_⟩
  · rcases List.mem_cons.mp ha with z | z
    · subst z
      exact ⟨hf.1, u, L2.upd_same, hu⟩
    · obtain ⟨h1, o, e, t⟩ := R.hid a z
      exact ⟨h1, o, (ext_new (A := A) (io := io) u hD).hid a o z e, t⟩
  · have ne : a ≠ D := fun q => hf.1 (q ▸ List.mem_of_getElem? e1)
    exact ((R.ob n a o e1 e2).hide hD).updD ne
theorem Rel.unhide {B : Nat → Nat} {m : M} {D : Addr} (R : Rel (A.hide D) K B b io H m) : Rel A K B b io H m :=
  ⟨R.len, R.nd, R.base, fun a ha => R.hid a (List.mem_cons_of_mem _ ha), R.bd, fun n a o e1 e2 => (R.ob n a o e1 e2).unhide⟩

/-! ### another list of what is being made -/
theorem Un.wh {hd : List Addr} (hh : ∀ a, a ∈ hd → a ∈ A.hd ∨ H a = none) {a : Addr} {o : HO} (h : Un A io a) (e : H a = some o) : Un (A.wh hd) io a := ⟨h.1, fun z => by
  rcases hh a z with q | q
  · exact h.2 q
  · rw [q] at e
    cases e⟩
mutual
theorem Rep.wh {hd : List Addr} (hh : ∀ a, a ∈ hd → a ∈ A.hd ∨ H a = none) : ∀ {d : Bo.D} {v : V}, Rep A K io b H d v → Rep (A.wh hd) K io b H d v
  | _, _, .non => .non
  | _, _, .bl _ => .bl _
  | _, _, .int _ => .int _
  | _, _, .str _ => .str _
  | _, _, .tup h z r => .tup ⟨h.1.wh hh h.2, h.2⟩ z (Reps.wh hh r)
  | _, _, .lst h1 h2 z r => .lst (h1.wh hh h2) h2 z (Reps.wh hh r)
  | _, _, .ktp h z r => .ktp h z (Reps.wh hh r)
  | _, _, .arg h z => .arg (by
      rcases h with ⟨h1, h2⟩ | h
      · obtain ⟨o, e⟩ := rd_some h2
        exact .inl ⟨h1.wh hh e, h2⟩
      · exact .inr h) z
  | _, _, .dct h1 h2 e r z => .dct (let ⟨_, q⟩ := rd_some h2; h1.wh hh q) h2 e (Reps.wh hh r) z
  | _, _, .ref h1 h2 => .ref h1 h2
  | _, _, .fn h => .fn h
theorem Reps.wh {hd : List Addr} (hh : ∀ a, a ∈ hd → a ∈ A.hd ∨ H a = none) : ∀ {ds : List Bo.D} {vs : List V}, Reps A K io b H ds vs → Reps (A.wh hd) K io b H ds vs
  | _, _, .nil => .nil
  | _, _, .cons r t => .cons (Rep.wh hh r) (Reps.wh hh t)
end
theorem Ext.hide {D : Addr} (x : Ext A io io' H H') (hD : H D = none) : Ext (A.hide D) io io' H H' :=
  ⟨x.pre, fun a o ha h => x.keep a o ha.unhide h, x.new, fun a o ha h => by
    rcases List.mem_cons.mp ha with z | z
    · rw [z, hD] at h
      cases h
    · exact x.hid a o z h⟩

theorem Ext.unhide {D : Addr} (x : Ext (A.hide D) io io' H H') (hD : H D = none) : Ext A io io' H H' :=
  ⟨x.pre, fun a o ha h => x.keep a o (ha.hide h hD) h, x.new, fun a o ha h => x.hid a o (List.mem_cons_of_mem _ ha) h⟩
/-- what was being made is told -/
theorem Un.adopt {a D : Addr} (h : Un (A.hide D) io a) : Un A (io ++ [D]) a := ⟨fun z => (by
  rcases List.mem_append.mp z with z | z
  · exact h.1 z
  · exact h.ne (by simpa using z)), h.unhide.2⟩
mutual
theorem Rep.adopt {D : Addr} : ∀ {d : Bo.D} {v : V}, Rep (A.hide D) K io b H d v → Rep A K (io ++ [D]) b H d v
  | _, _, .non => .non
  | _, _, .bl _ => .bl _
  | _, _, .int _ => .int _
  | _, _, .str _ => .str _
  | _, _, .tup h z r => .tup ⟨h.1.adopt, h.2⟩ z (Reps.adopt r)
  | _, _, .lst h1 h2 z r => .lst h1.adopt h2 z (Reps.adopt r)
  | _, _, .ktp h z r => .ktp h z (Reps.adopt r)
  | _, _, .arg h z => .arg (h.imp (fun h => ⟨h.1.adopt, h.2⟩) id) z
  | _, _, .dct h1 h2 e r z => .dct h1.adopt h2 e (Reps.adopt r) z
  | _, _, .ref h1 h2 => .ref h1 (by rw [List.getElem?_append_left (List.getElem?_eq_some_iff.mp h2).1]; exact h2)
  | _, _, .fn h => .fn h
theorem Reps.adopt {D : Addr} : ∀ {ds : List Bo.D} {vs : List V}, Reps (A.hide D) K io b H ds vs → Reps A K (io ++ [D]) b H ds vs
  | _, _, .nil => .nil
  | _, _, .cons r t => .cons (Rep.adopt r) (Reps.adopt t)
end
theorem ObjR.adopt {a D : Addr} : ∀ {o : MO}, ObjR (A.hide D) K io b H a o → ObjR A K (io ++ [D]) b H a o
  | .lst _, ⟨vs, e, r, z⟩ => ⟨vs, e, r.adopt, z⟩
  | .dct _ _, ⟨kvs, e, q, r, z⟩ => ⟨kvs, e, q, r.adopt, z⟩
  | .ins _ _, ⟨C, dx, gs, c1, e, f⟩ => ⟨C, dx, gs, c1, e, f.1, f.2.adopt⟩
theorem Rep.le {b' : Nat} (h : b ≤ b') {d : Bo.D} {v : V} (r : Rep A K io b H d v) : Rep A K io b' H d v := r.mono (Ext.refl io H) h
theorem Reps.le {b' : Nat} (h : b ≤ b') {d : List Bo.D} {v : List V} (r : Reps A K io b H d v) : Reps A K io b' H d v := r.mono (Ext.refl io H) h
theorem Rel.adopt {B : Nat → Nat} {m : M} {D : Addr} {mo : MO} (R : Rel (A.hide D) K B b io H m) (hd : D ∉ A.hd) (ho : ObjR A K (io ++ [D]) (io.length + 1) H D mo) : Rel A K B b (io ++ [D]) H (m ++ [mo]) := by
  have hD : D ∉ io := (R.hid D List.mem_cons_self).1
  refine ⟨by rw [List.length_append, List.length_append, R.len]; rfl, ?_, by rw [List.length_append]; exact Nat.le_trans R.base (Nat.le_add_right _ _), fun a ha => ?_, R.bd, fun n a u e1 e2 => ?_⟩
  · exact List.nodup_append.mpr ⟨R.nd, by simp, fun x hx y hy => by
      have e : y = D := by simpa using hy
      rw [e]
      exact fun z => hD (z ▸ hx)⟩
  · obtain ⟨h1, o, h2, h3⟩ := R.hid a (List.mem_cons_of_mem _ ha)
    refine ⟨fun z => ?_, o, h2, h3⟩
    rcases List.mem_append.mp z with z | z
    · exact h1 z
    · have e : a = D := by simpa using z
      exact hd (e ▸ ha)
  · by_cases hn : n < io.length
    · rw [List.getElem?_append_left hn] at e1
      rw [List.getElem?_append_left (by rw [← R.len]; exact hn)] at e2
      have q := (R.ob n a u e1 e2).adopt
      exact q.mono (Ext.refl _ _) (bnds_le (by rw [List.length_append]; exact Nat.le_add_right _ _) n) rfl
    · have hm : ¬ n < m.length := by rw [← R.len]; exact hn
      rw [List.getElem?_append_right (by omega)] at e1 e2
      have e0 : n = io.length := by
        have := (List.getElem?_eq_some_iff.mp e1).1
        simp only [List.length_singleton] at this
        omega
      subst e0
      rw [Nat.sub_self] at e1
      rw [R.len, Nat.sub_self] at e2
      simp at e1 e2
      subst e1 e2
      have hb : bnds B b (io ++ [D]) io.length = io.length + 1 := by
        unfold bnds
        rw [if_neg (Nat.not_lt.mpr R.base), List.length_append]
        rfl
      rw [hb]
      exact ho

/-! ### the slots -/
def RelS (A : Ad) (K : W.Frag) (io : List Addr) (H : Hp) (s : Sg) (σ : L2.St) : Prop :=
  s.length = σ.length ∧ ∀ (i : Nat) (d : D), s[i]? = some (some d) → ∃ v, σ[i]? = some (some v) ∧ Rep A K io io.length H d v
theorem RelS.mono {s : Sg} {σ : L2.St} (x : Ext A io io' H H') (h : RelS A K io H s σ) : RelS A K io' H' s σ :=
  ⟨h.1, fun i d e => let ⟨v, e1, r⟩ := h.2 i d e; ⟨v, e1, r.mono x x.len⟩⟩
theorem RelS.set {s : Sg} {σ : L2.St} {d : D} {v : V} (h : RelS A K io H s σ) (r : Rep A K io io.length H d v) (i : Nat) : RelS A K io H (s.set i (some d)) (σ.set i (some v)) := by
  refine ⟨by rw [List.length_set, List.length_set]; exact h.1, fun j e q => ?_⟩
  by_cases hj : j = i
  · subst hj
    have hl : j < s.length := by
      have := (List.getElem?_eq_some_iff.mp q).1
      rwa [List.length_set] at this
    rw [List.getElem?_set_self hl] at q
    cases q
    exact ⟨v, List.getElem?_set_self (by rw [← h.1]; exact hl), r⟩
  · rw [List.getElem?_set_ne (fun z => hj z.symm)] at q
    rw [List.getElem?_set_ne (fun z => hj z.symm)]
    exact h.2 j e q
theorem RelS.wip {s : Sg} {σ : L2.St} (h : RelS A K io H s σ) : ∀ vs : List Nat, RelS A K io H (wip s vs) (L2.wipe σ vs)
  | [] => h
  | v :: vs => by
    have ih := RelS.wip h vs
    refine ⟨by show ((Bo.wip s vs).set v none).length = ((L2.wipe σ vs).set v none).length; rw [List.length_set, List.length_set]; exact ih.1, fun j e q => ?_⟩
    have q' : ((Bo.wip s vs).set v none)[j]? = some (some e) := q
    by_cases hj : j = v
    · subst hj
      have hl : j < (Bo.wip s vs).length := by
        have := (List.getElem?_eq_some_iff.mp q').1
        rwa [List.length_set] at this
      rw [List.getElem?_set_self hl] at q'
      cases q'
    · rw [List.getElem?_set_ne (fun z => hj z.symm)] at q'
      show ∃ v', ((L2.wipe σ vs).set v none)[j]? = some (some v') ∧ _
      rw [List.getElem?_set_ne (fun z => hj z.symm)]
      exact ih.2 j e q'

/-! ### sequences as the library reads them -/
theorem Rep.tupSq {ds : List D} {v : V} (r : Rep A K io b H (.tup ds) v) : ∃ a vs, v = .ref a ∧ SqT K H a vs ∧ Reps A K io b H ds vs ∧ ds.length ≤ sizeLine := by
  cases r with
  | tup h z r => exact ⟨_, _, rfl, h.sq, r, z⟩
theorem Rel.bnd_le {B : Nat → Nat} {m : M} (R : Rel A K B b io H m) (n : Nat) : bnds B b io n ≤ io.length := by
  unfold bnds
  split
  · rename_i hn
    exact Nat.le_trans (R.bd n hn) R.base
  · exact Nat.le_refl _
theorem Rel.get {B : Nat → Nat} {m : M} (R : Rel A K B b io H m) {n : Nat} {a : Addr} {o : MO} (h : io[n]? = some a) (e : m[n]? = some o) : ObjR A K io io.length H a o := by
  have q := R.ob n a o h e
  exact q.mono (Ext.refl io H) (R.bnd_le n) rfl
/-- a list that may be read and stands in H by itself -/
theorem Rep.lstEx {B : Nat → Nat} {m : M} {d : D} {v : V} {ds : List D} (R : Rel A K B b io H m) (r : Rep A K io io.length H d v) (h : lstM m d = some ds) :
    ∃ a vs, v = .ref a ∧ H a = some (.lst vs) ∧ Reps A K io io.length H ds vs ∧ ds.length ≤ sizeLine := by
  unfold lstM at h
  cases r with
  | lst h1 h2 z r =>
    cases h
    exact ⟨_, _, rfl, h2, r, z⟩
  | @ref n a h1 h2 =>
    simp only at h
    split at h
    · rename_i es e
      cases h
      obtain ⟨vs, e1, r1, z⟩ := R.get h2 e
      exact ⟨a, vs, rfl, e1, r1, z⟩
    · cases h
  | _ => simp at h
theorem reps_ints : ∀ ns : List Int, Reps A K io b H (ns.map .int) (ns.map .int)
  | [] => .nil
  | n :: r => .cons (.int n) (reps_ints r)
/-- a list or a tuple that may be read -/
theorem Rep.seqEx {B : Nat → Nat} {m : M} {d : D} {v : V} {ds : List D} (R : Rel A K B b io H m) (r : Rep A K io io.length H d v) (h : seqM m d = some ds) :
    ∃ a vs, v = .ref a ∧ (SqL K H a vs ∨ SqT K H a vs) ∧ Reps A K io io.length H ds vs ∧ ds.length ≤ sizeLine := by
  unfold seqM at h
  cases r with
  | tup h1 z r =>
    cases h
    exact ⟨_, _, rfl, .inr h1.sq, r, z⟩
  | lst h1 h2 z r =>
    cases h
    exact ⟨_, _, rfl, .inl (.inl (.inl h2)), r, z⟩
  | ktp h1 z r =>
    cases h
    exact ⟨_, _, rfl, .inr h1.sq, r, z⟩
  | arg h1 z =>
    cases h
    exact ⟨_, _, rfl, .inl h1.sq, reps_ints _, by rw [List.length_map]; exact z⟩
  | @ref n a h1 h2 =>
    simp only at h
    split at h
    · rename_i es e
      cases h
      obtain ⟨vs, e1, r1, z⟩ := R.get h2 e
      exact ⟨a, vs, rfl, .inl (.inl (.inl e1)), r1, z⟩
    · cases h
  | _ => simp at h
/-- a mutable list -/
theorem Rep.refEx {B : Nat → Nat} {m : M} {n : Nat} {v : V} (R : Rel A K B b io H m) (r : Rep A K io io.length H (.ref n) v) : ∃ a, v = .ref a ∧ io[n]? = some a := by
  cases r with
  | ref h1 h2 => exact ⟨_, rfl, h2⟩
/-! ### as the library's data -/
mutual
theorem Rep.dp : ∀ {d : D} {v : V} {p : PyData}, Rep A K io b H d v → d.py = some p → L2.Dp K H v p
  | _, _, _, .non, e => by cases e; exact .non
  | _, _, _, .bl k, e => by cases e; exact .bl k
  | _, _, _, .int i, e => by cases e; exact .int i
  | _, _, _, .str s, e => by cases e; exact .str s
  | .tup ds, _, p, .tup h z r, e => by
    cases q : pys ds with
    | none => simp [D.py, q] at e
    | some ps =>
      have e' : PyData.tuple ps = p := by simpa [D.py, q] using e
      subst e'
      exact .tup h.sq (Reps.dps r q)
  | .lst ds, _, p, .lst h1 h2 z r, e => by
    cases q : pys ds with
    | none => simp [D.py, q] at e
    | some ps =>
      have e' : PyData.list ps = p := by simpa [D.py, q] using e
      subst e'
      exact .lst (.inl (.inl h2)) (Reps.dps r q)
  | .ktp ds, _, p, .ktp h z r, e => by
    cases q : pys ds with
    | none => simp [D.py, q] at e
    | some ps =>
      have e' : PyData.tuple ps = p := by simpa [D.py, q] using e
      subst e'
      exact .tup h.sq (Reps.dps r q)
  | .arg ns, _, p, .arg h z, e => by
    cases e
    refine .lst h.sq ?_
    have key : ∀ ns : List Int, L2.DpAll K H (ns.map V.int) (ns.map PyData.int) := fun ns => by
      induction ns with
      | nil => exact .nil
      | cons n r ih => exact .cons (.int n) ih
    exact key ns
  | _, _, _, .dct _ _ _ _ _, e => by simp [D.py] at e
  | _, _, _, .ref _ _, e => by simp [D.py] at e
  | _, _, _, .fn _, e => by simp [D.py] at e
theorem Reps.dps : ∀ {ds : List D} {vs : List V} {ps : List PyData}, Reps A K io b H ds vs → pys ds = some ps → L2.DpAll K H vs ps
  | _, _, _, .nil, e => by cases e; exact .nil
  | d :: ds, _, ps, .cons r t, e => by
    cases q1 : D.py d with
    | none => simp [pys, q1] at e
    | some p =>
      cases q2 : pys ds with
      | none => simp [pys, q1, q2] at e
      | some ps' =>
        have e' : p :: ps' = ps := by simpa [pys, q1, q2] using e
        subst e'
        exact .cons (Rep.dp r q1) (Reps.dps t q2)
end
theorem Rep.dpM {B : Nat → Nat} {m : M} {d : D} {v : V} {p : PyData} (R : Rel A K B b io H m) (r : Rep A K io io.length H d v) (h : pyM m d = some p) : L2.Dp K H v p := by
  cases d with
  | ref n =>
    simp only [pyM] at h
    split at h
    · rename_i es e
      cases q : pys es with
      | none => rw [q] at h; cases h
      | some ps =>
        rw [q] at h
        cases h
        obtain ⟨a, rfl, ha⟩ := r.refEx R
        obtain ⟨vs, e1, r1, z⟩ := R.get ha e
        exact .lst (.inl (.inl e1)) (r1.dps q)
    · cases h
  | _ => exact r.dp h
/-! ### keys -/
theorem key_vals : ∀ {ds : List D} {vs : List V} {ks : List Key}, Reps A K io b H ds vs → toKs ds = some ks → vs = ks.map L2.kV
  | _, _, _, .nil, e => by cases e; rfl
  | d :: ds, v :: vs, ks, .cons r t, e => by
    simp only [toKs] at e
    split at e
    · rename_i k kr h1 h2
      cases e
      rw [key_vals t h2, List.map_cons]
      congr 1
      cases r with
      | int i => cases h1; rfl
      | str s => cases h1; rfl
      | _ => simp [toK1] at h1
    · cases e
theorem Rep.key {d : D} {v : V} {k : List Key} (r : Rep A K io b H d v) (h : toK d = some k) : ∃ a, v = .ref a ∧ H a = some (.tup (k.map L2.kV)) ∧ Un A io a := by
  unfold toK at h
  cases r with
  | tup h1 z r =>
    rw [← key_vals r h]
    exact ⟨_, rfl, h1.2, h1.1⟩
  | _ => simp at h
theorem Rep.dctEx {B : Nat → Nat} {m : M} {d : D} {v : V} {ks : List (List Key)} {vs : List D} (R : Rel A K B b io H m) (r : Rep A K io io.length H d v) (h : dctM m d = some (ks, vs)) :
    ∃ a kvs, v = .ref a ∧ Rd H a (.dT kvs) ∧ kvs.map (·.1) = ks ∧ Reps A K io io.length H vs (kvs.map (·.2)) := by
  unfold dctM at h
  cases r with
  | dct h1 h2 e r z =>
    cases h
    exact ⟨_, _, rfl, h2, e, r⟩
  | @ref n a h1 h2 =>
    simp only at h
    split at h
    · rename_i ks' vs' e
      cases h
      obtain ⟨kvs, e1, q, r1, z⟩ := R.get h2 e
      exact ⟨a, kvs, rfl, .inl e1, q, r1⟩
    · cases h
  | _ => simp at h
theorem valV_dget : ∀ {kvs : List (List Key × V)} {vs : List D} (k : List Key), Reps A K io b H vs (kvs.map (·.2)) → match dget (kvs.map (·.1)) vs k with
    | some d => ∃ v, L2.valV kvs k = some v ∧ Rep A K io b H d v
    | none => L2.valV kvs k = none
  | [], _, k, r => by
    cases r
    exact L2.valV_nil
  | (a, u) :: kvs, _, k, r => by
    have r' : Reps A K io b H _ (u :: kvs.map (·.2)) := r
    cases r' with
    | @cons d _ ds _ r1 r2 =>
      show match dget (a :: kvs.map (·.1)) (d :: ds) k with
        | some d => ∃ v, L2.valV ((a, u) :: kvs) k = some v ∧ Rep A K io b H d v
        | none => L2.valV ((a, u) :: kvs) k = none
      rw [dget]
      by_cases e : a = k
      · rw [if_pos e]
        exact ⟨u, L2.valV_pos e, r1⟩
      · rw [if_neg e, L2.valV_neg (show ¬ (a, u).1 = k from e)]
        exact valV_dget k r2
end
end Bo

set_option Elab.async false
set_option linter.all false
set_option maxRecDepth 100000
/-! B2: when our syntax is the program's own, but for positions. -/
namespace Bo
open PySem
/-- the linked text: the defs' and classes' names by number -/
structure Lk where
  fn : Nat → Option Str
  cl : Nat → Option Str
  /-- the def that tells which error it is -/
  wh : Option Str
  /-- the books' methods -/
  mt : Nat → Option Str

def visB (sc : Scope) (x : Str) : Bool := match sc.names.lookup x with
  | some .local => true
  | some .cell => true
  | some .free => true
  | _ => false
def locB (sc : Scope) (x : Str) : Bool := match sc.names.lookup x with
  | some .local => true
  | some .cell => true
  | _ => false
def locOnly (sc : Scope) (x : Str) : Bool := match sc.names.lookup x with
  | some .local => true
  | _ => false
def glB (sc : Scope) (x : Str) : Bool := match sc.names.lookup x with
  | some .globalImplicit => x != ("__debug__" : Str) && x != ("__name__" : Str)
  | _ => false
def kB : D → Const → Bool
  | .non, .none => true
  | .bl a, .bool b => a == b
  | .int a, .int b => a == b
  | .str a, .str b => a == b
  | _, _ => false
def opB : Op → Operator → Bool
  | .add, .Add => true
  | .sub, .Sub => true
  | .mul, .Mult => true
  | .fdiv, .FloorDiv => true
  | .mod, .Mod => true
  | .pow, .Pow => true
  | _, _ => false
def cmB : Cm → CmpOp → Bool
  | .eq, .Eq => true
  | .ne, .NotEq => true
  | .lt, .Lt => true
  | .le, .LtE => true
  | .gt, .Gt => true
  | .ge, .GtE => true
  | .isin, .In => true
  | .notin, .NotIn => true
  | _, _ => false
def biN : Bi → Str
  | .len => "len"
  | .sum => "sum"
  | .all => "all"
  | .any => "any"
  | .srt => "sorted"
  | .tup => "tuple"
  | .min1 => "min"
  | .min2 => "min"
  | .abs => "abs"
  | .str => "str"
  | .int => "int"
def kiN (l : Lk) : Ki → Option Str
  | .int => some "int"
  | .bool => some "bool"
  | .tup => some "tuple"
  | .str => some "str"
  | .lst => some "list"
  | .cls c => if c = 13 then l.cl 13 else none
def nRange : Str := "range"
def nList : Str := "list"
def nDict : Str := "dict"
def nSet : Str := "set"
def nSorted : Str := "sorted"
def nLen : Str := "len"
def nIsi : Str := "isinstance"
def nEnum : Str := "enumerate"
def nZip : Str := "zip"
def nTuple : Str := "tuple"
def nDLen : Str := "__len__"
def nDStr : Str := "__str__"
def nDEq : Str := "__eq__"
def nDInit : Str := "__init__"
def nStr : Str := "str"
def nAppend : Str := "append"
def nExtend : Str := "extend"
def nPop : Str := "pop"
def nReverse : Str := "reverse"
def nCount : Str := "count"
def nIndex : Str := "index"
def nJoin : Str := "join"
def nSplit : Str := "split"
/-- the scope of a comprehension's block, as it runs -/
def blkSc (sc scope : Scope) : Scope := { scope with names := scope.names.map fun (n, k) => if (k == NameKind.free && sc.kind == .function && sc.names.lookup n == some .cell) then (n, NameKind.cell) else (n, k) }
def ownN (N : List Str) (vs : List Nat) : List (Str × Nat) := vs.map fun i => (N.getD i Str.empty, i)
/-- what may stand ahead of a dot -/
def baseB : Expr → Bool
  | .Name .. => true
  | .Subscript .. => true
  | .Attribute .. => true
  | .Constant .. => true
  | _ => false
section
variable (l : Lk) (G : List (Str × D)) (N : List Str)
mutual
def mP : P → Scope → Expr → Bool
  | .v i, sc, x => match x with
    | .Name n _ => locB sc n && decide (N[i]? = some n)
    | _ => false
  | .t ps, sc, x => match x with
    | .Tuple xs _ _ => mPs ps sc xs
    | _ => false
  | _, _, _ => false
def mPs : P → Scope → List Expr → Bool
  | .nil, _, xs => xs.isEmpty
  | .cons p ps, sc, xs => match xs with
    | x :: r => mP p sc x && mPs ps sc r
    | [] => false
  | _, _, _ => false
end
/-- what has a rule yet -/
def biOk : Bi → Bool
  | _ => true
/-- what may be a test -/
def tstE : E → Bool
  | .ife .. => false
  | .dun .. => false
  | .deq .. => false
  | _ => true
def tstEs : E → Bool
  | .cons a .nil => tstE a
  | .cons a r => tstE a && tstEs r
  | _ => false
/-- one or two -/
def few : E → Bool
  | .cons _ .nil => true
  | .cons _ (.cons _ .nil) => true
  | _ => false
/-- three -/
def few3 : E → Bool
  | .cons _ (.cons _ (.cons _ .nil)) => true
  | _ => false
/-- a clause's tests -/
def tstC : E → Bool
  | .nil => true
  | .cons a .nil => tstE a
  | _ => false
def isTupE : Expr → Bool
  | .Tuple .. => true
  | _ => false
def isNilE : E → Bool
  | .nil => true
  | _ => false
mutual
def mE : E → Scope → Expr → Bool
  | .v i, sc, x => match x with
    | .Name n _ => visB sc n && decide (N[i]? = some n) && n != ("__debug__" : Str) && n != ("__classdict__" : Str)
    | _ => false
  | .k d, _, x => match x with
    | .Constant c _ _ => kB d c
    | .UnaryOp .USub (.Constant (.int j) _ _) _ => (match d with
      | .int i => decide (i = -j)
      | _ => false)
    | _ => false
  | .gl i d, sc, x => match x with
    | .Name n _ => glB sc n && (match G[i]? with
      | some (n', d') => decide (n = n') && D.beq d d'
      | none => false)
    | _ => false
  | .fnm f, sc, x => match x with
    | .Name n _ => glB sc n && decide (l.fn f = some n)
    | _ => false
  | .tup es, sc, x => match x with
    | .Tuple xs _ _ => mEs es sc xs
    | _ => false
  | .lst es, sc, x => match x with
    | .List xs _ => mEs es sc xs
    | _ => false
  | .new es, sc, x => match x with
    | .List xs _ => mEs es sc xs
    | _ => false
  | .dnew, _, x => match x with
    | .Dict [] [] _ => true
    | _ => false
  | .bin o a b, sc, x => match x with
    | .BinOp a' o' b' _ => opB o o' && mE a sc a' && mE b sc b'
    | _ => false
  | .cat a b, sc, x => match x with
    | .BinOp a' .Add b' _ => mE a sc a' && mE b sc b'
    | _ => false
  | .cmp o a b, sc, x => match x with
    | .Compare a' [o'] [b'] _ => cmB o o' && mE a sc a' && mE b sc b'
    | _ => false
  | .chn o p a b c, sc, x => match x with
    | .Compare a' [o', p'] [b', c'] _ => cmB o o' && cmB p p' && mE a sc a' && mE b sc b' && mE c sc c'
    | _ => false
  | .isk yes a d, sc, x => match x with
    | .Compare a' [.Is] [.Constant c _ _] _ => yes && mE a sc a' && kB d c
    | .Compare a' [.IsNot] [.Constant c _ _] _ => !yes && mE a sc a' && kB d c
    | _ => false
  | .and es, sc, x => match x with
    | .BoolOp .And xs _ => tstEs es && mEs es sc xs
    | _ => false
  | .or es, sc, x => match x with
    | .BoolOp .Or xs _ => tstEs es && mEs es sc xs
    | _ => false
  | .not a, sc, x => match x with
    | .UnaryOp .Not a' _ => tstE a && mE a sc a'
    | _ => false
  | .ife t a b, sc, x => match x with
    | .IfExp t' a' b' _ => tstE t && mE t sc t' && mE a sc a' && mE b sc b'
    | _ => false
  | .ix a i, sc, x => match x with
    | .Subscript a' i' _ => mE a sc a' && mE i sc i'
    | _ => false
  | .sl a lo hi, sc, x => match x with
    | .Subscript a' (.Slice lo' hi' none _) _ => mE a sc a' && mO lo sc lo' && mO hi sc hi'
    | _ => false
  | .rv a, sc, x => match x with
    | .Subscript a' (.Slice none none (some (.UnaryOp .USub (.Constant (.int 1) _ _) _)) _) _ => mE a sc a'
    | _ => false
  | .bi b es, sc, x => match x with
    | .Call (.Name n _) xs [] _ => glB sc n && decide (n = biN b) && biOk b && !xs.isEmpty && mEs es sc xs
    | _ => false
  | .isi a k, sc, x => match x with
    | .Call (.Name n _) [a', .Name t _] [] _ => glB sc n && decide (n = nIsi) && glB sc t && decide (kiN l k = some t) && mE a sc a'
    | _ => false
  | .lsr _ es, sc, x => match x with
    | .Call (.Name n _) [.Call (.Name r _) xs [] _] [] _ => glB sc n && decide (n = nList) && glB sc r && decide (r = nRange) && few es && mEs es sc xs
    | _ => false
  | .lsq _ a, sc, x => match x with
    | .Call (.Name n _) [a'] [] _ => glB sc n && decide (n = nList) && mE a sc a'
    | _ => false
  | .cnt a e, sc, x => match x with
    | .Call (.Attribute a' n p) [e'] [] q => decide (n = nCount) && p.endLine == q.line && baseB a' && mE a sc a' && mE e sc e'
    | _ => false
  | .join a e, sc, x => match x with
    | .Call (.Attribute a' n p) [e'] [] q => decide (n = nJoin) && p.endLine == q.line && baseB a' && mE a sc a' && mE e sc e'
    | _ => false
  | .splt a e, sc, x => match x with
    | .Call (.Attribute a' n p) [e'] [] q => decide (n = nSplit) && p.endLine == q.line && baseB a' && mE a sc a' && mE e sc e'
    | _ => false
  | .app a e, sc, x => match x with
    | .Call (.Attribute a' n p) [e'] [] q => decide (n = nAppend) && p.endLine == q.line && baseB a' && mE a sc a' && mE e sc e'
    | _ => false
  | .ext a e, sc, x => match x with
    | .Call (.Attribute a' n p) [e'] [] q => decide (n = nExtend) && p.endLine == q.line && baseB a' && mE a sc a' && mE e sc e'
    | _ => false
  | .pop0 a, sc, x => match x with
    | .Call (.Attribute a' n p) [] [] q => decide (n = nPop) && p.endLine == q.line && baseB a' && mE a sc a'
    | _ => false
  | .pop1 a e, sc, x => match x with
    | .Call (.Attribute a' n p) [e'] [] q => decide (n = nPop) && p.endLine == q.line && baseB a' && mE a sc a' && mE e sc e'
    | _ => false
  | .rvs a, sc, x => match x with
    | .Call (.Attribute a' n p) [] [] q => decide (n = nReverse) && p.endLine == q.line && baseB a' && mE a sc a'
    | _ => false
  | .call f es, sc, x => match x with
    | .Call (.Name n _) xs [] _ => glB sc n && decide (l.fn f = some n) && mEs es sc xs
    | _ => false
  | .mth f a es, sc, x => match x with
    | .Call (.Attribute a' n p) xs [] q => decide (l.mt f = some n) && !(fldN.any fun y => decide (y = n)) && p.endLine == q.line && baseB a' && decide (xs.length < 30) && mE a sc a' && mEs es sc xs
    | _ => false
  | .mthk f a es, sc, x => match x with
    | .Call (.Attribute a' n p) [] [] q => isNilE es && decide (l.mt f = some n) && !(fldN.any fun y => decide (y = n)) && p.endLine == q.line && baseB a' && mE a sc a'
    | _ => false
  | .mk c f es, sc, x => match x with
    | .Call (.Name n _) xs [] _ => glB sc n && decide (c = 13) && decide (l.cl 13 = some n) && decide (l.mt f = some nDInit) && !xs.isEmpty && mEs es sc xs
    | _ => false
  | .fld a y, sc, x => match x with
    | .Attribute a' n _ => decide (y = n) && (fldN.any fun z => decide (z = n)) && baseB a' && mE a sc a'
    | _ => false
  | .dun k f es, sc, x => match x with
    | .Call (.Name n _) xs [] _ => glB sc n && !xs.isEmpty && mEs es sc xs && ((decide (k = 0) && decide (n = nLen) && decide (l.mt f = some nDLen)) || (decide (k = 1) && decide (n = nStr) && decide (l.mt f = some nDStr)))
    | _ => false
  | .deq f a b, sc, x => match x with
    | .Compare a' [.Eq] [b'] _ => decide (l.mt f = some nDEq) && mE a sc a' && mE b sc b'
    | _ => false
  | .lc _ vs e p it c, sc, x => match x with
    | .ListComp e' [⟨tg, it', ifs, 0⟩] scope _ => L2.blkC N sc scope (ownN N vs) && (pv p).all (vs.contains ·) && tstC c && mE e (blkSc sc scope) e' && mP N p scope tg && mIt it sc tg it' && mEs c (blkSc sc scope) ifs
    | _ => false
  | .sst a, sc, x => match x with
    | .Call (.Name n _) [.Call (.Name r _) [a'] [] _] [] _ => glB sc n && decide (n = nSorted) && glB sc r && decide (r = nSet) && mE a sc a'
    | _ => false
  | .lst1 a, sc, x => match x with
    | .Call (.Name n _) [.Call (.Name r _) [a'] [] _] [] _ => glB sc n && decide (n = nLen) && glB sc r && decide (r = nSet) && mE a sc a'
    | _ => false
  | .lc2 vs vs1 e p it c p1 a1 c1, sc, x => match x with
    | .ListComp e' [⟨tg, it', ifs, 0⟩, ⟨tg1, it1', ifs1, 0⟩] scope _ => L2.blkC N sc scope (ownN N vs) && (pv p).all (vs.contains ·) && tstC c && mE e (blkSc sc scope) e' && mP N p scope tg && mIt it sc tg it' && mEs c (blkSc sc scope) ifs &&
        ((pv p1).all (vs1.contains ·) && vs1.all (vs.contains ·) && tstC c1 && mP N p1 scope tg1 && mE a1 (blkSc sc scope) it1' && mEs c1 (blkSc sc scope) ifs1)
    | _ => false
  | _, _, _ => false
def mEs : E → Scope → List Expr → Bool
  | .nil, _, xs => xs.isEmpty
  | .cons a r, sc, xs => match xs with
    | x :: xr => mE a sc x && mEs r sc xr
    | [] => false
  | _, _, _ => false
/-- a slice's bound -/
def mO : E → Scope → Option Expr → Bool
  | .nil, _, x => x.isNone
  | .cons a .nil, sc, x => match x with
    | some y => mE a sc y
    | none => false
  | _, _, _ => false
def mIt : E → Scope → Expr → Expr → Bool
  | .rng es, sc, _, x => match x with
    | .Call (.Name n _) xs [] _ => glB sc n && decide (n = nRange) && (few es || few3 es) && mEs es sc xs
    | _ => false
  | .enm a, sc, tg, x => match x with
    | .Call (.Name n _) [a'] [] _ => isTupE tg && glB sc n && decide (n = nEnum) && mE a sc a'
    | _ => false
  | .zip a b, sc, tg, x => match x with
    | .Call (.Name n _) [a', b'] [] _ => isTupE tg && glB sc n && decide (n = nZip) && mE a sc a' && mE b sc b'
    | _ => false
  | .ov a, sc, _, x => mE a sc x
  | _, _, _, _ => false
end
/-! ### statements -/
def noTupE : Expr → Bool
  | .Tuple .. => false
  | _ => true
def plCE : Expr → Bool
  | .ListComp .. => false
  | .SetComp .. => false
  | .DictComp .. => false
  | _ => true
def isLcE : E → Bool
  | .lc .. => true
  | .lc2 .. => true
  | _ => false
/-- names stored from the right -/
def swNames (sc : Scope) (line : Nat) (ts : List Expr) : List Str := ts.filterMap fun
    | .Name id pos => if sc.names.lookup id == some .local && pos.line == line then some id else none
    | _ => none
def swLine (ts : List Expr) : Nat := (ts.head?.map (·.pos.line)).getD 0
def swYes (sc : Scope) (ts vs : List Expr) : Bool := (ts.length == 2 || ts.length == 3) && vs.length == ts.length && !(vs.any fun | .Starred .. => true | _ => false) && (swNames sc (swLine ts) ts).length == ts.length && (swNames sc (swLine ts) ts).eraseDups.length == (swNames sc (swLine ts) ts).length &&
  !(vs.all (foldedForSure 8)) && !(vs.all (constantsAlone 8))
def swNo (sc : Scope) (ts vs : List Expr) : Bool := (ts.length == 2 || ts.length == 3) && vs.length == ts.length && !(vs.any fun | .Starred .. => true | _ => false) && ((swNames sc (swLine ts) ts).length != ts.length || (swNames sc (swLine ts) ts).eraseDups.length != (swNames sc (swLine ts) ts).length || vs.all (foldedForSure 8))
mutual
def mS : S → Scope → Stmt → Bool
  | .nop, _, x => match x with
    | .Pass _ => true
    | _ => false
  | .asg i e, sc, x => match x with
    | .Assign [.Name n _] v _ => locB sc n && decide (N[i]? = some n) && mE l G N e sc v && (plCE v || isLcE e)
    | _ => false
  | .asgp p e, sc, x => match x with
    | .Assign [tg] v _ => mP N p sc tg && mE l G N e sc v && plCE v && noTupE v
    | _ => false
  | .par2 i j a b, sc, x => match x with
    | .Assign [.Tuple [.Name x px, .Name y py] _ _] (.Tuple [va, vb] _ _) _ => (swYes sc [.Name x px, .Name y py] [va, vb] || swNo sc [.Name x px, .Name y py] [va, vb]) && locB sc x && locB sc y && decide (N[i]? = some x) && decide (N[j]? = some y) && decide (i ≠ j) && mE l G N a sc va && mE l G N b sc vb
    | _ => false
  | .seti o k v, sc, x => match x with
    | .Assign [.Subscript a b _] c _ => mE l G N o sc a && mE l G N k sc b && mE l G N v sc c && plCE c
    | _ => false
  | .setf o y v, sc, x => match x with
    | .Assign [.Attribute a n _] c _ => decide (y = n) && (fldN.any fun z => decide (z = n)) && mE l G N o sc a && mE l G N v sc c && plCE c
    | _ => false
  | .set2 o1 k1 o2 k2 v1 v2, sc, x => match x with
    | .Assign [.Tuple [.Subscript a b pa, .Subscript c d pb] _ _] (.Tuple [va, vb] _ _) _ => swNo sc [.Subscript a b pa, .Subscript c d pb] [va, vb] && mE l G N o1 sc a && mE l G N k1 sc b && mE l G N o2 sc c && mE l G N k2 sc d && mE l G N v1 sc va && mE l G N v2 sc vb
    | _ => false
  | .ex e, sc, x => match x with
    | .Expr v _ => mE l G N e sc v && plCE v
    | _ => false
  | .ret e, sc, x => match x with
    | .Return (some v) _ => mE l G N e sc v
    | _ => false
  | .retn, _, x => match x with
    | .Return none _ => true
    | _ => false
  | .ife c a b, sc, x => match x with
    | .If c' a' b' _ => tstE c && mE l G N c sc c' && mB a sc a' && mB b sc b'
    | _ => false
  | .for p it b, sc, x => match x with
    | .For tg it' b' [] _ => mP N p sc tg && mIt l G N it sc tg it' && mB b sc b'
    | _ => false
  | .whl _ c b, sc, x => match x with
    | .While c' b' [] _ => tstE c && mE l G N c sc c' && mB b sc b'
    | _ => false
  | .tryw b c i _, sc, x => match x with
    | .Try b' [.ExceptHandler (some (.Name y _)) (some n) [.Return (some (.Call (.Name g _) [.Name n2 _] [] _)) _] _] [] [] _ => glB sc y && decide (l.cl 0 = some y) && decide (c = 0) && decide (N[i]? = some n) && decide (n = n2) && locOnly sc n && n != ("__debug__" : Str) && n != ("__classdict__" : Str) && glB sc g && decide (l.wh = some g) && mB b sc b'
    | _ => false
  | .rse c _, sc, x => match x with
    | .Raise (some (.Call (.Name n _) [.Constant (.str _) _ _] [] _)) none _ => glB sc n && decide (l.cl c = some n) && decide (c ≤ 12)
    | _ => false
  | _, _, _ => false
def mB : S → Scope → List Stmt → Bool
  | .nop, _, xs => xs.isEmpty
  | .seq a r, sc, xs => match xs with
    | x :: xr => mS a sc x && mB r sc xr
    | [] => false
  | _, _, _ => false
end
end
end Bo

set_option Elab.async false
set_option linter.all false
set_option maxRecDepth 100000
/-! B3: what an evaluated expression promises of the program's own: the frame of the proof, operators. -/
namespace Bo
open PySem PySem.Spec PyProof.Rows
open L2 (V HO Hp Rd SqL SqT Vals upd Cx PE PT PA PO PI PW OpR UnR CallR SlR IxR VK XK TE TT TA TO TI Inv RelV EP Room Sp FnOk Gl Vis Binds WX Takes tOp tCons tNil)

/-- a wish about exceptions, by the class's number -/
abbrev Wi := Nat → L2.St → Hp → Prop
def wxOf (A : Ad) (W : Wi) : WX := fun cls d σ H => ∃ c a, A.ca c = some a ∧ cls = .ref a ∧ d = none ∧ W c σ H

section
variable (A : Ad) (K : W.Frag) (B : Nat → Nat) (b : Nat)
/-- what is wanted behind a result -/
def gW {α β : Type} (RR : List Addr → Hp → α → β → Prop) (W : Wi) (io : List Addr) (σ : L2.St) (H : Hp) (r : Option (Rs α × M)) (Q : β → Hp → Prop) : Prop :=
  match r with
  | some (.ok d, m) => ∀ io' H' v, Ext A io io' H H' → Rel A K B b io' H' m → RR io' H' d v → Q v H'
  | some (.ex c, m) => ∀ io' H', Ext A io io' H H' → Rel A K B b io' H' m → W c σ H'
  | none => False
def RD : List Addr → Hp → D → V → Prop := fun io H d v => Rep A K io io.length H d v
def RDs : List Addr → Hp → List D → List V → Prop := fun io H ds vs => Reps A K io io.length H ds vs
def RBl : List Addr → Hp → D → Bool → Prop := fun _ _ d k => d = .bl k
def RId {α : Type} : List Addr → Hp → α → α → Prop := fun _ _ a b => a = b
def tG {α β : Type} (RR : List Addr → Hp → α → β → Prop) (W : Wi) (f : Sg → M → Option (Rs α × M)) : L2.St → Hp → (β → Hp → Prop) → Prop :=
  fun σ H Q => ∃ io s m, Rel A K B b io H m ∧ RelS A K io H s σ ∧ gW A K B b RR W io σ H (f s m) Q
end
section
variable {A : Ad} {K : W.Frag} {B : Nat → Nat} {b : Nat} {io io1 : List Addr} {H H1 : Hp} {α β γ δ : Type} {RR : List Addr → Hp → α → β → Prop} {RR2 : List Addr → Hp → γ → δ → Prop} {W : Wi} {σ : L2.St}
theorem gW.mono {r : Option (Rs α × M)} {Q Q' : β → Hp → Prop} (h : gW A K B b RR W io σ H r Q) (q : ∀ v H', Q v H' → Q' v H') : gW A K B b RR W io σ H r Q' := by
  unfold gW at h ⊢
  split at h
  · exact fun io' H' v x R rr => q _ _ (h io' H' v x R rr)
  · exact h
  · exact h
theorem gW.ext {r : Option (Rs α × M)} {Q : β → Hp → Prop} (x : Ext A io io1 H H1) (h : gW A K B b RR W io σ H r Q) : gW A K B b RR W io1 σ H1 r Q := by
  unfold gW at h ⊢
  split at h
  · exact fun io' H' v y R rr => h io' H' v (x.trans y) R rr
  · exact fun io' H' y R => h io' H' (x.trans y) R
  · exact h
/-- behind the first of two -/
theorem gW.bnd {r : Option (Rs α × M)} {k : α → M → Option (Rs γ × M)} {Q : δ → Hp → Prop} (h : gW A K B b RR2 W io σ H (bnd r k) Q) :
    gW A K B b RR W io σ H r fun v H1 => ∃ io1 m1 d, Ext A io io1 H H1 ∧ Rel A K B b io1 H1 m1 ∧ RR io1 H1 d v ∧ gW A K B b RR2 W io1 σ H1 (k d m1) Q := by
  unfold gW at h ⊢
  cases r with
  | none => exact h
  | some p =>
    obtain ⟨x, m⟩ := p
    cases x with
    | ex c => exact h
    | ok d => exact fun io' H' v x R rr => ⟨io', m, d, x, R, rr, gW.ext x h⟩
theorem tG.mono {f : Sg → M → Option (Rs α × M)} {Q Q' : β → Hp → Prop} (h : tG A K B b RR W f σ H Q) (q : ∀ v H', Q v H' → Q' v H') : tG A K B b RR W f σ H Q' := by
  obtain ⟨io, s, m, R, S, g⟩ := h
  exact ⟨io, s, m, R, S, g.mono q⟩
/-- an expression's reading, then what follows, with all that is known -/
theorem tG.step {s : Sg} {m : M} {f : Sg → M → Option (Rs α × M)} {k : α → M → Option (Rs γ × M)} {Q : δ → Hp → Prop} {Q' : β → Hp → Prop} (R : Rel A K B b io H m) (S : RelS A K io H s σ)
    (h : gW A K B b RR2 W io σ H (bnd (f s m) k) Q)
    (q : ∀ io1 H1 m1 d v, Ext A io io1 H H1 → Rel A K B b io1 H1 m1 → RelS A K io1 H1 s σ → RR io1 H1 d v → gW A K B b RR2 W io1 σ H1 (k d m1) Q → Q' v H1) : tG A K B b RR W f σ H Q' := by
  refine ⟨io, s, m, R, S, (gW.bnd (RR := RR) h).mono ?_⟩
  rintro v H1 ⟨io1, m1, d, x, R1, rr, g⟩
  exact q io1 H1 m1 d v x R1 (S.mono x) rr g
theorem gW.giv {d : Option α} {m : M} {Q : β → Hp → Prop} (h : gW A K B b RR W io σ H (giv d m) Q) : ∃ a, d = some a ∧ ∀ io' H' v, Ext A io io' H H' → Rel A K B b io' H' m → RR io' H' a v → Q v H' := by
  cases d with
  | none => exact h.elim
  | some a => exact ⟨a, rfl, h⟩
end

/-! ### weakening -/
section
variable {X : Cx}
theorem pe_imp {e : Expr} {t t' : TE} (h : PE X e t) (f : ∀ σ H Q, t' σ H Q → t σ H Q) : PE X e t' := ⟨fun pins s σ H Q I q => h.run pins s σ H Q I (f σ H Q q)⟩
theorem pt_imp {e : Expr} {t t' : TT} (h : PT X e t) (f : ∀ σ H Q, t' σ H Q → t σ H Q) : PT X e t' := ⟨fun pins s σ H Q I q => h.run pins s σ H Q I (f σ H Q q)⟩
theorem pw_imp {e : Expr} {t t' : TT} (h : PW X e t) (f : ∀ σ H Q, t' σ H Q → t σ H Q) : PW X e t' := ⟨fun wh pins s σ H Q I q => h.run wh pins s σ H Q I (f σ H Q q)⟩
theorem pa_imp {es : List Expr} {t t' : TA} (h : PA X es t) (f : ∀ σ H Q, t' σ H Q → t σ H Q) : PA X es t' := ⟨fun p pins s σ H Q I q => h.run p pins s σ H Q I (f σ H Q q)⟩
theorem pi_imp {tg e : Expr} {t t' : TI} (h : PI X tg e t) (f : ∀ σ H Q, t' σ H Q → t σ H Q) : PI X tg e t' := ⟨fun pins s σ H Q I q => h.run pins s σ H Q I (f σ H Q q)⟩
theorem po_imp {e : Option Expr} {t t' : TO} (h : PO X e t) (f : ∀ σ H Q, t' σ H Q → t σ H Q) : PO X e t' := ⟨fun pins s σ H Q I q => h.run pins s σ H Q I (f σ H Q q)⟩
end

/-! ### operators -/
section
variable {A : Ad} {B : Nat → Nat} {b : Nat} {X : Cx}
/-- behind an operator: the value stands for r -/
def Aft (A : Ad) (K : W.Frag) (B : Nat → Nat) (b : Nat) (io : List Addr) (H : Hp) (m : M) (r : D) (Q : VK) : Prop := ∀ io' H' v, Ext A io io' H H' → Rel A K B b io' H' m → Rep A K io' io'.length H' r v → Q v H'
theorem Aft.flat {K : W.Frag} {io : List Addr} {H : Hp} {m : M} {r : D} {Q : VK} {v : V} (R : Rel A K B b io H m) (q : Aft A K B b io H m r Q) (h : Rep A K io io.length H r v) : Q v H := q io H v (Ext.refl io H) R h
theorem Aft.lst {K : W.Frag} {io : List Addr} {H : Hp} {m : M} {ds : List D} {vs : List V} {Q : VK} {p : Addr} (R : Rel A K B b io H m) (q : Aft A K B b io H m (.lst ds) Q) (hp : H p = none) (h : Reps A K io io.length H ds vs) (hz : ds.length ≤ sizeLine) :
    Q (.ref p) (upd H p (.lst vs)) :=
  q io _ _ (ext_new _ hp) (R.laid hp) (.lst (R.fresh hp) L2.upd_same hz (h.mono (ext_new _ hp) (Nat.le_refl _)))
theorem Aft.tup {K : W.Frag} {io : List Addr} {H : Hp} {m : M} {ds : List D} {vs : List V} {Q : VK} {p : Addr} (R : Rel A K B b io H m) (q : Aft A K B b io H m (.tup ds) Q) (hp : H p = none) (h : Reps A K io io.length H ds vs) (hz : ds.length ≤ sizeLine) :
    Q (.ref p) (upd H p (.tup vs)) :=
  q io _ _ (ext_new _ hp) (R.laid hp) (.tup ⟨R.fresh hp, L2.upd_same⟩ hz (h.mono (ext_new _ hp) (Nat.le_refl _)))
def rBin (A : Ad) (K : W.Frag) (B : Nat → Nat) (b : Nat) (o : Op) : L2.R2 := fun x y H Q => ∃ io m d e r, Rel A K B b io H m ∧ Rep A K io io.length H d x ∧ Rep A K io io.length H e y ∧ opBin m o d e = some r ∧ Aft A K B b io H m r Q
theorem small_iff {i : Int} (h : small i = true) : -(2 ^ 64) < i ∧ i < 2 ^ 64 := by
  unfold small at h
  rw [Bool.and_eq_true] at h
  exact ⟨of_decide_eq_true h.1, of_decide_eq_true h.2⟩
theorem rep_len (k : Nat) (ds : List D) : (rep k ds).length = k * ds.length := by
  unfold rep
  rw [List.length_flatten, List.map_replicate, List.sum_replicate_nat]
theorem size1000 {k n : Nat} (h1 : k ≤ 1000) (h2 : n ≤ 1000) : k * n ≤ sizeLine := by
  have := Nat.mul_le_mul h1 h2
  rw [sizeLine_eq]
  omega
theorem rep_one (ds : List D) : rep 1 ds = ds := by unfold rep; simp
theorem op_bin_add : OpR X (binaryOp .Add) (rBin A X.K B b .add) := by
  intro pins s σ H x y v u Q I rx ry h
  obtain ⟨io, m, d, e, r, R, r1, r2, ho, q⟩ := h
  have ho : addD m d e = some r := ho
  unfold addD at ho
  split at ho
  · cases r1; cases r2; cases ho
    exact L2.op_add pins s σ H _ _ v u Q I rx ry ⟨_, _, rfl, rfl, q.flat R (.int _)⟩
  · cases r1; cases r2
    split at ho
    · rename_i hz
      cases ho
      exact L2.op_add_str pins s σ H _ _ v u Q I rx ry ⟨_, _, rfl, rfl, hz, q.flat R (.str _)⟩
    · cases ho
  · rename_i ds es
    split at ho
    · rename_i hz
      cases ho
      obtain ⟨p, vs, rfl, h1, s1, z1⟩ := r1.tupSq
      obtain ⟨p2, ws, rfl, h2, s2, z2⟩ := r2.tupSq
      refine L2.op_catA pins s σ H _ _ v u Q I rx ry ⟨p, p2, vs, ws, rfl, rfl, h1, h2, by rw [← s1.length, ← s2.length]; exact hz, fun e => ?_, fun _ e => ?_, fun _ _ p hp => ?_⟩
      · subst e
        cases s1
        exact q.flat R r2
      · subst e
        cases s2
        rw [List.append_nil] at q
        exact q.flat R r1
      · exact q.tup R hp (s1.append s2) (by rw [List.length_append]; exact hz)
    · cases ho
  · split at ho
    · rename_i ds es h1 h2
      split at ho
      · rename_i hz
        cases ho
        obtain ⟨p, vs, rfl, e1, s1, z1⟩ := r1.lstEx R h1
        obtain ⟨p2, ws, rfl, e2, s2, z2⟩ := r2.lstEx R h2
        exact L2.op_cat pins s σ H _ _ v u Q I rx ry ⟨p, p2, vs, ws, rfl, rfl, e1, e2, by rw [← s1.length, ← s2.length]; exact hz, fun p hp => q.lst R hp (s1.append s2) (by rw [List.length_append]; exact hz)⟩
      · cases ho
    · cases ho
theorem op_bin_mul : OpR X (binaryOp .Mult) (rBin A X.K B b .mul) := by
  intro pins s σ H x y v u Q I rx ry h
  obtain ⟨io, m, d, e, r, R, r1, r2, ho, q⟩ := h
  have ho : mulD m d e = some r := ho
  unfold mulD at ho
  split at ho
  · cases r1; cases r2
    split at ho
    · rename_i i j hz
      cases ho
      refine L2.op_mul pins s σ H _ _ v u Q I rx ry ⟨_, _, rfl, rfl, ?_, q.flat R (.int _)⟩
      rw [Bool.or_eq_true] at hz
      exact hz.imp small_iff small_iff
    · cases ho
  · cases r2
    split at ho
    · rename_i hz
      rw [Bool.and_eq_true, Bool.and_eq_true, Bool.and_eq_true, decide_eq_true_eq, decide_eq_true_eq, decide_eq_true_eq] at hz
      obtain ⟨⟨⟨z1, z2⟩, z3⟩, z4⟩ := hz
      cases ho
      obtain ⟨p, vs, rfl, h1, s1, _⟩ := r1.tupSq
      refine L2.op_repT pins s σ H _ _ v u Q I rx ry ⟨p, _, vs, rfl, rfl, h1, fun e => ?_, z1, z2, by rw [← s1.length]; exact z3, fun p hp => ?_⟩
      · subst e
        cases s1
        cases z4
      · exact q.tup R hp (s1.rep _) (by rw [rep_len]; exact size1000 (by omega) z3)
    · cases ho
  · cases r2
    split at ho
    · rename_i ds h3
      split at ho
      · rename_i hz
        rw [Bool.and_eq_true, Bool.and_eq_true, decide_eq_true_eq, decide_eq_true_eq, decide_eq_true_eq] at hz
        cases ho
        obtain ⟨p, vs, rfl, e1, s1, z1⟩ := r1.lstEx R h3
        refine L2.op_rep pins s σ H _ _ v u Q I rx ry ⟨p, _, vs, rfl, rfl, e1, by omega, by omega, ?_, fun p hp => ?_⟩
        · rw [← s1.length, Nat.mul_comm]
          exact size1000 (by omega) hz.2
        · exact q.lst R hp (s1.rep _) (by rw [rep_len]; exact size1000 (by omega) hz.2)
      · cases ho
    · cases ho
  · cases ho
theorem intD_some {f : Int → Int → Option Int} {d e r : D} (h : intD f d e = some r) : ∃ i j k, d = .int i ∧ e = .int j ∧ f i j = some k ∧ r = .int k := by
  unfold intD at h
  split at h
  · rename_i i j
    cases q : f i j with
    | none => rw [q] at h; cases h
    | some k =>
      rw [q] at h
      cases h
      exact ⟨i, j, k, rfl, rfl, q, rfl⟩
  · cases h
theorem op_bin_int {o : Op} {o' : Operator} {f : Int → Int → Option Int} (he : ∀ m x y, opBin m o x y = intD f x y)
    (rule : ∀ i j k, f i j = some k → ∀ pins s σ H v u Q, Inv X pins σ H s → RelV (.int i) v → RelV (.int j) u → Q (.int k) H → wpAny (model X.prog X.w) X.A (binaryOp o' v u) (EP X pins σ Q) X.xe s) :
    OpR X (binaryOp o') (rBin A X.K B b o) := by
  intro pins s σ H x y v u Q I rx ry h
  obtain ⟨io, m, d, e, r, R, r1, r2, ho, q⟩ := h
  rw [he] at ho
  obtain ⟨i, j, k, rfl, rfl, hk, rfl⟩ := intD_some ho
  cases r1; cases r2
  exact rule i j k hk pins s σ H v u Q I rx ry (q.flat R (.int _))
theorem op_bin : ∀ {o : Op} {o' : Operator}, opB o o' = true → OpR X (binaryOp o') (rBin A X.K B b o)
  | .add, .Add, _ => op_bin_add
  | .mul, .Mult, _ => op_bin_mul
  | .sub, .Sub, _ => op_bin_int (fun _ _ _ => rfl) fun i j k hk pins s σ H v u Q I rx ry q => by
    cases hk
    exact L2.op_sub pins s σ H _ _ v u Q I rx ry ⟨i, j, rfl, rfl, q⟩
  | .fdiv, .FloorDiv, _ => op_bin_int (fun _ _ _ => rfl) fun i j k hk pins s σ H v u Q I rx ry q => by
    split at hk
    · rename_i hz
      rw [Bool.and_eq_true, decide_eq_true_eq, decide_eq_true_eq] at hz
      cases hk
      exact L2.op_fdiv pins s σ H _ _ v u Q I rx ry ⟨i, j, rfl, rfl, hz, q⟩
    · cases hk
  | .mod, .Mod, _ => op_bin_int (fun _ _ _ => rfl) fun i j k hk pins s σ H v u Q I rx ry q => by
    split at hk
    · rename_i hz
      rw [decide_eq_true_eq] at hz
      cases hk
      exact L2.op_mod pins s σ H _ _ v u Q I rx ry ⟨i, j, rfl, rfl, hz, q⟩
    · cases hk
  | .pow, .Pow, _ => op_bin_int (fun _ _ _ => rfl) fun i j k hk pins s σ H v u Q I rx ry q => by
    split at hk
    · rename_i hz
      rw [Bool.and_eq_true, Bool.and_eq_true, decide_eq_true_eq, decide_eq_true_eq, decide_eq_true_eq] at hz
      cases hk
      exact L2.op_pow pins s σ H _ _ v u Q I rx ry ⟨i, j, rfl, rfl, ⟨hz.1.1, hz.1.2, hz.2⟩, q⟩
    · cases hk

/-! ### comparisons -/
def rCm (A : Ad) (K : W.Frag) (B : Nat → Nat) (b : Nat) (o : Cm) : L2.R2 := fun x y H Q => ∃ io m d e k, Rel A K B b io H m ∧ Rep A K io io.length H d x ∧ Rep A K io io.length H e y ∧ opCmp m o d e = some k ∧ Q (.bl k) H
/-- an operation on two data that hands back a truth value, by its rule on data -/
theorem op_eq_core {op : CmpOp} {neg : Bool} (h1 : OpR X (compareOp op) fun x y H Q => L2.scal x y = true ∧ Q (.bl (decide (x = y) != neg)) H)
    (h2 : OpR X (compareOp op) fun x y H Q => ∃ d e, L2.Dp X.K H x d ∧ L2.Dp X.K H y e ∧ SeqAt.shaped d = true ∧ SeqAt.shaped e = true ∧ Q (.bl (PyData.eqv d e != neg)) H) :
    OpR X (compareOp op) fun x y H Q => ∃ io m d e k, Rel A X.K B b io H m ∧ Rep A X.K io io.length H d x ∧ Rep A X.K io io.length H e y ∧ eqD m d e = some k ∧ Q (.bl (k != neg)) H := by
  intro pins s σ H x y v u Q I rx ry h
  obtain ⟨io, m, d, e, k, R, r1, r2, ho, q⟩ := h
  unfold eqD at ho
  split at ho
  · cases r1; cases r2; cases ho
    refine h1 pins s σ H _ _ v u Q I rx ry ⟨rfl, ?_⟩
    rw [show (decide (V.int _ = V.int _)) = decide (_ = _) from decide_eq_decide.mpr ⟨fun z => V.int.inj z, fun z => congrArg V.int z⟩]
    exact q
  · cases r1; cases r2; cases ho
    refine h1 pins s σ H _ _ v u Q I rx ry ⟨rfl, ?_⟩
    rw [show (decide (V.str _ = V.str _)) = decide (_ = _) from decide_eq_decide.mpr ⟨fun z => V.str.inj z, fun z => congrArg V.str z⟩]
    exact q
  · cases r1; cases r2; cases ho
    refine h1 pins s σ H _ _ v u Q I rx ry ⟨rfl, ?_⟩
    rw [show (decide (V.bl _ = V.bl _)) = decide (_ = _) from decide_eq_decide.mpr ⟨fun z => V.bl.inj z, fun z => congrArg V.bl z⟩]
    exact q
  · split at ho
    · rename_i p1 p2 e1 e2
      split at ho
      · rename_i hz
        rw [Bool.and_eq_true] at hz
        cases ho
        exact h2 pins s σ H _ _ v u Q I rx ry ⟨p1, p2, r1.dpM R e1, r2.dpM R e2, hz.1, hz.2, q⟩
      · cases ho
    · cases ho
theorem op_cm_eq (hu : X.A.units + 64 < cLine) : OpR X (compareOp .Eq) (rCm A X.K B b .eq) := by
  intro pins s σ H x y v u Q I rx ry h
  refine op_eq_core (A := A) (B := B) (b := b) (neg := false) (fun pins s σ H x y v u Q I rx ry h => L2.op_eq pins s σ H x y v u Q I rx ry (by simpa [L2.rEq] using h)) (fun pins s σ H x y v u Q I rx ry h => L2.op_eqD hu pins s σ H x y v u Q I rx ry (by simpa [L2.rEqD] using h)) pins s σ H x y v u Q I rx ry ?_
  obtain ⟨io, m, d, e, k, R, r1, r2, ho, q⟩ := h
  exact ⟨io, m, d, e, k, R, r1, r2, ho, by simpa using q⟩
theorem op_cm_ne (hu : X.A.units + 64 < cLine) : OpR X (compareOp .NotEq) (rCm A X.K B b .ne) := by
  intro pins s σ H x y v u Q I rx ry h
  refine op_eq_core (A := A) (B := B) (b := b) (neg := true) (fun pins s σ H x y v u Q I rx ry h => L2.op_ne pins s σ H x y v u Q I rx ry (by simpa [L2.rNe] using h)) (fun pins s σ H x y v u Q I rx ry h => L2.op_neD hu pins s σ H x y v u Q I rx ry (by simpa [L2.rNeD] using h)) pins s σ H x y v u Q I rx ry ?_
  obtain ⟨io, m, d, e, k, R, r1, r2, ho, q⟩ := h
  have ho : (eqD m d e).map not = some k := ho
  cases hk : eqD m d e with
  | none => rw [hk] at ho; cases ho
  | some k' =>
    rw [hk] at ho
    cases ho
    exact ⟨io, m, d, e, k', R, r1, r2, hk, by cases k' <;> simpa using q⟩
theorem room_dp {n : Nat} {d e : PyData} (h1 : shp d = true) (h2 : n + 64 < cLine) : n + min d.depth e.depth < cLine := by
  have := SeqAt.depth_of_shaped h1
  have := Nat.min_le_left d.depth e.depth
  omega
theorem py_none {d : D} (h : d ≠ .non) {p : PyData} (e : d.py = some p) : p ≠ .none := by
  rintro rfl
  cases d with
  | non => exact h rfl
  | tup ds => simp only [D.py] at e; cases q : pys ds with | none => rw [q] at e; cases e | some ps => rw [q] at e; cases e
  | lst ds => simp only [D.py] at e; cases q : pys ds with | none => rw [q] at e; cases e | some ps => rw [q] at e; cases e
  | ktp ds => simp only [D.py] at e; cases q : pys ds with | none => rw [q] at e; cases e | some ps => rw [q] at e; cases e
  | _ => simp [D.py] at e
theorem ltD_ex {m : M} {d e : D} {k : Bool} (h : ltD m d e = some k) : (∃ i j, d = .int i ∧ e = .int j ∧ k = decide (i < j)) ∨ ∃ p q, d.py = some p ∧ e.py = some q ∧ W.alike p q = true ∧ shp p = true ∧ shp q = true ∧ p ≠ .none ∧ k = W.dataLt p q := by
  unfold ltD at h
  split at h
  · cases h
    exact .inl ⟨_, _, rfl, rfl, rfl⟩
  · cases h
  · rename_i ha hb
    split at h
    · rename_i p q e1 e2
      split at h
      · rename_i hz
        rw [Bool.and_eq_true, Bool.and_eq_true] at hz
        cases h
        exact .inr ⟨p, q, e1, e2, hz.1.1, hz.1.2, hz.2, py_none (by intro z; first | exact ha z | exact hb z) e1, rfl⟩
      · cases h
    · cases h
theorem op_cm_lt (hu : X.A.units + 64 < cLine) : OpR X (compareOp .Lt) (rCm A X.K B b .lt) := by
  intro pins s σ H x y v u Q I rx ry h
  obtain ⟨io, m, d, e, k, R, r1, r2, ho, q⟩ := h
  have ho : ltD m d e = some k := ho
  rcases ltD_ex ho with ⟨i, j, rfl, rfl, rfl⟩ | ⟨p, p2, e1, e2, h1, h2, h3, h4, rfl⟩
  · cases r1; cases r2
    exact L2.op_lt pins s σ H _ _ v u Q I rx ry ⟨i, j, rfl, rfl, q⟩
  · obtain ⟨as, q1⟩ := L2.Dp.reads I p x v (r1.dp e1) rx
    obtain ⟨bs, q2⟩ := L2.Dp.reads I p2 y u (r2.dp e2) ry
    exact W.lt_data q1 q2 h1 h4 (room_dp h2 hu) ⟨.bl _, H, I, rfl, q⟩
theorem op_cm_gt (hu : X.A.units + 64 < cLine) : OpR X (compareOp .Gt) (rCm A X.K B b .gt) := by
  intro pins s σ H x y v u Q I rx ry h
  obtain ⟨io, m, d, e, k, R, r1, r2, ho, q⟩ := h
  have ho : ltD m e d = some k := ho
  rcases ltD_ex ho with ⟨i, j, rfl, rfl, rfl⟩ | ⟨p2, p, e2, e1, h1, h2, h3, h4, rfl⟩
  · cases r1; cases r2
    exact L2.op_gt pins s σ H _ _ v u Q I rx ry ⟨j, i, rfl, rfl, q⟩
  · obtain ⟨as, q1⟩ := L2.Dp.reads I p x v (r1.dp e1) rx
    obtain ⟨bs, q2⟩ := L2.Dp.reads I p2 y u (r2.dp e2) ry
    rw [W.alike_comm] at h1
    exact W.gt_data q1 q2 h1 (W.ne_none_both (by rw [W.alike_comm]; exact h1) h4) (room_dp h3 hu) ⟨.bl _, H, I, rfl, q⟩
theorem intB_some {f : Int → Int → Bool} {d e : D} {k : Bool} (h : intB f d e = some k) : ∃ i j, d = .int i ∧ e = .int j ∧ k = f i j := by
  unfold intB at h
  split at h
  · cases h
    exact ⟨_, _, rfl, rfl, rfl⟩
  · cases h
theorem op_cm_le : OpR X (compareOp .LtE) (rCm A X.K B b .le) := by
  intro pins s σ H x y v u Q I rx ry h
  obtain ⟨io, m, d, e, k, R, r1, r2, ho, q⟩ := h
  obtain ⟨i, j, rfl, rfl, rfl⟩ := intB_some (show intB (fun i j => decide (i ≤ j)) d e = some k from ho)
  cases r1; cases r2
  exact L2.op_le pins s σ H _ _ v u Q I rx ry ⟨_, _, rfl, rfl, q⟩
theorem op_cm_ge : OpR X (compareOp .GtE) (rCm A X.K B b .ge) := by
  intro pins s σ H x y v u Q I rx ry h
  obtain ⟨io, m, d, e, k, R, r1, r2, ho, q⟩ := h
  obtain ⟨i, j, rfl, rfl, rfl⟩ := intB_some (show intB (fun i j => decide (j ≤ i)) d e = some k from ho)
  cases r1; cases r2
  exact L2.op_ge pins s σ H _ _ v u Q I rx ry ⟨_, _, rfl, rfl, q⟩
/-- what «in» finds -/
theorem inD_core {op : CmpOp} {neg : Bool}
    (hd : ∀ {pins : List (Addr × Obj)} {s : Shared} {σ : L2.St} {H : Hp} {a : Addr} {y : V} {u : Value} {o : Option V} {Q : Value → Shared → Prop}, Inv X pins σ H s → L2.DGet H a y o → RelV y u → (∀ s', Inv X pins σ H s' → Q (.bool (o.isSome != neg)) s') → wpAny (model X.prog X.w) X.A (compareOp op u (.ref a)) Q X.xe s)
    (hs : OpR X (compareOp op) fun x y H Q => ∃ i j, x = .str i ∧ y = .str j ∧ Q (.bl ((!(Builtin.Str.occurrences j i 0 j.length 1).isEmpty) != neg)) H)
    (hl : ∀ {s : Shared} {c x : Value} {xs : List PyData} {d : PyData} {as bs : List Addr} {Q : Value → Shared → Prop}, Reads s.heap c (.list xs) as → Reads s.heap x d bs → PyData.canLayAll0 xs = true → d.canLay0 = true → X.A.units + 1 + min (PyData.depthAll xs) d.depth < cLine → Q (.bool ((xs.any fun y => PyData.eqv y d) != neg)) s → wpAny (model X.prog X.w) X.A (compareOp op x c) Q X.xe s)
    (ht : ∀ {s : Shared} {c x : Value} {xs : List PyData} {d : PyData} {as bs : List Addr} {Q : Value → Shared → Prop}, Reads s.heap c (.tuple xs) as → Reads s.heap x d bs → PyData.canLayAll0 xs = true → d.canLay0 = true → X.A.units + 1 + min (PyData.depthAll xs) d.depth < cLine → Q (.bool ((xs.any fun y => PyData.eqv y d) != neg)) s → wpAny (model X.prog X.w) X.A (compareOp op x c) Q X.xe s)
    (hu : X.A.units + 65 < cLine) :
    OpR X (compareOp op) fun x y H Q => ∃ io m d e k, Rel A X.K B b io H m ∧ Rep A X.K io io.length H d x ∧ Rep A X.K io io.length H e y ∧ inD m d e = some k ∧ Q (.bl (k != neg)) H := by
  intro pins s σ H x y v u Q I rx ry h
  obtain ⟨io, m, d, e, k, R, r1, r2, ho, q⟩ := h
  unfold inD at ho
  split at ho
  · rename_i ks vs e1
    split at ho
    · rename_i kk e2
      cases ho
      obtain ⟨a, kvs, rfl, hR, hk, hv⟩ := r2.dctEx R e1
      obtain ⟨a2, rfl, ha2, _⟩ := r1.key e2
      cases ry
      have g : L2.DGet H a (.ref a2) (L2.valV kvs kk) := .inr ⟨kvs, kk, a2, hR, rfl, ha2, rfl⟩
      refine hd I g rx fun s' I' => ⟨.bl _, H, I', rfl, ?_⟩
      have z := valV_dget kk hv
      rw [hk] at z
      cases hg : dget ks vs kk with
      | none =>
        rw [hg] at z q
        have z : L2.valV kvs kk = none := z
        rw [z]
        exact q
      | some dd =>
        rw [hg] at z q
        obtain ⟨v', z, _⟩ := z
        rw [z]
        exact q
    · cases ho
  · split at ho
    · rename_i sb
      split at ho
      · cases ho
        cases r1; cases r2
        exact hs pins s σ H _ _ v u Q I rx ry ⟨_, _, rfl, rfl, q⟩
      · cases ho
    · split at ho
      · rename_i ds e1
        split at ho
        · rename_i p ps e2 e3
          split at ho
          · rename_i hz
            rw [Bool.and_eq_true] at hz
            cases ho
            obtain ⟨a, vs, rfl, hq, hr, _⟩ := r2.seqEx R e1
            cases ry
            obtain ⟨as, q1⟩ := L2.Dp.reads I p x v (r1.dp e2) rx
            have hroom : X.A.units + 1 + min (PyData.depthAll ps) p.depth < cLine := by
              have := SeqAt.depth_of_shaped hz.1
              have := Nat.min_le_right (PyData.depthAll ps) p.depth
              omega
            have hall : PyData.canLayAll0 ps = true := SeqAt.canLay_of_shaped hz.2
            rcases hq with hq | hq
            · obtain ⟨bs, q2⟩ := L2.Dp.reads I (.list ps) (.ref a) (.ref a) (.lst hq (hr.dps e3)) rfl
              exact hl q2 q1 hall (SeqAt.canLay_of_shaped hz.1) hroom ⟨.bl _, H, I, rfl, q⟩
            · obtain ⟨bs, q2⟩ := L2.Dp.reads I (.tuple ps) (.ref a) (.ref a) (.tup hq (hr.dps e3)) rfl
              exact ht q2 q1 hall (SeqAt.canLay_of_shaped hz.1) hroom ⟨.bl _, H, I, rfl, q⟩
          · cases ho
        · cases ho
      · cases ho
theorem op_cm_in (hu : X.A.units + 65 < cLine) : OpR X (compareOp .In) (rCm A X.K B b .isin) := by
  intro pins s σ H x y v u Q I rx ry h
  refine inD_core (A := A) (B := B) (b := b) (neg := false) (fun I g ry h => L2.d_in (by omega) I g ry (by simpa using h)) (fun pins s σ H x y v u Q I rx ry h => L2.op_in_str pins s σ H x y v u Q I rx ry (by simpa using h))
    (fun r1 r2 h1 h2 h3 h4 => SeqAt.in_list_reads r1 r2 h1 h2 h3 (by simpa using h4)) (fun r1 r2 h1 h2 h3 h4 => SeqAt.in_tuple_reads r1 r2 h1 h2 h3 (by simpa using h4)) hu pins s σ H x y v u Q I rx ry ?_
  obtain ⟨io, m, d, e, k, R, r1, r2, ho, q⟩ := h
  exact ⟨io, m, d, e, k, R, r1, r2, ho, by simpa using q⟩
theorem op_cm_notin (hu : X.A.units + 65 < cLine) : OpR X (compareOp .NotIn) (rCm A X.K B b .notin) := by
  intro pins s σ H x y v u Q I rx ry h
  refine inD_core (A := A) (B := B) (b := b) (neg := true) (fun I g ry h => L2.d_notIn (by omega) I g ry (by simpa using h)) (fun pins s σ H x y v u Q I rx ry h => L2.op_notin_str pins s σ H x y v u Q I rx ry (by simpa using h))
    (fun r1 r2 h1 h2 h3 h4 => SeqAt.notIn_list_reads r1 r2 h1 h2 h3 (by simpa using h4)) (fun r1 r2 h1 h2 h3 h4 => SeqAt.notIn_tuple_reads r1 r2 h1 h2 h3 (by simpa using h4)) hu pins s σ H x y v u Q I rx ry ?_
  obtain ⟨io, m, d, e, k, R, r1, r2, ho, q⟩ := h
  have ho : (inD m d e).map not = some k := ho
  cases hk : inD m d e with
  | none => rw [hk] at ho; cases ho
  | some k' =>
    rw [hk] at ho
    cases ho
    exact ⟨io, m, d, e, k', R, r1, r2, hk, by cases k' <;> simpa using q⟩
theorem op_cm (hu : X.A.units + 65 < cLine) : ∀ {o : Cm} {o' : CmpOp}, cmB o o' = true → OpR X (compareOp o') (rCm A X.K B b o)
  | .eq, .Eq, _ => op_cm_eq (by omega)
  | .ne, .NotEq, _ => op_cm_ne (by omega)
  | .lt, .Lt, _ => op_cm_lt (by omega)
  | .le, .LtE, _ => op_cm_le
  | .gt, .Gt, _ => op_cm_gt (by omega)
  | .ge, .GtE, _ => op_cm_ge
  | .isin, .In, _ => op_cm_in hu
  | .notin, .NotIn, _ => op_cm_notin hu
end
end Bo

set_option Elab.async false
set_option linter.all false
set_option maxRecDepth 100000
/-! B4: built-ins, places, kinds. -/
namespace Bo
open PySem PySem.Spec PyProof.Rows
open L2 (V HO Hp Rd SqL SqT Vals upd Cx PE PT PA PO PI PW OpR UnR CallR SlR IxR VK XK TE TT TA TO TI Inv RelV EP Room Sp FnOk Gl Vis Binds WX Takes tOp tCons tNil)
section
variable {A : Ad} {B : Nat → Nat} {b : Nat} {X : Cx}
def rBi (A : Ad) (K : W.Frag) (B : Nat → Nat) (b : Nat) (f : M → List D → Option D) : List V → Hp → VK → Prop := fun vs H Q => ∃ io m ds r, Rel A K B b io H m ∧ Reps A K io io.length H ds vs ∧ f m ds = some r ∧ Aft A K B b io H m r Q
theorem vals_ints : ∀ {K : W.Frag} {io : List Addr} {c : Nat} {H : Hp} {ds : List D} {vs : List V} {ns : List Int}, Reps A K io c H ds vs → intsD ds = some ns → vs = ns.map V.int
  | _, _, _, _, _, _, _, .nil, e => by cases e; rfl
  | _, _, _, _, d :: ds, v :: vs, ns, .cons r t, e => by
    cases r with
    | int i =>
      simp only [intsD] at e
      cases q : intsD ds with
      | none => rw [q] at e; cases e
      | some ms =>
        rw [q] at e
        cases e
        rw [vals_ints t q]
        rfl
    | _ => simp [intsD] at e
theorem vals_bls : ∀ {K : W.Frag} {io : List Addr} {c : Nat} {H : Hp} {ds : List D} {vs : List V} {ns : List Bool}, Reps A K io c H ds vs → blsD ds = some ns → vs = ns.map V.bl
  | _, _, _, _, _, _, _, .nil, e => by cases e; rfl
  | _, _, _, _, d :: ds, v :: vs, ns, .cons r t, e => by
    cases r with
    | bl i =>
      simp only [blsD] at e
      cases q : blsD ds with
      | none => rw [q] at e; cases e
      | some ms =>
        rw [q] at e
        cases e
        rw [vals_bls t q]
        rfl
    | _ => simp [blsD] at e
theorem reps1 {K : W.Frag} {io : List Addr} {c : Nat} {H : Hp} {d : D} {vs : List V} (h : Reps A K io c H [d] vs) : ∃ v, vs = [v] ∧ Rep A K io c H d v := by
  cases h with
  | cons r t => cases t; exact ⟨_, rfl, r⟩
theorem reps2 {K : W.Frag} {io : List Addr} {c : Nat} {H : Hp} {d e : D} {vs : List V} (h : Reps A K io c H [d, e] vs) : ∃ v u, vs = [v, u] ∧ Rep A K io c H d v ∧ Rep A K io c H e u := by
  cases h with
  | cons r t =>
    obtain ⟨u, rfl, r2⟩ := reps1 t
    exact ⟨_, _, rfl, r, r2⟩
theorem cr_len : CallR X (.builtin "len") (rBi A X.K B b lenD) := by
  intro pins s σ H xs us Q I rv h
  obtain ⟨io, m, ds, r, R, rs, ho, q⟩ := h
  unfold lenD at ho
  split at ho
  · obtain ⟨v, rfl, r1⟩ := reps1 rs
    split at ho
    · cases r1
      split at ho
      · rename_i hz
        cases ho
        exact L2.call_len_str pins s σ H _ us Q I rv ⟨_, rfl, hz, q.flat R (.int _)⟩
      · cases ho
    · split at ho
      · rename_i ds e
        cases ho
        obtain ⟨a, vs, rfl, hq, hr, _⟩ := r1.seqEx R e
        refine L2.call_len_seq pins s σ H _ us Q I rv ⟨a, vs, rfl, hq, ?_⟩
        rw [← hr.length]
        exact q.flat R (.int _)
      · cases ho
  · cases ho
theorem lst_bind {α : Type} {m : M} {x : D} {f : List D → Option α} {g : α → D} {r : D} (h : ((lstM m x).bind f).map g = some r) : ∃ ds a, lstM m x = some ds ∧ f ds = some a ∧ r = g a := by
  cases e : lstM m x with
  | none => rw [e] at h; cases h
  | some ds =>
    rw [e] at h
    cases e2 : f ds with
    | none => simp [e2] at h
    | some a =>
      simp [e2] at h
      exact ⟨ds, a, rfl, e2, h.symm⟩
theorem cr_sum (hc : X.calm = true) : CallR X (.builtin "sum") (rBi A X.K B b sumD) := by
  intro pins s σ H xs us Q I rv h
  obtain ⟨io, m, ds, r, R, rs, ho, q⟩ := h
  unfold sumD at ho
  split at ho
  · obtain ⟨v, rfl, r1⟩ := reps1 rs
    obtain ⟨ds, ns, e1, e2, rfl⟩ := lst_bind ho
    obtain ⟨a, vs, rfl, hq, hr, _⟩ := r1.lstEx R e1
    rw [vals_ints hr e2] at hq
    exact L2.cr_sum hc pins s σ H _ us Q I rv ⟨a, ns, rfl, .inl (.inl hq), q.flat R (.int _)⟩
  · cases ho
theorem cr_all (hc : X.calm = true) : CallR X (.builtin "all") (rBi A X.K B b allD) := by
  intro pins s σ H xs us Q I rv h
  obtain ⟨io, m, ds, r, R, rs, ho, q⟩ := h
  unfold allD at ho
  split at ho
  · obtain ⟨v, rfl, r1⟩ := reps1 rs
    obtain ⟨ds, ns, e1, e2, rfl⟩ := lst_bind ho
    obtain ⟨a, vs, rfl, hq, hr, _⟩ := r1.lstEx R e1
    rw [vals_bls hr e2] at hq
    exact L2.cr_all hc pins s σ H _ us Q I rv ⟨a, ns, rfl, .inl (.inl hq), q.flat R (.bl _)⟩
  · cases ho
theorem cr_any (hc : X.calm = true) : CallR X (.builtin "any") (rBi A X.K B b anyD) := by
  intro pins s σ H xs us Q I rv h
  obtain ⟨io, m, ds, r, R, rs, ho, q⟩ := h
  unfold anyD at ho
  split at ho
  · obtain ⟨v, rfl, r1⟩ := reps1 rs
    obtain ⟨ds, ns, e1, e2, rfl⟩ := lst_bind ho
    obtain ⟨a, vs, rfl, hq, hr, _⟩ := r1.lstEx R e1
    rw [vals_bls hr e2] at hq
    exact L2.cr_any hc pins s σ H _ us Q I rv ⟨a, ns, rfl, .inl (.inl hq), q.flat R (.bl _)⟩
  · cases ho
theorem cr_tup : CallR X (.type "tuple") (rBi A X.K B b tupD) := by
  intro pins s σ H xs us Q I rv h
  obtain ⟨io, m, ds, r, R, rs, ho, q⟩ := h
  unfold tupD at ho
  split at ho
  · cases ho
  · rename_i hk
    obtain ⟨v, rfl, r1⟩ := reps1 rs
    cases r1 with
    | tup h1 z r2 =>
      cases ho
      exact L2.call_tuple_of pins s σ H _ us Q I rv ⟨_, _, rfl, .inr ⟨h1.sq, q.flat R (.tup h1 z r2)⟩⟩
    | lst h1 h2 z r2 =>
      cases ho
      exact L2.call_tuple_of pins s σ H _ us Q I rv ⟨_, _, rfl, .inl ⟨.inl (.inl h2), fun l hl => q.tup R hl r2 z⟩⟩
    | arg h1 z =>
      cases ho
      exact L2.call_tuple_of pins s σ H _ us Q I rv ⟨_, _, rfl, .inl ⟨h1.sq, fun l hl => q.tup R hl (reps_ints _) (by rw [List.length_map]; exact z)⟩⟩
    | @ref n a h1 h2 =>
      simp only [seqM] at ho
      split at ho
      · rename_i es e
        cases ho
        obtain ⟨vs, e1, r2, z⟩ := R.get h2 e
        exact L2.call_tuple_of pins s σ H _ us Q I rv ⟨_, _, rfl, .inl ⟨.inl (.inl e1), fun l hl => q.tup R hl r2 z⟩⟩
      · cases ho
    | ktp _ _ _ => exact absurd rfl (hk _)
    | _ => simp [seqM] at ho
  · cases ho
theorem cr_min2 (hc : X.calm = true) : CallR X (.builtin "min") (rBi A X.K B b fun _ => min2D) := by
  intro pins s σ H xs us Q I rv h
  obtain ⟨io, m, ds, r, R, rs, ho, q⟩ := h
  simp only at ho
  unfold min2D at ho
  split at ho
  · cases ho
    obtain ⟨v, u, rfl, r1, r2⟩ := reps2 rs
    cases r1; cases r2
    exact L2.call_min2 hc pins s σ H _ us Q I rv ⟨_, _, rfl, q.flat R (.int _)⟩
  · cases ho
theorem cr_abs : CallR X (.builtin "abs") (rBi A X.K B b fun _ => absD) := by
  intro pins s σ H xs us Q I rv h
  obtain ⟨io, m, ds, r, R, rs, ho, q⟩ := h
  simp only at ho
  unfold absD at ho
  split at ho
  · cases ho
    obtain ⟨v, rfl, r1⟩ := reps1 rs
    cases r1
    exact L2.call_abs pins s σ H _ us Q I rv ⟨_, rfl, q.flat R (.int _)⟩
  · cases ho
/-- str(s) of a text -/
def StrStr (X : Cx) : Prop := CallR X (.type "str") fun xs H Q => ∃ x, xs = [.str x] ∧ Q (.str x) H
theorem cr_str (hs : StrStr X) : CallR X (.type "str") (rBi A X.K B b fun _ => strD) := by
  intro pins s σ H xs us Q I rv h
  obtain ⟨io, m, ds, r, R, rs, ho, q⟩ := h
  simp only at ho
  unfold strD at ho
  split at ho
  · split at ho
    · rename_i hz
      cases ho
      obtain ⟨v, rfl, r1⟩ := reps1 rs
      cases r1
      exact L2.call_str_int pins s σ H _ us Q I rv ⟨_, rfl, hz, q.flat R (.str _)⟩
    · cases ho
  · cases ho
    obtain ⟨v, rfl, r1⟩ := reps1 rs
    cases r1
    exact hs pins s σ H _ us Q I rv ⟨_, rfl, q.flat R (.str _)⟩
  · cases ho
theorem cr_int : CallR X (.type "int") (rBi A X.K B b fun _ => intD1) := by
  intro pins s σ H xs us Q I rv h
  obtain ⟨io, m, ds, r, R, rs, ho, q⟩ := h
  simp only at ho
  unfold intD1 at ho
  split at ho
  · cases ho
    obtain ⟨v, rfl, r1⟩ := reps1 rs
    cases r1
    exact L2.call_int1 pins s σ H _ us Q I rv (.inl ⟨_, rfl, q.flat R (.int _)⟩)
  · cases ho
    obtain ⟨v, rfl, r1⟩ := reps1 rs
    cases r1
    exact L2.call_int1 pins s σ H _ us Q I rv (.inr ⟨_, rfl, q.flat R (.int _)⟩)
  · split at ho
    · rename_i n e
      split at ho
      · rename_i hz
        cases ho
        obtain ⟨v, rfl, r1⟩ := reps1 rs
        cases r1
        exact L2.call_int_str pins s σ H _ us Q I rv ⟨_, n, rfl, e, hz, q.flat R (.int _)⟩
      · cases ho
    · cases ho
  · cases ho
end
end Bo

set_option Elab.async false
set_option linter.all false
set_option maxRecDepth 100000
/-! B5: places, slices, kinds, methods, list(..) and dict(..). -/
namespace Bo
open PySem PySem.Spec PyProof.Rows
open L2 (V HO Hp Rd SqL SqT Vals upd Cx PE PT PA PO PI PW OpR UnR CallR SlR IxR VK XK TE TT TA TO TI Inv RelV EP Room Sp FnOk Gl Vis Binds WX Takes tOp tCons tNil)
section
variable {A : Ad} {B : Nat → Nat} {b : Nat} {X : Cx}
theorem atI_reps {K : W.Frag} {io : List Addr} {c : Nat} {H : Hp} {ds : List D} {vs : List V} {i : Int} {d : D} (h : Reps A K io c H ds vs) (e : L2.atI ds i = some d) : ∃ v, L2.atI vs i = some v ∧ Rep A K io c H d v := by
  unfold L2.atI at e ⊢
  rw [← h.length]
  cases q : L2.ixN ds.length i with
  | none => rw [q] at e; cases e
  | some j =>
    rw [q] at e
    exact h.get e
/-! ### x[i] -/
def rIx (A : Ad) (K : W.Frag) (B : Nat → Nat) (b : Nat) : L2.R2 := fun x y H Q => ∃ io m d e r, Rel A K B b io H m ∧ Rep A K io io.length H d x ∧ Rep A K io io.length H e y ∧ ixD m d e = some r ∧ Aft A K B b io H m r Q
theorem ix_r (hu : X.A.units + 1 < cLine) : IxR X (rIx A X.K B b) := by
  intro value slice pins s σ H x y v u Q I rx ry h hs
  obtain ⟨io, m, d, e, r, R, r1, r2, ho, q⟩ := h
  unfold ixD at ho
  split at ho
  · rename_i ks vs e1
    cases hk : toK e with
    | none => rw [hk] at ho; cases ho
    | some k =>
      rw [hk] at ho
      obtain ⟨a, kvs, rfl, hd, hks, hv⟩ := r1.dctEx R e1
      obtain ⟨p, rfl, hp, _⟩ := r2.key hk
      cases rx
      have z := valV_dget k hv
      rw [hks, show dget ks vs k = some r from ho] at z
      obtain ⟨w, z1, z2⟩ := z
      have g : L2.DGet H a (.ref p) (some w) := .inr ⟨kvs, k, p, hd, rfl, hp, z1.symm⟩
      exact tail_any (L2.dict_typeIs I g) PySem.F.slot_dict_getitem.lookup (L2.d_getItem hu I g ry fun w' s' I' rw' => ⟨w, H, I', rw', q.flat R z2⟩) hs
  · split at ho
    · cases r1; cases r2
      split at ho
      · rename_i hz
        cases hc : L2.atI (_ : Str).cps.toList _ with
        | none => rw [hc] at ho; cases ho
        | some c =>
          rw [hc] at ho
          cases ho
          exact L2.ix_str value slice pins s σ H _ _ v u Q I rx ry ⟨_, _, c, rfl, rfl, hz, hc, q.flat R (.str _)⟩ hs
      · cases ho
    · rename_i j _
      cases hc : seqM m d with
      | none => rw [hc] at ho; cases ho
      | some ds =>
        rw [hc] at ho
        obtain ⟨a, vs, rfl, hq, hr, _⟩ := r1.seqEx R hc
        obtain ⟨w, z1, z2⟩ := atI_reps hr ho
        cases r2
        rcases hq with hq | hq
        · exact L2.ix_list value slice pins s σ H _ _ v u Q I rx ry ⟨a, vs, j, w, rfl, rfl, hq, z1, q.flat R z2⟩ hs
        · exact L2.ix_tup value slice pins s σ H _ _ v u Q I rx ry ⟨a, vs, j, w, rfl, rfl, hq, z1, q.flat R z2⟩ hs
    · cases ho
/-! ### x[i:j], x[::-1] -/
theorem cut_reps {K : W.Frag} {io : List Addr} {c : Nat} {H : Hp} {ds : List D} {vs : List V} (lo hi : Option Int) (h : Reps A K io c H ds vs) : Reps A K io c H (cut ds lo hi) (L2.cutV vs lo hi) := by
  unfold cut L2.cutV
  rw [← h.length]
  exact (h.drop _).take _
theorem cut_len (ds : List D) (lo hi : Option Int) : (cut ds lo hi).length ≤ ds.length := by
  unfold cut
  rw [List.length_take, List.length_drop]
  omega
theorem cut_whole {ds : List D} {lo hi : Option Int} (h : HT.sIx ds.length 0 lo = 0 ∧ HT.sIx ds.length ds.length hi = ds.length) : cut ds lo hi = ds := by
  unfold cut
  rw [h.1, h.2, List.drop_zero, Nat.sub_zero, List.take_length]
def rSl (A : Ad) (K : W.Frag) (B : Nat → Nat) (b : Nat) : V → Option Int → Option Int → Hp → VK → Prop := fun x lo hi H Q => ∃ io m d r, Rel A K B b io H m ∧ Rep A K io io.length H d x ∧ slD m d lo hi = some r ∧ Aft A K B b io H m r Q
theorem sl_r : SlR X (rSl A X.K B b) := by
  intro pins s σ H x v vl vu lo hi sl Q I rx hs pl pu h
  obtain ⟨io, m, d, r, R, r1, ho, q⟩ := h
  unfold slD at ho
  split at ho
  · cases ho
    obtain ⟨a, vs, rfl, hq, hr, hz⟩ := r1.tupSq
    refine L2.sl_tupA pins s σ H _ v vl vu lo hi sl Q I rx hs pl pu ⟨a, vs, rfl, hq, fun hw => ?_, fun hw p hp => ?_⟩
    · rw [← hr.length] at hw
      rw [cut_whole hw] at q
      exact q.flat R r1
    · exact q.tup R hp (cut_reps lo hi hr) (Nat.le_trans (cut_len _ _ _) hz)
  · split at ho
    · rename_i hz
      cases ho
      cases r1
      exact L2.sl_str pins s σ H _ v vl vu lo hi sl Q I rx hs pl pu ⟨_, rfl, hz, q.flat R (.str _)⟩
    · cases ho
  · cases hc : lstM m d with
    | none => rw [hc] at ho; cases ho
    | some ds =>
      rw [hc] at ho
      cases ho
      obtain ⟨a, vs, rfl, hq, hr, hz⟩ := r1.lstEx R hc
      exact L2.sl_list pins s σ H _ v vl vu lo hi sl Q I rx hs pl pu ⟨a, vs, rfl, .inl (.inl hq), fun p hp => q.lst R hp (cut_reps lo hi hr) (Nat.le_trans (cut_len _ _ _) hz)⟩
/-! ### isinstance -/
def clsOf (A : Ad) : Ki → Option Value
  | .int => some (.type "int")
  | .bool => some (.type "bool")
  | .tup => some (.type "tuple")
  | .str => some (.type "str")
  | .lst => some (.type "list")
  | .cls c => if c = 13 then (A.ca 13).map .ref else none
def tyNames : List String := ["NoneType", "bool", "int", "str", "list", "tuple", "dict"]
/-- what is asked of the classes: an instance of the one is none of the others, a plain thing is none of theirs -/
structure ClsOk (A : Ad) (K : W.Frag) : Prop where
  base : ∀ a, A.ca 13 = some a → ∀ T ∈ tyNames, PySem.W.kitOne K (.type T) (.ref a) = some false
  own : ∀ a dx fs, A.ca 13 = some a → ∀ (H : Hp) (p : Addr), H p = some (.ins a dx fs) → L2.TyX K H (.ref p) (.ref a) ∧ PySem.W.kitOne K (.ref a) (.ref a) = some true
theorem rep_ty {K : W.Frag} {io : List Addr} {H : Hp} {m : M} {d : D} {v : V} {T : String} (R : Rel A K B b io H m) (r : Rep A K io io.length H d v) (h : tyD m d = some T) : L2.TyX K H v (.type T) ∧ T ∈ tyNames := by
  cases r with
  | non => cases h; exact ⟨.base .non, by decide⟩
  | bl k => cases h; exact ⟨.base (.bl k), by decide⟩
  | int i => cases h; exact ⟨.base (.int i), by decide⟩
  | str s => cases h; exact ⟨.base (.str s), by decide⟩
  | tup h1 z r => cases h; exact ⟨.base (.tup h1.2), by decide⟩
  | ktp h1 z r =>
    cases h
    obtain ⟨o, its, n, e, c, _⟩ := h1
    exact ⟨.kTuple e c, by decide⟩
  | lst h1 h2 z r => cases h; exact ⟨.base (.lst h2), by decide⟩
  | arg h1 z =>
    cases h
    rcases h1 with ⟨_, h1 | ⟨o, h1⟩⟩ | ⟨o, its, n, e, c, _⟩
    · exact ⟨.base (.lst h1), by decide⟩
    · exact ⟨.base (.frz h1), by decide⟩
    · exact ⟨.kList e c, by decide⟩
  | @ref n a h1 h2 =>
    simp only [tyD] at h
    split at h
    · rename_i ds e
      cases h
      obtain ⟨vs, e1, _⟩ := R.get h2 e
      exact ⟨.base (.lst e1), by decide⟩
    · rename_i ks ds e
      cases h
      obtain ⟨vs, e1, _⟩ := R.get h2 e
      exact ⟨.base (.dT e1), by decide⟩
    · cases h
  | _ => simp [tyD] at h
theorem kit_base {A : Ad} {K : W.Frag} (hc : ClsOk A K) {k : Ki} {c : Value} (h : clsOf A k = some c) {T : String} (hT : T ∈ tyNames) : PySem.W.kitOne K (.type T) c = some (isT k T) := by
  cases k with
  | cls c' =>
    simp only [clsOf] at h
    split at h
    · cases e : A.ca 13 with
      | none => rw [e] at h; cases h
      | some a =>
        rw [e] at h
        cases h
        exact hc.base a e T hT
    · cases h
  | _ =>
    cases h
    unfold tyNames at hT
    simp only [List.mem_cons, List.not_mem_nil, or_false] at hT
    rcases hT with rfl | rfl | rfl | rfl | rfl | rfl | rfl <;> exact L2.kit_ty (by decide +kernel)
def rIsK (A : Ad) (K : W.Frag) (B : Nat → Nat) (b : Nat) (k : Ki) : List V → Hp → VK → Prop := fun xs H Q => ∃ io m d x c u r, xs = [x, c] ∧ L2.ClsV c u ∧ clsOf A k = some u ∧ Rel A K B b io H m ∧ Rep A K io io.length H d x ∧ isK m k d = some r ∧ Q (.bl r) H
theorem cr_isi (hc : ClsOk A X.K) (k : Ki) : CallR X (.builtin "isinstance") (rIsK A X.K B b k) := by
  intro pins s σ H xs us Q I rv h
  obtain ⟨io, m, d, x, c, u, r, rfl, cv, hk, R, r1, ho, q⟩ := h
  unfold isK at ho
  split at ho
  · rename_i T e
    cases ho
    obtain ⟨t1, t2⟩ := rep_ty R r1 e
    exact L2.call_isi pins s σ H _ us Q I rv ⟨x, c, _, u, _, rfl, cv, t1, kit_base hc hk t2, q⟩
  · split at ho
    · rename_i c1
      split at ho
      · rename_i n
        split at ho
        · rename_i c2 fs e
          split at ho
          · rename_i h13
            obtain ⟨rfl, rfl⟩ := h13
            cases ho
            obtain ⟨a, rfl, ha⟩ := r1.refEx R
            obtain ⟨C, dx, gs, h1, h2, _⟩ := R.get ha e
            simp only [clsOf, if_true, h1] at hk
            cases hk
            obtain ⟨t1, t2⟩ := hc.own C dx gs h1 H a h2
            exact L2.call_isi pins s σ H _ us Q I rv ⟨_, c, _, _, _, rfl, cv, t1, t2, q⟩
          · cases ho
        · cases ho
      · cases ho
    · cases ho
/-! ### is None, is True, is False -/
def rIs (A : Ad) (K : W.Frag) (B : Nat → Nat) (b : Nat) (yes : Bool) (d0 : D) : L2.R2 := fun x y H Q => ∃ io m d r, Rel A K B b io H m ∧ Rep A K io io.length H d x ∧ Rep A K io io.length H d0 y ∧ isD d0 d = some r ∧ Q (.bl (r == yes)) H
theorem op_is (d0 : D) : OpR X (compareOp .Is) (rIs A X.K B b true d0) := by
  intro pins s σ H x y v u Q I rx ry h
  obtain ⟨io, m, d, r, R, r1, r2, ho, q⟩ := h
  have e : (r == true) = r := by cases r <;> rfl
  rw [e] at q
  cases d0 with
  | non =>
    cases r2
    refine L2.op_isN pins s σ H x _ v u Q I rx ry ⟨rfl, ?_⟩
    have : decide (x = V.non) = r := by
      cases r1 <;> first | (cases ho; rfl) | (cases ho; decide) | (cases ho; simp) | cases ho
    rw [this]
    exact q
  | bl k =>
    cases r2
    cases r1 with
    | bl a =>
      cases ho
      refine L2.op_isBl pins s σ H _ _ v u Q I rx ry ⟨a, k, rfl, rfl, ?_⟩
      have : decide (a = k) = (a == k) := by cases a <;> cases k <;> rfl
      rw [this]
      exact q
    | _ => cases ho
  | _ => cases ho
theorem op_isnt (d0 : D) : OpR X (compareOp .IsNot) (rIs A X.K B b false d0) := by
  intro pins s σ H x y v u Q I rx ry h
  obtain ⟨io, m, d, r, R, r1, r2, ho, q⟩ := h
  have e : (r == false) = !r := by cases r <;> rfl
  rw [e] at q
  cases d0 with
  | non =>
    cases r2
    refine L2.op_notN pins s σ H x _ v u Q I rx ry ⟨rfl, ?_⟩
    have : decide (x = V.non) = r := by
      cases r1 <;> first | (cases ho; rfl) | (cases ho; decide) | (cases ho; simp) | cases ho
    rw [this]
    exact q
  | bl k =>
    cases r2
    cases r1 with
    | bl a =>
      cases ho
      refine L2.op_notBl pins s σ H _ _ v u Q I rx ry ⟨a, k, rfl, rfl, ?_⟩
      have : (!decide (a = k)) = !(a == k) := by cases a <;> cases k <;> rfl
      rw [this]
      exact q
    | _ => cases ho
  | _ => cases ho

/-! ### methods of lists -/
/-- a method's rule: what it does to the data -/
def rMt (A : Ad) (K : W.Frag) (B : Nat → Nat) (b : Nat) (f : M → D → List D → Option (D × M)) : V → List V → Hp → VK → Prop := fun x xs H Q => ∃ io m d ds r m', Rel A K B b io H m ∧ Rep A K io io.length H d x ∧ Reps A K io io.length H ds xs ∧ f m d ds = some (r, m') ∧ Aft A K B b io H m' r Q
theorem updL_ex {c : Nat} {m : M} {o : D} {f : List D → Option (D × List D)} {add : List D} {res : Rs D × M} (h : updL c m o f add = some res) :
    ∃ n ds r es, o = .ref n ∧ m[n]? = some (.lst ds) ∧ f ds = some (r, es) ∧ (c ≤ n ∨ nrs add = true) ∧ es.length ≤ sizeLine ∧ res = (.ok r, m.set n (.lst es)) := by
  unfold updL at h
  split at h
  · rename_i n
    split at h
    · rename_i ds e
      split at h
      · rename_i r es e2
        split at h
        · rename_i hz
          rw [Bool.and_eq_true, Bool.or_eq_true, decide_eq_true_eq, decide_eq_true_eq] at hz
          cases h
          exact ⟨n, ds, r, es, rfl, e, e2, hz.1, hz.2, rfl⟩
        · cases h
      · cases h
    · cases h
  · cases h
/-- the n-th mutable thing, a list, is written anew -/
theorem Aft.wr {K : W.Frag} {io : List Addr} {H : Hp} {m : M} {r : D} {Q : VK} {n : Nat} {p : Addr} {es : List D} {vs : List V} {v : V} (R : Rel A K B b io H m) (q : Aft A K B b io H (m.set n (.lst es)) r Q) (hp : io[n]? = some p)
    (h : Reps A K io (bnds B b io n) H es vs) (hz : es.length ≤ sizeLine) (hr : Rep A K io io.length H r v) : Q v (upd H p (.lst vs)) := by
  have x : Ext A io io H (upd H p (.lst vs)) := R.ext_write (List.mem_of_getElem? hp)
  exact q io _ v x (R.write hp x ⟨vs, L2.upd_same, h.mono x (Nat.le_refl _), hz⟩) (hr.mono x (Nat.le_refl _))
theorem reps_bnd {K : W.Frag} {io : List Addr} {H : Hp} {n c : Nat} {ds : List D} {vs : List V} (h : Reps A K io io.length H ds vs) (e : b ≤ n ∨ nrs ds = true) : Reps A K io (bnds B b io n) H ds vs := by
  rcases e with e | e
  · unfold bnds
    rw [if_neg (Nat.not_lt.mpr e)]
    exact h
  · exact h.nr e
theorem reps_last {K : W.Frag} {io : List Addr} {c : Nat} {H : Hp} {ds : List D} {vs : List V} {d : D} (h : Reps A K io c H ds vs) (e : ds.getLast? = some d) : ∃ v, vs[vs.length - 1]? = some v ∧ Rep A K io c H d v := by
  rw [List.getLast?_eq_getElem?] at e
  rw [← h.length]
  exact h.get e
def fUpd (c : Nat) (f : List D → List D → Option (D × List D)) (add : List D → List D) : M → D → List D → Option (D × M) := fun m o xs => match updL c m o (fun ds => f xs ds) (add xs) with
  | some (.ok r, m') => some (r, m')
  | _ => none
theorem fUpd_ex {c : Nat} {f : List D → List D → Option (D × List D)} {add : List D → List D} {m : M} {o : D} {xs : List D} {r : D} {m' : M} (h : fUpd c f add m o xs = some (r, m')) :
    ∃ n ds es, o = .ref n ∧ m[n]? = some (.lst ds) ∧ f xs ds = some (r, es) ∧ (c ≤ n ∨ nrs (add xs) = true) ∧ es.length ≤ sizeLine ∧ m' = m.set n (.lst es) := by
  unfold fUpd at h
  split at h
  · rename_i r0 m0 e
    cases h
    obtain ⟨n, ds, r, es, h1, h2, h3, h4, h5, h6⟩ := updL_ex e
    cases h6
    exact ⟨n, ds, es, h1, h2, h3, h4, h5, rfl⟩
  · cases h
theorem mt_app : L2.MtR X "list.append" (rMt A X.K B b (fUpd b (fun xs ds => match xs with | [d] => some (.non, ds ++ [d]) | _ => none) id)) := by
  intro pins s σ H x xs v us Q I rx rs h
  obtain ⟨io, m, d, ds, r, m', R, r1, r2, ho, q⟩ := h
  obtain ⟨n, cs, es, rfl, e1, e2, e3, e4, rfl⟩ := fUpd_ex ho
  split at e2
  · cases e2
    obtain ⟨a, rfl, ha⟩ := r1.refEx R
    obtain ⟨vs, h1, h2, h3⟩ := R.ob n a _ ha e1
    obtain ⟨w, rfl, r3⟩ := reps1 r2
    rw [List.length_append] at e4
    refine L2.mt_append pins s σ H _ _ v us Q I rx rs ⟨a, vs, w, rfl, rfl, h1, by rw [← h2.length]; exact e4, ?_⟩
    exact q.wr R ha (h2.append (reps_bnd (c := 0) r2 e3)) (by rw [List.length_append]; exact e4) .non
  · cases e2
theorem mt_ext : L2.MtR X "list.extend" (rMt A X.K B b fun m o xs => match xs with
    | [d] => (lstM m d).bind fun es => fUpd b (fun _ ds => some (.non, ds ++ es)) (fun _ => es) m o []
    | _ => none) := by
  intro pins s σ H x xs v us Q I rx rs h
  obtain ⟨io, m, d, ds, r, m', R, r1, r2, ho, q⟩ := h
  simp only at ho
  split at ho
  · rename_i d1
    cases hc : lstM m d1 with
    | none => rw [hc] at ho; cases ho
    | some zs =>
      rw [hc] at ho
      obtain ⟨n, cs, es, rfl, e1, e2, e3, e4, rfl⟩ := fUpd_ex (show fUpd b (fun _ ds => some (.non, ds ++ zs)) (fun _ => zs) m d [] = some (r, m') from ho)
      cases e2
      obtain ⟨a, rfl, ha⟩ := r1.refEx R
      obtain ⟨vs, h1, h2, h3⟩ := R.ob n a _ ha e1
      obtain ⟨w, rfl, r3⟩ := reps1 r2
      obtain ⟨a2, ws, rfl, g1, g2, g3⟩ := r3.lstEx R hc
      rw [List.length_append] at e4
      refine L2.mt_extend pins s σ H _ _ v us Q I rx rs ⟨a, a2, vs, ws, rfl, rfl, h1, g1, by rw [← h2.length, ← g2.length]; exact e4, ?_⟩
      exact q.wr R ha (h2.append (reps_bnd (c := 0) g2 e3)) (by rw [List.length_append]; exact e4) .non
  · cases ho
theorem mt_pop0 : L2.MtR X "list.pop" (rMt A X.K B b (fUpd b (fun xs ds => match xs with | [] => ds.getLast?.map fun d => (d, ds.dropLast) | _ => none) (fun _ => []))) := by
  intro pins s σ H x xs v us Q I rx rs h
  obtain ⟨io, m, d, ds, r, m', R, r1, r2, ho, q⟩ := h
  obtain ⟨n, cs, es, rfl, e1, e2, e3, e4, rfl⟩ := fUpd_ex ho
  split at e2
  · cases hl : cs.getLast? with
    | none => rw [hl] at e2; cases e2
    | some d =>
      rw [hl] at e2
      cases e2
      obtain ⟨a, rfl, ha⟩ := r1.refEx R
      obtain ⟨vs, h1, h2, h3⟩ := R.ob n a _ ha e1
      obtain ⟨w, k1, k2⟩ := reps_last h2 hl
      cases r2
      refine L2.mt_pop pins s σ H _ _ v us Q I rx rs ⟨a, vs, w, rfl, rfl, h1, k1, ?_⟩
      exact q.wr R ha h2.dropLast e4 (k2.mono (Ext.refl io H) (R.bnd_le n))
  · cases e2
theorem seqIx_of {j : Int} {n k : Nat} (h0 : 0 ≤ j) (h : k = j.toNat) (hk : k < n) : seqIndex? j n = some k := by
  subst h
  exact seqIndex_of h0 (by omega)
theorem mt_pop1 : L2.MtR X "list.pop" (rMt A X.K B b fun m o xs => match xs with
    | [.int j] => if decide (0 ≤ j) && decide (j < 2 ^ 63) then fUpd b (fun _ ds => ds[j.toNat]?.map fun d => (d, ds.eraseIdx j.toNat)) (fun _ => []) m o [] else none
    | _ => none) := by
  intro pins s σ H x xs v us Q I rx rs h
  obtain ⟨io, m, d, ds, r, m', R, r1, r2, ho, q⟩ := h
  simp only at ho
  split at ho
  · rename_i j
    split at ho
    · rename_i hz
      rw [Bool.and_eq_true, decide_eq_true_eq, decide_eq_true_eq] at hz
      obtain ⟨n, cs, es, rfl, e1, e2, e3, e4, rfl⟩ := fUpd_ex ho
      cases hl : cs[j.toNat]? with
      | none => rw [hl] at e2; cases e2
      | some d =>
        rw [hl] at e2
        cases e2
        obtain ⟨a, rfl, ha⟩ := r1.refEx R
        obtain ⟨vs, h1, h2, h3⟩ := R.ob n a _ ha e1
        obtain ⟨w, k1, k2⟩ := h2.get hl
        obtain ⟨u, rfl, r3⟩ := reps1 r2
        cases r3
        have hlt : j.toNat < vs.length := (List.getElem?_eq_some_iff.mp k1).1
        refine L2.mt_popAt pins s σ H _ _ v us Q I rx rs ⟨a, vs, j, j.toNat, w, rfl, rfl, h1, by omega, hz.2, seqIx_of hz.1 rfl hlt, k1, ?_⟩
        exact q.wr R ha (h2.eraseIdx _) e4 (k2.mono (Ext.refl io H) (R.bnd_le n))
    · cases ho
  · cases ho
theorem mt_rvs : L2.MtR X "list.reverse" (rMt A X.K B b (fUpd b (fun xs ds => match xs with | [] => some (.non, ds.reverse) | _ => none) (fun _ => []))) := by
  intro pins s σ H x xs v us Q I rx rs h
  obtain ⟨io, m, d, ds, r, m', R, r1, r2, ho, q⟩ := h
  obtain ⟨n, cs, es, rfl, e1, e2, e3, e4, rfl⟩ := fUpd_ex ho
  split at e2
  · cases e2
    obtain ⟨a, rfl, ha⟩ := r1.refEx R
    obtain ⟨vs, h1, h2, h3⟩ := R.ob n a _ ha e1
    cases r2
    refine L2.mt_reverse pins s σ H _ _ v us Q I rx rs ⟨a, vs, rfl, rfl, h1, ?_⟩
    exact q.wr R ha h2.reverse e4 .non
  · cases e2
theorem mt_cnt : L2.MtR X "list.count" (rMt A X.K B b fun m o xs => match xs with
    | [d] => (cntD m o d).map fun r => (r, m)
    | _ => none) := by
  intro pins s σ H x xs v us Q I rx rs h
  obtain ⟨io, m, d, ds, r, m', R, r1, r2, ho, q⟩ := h
  simp only at ho
  split at ho
  · rename_i d1
    unfold cntD at ho
    split at ho
    · rename_i k
      cases hc : lstM m d with
      | none => rw [hc] at ho; cases ho
      | some zs =>
        cases hi : intsD zs with
        | none => rw [hc] at ho; simp [hi] at ho
        | some ns =>
          rw [hc] at ho
          simp [hi] at ho
          obtain ⟨rfl, rfl⟩ := ho
          obtain ⟨a, vs, rfl, g1, g2, g3⟩ := r1.lstEx R hc
          rw [vals_ints g2 hi] at g1
          obtain ⟨u, rfl, r3⟩ := reps1 r2
          cases r3
          exact L2.mt_lcount pins s σ H _ _ v us Q I rx rs ⟨a, ns, k, rfl, rfl, .inl (.inl g1), q.flat R (.int _)⟩
    · cases ho
  · cases ho
theorem mt_idx : L2.MtR X "tuple.index" (rMt A X.K B b fun m o xs => match xs with
    | [d] => (idxD o d).map fun r => (r, m)
    | _ => none) := by
  intro pins s σ H x xs v us Q I rx rs h
  obtain ⟨io, m, d, ds, r, m', R, r1, r2, ho, q⟩ := h
  simp only at ho
  split at ho
  · rename_i d1
    unfold idxD at ho
    split at ho
    · rename_i zs
      split at ho
      · rename_i k
        cases hi : intsD zs with
        | none => rw [hi] at ho; cases ho
        | some ns =>
          rw [hi] at ho
          by_cases hk : k ∈ ns
          · simp [hk] at ho
            obtain ⟨rfl, rfl⟩ := ho
            obtain ⟨a, vs, rfl, g1, g2, g3⟩ := r1.tupSq
            rw [vals_ints g2 hi] at g1
            obtain ⟨u, rfl, r3⟩ := reps1 r2
            cases r3
            cases rx
            obtain ⟨uv, rfl, hv⟩ := rs.one
            obtain ⟨t, rfl⟩ := hv
            obtain ⟨its, rv, ht, hz⟩ := I.tuple g1
            exact SeqAt.tuple_index_ints (show s.heap.IsTuple a its.toArray from ht) rv.ints hk ⟨.int _, H, I.tok _, ⟨_, rfl⟩, q.flat R (.int _)⟩
          · simp [hk] at ho
      · cases ho
    · cases ho
  · cases ho
theorem vals_strs : ∀ {K : W.Frag} {io : List Addr} {c : Nat} {H : Hp} {ds : List D} {vs : List V} {ns : List Str}, Reps A K io c H ds vs → strsD ds = some ns → vs = ns.map V.str
  | _, _, _, _, _, _, _, .nil, e => by cases e; rfl
  | _, _, _, _, d :: ds, v :: vs, ns, .cons r t, e => by
    cases r with
    | str i =>
      simp only [strsD] at e
      cases q : strsD ds with
      | none => rw [q] at e; cases e
      | some ms =>
        rw [q] at e
        cases e
        rw [vals_strs t q]
        rfl
    | _ => simp [strsD] at e
theorem mt_joinD : L2.MtR X "str.join" (rMt A X.K B b fun m o xs => match xs with
    | [d] => (joinD m o d).map fun r => (r, m)
    | _ => none) := by
  intro pins s σ H x xs v us Q I rx rs h
  obtain ⟨io, m, d, ds, r, m', R, r1, r2, ho, q⟩ := h
  simp only at ho
  split at ho
  · rename_i d1
    unfold joinD at ho
    split at ho
    · rename_i a
      cases hc : lstM m d1 with
      | none => rw [hc] at ho; cases ho
      | some zs =>
        cases hi : strsD zs with
        | none => rw [hc] at ho; simp [hi] at ho
        | some ns =>
          rw [hc] at ho
          simp only [Option.bind_some, hi] at ho
          split at ho
          · rename_i hz
            cases ho
            obtain ⟨w, rfl, r3⟩ := reps1 r2
            obtain ⟨p, vs, rfl, g1, g2, g3⟩ := r3.lstEx R hc
            rw [vals_strs g2 hi] at g1
            cases r1
            exact L2.mt_join pins s σ H _ _ v us Q I rx rs ⟨a, p, ns, rfl, rfl, .inl (.inl (.inl g1)), hz, q.flat R (.str _)⟩
          · cases ho
    · cases ho
  · cases ho
theorem reps_strs {K : W.Frag} {io : List Addr} {c : Nat} {H : Hp} : ∀ ns : List Str, Reps A K io c H (ns.map .str) (ns.map .str)
  | [] => .nil
  | n :: r => .cons (.str n) (reps_strs r)
theorem split_len (a b : Str) : (Txt.split a b).length ≤ a.length + 2 := PyProof.Rows.split_le a b
theorem mt_spltD : L2.MtR X "str.split" (rMt A X.K B b fun m o xs => match xs with
    | [d] => (spltD o d).map fun r => (r, m)
    | _ => none) := by
  intro pins s σ H x xs v us Q I rx rs h
  obtain ⟨io, m, d, ds, r, m', R, r1, r2, ho, q⟩ := h
  simp only at ho
  split at ho
  · rename_i d1
    unfold spltD at ho
    split at ho
    · rename_i a
      split at ho
      · rename_i c
        split at ho
        · rename_i hz
          rw [Bool.and_eq_true, decide_eq_true_eq, decide_eq_true_eq] at hz
          cases ho
          obtain ⟨w, rfl, r3⟩ := reps1 r2
          cases r3; cases r1
          exact L2.mt_split pins s σ H _ _ v us Q I rx rs ⟨a, c, rfl, rfl, by simpa using hz.1, hz.2, fun p hp => q.lst R hp (reps_strs _) (by rw [List.length_map]; exact Nat.le_trans (split_len a c) hz.2)⟩
        · cases ho
      · cases ho
    · cases ho
  · cases ho
end
end Bo

set_option Elab.async false
set_option linter.all false
set_option maxRecDepth 100000
/-! B6: the nodes of an expression, one by one. -/
namespace Bo
open PySem PySem.Spec PyProof.Rows
open L2 (V HO Hp Rd SqL SqT Vals upd Cx PE PT PA PO PI PW OpR UnR CallR SlR IxR VK XK TE TT TA TO TI Inv RelV EP Room Sp FnOk Gl Vis Binds WX Takes tOp tCons tNil)
/-! ### shapes -/
def plE : Expr → Bool
  | .Starred .. => false
  | .Slice .. => false
  | .Set .. => false
  | _ => true
def plT : Expr → Bool
  | .UnaryOp .Not _ _ => false
  | .BoolOp .. => false
  | .IfExp .. => false
  | .Compare .. => false
  | .Starred .. => false
  | _ => true
theorem pl_star {e : Expr} (h : plE e = true) (es : List Expr) (env : Env) : starEach (e :: es) env = (false, eval e env) :: starEach es env := by
  cases e <;> first | rfl | cases h
theorem pl_any {es : List Expr} {pos : Pos} {env : Env} : es.all plE = true → (backTo pos (starEach es env)).any (·.1) = false := by
  induction es with
  | nil => intro _; rfl
  | cons e r ih =>
    intro h
    rw [List.all_cons, Bool.and_eq_true] at h
    rw [pl_star h.1]
    show ((false, _) :: backTo pos (starEach r env)).any (·.1) = false
    rw [List.any_cons, ih h.2]
    rfl
theorem pl_all {es : List Expr} {pos : Pos} {env : Env} : es.all plE = true → (backTo pos (starEach es env)).all (fun x => !x.1) = true := by
  induction es with
  | nil => intro _; rfl
  | cons e r ih =>
    intro h
    rw [List.all_cons, Bool.and_eq_true] at h
    rw [pl_star h.1]
    show ((false, _) :: backTo pos (starEach r env)).all (fun x => !x.1) = true
    rw [List.all_cons, ih h.2]
    rfl
theorem pl_behind {e : Expr} (h : plE e = true) (op : CmpOp) : behindInMarks op e = false := by
  cases e <;> first | rfl | cases h
theorem pl_last {e f : Expr} (h : plE f = true) (op op' : CmpOp) : lastMarks [op, op'] [e, f] = false := pl_behind h op'
theorem pl_ix {e : Expr} (h : plE e = true) : L2.PlainIx e := by
  intro o i
  cases e <;> first | rfl | cases h
theorem pl_folded {e : Expr} (h : plE e = true) (env : Env) (x : Value) : foldedSetIterable e env x = pure x := by
  cases e <;> first | rfl | cases h
theorem plT_true {e : Expr} (h : plT e = true) (env : Env) (whole : Sem Value) : isTrue e env whole = (do let v ← whole; standAt e.pos; holding [v] (truthy v)) := by
  cases e with
  | UnaryOp op a p => cases op <;> first | rfl | cases h
  | _ => first | rfl | cases h
theorem base_ok {e : Expr} (h : baseB e = true) (name : Str) (env : Env) : attributeBase e name env (eval e env) = eval e env := by
  cases e <;> first | rfl | cases h
theorem base_pl {e : Expr} (h : baseB e = true) : plE e = true := by
  cases e <;> first | rfl | cases h
theorem vis_of {sc : Scope} {x : Str} (h : visB sc x = true) : Vis sc x := by
  unfold visB at h
  unfold Vis
  split at h <;> rename_i e <;> first | exact .inl e | exact .inr (.inl e) | exact .inr (.inr e) | cases h
theorem gl_of {X : Cx} {x : Str} (h : glB X.env.scope x = true) : Gl X x ∧ (x == ("__debug__" : Str)) = false ∧ x ≠ "__name__" := by
  unfold glB at h
  split at h
  · rename_i e
    rw [Bool.and_eq_true] at h
    refine ⟨e, ?_, by simpa using h.2⟩
    have := h.1
    simpa using this
  · cases h

/-! ### a test -/
def tst (r : Option (Rs D × M)) : Option (Rs Bool × M) := bnd r fun d m => match d with
  | .bl b => some (.ok b, m)
  | _ => none
theorem bnd_tst {β : Type} (r : Option (Rs D × M)) (k1 k2 : M → Option (Rs β × M)) : (bnd r fun x m1 => match x with | .bl true => k1 m1 | .bl false => k2 m1 | _ => none) = bnd (tst r) fun b m1 => if b = true then k1 m1 else k2 m1 := by
  unfold tst
  cases r with
  | none => rfl
  | some p =>
    obtain ⟨x, m⟩ := p
    cases x with
    | ex c => rfl
    | ok d =>
      cases d with
      | bl b => cases b <;> rfl
      | _ => rfl
section
variable {A : Ad} {B : Nat → Nat} {b : Nat} {X : Cx} {W : Wi} {io : List Addr} {H : Hp} {σ : L2.St}
abbrev tD (A : Ad) (X : Cx) (B : Nat → Nat) (b : Nat) (W : Wi) (f : Sg → M → Option (Rs D × M)) : TE := tG A X.K B b (RD A X.K) W f
abbrev tDs (A : Ad) (X : Cx) (B : Nat → Nat) (b : Nat) (W : Wi) (f : Sg → M → Option (Rs (List D) × M)) : TA := tG A X.K B b (RDs A X.K) W f
abbrev tT (A : Ad) (X : Cx) (B : Nat → Nat) (b : Nat) (W : Wi) (f : Sg → M → Option (Rs Bool × M)) : TT := tG A X.K B b RId W f
theorem gW.cast {K : PySem.W.Frag} {α β : Type} {RR : List Addr → Hp → α → β → Prop} {r r' : Option (Rs α × M)} {Q : β → Hp → Prop} (e : r = r') (h : gW A K B b RR W io σ H r Q) : gW A K B b RR W io σ H r' Q := e ▸ h
theorem gW.fin {K : PySem.W.Frag} {α β : Type} {RR : List Addr → Hp → α → β → Prop} {d : α} {m : M} {v : β} {Q : β → Hp → Prop} (h : gW A K B b RR W io σ H (some (.ok d, m)) Q) (R : Rel A K B b io H m) (r : RR io H d v) : Q v H :=
  h io H v (Ext.refl io H) R r
theorem gW.ok {K : PySem.W.Frag} {α β : Type} {RR : List Addr → Hp → α → β → Prop} {d : α} {m : M} {Q : β → Hp → Prop} (h : gW A K B b RR W io σ H (some (.ok d, m)) Q) {io' : List Addr} {H' : Hp} {v : β} (x : Ext A io io' H H') (R : Rel A K B b io' H' m) (r : RR io' H' d v) : Q v H' :=
  h io' H' v x R r
theorem pt_of {e : Expr} {f : Sg → M → Option (Rs D × M)} (h : PE X e (tD A X B b W f)) (hp : plT e = true) : PT X e (tT A X B b W fun s m => tst (f s m)) := by
  refine pt_imp (L2.pt_val h (fun w => plT_true hp _ w)) fun σ H Q g => ?_
  obtain ⟨io, s, m, R, S, g⟩ := g
  refine tG.step (RR := RD A X.K) R S g fun io1 H1 m1 d v x1 R1 S1 r1 h1 => ?_
  cases d with
  | bl k =>
    cases r1
    exact ⟨k, rfl, h1.fin R1 rfl⟩
  | _ => exact h1.elim
/-! ### leaves -/
theorem n_var {i : Nat} {x : Str} {pos : Pos} (hN : X.N[i]? = some x) (hv : Vis X.env.scope x) (hd : (x == ("__debug__" : Str)) = false) (hcd : (x == ("__classdict__" : Str)) = false) : PE X (.Name x pos) (tD A X B b W fun s m => match s[i]? with
    | some (some d) => some (.ok d, m)
    | _ => none) := pe_imp (L2.pe_var hN hv hd hcd) fun σ H Q g => by
  obtain ⟨io, s, m, R, S, g⟩ := g
  cases e : s[i]? with
  | none => simp only [e] at g; exact g.elim
  | some o =>
    cases o with
    | none => simp only [e] at g; exact g.elim
    | some d =>
      simp only [e] at g
      obtain ⟨v, h1, h2⟩ := S.2 i d e
      exact ⟨v, h1, g.fin R h2⟩
theorem n_const {e : Expr} {v : V} {d : D} (h : PE X e (L2.tC v)) (r : ∀ io c H, Rep A X.K io c H d v) : PE X e (tD A X B b W fun _ m => some (.ok d, m)) := pe_imp h fun σ H Q g => by
  obtain ⟨io, s, m, R, S, g⟩ := g
  exact g.fin R (r _ _ _)
/-! ### several -/
theorem n_nil : PA X [] (tDs A X B b W fun _ m => some (.ok [], m)) := pa_imp L2.pa_nil fun σ H Q g => by
  obtain ⟨io, s, m, R, S, g⟩ := g
  exact g.fin R .nil
variable {f g h : Sg → M → Option (Rs D × M)} {fs : Sg → M → Option (Rs (List D) × M)} {e e2 e3 : Expr} {es : List Expr} {pos : Pos}
theorem n_cons (ha : PE X e (tD A X B b W f)) (hr : PA X es (tDs A X B b W fs)) (hp : plE e = true) : PA X (e :: es) (tDs A X B b W fun s m => bnd (f s m) fun d m1 => bnd (fs s m1) fun ds m2 => some (.ok (d :: ds), m2)) :=
  pa_imp (L2.pa_cons ha hr (pl_star hp _ _)) fun σ H Q g => by
    obtain ⟨io, s, m, R, S, g⟩ := g
    refine tG.step (RR := RD A X.K) R S g fun io1 H1 m1 d v x1 R1 S1 r1 h1 => tG.step (RR := RDs A X.K) R1 S1 h1 fun io2 H2 m2 ds vs x2 R2 S2 r2 h2 => ?_
    exact h2.fin R2 (.cons (r1.mono x2 x2.len) r2)
/-! ### displays -/
theorem n_tup {k : Nat} (ha : PA X es (tDs A X B b W fs)) : PE X (.Tuple es k pos) (tD A X B b W fun s m => bnd (fs s m) fun ds m1 => if ds.length ≤ sizeLine then some (.ok (.tup ds), m1) else none) :=
  pe_imp (L2.pe_tup ha) fun σ H Q g => by
    obtain ⟨io, s, m, R, S, g⟩ := g
    refine tG.step (RR := RDs A X.K) R S g fun io1 H1 m1 d v x1 R1 S1 r1 h1 => ?_
    split at h1
    · rename_i hz
      exact ⟨by rw [← r1.length]; exact hz, fun p hp => Aft.tup R1 h1 hp r1 hz⟩
    · exact h1.elim
theorem n_lst (ha : PA X es (tDs A X B b W fs)) : PE X (.List es pos) (tD A X B b W fun s m => bnd (fs s m) fun ds m1 => if ds.length ≤ sizeLine then some (.ok (.lst ds), m1) else none) :=
  pe_imp (L2.pe_lst ha) fun σ H Q g => by
    obtain ⟨io, s, m, R, S, g⟩ := g
    refine tG.step (RR := RDs A X.K) R S g fun io1 H1 m1 d v x1 R1 S1 r1 h1 => ?_
    split at h1
    · rename_i hz
      exact ⟨by rw [← r1.length]; exact hz, fun p hp => Aft.lst R1 h1 hp r1 hz⟩
    · exact h1.elim
/-- a new mutable list -/
theorem gW.push {m : M} {ds : List D} {vs : List V} {p : Addr} {Q : VK} (R : Rel A X.K B b io H m) (h : gW A X.K B b (RD A X.K) W io σ H (some (.ok (.ref m.length), m ++ [.lst ds])) Q) (hp : H p = none) (r : Reps A X.K io io.length H ds vs) (hz : ds.length ≤ sizeLine) : Q (.ref p) (upd H p (.lst vs)) := by
  have x : Ext A io (io ++ [p]) H (upd H p (.lst vs)) := ext_new1 _ hp
  have hl : io.length ≤ io.length + 1 := Nat.le_succ _
  have r2 : Reps A X.K (io ++ [p]) (io.length + 1) (upd H p (.lst vs)) ds vs := r.mono x hl
  refine h.ok x (R.push hp ⟨vs, L2.upd_same, r2, hz⟩) ?_
  show Rep A X.K (io ++ [p]) (io ++ [p]).length (upd H p (.lst vs)) (.ref m.length) (.ref p)
  refine .ref ?_ ?_
  · rw [List.length_append, ← R.len]; exact Nat.lt_succ_self _
  · rw [← R.len, List.getElem?_append_right (Nat.le_refl _), Nat.sub_self]; rfl
theorem gW.pushD {m : M} {ks : List (List Key)} {ds : List D} {kvs : List (List Key × V)} {p : Addr} {Q : VK} (R : Rel A X.K B b io H m) (h : gW A X.K B b (RD A X.K) W io σ H (some (.ok (.ref m.length), m ++ [.dct ks ds])) Q) (hp : H p = none)
    (hk : kvs.map (·.1) = ks) (r : Reps A X.K io io.length H ds (kvs.map (·.2))) (hz : ks.length ≤ sizeLine) : Q (.ref p) (upd H p (.dT kvs)) := by
  have x : Ext A io (io ++ [p]) H (upd H p (.dT kvs)) := ext_new1 _ hp
  have hl : io.length ≤ io.length + 1 := Nat.le_succ _
  have r2 : Reps A X.K (io ++ [p]) (io.length + 1) (upd H p (.dT kvs)) ds (kvs.map (·.2)) := r.mono x hl
  refine h.ok x (R.push hp ⟨kvs, L2.upd_same, hk, r2, hz⟩) ?_
  show Rep A X.K (io ++ [p]) (io ++ [p]).length (upd H p (.dT kvs)) (.ref m.length) (.ref p)
  refine .ref ?_ ?_
  · rw [List.length_append, ← R.len]; exact Nat.lt_succ_self _
  · rw [← R.len, List.getElem?_append_right (Nat.le_refl _), Nat.sub_self]; rfl
theorem n_new (ha : PA X es (tDs A X B b W fs)) : PE X (.List es pos) (tD A X B b W fun s m => bnd (fs s m) fun ds m1 => if ds.length ≤ sizeLine then some (.ok (.ref m1.length), m1 ++ [.lst ds]) else none) :=
  pe_imp (L2.pe_lst ha) fun σ H Q g => by
    obtain ⟨io, s, m, R, S, g⟩ := g
    refine tG.step (RR := RDs A X.K) R S g fun io1 H1 m1 d v x1 R1 S1 r1 h1 => ?_
    split at h1
    · rename_i hz
      exact ⟨by rw [← r1.length]; exact hz, fun p hp => gW.push R1 h1 hp r1 hz⟩
    · exact h1.elim
theorem n_dnew : PE X (.Dict [] [] pos) (tD A X B b W fun _ m => some (.ok (.ref m.length), m ++ [.dct [] []])) :=
  pe_imp L2.pe_dnewT fun σ H Q g => by
    obtain ⟨io, s, m, R, S, g⟩ := g
    exact fun p hp => gW.pushD (kvs := []) R g hp rfl .nil (Nat.zero_le _)
/-! ### operators -/
theorem n_bin {o : Op} {o' : Operator} (ho : opB o o' = true) (ha : PE X e (tD A X B b W f)) (hb : PE X e2 (tD A X B b W g)) :
    PE X (.BinOp e o' e2 pos) (tD A X B b W fun s m => bnd (f s m) fun x m1 => bnd (g s m1) fun y m2 => giv (opBin m2 o x y) m2) :=
  pe_imp (L2.pe_op (op_bin (A := A) (B := B) (b := b) ho) ha hb) fun σ H Q q => by
    obtain ⟨io, s, m, R, S, q⟩ := q
    refine tG.step (RR := RD A X.K) R S q fun io1 H1 m1 d v x1 R1 S1 r1 h1 => tG.step (RR := RD A X.K) R1 S1 h1 fun io2 H2 m2 d2 v2 x2 R2 S2 r2 h2 => ?_
    obtain ⟨r, e, q⟩ := h2.giv
    exact ⟨io2, m2, d, d2, r, R2, r1.mono x2 x2.len, r2, e, q⟩
theorem n_cat (ha : PE X e (tD A X B b W f)) (hb : PE X e2 (tD A X B b W g)) :
    PE X (.BinOp e .Add e2 pos) (tD A X B b W fun s m => bnd (f s m) fun x m1 => bnd (g s m1) fun y m2 => match lstM m2 x, lstM m2 y with
      | some p, some q => if p.length + q.length ≤ sizeLine then some (.ok (.ref m2.length), m2 ++ [.lst (p ++ q)]) else none
      | _, _ => none) :=
  pe_imp (L2.pe_op L2.op_cat ha hb) fun σ H Q q => by
    obtain ⟨io, s, m, R, S, q⟩ := q
    refine tG.step (RR := RD A X.K) R S q fun io1 H1 m1 d v x1 R1 S1 r1 h1 => tG.step (RR := RD A X.K) R1 S1 h1 fun io2 H2 m2 d2 v2 x2 R2 S2 r2 h2 => ?_
    split at h2
    · rename_i p1 p2 e1 e2
      split at h2
      · rename_i hz
        obtain ⟨a1, vs, rfl, g1, g2, g3⟩ := (r1.mono x2 x2.len).lstEx R2 e1
        obtain ⟨a2, ws, rfl, k1, k2, k3⟩ := r2.lstEx R2 e2
        exact ⟨a1, a2, vs, ws, rfl, rfl, g1, k1, by rw [← g2.length, ← k2.length]; exact hz, fun p hp => gW.push R2 h2 hp (g2.append k2) (by rw [List.length_append]; exact hz)⟩
      · exact h2.elim
    · exact h2.elim
theorem tst_giv (o : Option Bool) (m : M) : tst (giv (o.map .bl) m) = giv o m := by cases o <;> rfl
theorem tst_bnd {α : Type} (r : Option (Rs α × M)) (k : α → M → Option (Rs D × M)) : tst (bnd r k) = bnd r fun a m => tst (k a m) := by
  cases r with
  | none => rfl
  | some p =>
    obtain ⟨x, m⟩ := p
    cases x <;> rfl
theorem n_cmp {o : Cm} {o' : CmpOp} (hu : X.A.units + 65 < cLine) (ho : cmB o o' = true) (hp : plE e2 = true) (ha : PE X e (tD A X B b W f)) (hb : PE X e2 (tD A X B b W g)) :
    PE X (.Compare e [o'] [e2] pos) (tD A X B b W fun s m => bnd (f s m) fun x m1 => bnd (g s m1) fun y m2 => giv ((opCmp m2 o x y).map .bl) m2) :=
  pe_imp (L2.pe_cmpR (op_cm (A := A) (B := B) (b := b) hu ho) ha hb (pl_behind hp _)) fun σ H Q q => by
    obtain ⟨io, s, m, R, S, q⟩ := q
    refine tG.step (RR := RD A X.K) R S q fun io1 H1 m1 d v x1 R1 S1 r1 h1 => tG.step (RR := RD A X.K) R1 S1 h1 fun io2 H2 m2 d2 v2 x2 R2 S2 r2 h2 => ?_
    obtain ⟨r, e, q⟩ := h2.giv
    cases hk : opCmp m2 o d d2 with
    | none => rw [hk] at e; cases e
    | some k =>
      rw [hk] at e
      cases e
      exact ⟨io2, m2, d, d2, k, R2, r1.mono x2 x2.len, r2, hk, Aft.flat R2 q (.bl k)⟩
theorem n_cmpT {o : Cm} {o' : CmpOp} (hu : X.A.units + 65 < cLine) (ho : cmB o o' = true) (hp : plE e2 = true) (ha : PE X e (tD A X B b W f)) (hb : PE X e2 (tD A X B b W g)) :
    PT X (.Compare e [o'] [e2] pos) (tT A X B b W fun s m => tst (bnd (f s m) fun x m1 => bnd (g s m1) fun y m2 => giv ((opCmp m2 o x y).map .bl) m2)) :=
  pt_imp (L2.pt_cmpR (op_cm (A := A) (B := B) (b := b) hu ho) ha hb (pl_behind hp _)) fun σ H Q q => by
    obtain ⟨io, s, m, R, S, q⟩ := q
    simp only [tst_bnd, tst_giv] at q
    refine tG.step (RR := RD A X.K) R S q fun io1 H1 m1 d v x1 R1 S1 r1 h1 => tG.step (RR := RD A X.K) R1 S1 h1 fun io2 H2 m2 d2 v2 x2 R2 S2 r2 h2 => ?_
    obtain ⟨k, e, q⟩ := h2.giv
    exact ⟨io2, m2, d, d2, k, R2, r1.mono x2 x2.len, r2, e, k, rfl, q io2 H2 k (Ext.refl _ _) R2 rfl⟩
theorem n_chn {o p : Cm} {o' p' : CmpOp} (hu : X.A.units + 65 < cLine) (ho : cmB o o' = true) (ho2 : cmB p p' = true) (hp : plE e3 = true) (ha : PE X e (tD A X B b W f)) (hb : PE X e2 (tD A X B b W g)) (hc : PE X e3 (tD A X B b W h)) :
    PE X (.Compare e [o', p'] [e2, e3] pos) (tD A X B b W fun s m => bnd (f s m) fun x m1 => bnd (g s m1) fun y m2 => match opCmp m2 o x y with
      | some true => bnd (h s m2) fun z m3 => giv ((opCmp m3 p y z).map .bl) m3
      | some false => some (.ok (.bl false), m2)
      | none => none) :=
  pe_imp (L2.pe_chain (op_cm (A := A) (B := B) (b := b) hu ho) (op_cm (A := A) (B := B) (b := b) hu ho2) ha hb hc (pl_last hp _ _)) fun σ H Q q => by
    obtain ⟨io, s, m, R, S, q⟩ := q
    refine tG.step (RR := RD A X.K) R S q fun io1 H1 m1 d v x1 R1 S1 r1 h1 => tG.step (RR := RD A X.K) R1 S1 h1 fun io2 H2 m2 d2 v2 x2 R2 S2 r2 h2 => ?_
    split at h2
    · rename_i e
      refine ⟨io2, m2, d, d2, true, R2, r1.mono x2 x2.len, r2, e, true, rfl, ?_⟩
      rw [if_pos rfl]
      refine tG.step (RR := RD A X.K) R2 S2 h2 fun io3 H3 m3 d3 v3 x3 R3 S3 r3 h3 => ?_
      obtain ⟨r, e, q⟩ := h3.giv
      cases hk : opCmp m3 p d2 d3 with
      | none => rw [hk] at e; cases e
      | some k =>
        rw [hk] at e
        cases e
        exact ⟨io3, m3, d2, d3, k, R3, r2.mono x3 x3.len, r3, hk, Aft.flat R3 q (.bl k)⟩
    · rename_i e
      refine ⟨io2, m2, d, d2, false, R2, r1.mono x2 x2.len, r2, e, false, rfl, ?_⟩
      rw [if_neg (by decide)]
      exact h2.fin R2 (.bl false)
    · exact h2.elim
theorem n_chnT {o p : Cm} {o' p' : CmpOp} (hu : X.A.units + 65 < cLine) (ho : cmB o o' = true) (ho2 : cmB p p' = true) (hp : plE e3 = true) (ha : PE X e (tD A X B b W f)) (hb : PE X e2 (tD A X B b W g)) (hc : PE X e3 (tD A X B b W h)) :
    PT X (.Compare e [o', p'] [e2, e3] pos) (tT A X B b W fun s m => tst (bnd (f s m) fun x m1 => bnd (g s m1) fun y m2 => match opCmp m2 o x y with
      | some true => bnd (h s m2) fun z m3 => giv ((opCmp m3 p y z).map .bl) m3
      | some false => some (.ok (.bl false), m2)
      | none => none)) :=
  pt_imp (L2.pt_chain (op_cm (A := A) (B := B) (b := b) hu ho) (op_cm (A := A) (B := B) (b := b) hu ho2) ha hb hc (pl_last hp _ _)) fun σ H Q q => by
    obtain ⟨io, s, m, R, S, q⟩ := q
    simp only [tst_bnd] at q
    refine tG.step (RR := RD A X.K) R S q fun io1 H1 m1 d v x1 R1 S1 r1 h1 => tG.step (RR := RD A X.K) R1 S1 h1 fun io2 H2 m2 d2 v2 x2 R2 S2 r2 h2 => ?_
    split at h2
    · rename_i e
      refine ⟨io2, m2, d, d2, true, R2, r1.mono x2 x2.len, r2, e, true, rfl, ?_⟩
      rw [if_pos rfl]
      simp only [tst_bnd, tst_giv] at h2
      refine tG.step (RR := RD A X.K) R2 S2 h2 fun io3 H3 m3 d3 v3 x3 R3 S3 r3 h3 => ?_
      obtain ⟨k, e, q⟩ := h3.giv
      exact ⟨io3, m3, d2, d3, k, R3, r2.mono x3 x3.len, r3, e, k, rfl, q io3 H3 k (Ext.refl _ _) R3 rfl⟩
    · rename_i e
      refine ⟨io2, m2, d, d2, false, R2, r1.mono x2 x2.len, r2, e, false, rfl, ?_⟩
      rw [if_neg (by decide)]
      exact ⟨false, rfl, h2.fin R2 rfl⟩
    · exact h2.elim
/-- the fixed right side of «is» -/
theorem is_core {yes : Bool} {op : CmpOp} {d0 : D} {c : V} (ho : OpR X (compareOp op) (rIs A X.K B b yes d0)) (hc : PE X e2 (L2.tC c)) (rc : ∀ io n H, Rep A X.K io n H d0 c) (hp : plE e2 = true) (ha : PE X e (tD A X B b W f)) :
    PE X (.Compare e [op] [e2] pos) (tD A X B b W fun s m => bnd (f s m) fun x m1 => giv ((isD d0 x).map fun b => .bl (b == yes)) m1) ∧
    PT X (.Compare e [op] [e2] pos) (tT A X B b W fun s m => tst (bnd (f s m) fun x m1 => giv ((isD d0 x).map fun b => .bl (b == yes)) m1)) := by
  constructor
  · refine pe_imp (L2.pe_cmpR ho ha hc (pl_behind hp _)) fun σ H Q q => ?_
    obtain ⟨io, s, m, R, S, q⟩ := q
    refine tG.step (RR := RD A X.K) R S q fun io1 H1 m1 d v x1 R1 S1 r1 h1 => ?_
    obtain ⟨r, e, q⟩ := h1.giv
    cases hk : isD d0 d with
    | none => rw [hk] at e; cases e
    | some k =>
      rw [hk] at e
      cases e
      exact ⟨io1, m1, d, k, R1, r1, rc _ _ _, hk, Aft.flat R1 q (.bl _)⟩
  · refine pt_imp (L2.pt_cmpR ho ha hc (pl_behind hp _)) fun σ H Q q => ?_
    obtain ⟨io, s, m, R, S, q⟩ := q
    simp only [tst_bnd] at q
    refine tG.step (RR := RD A X.K) R S q fun io1 H1 m1 d v x1 R1 S1 r1 h1 => ?_
    cases hk : isD d0 d with
    | none => rw [hk] at h1; exact h1.elim
    | some k =>
      rw [hk] at h1
      exact ⟨io1, m1, d, k, R1, r1, rc _ _ _, hk, (k == yes), rfl, h1.fin R1 rfl⟩
theorem n_not (ha : PE X e (tD A X B b W f)) : PE X (.UnaryOp .Not e pos) (tD A X B b W fun s m => bnd (f s m) fun x m1 => match x with
    | .bl b => some (.ok (.bl (!b)), m1)
    | _ => none) := pe_imp (L2.pe_not ha) fun σ H Q q => by
  obtain ⟨io, s, m, R, S, q⟩ := q
  refine tG.step (RR := RD A X.K) R S q fun io1 H1 m1 d v x1 R1 S1 r1 h1 => ?_
  cases d with
  | bl k =>
    cases r1
    exact ⟨k, rfl, h1.fin R1 (.bl _)⟩
  | _ => exact h1.elim
theorem n_notT (ha : PT X e (tT A X B b W fun s m => tst (f s m))) : PT X (.UnaryOp .Not e pos) (tT A X B b W fun s m => tst (bnd (f s m) fun x m1 => match x with
    | .bl b => some (.ok (.bl (!b)), m1)
    | _ => none)) := pt_imp (L2.pt_not ha) fun σ H Q q => by
  obtain ⟨io, s, m, R, S, q⟩ := q
  have e : (tst (bnd (f s m) fun x m1 => match x with | .bl b => some (.ok (.bl (!b)), m1) | _ => none)) = bnd (tst (f s m)) fun k m1 => some (.ok (!k), m1) := by
    unfold tst
    cases f s m with
    | none => rfl
    | some p =>
      obtain ⟨x, m⟩ := p
      cases x with
      | ex c => rfl
      | ok d => cases d <;> rfl
  replace q := gW.cast e q
  refine tG.step (RR := RId) R S q fun io1 H1 m1 d v x1 R1 S1 r1 h1 => ?_
  cases r1
  exact h1.fin R1 rfl
theorem n_ife (ht : PT X e (tT A X B b W fun s m => tst (f s m))) (ha : PE X e2 (tD A X B b W g)) (hb : PE X e3 (tD A X B b W h)) : PE X (.IfExp e e2 e3 pos) (tD A X B b W fun s m => bnd (f s m) fun x m1 => match x with
    | .bl true => g s m1
    | .bl false => h s m1
    | _ => none) := pe_imp (L2.pe_ifExp ht ha hb) fun σ H Q q => by
  obtain ⟨io, s, m, R, S, q⟩ := q
  replace q := gW.cast (bnd_tst _ _ _) q
  refine tG.step (RR := RId) R S q fun io1 H1 m1 d v x1 R1 S1 r1 h1 => ?_
  cases r1
  split
  · rename_i hd
    rw [if_pos hd] at h1
    exact ⟨io1, s, m1, R1, S1, h1⟩
  · rename_i hd
    rw [if_neg hd] at h1
    exact ⟨io1, s, m1, R1, S1, h1⟩
end
end Bo

set_option Elab.async false
set_option linter.all false
set_option maxRecDepth 100000
/-! B7: more nodes: and, or, places, calls of built-ins, methods. -/
namespace Bo
open PySem PySem.Spec PyProof.Rows
open L2 (V HO Hp Rd SqL SqT Vals upd Cx PE PT PA PO PI PW OpR UnR CallR SlR IxR VK XK TE TT TA TO TI Inv RelV EP Room Sp FnOk Gl Vis Binds WX Takes tOp tCons tNil)
section
variable {A : Ad} {B : Nat → Nat} {b : Nat} {X : Cx} {W : Wi} {io : List Addr} {H : Hp} {σ : L2.St}
variable {f g h : Sg → M → Option (Rs D × M)} {fs : Sg → M → Option (Rs (List D) × M)} {e e2 e3 : Expr} {es : List Expr} {pos : Pos}
/-! ### and, or -/
theorem n_and1 (ha : PE X e (tD A X B b W f)) : PE X (.BoolOp .And [e] pos) (tD A X B b W fun s m => bnd (f s m) fun x m1 => match x with
    | .bl true => some (.ok (.bl true), m1)
    | .bl false => some (.ok (.bl false), m1)
    | _ => none) := pe_imp (L2.pe_one ha) fun σ H Q q => by
  obtain ⟨io, s, m, R, S, q⟩ := q
  refine tG.step (RR := RD A X.K) R S q fun io1 H1 m1 d v x1 R1 S1 r1 h1 => ?_
  cases d with
  | bl k =>
    cases r1
    cases k <;> exact h1.fin R1 (.bl _)
  | _ => exact h1.elim
theorem n_or1 (ha : PE X e (tD A X B b W f)) : PE X (.BoolOp .Or [e] pos) (tD A X B b W fun s m => bnd (f s m) fun x m1 => match x with
    | .bl false => some (.ok (.bl false), m1)
    | .bl true => some (.ok (.bl true), m1)
    | _ => none) := pe_imp (L2.pe_one ha) fun σ H Q q => by
  obtain ⟨io, s, m, R, S, q⟩ := q
  refine tG.step (RR := RD A X.K) R S q fun io1 H1 m1 d v x1 R1 S1 r1 h1 => ?_
  cases d with
  | bl k =>
    cases r1
    cases k <;> exact h1.fin R1 (.bl _)
  | _ => exact h1.elim
theorem n_andc (ha : PE X e (tD A X B b W f)) (hb : PE X (.BoolOp .And (e2 :: es) pos) (tD A X B b W g)) : PE X (.BoolOp .And (e :: e2 :: es) pos) (tD A X B b W fun s m => bnd (f s m) fun x m1 => match x with
    | .bl true => g s m1
    | .bl false => some (.ok (.bl false), m1)
    | _ => none) := pe_imp (L2.pe_and ha hb) fun σ H Q q => by
  obtain ⟨io, s, m, R, S, q⟩ := q
  refine tG.step (RR := RD A X.K) R S q fun io1 H1 m1 d v x1 R1 S1 r1 h1 => ?_
  cases d with
  | bl k =>
    cases r1
    cases k with
    | true =>
      refine ⟨true, rfl, ?_⟩
      rw [if_pos rfl]
      exact ⟨io1, s, m1, R1, S1, h1⟩
    | false =>
      refine ⟨false, rfl, ?_⟩
      rw [if_neg (by decide)]
      exact h1.fin R1 (.bl _)
  | _ => exact h1.elim
theorem n_orc (ha : PE X e (tD A X B b W f)) (hb : PE X (.BoolOp .Or (e2 :: es) pos) (tD A X B b W g)) : PE X (.BoolOp .Or (e :: e2 :: es) pos) (tD A X B b W fun s m => bnd (f s m) fun x m1 => match x with
    | .bl false => g s m1
    | .bl true => some (.ok (.bl true), m1)
    | _ => none) := pe_imp (L2.pe_or ha hb) fun σ H Q q => by
  obtain ⟨io, s, m, R, S, q⟩ := q
  refine tG.step (RR := RD A X.K) R S q fun io1 H1 m1 d v x1 R1 S1 r1 h1 => ?_
  cases d with
  | bl k =>
    cases r1
    cases k with
    | true =>
      refine ⟨true, rfl, ?_⟩
      rw [if_pos rfl]
      exact h1.fin R1 (.bl _)
    | false =>
      refine ⟨false, rfl, ?_⟩
      rw [if_neg (by decide)]
      exact ⟨io1, s, m1, R1, S1, h1⟩
  | _ => exact h1.elim
theorem tst_ok (k : Bool) (m : M) : tst (some (.ok (.bl k), m)) = some (.ok k, m) := rfl
theorem n_and1T (ha : PT X e (tT A X B b W fun s m => tst (f s m))) : PW X (.BoolOp .And [e] pos) (tT A X B b W fun s m => tst (bnd (f s m) fun x m1 => match x with
    | .bl true => some (.ok (.bl true), m1)
    | .bl false => some (.ok (.bl false), m1)
    | _ => none)) := pw_imp (L2.pw_and1 ha) fun σ H Q q => by
  obtain ⟨io, s, m, R, S, q⟩ := q
  simp only [tst_bnd] at q
  refine ⟨io, s, m, R, S, gW.cast ?_ q⟩
  show _ = tst (f s m)
  cases f s m with
  | none => rfl
  | some p =>
    obtain ⟨x, m⟩ := p
    cases x with
    | ex c => rfl
    | ok d =>
      cases d with
      | bl k => cases k <;> rfl
      | _ => rfl
theorem n_or1T (ha : PT X e (tT A X B b W fun s m => tst (f s m))) : PW X (.BoolOp .Or [e] pos) (tT A X B b W fun s m => tst (bnd (f s m) fun x m1 => match x with
    | .bl false => some (.ok (.bl false), m1)
    | .bl true => some (.ok (.bl true), m1)
    | _ => none)) := pw_imp (L2.pw_or1 ha) fun σ H Q q => by
  obtain ⟨io, s, m, R, S, q⟩ := q
  simp only [tst_bnd] at q
  refine ⟨io, s, m, R, S, gW.cast ?_ q⟩
  show _ = tst (f s m)
  cases f s m with
  | none => rfl
  | some p =>
    obtain ⟨x, m⟩ := p
    cases x with
    | ex c => rfl
    | ok d =>
      cases d with
      | bl k => cases k <;> rfl
      | _ => rfl
theorem tst_and (r : Option (Rs D × M)) (k : M → Option (Rs D × M)) : tst (bnd r fun x m1 => match x with | .bl true => k m1 | .bl false => some (.ok (.bl false), m1) | _ => none) = bnd (tst r) fun c m1 => if c = true then tst (k m1) else some (.ok false, m1) := by
  cases r with
  | none => rfl
  | some p =>
    obtain ⟨x, m⟩ := p
    cases x with
    | ex c => rfl
    | ok d =>
      cases d with
      | bl k => cases k <;> rfl
      | _ => rfl
theorem tst_or (r : Option (Rs D × M)) (k : M → Option (Rs D × M)) : tst (bnd r fun x m1 => match x with | .bl false => k m1 | .bl true => some (.ok (.bl true), m1) | _ => none) = bnd (tst r) fun c m1 => if c = true then some (.ok true, m1) else tst (k m1) := by
  cases r with
  | none => rfl
  | some p =>
    obtain ⟨x, m⟩ := p
    cases x with
    | ex c => rfl
    | ok d =>
      cases d with
      | bl k => cases k <;> rfl
      | _ => rfl
theorem n_andcT (ha : PT X e (tT A X B b W fun s m => tst (f s m))) (hb : PW X (.BoolOp .And (e2 :: es) pos) (tT A X B b W fun s m => tst (g s m))) : PW X (.BoolOp .And (e :: e2 :: es) pos) (tT A X B b W fun s m => tst (bnd (f s m) fun x m1 => match x with
    | .bl true => g s m1
    | .bl false => some (.ok (.bl false), m1)
    | _ => none)) := pw_imp (L2.pw_and ha hb) fun σ H Q q => by
  obtain ⟨io, s, m, R, S, q⟩ := q
  replace q := gW.cast (tst_and _ _) q
  refine tG.step (RR := RId) R S q fun io1 H1 m1 d v x1 R1 S1 r1 h1 => ?_
  cases r1
  split
  · rename_i hd
    rw [if_pos hd] at h1
    exact ⟨io1, s, m1, R1, S1, h1⟩
  · rename_i hd
    rw [if_neg hd] at h1
    exact h1.fin R1 rfl
theorem n_orcT (ha : PT X e (tT A X B b W fun s m => tst (f s m))) (hb : PW X (.BoolOp .Or (e2 :: es) pos) (tT A X B b W fun s m => tst (g s m))) : PW X (.BoolOp .Or (e :: e2 :: es) pos) (tT A X B b W fun s m => tst (bnd (f s m) fun x m1 => match x with
    | .bl false => g s m1
    | .bl true => some (.ok (.bl true), m1)
    | _ => none)) := pw_imp (L2.pw_or ha hb) fun σ H Q q => by
  obtain ⟨io, s, m, R, S, q⟩ := q
  replace q := gW.cast (tst_or _ _) q
  refine tG.step (RR := RId) R S q fun io1 H1 m1 d v x1 R1 S1 r1 h1 => ?_
  cases r1
  split
  · rename_i hd
    rw [if_pos hd] at h1
    exact h1.fin R1 rfl
  · rename_i hd
    rw [if_neg hd] at h1
    exact ⟨io1, s, m1, R1, S1, h1⟩
theorem pt_pw {t : TT} (h : PW X e t) : PT X e t := ⟨fun pins s σ H Q I q => h.run _ pins s σ H Q I q⟩
/-! ### places -/
theorem n_ix (hu : X.A.units + 1 < cLine) (hp : plE e2 = true) (ha : PE X e (tD A X B b W f)) (hb : PE X e2 (tD A X B b W g)) : PE X (.Subscript e e2 pos) (tD A X B b W fun s m => bnd (f s m) fun x m1 => bnd (g s m1) fun y m2 => giv (ixD m2 x y) m2) :=
  pe_imp (L2.pe_ix (ix_r (A := A) (B := B) (b := b) hu) ha hb (pl_ix hp)) fun σ H Q q => by
    obtain ⟨io, s, m, R, S, q⟩ := q
    refine tG.step (RR := RD A X.K) R S q fun io1 H1 m1 d v x1 R1 S1 r1 h1 => tG.step (RR := RD A X.K) R1 S1 h1 fun io2 H2 m2 d2 v2 x2 R2 S2 r2 h2 => ?_
    obtain ⟨r, e, q⟩ := h2.giv
    exact ⟨io2, m2, d, d2, r, R2, r1.mono x2 x2.len, r2, e, q⟩
abbrev tO (A : Ad) (X : Cx) (B : Nat → Nat) (b : Nat) (W : Wi) (f : Sg → M → Option (Rs (Option Int) × M)) : TO := tG A X.K B b RId W f
theorem n_o0 : PO X none (tO A X B b W fun _ m => some (.ok none, m)) := po_imp L2.po_none fun σ H Q q => by
  obtain ⟨io, s, m, R, S, q⟩ := q
  exact q.fin R rfl
theorem n_o1 (ha : PE X e (tD A X B b W f)) : PO X (some e) (tO A X B b W fun s m => bnd (f s m) fun x m1 => match x with
    | .int i => some (.ok (some i), m1)
    | _ => none) := po_imp (L2.po_some ha) fun σ H Q q => by
  obtain ⟨io, s, m, R, S, q⟩ := q
  refine tG.step (RR := RD A X.K) R S q fun io1 H1 m1 d v x1 R1 S1 r1 h1 => ?_
  cases d with
  | int k =>
    cases r1
    exact ⟨k, rfl, h1.fin R1 rfl⟩
  | _ => exact h1.elim
theorem n_sl {lo hi : Option Expr} {fl fh : Sg → M → Option (Rs (Option Int) × M)} {p2 : Pos} (ha : PE X e (tD A X B b W f)) (hl : PO X lo (tO A X B b W fl)) (hh : PO X hi (tO A X B b W fh)) :
    PE X (.Subscript e (.Slice lo hi none p2) pos) (tD A X B b W fun s m => bnd (f s m) fun x m1 => bnd (fl s m1) fun l m2 => bnd (fh s m2) fun h m3 => giv (slD m3 x l h) m3) :=
  pe_imp (L2.pe_slice (sl_r (A := A) (B := B) (b := b)) ha hl hh) fun σ H Q q => by
    obtain ⟨io, s, m, R, S, q⟩ := q
    refine tG.step (RR := RD A X.K) R S q fun io1 H1 m1 d v x1 R1 S1 r1 h1 => tG.step (RR := RId) R1 S1 h1 fun io2 H2 m2 d2 v2 x2 R2 S2 r2 h2 => tG.step (RR := RId) R2 S2 h2 fun io3 H3 m3 d3 v3 x3 R3 S3 r3 h3 => ?_
    cases r2; cases r3
    obtain ⟨r, e, q⟩ := h3.giv
    exact ⟨io3, m3, d, r, R3, (r1.mono x2 x2.len).mono x3 x3.len, e, q⟩
/-! ### built-in functions -/
theorem n_biB {F : M → List D → Option D} {id : String} {x : Str} {p : Pos} (hc : CallR X (.builtin id) (rBi A X.K B b F)) (hg : glB X.env.scope x = true) (hm : X.mg x = none) (hv : bootBuiltins x = some (.builtin id)) (ha : PA X (e :: es) (tDs A X B b W fs)) (hp : (e :: es).all plE = true) :
    PE X (.Call (.Name x p) (e :: es) [] pos) (tD A X B b W fun s m => bnd (fs s m) fun ds m1 => giv (F m1 ds) m1) := by
  rw [List.all_cons, Bool.and_eq_true] at hp
  refine pe_imp (L2.pe_callB hc (gl_of hg).1 hm hv ha (gl_of hg).2.2 (gl_of hg).2.1 (pl_star hp.1 _ _) (pl_any hp.2)) fun σ H Q q => ?_
  obtain ⟨io, s, m, R, S, q⟩ := q
  refine tG.step (RR := RDs A X.K) R S q fun io1 H1 m1 d v x1 R1 S1 r1 h1 => ?_
  obtain ⟨r, e, q⟩ := h1.giv
  exact ⟨io1, m1, d, r, R1, r1, e, q⟩
theorem n_biT {F : M → List D → Option D} {T : String} {x : Str} {p : Pos} (hc : CallR X (.type T) (rBi A X.K B b F)) (hg : glB X.env.scope x = true) (hm : X.mg x = none) (hv : bootBuiltins x = some (.type T)) (ha : PA X (e :: es) (tDs A X B b W fs)) (hp : (e :: es).all plE = true) :
    PE X (.Call (.Name x p) (e :: es) [] pos) (tD A X B b W fun s m => bnd (fs s m) fun ds m1 => giv (F m1 ds) m1) := by
  rw [List.all_cons, Bool.and_eq_true] at hp
  refine pe_imp (L2.pe_callTy hc (gl_of hg).1 hm hv ha (gl_of hg).2.2 (gl_of hg).2.1 (pl_star hp.1 _ _) (pl_any hp.2)) fun σ H Q q => ?_
  obtain ⟨io, s, m, R, S, q⟩ := q
  refine tG.step (RR := RDs A X.K) R S q fun io1 H1 m1 d v x1 R1 S1 r1 h1 => ?_
  obtain ⟨r, e, q⟩ := h1.giv
  exact ⟨io1, m1, d, r, R1, r1, e, q⟩
/-- isinstance(a, k) -/
theorem n_isi {k : Ki} {x : Str} {p : Pos} {c : V} {u : Value} (hk : ClsOk A X.K) (hg : glB X.env.scope x = true) (hm : X.mg x = none) (hv : bootBuiltins x = some (.builtin "isinstance")) (cv : L2.ClsV c u) (hu : clsOf A k = some u) (hc : PE X e2 (L2.tC c))
    (hp : plE e = true) (hp2 : plE e2 = true) (ha : PE X e (tD A X B b W f)) : PE X (.Call (.Name x p) [e, e2] [] pos) (tD A X B b W fun s m => bnd (f s m) fun x m1 => giv ((isK m1 k x).map .bl) m1) := by
  refine pe_imp (L2.pe_callB (cr_isi (A := A) (B := B) (b := b) hk k) (gl_of hg).1 hm hv (L2.pa_cons ha (L2.pa_cons hc L2.pa_nil (pl_star hp2 _ _)) (pl_star hp _ _)) (gl_of hg).2.2 (gl_of hg).2.1 (pl_star hp _ _) (pl_any (by simp [hp2]))) fun σ H Q q => ?_
  obtain ⟨io, s, m, R, S, q⟩ := q
  refine tG.step (RR := RD A X.K) R S q fun io1 H1 m1 d v x1 R1 S1 r1 h1 => ?_
  obtain ⟨r, e, q⟩ := h1.giv
  cases hi : isK m1 k d with
  | none => rw [hi] at e; cases e
  | some r' =>
    rw [hi] at e
    cases e
    exact ⟨io1, m1, d, v, c, u, r', rfl, cv, hu, R1, r1, hi, Aft.flat R1 q (.bl _)⟩
/-! ### methods -/
theorem tyL {m : M} {d : D} {v : V} (R : Rel A X.K B b io H m) (r : Rep A X.K io io.length H d v) (h : (lstM m d).isSome = true) : L2.tyV X.K "list" v H := by
  cases hd : lstM m d with
  | none => rw [hd] at h; cases h
  | some ds =>
    obtain ⟨a, vs, rfl, e, _⟩ := r.lstEx R hd
    exact .inl ⟨rfl, vs, .inl (.inl e)⟩
/-- a list's method of one argument -/
theorem n_m1 {F : M → D → List D → Option (D × M)} {id : String} {name : Str} {apos : Pos} (slot : Slot "list" name id) (hty : typeOf (.builtin id) = pure (.type "method_descriptor")) (hm : L2.MtR X id (rMt A X.K B b F)) (hb : baseB e = true) (hl : (apos.endLine == pos.line) = true)
    (ha : PE X e (tD A X B b W f)) (hx : PE X e2 (tD A X B b W g)) (hp : plE e2 = true) : PE X (.Call (.Attribute e name apos) [e2] [] pos) (tD A X B b W fun s m => bnd (f s m) fun o m1 => if (lstM m1 o).isSome then bnd (g s m1) fun d m2 => (match F m2 o [d] with
      | some (r, m3) => some (.ok r, m3)
      | none => none) else none) := by
  refine pe_imp (L2.pe_bm PySem.F.plainAttrs_list slot hty hm ha (L2.pa_cons hx L2.pa_nil (pl_star hp _ _)) (base_ok hb _ _) ?_ hl (pl_star hp _ _) rfl) fun σ H Q q => ?_
  · rw [pl_all (by simp [hp])]
    rfl
  · obtain ⟨io, s, m, R, S, q⟩ := q
    refine tG.step (RR := RD A X.K) R S q fun io1 H1 m1 d v x1 R1 S1 r1 h1 => ?_
    split at h1
    · rename_i hl
      refine ⟨tyL R1 r1 hl, ?_⟩
      refine tG.step (RR := RD A X.K) R1 S1 h1 fun io2 H2 m2 d2 v2 x2 R2 S2 r2 h2 => ?_
      split at h2
      · rename_i r m3 hF
        exact ⟨io2, m2, d, [d2], r, m3, R2, r1.mono x2 x2.len, .cons r2 .nil, hF, h2⟩
      · exact h2.elim
    · exact h1.elim
/-- one of none -/
theorem n_m0 {F : M → D → List D → Option (D × M)} {id : String} {name : Str} {apos : Pos} (slot : Slot "list" name id) (hty : typeOf (.builtin id) = pure (.type "method_descriptor")) (hm : L2.MtR X id (rMt A X.K B b F)) (hb : baseB e = true) (hl : (apos.endLine == pos.line) = true)
    (hF : ∀ m o xs r, F m o xs = some r → (lstM m o).isSome = true)
    (ha : PE X e (tD A X B b W f)) : PE X (.Call (.Attribute e name apos) [] [] pos) (tD A X B b W fun s m => bnd (f s m) fun o m1 => match F m1 o [] with
      | some (r, m3) => some (.ok r, m3)
      | none => none) := by
  refine pe_imp (L2.pe_bm0 PySem.F.plainAttrs_list slot hty hm ha (base_ok hb _ _) hl) fun σ H Q q => ?_
  obtain ⟨io, s, m, R, S, q⟩ := q
  refine tG.step (RR := RD A X.K) R S q fun io1 H1 m1 d v x1 R1 S1 r1 h1 => ?_
  split at h1
  · rename_i r m3 hf
    exact ⟨tyL R1 r1 (hF _ _ _ _ hf), io1, m1, d, [], r, m3, R1, r1, .nil, hf, h1⟩
  · exact h1.elim
/-- a text's method of one argument -/
theorem n_s1 {F : M → D → List D → Option (D × M)} {id : String} {name : Str} {apos : Pos} (slot : Slot "str" name id) (hty : typeOf (.builtin id) = pure (.type "method_descriptor")) (hm : L2.MtR X id (rMt A X.K B b F)) (hb : baseB e = true) (hl : (apos.endLine == pos.line) = true)
    (ha : PE X e (tD A X B b W f)) (hx : PE X e2 (tD A X B b W g)) (hp : plE e2 = true) : PE X (.Call (.Attribute e name apos) [e2] [] pos) (tD A X B b W fun s m => bnd (f s m) fun o m1 => if isStr o then bnd (g s m1) fun d m2 => (match F m2 o [d] with
      | some (r, m3) => some (.ok r, m3)
      | none => none) else none) := by
  refine pe_imp (L2.pe_m1 slot hty hm ha hx (pl_star hp _ _) (base_ok hb _ _) hl) fun σ H Q q => ?_
  obtain ⟨io, s, m, R, S, q⟩ := q
  refine tG.step (RR := RD A X.K) R S q fun io1 H1 m1 d v x1 R1 S1 r1 h1 => ?_
  split at h1
  · rename_i hs
    cases d with
    | str z =>
      cases r1
      refine ⟨⟨z, rfl⟩, ?_⟩
      refine tG.step (RR := RD A X.K) R1 S1 h1 fun io2 H2 m2 d2 v2 x2 R2 S2 r2 h2 => ?_
      split at h2
      · rename_i r m3 hF
        exact ⟨io2, m2, .str z, [d2], r, m3, R2, .str z, .cons r2 .nil, hF, h2⟩
      · exact h2.elim
    | _ => cases hs
  · exact h1.elim
end
end Bo

set_option Elab.async false
set_option linter.all false
set_option maxRecDepth 100000
/-! BR1: enumerate(t), t a tuple. -/
namespace Bo
open PySem PySem.Spec PyProof.Rows
open L2 (V HO Hp Rd SqL SqT Vals upd Cx PE PT PA PO PI PW OpR UnR CallR SlR IxR VK XK TE TT TA TO TI Inv RelV EP Room Sp FnOk Gl Vis Binds WX Takes tOp tCons tNil It Turn ObjOk)
set_option maxHeartbeats 1000000 in
theorem meets_enum1 {v : Value} {o : Obj} {G : Heap → Prop} (B : Begins v o G) :
    Meets (Builtin.«enumerate.__new__» ⟨[.type "enumerate", v], []⟩) (fun _ R s => G s.heap ∧
      R (.ok (.ret (.ref (s.heap.push o).objs.size))) { s with heap := (s.heap.push o).push { cls := .type "enumerate", data := .fields #[.none, .bool false, .ref s.heap.objs.size, rawInt 0, .none, .none] } }) :=
  .of_wp fun prog w A R s h => by
    obtain ⟨hp, ge, dr, tk, os⟩ := s
    obtain ⟨h1, h2⟩ := h
    have hsub := sub_enumerate
    have start : ∀ {A2 : Around} {E2 : Value → Shared → Prop} {Q2 : Value → Shared → Prop}, Q2 (.ref hp.objs.size) ⟨hp.push o, ge, dr, tk, os⟩ → wpAny (model prog w) A2 (pyIter v) Q2 E2 ⟨hp, ge, dr, tk, os⟩ :=
      fun q => B.iter prog w _ _ ⟨hp, ge, dr, tk, os⟩ _ h1 q
    wp_walk using start
    refine wpAny_stack_any fun st => wpAny_pure ?_
    split
    · rename_i c _ _ _ _ _
      cases (c == Value.type "enumerate") <;> (wp_walk using start) <;> exact ⟨_, rfl, h2⟩
    · wp_walk using start
      exact ⟨_, rfl, h2⟩
section
variable {prog : Program} {w : World} {A : Around} {E : Value → Shared → Prop} {s : Shared}
theorem call_enum1 {v : Value} {o : Obj} {G : Heap → Prop} {Q : Value → Shared → Prop} (B : Begins v o G) (h1 : G s.heap)
    (h : ∀ h', IsEnum h' (s.heap.objs.size + 1) s.heap.objs.size 0 .none → h'.get? s.heap.objs.size = some o →
      (∀ b u, s.heap.get? b = some u → h'.get? b = some u) → Q (.ref (s.heap.objs.size + 1)) { s with heap := h' }) :
    wpAny (model prog w) A (call (.type "enumerate") [v]) Q E s := by
  refine callType_new F.called_enumerate (by decide) (F.typeCall_enumerate_1 _) (F.newCall_enumerate_1 _) (fun obj => F.args_object_init_2 obj _) F.entry_enumerate_new (meets_enum1 B) ⟨h1, ?_⟩
  have hz : (s.heap.push o).objs.size = s.heap.objs.size + 1 := Heap.size_push ..
  show _ ∧ _
  rw [hz]
  have he := Heap.get?_push_size (s.heap.push o) (o := { cls := .type "enumerate", data := .fields #[.none, .bool false, .ref s.heap.objs.size, rawInt 0, .none, .none] }) rfl
  rw [hz] at he
  exact ⟨⟨_, he, rfl⟩, h _ he (Heap.get?_push_of_some _ (Heap.get?_push_size _ B.free)) fun b u x => Heap.get?_push_of_some _ (Heap.get?_push_of_some _ x)⟩
end
/-- the tuple at a, each item in a new pair -/
def IteT (K : PySem.W.Frag) (a : Addr) : It where
  go i H := ∃ (xs : List V) (x : V), SqT K H a xs ∧ xs[i]? = some x
  yld i H v H' := ∃ T x, v = .ref T ∧ H T = none ∧ H' = upd H T (.tup [.int (i : Nat), x]) ∧ ∀ xs, SqT K H a xs → xs[i]? = some x
  stop i H := ∃ xs : List V, SqT K H a xs ∧ xs.length = i
theorem turn_enumT {P : Program} {w : World} {K : PySem.W.Frag} {elts : List Expr} {kk : Nat} {tpos : Pos} (a e it : Addr) (ha : a ≠ it) (hae : e ≠ a) :
    Turn P w K (.Tuple elts kk tpos) (IteT K a) [e, it] e (fun i h => (∃ old, IsEnum h e it ((i : Nat) : Int) old) ∧ h.IsTupleIter it a i ∧ e ≠ it) where
  mem := List.mem_cons_self
  obj := fun i h st b hb => by
    obtain ⟨⟨old, he⟩, ⟨o, ho, hc, hd⟩, _⟩ := st
    rcases List.mem_cons.mp hb with z | hb
    · exact ⟨_, z ▸ he, fun v q => by cases q⟩
    · exact ⟨o, List.mem_singleton.mp hb ▸ ho, fun v q => by rw [hd] at q; cases q⟩
  keep := fun i h h' st k => by
    obtain ⟨⟨old, he⟩, hi, hne⟩ := st
    exact ⟨⟨old, k e List.mem_cons_self _ he⟩, hi.at fun o q => k it (by simp) o q, hne⟩
  item := by
    intro X hP hw hK hc i pins s σ H E I hf st hg
    subst hP hw hK
    obtain ⟨⟨old, he⟩, hit, hne⟩ := st
    obtain ⟨xs, x, hq, hx⟩ := hg
    obtain ⟨its, rv, p, hz⟩ := I.tuple hq
    obtain ⟨u, hu, ru⟩ := rv.get hx
    have hel : e < s.heap.objs.size := Heap.lt_size he
    have hil : it < s.heap.objs.size := by obtain ⟨_, q, _⟩ := hit; exact Heap.lt_size q
    have hi : i < its.toArray.size := by
      have := (List.getElem?_eq_some_iff.mp hu).1
      simpa using this
    have dr := Draws.tuple (prog := X.prog) (w := X.w) (A := X.A.in1) (I.ok.hd hc) it a ha its.toArray
    refine wpAny_pyNext_enum_itemC dr he ⟨hit, show s.heap.IsTuple a its.toArray from p⟩ hi hne (by simp [hne, hae]) fun v h' tk hP ho hit' hT hsz hk => ?_
    have ev : v = u := by
      have e1 : its.toArray[i]? = some v := hP
      rw [List.getElem?_toArray, hu] at e1
      exact (Option.some.inj e1).symm
    subst ev
    refine ⟨_, rfl, wpAny_letOwnedTupleGo_enum (s := { s with heap := h', toks := tk + 1 }) ho fun h2 he2 sb => ?_⟩
    have hT2 : h2.get? s.heap.objs.size = some { cls := .type "tuple", data := .seq #[.int i tk, v] } := (sb.2 _ (Nat.ne_of_gt hel)).trans hT
    have new : ObjOk X.prog X.w (upd H s.heap.objs.size (.tup [.int (i : Nat), x])) h2 s.heap.objs.size (.tup [.int (i : Nat), x]) :=
      ⟨by show 2 ≤ sizeLine; decide, [.int i tk, v], .cons ⟨_, rfl⟩ (.cons ru .nil), ⟨_, hT2, rfl, _, rfl⟩⟩
    have kk : ∀ b ob, b ∉ [e, it] → s.heap.get? b = some ob → h2.get? b = some ob := fun b ob hb q => by
      have b1 : b ≠ e := fun z => hb (z ▸ List.mem_cons_self)
      have b2 : b ≠ it := fun z => hb (by rw [z]; simp)
      exact (sb.2 b b1).trans (hk b ob b1 b2 q)
    have I1 := I.turnedNew (t' := tk + 1) kk hf (Nat.le_refl _) new
    refine ⟨.ref s.heap.objs.size, _, I1, rfl, ⟨_, x, rfl, I.hok.fresh (Nat.le_refl _), rfl, fun ys hy => by rw [I.tuple_inj hy hq]; exact hx⟩, ⟨⟨v, ?_⟩, hit'.1.at fun o q => (sb.2 it (Ne.symm hne)).trans q, hne⟩, fun b hb => ?_⟩
    · rw [show ((i + 1 : Nat) : Int) = (i : Int) + 1 from by omega]
      exact he2
    · have hb' : b ≠ s.heap.objs.size := by
        rcases List.mem_cons.mp hb with z | hb
        · rw [z]; exact Nat.ne_of_lt hel
        · rw [List.mem_singleton.mp hb]; exact Nat.ne_of_lt hil
      rw [L2.upd_ne hb']
      exact (hf b hb).1
  done := by
    intro X hP hw hK hc i pins s σ H E I hf st hg
    subst hP hw hK
    obtain ⟨⟨old, he⟩, hit, hne⟩ := st
    obtain ⟨xs, hq, hx⟩ := hg
    obtain ⟨its, rv, p, hz⟩ := I.tuple hq
    obtain ⟨f0, f1, f2, f3, f4, f5⟩ := hf it (by simp)
    have hl := rv.length
    have hn : i = its.toArray.size := by rw [List.size_toArray, ← hl, hx]
    subst hn
    have dr := Draws.tuple (prog := X.prog) (w := X.w) (A := X.A.in1) (I.ok.hd hc) it a ha its.toArray
    exact wpAny_pyNext_enum_endD dr he ⟨hit, show s.heap.IsTuple a its.toArray from p⟩ fun h' eb => ⟨rfl, I.turned (t' := s.toks) (fun b o hb q => eb b o hb q) f0 f1 f3 f4 f5⟩
  self := fun A i s Q E st h => by
    obtain ⟨⟨_, he⟩, _⟩ := st
    exact wpAny_pyIter_enum he h
def iEnumA (K : PySem.W.Frag) (ta : TA) : TI := fun σ H R => ta σ H fun vs H1 => ∃ a xs, vs = [.ref a] ∧ ((SqL K H1 a xs ∧ R (L2.Ite K a) H1) ∨ (SqT K H1 a xs ∧ R (IteT K a) H1))
theorem pi_enumA {X : Cx} {e : Expr} {ta : TA} {p pos tpos : Pos} {elts : List Expr} {kk : Nat} (hg : Gl X "enumerate") (hm : X.mg "enumerate" = none) (ha : PA X [e] ta) (hs : starEach [e] X.env = [(false, eval e X.env)]) :
    PI X (.Tuple elts kk tpos) (.Call (.Name "enumerate" p) [e] [] pos) (iEnumA X.K ta) := by
  refine ⟨fun pins s σ H R I h => ?_⟩
  refine Call_ (L2.ld_blt I hg hm boot_enumerate (PyProof.Rows.callWith_type1 (L2.thn (ha.run pos pins s σ H _ I h) fun us s1 ⟨vs, H1, I1, r1, q1⟩ => ?_) hs rfl))
  obtain ⟨a, xs, ex, q⟩ := q1
  subst ex
  obtain ⟨u, rfl, ru⟩ := r1.one
  cases ru
  have fp2 : ∀ b, b ∈ [s1.heap.objs.size + 1, s1.heap.objs.size] → L2.FpOk X pins H1 b := fun b hb => by
    have hle : s1.heap.objs.size ≤ b := by
      rcases List.mem_cons.mp hb with z | hb
      · omega
      · have := List.mem_singleton.mp hb
        omega
    exact I1.fpOk hle (I1.hok.fresh hle)
  rcases q with ⟨hq, q⟩ | ⟨hq, q⟩
  · obtain ⟨its, rv, pl, hz⟩ := I1.list hq
    refine call_enum1 (begins_list a its.toArray) pl.isList fun h' he hit hk => wpAny_pyIter_enum he ?_
    exact ⟨s1.heap.objs.size + 1, [s1.heap.objs.size + 1, s1.heap.objs.size], _, _, H1, rfl, I1.kept (t' := s1.toks) hk, L2.turn_enum a (s1.heap.objs.size + 1) s1.heap.objs.size, ⟨⟨.none, he⟩, ⟨_, hit, rfl, rfl⟩, Nat.succ_ne_self _⟩, fp2, q⟩
  · obtain ⟨its, rv, pl, hz⟩ := I1.tuple hq
    obtain ⟨o, ho, _⟩ := id pl
    have hlt : a < s1.heap.objs.size := Heap.lt_size ho
    refine call_enum1 (begins_tuple a its.toArray) (show s1.heap.IsTuple a its.toArray from pl) fun h' he hit hk => wpAny_pyIter_enum he ?_
    exact ⟨s1.heap.objs.size + 1, [s1.heap.objs.size + 1, s1.heap.objs.size], _, _, H1, rfl, I1.kept (t' := s1.toks) hk, turn_enumT a (s1.heap.objs.size + 1) s1.heap.objs.size (Nat.ne_of_lt hlt) (Nat.ne_of_gt (Nat.lt_succ_of_lt hlt)), ⟨⟨.none, he⟩, ⟨_, hit, rfl, rfl⟩, Nat.succ_ne_self _⟩, fp2, q⟩
end Bo

set_option Elab.async false
set_option linter.all false
set_option maxRecDepth 100000
/-! B8: what is walked over. -/
namespace Bo
open PySem PySem.Spec PyProof.Rows
open L2 (V HO Hp Rd SqL SqT Vals upd Cx PE PT PA PO PI PW OpR UnR CallR SlR IxR VK XK TE TT TA TO TI Inv RelV EP Room Sp FnOk Gl Vis Binds WX Takes tOp tCons tNil It Turn PIE)
/-- what an iterator promises, as long as its source stands -/
def RI (A : Ad) (K : PySem.W.Frag) (B : Nat → Nat) (b : Nat) : List Addr → Hp → Its → It → Prop := fun io H its J =>
  ∀ hd : List Addr, (∀ a, a ∈ hd → a ∈ A.hd ∨ H a = none) → ∀ io' H' m', Ext (A.wh hd) io io' H H' → Rel (A.wh hd) K B b io' H' m' → stands m' its.2 = true →
    (∀ i, i < its.1.length → J.go i H') ∧ J.stop its.1.length H' ∧ ∀ i d x H'', its.1[i]? = some d → J.yld i H' x H'' → Ext (A.wh hd) io' io' H' H'' ∧ Rel (A.wh hd) K B b io' H'' m' ∧ Rep (A.wh hd) K io' io'.length H'' d x
/-- a source that stands -/
def Src (A : Ad) (K : PySem.W.Frag) (B : Nat → Nat) (b : Nat) (Sq : PySem.W.Frag → Hp → Addr → List V → Prop) (io : List Addr) (H : Hp) (src : Option (Nat × List D)) (ds : List D) (a : Addr) : Prop :=
  ∀ hd : List Addr, (∀ a, a ∈ hd → a ∈ A.hd ∨ H a = none) → ∀ io' H' m', Ext (A.wh hd) io io' H H' → Rel (A.wh hd) K B b io' H' m' → stands m' src = true → ∃ vs, Sq K H' a vs ∧ Reps (A.wh hd) K io' io'.length H' ds vs
section
variable {A : Ad} {B : Nat → Nat} {b : Nat} {X : Cx} {W : Wi} {K : PySem.W.Frag} {io : List Addr} {H : Hp} {σ : L2.St} {m : M}
theorem stands_refl {n : Nat} {ds : List D} (h : m[n]? = some (.lst ds)) : stands m (some (n, ds)) = true := by
  unfold stands
  simp only [h]
  exact D.beqs_refl ds
theorem Src.now {Sq : PySem.W.Frag → Hp → Addr → List V → Prop} {src : Option (Nat × List D)} {ds : List D} {a : Addr} (h : Src A K B b Sq io H src ds a) (R : Rel A K B b io H m) (hs : stands m src = true) : ∃ vs, Sq K H a vs ∧ Reps A K io io.length H ds vs :=
  h A.hd (fun _ z => .inl z) io H m (Ext.refl io H) R hs
/-- the sources -/
theorem src_of {d : D} {v : V} {its : Its} (R : Rel A K B b io H m) (r : Rep A K io io.length H d v) (h : itsM m d = some its) (hk : ∀ ks vs, d ≠ .dct ks vs) (hs : ∀ s, d ≠ .str s) :
    ∃ a, v = .ref a ∧ (Src A K B b SqL io H its.2 its.1 a ∨ Src A K B b SqT io H its.2 its.1 a) ∧ stands m its.2 = true := by
  unfold itsM at h
  cases r with
  | @ref n a h1 h2 =>
    simp only at h
    split at h
    · rename_i ds e
      cases h
      refine ⟨a, rfl, .inl fun hd hh io' H' m' x R' st => ?_, stands_refl e⟩
      unfold stands at st
      simp only at st
      split at st
      · rename_i es e'
        rw [← D.beqs_eq _ _ st] at e'
        obtain ⟨vs, q1, q2, _⟩ := R'.get (x.get h2) e'
        exact ⟨vs, .inl (.inl q1), q2⟩
      · cases st
    · cases h
  | tup h1 z r =>
    cases h
    refine ⟨_, rfl, .inr fun hd hh io' H' m' x R' st => ?_, rfl⟩
    have r2 := (Reps.wh hh r).mono x x.len
    have t2 : TupAt (A.wh hd) io H _ _ := ⟨h1.1.wh hh h1.2, h1.2⟩
    exact ⟨_, (t2.mono x).sq, r2⟩
  | ktp h1 z r =>
    cases h
    exact ⟨_, rfl, .inr fun hd hh io' H' m' x R' st => ⟨_, h1.sq, (Reps.wh hh r).mono x x.len⟩, rfl⟩
  | lst h1 h2 z r =>
    cases h
    refine ⟨_, rfl, .inl fun hd hh io' H' m' x R' st => ?_, rfl⟩
    exact ⟨_, .inl (.inl (x.rd (h1.wh hh h2) (fun _ z => by cases z) h2)), (Reps.wh hh r).mono x x.len⟩
  | arg h1 z =>
    cases h
    refine ⟨_, rfl, .inl fun hd hh io' H' m' x R' st => ?_, rfl⟩
    have q : Rep (A.wh hd) K io' io'.length H' (.arg _) (.ref _) := (Rep.wh hh (.arg h1 z)).mono x x.len
    cases q with
    | arg q _ => exact ⟨_, q.sq, reps_ints _⟩
  | dct _ _ _ _ _ => exact absurd rfl (hk _ _)
  | str s => exact absurd rfl (hs _)
  | _ => simp [seqM] at h
theorem src_tup {ds : List D} {v : V} (r : Rep A K io io.length H (.tup ds) v) : ∃ a, v = .ref a ∧ Src A K B b SqT io H none ds a := by
  cases r with
  | tup h1 z r =>
    refine ⟨_, rfl, fun hd hh io' H' m' x R' st => ?_⟩
    have t2 : TupAt (A.wh hd) io H _ _ := ⟨h1.1.wh hh h1.2, h1.2⟩
    exact ⟨_, (t2.mono x).sq, (Reps.wh hh r).mono x x.len⟩
theorem src_lst {ds : List D} {v : V} (r : Rep A K io io.length H (.lst ds) v) : ∃ a, v = .ref a ∧ Src A K B b SqL io H none ds a := by
  cases r with
  | lst h1 h2 z r => exact ⟨_, rfl, fun hd hh io' H' m' x R' st => ⟨_, .inl (.inl (x.rd (h1.wh hh h2) (fun _ z => by cases z) h2)), (Reps.wh hh r).mono x x.len⟩⟩
theorem ri_list {src : Option (Nat × List D)} {ds : List D} {a : Addr} (h : Src A K B b SqL io H src ds a) : RI A K B b io H (ds, src) (L2.Itl K a) := by
  intro hd hh io' H' m' x R' st
  obtain ⟨vs, h1, h2⟩ := h hd hh io' H' m' x R' st
  refine ⟨fun i hi => ?_, ⟨vs, h1, by rw [← h2.length]; exact Nat.le_refl _⟩, fun i d y H'' e q => ?_⟩
  · obtain ⟨u, e, _⟩ := h2.get (List.getElem?_eq_getElem hi)
    exact ⟨vs, u, h1, e⟩
  · obtain ⟨e1, q⟩ := q
    subst e1
    obtain ⟨u, e2, r⟩ := h2.get e
    have e3 := q vs h1
    rw [e2] at e3
    cases e3
    exact ⟨Ext.refl _ _, R', r⟩
theorem ri_tup {src : Option (Nat × List D)} {ds : List D} {a : Addr} (h : Src A K B b SqT io H src ds a) : RI A K B b io H (ds, src) (L2.Itt K a) := by
  intro hd hh io' H' m' x R' st
  obtain ⟨vs, h1, h2⟩ := h hd hh io' H' m' x R' st
  refine ⟨fun i hi => ?_, ⟨vs, h1, by rw [← h2.length]; exact Nat.le_refl _⟩, fun i d y H'' e q => ?_⟩
  · obtain ⟨u, e, _⟩ := h2.get (List.getElem?_eq_getElem hi)
    exact ⟨vs, u, h1, e⟩
  · obtain ⟨e1, q⟩ := q
    subst e1
    obtain ⟨u, e2, r⟩ := h2.get e
    have e3 := q vs h1
    rw [e2] at e3
    cases e3
    exact ⟨Ext.refl _ _, R', r⟩
/-- a new pair -/
theorem pair_new {hd : List Addr} {io' : List Addr} {H' : Hp} {m' : M} {T : Addr} {d e : D} {x y : V} (R : Rel (A.wh hd) K B b io' H' m') (hT : H' T = none) (r1 : Rep (A.wh hd) K io' io'.length H' d x) (r2 : Rep (A.wh hd) K io' io'.length H' e y) :
    Ext (A.wh hd) io' io' H' (upd H' T (.tup [x, y])) ∧ Rel (A.wh hd) K B b io' (upd H' T (.tup [x, y])) m' ∧ Rep (A.wh hd) K io' io'.length (upd H' T (.tup [x, y])) (.tup [d, e]) (.ref T) := by
  have w : Ext (A.wh hd) io' io' H' (upd H' T (.tup [x, y])) := ext_new _ hT
  exact ⟨w, R.laid hT, .tup ⟨R.fresh hT, L2.upd_same⟩ (by show 2 ≤ sizeLine; decide) (.cons (r1.mono w (Nat.le_refl _)) (.cons (r2.mono w (Nat.le_refl _)) .nil))⟩
theorem enm_len (ds : List D) : ∀ k, (enmD k ds).length = ds.length := by
  induction ds with
  | nil => intro k; rfl
  | cons d r ih => intro k; rw [enmD, List.length_cons, List.length_cons, ih]
theorem enm_get (ds : List D) : ∀ (k i : Nat) (d : D), (enmD k ds)[i]? = some d → ∃ e, ds[i]? = some e ∧ d = .tup [.int ((k + i : Nat) : Int), e] := by
  induction ds with
  | nil => intro k i d h; simp [enmD] at h
  | cons a r ih =>
    intro k i d h
    cases i with
    | zero =>
      simp [enmD] at h
      exact ⟨a, rfl, by rw [← h]; simp⟩
    | succ i =>
      rw [enmD, List.getElem?_cons_succ] at h
      obtain ⟨e, h1, h2⟩ := ih (k + 1) i d h
      exact ⟨e, by simpa using h1, by rw [h2]; congr 3; omega⟩
theorem ri_enm {src : Option (Nat × List D)} {ds : List D} {a : Addr} (h : Src A K B b SqL io H src ds a) : RI A K B b io H (enmD 0 ds, src) (L2.Ite K a) := by
  intro hd hh io' H' m' x R' st
  obtain ⟨vs, h1, h2⟩ := h hd hh io' H' m' x R' st
  simp only [enm_len]
  refine ⟨fun i hi => ?_, ⟨vs, h1, by rw [← h2.length]; exact Nat.le_refl _⟩, fun i d y H'' e q => ?_⟩
  · obtain ⟨u, e, _⟩ := h2.get (List.getElem?_eq_getElem hi)
    exact ⟨vs, u, h1, e⟩
  · obtain ⟨T, z, rfl, hT, rfl, q⟩ := q
    obtain ⟨e0, e1, rfl⟩ := enm_get _ _ _ _ e
    obtain ⟨u, e2, r⟩ := h2.get e1
    have e3 := q vs h1
    rw [e2] at e3
    cases e3
    rw [Nat.zero_add]
    exact pair_new R' hT (.int _) r
theorem ri_enmT {src : Option (Nat × List D)} {ds : List D} {a : Addr} (h : Src A K B b SqT io H src ds a) : RI A K B b io H (enmD 0 ds, src) (IteT K a) := by
  intro hd hh io' H' m' x R' st
  obtain ⟨vs, h1, h2⟩ := h hd hh io' H' m' x R' st
  simp only [enm_len]
  refine ⟨fun i hi => ?_, ⟨vs, h1, by rw [← h2.length]⟩, fun i d y H'' e q => ?_⟩
  · obtain ⟨u, e, _⟩ := h2.get (List.getElem?_eq_getElem hi)
    exact ⟨vs, u, h1, e⟩
  · obtain ⟨T, z, rfl, hT, rfl, q⟩ := q
    obtain ⟨e0, e1, rfl⟩ := enm_get _ _ _ _ e
    obtain ⟨u, e2, r⟩ := h2.get e1
    have e3 := q vs h1
    rw [e2] at e3
    cases e3
    rw [Nat.zero_add]
    exact pair_new R' hT (.int _) r
theorem zip_len : ∀ ds es : List D, (zipD ds es).length = min ds.length es.length
  | [], es => by simp [zipD]
  | d :: ds, [] => by simp [zipD]
  | d :: ds, e :: es => by rw [zipD, List.length_cons, zip_len ds es, List.length_cons, List.length_cons]; omega
theorem zip_get : ∀ (ds es : List D) (i : Nat) (d : D), (zipD ds es)[i]? = some d → ∃ x y, ds[i]? = some x ∧ es[i]? = some y ∧ d = .tup [x, y]
  | [], es, i, d, h => by simp [zipD] at h
  | a :: ds, [], i, d, h => by simp [zipD] at h
  | a :: ds, e :: es, 0, d, h => by
    simp [zipD] at h
    exact ⟨a, e, rfl, rfl, h.symm⟩
  | a :: ds, e :: es, i + 1, d, h => by
    rw [zipD, List.getElem?_cons_succ] at h
    obtain ⟨x, y, h1, h2, h3⟩ := zip_get ds es i d h
    exact ⟨x, y, by simpa using h1, by simpa using h2, h3⟩
theorem ri_zip {ds es : List D} {a c : Addr} (h : Src A K B b SqL io H none ds a) (h' : Src A K B b SqL io H none es c) : RI A K B b io H (zipD ds es, none) (L2.Itz K a c) := by
  intro hd hh io' H' m' x R' st
  obtain ⟨vs, h1, h2⟩ := h hd hh io' H' m' x R' st
  obtain ⟨ws, g1, g2⟩ := h' hd hh io' H' m' x R' st
  have hl := h2.length
  have hl2 := g2.length
  simp only [zip_len]
  refine ⟨fun i hi => ?_, ⟨vs, ws, h1, g1, by omega⟩, fun i d y H'' e q => ?_⟩
  · obtain ⟨u, e, _⟩ := h2.get (List.getElem?_eq_getElem (show i < ds.length by omega))
    obtain ⟨w, e2, _⟩ := g2.get (List.getElem?_eq_getElem (show i < es.length by omega))
    exact ⟨vs, ws, u, w, h1, g1, e, e2⟩
  · obtain ⟨T, z, z2, rfl, hT, rfl, q, q2⟩ := q
    obtain ⟨e0, e1, f0, f1, rfl⟩ := zip_get _ _ _ _ e
    obtain ⟨u, e2, r⟩ := h2.get f0
    obtain ⟨w, e4, r'⟩ := g2.get f1
    have e3 := q vs h1
    rw [e2] at e3
    cases e3
    have e5 := q2 ws g1
    rw [e4] at e5
    cases e5
    exact pair_new R' hT r r'
theorem ri_zipT {ds es : List D} {a c : Addr} (h : Src A K B b SqT io H none ds a) (h' : Src A K B b SqT io H none es c) : RI A K B b io H (zipD ds es, none) (RZ.ItzT K a c) := by
  intro hd hh io' H' m' x R' st
  obtain ⟨vs, h1, h2⟩ := h hd hh io' H' m' x R' st
  obtain ⟨ws, g1, g2⟩ := h' hd hh io' H' m' x R' st
  have hl := h2.length
  have hl2 := g2.length
  simp only [zip_len]
  refine ⟨fun i hi => ?_, ⟨vs, ws, h1, g1, by omega⟩, fun i d y H'' e q => ?_⟩
  · obtain ⟨u, e, _⟩ := h2.get (List.getElem?_eq_getElem (show i < ds.length by omega))
    obtain ⟨w, e2, _⟩ := g2.get (List.getElem?_eq_getElem (show i < es.length by omega))
    exact ⟨vs, ws, u, w, h1, g1, e, e2⟩
  · obtain ⟨T, z, z2, rfl, hT, rfl, q, q2⟩ := q
    obtain ⟨e0, e1, f0, f1, rfl⟩ := zip_get _ _ _ _ e
    obtain ⟨u, e2, r⟩ := h2.get f0
    obtain ⟨w, e4, r'⟩ := g2.get f1
    have e3 := q vs h1
    rw [e2] at e3
    cases e3
    have e5 := q2 ws g1
    rw [e4] at e5
    cases e5
    exact pair_new R' hT r r'
/-- values without the heap -/
theorem ri_fn {ds : List D} {J : It} (f : Nat → V) (hg : ∀ i H, i < ds.length → J.go i H) (hs : ∀ H, J.stop ds.length H) (hy : ∀ i H x H', J.yld i H x H' → i < ds.length → H' = H ∧ x = f i) (hr : ∀ i d, ds[i]? = some d → ∀ (A : Ad) io n H, Rep A K io n H d (f i)) : RI A K B b io H (ds, none) J := by
  intro hd hh io' H' m' x R' st
  refine ⟨fun i hi => hg i H' hi, hs H', fun i d y H'' e q => ?_⟩
  obtain ⟨e1, e2⟩ := hy i H' y H'' q (List.getElem?_eq_some_iff.mp e).1
  subst e1 e2
  exact ⟨Ext.refl _ _, R', hr i d e _ _ _ _⟩
theorem ri_str {z : Str} : RI A K B b io H (z.cps.toList.map fun c => .str ⟨#[c]⟩, none) (L2.Its z) := by
  have hl : (z.cps.toList.map fun c => D.str ⟨#[c]⟩).length = z.cps.size := by simp
  refine ri_fn (fun i => .str ⟨#[(z.cps[i]?).getD 0]⟩) (fun i _ hi => by rw [hl] at hi; exact hi) (fun _ => by rw [hl]; exact Nat.le_refl _) (fun i H x H' q _ => ?_) (fun i d e A io n H => ?_)
  · obtain ⟨e1, c, e2, e3⟩ := q
    exact ⟨e1, by rw [e3, e2]; rfl⟩
  · rw [List.getElem?_map, Array.getElem?_toList] at e
    cases hc : z.cps[i]? with
    | none => rw [hc] at e; cases e
    | some c =>
      rw [hc] at e
      cases e
      exact .str _
theorem ri_rng {lo : Int} {n : Nat} : RI A K B b io H (rngD lo n, none) (L2.Itr lo n) := by
  have hl : (rngD lo n).length = n := by simp [rngD]
  refine ri_fn (fun i => .int (lo + (i : Nat))) (fun i _ hi => by rw [hl] at hi; exact hi) (fun _ => by rw [hl]; exact Nat.le_refl _) (fun i H x H' q _ => q) (fun i d e A io n H => ?_)
  unfold rngD at e
  rw [List.getElem?_map] at e
  cases hc : (List.range _)[i]? with
  | none => rw [hc] at e; cases e
  | some c =>
    rw [hc] at e
    cases e
    rw [List.getElem?_range (by have := (List.getElem?_eq_some_iff.mp hc).1; simpa using this)] at hc
    cases hc
    exact .int _
theorem ri_rngC {lo c : Int} {n : Nat} : RI A K B b io H ((List.range n).map fun k => .int (lo + (k : Nat) * c), none) (L2.Itc lo c n) := by
  have hl : ((List.range n).map fun k => D.int (lo + (k : Nat) * c)).length = n := by simp
  refine ri_fn (fun i => .int (lo + (i : Nat) * c)) (fun i _ hi => by rw [hl] at hi; exact hi) (fun _ => by rw [hl]; exact Nat.le_refl _) (fun i H x H' q _ => q) (fun i d e A io n H => ?_)
  rw [List.getElem?_map] at e
  cases hc : (List.range _)[i]? with
  | none => rw [hc] at e; cases e
  | some c =>
    rw [hc] at e
    cases e
    rw [List.getElem?_range (by have := (List.getElem?_eq_some_iff.mp hc).1; simpa using this)] at hc
    cases hc
    exact .int _
/-- a dict's keys, the dict locked -/
theorem rep_keyT {hd : List Addr} {io' : List Addr} {H' : Hp} {m' : M} {k : List Key} {q : Addr} (R : Rel (A.wh hd) K B b io' H' m') (h : H' q = some (.tup (k.map L2.kV))) (hz : k.length ≤ sizeLine) : Rep (A.wh hd) K io' io'.length H' (keyT k) (.ref q) := by
  have un : Un (A.wh hd) io' q := by
    constructor
    · intro z
      obtain ⟨n, hn, e⟩ := List.getElem_of_mem z
      have e1 : io'[n]? = some q := by rw [List.getElem?_eq_getElem hn, e]
      have hm : n < m'.length := by rw [← R.len]; exact hn
      have ob := R.ob n q m'[n] e1 (List.getElem?_eq_getElem hm)
      cases hmo : m'[n] with
      | lst ds => rw [hmo] at ob; obtain ⟨vs, e, _⟩ := ob; rw [h] at e; cases e
      | dct ks ds => rw [hmo] at ob; obtain ⟨vs, e, _⟩ := ob; rw [h] at e; cases e
      | ins c fs => rw [hmo] at ob; obtain ⟨_, _, _, _, e, _⟩ := ob; rw [h] at e; cases e
    · intro z
      obtain ⟨_, o, e, t⟩ := R.hid q z
      rw [h] at e
      cases e
      exact t _ rfl
  refine .tup ⟨un, h⟩ (by rw [List.length_map]; exact hz) ?_
  clear h un hz
  induction k with
  | nil => exact .nil
  | cons a r ih =>
    refine .cons ?_ ih
    cases a with
    | inl i => exact .int i
    | inr s => exact .str s
theorem ri_keys {a : Addr} {o : Obj} {kvs : List (List Key × V)} {ks : List (List Key)} (hk : kvs.map (·.1) = ks) (hz : ∀ k, k ∈ ks → k.length ≤ sizeLine) (h1 : Un A io a) (h2 : H a = some (.frz o (.dT kvs))) : RI A K B b io H (ks.map keyT, none) (L2.Itkt a o kvs) := by
  intro hd hh io' H' m' x R' st
  have e2 : H' a = some (.frz o (.dT kvs)) := x.rd (h1.wh hh h2) (fun _ z => by cases z) h2
  have hl : kvs.length = (ks.map keyT).length := by rw [List.length_map, ← hk, List.length_map]
  refine ⟨fun i hi => ⟨e2, by rw [hl]; exact hi⟩, ⟨e2, by rw [hl]; exact Nat.le_refl _⟩, fun i d y H'' e q => ?_⟩
  obtain ⟨rfl, k, v, p, e3, rfl, e4⟩ := q
  have e5 : ks[i]? = some k := by rw [← hk, List.getElem?_map, e3]; rfl
  rw [List.getElem?_map, e5] at e
  cases e
  exact ⟨Ext.refl _ _, R', rep_keyT R' e4 (hz k (List.mem_of_getElem? e5))⟩
end
end Bo

set_option Elab.async false
set_option linter.all false
set_option maxRecDepth 100000
/-! B9: loops' heads, comprehensions. -/
namespace Bo
open PySem PySem.Spec PyProof.Rows
open L2 (V HO Hp Rd SqL SqT Vals upd Cx PE PT PA PO PI PW PG OpR UnR CallR SlR IxR VK XK TE TT TA TO TI TG Inv RelV EP Room Sp FnOk Gl Vis Binds WX Takes tOp tCons tNil It Turn PIE)
section
variable {A : Ad} {B : Nat → Nat} {b : Nat} {X : Cx} {W : Wi} {io : List Addr} {H : Hp} {σ : L2.St}
variable {f g h : Sg → M → Option (Rs D × M)} {fs : Sg → M → Option (Rs (List D) × M)} {e e2 e3 tg : Expr} {es : List Expr} {pos : Pos}
abbrev tI (A : Ad) (X : Cx) (B : Nat → Nat) (b : Nat) (W : Wi) (f : Sg → M → Option (Rs Its × M)) : TI := tG A X.K B b (RI A X.K B b) W f
theorem n_rng1 {x : Str} {p : Pos} (hg : glB X.env.scope x = true) (hn : x = ("range" : Str)) (hm : X.mg "range" = none) (hp : plE e = true) (ha : PA X [e] (tDs A X B b W fs)) :
    PI X tg (.Call (.Name x p) [e] [] pos) (tI A X B b W fun s m => bnd (fs s m) fun ds m1 => giv (match ds with | [.int j] => (rgD ds).map fun rs => (rs, none) | _ => none) m1) := by
  subst hn
  refine pi_imp (L2.pi_range1 (gl_of hg).1 hm ha (pl_star hp _ _)) fun σ H Q q => ?_
  obtain ⟨io, s, m, R, S, q⟩ := q
  refine tG.step (RR := RDs A X.K) R S q fun io1 H1 m1 d v x1 R1 S1 r1 h1 => ?_
  obtain ⟨its, e, q⟩ := h1.giv
  split at e
  · rename_i j
    obtain ⟨u, rfl, r⟩ := reps1 r1
    cases r
    unfold rgD at e
    simp only at e
    split at e
    · rename_i hz
      rw [Bool.and_eq_true, decide_eq_true_eq, decide_eq_true_eq] at hz
      cases e
      exact ⟨j, rfl, hz.1, hz.2, q _ _ _ (Ext.refl _ _) R1 ri_rng⟩
    · cases e
  · cases e
theorem n_rng2 {x : Str} {p : Pos} (hg : glB X.env.scope x = true) (hn : x = ("range" : Str)) (hm : X.mg "range" = none) (hp : plE e = true) (hp2 : plE e2 = true) (ha : PA X [e, e2] (tDs A X B b W fs)) :
    PI X tg (.Call (.Name x p) [e, e2] [] pos) (tI A X B b W fun s m => bnd (fs s m) fun ds m1 => giv (match ds with | [.int i, .int j] => (rgD ds).map fun rs => (rs, none) | _ => none) m1) := by
  subst hn
  refine pi_imp (L2.pi_range2 (gl_of hg).1 hm ha (by rw [pl_star hp, pl_star hp2]; rfl) (pl_star hp2 _ _)) fun σ H Q q => ?_
  obtain ⟨io, s, m, R, S, q⟩ := q
  refine tG.step (RR := RDs A X.K) R S q fun io1 H1 m1 d v x1 R1 S1 r1 h1 => ?_
  obtain ⟨its, e, q⟩ := h1.giv
  split at e
  · rename_i i j
    obtain ⟨u, w, rfl, r, r2⟩ := reps2 r1
    cases r; cases r2
    unfold rgD at e
    simp only at e
    split at e
    · rename_i hz
      rw [Bool.and_eq_true, Bool.and_eq_true, Bool.and_eq_true, decide_eq_true_eq, decide_eq_true_eq, decide_eq_true_eq, decide_eq_true_eq] at hz
      cases e
      exact ⟨i, j, rfl, ⟨hz.1.1.1, hz.1.1.2, hz.1.2, hz.2⟩, q _ _ _ (Ext.refl _ _) R1 ri_rng⟩
    · cases e
  · cases e
theorem reps3 {K : PySem.W.Frag} {io : List Addr} {c : Nat} {H : Hp} {d e f : D} {vs : List V} (h : Reps A K io c H [d, e, f] vs) : ∃ v u t, vs = [v, u, t] ∧ Rep A K io c H d v ∧ Rep A K io c H e u ∧ Rep A K io c H f t := by
  cases h with
  | cons r1 h =>
    obtain ⟨u, t, rfl, r2, r3⟩ := reps2 h
    exact ⟨_, u, t, rfl, r1, r2, r3⟩
theorem n_rng3 {e3 : Expr} {x : Str} {p : Pos} (hg : glB X.env.scope x = true) (hn : x = ("range" : Str)) (hm : X.mg "range" = none) (hp : plE e = true) (hp2 : plE e2 = true) (hp3 : plE e3 = true) (ha : PA X [e, e2, e3] (tDs A X B b W fs)) :
    PI X tg (.Call (.Name x p) [e, e2, e3] [] pos) (tI A X B b W fun s m => bnd (fs s m) fun ds m1 => giv (match ds with | [_, _, _] => (rgD ds).map fun rs => (rs, none) | _ => none) m1) := by
  subst hn
  refine pi_imp (L2.pi_range3 (gl_of hg).1 hm ha (pl_star hp _ _) (pl_any (by rw [List.all_cons, List.all_cons, hp2, hp3]; rfl))) fun σ H Q q => ?_
  obtain ⟨io, s, m, R, S, q⟩ := q
  refine tG.step (RR := RDs A X.K) R S q fun io1 H1 m1 d v x1 R1 S1 r1 h1 => ?_
  obtain ⟨its, e, q⟩ := h1.giv
  split at e
  · rename_i d1 d2 d3
    unfold rgD at e
    split at e
    · rename_i hd; cases hd
    · rename_i hd; cases hd
    · rename_i i j hd
      cases hd
      obtain ⟨u, w, t, rfl, r, r2, r3⟩ := reps3 r1
      cases r; cases r2; cases r3
      split at e
      · rename_i hz
        rw [Bool.and_eq_true, Bool.and_eq_true, Bool.and_eq_true, decide_eq_true_eq, decide_eq_true_eq, decide_eq_true_eq, decide_eq_true_eq] at hz
        cases e
        exact ⟨i, j, -1, (i - j).toNat, rfl, .neg hz.1.1.1 hz.1.1.2 hz.1.2 hz.2, q _ _ _ (Ext.refl _ _) R1 ri_rngC⟩
      · cases e
    · cases e
  · cases e
theorem its_mt {m : M} {d : D} {its : Its} (h : itsM m d = some its) : (∃ ks vs, d = .dct ks vs ∧ its = (ks.map keyT, none)) ∨ (∃ s, d = .str s ∧ its = (s.cps.toList.map fun c => .str ⟨#[c]⟩, none)) ∨ ((∀ ks vs, d ≠ .dct ks vs) ∧ ∀ s, d ≠ .str s) := by
  cases d with
  | dct ks vs => cases h; exact .inl ⟨ks, vs, rfl, rfl⟩
  | str s => cases h; exact .inr (.inl ⟨s, rfl, rfl⟩)
  | _ => exact .inr (.inr ⟨fun _ _ z => (by cases z), fun _ z => (by cases z)⟩)
/-- a walk over a list, a tuple, a text, a dict's keys -/
theorem n_ov (ha : PE X e (tD A X B b W f)) : PI X tg e (tI A X B b W fun s m => bnd (f s m) fun x m1 => giv (itsM m1 x) m1) := by
  refine ⟨fun pins s σ H Q I q => ?_⟩
  obtain ⟨io, sg, m, R, S, q⟩ := q
  refine L2.thn (ha.run pins s σ H _ I ⟨io, sg, m, R, S, gW.bnd (RR := RD A X.K) q⟩) fun v s1 ⟨x, H1, I1, r1, io1, m1, d, x1, R1, r, q⟩ => ?_
  obtain ⟨its, ei, q⟩ := q.giv
  rcases its_mt ei with ⟨ks, vs, rfl, rfl⟩ | ⟨z, rfl, rfl⟩ | ⟨n1, n2⟩
  · cases r with
    | @dct a kvs _ _ hu hr hk rs hz =>
      cases r1
      obtain ⟨o, H2, I2, h2, e2, R2⟩ : ∃ (o : Obj) (H2 : Hp), Inv X pins σ H2 s1 ∧ H2 a = some (.frz o (.dT kvs)) ∧ Ext A io1 io1 H1 H2 ∧ Rel A X.K B b io1 H2 m1 := by
        rcases hr with hr | ⟨o, hr⟩
        · obtain ⟨o, I2⟩ := I1.lock hr trivial
          refine ⟨o, _, I2, L2.upd_same, ?_, ?_⟩
          · refine ⟨⟨[], by simp⟩, fun c u hc hu' => ?_, fun _ z n => absurd z n, fun c u hc hu' => ?_⟩
            · by_cases e : c = a
              · subst e
                rw [hr] at hu'
                cases hu'
                exact .inr ⟨o, kvs, rfl, L2.upd_same⟩
              · exact .inl (by rw [L2.upd_ne e]; exact hu')
            · rw [L2.upd_ne (fun (e : c = a) => hu.2 (by rw [← e]; exact hc))]
              exact hu'
          · refine R1.same ?_ fun c hc => L2.upd_ne fun (e : c = a) => hu.1 (by rw [← e]; exact hc)
            refine ⟨⟨[], by simp⟩, fun c u hc hu' => ?_, fun _ z n => absurd z n, fun c u hc hu' => ?_⟩
            · by_cases e : c = a
              · subst e
                rw [hr] at hu'
                cases hu'
                exact .inr ⟨o, kvs, rfl, L2.upd_same⟩
              · exact .inl (by rw [L2.upd_ne e]; exact hu')
            · rw [L2.upd_ne (fun (e : c = a) => hu.2 (by rw [← e]; exact hc))]
              exact hu'
        · exact ⟨o, H1, I1, hr, Ext.refl _ _, R1⟩
      have hkl : ∀ k, k ∈ ks → k.length ≤ sizeLine := fun k hk' => by
        rw [← hk] at hk'
        obtain ⟨p, hp, rfl⟩ := List.mem_map.mp hk'
        obtain ⟨i, hi⟩ := List.getElem?_of_mem hp
        obtain ⟨hs, hgd, hx, es, ep, hdt, hsz, ent⟩ := I2.frzT h2
        obtain ⟨en, c, _, _, hc⟩ := ent i p.1 p.2 hi
        have := (I2.hok c _ hc).1
        rwa [List.length_map] at this
      obtain ⟨hs, hgd, hx, es, ep, hdt, hsz, ent⟩ := I2.frzT h2
      refine L2.iter_keys hs hgd hx hdt (L2.pi_one (tk := s1.toks) I2 _ (L2.turn_keysT _ hdt) ⟨_, Heap.get?_push_size _ rfl, rfl, ?_⟩ (q _ _ _ e2 R2 (ri_keys hk hkl ?_ h2)))
      · rw [hsz] <;> rfl
      · exact hu
  · cases r
    obtain ⟨t, rfl⟩ := r1
    have fin := q io1 H1 (L2.Its z) (Ext.refl _ _) R1 ri_str
    cases hw : z.cps.all (· < 128)
    · exact wpAny_pyIter_wide hw (L2.pi_one (tk := s1.toks) I1 _ (L2.turn_str _ z t "str_iterator" (.inr rfl)) ⟨_, Heap.get?_push_size _ rfl, rfl, rfl⟩ fin)
    · exact wpAny_pyIter_ascii hw (L2.pi_one (tk := s1.toks) I1 _ (L2.turn_str _ z t "str_ascii_iterator" (.inl rfl)) ⟨_, Heap.get?_push_size _ rfl, rfl, rfl⟩ fin)
  · obtain ⟨a, rfl, hs, st⟩ := src_of R1 r ei n1 n2
    cases r1
    rcases hs with hs | hs
    · obtain ⟨vs, hq, _⟩ := hs.now R1 st
      obtain ⟨its', rv, p, hz⟩ := I1.list hq
      exact wpAny_pyIter_list p.isList (L2.pi_one (tk := s1.toks) I1 _ (L2.turn_list a _) ⟨_, Heap.get?_push_size _ rfl, rfl, rfl⟩ (q _ _ _ (Ext.refl _ _) R1 (ri_list hs)))
    · obtain ⟨vs, hq, _⟩ := hs.now R1 st
      obtain ⟨its', rv, p, hz⟩ := I1.tuple hq
      exact wpAny_pyIter_tuple (show s1.heap.IsTuple a its'.toArray from p) (L2.pi_one (tk := s1.toks) I1 _ (L2.turn_tuple a _) ⟨_, Heap.get?_push_size _ rfl, rfl, rfl⟩ (q _ _ _ (Ext.refl _ _) R1 (ri_tup hs)))
theorem n_enm {x : Str} {p : Pos} (hg : glB X.env.scope x = true) (hn : x = ("enumerate" : Str)) (hm : X.mg "enumerate" = none) (hp : plE e = true) (ht : isTupE tg = true) (ha : PE X e (tD A X B b W f)) :
    PI X tg (.Call (.Name x p) [e] [] pos) (tI A X B b W fun s m => bnd (f s m) fun x m1 => giv (enmM m1 x) m1) := by
  subst hn
  cases tg with
  | Tuple elts kk tp =>
    refine pi_imp (pi_enumA (gl_of hg).1 hm (L2.pa_cons ha L2.pa_nil (pl_star hp _ _)) (pl_star hp _ _)) fun σ H Q q => ?_
    obtain ⟨io, s, m, R, S, q⟩ := q
    refine tG.step (RR := RD A X.K) R S q fun io1 H1 m1 d v x1 R1 S1 r1 h1 => ?_
    obtain ⟨its, e, q⟩ := h1.giv
    have n1 : ∀ ks vs, d ≠ .dct ks vs := fun ks vs z => by subst z; cases e
    have n2 : ∀ s, d ≠ .str s := fun s z => by subst z; cases e
    have e' : (itsM m1 d).map (fun its => (enmD 0 its.1, its.2)) = some its := by
      unfold enmM at e
      split at e
      · cases e
      · cases e
      · exact e
    cases hi : itsM m1 d with
    | none => rw [hi] at e'; cases e'
    | some i0 =>
      rw [hi] at e'
      cases e'
      obtain ⟨a, rfl, hs, st⟩ := src_of R1 r1 hi n1 n2
      rcases hs with hs | hs
      · obtain ⟨vs, hq, _⟩ := hs.now R1 st
        exact ⟨a, vs, rfl, .inl ⟨hq, q _ _ _ (Ext.refl _ _) R1 (ri_enm hs)⟩⟩
      · obtain ⟨vs, hq, _⟩ := hs.now R1 st
        exact ⟨a, vs, rfl, .inr ⟨hq, q _ _ _ (Ext.refl _ _) R1 (ri_enmT hs)⟩⟩
  | _ => cases ht
theorem n_zip {x : Str} {p : Pos} (hg : glB X.env.scope x = true) (hn : x = ("zip" : Str)) (hm : X.mg "zip" = none) (hp : plE e = true) (hp2 : plE e2 = true) (ht : isTupE tg = true) (ha : PE X e (tD A X B b W f)) (hb : PE X e2 (tD A X B b W g)) :
    PI X tg (.Call (.Name x p) [e, e2] [] pos) (tI A X B b W fun s m => bnd (f s m) fun x m1 => bnd (g s m1) fun y m2 => giv (zipM x y) m2) := by
  subst hn
  cases tg with
  | Tuple elts kk tp =>
    refine pi_imp (RZ.pi_zipA (gl_of hg).1 hm (L2.pa_cons ha (L2.pa_cons hb L2.pa_nil (pl_star hp2 _ _)) (pl_star hp _ _)) (pl_star hp _ _) (pl_any (by simp [hp2]))) fun σ H Q q => ?_
    obtain ⟨io, s, m, R, S, q⟩ := q
    refine tG.step (RR := RD A X.K) R S q fun io1 H1 m1 d v x1 R1 S1 r1 h1 => tG.step (RR := RD A X.K) R1 S1 h1 fun io2 H2 m2 d2 v2 x2 R2 S2 r2 h2 => ?_
    obtain ⟨its, e, q⟩ := h2.giv
    have r1' := r1.mono x2 x2.len
    unfold zipM at e
    split at e
    · rename_i ds es
      cases e
      obtain ⟨a, rfl, hs⟩ := src_tup (B := B) (b := b) r1'
      obtain ⟨c, rfl, hs2⟩ := src_tup (B := B) (b := b) r2
      obtain ⟨vs, hq, _⟩ := hs.now R2 rfl
      obtain ⟨ws, hq2, _⟩ := hs2.now R2 rfl
      exact ⟨a, c, vs, ws, rfl, .inr ⟨hq, hq2, q _ _ _ (Ext.refl _ _) R2 (ri_zipT hs hs2)⟩⟩
    · rename_i ds es
      cases e
      obtain ⟨a, rfl, hs⟩ := src_lst (B := B) (b := b) r1'
      obtain ⟨c, rfl, hs2⟩ := src_lst (B := B) (b := b) r2
      obtain ⟨vs, hq, _⟩ := hs.now R2 rfl
      obtain ⟨ws, hq2, _⟩ := hs2.now R2 rfl
      exact ⟨a, c, vs, ws, rfl, .inl ⟨hq, hq2, q _ _ _ (Ext.refl _ _) R2 (ri_zip hs hs2)⟩⟩
    · cases e
  | _ => cases ht

end
end Bo

set_option Elab.async false
set_option linter.all false
set_option maxRecDepth 100000
/-! B10: patterns. -/
namespace Bo
open PySem PySem.Spec PyProof.Rows
open L2 (V HO Hp Rd SqL SqT Vals upd Cx PE PT PA PO PI PW PG PGs OpR UnR CallR SlR IxR VK XK TE TT TA TO TI TG TGs Inv RelV EP Room Sp FnOk Gl Vis Binds WX Takes tOp tCons tNil It Turn PIE Loc)
def LocOk (X : Cx) (sc : Scope) : Prop := ∀ x, locB sc x = true → Loc X.env.scope x ∧ (X.fn x = true ∨ X.env.scope.names.lookup x = some .local)
section
variable (A : Ad) (K : PySem.W.Frag) (B : Nat → Nat) (b : Nat)
def tPat (p : P) : TG := fun v σ H Q => ∃ io s m d s2, Rel A K B b io H m ∧ RelS A K io H s σ ∧ Rep A K io io.length H d v ∧ setP p d s = some s2 ∧ ∀ σ2, RelS A K io H s2 σ2 → (∀ j, j ∉ pv p → σ2[j]? = σ[j]?) → Q σ2 H
def tPats (p : P) : TGs := fun vs σ H Q => ∃ io s m ds s2, Rel A K B b io H m ∧ RelS A K io H s σ ∧ Reps A K io io.length H ds vs ∧ setPs p ds s = some s2 ∧ ∀ σ2, RelS A K io H s2 σ2 → (∀ j, j ∉ pv p → σ2[j]? = σ[j]?) → Q σ2 H
end
section
variable {A : Ad} {B : Nat → Nat} {b : Nat} {X : Cx} {N : List Str}
theorem pg_imp {e : Expr} {t t' : TG} (h : PG X e t) (f : ∀ v σ H Q, t' v σ H Q → t v σ H Q) : PG X e t' := ⟨fun pins s σ H v u Q I r q => h.run pins s σ H v u Q I r (f v σ H Q q)⟩
theorem pgs_imp {e : List Expr} {t t' : TGs} (h : PGs X e t) (f : ∀ v σ H Q, t' v σ H Q → t v σ H Q) : PGs X e t' := ⟨fun pins s σ H v u Q I r q => h.run pins s σ H v u Q I r (f v σ H Q q)⟩
def tgE : Expr → Bool
  | .Name .. => true
  | .Tuple .. => true
  | _ => false
theorem mP_tg {p : P} {sc : Scope} {x : Expr} (h : mP N p sc x = true) : tgE x = true := by
  cases p with
  | v i => cases x <;> simp [mP, tgE] at *
  | t ps => cases x <;> simp [mP, tgE] at *
  | _ => simp [mP] at h
theorem mPs_tg : ∀ {p : P} {sc : Scope} {xs : List Expr}, mPs N p sc xs = true → xs.all tgE = true
  | .nil, sc, xs, h => by
    simp [mPs] at h
    subst h
    rfl
  | .cons p ps, sc, xs, h => by
    cases xs with
    | nil => simp [mPs] at h
    | cons x r =>
      simp [mPs] at h
      rw [List.all_cons, mP_tg h.1, mPs_tg h.2]
      rfl
  | .v _, _, _, h => by simp [mPs] at h
  | .t _, _, _, h => by simp [mPs] at h
theorem tg_each {x : Expr} (h : tgE x = true) (xs : List Expr) (env : Env) : assignEach (x :: xs) env = (false, assign x env) :: assignEach xs env := by
  cases x <;> first | rfl | cases h
theorem tgs_len {xs : List Expr} {env : Env} (h : xs.all tgE = true) : (assignEach xs env).length = xs.length ∧ (assignEach xs env).findIdx? (·.1) = none := by
  induction xs with
  | nil => exact ⟨rfl, rfl⟩
  | cons x r ih =>
    rw [List.all_cons, Bool.and_eq_true] at h
    rw [tg_each h.1]
    obtain ⟨h1, h2⟩ := ih h.2
    refine ⟨by rw [List.length_cons, List.length_cons, h1], ?_⟩
    rw [List.findIdx?_cons, if_neg (by simp)]
    rw [h2]
    rfl
theorem mPs_len : ∀ {p : P} {sc : Scope} {xs : List Expr} {ds : List D} {s s2 : Sg}, mPs N p sc xs = true → setPs p ds s = some s2 → ds.length = xs.length
  | .nil, sc, xs, ds, s, s2, h, e => by
    simp [mPs] at h
    subst h
    cases ds with
    | nil => rfl
    | cons _ _ => simp [setPs] at e
  | .cons p ps, sc, xs, ds, s, s2, h, e => by
    cases xs with
    | nil => simp [mPs] at h
    | cons x r =>
      simp [mPs] at h
      cases ds with
      | nil => simp [setPs] at e
      | cons d ds =>
        simp only [setPs] at e
        cases q : setP p d s with
        | none => rw [q] at e; cases e
        | some s' =>
          rw [q] at e
          rw [List.length_cons, List.length_cons, mPs_len h.2 e]
  | .v _, _, _, _, _, _, h, _ => by simp [mPs] at h
  | .t _, _, _, _, _, _, h, _ => by simp [mPs] at h
mutual
theorem pg_pat (hc : X.calm = true) (hN : X.N.Nodup) (hNN : X.N = N) {sc : Scope} (hl : LocOk X sc) : ∀ (p : P) (x : Expr), mP N p sc x = true → PG X x (tPat A X.K B b p)
  | .v i, x, h => by
    cases x with
    | Name n pos =>
      simp [mP] at h
      obtain ⟨h1, h2⟩ := hl n h.1
      refine pg_imp (L2.pg_name (i := i) hN (by rw [hNN]; exact h.2) h1 h2) fun v σ H Q q => ?_
      obtain ⟨io, s, m, d, s2, R, S, r, e, q⟩ := q
      simp only [setP] at e
      cases e
      exact q _ (S.set r i) fun j hj => List.getElem?_set_ne (fun z => hj (by simp [pv, z]))
    | _ => simp [mP] at h
  | .t ps, x, h => by
    cases x with
    | Tuple xs k pos =>
      simp only [mP] at h
      obtain ⟨l1, l2⟩ := tgs_len (env := X.env) (mPs_tg h)
      refine pg_imp (L2.pg_tup (n := xs.length) hc (pgs_pat hc hN hNN hl ps xs h) l1 l2) fun v σ H Q q => ?_
      obtain ⟨io, s, m, d, s2, R, S, r, e, q⟩ := q
      cases d with
      | tup ds =>
        simp only [setP] at e
        obtain ⟨a, vs, rfl, h1, h2, _⟩ := r.tupSq
        exact ⟨a, vs, rfl, h1, by rw [← h2.length]; exact mPs_len h e, io, s, m, ds, s2, R, S, h2, e, q⟩
      | _ => simp [setP] at e
    | _ => simp [mP] at h
  | .nil, _, h => by simp [mP] at h
  | .cons _ _, _, h => by simp [mP] at h
theorem pgs_pat (hc : X.calm = true) (hN : X.N.Nodup) (hNN : X.N = N) {sc : Scope} (hl : LocOk X sc) : ∀ (p : P) (xs : List Expr), mPs N p sc xs = true → PGs X xs (tPats A X.K B b p)
  | .nil, xs, h => by
    simp [mPs] at h
    subst h
    refine pgs_imp L2.pgs_nil fun v σ H Q q => ?_
    obtain ⟨io, s, m, ds, s2, R, S, r, e, q⟩ := q
    cases ds with
    | nil =>
      cases r
      simp only [setPs] at e
      cases e
      exact ⟨rfl, q σ S fun _ _ => rfl⟩
    | cons _ _ => simp [setPs] at e
  | .cons p ps, xs, h => by
    cases xs with
    | nil => simp [mPs] at h
    | cons x xr =>
      simp [mPs] at h
      refine pgs_imp (L2.pgs_cons (pg_pat hc hN hNN hl p x h.1) (pgs_pat hc hN hNN hl ps xr h.2) (by rw [tg_each (mP_tg h.1)]; rfl)) fun v σ H Q q => ?_
      obtain ⟨io, s, m, ds, s2, R, S, r, e, q⟩ := q
      cases ds with
      | nil => simp [setPs] at e
      | cons d ds =>
        simp only [setPs] at e
        cases e1 : setP p d s with
        | none => rw [e1] at e; cases e
        | some s' =>
          rw [e1] at e
          cases r with
          | cons r1 r2 =>
            refine ⟨_, _, rfl, io, s, m, d, s', R, S, r1, e1, fun σ2 S2 k2 => ⟨io, s', m, ds, s2, R, S2, r2, e, fun σ3 S3 k3 => q σ3 S3 fun j hj => ?_⟩⟩
            rw [k3 j (fun z => hj (by simp [pv, z])), k2 j (fun z => hj (by simp [pv, z]))]
  | .v _, _, h => by simp [mPs] at h
  | .t _, _, h => by simp [mPs] at h
end
theorem wipe_get (σ : L2.St) (vs : List Nat) (j : Nat) : (L2.wipe σ vs)[j]? = if j ∈ vs then (if j < σ.length then some none else none) else σ[j]? := by
  by_cases h : j ∈ vs
  · rw [if_pos h]
    split
    · rename_i hl
      cases e : (L2.wipe σ vs)[j]? with
      | none =>
        rw [List.getElem?_eq_none_iff, L2.wipe_length] at e
        omega
      | some o =>
        cases o with
        | none => rfl
        | some v => exact absurd h (L2.wipe_some e).2
    · rename_i hl
      exact List.getElem?_eq_none (by rw [L2.wipe_length]; omega)
  · rw [if_neg h]
    exact L2.wipe_out h
theorem wipe_same {σ σ2 : L2.St} {vs : List Nat} (hl : σ2.length = σ.length) (h : ∀ j, j ∉ vs → σ2[j]? = (L2.wipe σ vs)[j]?) : L2.wipe σ2 vs = L2.wipe σ vs := by
  refine List.ext_getElem? fun j => ?_
  rw [wipe_get, wipe_get, hl]
  split
  · rfl
  · rename_i hj
    rw [h j hj, L2.wipe_out hj]
end
end Bo

set_option Elab.async false
set_option linter.all false
set_option maxRecDepth 100000
/-! B11: list comprehensions. -/
namespace Bo
open PySem PySem.Spec PyProof.Rows
open L2 (V HO Hp Rd SqL SqT Vals upd Cx PE PT PA PO PI PW PG PGs PTs OpR UnR CallR SlR IxR VK XK TE TT TA TO TI TG TGs Inv RelV EP Room Sp FnOk Gl Vis Binds WX Takes tOp tCons tNil It Turn PIE Loc BlkOk)
/-- no exception -/
abbrev W0 : Wi := fun _ _ _ => False
/-- what a block evaluates, over all that may be hidden -/
def tAny {α : Type} (t : Addr → L2.St → Hp → α → Prop) : L2.St → Hp → α → Prop := fun σ H Q => ∃ D, t D σ H Q
section
variable {A : Ad} {B : Nat → Nat} {b : Nat} {X : Cx} {K : PySem.W.Frag} {io : List Addr} {H : Hp}
theorem pe_any {e : Expr} {t : Addr → TE} (h : ∀ D, PE X e (t D)) : PE X e (tAny t) := ⟨fun pins s σ H Q I ⟨D, q⟩ => (h D).run pins s σ H Q I q⟩
theorem pts_any {e : List Expr} {t : Addr → TT} (h : ∀ D, PTs X e (t D)) : PTs X e (tAny t) := ⟨fun pins s σ H Q I ⟨D, q⟩ => (h D).run pins s σ H Q I q⟩
theorem pg_any {e : Expr} {t : Addr → TG} (h : ∀ D, PG X e (t D)) : PG X e (fun v σ H Q => ∃ D, t D v σ H Q) := ⟨fun pins s σ H v u Q I r ⟨D, q⟩ => (h D).run pins s σ H v u Q I r q⟩
theorem pi_any {tg e : Expr} {t : Addr → TI} (h : ∀ D, PI X tg e (t D)) : PI X tg e (tAny t) := ⟨fun pins s σ H Q I ⟨D, q⟩ => (h D).run pins s σ H Q I q⟩
theorem pts_imp {e : List Expr} {t t' : TT} (h : PTs X e t) (f : ∀ σ H Q, t' σ H Q → t σ H Q) : PTs X e t' := ⟨fun pins s σ H Q I q => h.run pins s σ H Q I (f σ H Q q)⟩
theorem n_ts0 : PTs X [] (tG A X.K B b RId W0 fun _ m => some (.ok true, m)) := pts_imp L2.pts_nil fun σ H Q q => by
  obtain ⟨io, s, m, R, S, q⟩ := q
  exact q.fin R rfl
theorem n_ts1 {e : Expr} {f : Sg → M → Option (Rs D × M)} (h : PT X e (tG A X.K B b RId W0 fun s m => tst (f s m))) : PTs X [e] (tG A X.K B b RId W0 fun s m => bnd (f s m) fun x m1 => match x with
    | .bl b => some (.ok b, m1)
    | _ => none) := pts_imp (L2.pts_one h) fun σ H Q q => q
theorem lc_stands {src : Option (Nat × List D)} {bd : D → M → Option (Rs (Option D) × M)} {xs : List D} {m : M} {r : Rs (List D) × M} (h : lcGo src bd xs m = some r) : stands m src = true := by
  cases xs with
  | nil =>
    unfold lcGo at h
    split at h
    · assumption
    · cases h
  | cons x r =>
    unfold lcGo at h
    split at h
    · assumption
    · cases h
theorem lc_ok {src : Option (Nat × List D)} {bd : D → M → Option (Rs (Option D) × M)} : ∀ {xs : List D} {m : M} {c : Nat} {m2 : M}, lcGo src bd xs m ≠ some (.ex c, m2)
  | [], m, c, m2, h => by
    unfold lcGo at h
    split at h
    · cases h
    · cases h
  | x :: r, m, c, m2, h => by
    unfold lcGo at h
    split at h
    · split at h
      · split at h
        · cases h
        · cases h
      · cases h
    · cases h
theorem lc_cons {src : Option (Nat × List D)} {bd : D → M → Option (Rs (Option D) × M)} {x : D} {r ds : List D} {m m2 : M} (h : lcGo src bd (x :: r) m = some (.ok ds, m2)) :
    ∃ o m1 ds', bd x m = some (.ok o, m1) ∧ lcGo src bd r m1 = some (.ok ds', m2) ∧ ds = o.toList ++ ds' := by
  unfold lcGo at h
  split at h
  · split at h
    · rename_i o m1 e
      split at h
      · rename_i ds' m2' e2
        cases h
        exact ⟨o, m1, ds', e, e2, rfl⟩
      · cases h
    · cases h
  · cases h
mutual
theorem setP_len : ∀ (p : P) (d : D) (s s2 : Sg), setP p d s = some s2 → s2.length = s.length
  | .v i, d, s, s2, h => by
    simp only [setP] at h
    cases h
    exact List.length_set ..
  | .t ps, d, s, s2, h => by
    cases d with
    | tup ds => exact setPs_len ps ds s s2 (by simpa only [setP] using h)
    | _ => simp [setP] at h
  | .nil, d, s, s2, h => by simp [setP] at h
  | .cons _ _, d, s, s2, h => by simp [setP] at h
theorem setPs_len : ∀ (p : P) (d : List D) (s s2 : Sg), setPs p d s = some s2 → s2.length = s.length
  | .nil, d, s, s2, h => by
    cases d with
    | nil => simp only [setPs] at h; cases h; rfl
    | cons _ _ => simp [setPs] at h
  | .cons p ps, d, s, s2, h => by
    cases d with
    | nil => simp [setPs] at h
    | cons x xs =>
      simp only [setPs] at h
      cases e : setP p x s with
      | none => rw [e] at h; cases h
      | some s' =>
        rw [e] at h
        rw [setPs_len ps xs s' s2 h, setP_len p x s s' e]
  | .v _, d, s, s2, h => by simp [setPs] at h
  | .t _, d, s, s2, h => by simp [setPs] at h
end
/-- one turn of a comprehension -/
def lcBd (p : P) (ft : Sg → M → Option (Rs Bool × M)) (fe : Sg → M → Option (Rs D × M)) (s : Sg) : D → M → Option (Rs (Option D) × M) := fun x m2 => match setP p x s with
  | some s2 => bnd (ft s2 m2) fun k m3 => if k then bnd (fe s2 m3) fun d m4 => some (.ok (some d), m4) else some (.ok none, m3)
  | none => none
theorem lcBd_ex {p : P} {ft : Sg → M → Option (Rs Bool × M)} {fe : Sg → M → Option (Rs D × M)} {s : Sg} {x : D} {m m1 : M} {o : Option D} (h : lcBd p ft fe s x m = some (.ok o, m1)) :
    ∃ s2, setP p x s = some s2 ∧ ((∃ m3 d, ft s2 m = some (.ok true, m3) ∧ fe s2 m3 = some (.ok d, m1) ∧ o = some d) ∨ (ft s2 m = some (.ok false, m1) ∧ o = none)) := by
  unfold lcBd at h
  split at h
  · rename_i s2 e
    refine ⟨s2, e, ?_⟩
    cases e1 : ft s2 m with
    | none => rw [e1] at h; cases h
    | some q =>
      obtain ⟨k, m3⟩ := q
      rw [e1] at h
      cases k with
      | ex c => cases h
      | ok k =>
        cases k with
        | false =>
          cases h
          exact .inr ⟨rfl, rfl⟩
        | true =>
          have h : bnd (fe s2 m3) (fun d m4 => some (.ok (some d), m4)) = some (.ok o, m1) := h
          cases e2 : fe s2 m3 with
          | none => rw [e2] at h; cases h
          | some q =>
            obtain ⟨d, m4⟩ := q
            rw [e2] at h
            cases d with
            | ex c => cases h
            | ok d =>
              cases h
              exact .inl ⟨m3, d, rfl, e2, rfl⟩
  · cases h
theorem gW0_of {α β : Type} {RR : List Addr → Hp → α → β → Prop} {σ : L2.St} {d : α} {m : M} {Q : β → Hp → Prop} (h : ∀ io' H' v, Ext A io io' H H' → Rel A K B b io' H' m → RR io' H' d v → Q v H') {r : Option (Rs α × M)} (e : r = some (.ok d, m)) : gW A K B b RR W0 io σ H r Q := by
  rw [e]
  exact h
/-- the list made, told -/
theorem lc_end {al : Bool} {σ : L2.St} {io1 io' : List Addr} {H1 H' : Hp} {m2 : M} {ds : List D} {vs : List V} {D : Addr} {W : Wi} {Q : VK} (R1 : Rel A K B b io1 H1 m2 ∨ True) (hd : D ∉ A.hd) (hD : H1 D = none) (x : Ext (A.hide D) io1 io' H1 H') (R : Rel (A.hide D) K B b io' H' m2) (hv : H' D = some (.lst vs)) (r : Reps (A.hide D) K io' io'.length H' ds vs)
    (q : gW A K B b (RD A K) W io1 σ H1 (if ds.length ≤ sizeLine then (if al then some (.ok (.ref m2.length), m2 ++ [.lst ds]) else some (.ok (.lst ds), m2)) else none) Q) : Q (.ref D) H' := by
  split at q
  · rename_i hz
    have hio : D ∉ io' := (R.hid D List.mem_cons_self).1
    split at q
    · have r2 : Reps A K (io' ++ [D]) (io'.length + 1) H' ds vs := r.adopt.le (Nat.le_succ _)
      refine q (io' ++ [D]) H' (.ref D) ?_ (R.adopt hd ⟨vs, hv, r2, hz⟩) ?_
      · obtain ⟨⟨nw, e⟩, k, w, hi⟩ := x.unhide hD
        refine ⟨⟨nw ++ [D], by rw [e, List.append_assoc]⟩, k, fun a ha hn => ?_, hi⟩
        rcases List.mem_append.mp ha with z | z
        · exact w a z hn
        · have e : a = D := by simpa using z
          rw [e]
          exact hD
      · show Rep A K (io' ++ [D]) (io' ++ [D]).length H' (.ref m2.length) (.ref D)
        refine .ref ?_ ?_
        · rw [List.length_append, ← R.len]; exact Nat.lt_succ_self _
        · rw [← R.len, List.getElem?_append_right (Nat.le_refl _), Nat.sub_self]; rfl
    · exact q io' H' (.ref D) (x.unhide hD) R.unhide (.lst ⟨hio, hd⟩ hv hz r.unhide)
  · exact q.elim
theorem drop_cons {α : Type} {xs : List α} {i : Nat} {d : α} (h : xs[i]? = some d) : xs.drop i = d :: xs.drop (i + 1) := by
  obtain ⟨h1, h2⟩ := List.getElem?_eq_some_iff.mp h
  rw [List.drop_eq_getElem_cons h1, h2]
variable {W : Wi}
/-- a comprehension's parts -/
structure LcP (A : Ad) (X : Cx) (B : Nat → Nat) (b : Nat) (W : Wi) (elt tg iter : Expr) (ifs : List Expr) (scope : Scope) (own : List (Str × Nat)) (p : P) (fi : Sg → M → Option (Rs Its × M)) (ft : Sg → M → Option (Rs Bool × M)) (fe : Sg → M → Option (Rs D × M)) : Prop where
  hi : PI X tg iter (tI A X B b W fi)
  ok : BlkOk X.N X.env.scope scope own
  hp : ∀ j, j ∈ pv p → j ∈ own.map (·.2)
  hg : ∀ (s : Shared) (H : Hp) (C : Addr) (cl : List (Str × Addr)) (fp : List Addr) (D : Addr), PG (X.blk s H scope (compEnvC scope cl C X.env) fp) tg (tPat (A.hide D) X.K B b p)
  ht : ∀ (s : Shared) (H : Hp) (C : Addr) (cl : List (Str × Addr)) (fp : List Addr) (D : Addr), PTs (X.blk s H scope (compEnvC scope cl C X.env) fp) ifs (tG (A.hide D) X.K B b RId W0 ft)
  he : ∀ (s : Shared) (H : Hp) (C : Addr) (cl : List (Str × Addr)) (fp : List Addr) (D : Addr), PE (X.blk s H scope (compEnvC scope cl C X.env) fp) elt (tG (A.hide D) X.K B b (RD (A.hide D) X.K) W0 fe)
  hs : ∀ x, foldedSetIterable iter X.env x = pure x
/-- what it evaluates to -/
def lcV (al : Bool) (vs : List Nat) (p : P) (fi : Sg → M → Option (Rs Its × M)) (ft : Sg → M → Option (Rs Bool × M)) (fe : Sg → M → Option (Rs D × M)) : Sg → M → Option (Rs D × M) := fun s m => bnd (fi s m) fun its m1 => bnd (lcGo its.2 (lcBd p ft fe (wip s vs)) its.1 m1) fun ds m2 =>
  if ds.length ≤ sizeLine then (if al then some (.ok (.ref m2.length), m2 ++ [.lst ds]) else some (.ok (.lst ds), m2)) else none
theorem lc_imp {al : Bool} {own : List (Str × Nat)} {p : P} {fi : Sg → M → Option (Rs Its × M)} {ft : Sg → M → Option (Rs Bool × M)} {fe : Sg → M → Option (Rs D × M)} (hp : ∀ j, j ∈ pv p → j ∈ own.map (·.2)) (σ : L2.St) (H : Hp) (Q : VK)
    (q : tD A X B b W (lcV al (own.map (·.2)) p fi ft fe) σ H Q) :
    L2.tLc (tI A X B b W fi) (fun v σ H Q => ∃ D, tPat (A.hide D) X.K B b p v σ H Q) (tAny fun D => tG (A.hide D) X.K B b RId W0 ft) (tAny fun D => tG (A.hide D) X.K B b (RD (A.hide D) X.K) W0 fe) (own.map (·.2)) σ H Q := by
  obtain ⟨io, s, m, R, S, q⟩ := q
  unfold lcV at q
  refine tG.step (RR := RI A X.K B b) R S q fun io1 H1 m1 its J x1 R1 S1 ri h1 => fun D hD => ?_
  have hdA : D ∉ A.hd := (R1.fresh hD).2
  cases hgo : lcGo its.2 (lcBd p ft fe (wip s (own.map (·.2)))) its.1 m1 with
  | none => rw [hgo] at h1; exact h1.elim
  | some r =>
    obtain ⟨r, m2⟩ := r
    cases r with
    | ex c => exact absurd hgo lc_ok
    | ok ds =>
      rw [hgo] at h1
      replace h1 : gW A X.K B b (RD A X.K) W io1 σ H1 (if ds.length ≤ sizeLine then (if al then some (.ok (.ref m2.length), m2 ++ [.lst ds]) else some (.ok (.lst ds), m2)) else none) Q := h1
      have hh : ∀ a, a ∈ D :: A.hd → a ∈ A.hd ∨ H1 a = none := fun a ha => by
        rcases List.mem_cons.mp ha with z | z
        · exact .inr (by rw [z]; exact hD)
        · exact .inl z
      have ri' := ri (D :: A.hd) hh
      have wk : L2.Walk J its.1.length (fun H' => ∃ io' m', Ext (A.hide D) io1 io' H1 H' ∧ Rel (A.hide D) X.K B b io' H' m' ∧ stands m' its.2 = true) (fun i H' x H'' => J.yld i H' x H'') :=
        ⟨fun i H' hi ⟨io', m', x, R', st⟩ => (ri' io' H' m' x R' st).1 i hi, fun H' ⟨io', m', x, R', st⟩ => (ri' io' H' m' x R' st).2.1, fun i H' x H'' _ _ y => y⟩
      have hz : ds.length ≤ sizeLine := by
        by_cases hz : ds.length ≤ sizeLine
        · exact hz
        · rw [if_neg hz] at h1
          exact h1.elim
      refine L2.lc_it (g := fun v σ H Q => ∃ D, tPat (A.hide D) X.K B b p v σ H Q) (tt := tAny fun D => tG (A.hide D) X.K B b RId W0 ft) (te := tAny fun D => tG (A.hide D) X.K B b (RD (A.hide D) X.K) W0 fe) (vs := own.map (·.2)) (σ := σ) (H1 := H1) (D := D) (Qd := fun H' => Q (.ref D) H') wk (fun i H' => ∃ io' m' acc vacc rest, Ext (A.hide D) io1 io' H1 H' ∧ Rel (A.hide D) X.K B b io' H' m' ∧ H' D = some (.lst vacc) ∧ Reps (A.hide D) X.K io' io'.length H' acc vacc ∧
        lcGo its.2 (lcBd p ft fe (wip s (own.map (·.2)))) (its.1.drop i) m' = some (.ok rest, m2) ∧ ds = acc ++ rest) ?_ ?_ ?_ ?_
      · exact ⟨io1, m1, [], [], ds, ext_new _ hD, R1.hide hD (fun _ z => by cases z), L2.upd_same, .nil, hgo, rfl⟩
      · rintro i H' hi ⟨io', m', acc, vacc, rest, e1, e2, e3, e4, e5, e6⟩
        exact ⟨io', m', e1, e2, lc_stands e5⟩
      · rintro i x H' H'' hi ⟨io', m', acc, vacc, rest, e1, e2, e3, e4, e5, e6⟩ hy
        have hx : its.1[i]? = some its.1[i] := List.getElem?_eq_getElem hi
        obtain ⟨y1, y2, y3⟩ := (ri' io' H' m' e1 e2 (lc_stands e5)).2.2 i _ x H'' hx hy
        rw [drop_cons hx] at e5
        obtain ⟨o, m3, ds', b1, b2, b3⟩ := lc_cons e5
        obtain ⟨s2, p1, p2⟩ := lcBd_ex b1
        have x2 : Ext (A.hide D) io1 io' H1 H'' := e1.trans y1
        have S2 : RelS (A.hide D) X.K io' H'' s σ := by
          refine ⟨S1.1, fun j d e => ?_⟩
          obtain ⟨v, q1, q2⟩ := S1.2 j d e
          exact ⟨v, q1, (Rep.hide hD q2).mono x2 x2.len⟩
        have hl := S2.wip (own.map (·.2))
        refine ⟨D, io', wip s (own.map (·.2)), m', _, s2, y2, hl, y3, p1, fun σ2 S3 k2 => ⟨?_, ?_⟩⟩
        · refine wipe_same ?_ fun j hj => k2 j fun z => hj (hp j z)
          have q1 := S3.1
          have q2 : s2.length = (wip s (own.map (·.2))).length := setP_len _ _ _ _ p1
          rw [← q1, q2, hl.1, L2.wipe_length]
        · have hacc : H'' D = some (.lst vacc) := y1.hid D _ List.mem_cons_self e3
          have racc : Reps (A.hide D) X.K io' io'.length H'' acc vacc := e4.mono y1 (Nat.le_refl _)
          rcases p2 with ⟨m4, d, t1, t2, rfl⟩ | ⟨t1, rfl⟩
          · refine ⟨D, io', s2, m', y2, S3, gW0_of (d := true) (m := m4) (fun io3 H3 k x3 R3 hk => ?_) t1⟩
            cases hk
            rw [if_pos rfl]
            refine ⟨D, io3, s2, m4, R3, S3.mono x3, gW0_of (d := d) (m := m3) (fun io4 H4 v x4 R4 hv => ?_) t2⟩
            have hacc4 : H4 D = some (.lst vacc) := x4.hid D _ List.mem_cons_self (x3.hid D _ List.mem_cons_self hacc)
            have hv : Rep (A.hide D) X.K io4 io4.length H4 d v := hv
            have racc4 : Reps (A.hide D) X.K io4 io4.length H4 acc vacc := (racc.mono x3 x3.len).mono x4 x4.len
            refine ⟨vacc, hacc4, ?_, io4, m3, acc ++ [d], vacc ++ [v], ds', ?_, R4.updD (fun _ z => by cases z), L2.upd_same, ?_, b2, ?_⟩
            · have q1 : acc.length < ds.length := by rw [e6, b3]; simp
              rw [← racc4.length]
              omega
            · exact ((x2.trans x3).trans x4).updD hD
            · exact (racc4.snoc hv).updD
            · rw [e6, b3]; simp
          · refine ⟨D, io', s2, m', y2, S3, gW0_of (d := false) (m := m3) (fun io3 H3 k x3 R3 hk => ?_) t1⟩
            cases hk
            rw [if_neg (by decide)]
            exact ⟨io3, m3, acc, vacc, ds', x2.trans x3, R3, x3.hid D _ List.mem_cons_self hacc, racc.mono x3 x3.len, b2, by rw [e6, b3]; rfl⟩
      · rintro H' ⟨io', m', acc, vacc, rest, e1, e2, e3, e4, e5, e6⟩
        rw [List.drop_length] at e5
        unfold lcGo at e5
        split at e5
        · cases e5
          rw [List.append_nil] at e6
          subst e6
          exact lc_end (.inr trivial) hdA hD e1 e2 e3 e4 h1
        · cases e5
theorem n_lc {al : Bool} {elt tg iter : Expr} {ifs : List Expr} {scope : Scope} {own : List (Str × Nat)} {pos : Pos} {p : P} {fi : Sg → M → Option (Rs Its × M)} {ft : Sg → M → Option (Rs Bool × M)} {fe : Sg → M → Option (Rs D × M)}
    (hc : X.calm = true) (hN : X.N.Nodup) (P : LcP A X B b W elt tg iter ifs scope own p fi ft fe) : PE X (.ListComp elt [⟨tg, iter, ifs, 0⟩] scope pos) (tD A X B b W (lcV al (own.map (·.2)) p fi ft fe)) :=
  pe_imp (L2.pe_lc hc hN P.hi P.ok (fun s H C cl fp => pg_any (P.hg s H C cl fp)) (fun s H C cl fp => pts_any (P.ht s H C cl fp)) (fun s H C cl fp => pe_any (P.he s H C cl fp)) P.hs) (lc_imp P.hp)
end
end Bo

set_option Elab.async false
set_option linter.all false
set_option maxRecDepth 100000
/-! B12: the frame of a def; calls; list(..). -/
namespace Bo
open PySem PySem.Spec PyProof.Rows
open L2 (V HO Hp Rd SqL SqT Vals upd Cx PE PT PA PO PI PW PG PGs PTs OpR UnR CallR SlR IxR VK XK TE TT TA TO TI TG TGs Inv RelV EP Room Sp FnOk Gl Vis Binds WX Takes tOp tCons tNil It Turn PIE Loc BlkOk)
/-- a wish of a call's about exceptions -/
def wE (A : Ad) (E : XK) : Wi := fun c _ H => ∀ a, A.ca c = some a → E (.ref a) none H
def spF (A : Ad) (K : PySem.W.Frag) (T : Tb) (n f : Nat) : Sp := fun vs H Q E => ∃ (hd : List Addr) (B : Nat → Nat) (b : Nat) (io : List Addr) (m : M) (ds : List D), Rel (A.wh hd) K B b io H m ∧ Reps (A.wh hd) K io io.length H ds vs ∧
  (gW (A.wh hd) K B b (RD (A.wh hd) K) (wE A E) io [] H (callN T n f ds m) Q ∨ gW (A.wh hd) K B b (RD (A.wh hd) K) (wE A E) io [] H (keepN T n b f ds m) Q)
/-- built-in names in use -/
def biNames : List Str := [nRange, nList, nDict, nSet, nSorted, nLen, nIsi, nEnum, nZip, nTuple, biN .sum, biN .all, biN .any, biN .min1, biN .abs, biN .str, biN .int, "bool"]
/-- what the books' class must have -/
structure BkOk (K : PySem.W.Frag) (C : Addr) : Prop where
  cls : L2.Cls K C
  na : ∀ x, x ∈ fldN → L2.NoAttr K C x
  sb : PySem.W.subIn K (.type "str") (.ref C) = some false
def nInit : Str := "__init__"
/-- what a text's names mean, as X sees it -/
structure Fr (A : Ad) (l : Lk) (G : List (Str × D)) (N : List Str) (T : Tb) (n : Nat) (X : Cx) : Prop where
  calm : X.calm = true
  nd : X.N.Nodup
  N : X.N = N
  room : Room (2 * n + 1) X.A
  bi : ∀ x, x ∈ biNames → X.mg x = none
  gl : ∀ (i : Nat) x d, G[i]? = some (x, d) → ∃ v u, X.mg x = some u ∧ RelV v u ∧ ∀ hd io c H, Rep (A.wh hd) X.K io c H d v
  fn : ∀ f x, l.fn f = some x → ∃ a, A.fa f = some a ∧ X.mg x = some (.ref a) ∧ PySem.W.keepIn X.K (.ref a) = true ∧ ∃ fd ps, FnOk X.prog X.w X.K X.mg X.base (L2.CX X.prog X.w) (2 * n) a fd ps (spF A X.K T n f) ∧ Binds X.K fd ps []
  cl : ∀ c x, l.cl c = some x → ∃ a, A.ca c = some a ∧ X.mg x = some (.ref a)
  cls : ClsOk A X.K
  bk : ∀ C, A.ca 13 = some C → BkOk X.K C
  mt : ∀ f x, l.mt f = some x → ∃ C a, A.ca 13 = some C ∧ A.fa f = some a ∧ L2.Meth X.K C x a ∧ (x = nInit → L2.Mk X.K C a) ∧ ∃ fd ps, FnOk X.prog X.w X.K X.mg X.base (L2.CX X.prog X.w) (2 * n) a fd ps (spF A X.K T n f) ∧ Binds X.K fd ps []
theorem Fr.rm {A : Ad} {l : Lk} {G : List (Str × D)} {N : List Str} {T : Tb} {n : Nat} {X : Cx} (F : Fr A l G N T n X) : Room (2 * n) X.A := F.room.mono (Nat.le_succ _)
theorem Fr.blk {A : Ad} {l : Lk} {G : List (Str × D)} {N : List Str} {T : Tb} {n : Nat} {X : Cx} (F : Fr A l G N T n X) (s : Shared) (H : Hp) (scope : Scope) (cenv : Env) (fp : List Addr) : Fr A l G N T n (X.blk s H scope cenv fp) :=
  ⟨F.calm, F.nd, F.N, F.room, F.bi, F.gl, F.fn, F.cl, F.cls, F.bk, F.mt⟩
theorem Fr.wh {A : Ad} {l : Lk} {G : List (Str × D)} {N : List Str} {T : Tb} {n : Nat} {X : Cx} (F : Fr A l G N T n X) (hd : List Addr) : Fr (A.wh hd) l G N T n X :=
  ⟨F.calm, F.nd, F.N, F.room, F.bi, F.gl, F.fn, F.cl, ⟨F.cls.base, F.cls.own⟩, F.bk, F.mt⟩
section
variable {A : Ad} {B : Nat → Nat} {b : Nat} {X : Cx} {W : Wi} {io : List Addr} {H : Hp} {σ : L2.St} {l : Lk} {G : List (Str × D)} {N : List Str} {T : Tb} {n : Nat}
variable {f g h : Sg → M → Option (Rs D × M)} {fs : Sg → M → Option (Rs (List D) × M)} {e e2 e3 tg : Expr} {es : List Expr} {pos : Pos}
theorem gW.toE {K : PySem.W.Frag} {α β : Type} {RR : List Addr → Hp → α → β → Prop} {r : Option (Rs α × M)} {Q : β → Hp → Prop} (h : gW A K B b RR W io σ H r Q) : gW A K B b RR (wE A (L2.WE (wxOf A W) σ)) io [] H r Q := by
  unfold gW at h ⊢
  split at h
  · exact h
  · rename_i c m
    exact fun io' H' x R a ha => ⟨c, a, ha, rfl, rfl, h io' H' x R⟩
  · exact h
theorem n_call {k : Nat} {x : Str} {p : Pos} (F : Fr A l G N T n X) (tk : Takes X (wxOf A W)) (hl : l.fn k = some x) (hg : glB X.env.scope x = true) (ha : PA X (e :: es) (tDs A X B b W fs)) (hp : (e :: es).all plE = true) :
    PE X (.Call (.Name x p) (e :: es) [] pos) (tD A X B b W fun s m => bnd (fs s m) fun ds m1 => callN T n k ds m1) := by
  obtain ⟨a, h1, h2, h3, fd, ps, h4, h5⟩ := F.fn k x hl
  rw [List.all_cons, Bool.and_eq_true] at hp
  refine pe_imp (L2.pe_callSD h4 F.rm (gl_of hg).1 h2 h3 h5 .nil (fun σ => L2.passAt tk σ) ha (gl_of hg).2.1 (pl_star hp.1 _ _) (pl_any hp.2)) fun σ H Q q => ?_
  obtain ⟨io, s, m, R, S, q⟩ := q
  refine tG.step (RR := RDs A X.K) R S q fun io1 H1 m1 d v x1 R1 S1 r1 h1 => ?_
  exact ⟨A.hd, B, b, io1, m1, d, R1, by rw [List.append_nil]; exact r1, .inl h1.toE⟩
theorem n_callk {k : Nat} {x : Str} {p : Pos} (F : Fr A l G N T n X) (tk : Takes X (wxOf A W)) (hl : l.fn k = some x) (hg : glB X.env.scope x = true) (ha : PA X (e :: es) (tDs A X B b W fs)) (hp : (e :: es).all plE = true) :
    PE X (.Call (.Name x p) (e :: es) [] pos) (tD A X B b W fun s m => bnd (fs s m) fun ds m1 => keepN T n b k ds m1) := by
  obtain ⟨a, h1, h2, h3, fd, ps, h4, h5⟩ := F.fn k x hl
  rw [List.all_cons, Bool.and_eq_true] at hp
  refine pe_imp (L2.pe_callSD h4 F.rm (gl_of hg).1 h2 h3 h5 .nil (fun σ => L2.passAt tk σ) ha (gl_of hg).2.1 (pl_star hp.1 _ _) (pl_any hp.2)) fun σ H Q q => ?_
  obtain ⟨io, s, m, R, S, q⟩ := q
  refine tG.step (RR := RDs A X.K) R S q fun io1 H1 m1 d v x1 R1 S1 r1 h1 => ?_
  exact ⟨A.hd, B, b, io1, m1, d, R1, by rw [List.append_nil]; exact r1, .inr h1.toE⟩
theorem n_call0 {k : Nat} {x : Str} {p : Pos} (F : Fr A l G N T n X) (tk : Takes X (wxOf A W)) (hl : l.fn k = some x) (hg : glB X.env.scope x = true) :
    PE X (.Call (.Name x p) [] [] pos) (tD A X B b W fun s m => callN T n k [] m) := by
  obtain ⟨a, h1, h2, h3, fd, ps, h4, h5⟩ := F.fn k x hl
  refine ⟨fun pins s σ H Q I q => ?_⟩
  obtain ⟨io, sg, m, R, S, q⟩ := q
  refine wpAny_Call_Name_kw (L2.ld_glob I (gl_of hg).1 h2 ?_ (gl_of hg).2.1)
  exact PySem.W.callWith_K0 I.kIn h3 (L2.run_fnSD (us := []) (vs := []) (dvs := []) (ds := []) (E := L2.WE (wxOf A W)) h4 F.rm h5 .nil (L2.passAt tk σ) I .nil ⟨A.hd, B, b, io, m, [], R, .nil, .inl q.toE⟩)
/-! ### list(range(..)), list(..) -/
theorem bnd_assoc {α β γ : Type} (r : Option (Rs α × M)) (k : α → M → Option (Rs β × M)) (k2 : β → M → Option (Rs γ × M)) : bnd (bnd r k) k2 = bnd r fun a m => bnd (k a m) k2 := by
  cases r with
  | none => rfl
  | some p =>
    obtain ⟨x, m⟩ := p
    cases x <;> rfl
theorem gW.lst {al : Bool} {m : M} {ds : List D} {vs : List V} {p : Addr} {Q : VK} (R : Rel A X.K B b io H m) (hp : H p = none) (r : Reps A X.K io io.length H ds vs) (q : gW A X.K B b (RD A X.K) W io σ H (lstK al (some ds) m) Q) : Q (.ref p) (upd H p (.lst vs)) := by
  unfold lstK at q
  simp only at q
  split at q
  · rename_i hz
    split at q
    · exact gW.push R q hp r hz
    · exact Aft.lst R q hp r hz
  · exact q.elim
theorem reps_rng {K : PySem.W.Frag} {c : Nat} (lo hi : Int) : Reps A K io c H (rngD lo (hi - lo).toNat) (L2.rgV lo hi) := Reps.map (fun i => .int _) _
theorem lstK_len {al : Bool} {ds : List D} {m : M} (h : lstK al (some ds) m ≠ none) : ds.length ≤ sizeLine := by
  unfold lstK at h
  simp only at h
  split at h
  · assumption
  · exact absurd rfl h
theorem gW.some {K : PySem.W.Frag} {α β : Type} {RR : List Addr → Hp → α → β → Prop} {r : Option (Rs α × M)} {Q : β → Hp → Prop} (h : gW A K B b RR W io σ H r Q) : r ≠ none := by
  rintro rfl
  exact h
theorem rng_size {lo hi : Int} (h : (rngD lo (hi - lo).toNat).length ≤ sizeLine) : (hi - lo).toNat ≤ 2 ^ 24 := by
  rw [sizeLine_eq] at h
  simpa [rngD] using h
theorem n_lsr1 {al : Bool} {x y : Str} {p p2 pos2 : Pos} (hc : X.calm = true) (hg : glB X.env.scope x = true) (hn : x = ("list" : Str)) (hm : X.mg "list" = none) (hg2 : glB X.env.scope y = true) (hn2 : y = ("range" : Str)) (hm2 : X.mg "range" = none) (hp : plE e = true) (ha : PE X e (tD A X B b W f)) :
    PE X (.Call (.Name x p) [.Call (.Name y p2) [e] [] pos2] [] pos) (tD A X B b W fun s m => bnd (f s m) fun d m1 => lsrK al [d] m1) := by
  subst hn hn2
  refine pe_imp (L2.pe_listRg hc (gl_of hg).1 hm (L2.prg_1 (gl_of hg2).1 hm2 ha (pl_star hp _ _))) fun σ H Q q => ?_
  obtain ⟨io, s, m, R, S, q⟩ := q
  refine tG.step (RR := RD A X.K) R S q fun io1 H1 m1 d v x1 R1 S1 r1 h1 => ?_
  unfold lsrK rgD at h1
  split at h1
  · rename_i j hj
    cases hj
    cases r1
    split at h1
    · rename_i hz
      rw [Bool.and_eq_true, decide_eq_true_eq, decide_eq_true_eq] at hz
      have h1 : gW A X.K B b (RD A X.K) W io1 σ H1 (lstK al (some (rngD 0 (j - 0).toNat)) m1) Q := by rw [Int.sub_zero]; exact h1
      exact ⟨j, rfl, ⟨by decide, by decide, hz.1, hz.2, rng_size (lstK_len h1.some)⟩, fun q hq => gW.lst R1 hq (reps_rng 0 j) h1⟩
    · exact h1.elim
  · rename_i h; cases h
  · rename_i h; cases h
  · exact h1.elim
theorem n_lsr2 {al : Bool} {x y : Str} {p p2 pos2 : Pos} (hc : X.calm = true) (hg : glB X.env.scope x = true) (hn : x = ("list" : Str)) (hm : X.mg "list" = none) (hg2 : glB X.env.scope y = true) (hn2 : y = ("range" : Str)) (hm2 : X.mg "range" = none) (hp : plE e = true) (hp2 : plE e2 = true) (ha : PE X e (tD A X B b W f)) (hb : PE X e2 (tD A X B b W g)) :
    PE X (.Call (.Name x p) [.Call (.Name y p2) [e, e2] [] pos2] [] pos) (tD A X B b W fun s m => bnd (f s m) fun d m1 => bnd (g s m1) fun d2 m2 => lsrK al [d, d2] m2) := by
  subst hn hn2
  refine pe_imp (L2.pe_listRg hc (gl_of hg).1 hm (L2.prg_2 (gl_of hg2).1 hm2 ha hb (pl_star hp _ _) (pl_star hp2 _ _) (pl_any (by simp [hp2])))) fun σ H Q q => ?_
  obtain ⟨io, s, m, R, S, q⟩ := q
  refine tG.step (RR := RD A X.K) R S q fun io1 H1 m1 d v x1 R1 S1 r1 h1 => tG.step (RR := RD A X.K) R1 S1 h1 fun io2 H2 m2 d2 v2 x2 R2 S2 r2 h2 => ?_
  unfold lsrK rgD at h2
  split at h2
  · rename_i h; cases h
  · rename_i i j hj
    cases hj
    cases r1; cases r2
    split at h2
    · rename_i hz
      rw [Bool.and_eq_true, Bool.and_eq_true, Bool.and_eq_true, decide_eq_true_eq, decide_eq_true_eq, decide_eq_true_eq, decide_eq_true_eq] at hz
      exact ⟨i, j, rfl, rfl, ⟨hz.1.1.1, hz.1.1.2, hz.1.2, hz.2, rng_size (lstK_len h2.some)⟩, fun q hq => gW.lst R2 hq (reps_rng i j) h2⟩
    · exact h2.elim
  · rename_i h; cases h
  · exact h2.elim
def rLsq (A : Ad) (K : PySem.W.Frag) (B : Nat → Nat) (b : Nat) : List V → Hp → VK → Prop := fun xs H Q => ∃ io m d ds v, xs = [v] ∧ Rel A K B b io H m ∧ Rep A K io io.length H d v ∧ lsqM m d = some ds ∧ ∀ p vs, H p = none → Reps A K io io.length H ds vs → Q (.ref p) (upd H p (.lst vs))
theorem reps_keys {K : PySem.W.Frag} {m : M} (R : Rel A K B b io H m) : ∀ {kvs : List (List Key × V)} {bs : List Addr}, L2.IsKeys H kvs bs → (∀ k, k ∈ kvs.map (·.1) → k.length ≤ sizeLine) → Reps A K io io.length H ((kvs.map (·.1)).map keyT) (bs.map V.ref)
  | _, _, .nil, _ => .nil
  | (k, v) :: kvs, c :: bs, .cons h t, hz => by
    refine .cons (rep_keyT (hd := A.hd) R h (hz k (by simp))) (reps_keys R t fun k hk => hz k (List.mem_cons_of_mem _ hk))
theorem cr_lsq (hc : X.calm = true) : CallR X (.type "list") (rLsq A X.K B b) := by
  intro pins s σ H xs us Q I rv h
  obtain ⟨io, m, d, ds, v, rfl, R, r, e, q⟩ := h
  have other : (∀ ks vs, d ≠ .dct ks vs) → seqM m d = some ds → wpAny (model X.prog X.w) X.A (call (.type "list") us) (EP X pins σ Q) X.xe s := fun _ e => by
    obtain ⟨a, vs, rfl, hq, hr, _⟩ := r.seqEx R e
    exact L2.call_list_of pins s σ H _ us Q I rv ⟨a, vs, rfl, hq, fun l hl => q l vs hl hr⟩
  unfold lsqM at e
  split at e
  · rename_i ks vs
    cases e
    cases r with
    | @dct a kvs _ _ hu hr hk rs hz =>
      subst hk
      refine L2.call_list_dT hc pins s σ H _ us Q I rv ⟨a, kvs, rfl, hr, fun p bs hp hb => q p _ hp (reps_keys R hb fun k hk => ?_)⟩
      obtain ⟨pr, h1, rfl⟩ := List.mem_map.mp hk
      have key : ∀ {kvs : List (List Key × V)} {bs : List Addr}, L2.IsKeys H kvs bs → pr ∈ kvs → ∃ c, H c = some (.tup (pr.1.map L2.kV)) := fun {kvs bs} hb => by
        induction hb with
        | nil => intro h; cases h
        | cons h t ih =>
          intro hm
          rcases List.mem_cons.mp hm with z | z
          · subst z
            exact ⟨_, h⟩
          · exact ih z
      obtain ⟨c, hc'⟩ := key hb h1
      have := (I.hok c _ hc').1
      rwa [List.length_map] at this
  · exact other (fun ks vs z => by subst z; rename_i h; exact h _ _ rfl) e
theorem n_lsq {al : Bool} {x : Str} {p : Pos} (hc : X.calm = true) (hg : glB X.env.scope x = true) (hn : x = ("list" : Str)) (hm : X.mg "list" = none) (hp : plE e = true) (ha : PE X e (tD A X B b W f)) :
    PE X (.Call (.Name x p) [e] [] pos) (tD A X B b W fun s m => bnd (f s m) fun d m1 => lstK al (lsqM m1 d) m1) := by
  subst hn
  refine pe_imp (L2.pe_callTy (cr_lsq (A := A) (B := B) (b := b) hc) (gl_of hg).1 hm (by decide +kernel) (L2.pa_cons ha L2.pa_nil (pl_star hp _ _)) (gl_of hg).2.2 (gl_of hg).2.1 (pl_star hp _ _) rfl) fun σ H Q q => ?_
  obtain ⟨io, s, m, R, S, q⟩ := q
  refine tG.step (RR := RD A X.K) R S q fun io1 H1 m1 d v x1 R1 S1 r1 h1 => ?_
  cases hd : lsqM m1 d with
  | none => rw [hd] at h1; exact h1.elim
  | some ds =>
    rw [hd] at h1
    exact ⟨io1, m1, d, ds, v, rfl, R1, r1, hd, fun p vs hp r => gW.lst R1 hp r h1⟩
end
end Bo

set_option Elab.async false
set_option linter.all false
set_option maxRecDepth 100000
/-! B13: statements. -/
namespace Bo
open PySem PySem.Spec PyProof.Rows
open L2 (V HO Hp Rd SqL SqT Vals upd Cx PE PT PA PO PI PW PG PGs PTs PS PSs OpR UnR CallR SlR IxR VK XK TE TT TA TO TI TG TGs TS Ends Inv RelV EP Room Sp FnOk Gl Vis Binds WX Takes tOp tCons tNil It Turn PIE Loc BlkOk)
section
variable (A : Ad) (K : PySem.W.Frag) (B : Nat → Nat) (b : Nat)
/-- what is wanted behind a statement -/
def sW (W : Wi) (io : List Addr) (k : Nat) (H : Hp) (r : Option (Out × M)) (D : Ends) : Prop := match r with
  | some (.nx s', m') => ∀ io' H' σ', Ext A io io' H H' → Rel A K B b io' H' m' → RelS A K io' H' s' σ' → σ'.length = k → D.nx σ' H'
  | some (.rt d, m') => ∀ io' H' v, Ext A io io' H H' → Rel A K B b io' H' m' → Rep A K io' io'.length H' d v → D.rt v H'
  | some (.ex c, m') => ∀ io' H' σ', Ext A io io' H H' → Rel A K B b io' H' m' → σ'.length = k → W c σ' H'
  | none => False
def tS (W : Wi) (f : Sg → M → Option (Out × M)) : TS := fun D σ H => ∃ io s m, Rel A K B b io H m ∧ RelS A K io H s σ ∧ sW A K B b W io σ.length H (f s m) D
end
section
variable {A : Ad} {B : Nat → Nat} {b : Nat} {X : Cx} {W : Wi} {io io1 : List Addr} {H H1 : Hp} {σ : L2.St} {K : PySem.W.Frag} {k : Nat} {D : Ends}
theorem sW.ext {r : Option (Out × M)} (x : Ext A io io1 H H1) (h : sW A K B b W io k H r D) : sW A K B b W io1 k H1 r D := by
  unfold sW at h ⊢
  split at h
  · exact fun io' H' σ' y => h io' H' σ' (x.trans y)
  · exact fun io' H' v y => h io' H' v (x.trans y)
  · exact fun io' H' σ' y => h io' H' σ' (x.trans y)
  · exact h
theorem sW.mono2 {r : Option (Out × M)} {D2 : Ends} (h : sW A K B b W io k H r D) (q : ∀ σ' H', D.nx σ' H' → D2.nx σ' H') (q2 : ∀ v H', D.rt v H' → D2.rt v H') : sW A K B b W io k H r D2 := by
  unfold sW at h ⊢
  split at h
  · exact fun io' H' σ' y a b c => q _ _ (h io' H' σ' y a b c)
  · exact fun io' H' v y a b => q2 _ _ (h io' H' v y a b)
  · exact h
  · exact h
theorem sW.mono {r : Option (Out × M)} {N : L2.St → Hp → Prop} (h : sW A K B b W io k H r { D with nx := N }) {N' : L2.St → Hp → Prop} (q : ∀ σ' H', N σ' H' → N' σ' H') : sW A K B b W io k H r { D with nx := N' } := h.mono2 q fun _ _ z => z
theorem sW.cast {r r' : Option (Out × M)} (e : r = r') (h : sW A K B b W io k H r D) : sW A K B b W io k H r' D := e ▸ h
theorem sW.nx {s : Sg} {m : M} (h : sW A K B b W io k H (some (.nx s, m)) D) (R : Rel A K B b io H m) (S : RelS A K io H s σ) (hk : σ.length = k) : D.nx σ H := h io H σ (Ext.refl io H) R S hk
theorem ps_imp {st : Stmt} {t t' : TS} (h : PS X st t) (f : ∀ D σ H, t' D σ H → t D σ H) : PS X st t' := ⟨fun pins s σ H D I q => h.run pins s σ H D I (f D σ H q)⟩
theorem pss_imp {st : List Stmt} {t t' : TS} (h : PSs X st t) (f : ∀ D σ H, t' D σ H → t D σ H) : PSs X st t' := ⟨fun pins s σ H D I q => h.run pins s σ H D I (f D σ H q)⟩
/-- an expression's value, then a statement's end -/
theorem tG.stepS {s : Sg} {m : M} {f : Sg → M → Option (Rs Bo.D × M)} {c : Bo.D → M → Option (Out × M)} {Q : VK} (R : Rel A K B b io H m) (S : RelS A K io H s σ) (h : sW A K B b W io σ.length H (eb (f s m) c) D)
    (q : ∀ io1 H1 m1 d v, Ext A io io1 H H1 → Rel A K B b io1 H1 m1 → RelS A K io1 H1 s σ → Rep A K io1 io1.length H1 d v → sW A K B b W io1 σ.length H1 (c d m1) D → Q v H1) : tG A K B b (RD A K) W f σ H Q := by
  refine ⟨io, s, m, R, S, ?_⟩
  unfold gW
  cases e : f s m with
  | none => rw [e] at h; exact h
  | some p =>
    obtain ⟨r, m1⟩ := p
    rw [e] at h
    cases r with
    | ex c => exact fun io' H' x R' => h io' H' σ x R' rfl
    | ok d => exact fun io' H' v x R' rr => q io' H' m1 d v x R' (S.mono x) rr (sW.ext x h)
variable {f g h : Sg → M → Option (Rs Bo.D × M)} {e e2 e3 tg : Expr} {es : List Expr} {pos : Pos} {st : Stmt} {sts sts2 : List Stmt} {F F2 : Sg → M → Option (Out × M)}
abbrev tSt (A : Ad) (X : Cx) (B : Nat → Nat) (b : Nat) (W : Wi) (f : Sg → M → Option (Out × M)) : TS := tS A X.K B b W f
theorem s_nil : PSs X [] (tSt A X B b W fun s m => some (.nx s, m)) := pss_imp L2.pss_nil fun D σ H q => by
  obtain ⟨io, s, m, R, S, q⟩ := q
  exact q.nx R S rfl
theorem s_pass : PS X (.Pass pos) (tSt A X B b W fun s m => some (.nx s, m)) := ps_imp L2.ps_pass fun D σ H q => by
  obtain ⟨io, s, m, R, S, q⟩ := q
  exact q.nx R S rfl
theorem sW.sb {s : Sg} {m : M} (q : sW A K B b W io k H (sb (F s m) fun s1 m1 => F2 s1 m1) D) : sW A K B b W io k H (F s m) { D with nx := fun σ' H' => ∃ io' s1 m1, Ext A io io' H H' ∧ Rel A K B b io' H' m1 ∧ RelS A K io' H' s1 σ' ∧ σ'.length = k ∧ sW A K B b W io' k H' (F2 s1 m1) D } := by
  unfold sW at q ⊢
  cases e : F s m with
  | none => rw [e] at q; exact q
  | some p =>
    obtain ⟨r, m1⟩ := p
    rw [e] at q
    cases r with
    | nx s1 => exact fun io' H' σ' x R' S' hk => ⟨io', s1, m1, x, R', S', hk, sW.ext x q⟩
    | rt d => exact q
    | ex c => exact q
theorem s_cons (h1 : PS X st (tSt A X B b W F)) (h2 : PSs X sts (tSt A X B b W F2)) : PSs X (st :: sts) (tSt A X B b W fun s m => sb (F s m) fun s1 m1 => F2 s1 m1) := pss_imp (L2.pss_cons h1 h2) fun D σ H q => by
  obtain ⟨io, s, m, R, S, q⟩ := q
  refine ⟨io, s, m, R, S, (sW.sb q).mono fun σ' H' z => ?_⟩
  obtain ⟨io', s1, m1, x, R', S', hk, q⟩ := z
  exact ⟨io', s1, m1, R', S', by rw [hk]; exact q⟩
def plC : Expr → Bool
  | .ListComp .. => false
  | .SetComp .. => false
  | .DictComp .. => false
  | _ => true
theorem pl_swap {e : Expr} (h : plC e = true) (t : Option Expr) (ln : Nat) (env : Env) : swapsWith e t ln env = pure false := by
  cases e <;> first | rfl | cases h
theorem pl_sole {e : Expr} (h : plC e = true) (t : Expr) (ln : Nat) (env : Env) : swapsWithSole [t] e ln env = pure false := pl_swap h _ _ _
theorem s_ex (ha : PE X e (tD A X B b W f)) (hp : plC e = true) : PS X (.Expr e pos) (tSt A X B b W fun s m => eb (f s m) fun _ m1 => some (.nx s, m1)) := ps_imp (L2.ps_expr ha (pl_swap hp _ _ _)) fun D σ H q => by
  obtain ⟨io, s, m, R, S, q⟩ := q
  exact tG.stepS R S q fun io1 H1 m1 d v x1 R1 S1 r1 h1 => h1.nx R1 S1 rfl
theorem s_ret (ha : PE X e (tD A X B b W f)) : PS X (.Return (some e) pos) (tSt A X B b W fun s m => eb (f s m) fun d m1 => some (.rt d, m1)) := ps_imp (L2.ps_ret ha) fun D σ H q => by
  obtain ⟨io, s, m, R, S, q⟩ := q
  exact tG.stepS R S q fun io1 H1 m1 d v x1 R1 S1 r1 h1 => h1 io1 H1 v (Ext.refl _ _) R1 r1
theorem s_retn : PS X (.Return none pos) (tSt A X B b W fun _ m => some (.rt .non, m)) := ps_imp L2.ps_retN fun D σ H q => by
  obtain ⟨io, s, m, R, S, q⟩ := q
  exact q io H .non (Ext.refl _ _) R .non
theorem eb_tst (r : Option (Rs Bo.D × M)) (k1 k2 : M → Option (Out × M)) : (eb r fun x m1 => match x with | .bl true => k1 m1 | .bl false => k2 m1 | _ => none) = (match tst r with
    | some (.ok c, m1) => if c = true then k1 m1 else k2 m1
    | some (.ex c, m1) => some (.ex c, m1)
    | none => none) := by
  cases r with
  | none => rfl
  | some p =>
    obtain ⟨x, m⟩ := p
    cases x with
    | ex c => rfl
    | ok d =>
      cases d with
      | bl k => cases k <;> rfl
      | _ => rfl
/-- a test, then a statement's end -/
theorem tG.stepT {s : Sg} {m : M} {f : Sg → M → Option (Rs Bool × M)} {c : Bool → M → Option (Out × M)} {Q : Bool → Hp → Prop} (R : Rel A K B b io H m) (S : RelS A K io H s σ) (h : sW A K B b W io σ.length H (match f s m with
    | some (.ok k, m1) => c k m1
    | some (.ex c, m1) => some (.ex c, m1)
    | none => none) D)
    (q : ∀ io1 H1 m1 k, Ext A io io1 H H1 → Rel A K B b io1 H1 m1 → RelS A K io1 H1 s σ → sW A K B b W io1 σ.length H1 (c k m1) D → Q k H1) : tG A K B b RId W f σ H Q := by
  refine ⟨io, s, m, R, S, ?_⟩
  unfold gW
  cases e : f s m with
  | none => rw [e] at h; exact h
  | some p =>
    obtain ⟨r, m1⟩ := p
    rw [e] at h
    cases r with
    | ex c => exact fun io' H' x R' => h io' H' σ x R' rfl
    | ok d => exact fun io' H' v x R' rr => by cases rr; exact q io' H' m1 d x R' (S.mono x) (sW.ext x h)
theorem s_ife (ht : PT X e (tT A X B b W fun s m => tst (f s m))) (h1 : PSs X sts (tSt A X B b W F)) (h2 : PSs X sts2 (tSt A X B b W F2)) : PS X (.If e sts sts2 pos) (tSt A X B b W fun s m => eb (f s m) fun x m1 => match x with
    | .bl true => F s m1
    | .bl false => F2 s m1
    | _ => none) := ps_imp (L2.ps_if ht h1 h2) fun D σ H q => by
  obtain ⟨io, s, m, R, S, q⟩ := q
  refine tG.stepT R S (sW.cast (eb_tst _ _ _) q) fun io1 H1 m1 k x1 R1 S1 h1 => ?_
  split
  · rename_i hk
    rw [if_pos hk] at h1
    exact ⟨io1, s, m1, R1, S1, h1⟩
  · rename_i hk
    rw [if_neg hk] at h1
    exact ⟨io1, s, m1, R1, S1, h1⟩
/-! ### assignments -/
theorem asg_imp {i : Nat} (D : Ends) (σ : L2.St) (H : Hp) {te : TE} {F : Sg → M → Option (Rs Bo.D × M)} (hi : ∀ σ H Q, tD A X B b W F σ H Q → te σ H Q) (q : tSt A X B b W (fun s m => eb (F s m) fun d m1 => some (.nx (s.set i (some d)), m1)) D σ H) : L2.tAsg te (L2.gName i) D σ H := by
  obtain ⟨io, s, m, R, S, q⟩ := q
  refine hi _ _ _ (tG.stepS R S q fun io1 H1 m1 d v x1 R1 S1 r1 h1 => ?_)
  exact h1 io1 H1 _ (Ext.refl _ _) R1 (S1.set r1 i) (List.length_set ..)
theorem s_asg {i : Nat} {x : Str} {px : Pos} {N : List Str} (hN : X.N.Nodup) (hNN : X.N = N) {sc : Scope} (hl : LocOk X sc) (hx : locB sc x = true) (hi : N[i]? = some x) (hp : swapsWith e (some (.Name x px)) pos.line X.env = pure false) (ha : PE X e (tD A X B b W f)) :
    PS X (.Assign [.Name x px] e pos) (tSt A X B b W fun s m => eb (f s m) fun d m1 => some (.nx (s.set i (some d)), m1)) :=
  ps_imp (L2.ps_set (i := i) hN (by rw [hNN]; exact hi) (hl x hx).1 ha hp (hl x hx).2) fun D σ H q => asg_imp D σ H (fun _ _ _ z => z) q
def swLc (sc : Scope) (y : Str) (py pos : Pos) (scope : Scope) : Bool := (sc.names.lookup y == some .local) && (py.line == pos.line) && !(scope.names.any fun (n, k) => n == y && (k == .local || k == .cell))
theorem sw_eq {elt : Expr} {gs : List Comprehension} {scope : Scope} {pos py : Pos} {y : Str} {l : Nat} {env : Env} (hk : env.scope.kind = .function) : swapsWith (.ListComp elt gs scope pos) (some (.Name y py)) l env = pure (swLc env.scope y py pos scope) := by
  have hb : env.blockKind = .function := by unfold Env.blockKind; rw [hk]; rfl
  unfold swapsWith swLc Env.kindOf
  simp only [hb, Expr.pos]
  rfl
theorem s_asgLc {i : Nat} {x : Str} {px lpos : Pos} {N : List Str} {al : Bool} {elt iter : Expr} {ifs : List Expr} {scope : Scope} {own : List (Str × Nat)} {p : P} {fi : Sg → M → Option (Rs Its × M)} {ft : Sg → M → Option (Rs Bool × M)} {fe : Sg → M → Option (Rs Bo.D × M)}
    (hc : X.calm = true) (hk : X.env.scope.kind = .function) (hN : X.N.Nodup) (hNN : X.N = N) {sc : Scope} (hl : LocOk X sc) (hx : locB sc x = true) (hi : N[i]? = some x) (P : LcP A X B b W elt tg iter ifs scope own p fi ft fe) :
    PS X (.Assign [.Name x px] (.ListComp elt [⟨tg, iter, ifs, 0⟩] scope lpos) pos) (tSt A X B b W fun s m => eb (lcV al (own.map (·.2)) p fi ft fe s m) fun d m1 => some (.nx (s.set i (some d)), m1)) := by
  have hs := sw_eq (elt := elt) (gs := [⟨tg, iter, ifs, 0⟩]) (scope := scope) (pos := lpos) (py := px) (y := x) (l := pos.line) hk
  cases hw : swLc X.env.scope x px lpos scope with
  | false =>
    rw [hw] at hs
    exact s_asg hN hNN hl hx hi hs (n_lc hc hN P)
  | true =>
    rw [hw] at hs
    have hloc : X.env.scope.names.lookup x = some .local := by
      unfold swLc at hw
      rw [Bool.and_eq_true, Bool.and_eq_true] at hw
      have h := hw.1.1
      cases hq : X.env.scope.names.lookup x with
      | none => rw [hq] at h; cases h
      | some kd => rw [hq] at h; cases kd <;> first | rfl | cases h
    exact ps_imp (L2.ps_setLc (i := i) hc hN (by rw [hNN]; exact hi) hloc hs P.hi P.ok (fun s H C cl fp => pg_any (P.hg s H C cl fp)) (fun s H C cl fp => pts_any (P.ht s H C cl fp)) (fun s H C cl fp => pe_any (P.he s H C cl fp)) P.hs)
      fun D σ H q => asg_imp D σ H (lc_imp P.hp) q
/-- a pattern = e -/
theorem s_asgp {p : P} (hg : PG X tg (tPat A X.K B b p)) (ht : tgE tg = true) (hp : plC e = true) (hw : swappedStores [tg] e X.env = pure none) (ha : PE X e (tD A X B b W f)) :
    PS X (.Assign [tg] e pos) (tSt A X B b W fun s m => eb (f s m) fun d m1 => match setP p d s with
      | some s1 => some (.nx s1, m1)
      | none => none) :=
  ps_imp (L2.ps_asg ha hg (pl_sole hp _ _ _) hw (by rw [tg_each ht]; rfl)) fun D σ H q => by
    obtain ⟨io, s, m, R, S, q⟩ := q
    refine tG.stepS R S q fun io1 H1 m1 d v x1 R1 S1 r1 h1 => ?_
    cases e1 : setP p d s with
    | none => rw [e1] at h1; exact h1.elim
    | some s1 =>
      rw [e1] at h1
      refine ⟨io1, s, m1, d, s1, R1, S1, r1, e1, fun σ2 S2 k2 => h1 io1 H1 σ2 (Ext.refl _ _) R1 S2 ?_⟩
      rw [← S2.1, setP_len _ _ _ _ e1, S1.1]
/-- a, b = x, y -/
theorem s_par2 {i j : Nat} {x y : Str} {px py pt pt2 : Pos} {kt k2 : Nat} {N : List Str} (hc : X.calm = true) (hN : X.N.Nodup) (hNN : X.N = N) (hi : N[i]? = some x) (hj : N[j]? = some y) (hij : i ≠ j)
    (hx : X.env.scope.names.lookup x = some .local) (hy : X.env.scope.names.lookup y = some .local) (hp : plE e = true) (hp2 : plE e2 = true) (hw : swappedStores [.Tuple [.Name x px, .Name y py] kt pt] (.Tuple [e, e2] k2 pt2) X.env = pure (some [x, y]))
    (ha : PE X e (tD A X B b W f)) (hb : PE X e2 (tD A X B b W g)) :
    PS X (.Assign [.Tuple [.Name x px, .Name y py] kt pt] (.Tuple [e, e2] k2 pt2) pos) (tSt A X B b W fun s m => eb (f s m) fun x m1 => eb (g s m1) fun y m2 => some (.nx ((s.set i (some x)).set j (some y)), m2)) :=
  ps_imp (L2.ps_par (i := i) (j := j) hc hN (by rw [hNN]; exact hi) (by rw [hNN]; exact hj) hij hx hy (L2.pa_cons ha (L2.pa_cons hb L2.pa_nil (pl_star hp2 _ _)) (pl_star hp _ _)) hw) fun D σ H q => by
    obtain ⟨io, s, m, R, S, q⟩ := q
    refine tG.stepS R S q fun io1 H1 m1 d v x1 R1 S1 r1 h1 => tG.stepS R1 S1 h1 fun io2 H2 m2 d2 v2 x2 R2 S2 r2 h2 => ?_
    refine ⟨v, v2, rfl, h2 io2 H2 _ (Ext.refl _ _) R2 ((S2.set (r1.mono x2 x2.len) i).set r2 j) ?_⟩
    rw [List.length_set, List.length_set]
theorem s_par3 {i j l : Nat} {x y z : Str} {px py pz pt pt2 : Pos} {kt k2 : Nat} {N : List Str} (hc : X.calm = true) (hN : X.N.Nodup) (hNN : X.N = N) (hi : N[i]? = some x) (hj : N[j]? = some y) (hl : N[l]? = some z) (hij : i ≠ j) (hil : i ≠ l) (hjl : j ≠ l)
    (hx : X.env.scope.names.lookup x = some .local) (hy : X.env.scope.names.lookup y = some .local) (hz : X.env.scope.names.lookup z = some .local) (hp : plE e = true) (hp2 : plE e2 = true) (hp3 : plE e3 = true)
    (hw : swappedStores [.Tuple [.Name x px, .Name y py, .Name z pz] kt pt] (.Tuple [e, e2, e3] k2 pt2) X.env = pure (some [x, y, z]))
    (ha : PE X e (tD A X B b W f)) (hb : PE X e2 (tD A X B b W g)) (hcc : PE X e3 (tD A X B b W h)) :
    PS X (.Assign [.Tuple [.Name x px, .Name y py, .Name z pz] kt pt] (.Tuple [e, e2, e3] k2 pt2) pos) (tSt A X B b W fun s m => eb (f s m) fun x m1 => eb (g s m1) fun y m2 => eb (h s m2) fun z m3 => some (.nx (((s.set i (some x)).set j (some y)).set l (some z)), m3)) :=
  ps_imp (L2.ps_par3 (i := i) (j := j) (l := l) hc hN (by rw [hNN]; exact hi) (by rw [hNN]; exact hj) (by rw [hNN]; exact hl) hij hil hjl hx hy hz (L2.pa_cons ha (L2.pa_cons hb (L2.pa_cons hcc L2.pa_nil (pl_star hp3 _ _)) (pl_star hp2 _ _)) (pl_star hp _ _)) hw) fun D σ H q => by
    obtain ⟨io, s, m, R, S, q⟩ := q
    refine tG.stepS R S q fun io1 H1 m1 d v x1 R1 S1 r1 h1 => tG.stepS R1 S1 h1 fun io2 H2 m2 d2 v2 x2 R2 S2 r2 h2 => tG.stepS R2 S2 h2 fun io3 H3 m3 d3 v3 x3 R3 S3 r3 h3 => ?_
    refine ⟨v, v2, v3, rfl, h3 io3 H3 _ (Ext.refl _ _) R3 (((S3.set ((r1.mono x2 x2.len).mono x3 x3.len) i).set (r2.mono x3 x3.len) j).set r3 l) ?_⟩
    rw [List.length_set, List.length_set, List.length_set]
/-! ### o[k] = v -/
theorem any_dget {n : Nat} {kvs : List (List Key × V)} {vs : List Bo.D} (k : List Key) (r : Reps A K io n H vs (kvs.map (·.2))) : (kvs.any fun kv => decide (kv.1 = k)) = (dget (kvs.map (·.1)) vs k).isSome := by
  rw [L2.valV_any]
  have z := valV_dget k r
  cases hg : dget (kvs.map (·.1)) vs k with
  | none =>
    rw [hg] at z
    have z : L2.valV kvs k = none := z
    rw [z]
    rfl
  | some dd =>
    rw [hg] at z
    obtain ⟨v', z, _⟩ := z
    rw [z]
    rfl
theorem drep_rep {n : Nat} {d : Bo.D} {v : V} {k : List Key} (r : Rep A K io n H d v) : ∀ {kvs : List (List Key × V)} {vs : List Bo.D}, Reps A K io n H vs (kvs.map (·.2)) → Reps A K io n H (drep (kvs.map (·.1)) vs k d) ((kvs.map fun kv => if kv.1 = k then (kv.1, v) else kv).map (·.2))
  | [], _, .nil => .nil
  | (a, u) :: kvs, w :: vs, h => by
    cases h with
    | cons h1 h2 =>
      have ih := drep_rep (k := k) r h2
      show Reps A K io n H ((if a = k then d else w) :: drep (kvs.map (·.1)) vs k d) ((if a = k then (a, v) else (a, u)).2 :: _)
      by_cases e : a = k
      · rw [if_pos e, if_pos e]
        exact .cons r ih
      · rw [if_neg e, if_neg e]
        exact .cons h1 ih
theorem dput_rep {n : Nat} {d : Bo.D} {v : V} {k : List Key} {kvs : List (List Key × V)} {vs : List Bo.D} (r : Rep A K io n H d v) (h : Reps A K io n H vs (kvs.map (·.2))) :
    (L2.putK kvs k v).map (·.1) = (if (dget (kvs.map (·.1)) vs k).isSome then kvs.map (·.1) else kvs.map (·.1) ++ [k]) ∧ Reps A K io n H (dput (kvs.map (·.1)) vs k d) ((L2.putK kvs k v).map (·.2)) := by
  unfold L2.putK dput
  rw [any_dget k h]
  split
  · refine ⟨?_, drep_rep r h⟩
    rw [List.map_map]
    refine List.map_congr_left fun kv _ => ?_
    show (if kv.1 = k then (kv.1, v) else kv).1 = kv.1
    split <;> rfl
  · refine ⟨by rw [List.map_append]; rfl, ?_⟩
    rw [List.map_append]
    exact h.snoc r
def rSetA (A : Ad) (K : PySem.W.Frag) (B : Nat → Nat) (b : Nat) : L2.TSet := fun o i v H Q => ∃ io m d e x m', Rel A K B b io H m ∧ Rep A K io io.length H d o ∧ Rep A K io io.length H e i ∧ Rep A K io io.length H x v ∧ setD b m d e x = some m' ∧ ∀ H', Ext A io io H H' → Rel A K B b io H' m' → Q H'
theorem set_any (hu : X.A.units + 1 < cLine) : L2.PSet X (rSetA A X.K B b) := by
  intro pins s σ H o i v ov iv u Q I ro ri rv h
  obtain ⟨io, m, d, e, x, m', R, r1, r2, r3, ho, q⟩ := h
  unfold setD at ho
  split at ho
  · rename_i n
    obtain ⟨a, rfl, ha⟩ := r1.refEx R
    split at ho
    · rename_i ds e1
      split at ho
      · rename_i j
        cases r2
        cases hj : L2.ixN ds.length j with
        | none => rw [hj] at ho; cases ho
        | some jj =>
          rw [hj] at ho
          simp only [Option.bind_some] at ho
          split at ho
          · rename_i hz
            rw [Bool.or_eq_true, decide_eq_true_eq] at hz
            cases ho
            obtain ⟨vs, h1, h2, h3⟩ := R.ob n a _ ha e1
            refine L2.set_list pins s σ H _ _ v ov iv u Q I ro ri rv ⟨a, vs, j, jj, rfl, rfl, h1, by rw [← h2.length]; exact hj, ?_⟩
            have w : Ext A io io H (upd H a (.lst (vs.set jj v))) := R.ext_write (List.mem_of_getElem? ha)
            have r4 : Reps A X.K io (bnds B b io n) H [x] [v] := reps_bnd (c := 0) (.cons r3 .nil) (by rcases hz with z | z; exact .inl z; exact .inr (by simp [nrs, z]))
            obtain ⟨w', ew, r5⟩ := reps1 r4
            cases ew
            refine q _ w (R.write ha w ⟨_, L2.upd_same, (h2.set r5 jj).mono w (Nat.le_refl _), ?_⟩)
            rw [List.length_set]
            exact h3
          · cases ho
      · cases ho
    · rename_i ks vs e1
      cases hk : toK e with
      | none => rw [hk] at ho; cases ho
      | some kk =>
        rw [hk] at ho
        simp only [Option.bind_some] at ho
        split at ho
        · rename_i hz
          rw [Bool.and_eq_true, Bool.or_eq_true, decide_eq_true_eq, decide_eq_true_eq] at hz
          cases ho
          obtain ⟨kvs, h1, h2, h3, h4⟩ := R.ob n a _ ha e1
          obtain ⟨p, rfl, hp, _⟩ := r2.key hk
          have w : Ext A io io H (upd H a (.dT (L2.putK kvs kk v))) := R.ext_write (List.mem_of_getElem? ha)
          have r4 : Reps A X.K io (bnds B b io n) H [x] [v] := reps_bnd (c := 0) (.cons r3 .nil) (by rcases hz.1 with z | z; exact .inl z; exact .inr (by simp [nrs, z]))
          obtain ⟨w', ew, r5⟩ := reps1 r4
          cases ew
          have hl : kvs.length = ks.length := by rw [← h2, List.length_map]
          refine L2.set_dict hu pins s σ H _ _ v ov iv u Q I ro ri rv ⟨a, _, rfl, L2.DPut.t h1 hp (by rw [hl]; exact hz.2), ?_⟩
          obtain ⟨g1, g2⟩ := dput_rep (k := kk) r5 h3
          rw [h2] at g1 g2
          refine q _ w (R.write ha w ⟨_, L2.upd_same, g1, g2.mono w (Nat.le_refl _), ?_⟩)
          · split
            · exact h4
            · rw [List.length_append]
              exact hz.2
        · cases ho
    · cases ho
  · cases ho
theorem pl_asub {o i : Expr} (h : plE i = true) (p : Pos) (env : Env) (v : Value) : assign (.Subscript o i p) env v = (do
      let ov ← holding [v] (eval o env)
      let iv ← holding [v, ov] (eval i env)
      standAt p
      holding [v, ov, iv] (setItem ov iv v)
      release [v, ov, iv] []) := by
  cases i <;> first | rfl | cases h
theorem s_seti (hu : X.A.units + 1 < cLine) (hp : plC e3 = true) (hp2 : plE e2 = true) (ha : PE X e (tD A X B b W f)) (hb : PE X e2 (tD A X B b W g)) (hv : PE X e3 (tD A X B b W h)) {p : Pos} :
    PS X (.Assign [.Subscript e e2 p] e3 pos) (tSt A X B b W fun s m => eb (h s m) fun x m1 => eb (f s m1) fun y m2 => eb (g s m2) fun z m3 => match setD b m3 y z x with
      | some m4 => some (.nx s, m4)
      | none => none) :=
  ps_imp (L2.ps_asg hv (L2.pg_sub ha hb (set_any (A := A) (B := B) (b := b) hu) (pl_asub hp2 _ _)) (pl_sole hp _ _ _)) fun D σ H q => by
    obtain ⟨io, s, m, R, S, q⟩ := q
    refine tG.stepS R S q fun io1 H1 m1 d v x1 R1 S1 r1 h1 => tG.stepS R1 S1 h1 fun io2 H2 m2 d2 v2 x2 R2 S2 r2 h2 => tG.stepS R2 S2 h2 fun io3 H3 m3 d3 v3 x3 R3 S3 r3 h3 => ?_
    cases e1 : setD b m3 d2 d3 d with
    | none => rw [e1] at h3; exact h3.elim
    | some m4 =>
      rw [e1] at h3
      exact ⟨io3, m3, d2, d3, d, m4, R3, r2.mono x3 x3.len, r3, (r1.mono x2 x2.len).mono x3 x3.len, e1, fun H' w R' => h3 io3 H' σ w R' (S3.mono w) rfl⟩
end
end Bo

set_option Elab.async false
set_option linter.all false
set_option maxRecDepth 100000
/-! B14: loops, raise. -/
namespace Bo
open PySem PySem.Spec PyProof.Rows
open L2 (V HO Hp Rd SqL SqT Vals upd Cx PE PT PA PO PI PW PG PGs PTs PS PSs OpR UnR CallR SlR IxR VK XK TE TT TA TO TI TG TGs TS Ends Inv RelV EP Room Sp FnOk Gl Vis Binds WX Takes tOp tCons tNil It Turn PIE Loc BlkOk)
section
variable {A : Ad} {B : Nat → Nat} {b : Nat} {X : Cx} {W : Wi} {io io1 : List Addr} {H H1 : Hp} {σ : L2.St} {K : PySem.W.Frag} {k : Nat} {D : Ends}
variable {f g h : Sg → M → Option (Rs Bo.D × M)} {e e2 e3 tg : Expr} {es : List Expr} {pos : Pos} {st : Stmt} {sts sts2 : List Stmt} {F F2 : Sg → M → Option (Out × M)}
theorem for_stands {src : Option (Nat × List Bo.D)} {bd : Bo.D → Sg → M → Option (Out × M)} {xs : List Bo.D} {s : Sg} {m : M} (h : sW A K B b W io k H (forGo src bd xs s m) D) : stands m src = true := by
  cases xs with
  | nil =>
    unfold forGo at h
    split at h
    · assumption
    · exact h.elim
  | cons x r =>
    unfold forGo at h
    split at h
    · assumption
    · exact h.elim
/-- one turn of a loop -/
def forBd (p : P) (F : Sg → M → Option (Out × M)) : Bo.D → Sg → M → Option (Out × M) := fun x s1 m2 => match setP p x s1 with
  | some s2 => F s2 m2
  | none => none
def forV (p : P) (fi : Sg → M → Option (Rs Its × M)) (F : Sg → M → Option (Out × M)) : Sg → M → Option (Out × M) := fun s m => match fi s m with
  | some (.ok its, m1) => forGo its.2 (forBd p F) its.1 s m1
  | some (.ex c, m1) => some (.ex c, m1)
  | none => none
theorem s_for {iter : Expr} {body : List Stmt} {p : P} {fi : Sg → M → Option (Rs Its × M)} (hpo : PassesOwn (model X.prog X.w) X.A X.env X.xe) (hc : X.calm = true) (hi : PI X tg iter (tI A X B b W fi)) (hg : PG X tg (tPat A X.K B b p)) (hb : PSs X body (tSt A X B b W F)) (hs : plE iter = true) :
    PS X (.For tg iter body [] pos) (tSt A X B b W (forV p fi F)) := by
  refine ps_imp (L2.ps_for hpo hc hi hg hb (pl_folded hs _)) fun D σ H q => ?_
  obtain ⟨io, s, m, R, S, q⟩ := q
  unfold forV at q
  refine ⟨io, s, m, R, S, ?_⟩
  unfold gW
  cases e : fi s m with
  | none => rw [e] at q; exact q
  | some r =>
    obtain ⟨r, m1⟩ := r
    rw [e] at q
    cases r with
    | ex c => exact fun io' H' x R' => q io' H' σ x R' rfl
    | ok its =>
      refine fun io1 H1 J x1 R1 ri => ?_
      have q : sW A X.K B b W io σ.length H (forGo its.2 (forBd p F) its.1 s m1) D := q
      have ri' := ri A.hd (fun _ z => .inl z)
      have wk : L2.Walk J its.1.length (fun H' => ∃ io' m', Ext A io1 io' H1 H' ∧ Rel A X.K B b io' H' m' ∧ stands m' its.2 = true) (fun i H' x H'' => J.yld i H' x H'') :=
        ⟨fun i H' hi ⟨io', m', x, R', st⟩ => (ri' io' H' m' x R' st).1 i hi, fun H' ⟨io', m', x, R', st⟩ => (ri' io' H' m' x R' st).2.1, fun i H' x H'' _ _ y => y⟩
      refine L2.for_it (g := tPat A X.K B b p) (tb := tSt A X B b W F) (D := D) wk (fun i σ' H' => ∃ io' m' s', Ext A io1 io' H1 H' ∧ Rel A X.K B b io' H' m' ∧ RelS A X.K io' H' s' σ' ∧ σ'.length = σ.length ∧ sW A X.K B b W io' σ.length H' (forGo its.2 (forBd p F) (its.1.drop i) s' m') D) ?_ ?_ ?_ ?_
      · exact ⟨io1, m1, s, Ext.refl _ _, R1, S.mono x1, rfl, sW.ext x1 q⟩
      · rintro i σ' H' hi ⟨io', m', s', e1, e2, e3, e4, e5⟩
        exact ⟨io', m', e1, e2, for_stands e5⟩
      · rintro i x σ' H' H'' hi ⟨io', m', s', e1, e2, e3, e4, e5⟩ hy
        have hx : its.1[i]? = some its.1[i] := List.getElem?_eq_getElem hi
        have hst := for_stands e5
        obtain ⟨y1, y2, y3⟩ := (ri' io' H' m' e1 e2 hst).2.2 i _ x H'' hx hy
        rw [drop_cons hx] at e5
        unfold forGo at e5
        rw [if_pos hst] at e5
        have e6 := sW.sb (F := fun s m => forBd p F its.1[i] s m) (F2 := fun s m => forGo its.2 (forBd p F) (its.1.drop (i + 1)) s m) e5
        unfold forBd at e6
        cases hp : setP p its.1[i] s' with
        | none => simp only [hp] at e6; exact e6.elim
        | some s2 =>
          simp only [hp] at e6
          refine ⟨io', s', m', _, s2, y2, e3.mono y1, y3, hp, fun σ2 S2 k2 => ?_⟩
          have hl : σ2.length = σ.length := by rw [← S2.1, setP_len _ _ _ _ hp, e3.1, e4]
          refine ⟨io', s2, m', y2, S2, ?_⟩
          rw [hl]
          refine (sW.ext y1 e6).mono2 (fun σ3 H3 z => ?_) fun _ _ z => z
          obtain ⟨io3, s3, m3, x3, R3, S3, k3, q3⟩ := z
          exact ⟨io3, m3, s3, e1.trans x3, R3, S3, k3, q3⟩
      · rintro σ' H' ⟨io', m', s', e1, e2, e3, e4, e5⟩
        rw [List.drop_length] at e5
        unfold forGo at e5
        split at e5
        · exact e5.nx e2 e3 e4
        · exact e5.elim
theorem s_whl {n : Nat} {body : List Stmt} (hpo : PassesOwn (model X.prog X.w) X.A X.env X.xe) (hc : PT X e (tT A X B b W fun s m => tst (f s m))) (hb : PSs X body (tSt A X B b W F)) : PS X (.While e body [] pos) (tSt A X B b W fun s m => whlGo f F n s m) := by
  refine ps_imp (L2.ps_while hpo hc hb) fun D σ H q => ?_
  obtain ⟨io, s, m, R, S, q⟩ := q
  refine ⟨fun j σ' H' => ∃ io' m' s', Rel A X.K B b io' H' m' ∧ RelS A X.K io' H' s' σ' ∧ σ'.length = σ.length ∧ sW A X.K B b W io' σ.length H' (whlGo f F j s' m') D, ⟨n, io, m, s, R, S, rfl, q⟩, ?_⟩
  rintro j σ' H' ⟨io', m', s', R', S', hl, q⟩
  cases j with
  | zero => exact q.elim
  | succ j =>
    have q : sW A X.K B b W io' σ.length H' (eb (f s' m') fun x m1 => match x with
      | .bl true => sb (F s' m1) fun s2 m2 => whlGo f F j s2 m2
      | .bl false => some (.nx s', m1)
      | _ => none) D := q
    rw [← hl] at q
    refine tG.stepT R' S' (sW.cast (eb_tst _ _ _) q) fun io1 H1 m1 c x1 R1 S1 h1 => ?_
    split
    · rename_i hk
      rw [if_pos hk] at h1
      refine ⟨_, fun σ2 H2 z => ⟨j, Nat.lt_succ_self j, z⟩, io1, s', m1, R1, S1, ?_⟩
      refine (sW.sb h1).mono2 (fun σ3 H3 z => ?_) fun _ _ z => z
      obtain ⟨io3, s3, m3, x3, R3, S3, k3, q3⟩ := z
      exact ⟨io3, m3, s3, R3, S3, by rw [k3, hl], by rw [← hl]; exact q3⟩
    · rename_i hk
      rw [if_neg hk] at h1
      exact h1.nx R1 S1 rfl
/-- what is raised -/
def RsOk (X : Cx) (C : Addr) : Prop := ∃ (bmB : List Value) (B newId initId : String), PySem.ExcBaseFacts B newId initId bmB ∧ PySem.W.excIn X.K C bmB newId = true ∧ PySem.W.keepIn X.K (.ref C) = true ∧ L2.Raises X (.ref C)
theorem s_rse {c : Nat} {C : Addr} {x z : Str} {p p2 cpos : Pos} {j : Nat} (hc : X.calm = true) (tk : Takes X (wxOf A W)) (hC : A.ca c = some C) (hr : RsOk X C) (hg : glB X.env.scope x = true) (hm : X.mg x = some (.ref C)) :
    PS X (.Raise (some (.Call (.Name x p) [.Constant (.str z) j p2] [] cpos)) none pos) (tSt A X B b W fun _ m => some (.ex c, m)) := by
  obtain ⟨bmB, B', newId, initId, h1, h2, h3, h4⟩ := hr
  refine ps_imp (L2.ps_raise hc tk (SkE.pmk_own1 h1 h2 hm h3 h4 (gl_of hg).1 L2.pe_str rfl (gl_of hg).2.1)) fun D σ H q => ?_
  obtain ⟨io, s, m, R, S, q⟩ := q
  exact ⟨c, C, hC, rfl, rfl, q io H σ (Ext.refl _ _) R rfl⟩
end
end Bo

set_option Elab.async false
set_option linter.all false
set_option maxRecDepth 100000
/-! BR4: list comprehensions with two clauses. -/
namespace Bo
open PySem PySem.Spec PyProof.Rows
open L2 (V HO Hp Rd SqL SqT Vals upd Cx PE PT PA PO PI PW PG PGs PTs OpR UnR CallR SlR IxR VK XK TE TT TA TO TI TG TGs Inv RelV EP Room Sp FnOk Gl Vis Binds WX Takes tOp tCons tNil It Turn PIE Loc BlkOk)
section
variable {A : Ad} {B : Nat → Nat} {b : Nat} {X : Cx} {K : PySem.W.Frag} {io : List Addr} {H : Hp}
/-- a list or a tuple, gone over -/
def tSeq (K : PySem.W.Frag) (te : TE) : TI := fun σ H Q => te σ H fun x H1 => ∃ a vs, x = .ref a ∧ ((SqL K H1 a vs ∧ Q (L2.Itl K a) H1) ∨ (SqT K H1 a vs ∧ Q (L2.Itt K a) H1))
theorem pi_seq {tg e : Expr} {t : TE} (ha : PE X e t) : PI X tg e (tSeq X.K t) := ⟨fun pins s σ H Q I q => by
  refine L2.thn (ha.run pins s σ H _ I q) fun v s1 ⟨x, H1, I1, r1, a, vs, hx, h⟩ => ?_
  subst hx
  cases r1
  rcases h with ⟨hs, q⟩ | ⟨hs, q⟩
  · obtain ⟨its', rv, p, hz⟩ := I1.list hs
    exact wpAny_pyIter_list p.isList (L2.pi_one (tk := s1.toks) I1 _ (L2.turn_list a _) ⟨_, Heap.get?_push_size _ rfl, rfl, rfl⟩ q)
  · obtain ⟨its', rv, p, hz⟩ := I1.tuple hs
    exact wpAny_pyIter_tuple (show s1.heap.IsTuple a its'.toArray from p) (L2.pi_one (tk := s1.toks) I1 _ (L2.turn_tuple a _) ⟨_, Heap.get?_push_size _ rfl, rfl, rfl⟩ q)⟩
/-- one turn of the first clause -/
def lc2Bd (p : P) (ft : Sg → M → Option (Rs Bool × M)) (fi1 : Sg → M → Option (Rs D × M)) (p1 : P) (ft1 : Sg → M → Option (Rs Bool × M)) (fe : Sg → M → Option (Rs D × M)) (vs1 : List Nat) (s : Sg) : D → M → Option (Rs (List D) × M) := fun x m2 => match setP p x s with
  | some s2 => bnd (ft s2 m2) fun k m3 => if k then bnd (fi1 s2 m3) fun y m4 => (match seqI y with
      | some ds => lcGo none (lcBd p1 ft1 fe (wip s2 vs1)) ds m4
      | none => none) else some (.ok [], m3)
  | none => none
theorem lc2_stands {src : Option (Nat × List D)} {bd : D → M → Option (Rs (List D) × M)} {xs : List D} {m : M} {r : Rs (List D) × M} (h : lc2Go src bd xs m = some r) : stands m src = true := by
  cases xs <;> (unfold lc2Go at h; split at h; · assumption
                · cases h)
theorem lc2_ok {src : Option (Nat × List D)} {bd : D → M → Option (Rs (List D) × M)} : ∀ {xs : List D} {m : M} {c : Nat} {m2 : M}, lc2Go src bd xs m ≠ some (.ex c, m2)
  | [], m, c, m2, h => by
    unfold lc2Go at h
    split at h <;> cases h
  | x :: r, m, c, m2, h => by
    unfold lc2Go at h
    split at h
    · split at h
      · split at h <;> cases h
      · cases h
    · cases h
theorem lc2_cons {src : Option (Nat × List D)} {bd : D → M → Option (Rs (List D) × M)} {x : D} {r ds : List D} {m m2 : M} (h : lc2Go src bd (x :: r) m = some (.ok ds, m2)) :
    ∃ o m1 ds', bd x m = some (.ok o, m1) ∧ lc2Go src bd r m1 = some (.ok ds', m2) ∧ ds = o ++ ds' := by
  unfold lc2Go at h
  split at h
  · split at h
    · rename_i o m1 e
      split at h
      · rename_i ds' m2' e2
        cases h
        exact ⟨o, m1, ds', e, e2, rfl⟩
      · cases h
    · cases h
  · cases h
theorem lc2Bd_ex {p : P} {ft : Sg → M → Option (Rs Bool × M)} {fi1 : Sg → M → Option (Rs D × M)} {p1 : P} {ft1 : Sg → M → Option (Rs Bool × M)} {fe : Sg → M → Option (Rs D × M)} {vs1 : List Nat} {s : Sg} {x : D} {m m1 : M} {o : List D} (h : lc2Bd p ft fi1 p1 ft1 fe vs1 s x m = some (.ok o, m1)) :
    ∃ s2, setP p x s = some s2 ∧ ((∃ m3 y m4 zs, ft s2 m = some (.ok true, m3) ∧ fi1 s2 m3 = some (.ok y, m4) ∧ seqI y = some zs ∧ lcGo none (lcBd p1 ft1 fe (wip s2 vs1)) zs m4 = some (.ok o, m1)) ∨ (ft s2 m = some (.ok false, m1) ∧ o = [])) := by
  unfold lc2Bd at h
  split at h
  · rename_i s2 e
    refine ⟨s2, e, ?_⟩
    cases e1 : ft s2 m with
    | none => rw [e1] at h; cases h
    | some q =>
      obtain ⟨k, m3⟩ := q
      rw [e1] at h
      cases k with
      | ex c => cases h
      | ok k =>
        cases k with
        | false => cases h; exact .inr ⟨rfl, rfl⟩
        | true =>
          have h : bnd (fi1 s2 m3) (fun y m4 => (match seqI y with
            | some ds => lcGo none (lcBd p1 ft1 fe (wip s2 vs1)) ds m4
            | none => none)) = some (.ok o, m1) := h
          cases e2 : fi1 s2 m3 with
          | none => rw [e2] at h; cases h
          | some q =>
            obtain ⟨d, m4⟩ := q
            rw [e2] at h
            cases d with
            | ex c => cases h
            | ok y =>
              have h : (match seqI y with
                | some ds => lcGo none (lcBd p1 ft1 fe (wip s2 vs1)) ds m4
                | none => none) = some (.ok o, m1) := h
              cases e3 : seqI y with
              | none => rw [e3] at h; cases h
              | some zs => rw [e3] at h; exact .inl ⟨m3, y, m4, zs, rfl, e2, e3, h⟩
  · cases h
theorem RelS.updD {D : Addr} {o : HO} {s : Sg} {σ : L2.St} (h : RelS (A.hide D) K io H s σ) : RelS (A.hide D) K io (upd H D o) s σ := ⟨h.1, fun j d e => by
  obtain ⟨v, q1, q2⟩ := h.2 j d e
  exact ⟨v, q1, q2.updD⟩⟩
/-- what it evaluates to -/
def lc2V (vs vs1 : List Nat) (p : P) (fi : Sg → M → Option (Rs Its × M)) (ft : Sg → M → Option (Rs Bool × M)) (fi1 : Sg → M → Option (Rs D × M)) (p1 : P) (ft1 : Sg → M → Option (Rs Bool × M)) (fe : Sg → M → Option (Rs D × M)) : Sg → M → Option (Rs D × M) := fun s m => bnd (fi s m) fun its m1 => bnd (lc2Go its.2 (lc2Bd p ft fi1 p1 ft1 fe vs1 (wip s vs)) its.1 m1) fun ds m2 =>
  if ds.length ≤ sizeLine then some (.ok (.lst ds), m2) else none
variable {W : Wi}
theorem lc2_imp {own : List (Str × Nat)} {vs1 : List Nat} {p p1 : P} {fi : Sg → M → Option (Rs Its × M)} {ft : Sg → M → Option (Rs Bool × M)} {fi1 : Sg → M → Option (Rs D × M)} {ft1 : Sg → M → Option (Rs Bool × M)} {fe : Sg → M → Option (Rs D × M)}
    (hp : ∀ j, j ∈ pv p → j ∈ own.map (·.2)) (hp1 : ∀ j, j ∈ pv p1 → j ∈ vs1) (σ : L2.St) (H : Hp) (Q : VK) (q : tD A X B b W (lc2V (own.map (·.2)) vs1 p fi ft fi1 p1 ft1 fe) σ H Q) :
    L2.tLc2 (tI A X B b W fi) (fun v σ H Q => ∃ D, tPat (A.hide D) X.K B b p v σ H Q) (tAny fun D => tG (A.hide D) X.K B b RId W0 ft) (tSeq X.K (tAny fun D => tG (A.hide D) X.K B b (RD (A.hide D) X.K) W0 fi1))
      (fun v σ H Q => ∃ D, tPat (A.hide D) X.K B b p1 v σ H Q) (tAny fun D => tG (A.hide D) X.K B b RId W0 ft1) (tAny fun D => tG (A.hide D) X.K B b (RD (A.hide D) X.K) W0 fe) (own.map (·.2)) vs1 σ H Q := by
  obtain ⟨io, s, m, R, S, q⟩ := q
  unfold lc2V at q
  refine tG.step (RR := RI A X.K B b) R S q fun io1 H1 m1 its J x1 R1 S1 ri h1 => fun D hD => ?_
  have hdA : D ∉ A.hd := (R1.fresh hD).2
  cases hgo : lc2Go its.2 (lc2Bd p ft fi1 p1 ft1 fe vs1 (wip s (own.map (·.2)))) its.1 m1 with
  | none => rw [hgo] at h1; exact h1.elim
  | some r =>
    obtain ⟨r, m2⟩ := r
    cases r with
    | ex c => exact absurd hgo lc2_ok
    | ok ds =>
      rw [hgo] at h1
      replace h1 : gW A X.K B b (RD A X.K) W io1 σ H1 (if ds.length ≤ sizeLine then (if false = true then some (.ok (.ref m2.length), m2 ++ [.lst ds]) else some (.ok (.lst ds), m2)) else none) Q := h1
      have hh : ∀ a, a ∈ D :: A.hd → a ∈ A.hd ∨ H1 a = none := fun a ha => by
        rcases List.mem_cons.mp ha with z | z
        · exact .inr (by rw [z]; exact hD)
        · exact .inl z
      have ri' := ri (D :: A.hd) hh
      have hz : ds.length ≤ sizeLine := by
        by_cases hz : ds.length ≤ sizeLine
        · exact hz
        · rw [if_neg hz] at h1
          exact h1.elim
      let Pv : Nat → Hp → Prop := fun i H' => ∃ io' m' acc vacc rest, Ext (A.hide D) io1 io' H1 H' ∧ Rel (A.hide D) X.K B b io' H' m' ∧ H' D = some (.lst vacc) ∧ Reps (A.hide D) X.K io' io'.length H' acc vacc ∧
        lc2Go its.2 (lc2Bd p ft fi1 p1 ft1 fe vs1 (wip s (own.map (·.2)))) (its.1.drop i) m' = some (.ok rest, m2) ∧ ds = acc ++ rest
      refine ⟨fun i k H' => k = its.1.length - i ∧ i ≤ its.1.length ∧ Pv i H', ⟨its.1.length, by simp, Nat.zero_le _, io1, m1, [], [], ds, ext_new _ hD, R1.hide hD (fun _ z => by cases z), L2.upd_same, .nil, hgo, rfl⟩, ?_⟩
      rintro i k H' ⟨rfl, hi, io', m', acc, vacc, rest, e1, e2, e3, e4, e5, e6⟩
      by_cases hlt : i < its.1.length
      · refine .inr ⟨(ri' io' H' m' e1 e2 (lc2_stands e5)).1 i hlt, Pv (i + 1), fun H3 p' => ⟨its.1.length - (i + 1), by omega, rfl, hlt, p'⟩, fun x H'' hy => ?_⟩
        have hx : its.1[i]? = some its.1[i] := List.getElem?_eq_getElem hlt
        obtain ⟨y1, y2, y3⟩ := (ri' io' H' m' e1 e2 (lc2_stands e5)).2.2 i _ x H'' hx hy
        rw [drop_cons hx] at e5
        obtain ⟨o, m3, ds', b1, b2, b3⟩ := lc2_cons e5
        obtain ⟨s2, g1, g2⟩ := lc2Bd_ex b1
        have x2 : Ext (A.hide D) io1 io' H1 H'' := e1.trans y1
        have S2 : RelS (A.hide D) X.K io' H'' s σ := by
          refine ⟨S1.1, fun j d e => ?_⟩
          obtain ⟨v, q1, q2⟩ := S1.2 j d e
          exact ⟨v, q1, (Rep.hide hD q2).mono x2 x2.len⟩
        have hl := S2.wip (own.map (·.2))
        refine ⟨D, io', wip s (own.map (·.2)), m', _, s2, y2, hl, y3, g1, fun σ2 S3 k2 => ⟨?_, ?_⟩⟩
        · refine wipe_same ?_ fun j hj => k2 j fun z => hj (hp j z)
          have q1 := S3.1
          have q2 : s2.length = (wip s (own.map (·.2))).length := setP_len _ _ _ _ g1
          rw [← q1, q2, hl.1, L2.wipe_length]
        · have hacc : H'' D = some (.lst vacc) := y1.hid D _ List.mem_cons_self e3
          have racc : Reps (A.hide D) X.K io' io'.length H'' acc vacc := e4.mono y1 (Nat.le_refl _)
          rcases g2 with ⟨m4, y, m5, zs, t1, t2, t3, t4⟩ | ⟨t1, rfl⟩
          · refine ⟨D, io', s2, m', y2, S3, gW0_of (d := true) (m := m4) (fun io3 H3 k x3 R3 hk => ?_) t1⟩
            cases hk
            rw [if_pos rfl]
            refine ⟨D, io3, s2, m4, R3, S3.mono x3, gW0_of (d := y) (m := m5) (fun io4 H4 v x4 R4 hv => ?_) t2⟩
            have hv : Rep (A.hide D) X.K io4 io4.length H4 y v := hv
            have S4 : RelS (A.hide D) X.K io4 H4 s2 σ2 := (S3.mono x3).mono x4
            have hacc4 : H4 D = some (.lst vacc) := x4.hid D _ List.mem_cons_self (x3.hid D _ List.mem_cons_self hacc)
            have racc4 : Reps (A.hide D) X.K io4 io4.length H4 acc vacc := (racc.mono x3 x3.len).mono x4 x4.len
            -- the second clause's own loop
            have inner : ∀ (a : Addr) (J1 : It), v = .ref a → (∀ io5 m6 H5, Ext (A.hide D) io1 io5 H1 H5 → Rel (A.hide D) X.K B b io5 H5 m6 → Rep (A.hide D) X.K io5 io5.length H5 y (.ref a) →
                (∀ j, j < zs.length → J1.go j H5) ∧ J1.stop zs.length H5 ∧ ∀ j d x H6, zs[j]? = some d → J1.yld j H5 x H6 → H6 = H5 ∧ Rep (A.hide D) X.K io5 io5.length H5 d x) →
                ∃ W1 : Nat → Nat → Hp → Prop, (∃ m, W1 0 m H4) ∧ ∀ j k H, W1 j k H →
                  (J1.stop j H ∧ Pv (i + 1) H) ∨ (J1.go j H ∧ ∃ Nx1 : Hp → Prop, (∀ H', Nx1 H' → ∃ k', k' < k ∧ W1 (j + 1) k' H') ∧ ∀ x H', J1.yld j H x H' → (∃ D', tPat (A.hide D') X.K B b p1 x (L2.wipe σ2 vs1) H' fun σ3 H5 => L2.wipe σ3 vs1 = L2.wipe σ2 vs1 ∧ (tAny fun D => tG (A.hide D) X.K B b RId W0 ft1) σ3 H5 fun bb H6 =>
                    if bb = true then (tAny fun D => tG (A.hide D) X.K B b (RD (A.hide D) X.K) W0 fe) σ3 H6 fun y H7 => ∃ acc, H7 D = some (.lst acc) ∧ acc.length < sizeLine ∧ Nx1 (upd H7 D (.lst (acc ++ [y]))) else Nx1 H6)) := by
              intro a J1 hva hJ
              let Pv1 : Nat → Hp → Prop := fun j H' => ∃ io5 m6 acc1 vacc1 rest1, Ext (A.hide D) io1 io5 H1 H' ∧ Rel (A.hide D) X.K B b io5 H' m6 ∧ H' D = some (.lst vacc1) ∧ Reps (A.hide D) X.K io5 io5.length H' acc1 vacc1 ∧ Rep (A.hide D) X.K io5 io5.length H' y (.ref a) ∧
                RelS (A.hide D) X.K io5 H' s2 σ2 ∧ lcGo none (lcBd p1 ft1 fe (wip s2 vs1)) (zs.drop j) m6 = some (.ok rest1, m3) ∧ acc ++ o = acc1 ++ rest1
              refine ⟨fun j k H' => k = zs.length - j ∧ j ≤ zs.length ∧ Pv1 j H', ⟨zs.length, by simp, Nat.zero_le _, io4, m5, acc, vacc, o, (x2.trans x3).trans x4, R4, hacc4, racc4, hva ▸ hv, S4, t4, rfl⟩, ?_⟩
              rintro j k H5 ⟨rfl, hj, io5, m6, acc1, vacc1, rest1, f1, f2, f3, f4, f5, f6, f7, f8⟩
              obtain ⟨g1', g2', g3'⟩ := hJ io5 m6 H5 f1 f2 f5
              by_cases hlt1 : j < zs.length
              · refine .inr ⟨g1' j hlt1, Pv1 (j + 1), fun H6 p' => ⟨zs.length - (j + 1), by omega, rfl, hlt1, p'⟩, fun x H6 hy1 => ?_⟩
                have hx1 : zs[j]? = some zs[j] := List.getElem?_eq_getElem hlt1
                obtain ⟨rfl, r1⟩ := g3' j _ x H6 hx1 hy1
                rw [drop_cons hx1] at f7
                obtain ⟨o1, m7, ds1, c1, c2, c3⟩ := lc_cons f7
                obtain ⟨s3, d1, d2⟩ := lcBd_ex c1
                have hl1 := f6.wip vs1
                refine ⟨D, io5, wip s2 vs1, m6, _, s3, f2, hl1, r1, d1, fun σ3 S6 k3 => ⟨?_, ?_⟩⟩
                · refine wipe_same ?_ fun j hj => k3 j fun z => hj (hp1 j z)
                  have q1 := S6.1
                  have q2 : s3.length = (wip s2 vs1).length := setP_len _ _ _ _ d1
                  rw [← q1, q2, hl1.1, L2.wipe_length]
                · rcases d2 with ⟨m8, d, u1, u2, rfl⟩ | ⟨u1, rfl⟩
                  · refine ⟨D, io5, s3, m6, f2, S6, gW0_of (d := true) (m := m8) (fun io6 H7 k x6 R6 hk => ?_) u1⟩
                    cases hk
                    rw [if_pos rfl]
                    refine ⟨D, io6, s3, m8, R6, S6.mono x6, gW0_of (d := d) (m := m7) (fun io7 H8 w x7 R7 hv7 => ?_) u2⟩
                    have hacc8 : H8 D = some (.lst vacc1) := x7.hid D _ List.mem_cons_self (x6.hid D _ List.mem_cons_self f3)
                    have hv7 : Rep (A.hide D) X.K io7 io7.length H8 d w := hv7
                    have racc8 : Reps (A.hide D) X.K io7 io7.length H8 acc1 vacc1 := (f4.mono x6 x6.len).mono x7 x7.len
                    refine ⟨vacc1, hacc8, ?_, io7, m7, acc1 ++ [d], vacc1 ++ [w], ds1, ?_, R7.updD (fun _ z => by cases z), L2.upd_same, ?_, ((f5.mono x6 x6.len).mono x7 x7.len).updD, ((f6.mono x6).mono x7).updD, c2, ?_⟩
                    · have q0 := congrArg List.length f8
                      have q1 : acc1.length < ds.length := by
                        rw [e6, b3]
                        rw [c3] at q0
                        simp only [List.length_append, Option.toList, List.length_cons, List.length_nil] at q0 ⊢
                        omega
                      rw [← racc8.length]
                      omega
                    · exact ((f1.trans x6).trans x7).updD hD
                    · exact (racc8.snoc hv7).updD
                    · rw [f8, c3]; simp
                  · refine ⟨D, io5, s3, m6, f2, S6, gW0_of (d := false) (m := m7) (fun io6 H7 k x6 R6 hk => ?_) u1⟩
                    cases hk
                    rw [if_neg (by decide)]
                    exact ⟨io6, m7, acc1, vacc1, ds1, f1.trans x6, R6, x6.hid D _ List.mem_cons_self f3, f4.mono x6 x6.len, f5.mono x6 x6.len, f6.mono x6, c2, by rw [f8, c3]; rfl⟩
              · have e : j = zs.length := by omega
                subst e
                rw [List.drop_length] at f7
                unfold lcGo at f7
                split at f7
                · cases f7
                  rw [List.append_nil] at f8
                  exact .inl ⟨g2', io5, m3, acc1, vacc1, ds', f1, f2, f3, f4, b2, by rw [e6, b3, ← List.append_assoc, f8]⟩
                · cases f7
            cases y with
            | lst ws =>
              cases t3
              have hv0 := hv
              cases hv with
              | @lst a vs _ h1 h2 z r2 =>
                refine ⟨a, vs, rfl, .inl ⟨.inl (.inl h2), inner a (L2.Itl X.K a) rfl fun io5 m6 H5 _ _ r5 => ?_⟩⟩
                cases r5 with
                | @lst _ vs5 _ k1 k2 z5 r6 =>
                  have w := L2.walk_list (K := X.K) (a := a) (xs := vs5)
                  have hlen := r6.length
                  refine ⟨fun j hj => w.goes j H5 (by omega) (.inl (.inl k2)), by rw [hlen]; exact w.stops H5 (.inl (.inl k2)), fun j d x H6 hd hy1 => ?_⟩
                  have hj : j < vs5.length := by rw [← hlen]; exact (List.getElem?_eq_some_iff.mp hd).1
                  obtain ⟨e1', e2'⟩ := w.yields j H5 x H6 hj (.inl (.inl k2)) hy1
                  obtain ⟨w', e3', r7⟩ := r6.get hd
                  rw [e2'] at e3'
                  cases e3'
                  exact ⟨e1', r7⟩
            | tup ws =>
              cases t3
              cases hv with
              | @tup a vs _ h1 z r2 =>
                refine ⟨a, vs, rfl, .inr ⟨h1.sq, inner a (L2.Itt X.K a) rfl fun io5 m6 H5 _ _ r5 => ?_⟩⟩
                cases r5 with
                | @tup _ vs5 _ k1 z5 r6 =>
                  have w := L2.walk_tup (K := X.K) (a := a) (xs := vs5)
                  have hlen := r6.length
                  refine ⟨fun j hj => w.goes j H5 (by omega) k1.sq, by rw [hlen]; exact w.stops H5 k1.sq, fun j d x H6 hd hy1 => ?_⟩
                  have hj : j < vs5.length := by rw [← hlen]; exact (List.getElem?_eq_some_iff.mp hd).1
                  obtain ⟨e1', e2'⟩ := w.yields j H5 x H6 hj k1.sq hy1
                  obtain ⟨w', e3', r7⟩ := r6.get hd
                  rw [e2'] at e3'
                  cases e3'
                  exact ⟨e1', r7⟩
            | _ => cases t3
          · refine ⟨D, io', s2, m', y2, S3, gW0_of (d := false) (m := m3) (fun io3 H3 k x3 R3 hk => ?_) t1⟩
            cases hk
            rw [if_neg (by decide)]
            exact ⟨io3, m3, acc, vacc, ds', x2.trans x3, R3, x3.hid D _ List.mem_cons_self hacc, racc.mono x3 x3.len, b2, by rw [e6, b3]; rfl⟩
      · have e : i = its.1.length := by omega
        subst e
        refine .inl ⟨(ri' io' H' m' e1 e2 (lc2_stands e5)).2.1, ?_⟩
        rw [List.drop_length] at e5
        unfold lc2Go at e5
        split at e5
        · cases e5
          rw [List.append_nil] at e6
          subst e6
          exact lc_end (al := false) (.inr trivial) hdA hD e1 e2 e3 e4 h1
        · cases e5
/-- its parts -/
structure Lc2P (A : Ad) (X : Cx) (B : Nat → Nat) (b : Nat) (W : Wi) (elt tg iter tg1 iter1 : Expr) (ifs ifs1 : List Expr) (scope : Scope) (own : List (Str × Nat)) (vs1 : List Nat) (p p1 : P) (fi : Sg → M → Option (Rs Its × M)) (ft : Sg → M → Option (Rs Bool × M)) (fi1 : Sg → M → Option (Rs D × M)) (ft1 : Sg → M → Option (Rs Bool × M)) (fe : Sg → M → Option (Rs D × M)) : Prop where
  one : LcP A X B b W elt tg iter ifs scope own p fi ft fe
  hv : ∀ i ∈ vs1, i ∈ own.map (·.2)
  hp1 : ∀ j, j ∈ pv p1 → j ∈ vs1
  hg1 : ∀ (s : Shared) (H : Hp) (C : Addr) (cl : List (Str × Addr)) (fp : List Addr) (D : Addr), PG (X.blk s H scope (compEnvC scope cl C X.env) fp) tg1 (tPat (A.hide D) X.K B b p1)
  ht1 : ∀ (s : Shared) (H : Hp) (C : Addr) (cl : List (Str × Addr)) (fp : List Addr) (D : Addr), PTs (X.blk s H scope (compEnvC scope cl C X.env) fp) ifs1 (tG (A.hide D) X.K B b RId W0 ft1)
  he1 : ∀ (s : Shared) (H : Hp) (C : Addr) (cl : List (Str × Addr)) (fp : List Addr) (D : Addr), PE (X.blk s H scope (compEnvC scope cl C X.env) fp) iter1 (tG (A.hide D) X.K B b (RD (A.hide D) X.K) W0 fi1)
  hs1 : ∀ env x, foldedSetIterable iter1 env x = pure x
theorem n_lc2 {elt tg iter tg1 iter1 : Expr} {ifs ifs1 : List Expr} {scope : Scope} {own : List (Str × Nat)} {vs1 : List Nat} {pos : Pos} {p p1 : P} {fi : Sg → M → Option (Rs Its × M)} {ft : Sg → M → Option (Rs Bool × M)} {fi1 : Sg → M → Option (Rs D × M)} {ft1 : Sg → M → Option (Rs Bool × M)} {fe : Sg → M → Option (Rs D × M)}
    (hc : X.calm = true) (hN : X.N.Nodup) (P : Lc2P A X B b W elt tg iter tg1 iter1 ifs ifs1 scope own vs1 p p1 fi ft fi1 ft1 fe) : PE X (.ListComp elt [⟨tg, iter, ifs, 0⟩, ⟨tg1, iter1, ifs1, 0⟩] scope pos) (tD A X B b W (lc2V (own.map (·.2)) vs1 p fi ft fi1 p1 ft1 fe)) :=
  pe_imp (L2.pe_lc2 hc hN P.one.hi P.one.ok P.hv (fun s H C cl fp => pg_any (P.one.hg s H C cl fp)) (fun s H C cl fp => pts_any (P.one.ht s H C cl fp)) (fun s H C cl fp => pi_seq (pe_any (P.he1 s H C cl fp))) (fun s H C cl fp => pg_any (P.hg1 s H C cl fp)) (fun s H C cl fp => pts_any (P.ht1 s H C cl fp)) (fun s H C cl fp => pe_any (P.one.he s H C cl fp)) P.one.hs P.hs1) (lc2_imp P.one.hp P.hp1)
theorem s_asgLc2 {i : Nat} {x : Str} {px lpos pos : Pos} {N : List Str} {elt tg iter tg1 iter1 : Expr} {ifs ifs1 : List Expr} {scope : Scope} {own : List (Str × Nat)} {vs1 : List Nat} {p p1 : P} {fi : Sg → M → Option (Rs Its × M)} {ft : Sg → M → Option (Rs Bool × M)} {fi1 : Sg → M → Option (Rs D × M)} {ft1 : Sg → M → Option (Rs Bool × M)} {fe : Sg → M → Option (Rs D × M)}
    (hc : X.calm = true) (hk : X.env.scope.kind = .function) (hN : X.N.Nodup) (hNN : X.N = N) {sc : Scope} (hl : LocOk X sc) (hx : locB sc x = true) (hi : N[i]? = some x) (P : Lc2P A X B b W elt tg iter tg1 iter1 ifs ifs1 scope own vs1 p p1 fi ft fi1 ft1 fe) :
    L2.PS X (.Assign [.Name x px] (.ListComp elt [⟨tg, iter, ifs, 0⟩, ⟨tg1, iter1, ifs1, 0⟩] scope lpos) pos) (tSt A X B b W fun s m => eb (lc2V (own.map (·.2)) vs1 p fi ft fi1 p1 ft1 fe s m) fun d m1 => some (.nx (s.set i (some d)), m1)) := by
  have hs := sw_eq (elt := elt) (gs := [⟨tg, iter, ifs, 0⟩, ⟨tg1, iter1, ifs1, 0⟩]) (scope := scope) (pos := lpos) (py := px) (y := x) (l := pos.line) hk
  cases hw : swLc X.env.scope x px lpos scope with
  | false =>
    rw [hw] at hs
    exact s_asg hN hNN hl hx hi hs (n_lc2 hc hN P)
  | true =>
    rw [hw] at hs
    have hloc : X.env.scope.names.lookup x = some .local := by
      unfold swLc at hw
      rw [Bool.and_eq_true, Bool.and_eq_true] at hw
      have h := hw.1.1
      cases hq : X.env.scope.names.lookup x with
      | none => rw [hq] at h; cases h
      | some kd => rw [hq] at h; cases kd <;> first | rfl | cases h
    exact ps_imp (L2.ps_setLc2 (i := i) hc hN (by rw [hNN]; exact hi) hloc hs P.one.hi P.one.ok P.hv (fun s H C cl fp => pg_any (P.one.hg s H C cl fp)) (fun s H C cl fp => pts_any (P.one.ht s H C cl fp)) (fun s H C cl fp => pi_seq (pe_any (P.he1 s H C cl fp))) (fun s H C cl fp => pg_any (P.hg1 s H C cl fp)) (fun s H C cl fp => pts_any (P.ht1 s H C cl fp)) (fun s H C cl fp => pe_any (P.one.he s H C cl fp)) P.one.hs P.hs1)
      fun D σ H q => asg_imp D σ H (lc2_imp P.one.hp P.hp1) q
end
end Bo

set_option Elab.async false
set_option linter.all false
set_option maxRecDepth 100000
/-! B15: expressions, all together. -/
namespace Bo
open PySem PySem.Spec PyProof.Rows
open L2 (V HO Hp Rd SqL SqT Vals upd Cx PE PT PA PO PI PW PG PGs PTs PS PSs OpR UnR CallR SlR IxR VK XK TE TT TA TO TI TG TGs TS Ends Inv RelV EP Room Sp FnOk Gl Vis Binds WX Takes tOp tCons tNil It Turn PIE Loc BlkOk)
/-- the rules that stand by themselves -/
structure Raw (X : Cx) : Prop where
  srt : ∀ (A : Ad) (B : Nat → Nat) (b : Nat), CallR X (.builtin "sorted") (rBi A X.K B b srt1)
  min1 : ∀ (A : Ad) (B : Nat → Nat) (b : Nat), CallR X (.builtin "min") (rBi A X.K B b min1D)
def RawAll : Prop := ∀ X : Cx, X.calm = true → X.A.units + 100 < cLine → Raw X
section
variable {l : Lk} {G : List (Str × D)} {N : List Str}
theorem mE_pl {e : E} {sc : Scope} {x : Expr} (h : mE l G N e sc x = true) : plE x = true := by
  cases x with
  | Starred a p => cases e <;> simp [mE] at h
  | Slice a b c p => cases e <;> simp [mE] at h
  | Set a b p => cases e <;> simp [mE] at h
  | _ => rfl
theorem mEs_pl : ∀ {es : E} {sc : Scope} {xs : List Expr}, mEs l G N es sc xs = true → xs.all plE = true := by
  intro es sc xs
  induction xs generalizing es with
  | nil => intro _; rfl
  | cons x r ih =>
    intro h
    cases es with
    | cons a s =>
      simp only [mEs, Bool.and_eq_true] at h
      rw [List.all_cons, mE_pl h.1, ih h.2]
      rfl
    | nil => simp [mEs] at h
    | _ => simp [mEs] at h
theorem mIt_pl {it : E} {sc : Scope} {tg x : Expr} (h : mIt l G N it sc tg x = true) : plE x = true := by
  cases it with
  | ov a => exact mE_pl (by simpa only [mIt] using h)
  | rng es => cases x <;> first | rfl | simp [mIt] at h
  | enm a => cases x <;> first | rfl | simp [mIt] at h
  | zip a b => cases x <;> first | rfl | simp [mIt] at h
  | _ => simp [mIt] at h
theorem blk_loc {X : Cx} {scope : Scope} (s : Shared) (H : Hp) (C : Addr) (cl : List (Str × Addr)) (fp : List Addr) : LocOk (X.blk s H scope (compEnvC scope cl C X.env) fp) scope := by
  intro x h
  have keep : ∀ {k : NameKind}, k ≠ .free → scope.names.lookup x = some k → (relabel scope X.env).names.lookup x = some k := fun hk e => L2.lookup_relS_keep (sc := X.env.scope) hk e
  unfold locB at h
  split at h
  · rename_i e
    exact ⟨.inl (keep (by decide) e), .inr (keep (by decide) e)⟩
  · rename_i e
    exact ⟨.inr (keep (by decide) e), .inl (by show (scope.names.lookup x == some NameKind.cell) = true; rw [e]; rfl)⟩
  · cases h
theorem own_map (N : List Str) (vs : List Nat) : (ownN N vs).map (·.2) = vs := by
  unfold ownN
  rw [List.map_map]
  exact List.map_id _
/-- the evaluator's surroundings in a def that n calls may stand under -/
abbrev cC (b : Nat) (T : Tb) (n : Nat) : Cl := ⟨b, callN T n, keepN T n, fun _ => none⟩
variable {T : Tb} {n : Nat} {B : Nat → Nat} {b : Nat}
theorem Fr.mgb {A : Ad} {X : Cx} (F : Fr A l G N T n X) {x : Str} (h : x ∈ biNames) : X.mg x = none := F.bi x h
theorem units {A : Ad} {X : Cx} (F : Fr A l G N T n X) : X.A.units + 65 < cLine := by
  have := F.room.un
  omega
theorem units100 {A : Ad} {X : Cx} (F : Fr A l G N T n X) : X.A.units + 100 < cLine := by
  have := F.room.un
  omega
theorem const_rep {K : PySem.W.Frag} {A : Ad} {d : D} {c : Const} (h : kB d c = true) (hd : ∀ ds, d ≠ .tup ds) : True := trivial
theorem n_kc {A : Ad} {X : Cx} {W : Wi} {d : D} {c : Const} {j : Nat} {p : Pos} (h : kB d c = true) : ∃ v, PE X (.Constant c j p) (L2.tC v) ∧ ∀ A io c H, Rep A X.K io c H d v := by
  cases d with
  | non => cases c <;> first | exact ⟨_, L2.pe_non, fun _ _ _ _ => .non⟩ | cases h
  | bl a =>
    cases c with
    | bool b =>
      have e : a = b := by simpa [kB] using h
      subst e
      exact ⟨_, L2.pe_bl, fun _ _ _ _ => .bl _⟩
    | _ => cases h
  | int a =>
    cases c with
    | int b =>
      have e : a = b := by simpa [kB] using h
      subst e
      exact ⟨_, L2.pe_int, fun _ _ _ _ => .int _⟩
    | _ => cases h
  | str a =>
    cases c with
    | str b =>
      have e : a = b := by simpa [kB] using h
      subst e
      exact ⟨_, L2.pe_str, fun _ _ _ _ => .str _⟩
    | _ => cases h
  | _ => cases c <;> cases h
/-- what is to be shown of an expression -/
def EvP (l : Lk) (G : List (Str × D)) (N : List Str) (T : Tb) (n : Nat) (B : Nat → Nat) (b : Nat) (e : E) : Prop := ∀ (A : Ad) (X : Cx) (W : Wi) (x : Expr), Fr A l G N T n X → RawAll → Takes X (wxOf A W) → mE l G N e X.env.scope x = true →
  PE X x (tD A X B b W (ev (cC b T n) e)) ∧ (tstE e = true → PT X x (tT A X B b W fun s m => tst (ev (cC b T n) e s m)))
def EsP (l : Lk) (G : List (Str × D)) (N : List Str) (T : Tb) (n : Nat) (B : Nat → Nat) (b : Nat) (es : E) : Prop := ∀ (A : Ad) (X : Cx) (W : Wi) (xs : List Expr), Fr A l G N T n X → RawAll → Takes X (wxOf A W) → mEs l G N es X.env.scope xs = true →
  PA X xs (tDs A X B b W (evs (cC b T n) es))
def ItP (l : Lk) (G : List (Str × D)) (N : List Str) (T : Tb) (n : Nat) (B : Nat → Nat) (b : Nat) (it : E) : Prop := ∀ (A : Ad) (X : Cx) (W : Wi) (tg x : Expr), Fr A l G N T n X → RawAll → Takes X (wxOf A W) → mIt l G N it X.env.scope tg x = true →
  PI X tg x (tI A X B b W (evIt (cC b T n) it))
def OpP (l : Lk) (G : List (Str × D)) (N : List Str) (T : Tb) (n : Nat) (B : Nat → Nat) (b : Nat) (e : E) : Prop := ∀ (A : Ad) (X : Cx) (W : Wi) (x : Option Expr), Fr A l G N T n X → RawAll → Takes X (wxOf A W) → mO l G N e X.env.scope x = true →
  PO X x (tO A X B b W (evO (cC b T n) e))
/-- from the value to the test -/
theorem both {A : Ad} {X : Cx} {W : Wi} {e : E} {x : Expr} {f : Sg → M → Option (Rs D × M)} (h : PE X x (tD A X B b W f)) (hp : plT x = true) : PE X x (tD A X B b W f) ∧ (tstE e = true → PT X x (tT A X B b W fun s m => tst (f s m))) :=
  ⟨h, fun _ => pt_of h hp⟩
theorem bi_case {A : Ad} {X : Cx} (F : Fr A l G N T n X) (raw : RawAll) (bb : Bi) (hb : biOk bb = true) : (∃ id, bootBuiltins (biN bb) = some (.builtin id) ∧ CallR X (.builtin id) (rBi A X.K B b fun m ds => opBi m bb ds)) ∨ (∃ ty, bootBuiltins (biN bb) = some (.type ty) ∧ CallR X (.type ty) (rBi A X.K B b fun m ds => opBi m bb ds)) := by
  cases bb with
  | len => exact .inl ⟨"len", by decide +kernel, cr_len⟩
  | sum => exact .inl ⟨"sum", by decide +kernel, cr_sum F.calm⟩
  | all => exact .inl ⟨"all", by decide +kernel, cr_all F.calm⟩
  | any => exact .inl ⟨"any", by decide +kernel, cr_any F.calm⟩
  | srt => exact .inl ⟨"sorted", by decide +kernel, (raw X F.calm (units100 F)).srt A B b⟩
  | tup => exact .inr ⟨"tuple", by decide +kernel, cr_tup⟩
  | min1 => exact .inl ⟨"min", by decide +kernel, (raw X F.calm (units100 F)).min1 A B b⟩
  | min2 => exact .inl ⟨"min", by decide +kernel, cr_min2 F.calm⟩
  | abs => exact .inl ⟨"abs", by decide +kernel, cr_abs⟩
  | str => exact .inr ⟨"str", by decide +kernel, cr_str SkE.call_str_str⟩
  | int => exact .inr ⟨"int", by decide +kernel, cr_int⟩
theorem biN_mem : ∀ bb : Bi, biN bb ∈ biNames := by intro bb; cases bb <;> decide +kernel
theorem ki_case {A : Ad} {X : Cx} (F : Fr A l G N T n X) {k : Ki} {x : Str} {p : Pos} (hk : kiN l k = some x) (hg : glB X.env.scope x = true) : ∃ c u, L2.ClsV c u ∧ clsOf A k = some u ∧ PE X (.Name x p) (L2.tC c) := by
  have bt : ∀ {T : String}, X.mg x = none → bootBuiltins x = some (.type T) → clsOf A k = some (.type T) → ∃ c u, L2.ClsV c u ∧ clsOf A k = some u ∧ PE X (.Name x p) (L2.tC c) := fun {T} h1 h2 h3 =>
    ⟨.ty T, _, .ty T, h3, L2.pe_bltn (gl_of hg).1 h1 h2 rfl (gl_of hg).2.2 (gl_of hg).2.1⟩
  cases k with
  | cls c =>
    simp only [kiN] at hk
    split at hk
    · rename_i e
      subst e
      obtain ⟨a, h1, h2⟩ := F.cl 13 x hk
      exact ⟨.ref a, _, .own a, by simp [clsOf, h1], L2.pe_glob (gl_of hg).1 h2 rfl (gl_of hg).2.1⟩
    · cases hk
  | int => cases hk; exact bt (F.bi _ (by decide +kernel)) (by decide +kernel) rfl
  | bool => cases hk; exact bt (F.bi _ (by decide +kernel)) (by decide +kernel) rfl
  | tup => cases hk; exact bt (F.bi _ (by decide +kernel)) (by decide +kernel) rfl
  | str => cases hk; exact bt (F.bi _ (by decide +kernel)) (by decide +kernel) rfl
  | lst => cases hk; exact bt (F.bi _ (by decide +kernel)) (by decide +kernel) rfl
end
end Bo

set_option Elab.async false
set_option linter.all false
set_option maxRecDepth 100000
/-! BR2: sorted(..) of a list of data. -/
namespace Bo
open PySem PySem.Spec PyProof.Rows
open L2 (V HO Hp Rd SqL SqT Vals upd Cx CallR VK Inv RelV EP)
theorem pys_map : ∀ {ds : List D} {ps : List PyData}, pys ds = some ps → ds.map encD = ps
  | [], _, h => by cases h; rfl
  | d :: r, ps, h => by
    simp only [pys] at h
    split at h
    · rename_i x y e1 e2
      cases h
      rw [List.map_cons, pys_map e2]
      unfold encD
      rw [e1]
      rfl
    · cases h
theorem lt_irr (p : PyData) : W.dataLt p p = false := PyProof.Rows.lex_irrefl _
theorem lt_tr {p q r : PyData} (h : W.dataLt p q = true) (k : W.dataLt q r = true) : W.dataLt p r = true := PyProof.Rows.lex_trans _ _ _ h k
theorem lt_neg {p q r : PyData} (h : W.dataLt p r = true) : W.dataLt p q = true ∨ W.dataLt q r = true := PyProof.Rows.lex_negTrans _ _ _ h
/-- before, as sorted has it -/
def ltE (a b : D) : Bool := W.dataLt (encD a) (encD b)
theorem le_tr (a b c : D) (h : W.dataLe false encD a b = true) (k : W.dataLe false encD b c = true) : W.dataLe false encD a c = true := by
  rw [W.dataLe_eq] at *
  simp only [cond_false, Bool.not_eq_true'] at *
  cases e : W.dataLt (encD c) (encD a) with
  | false => rfl
  | true =>
    rcases lt_neg (q := encD b) e with z | z
    · rw [z] at k; cases k
    · rw [z] at h; cases h
theorem le_tot (a b : D) : (W.dataLe false encD a b || W.dataLe false encD b a) = true := by
  rw [W.dataLe_eq]
  simp only [cond_false]
  cases e : W.dataLt (encD b) (encD a) with
  | false => rfl
  | true =>
    cases e2 : W.dataLt (encD a) (encD b) with
    | false => rfl
    | true => have := lt_tr e e2; rw [lt_irr] at this; cases this
theorem ins1_mid {α : Type} {le : α → α → Bool} {a : α} : ∀ (l1 l2 : List α), (∀ b, b ∈ l1 → le a b = false) → (∀ b, b ∈ l2 → le a b = true) → ins1 le a (l1 ++ l2) = l1 ++ a :: l2
  | [], [], _, _ => rfl
  | [], b :: r, _, h => by
    show ins1 le a (b :: r) = a :: b :: r
    rw [ins1, if_pos (h b List.mem_cons_self)]
  | b :: r, l2, h, h2 => by
    show ins1 le a (b :: (r ++ l2)) = b :: (r ++ a :: l2)
    rw [ins1, if_neg (by rw [h b List.mem_cons_self]; exact Bool.false_ne_true), ins1_mid r l2 (fun c hc => h c (List.mem_cons_of_mem _ hc)) h2]
theorem isort_eq {α : Type} {le : α → α → Bool} (tr : ∀ a b c, le a b = true → le b c = true → le a c = true) (tot : ∀ a b, (le a b || le b a) = true) : ∀ l : List α, isort le l = l.mergeSort le
  | [] => by simp [isort]
  | a :: r => by
    obtain ⟨l1, l2, e1, e2, e3⟩ := List.mergeSort_cons (le := le) tr tot a r
    have h := List.pairwise_mergeSort (le := le) tr tot (a :: r)
    rw [e1] at h
    have h2 := (List.pairwise_append.mp h).2.1
    rw [e1, isort, isort_eq tr tot r, e2]
    refine ins1_mid l1 l2 (fun b hb => ?_) fun b hb => (List.pairwise_cons.mp h2).1 b hb
    have := e3 b hb
    simpa using this
theorem srtD_m (ds : List D) : srtD ds = match pys ds with
    | some ps => if srtOk ps && decide (ds.length ≤ sizeLine) then some (ds.mergeSort (W.dataLe false encD)) else none
    | none => none := by
  unfold srtD
  cases pys ds with
  | none => rfl
  | some ps =>
    simp only [isort_eq le_tr le_tot]
/-! ### sorted of a tuple -/
section
variable {prog : Program} {w : World} {Ar : Around} {E : Value → Shared → Prop} {s : Shared} {β : Type} {vs : List Value} {bs : List β} {enc : β → PyData} {R : Value → β → Prop}
theorem type_of_tup {a : Addr} {its : Array Value} (h : IsTup s.heap a its) : s.TypeIs (.ref a) "tuple" := by
  obtain ⟨o, h1, h2, _⟩ := h
  exact ⟨o, h1, h2⟩
theorem gather_tup {a : Addr} {Q : List Value → Shared → Prop} (ht : IsTup s.heap a vs.toArray) (hz : vs.length ≤ sizeLine)
    (h : Q vs { s with heap := (s.heap.push (seqObj "list" #[] 0)).update s.heap.objs.size (Obj.mapSeq (· ++ vs.toArray)) }) : wpAny (model prog w) Ar (collect (.ref a)) Q E s := by
  have hty := type_of_tup ht
  obtain ⟨o, ho, hc, n, hd⟩ := ht
  have ho' : (s.heap.push (seqObj "list" #[] 0)).get? a = some o := Heap.get?_push_of_some _ ho
  unfold collect
  refine wpAny_bind (wpAny_runValue (codeAny_builtin entry_proto_collect' ?_))
  refine wpAny_bind (wpAny_newList ?_)
  refine wpAny_pure ⟨Code.quiet_builtin _ (by decide +kernel), codeAny_builtin entry_list_iadd' ?_⟩
  show wpAny _ _ (Builtin.List.listExtendWith (.ref s.heap.objs.size) (.ref a) (.ref s.heap.objs.size)) _ _ { s with heap := s.heap.push (seqObj "list" #[] 0) }
  have e1 : (Value.type "tuple" == Value.type "tuple") = true := rfl
  unfold Builtin.List.listExtendWith
  refine wpAny_bind (wpAny_typeOf (T := "tuple") ⟨o, ho', hc⟩ ?_)
  rw [if_pos (by rw [e1]; simp)]
  refine wpAny_bind (listItems_at ho' hd ?_)
  refine wpAny_bind (listItems_at (xs := #[]) (n := 0) (Heap.get?_push_size _ rfl) rfl ?_)
  rw [if_neg (by simp)]
  have e2 : (#[] ++ vs.toArray : Array Value).size ≤ sizeLine + 1 := by
    rw [Array.size_append, List.size_toArray]
    show 0 + vs.length ≤ sizeLine + 1
    omega
  refine wpAny_bind (listUpdate_at (xs := #[]) (n := 0) (Heap.get?_push_size _ rfl) rfl ?_ (Nat.zero_le _) e2)
  refine wpAny_pure ?_
  refine wpAny_bind (wpAny_load (get?_update_seq (Heap.get?_push_size _ rfl) _) ?_)
  show wpAny _ _ (pure ((#[] : Array Value) ++ vs.toArray).toList) Q E _
  have e3 : ((#[] : Array Value) ++ vs.toArray).toList = vs := by simp
  rw [e3]
  exact wpAny_pure h
theorem sorted_tup {a : Addr} {Q : Value → Shared → Prop} (ht : IsTup s.heap a vs.toArray) (hz : vs.length ≤ sizeLine)
    (body : ∀ E' : Value → Shared → Prop, wpAny (model prog w) Ar.in1.in1 (Builtin.«list.sort» ⟨[.ref (s.heap.objs.size + 1)], []⟩) (fun f s' => f = .done (.ret .none) ∧ Q (.ref (s.heap.objs.size + 1)) s') E' { s with heap := PySem.W.copyHeap s.heap vs }) :
    wpAny (model prog w) Ar (call (.builtin "sorted") [.ref a]) Q E s := by
  refine Calls.call_function_entry kind_sorted plain_sorted entry_sorted (args_sorted1 _) ?_
  unfold Builtin.«sorted»
  refine wpAny_bind (m := checkCount "sorted" 1 1 _) (wpAny_pure ?_)
  refine wpAny_bind (gather_tup ht hz ?_)
  refine wpAny_bind (wpAny_newList ?_ hz)
  have e1 : ((s.heap.push (seqObj "list" #[] 0)).update s.heap.objs.size (Obj.mapSeq (· ++ vs.toArray))).objs.size = s.heap.objs.size + 1 := by
    rw [Heap.size_update, size_push']
  show wpAny _ _ _ _ _ { s with heap := PySem.W.copyHeap s.heap vs }
  rw [e1]
  refine wpAny_bind (wpAny_holding (wpAny_call_entry_kw slot_list_sort ⟨_, PySem.W.copyHeap_at s.heap vs, rfl⟩ entry_list_sort ?body (args_list_sort _)))
  case body =>
    refine wpAny_mono (body _) (fun f s' q => ?_) fun _ _ e => e
    obtain ⟨rfl, q⟩ := q
    exact ⟨_, rfl, wpAny_pure ⟨_, rfl, q⟩⟩
theorem sorted_any {a : Addr} {Q : Value → Shared → Prop} (hl : s.heap.IsList a vs.toArray ∨ IsTup s.heap a vs.toArray) (e : W.EachIs R vs bs) (er : W.EachIs (fun v b => ∃ as, Reads s.heap v (enc b) as) vs bs) (hal : W.AllAlike (bs.map enc)) (hk : W.Sortable (bs.map enc)) (hL : bs.length ≤ sizeLine)
    (hu : ∀ b, b ∈ bs → Ar.units + 2 + (enc b).depth < cLine) (h : ∀ out, out.length = bs.length → W.EachIs R out (bs.mergeSort (W.dataLe false enc)) → Q (.ref (s.heap.objs.size + 1)) { s with heap := sortedAll s.heap vs (List.toArray out) }) :
    wpAny (model prog w) Ar (call (.builtin "sorted") [.ref a]) Q E s := by
  rcases hl with hl | hl
  · exact W.sorted_data hl e er hal hk hL hu h
  · have hz : vs.length ≤ sizeLine := by rw [e.length]; exact hL
    have er2 : W.EachIs (fun v b => ∃ as, Reads (W.sortingHeap (W.copyHeap s.heap vs) (s.heap.objs.size + 1) vs) v (enc b) as) vs bs := er.mono fun _ _ ⟨as, r⟩ => ⟨as, PyProof.Rows.Reads.keeps (fun _ _ => W.sorting_copy_old) r⟩
    have S := W.SortsAt.data (prog := prog) (w := w) (A := Ar.in1.in1) (s := { s with heap := W.sortingHeap (W.copyHeap s.heap vs) (s.heap.objs.size + 1) vs }) (W.each_map (R := fun v d => ∃ as, Reads (W.sortingHeap (W.copyHeap s.heap vs) (s.heap.objs.size + 1) vs) v d as) enc er2) hal hk (W.bound_map hu)
    have q := h _ (by rw [W.sortVals_length false rfl]; exact e.length) (W.sortVals_data false e er2 hal)
    exact sorted_tup hl hz fun E' => W.list_sort_vals (s := { s with heap := W.copyHeap s.heap vs }) (W.copyHeap_at s.heap vs) S hz ⟨rfl, q⟩
end
section
variable {A : Ad} {B : Nat → Nat} {b : Nat} {X : Cx}
/-- what a value is known to stand for -/
def StandsFor (A : Ad) (K : PySem.W.Frag) (io : List Addr) (H : Hp) : Value → D → Prop := fun u d => ∃ v, RelV v u ∧ Rep A K io io.length H d v
theorem each_of {K : PySem.W.Frag} {io : List Addr} {H : Hp} : ∀ {ds : List D} {vs : List V} {us : List Value}, Reps A K io io.length H ds vs → Vals vs us → W.EachIs (StandsFor A K io H) us ds
  | _, _, _, .nil, .nil => .nil
  | _, _, _, .cons r t, .cons x y => .cons ⟨_, x, r⟩ (each_of t y)
theorem of_each {K : PySem.W.Frag} {io : List Addr} {H : Hp} : ∀ {us : List Value} {ds : List D}, W.EachIs (StandsFor A K io H) us ds → ∃ vs, Reps A K io io.length H ds vs ∧ Vals vs us
  | _, _, .nil => ⟨[], .nil, .nil⟩
  | _, _, .cons ⟨v, x, r⟩ t => by
    obtain ⟨vs, h1, h2⟩ := of_each t
    exact ⟨v :: vs, .cons r h1, .cons x h2⟩
theorem srt_alike {ps : List PyData} (h : alikes ps = true) : W.AllAlike ps := by
  unfold alikes at h
  intro d hd d' hd'
  exact List.all_eq_true.mp (List.all_eq_true.mp h d hd) d' hd'
theorem lsaEx {m : M} {io : List Addr} {H : Hp} {d : D} {v : V} {ds : List D} (R : Rel A X.K B b io H m) (r : Rep A X.K io io.length H d v) (h : lsaM m d = some ds) : ∃ a vs, v = .ref a ∧ SqL X.K H a vs ∧ Reps A X.K io io.length H ds vs := by
  unfold lsaM at h
  split at h
  · cases h
    cases r with
    | arg h1 z => exact ⟨_, _, rfl, h1.sq, reps_ints _⟩
  · obtain ⟨a, vs, rfl, e, r1, _⟩ := r.lstEx R h
    exact ⟨a, vs, rfl, .inl (.inl e), r1⟩
theorem each_reads {io : List Addr} {H : Hp} {pins : List (Addr × Obj)} {σ : L2.St} {s : Shared} (I : Inv X pins σ H s) : ∀ {ds : List D} {vs : List V} {us : List Value} {ps : List PyData}, pys ds = some ps → Reps A X.K io io.length H ds vs → Vals vs us → W.EachIs (fun v b => ∃ as, Reads s.heap v (encD b) as) us ds
  | [], _, us, _, _, r, x => by
    cases r
    cases x
    exact .nil
  | d :: ds, _, us, ps, h, r, x => by
    cases r with
    | cons r t =>
      cases x with
      | cons x y =>
        simp only [pys] at h
        split at h
        · rename_i p q e1 e2
          cases h
          refine .cons ?_ (each_reads I e2 t y)
          have e : encD d = p := by unfold encD; rw [e1]; rfl
          rw [e]
          exact L2.Dp.reads I p _ _ (r.dp e1) x
        · cases h
theorem stsEx {m : M} {io : List Addr} {H : Hp} {d : D} {v : V} {ds : List D} (R : Rel A X.K B b io H m) (r : Rep A X.K io io.length H d v) (h : stsM m d = some ds) : ∃ a vs, v = .ref a ∧ (SqL X.K H a vs ∨ L2.SqT X.K H a vs) ∧ Reps A X.K io io.length H ds vs := by
  unfold stsM at h
  split at h
  · cases h
    cases r with
    | tup h1 z h2 => exact ⟨_, _, rfl, .inr h1.sq, h2⟩
  · obtain ⟨a, vs, h1, h2, h3⟩ := lsaEx R r h
    exact ⟨a, vs, h1, .inl h2, h3⟩
theorem cr_srt (hu : X.A.units + 100 < cLine) : CallR X (.builtin "sorted") (rBi A X.K B b srt1) := by
  intro pins s σ H xs us Q I rv h
  obtain ⟨io, m, ds, r, R, rs, ho, q⟩ := h
  unfold srt1 at ho
  split at ho
  · obtain ⟨v, rfl, r1⟩ := reps1 rs
    cases hl : stsM m _ with
    | none => rw [hl] at ho; cases ho
    | some ds =>
      rw [hl] at ho
      simp only [Option.bind_some] at ho
      rw [srtD_m] at ho
      split at ho
      · rename_i ps e
        split at ho
        · rename_i hz
          rw [Bool.and_eq_true, decide_eq_true_eq] at hz
          obtain ⟨hz, hlen⟩ := hz
          unfold srtOk at hz
          rw [Bool.and_eq_true, Bool.and_eq_true, Bool.or_eq_true] at hz
          obtain ⟨⟨z1, z2⟩, z3⟩ := hz
          cases ho
          obtain ⟨a, vs, rfl, hq, hr⟩ := stsEx R r1 hl
          obtain ⟨u, rfl, hu1⟩ := rv.one
          cases hu1
          obtain ⟨its, rvs, pl⟩ : ∃ its : List Value, Vals vs its ∧ (s.heap.IsList a its.toArray ∨ IsTup s.heap a its.toArray) := by
            rcases hq with hq | hq
            · obtain ⟨its, rvs, pl, hz'⟩ := I.list hq
              exact ⟨its, rvs, .inl pl.isList⟩
            · obtain ⟨its, rvs, pl, hz'⟩ := I.tuple hq
              exact ⟨its, rvs, .inr pl⟩
          have em := pys_map e
          refine sorted_any (vs := its) (bs := ds) (enc := encD) (R := StandsFor A X.K io H) pl (each_of hr rvs) (each_reads I e hr rvs) (by rw [em]; exact srt_alike z1) ?_ hlen ?_ fun out hout eo => ?_
          · rw [em]
            rcases z3 with z3 | z3
            · refine .inl fun d hd => ?_
              have q := List.all_eq_true.mp z3 d hd
              split at q
              · exact ⟨_, _, rfl⟩
              · cases q
            · refine .inr fun d hd => ?_
              have q := List.all_eq_true.mp z3 d hd
              split at q
              · cases q
              · cases q
              · rename_i n1 n2
                exact ⟨n1, n2⟩
          · intro d hd
            have : encD d ∈ ps := by rw [← em]; exact List.mem_map.mpr ⟨d, hd, rfl⟩
            have := SeqAt.depth_of_shaped (List.all_eq_true.mp z2 _ this)
            omega
          · obtain ⟨ws, w1, w2⟩ := of_each eo
            obtain ⟨c, hc⟩ := sortedAll_at s.heap its out.toArray
            have hsz : (ds.mergeSort (W.dataLe false encD)).length ≤ sizeLine := by rw [List.length_mergeSort]; exact hlen
            have hfr := I.hok.fresh (Nat.le_succ s.heap.objs.size)
            refine ⟨.ref (s.heap.objs.size + 1), upd H (s.heap.objs.size + 1) (.lst ws), I.laid (t' := s.toks) (fun _ _ => sortedAll_old) (Nat.le_succ _) ?_, rfl, q.lst R hfr w1 hsz⟩
            exact ⟨by rw [← w1.length]; exact hsz, out, c, w2, hc⟩
        · cases ho
      · cases ho
  · cases ho
end
end Bo

set_option Elab.async false
set_option linter.all false
set_option maxRecDepth 100000
/-! BR3: sorted(set(t)) of a tuple of whole numbers. -/
namespace Bo
open PySem PySem.Spec PyProof.Rows
open L2 (V HO Hp Rd SqL SqT Vals upd Cx PE PT PA PO PI PW PG PGs PTs PS PSs OpR UnR CallR SlR IxR VK XK TE TT TA TO TI TG TGs TS Ends Inv RelV EP Room Sp FnOk Gl Vis Binds WX Takes tOp tCons tNil It Turn PIE Loc BlkOk)
theorem insS_mem {x k : Int} : ∀ {l : List Int}, k ∈ insS x l ↔ k = x ∨ k ∈ l
  | [] => by simp [insS]
  | y :: r => by
    unfold insS
    split
    · simp
    · split
      · rename_i e; subst e; simp
      · rw [List.mem_cons, insS_mem, List.mem_cons]
        constructor
        · rintro (h | h | h)
          · exact .inr (.inl h)
          · exact .inl h
          · exact .inr (.inr h)
        · rintro (h | h | h)
          · exact .inr (.inl h)
          · exact .inl h
          · exact .inr (.inr h)
theorem insS_pw {x : Int} : ∀ {l : List Int}, l.Pairwise (· < ·) → (insS x l).Pairwise (· < ·)
  | [], _ => by simp [insS]
  | y :: r, h => by
    rw [List.pairwise_cons] at h
    unfold insS
    split
    · rename_i hx
      rw [List.pairwise_cons, List.pairwise_cons]
      refine ⟨fun a ha => ?_, h⟩
      rcases List.mem_cons.mp ha with z | z
      · rw [z]; exact hx
      · exact Int.lt_trans hx (h.1 a z)
    · split
      · rw [List.pairwise_cons]; exact h
      · rename_i h1 h2
        rw [List.pairwise_cons]
        refine ⟨fun a ha => ?_, insS_pw h.2⟩
        rcases insS_mem.mp ha with z | z
        · rw [z]; omega
        · exact h.1 a z
theorem sdI_mem {k : Int} : ∀ {ns : List Int}, k ∈ sdI ns ↔ k ∈ ns
  | [] => by simp [sdI]
  | n :: r => by
    show k ∈ insS n (sdI r) ↔ _
    rw [insS_mem, sdI_mem, List.mem_cons]
theorem sdI_pw : ∀ ns : List Int, (sdI ns).Pairwise (· < ·)
  | [] => List.Pairwise.nil
  | n :: r => insS_pw (sdI_pw r)
theorem pw_uniq {a b : List Int} (ha : a.Pairwise (· < ·)) (hb : b.Pairwise (· < ·)) (h : ∀ k, k ∈ a ↔ k ∈ b) : a = b := by
  refine List.Perm.eq_of_pairwise (le := fun x y => x < y) (fun x y _ _ h1 h2 => absurd (Int.lt_trans h1 h2) (Int.lt_irrefl _)) ha hb ?_
  have nd : ∀ {l : List Int}, l.Pairwise (· < ·) → l.Nodup := fun h => h.imp fun h => by omega
  exact (List.perm_ext_iff_of_nodup (nd ha) (nd hb)).mpr h
section
variable {A : Ad} {B : Nat → Nat} {b : Nat} {X : Cx}
/-- set(t) of a tuple of whole numbers -/
def rSetTu (K : PySem.W.Frag) (w : World) : List V → Hp → VK → Prop := fun xs H Q => ∃ (l : Addr) (ns : List Int), xs = [V.ref l] ∧ SqT K H l (ns.map V.int) ∧ ns.length + 1 < scanBound ∧
  ∀ a c, H a = none → c ≤ ns.length → Q (.ref a) (upd H a (L2.SetO w a (fun j => decide (j ∈ ns)) c))
theorem cr_setTu (hc : X.calm = true) : CallR X (.type "set") (rSetTu X.K X.w) := by
  intro pins s σ H xs us Q I r h
  obtain ⟨l, ns, rfl, hl, hf, q⟩ := h
  rw [Vals.ref1 r]
  obtain ⟨its, rv, pt, hz⟩ := I.tuple hl
  have hn : H s.heap.objs.size = none := I.hok.fresh (Nat.le_refl _)
  refine L2.call_set_tupI (P := X.prog) (w := X.w) ns (I.ok.hd hc) pt (by simpa using L2.ints_of_vals rv) hf fun h' tk c R hcn k => ?_
  exact ⟨.ref s.heap.objs.size, upd H s.heap.objs.size (L2.SetO X.w s.heap.objs.size (fun j => decide (j ∈ ns)) c), I.laid (t' := tk) k (Nat.le_refl _) (L2.setO_new R), rfl, q _ c hn hcn⟩
end
end Bo

set_option Elab.async false
set_option linter.all false
set_option maxRecDepth 100000
/-! BR5: len(set(xs)) of a list of whole numbers. -/
namespace Bo
open PySem PySem.Spec PyProof.Rows
open L2 (V HO Hp Rd SqL SqT Vals upd Cx PE PT PA PO PI PW PG PGs PTs PS PSs OpR UnR CallR SlR IxR VK XK TE TT TA TO TI TG TGs TS Ends Inv RelV EP Room Sp FnOk Gl Vis Binds WX Takes tOp tCons tNil It Turn PIE Loc BlkOk)
theorem met_nd (val : Nat → Int) : ∀ i, (firstMet val i).Nodup
  | 0 => List.nodup_nil
  | i + 1 => by
    rw [firstMet_succ]
    unfold step_dedup
    split
    · exact met_nd val i
    · rename_i h
      refine List.nodup_append.mpr ⟨met_nd val i, by simp, fun a ha b hb e => ?_⟩
      rw [List.mem_singleton] at hb
      exact h (List.any_eq_true.mpr ⟨a, ha, by rw [e, hb]; exact beq_self_eq_true _⟩)
theorem met_len (ns : List Int) : (firstMet (fun i => ns.getD i 0) ns.length).length = (sdI ns).length := by
  have nd : (sdI ns).Nodup := (sdI_pw ns).imp fun h => by omega
  refine ((List.perm_ext_iff_of_nodup (met_nd _ _) nd).mpr fun k => ?_).length_eq
  rw [sdI_mem]
  have := firstMet_any (fun i => ns.getD i 0) ns.length k
  rw [Bool.eq_iff_iff, List.any_eq_true, List.any_eq_true] at this
  constructor
  · intro h
    obtain ⟨x, hx, e⟩ := this.mp ⟨k, h, beq_self_eq_true _⟩
    obtain ⟨i, hi, rfl⟩ := List.mem_map.mp hx
    rw [List.mem_range] at hi
    rw [← eq_of_beq e, List.getD_eq_getElem?_getD, List.getElem?_eq_getElem hi]
    exact List.getElem_mem _
  · intro h
    obtain ⟨i, hi, e⟩ := List.getElem_of_mem h
    obtain ⟨x, hx, e2⟩ := this.mpr ⟨k, List.mem_map.mpr ⟨i, List.mem_range.mpr hi, by rw [List.getD_eq_getElem?_getD, List.getElem?_eq_getElem hi, e]; rfl⟩, beq_self_eq_true _⟩
    rw [← eq_of_beq e2]
    exact hx
section
variable {A : Ad} {B : Nat → Nat} {b : Nat} {X : Cx} {W : Wi}
def tLenSet (K : PySem.W.Frag) (ta : TE) : TE := fun σ H Q => ta σ H fun x H1 => ∃ (l : Addr) (ns : List Int), x = .ref l ∧ SqL K H1 l (ns.map V.int) ∧ ns.length ≤ 4000 ∧ Q (.int ((sdI ns).length : Nat)) H1
theorem pe_lenSet {a : Expr} {ta : TE} {p p2 q pos : Pos} (hg : Gl X "len") (hm : X.mg "len" = none) (hg2 : Gl X "set") (hm2 : X.mg "set" = none) (ha : PE X a ta) (hc : X.calm = true) (na : starEach [a] X.env = (false, eval a X.env) :: starEach [] X.env) :
    PE X (.Call (.Name "len" p) [.Call (.Name "set" p2) [a] [] q] [] pos) (tLenSet X.K ta) := by
  refine ⟨fun pins s σ H Q I h => Call_ (L2.ld_blt I hg hm PySem.boot_len (PyProof.Rows.callWith_builtin1 (PyProof.Rows.args_cons ?_ rfl) rfl rfl))⟩
  refine Call_ (L2.ld_blt I hg2 hm2 PyProof.Rows.boot_set ?_)
  refine PyProof.Rows.callWith_type1 (PyProof.Rows.args_cons (L2.thn (ha.run pins s σ H _ I h) fun v s1 ⟨x, H1, I1, r1, q1⟩ => PyProof.Rows.args_nil ?_) na) na rfl
  obtain ⟨l, ns, rfl, hq, hl, q1⟩ := q1
  cases r1
  obtain ⟨its, rv, pl, _⟩ := I1.list hq
  have sz : its.toArray.size = ns.length := by rw [List.size_toArray, ← rv.length, List.length_map]
  refine call_set_list (I1.ok.hd hc) pl.isList (ns := ns) (by simpa using L2.ints_of_vals rv) (by rw [sz]; unfold scanBound; omega) fun h' tk S old => PyProof.Rows.args_nil ?_
  rw [sz, met_len] at S
  obtain ⟨o, es, ep, t, ho, hex, hd, _, _, _, hf, hn⟩ := S
  have le : (sdI ns).length ≤ ns.length := by rw [← met_len]; exact firstMet_length_le _ _
  have I2 : Inv X pins σ H1 { s1 with heap := h', toks := tk } := I1.kept fun b o e => old b o (Heap.lt_size e) e
  exact call_len_set ho hex hd hf (by rw [hn]; omega) ⟨.int ((sdI ns).length : Nat), H1, I2.tok _, ⟨_, by rw [hn]⟩, q1⟩
theorem n_lst1 {x y : Str} {p p2 pos pos2 : Pos} {e : Expr} {f : Sg → M → Option (Rs D × M)} (hc : X.calm = true) (hg : glB X.env.scope x = true) (hn : x = ("len" : Str)) (hm : X.mg "len" = none) (hg2 : glB X.env.scope y = true) (hn2 : y = ("set" : Str)) (hm2 : X.mg "set" = none) (hp : plE e = true) (ha : PE X e (tD A X B b W f)) :
    PE X (.Call (.Name x p) [.Call (.Name y p2) [e] [] pos2] [] pos) (tD A X B b W fun s m => bnd (f s m) fun d m1 => giv (((lstM m1 d).bind lstD1).map fun n => .int (n : Nat)) m1) := by
  subst hn hn2
  refine pe_imp (pe_lenSet (gl_of hg).1 hm (gl_of hg2).1 hm2 ha hc (pl_star hp _ _)) fun σ H Q q => ?_
  obtain ⟨io, s, m, R, S, q⟩ := q
  refine tG.step (RR := RD A X.K) R S q fun io1 H1 m1 d v x1 R1 S1 r1 h1 => ?_
  obtain ⟨r, e, q⟩ := h1.giv
  obtain ⟨n, e1, rfl⟩ := Option.map_eq_some_iff.mp e
  cases hl : lstM m1 d with
  | none => rw [hl] at e1; cases e1
  | some ds =>
    rw [hl, Option.bind_some] at e1
    unfold lstD1 at e1
    cases hi : intsD ds with
    | none => rw [hi] at e1; cases e1
    | some ns =>
      rw [hi] at e1
      simp only at e1
      split at e1
      · rename_i hz
        cases e1
        obtain ⟨a0, vs, rfl, hv, rs, _⟩ := r1.lstEx R1 hl
        have ev := vals_ints rs hi
        subst ev
        exact ⟨a0, ns, rfl, .inl (.inl hv), hz, q io1 H1 _ (Ext.refl _ _) R1 (.int _)⟩
      · cases e1
end
end Bo

set_option Elab.async false
set_option linter.all false
set_option maxRecDepth 100000
/-! BR6: x[::-1] of a list or a tuple; min of a list. -/
namespace Bo
open PySem PySem.Spec PyProof.Rows
open L2 (V HO Hp Rd SqL SqT Vals upd Cx PE PT PA PO PI PW PG PGs PTs PS PSs OpR UnR CallR SlR IxR VK XK TE TT TA TO TI TG TGs TS Ends Inv RelV EP Room Sp FnOk Gl Vis Binds WX Takes tOp tCons tNil It Turn PIE Loc BlkOk)
theorem places_back (n : Nat) : Builtin.Slice.sliceAdjust none none (-1) (n : Int) = ((n : Int) - 1, -1) ∧ Builtin.Slice.slicePlaces ((n : Int) - 1) (-1) (-1) = n := by
  constructor
  · unfold Builtin.Slice.sliceAdjust
    simp
  · unfold Builtin.Slice.slicePlaces
    by_cases h : n = 0
    · subst h; decide
    · have h1 : ¬ ((-1 : Int) > 0) := by omega
      have h2 : (-1 : Int) < (n : Int) - 1 := by omega
      simp only [h1, if_false, h2, if_true]
      have : ((n : Int) - 1 - -1 - 1) / - -1 + 1 = n := by
        rw [show (- -1 : Int) = 1 from rfl, Int.ediv_one]; omega
      omega
theorem pick_back (xs : Array Value) : ((List.range xs.size).filterMap fun (k : Nat) => xs[(((xs.size : Nat) : Int) - 1 + (k : Int) * (-1)).toNat]?).toArray = xs.toList.reverse.toArray := by
  congr 1
  have e : (List.range xs.size).filterMap (fun (k : Nat) => xs[(((xs.size : Nat) : Int) - 1 + (k : Int) * (-1)).toNat]?) = (List.range xs.size).map fun k => xs.toList.reverse.getD k default := by
    have key : ∀ L : List Nat, (∀ k, k ∈ L → k < xs.size) → L.filterMap (fun (k : Nat) => xs[(((xs.size : Nat) : Int) - 1 + (k : Int) * (-1)).toNat]?) = L.map fun k => xs.toList.reverse.getD k default := by
      intro L
      induction L with
      | nil => intro _; rfl
      | cons k r ih =>
        intro h
        have hk := h k List.mem_cons_self
        have e1 : (((xs.size : Nat) : Int) - 1 + (k : Int) * (-1)).toNat = xs.size - 1 - k := by omega
        have e2 : xs.toList.reverse.getD k default = xs[xs.size - 1 - k]'(by omega) := by
          rw [List.getD_eq_getElem?_getD, List.getElem?_reverse (by simpa using hk), Array.length_toList, Array.getElem?_toList, Array.getElem?_eq_getElem (by omega)]
          rfl
        rw [List.filterMap_cons, e1, Array.getElem?_eq_getElem (by omega), List.map_cons, e2, ih fun j hj => h j (List.mem_cons_of_mem _ hj)]
    exact key _ fun k hk => List.mem_range.mp hk
  rw [e]
  refine List.ext_getElem (by simp) fun i h1 h2 => ?_
  rw [List.getElem_map, List.getElem_range, List.getD_eq_getElem?_getD, List.getElem?_eq_getElem h2]
  rfl
section
variable {prog : Program} {w : World} {A : Around} {E : Value → Shared → Prop} {s : Shared}
theorem sliceApplied_back {sl : Addr} {vl vu vs : Value} {n : Nat} {Q : Int × Int × Nat → Shared → Prop} (hs : s.heap.IsSliceOf sl vl vu vs) (pl : IsPart vl none) (pu : IsPart vu none) (ps : IsPart vs (some (-1)))
    (h : Q ((n : Int) - 1, -1, n) s) : wpAny (model prog w) A (Builtin.Slice.sliceApplied (.ref sl) (pure (n : Int))) Q E s := by
  obtain ⟨os, hos, hcs, hds⟩ := id hs
  unfold Builtin.Slice.sliceApplied Builtin.Slice.sliceFields
  refine wpAny_bind (wpAny_bind (wpAny_field hos hds (x := vl) rfl (wpAny_bind (wpAny_field hos hds (x := vu) rfl (wpAny_bind (wpAny_field hos hds (x := vs) rfl (wpAny_pure ?_)))))))
  refine wpAny_bind (HT.slicePart_ ps ?_)
  show wpAny _ _ (if ((-1 : Int) == 0) = true then _ else _) _ _ s
  rw [if_neg (by decide)]
  refine wpAny_bind (HT.slicePart_ pl (wpAny_bind (HT.slicePart_ pu (wpAny_bind (wpAny_pure ?_)))))
  show wpAny _ _ (match Builtin.Slice.sliceAdjust none none (-1) (n : Int) with | (lo, hi) => pure (lo, (-1 : Int), Builtin.Slice.slicePlaces lo hi (-1))) _ _ s
  rw [(places_back n).1]
  show wpAny _ _ (pure ((n : Int) - 1, (-1 : Int), Builtin.Slice.slicePlaces ((n : Int) - 1) (-1) (-1))) _ _ s
  rw [(places_back n).2]
  exact wpAny_pure h
theorem getItem_tuple_back {t sl : Addr} {items : Array Value} {vl vu vs : Value} {Q : Value → Shared → Prop} (ht : IsTup s.heap t items) (hs : s.heap.IsSliceOf sl vl vu vs) (pl : IsPart vl none) (pu : IsPart vu none) (ps : IsPart vs (some (-1)))
    (h : Q (.ref s.heap.objs.size) { s with heap := s.heap.push { cls := .type "tuple", data := .seq items.toList.reverse.toArray } })
    (hsz : items.size ≤ sizeLine) : wpAny (model prog w) A (getItem (.ref t) (.ref sl)) Q E s := by
  have htake : sizeOk (.seq items.toList.reverse.toArray) := by
    show items.toList.reverse.toArray.size ≤ sizeLine
    rw [List.size_toArray, List.length_reverse, Array.length_toList]
    exact hsz
  obtain ⟨os, hos, hcs, hds⟩ := id hs
  have hTs : s.TypeIs (.ref sl) "slice" := ⟨os, hos, hcs⟩
  unfold getItem
  try with_reducible refine wpAny_holding ?_
  first | refine wpAny_bind (wpAny_pure ?_) | skip
  refine wpAny_bind (wpAny_sequenceKey ht.typeIs (by decide) ?_)
  refine wpAny_bind (wpAny_callSpecial?_slot (name := Str.ofString "__getitem__") ht.typeIs PyProof.Rows.slot_tuple_getitem
    (wpAny_call_entry PyProof.Rows.slot_tuple_getitem ht.typeIs PyProof.Rows.entry_tuple_getitem ?_ (PyProof.Rows.args_tuple_getitem _ _)))
  show wpAny _ _ (Builtin.Tuple.tupleItemsOf (.ref t) >>= _) _ _ s
  refine wpAny_bind (PyProof.Rows.tupleItemsOf_ ht ?_)
  refine wpAny_bind (wpAny_typeOf hTs ?_)
  rw [if_pos (by decide)]
  refine wpAny_bind (sliceApplied_back hs pl pu ps ?_)
  show wpAny _ _ (if ((items.size : Int) - 1 == 0 && (-1 : Int) == 1 && items.size == items.size) = true then _ else _) _ _ s
  rw [if_neg (by simp), pick_back]
  first
    | exact wpAny_bind (m := Builtin.Tuple.tupleExact _) (wpAny_newObj_type (wpAny_pure ⟨_, rfl, wpAny_pure h⟩) htake)
    | exact wpAny_bind (m := Builtin.Tuple.tupleExact _) (wpAny_newObj_type (wpAny_bind (wpAny_pure (wpAny_pure ⟨_, rfl, wpAny_pure h⟩))) htake)
    | exact wpAny_bind (wpAny_bind (m := Builtin.Tuple.tupleExact _) (wpAny_newObj_type (wpAny_pure (wpAny_pure ⟨_, rfl, wpAny_pure h⟩)) htake))
    | exact wpAny_bind (wpAny_bind (m := Builtin.Tuple.tupleExact _) (wpAny_newObj_type (wpAny_pure ⟨_, rfl, wpAny_pure h⟩) htake))
end
section
variable {A : Ad} {B : Nat → Nat} {b : Nat} {X : Cx} {W : Wi}
def tRevA (K : PySem.W.Frag) (te : TE) : TE := fun σ H Q => te σ H fun x H1 => ∃ a xs, x = .ref a ∧ ((SqL K H1 a xs ∧ ∀ p, H1 p = none → Q (.ref p) (upd H1 p (.lst xs.reverse))) ∨ (SqT K H1 a xs ∧ ∀ p, H1 p = none → Q (.ref p) (upd H1 p (.tup xs.reverse))))
theorem pe_revA {e : Expr} {te : TE} {k : Nat} {p1 p2 p3 pos : Pos} (he : PE X e te) : PE X (.Subscript e (.Slice none none (some (.UnaryOp .USub (.Constant (.int 1) k p1) p2)) p3) pos) (tRevA X.K te) := by
  refine ⟨fun pins s σ H Q I h => ?_⟩
  refine Subscript_ (L2.thn (he.run pins s σ H _ I h) fun v s1 ⟨x, H1, I1, r1, q1⟩ => ?_)
  obtain ⟨a, xs, ex, q⟩ := q1
  subst ex
  cases r1
  have hst : PO X (some (.UnaryOp .USub (.Constant (.int 1) k p1) p2)) (L2.tPart (L2.tUn (L2.rU fun i => .int (-i)) (L2.tC (.int 1)))) := L2.po_some (L2.pe_un L2.un_neg L2.pe_int)
  refine wpAny_Slice (L2.thn (L2.po_none.run pins s1 σ H1 (fun o H2 => o = none ∧ H2 = H1) I1 ⟨rfl, rfl⟩) fun vl s2 ⟨l, H2, I2, pl, el, e2⟩ => ?_)
  subst el e2
  refine L2.thn (L2.po_none.run pins s2 σ H2 (fun o H3 => o = none ∧ H3 = H2) I2 ⟨rfl, rfl⟩) fun vu s3 ⟨u, H3, I3, pu, eu, e3⟩ => ?_
  subst eu e3
  refine L2.thn (hst.run pins s3 σ H3 (fun o H4 => o = some (-1) ∧ H4 = H3) I3 ⟨1, rfl, -1, rfl, rfl, rfl⟩) fun vs s4 ⟨o, H4, I4, ps, eo, e4⟩ => ?_
  subst eo e4
  have I5 : Inv X pins σ H4 { s4 with heap := s4.heap.push { cls := .type "slice", data := .fields #[vl, vu, vs] } } := I4.kept (t' := s4.toks) fun b ob q => Heap.get?_push_of_some _ q
  show wpAny (model X.prog X.w) X.A (subscriptTail e (.Slice none none (some (.UnaryOp .USub (.Constant (.int 1) k p1) p2)) p3) (.ref a) (.ref s4.heap.objs.size)) (EP X pins σ Q) X.xe { s4 with heap := s4.heap.push { cls := .type "slice", data := .fields #[vl, vu, vs] } }
  rcases q with ⟨hx, q⟩ | ⟨hx, q⟩
  · obtain ⟨its, r, ht, hz⟩ := I5.list hx
    have hlen := r.length
    refine tail_any (ops := [.ref a, .ref s4.heap.objs.size]) ht.isList.typeIs (PySem.slot_list_getitem.lookup) ?_ (by with_unfolding_all rfl)
    refine wpAny_getItem_list_slice ht.isList (Heap.IsSliceOf.new _ vl vu vs) pl pu ps (by decide) ?_ (by rw [List.size_toArray]; omega)
    rw [PySem.W.krv_pick]
    refine ⟨.ref _, _, I5.laid (t' := s4.toks) (o := .lst xs.reverse) (fun b ob q => Heap.get?_push_of_some _ q) (Nat.le_refl _) ?_, rfl, q _ (I5.hok.fresh (Nat.le_refl _))⟩
    exact ⟨by rw [List.length_reverse]; exact hz, _, 0, r.reverse, Heap.get?_push_size _ rfl⟩
  · obtain ⟨its, r, ht, hz⟩ := I5.tuple hx
    have hlen := r.length
    refine tail_any (ops := [.ref a, .ref s4.heap.objs.size]) ht.typeIs (PyProof.Rows.slot_tuple_getitem.lookup) ?_ (by with_unfolding_all rfl)
    refine getItem_tuple_back ht (Heap.IsSliceOf.new _ vl vu vs) pl pu ps ?_ (by rw [List.size_toArray]; omega)
    refine ⟨.ref _, _, I5.laid (t' := s4.toks) (o := .tup xs.reverse) (fun b ob q => Heap.get?_push_of_some _ q) (Nat.le_refl _) ?_, rfl, q _ (I5.hok.fresh (Nat.le_refl _))⟩
    exact ⟨by rw [List.length_reverse]; exact hz, _, r.reverse, IsTup.new _ _⟩
theorem n_rv {k : Nat} {p1 p2 p3 pos : Pos} {e : Expr} {f : Sg → M → Option (Rs D × M)} (ha : PE X e (tD A X B b W f)) : PE X (.Subscript e (.Slice none none (some (.UnaryOp .USub (.Constant (.int 1) k p1) p2)) p3) pos) (tD A X B b W fun s m => bnd (f s m) fun x m1 => giv (rvD m1 x) m1) :=
  pe_imp (pe_revA ha) fun σ H Q q => by
    obtain ⟨io, s, m, R, S, q⟩ := q
    refine tG.step (RR := RD A X.K) R S q fun io1 H1 m1 d v x1 R1 S1 r1 h1 => ?_
    obtain ⟨r, e, q⟩ := h1.giv
    unfold rvD at e
    split at e
    · cases e
      obtain ⟨a, vs, rfl, hq, hr, hz⟩ := r1.tupSq
      exact ⟨a, vs, rfl, .inr ⟨hq, fun p hp => Aft.tup R1 q hp hr.reverse (by rw [List.length_reverse]; exact hz)⟩⟩
    · cases hl : lstM m1 d with
      | none => rw [hl] at e; cases e
      | some ds =>
        rw [hl] at e
        cases e
        obtain ⟨a, vs, rfl, hq, hr, hz⟩ := r1.lstEx R1 hl
        exact ⟨a, vs, rfl, .inl ⟨.inl (.inl hq), fun p hp => Aft.lst R1 q hp hr.reverse (by rw [List.length_reverse]; exact hz)⟩⟩
theorem least_fold (x : D) (r : List D) : least x r = r.foldl (fun a y => if PySem.W.dataLt (encD y) (encD a) then y else a) x := by
  induction r generalizing x with
  | nil => rfl
  | cons y r ih =>
    rw [least, List.foldl_cons]
    split <;> exact ih _
theorem getD_enc {ds : List D} (i : Nat) : (ds.map encD).getD i .none = encD (ds.getD i .non) := by
  rw [List.getD_eq_getElem?_getD, List.getD_eq_getElem?_getD, List.getElem?_map]
  cases ds[i]? <;> rfl
theorem shp_depth : ∀ {ps : List PyData}, ps.all shp = true → PyData.depthAll ps ≤ 64
  | [], _ => Nat.zero_le _
  | p :: r, h => by
    rw [List.all_cons, Bool.and_eq_true] at h
    have h1 := SeqAt.depth_of_shaped (show SeqAt.shaped p = true from h.1)
    have h2 := shp_depth h.2
    show max p.depth (PyData.depthAll r) ≤ 64
    omega
theorem cr_min1 (hc : X.calm = true) (hu : X.A.units + 100 < cLine) : CallR X (.builtin "min") (rBi A X.K B b min1D) := by
  intro pins s σ H xs us Q I rv h
  obtain ⟨io, m, ds, r, R, rs, ho, q⟩ := h
  unfold min1D at ho
  split at ho
  · obtain ⟨v, rfl, r1⟩ := reps1 rs
    cases hl : lstM m _ with
    | none => rw [hl] at ho; cases ho
    | some ds =>
      rw [hl] at ho
      simp only [Option.bind_some] at ho
      unfold minD at ho
      split at ho
      · cases ho
      · rename_i x0 xr
        split at ho
        · rename_i ps e
          split at ho
          · rename_i hz
            rw [Bool.and_eq_true, Bool.and_eq_true] at hz
            obtain ⟨⟨z1, z2⟩, z3⟩ := hz
            cases ho
            obtain ⟨a, vs, rfl, hq, hr, _⟩ := r1.lstEx R hl
            obtain ⟨u, rfl, hu1⟩ := rv.one
            cases hu1
            obtain ⟨its, rvs, pl, _⟩ := I.list (.inl (.inl hq))
            obtain ⟨as, ra⟩ := L2.Dp.readsAll I ps _ its (hr.dps e) rvs
            have em := pys_map e
            have eps : ps.length = xr.length + 1 := by rw [← em, List.length_map, List.length_cons]
            have esz : its.toArray.size = xr.length + 1 := by rw [List.size_toArray, ← rvs.length, ← hr.length, List.length_cons]
            have al : PySem.W.AlikeAll ps := ⟨fun x hx y hy => srt_alike z1 x hx y hy, fun x hx hn => by
              have := List.all_eq_true.mp z3 x hx
              rw [hn] at this
              cases this⟩
            refine PySem.call_min_walkH (PySem.W.iter_listW (A := X.A.in1) (I.ok.hd hc) pl.isList fun s2 e2 Wk st hfp hw hk => ?_)
            refine ⟨_, _, _, _, _, _, _, s.heap, _, rfl, Wk, st, hfp, by omega, hw, hk, PySem.W.cmpIn_lt (A := X.A.in1) (vs := its.toArray) (xs := ps) (as := as) ra al (by
              have := shp_depth z2
              show X.A.units + 1 + _ < _
              omega), fun v s' hP mv => ?_⟩
            obtain ⟨h', tk, rfl, hk'⟩ := PySem.W.moved_old e2 rfl mv
            have fe : (fun i j => PySem.W.dataLt (ps.getD i .none) (ps.getD j .none)) = fun i j => (fun p q => PySem.W.dataLt (encD p) (encD q)) ((x0 :: xr).getD i .non) ((x0 :: xr).getD j .non) := by
              funext i j
              rw [← em, getD_enc, getD_enc]
            obtain ⟨f1, f2⟩ := PySem.W.argBest_fold (fun p q => PySem.W.dataLt (encD p) (encD q)) D.non x0 xr xr.length (Nat.le_refl _)
            rw [List.take_length, ← least_fold] at f2
            rw [← fe] at f1 f2
            rw [esz, Nat.add_sub_cancel] at hP
            generalize argBest (fun i j => PySem.W.dataLt (ps.getD i .none) (ps.getD j .none)) xr.length = k at f1 f2 hP
            have hk1 : (x0 :: xr)[k]? = some (least x0 xr) := by
              rw [← f2, List.getD_eq_getElem?_getD, List.getElem?_eq_getElem (by rw [List.length_cons]; omega)]
              rfl
            obtain ⟨w, hw1, hw2⟩ := hr.get hk1
            obtain ⟨u, hu1, hu2⟩ := rvs.get hw1
            have ev : u = v := by
              have : its.toArray[k]? = some u := by rw [List.getElem?_toArray]; exact hu1
              rw [this] at hP
              exact Option.some.inj hP
            subst ev
            exact ⟨w, H, I.kept (t' := tk) hk', hu2, q.flat R hw2⟩
          · cases ho
        · cases ho
  · cases ho
end
theorem raw_all : RawAll := fun X hc hu => ⟨fun A B b => cr_srt hu, fun A B b => cr_min1 hc hu⟩
end Bo

set_option Elab.async false
set_option linter.all false
set_option maxRecDepth 100000
/-! BR7: a[i], c[j] = x, y. -/
namespace Bo
open PySem PySem.Spec PyProof.Rows
open L2 (V HO Hp Rd SqL SqT Vals upd Cx PE PT PA PO PI PW PG PGs PTs PS PSs OpR UnR CallR SlR IxR VK XK TE TT TA TO TI TG TGs TS Ends Inv RelV EP Room Sp FnOk Gl Vis Binds WX Takes tOp tCons tNil It Turn PIE Loc BlkOk)
section
variable {A : Ad} {B : Nat → Nat} {b : Nat} {X : Cx} {W : Wi} {o1 i1 o2 i2 v1 v2 : Expr} {f1 g1 h1 f2 g2 h2 : Sg → M → Option (Rs Bo.D × M)}
theorem s_set2 {pa pb pt pv pos : Pos} {kt kv : Nat} (hc : X.calm = true) (hu : X.A.units + 1 < cLine) (p1 : plE i1 = true) (p2 : plE i2 = true) (q1 : plE v1 = true) (q2 : plE v2 = true)
    (hw : swappedStores [.Tuple [.Subscript o1 i1 pa, .Subscript o2 i2 pb] kt pt] (.Tuple [v1, v2] kv pv) X.env = pure none)
    (a1 : PE X o1 (tD A X B b W f1)) (b1 : PE X i1 (tD A X B b W g1)) (a2 : PE X o2 (tD A X B b W f2)) (b2 : PE X i2 (tD A X B b W g2)) (c1 : PE X v1 (tD A X B b W h1)) (c2 : PE X v2 (tD A X B b W h2)) :
    PS X (.Assign [.Tuple [.Subscript o1 i1 pa, .Subscript o2 i2 pb] kt pt] (.Tuple [v1, v2] kv pv) pos) (tSt A X B b W fun s m => eb (h1 s m) fun x1 m1 => eb (h2 s m1) fun x2 m2 =>
      eb (f1 s m2) fun y1 m3 => eb (g1 s m3) fun z1 m4 => match setD b m4 y1 z1 x1 with
      | some m5 => eb (f2 s m5) fun y2 m6 => eb (g2 s m6) fun z2 m7 => (match setD b m7 y2 z2 x2 with
        | some m8 => some (.nx s, m8)
        | none => none)
      | none => none) := by
  refine ps_imp (L2.ps_asg (L2.pe_tup (L2.pa_cons c1 (L2.pa_cons c2 L2.pa_nil (pl_star q2 _ _)) (pl_star q1 _ _)))
    (L2.pg_tup (n := 2) hc (L2.pgs_cons (L2.pg_sub a1 b1 (set_any (A := A) (B := B) (b := b) hu) (pl_asub p1 _ _)) (L2.pgs_cons (L2.pg_sub a2 b2 (set_any (A := A) (B := B) (b := b) hu) (pl_asub p2 _ _)) L2.pgs_nil)) rfl rfl)
    rfl hw rfl) fun D σ H q => ?_
  obtain ⟨io, s, m, R, S, q⟩ := q
  refine tG.stepS R S q fun io1 H1 m1 x1 u1 X1 R1 S1 r1 q1 => tG.stepS R1 S1 q1 fun io2 H2 m2 x2 u2 X2 R2 S2 r2 q2 => ?_
  refine ⟨by show 2 ≤ sizeLine; decide, fun p hp => ⟨p, [u1, u2], rfl, .inl (.inl L2.upd_same), rfl, u1, [u2], rfl, ?_⟩⟩
  have xt : Ext A io2 io2 H2 (upd H2 p (.tup [u1, u2])) := ext_new _ hp
  refine tG.stepS (R2.laid hp) (S2.mono xt) (sW.ext xt q2) fun io3 H3 m3 y1 w1 X3 R3 S3 r3 q3 => tG.stepS R3 S3 q3 fun io4 H4 m4 z1 w2 X4 R4 S4 r4 q4 => ?_
  cases e1 : setD b m4 y1 z1 x1 with
  | none => rw [e1] at q4; exact q4.elim
  | some m5 =>
    rw [e1] at q4
    have r1' := (((r1.mono X2 X2.len).mono xt (Nat.le_refl _)).mono X3 X3.len).mono X4 X4.len
    have r2' := ((r2.mono xt (Nat.le_refl _)).mono X3 X3.len).mono X4 X4.len
    refine ⟨io4, m4, y1, z1, x1, m5, R4, r3.mono X4 X4.len, r4, r1', e1, fun H5 w R5 => ⟨u2, [], rfl, ?_⟩⟩
    refine tG.stepS R5 (S4.mono w) (sW.ext w q4) fun io6 H6 m6 y2 w6 X6 R6 S6 r6 q6 => tG.stepS R6 S6 q6 fun io7 H7 m7 z2 w7 X7 R7 S7 r7 q7 => ?_
    cases e2 : setD b m7 y2 z2 x2 with
    | none => rw [e2] at q7; exact q7.elim
    | some m8 =>
      rw [e2] at q7
      exact ⟨io7, m7, y2, z2, x2, m8, R7, r6.mono X7 X7.len, r7, ((r2'.mono w (Nat.le_refl _)).mono X6 X6.len).mono X7 X7.len, e2, fun H8 w8 R8 => ⟨rfl, q7 io7 H8 σ w8 R8 (S7.mono w8) rfl⟩⟩
end
end Bo

set_option Elab.async false
set_option linter.all false
set_option maxRecDepth 100000
/-! BX1: a def called in an except suite with the error that is held. -/
namespace Bo
open PySem PySem.Spec PyProof.Rows
open L2 (V HO Hp Rd SqL SqT Vals upd Cx PE PT PA PO PI PW PG PGs PTs PS PSs OpR UnR CallR SlR IxR VK XK TE TT TA TO TI TG TGs TS Ends Inv RelV EP Room Sp FnOk Gl Vis Binds WX Takes tOp tCons tNil It Turn PIE Loc BlkOk)
open L2H (RoomH PinOk cxH)
/-- an error of the own class D, that nothing points to but the suite's name -/
structure ErrAt (D : Addr) (o : Obj) : Prop where
  zc : L2.Zc (.ref D) none o
  fl : ∃ vs, o.data = .fields vs
abbrev SpW := Addr → Addr → Hp → VK → Prop
/-- what a def of one argument promises of such an error -/
def FnE (P : Program) (w : World) (K : PySem.W.Frag) (mg : Str → Option Value) (base : Heap) (f : Addr) (fd : FuncData) (x : Str) (sp : SpW) : Prop :=
  ∀ (Ar : Around) (outs : List Env) (s : Shared) (H : Hp) (ar : Args) (D : Addr) (q : Addr × Obj) (Q : VK), RoomH 0 Ar → PinOk outs H s q → ErrAt D q.2 → L2.Env0 P w K mg base Ar outs s H → BindsTo s fd ar [(x, .ref q.1)] → sp D q.1 H Q →
    codeAny (model P w) Ar (.call (.ref f) ar) (L2.CR (L2.CX P w) outs P w H s Q fun _ _ _ => False) s
theorem fnE_of {P : Program} {w : World} {K : PySem.W.Frag} {mg : Str → Option Value} {base : Heap} {f : Addr} {nm qn x : Str} {pr : Arguments} {bd : List Stmt} {sc : Scope} {v1 v2 v3 v4 v5 v6 v7 : Value} {n1 n2 : Option Addr} {sl : Array (Option Value)} {N : List Str} {sp : SpW}
    (look : K.lookup f = some ⟨v7, n2, .func (PySem.W.fnOf nm qn pr bd sc v1 v2 v3 v4 n1 v5 v6), sl⟩) (code : PySem.W.codeIn K v5 qn = true) (S : L2.FnScope N [x] sc)
    (step : ∀ (Ar : Around) (outs : List Env) (s : Shared) (H : Hp) (D : Addr) (Q : VK) (q : Addr × Obj), ErrAt D q.2 → (Ar.deeper (envOfC qn sc s.heap.objs.size f v5)).units + 65 < cLine → sp D q.1 H Q →
      ∃ t, PSs (cxH (L2.CX P w) P w K mg base N qn sc f v5 Ar outs s H (fun _ _ _ => False) q) bd t ∧ t { nx := fun _ H' => Q .non H', rt := Q } (L2.start N [.ref q.1]) H) :
    FnE P w K mg base f (PySem.W.fnOf nm qn pr bd sc v1 v2 v3 v4 n1 v5 v6) x sp := by
  intro Ar outs s H ar D q Q room pin er e0 bt want
  have inK : K.In s.heap := e0.mod.kin.keeps fun c u z => (e0.bs c u z).1
  have nolim : s.heap.NoLimit := e0.mod.nolimit.keeps fun c u z => (e0.bs c u z).1
  have zp : [(x, Value.ref q.1)] = [x].zip [Value.ref q.1] := rfl
  rw [zp] at bt
  have kinds : ∀ y ∈ [x].zip [Value.ref q.1], sc.names.lookup y.1 = some .local ∨ (sc.names.lookup y.1 = some .cell ∧ ((cellsFrom (s.heap.objs.size + 1) sc.names []).lookup y.1).isSome = true) := fun ⟨nn, vv⟩ hy => by
    rcases S.par nn (List.of_mem_zip hy).1 with z | z
    · exact .inl z
    · exact .inr ⟨z, PySem.W.cellsFrom_some _ _ _ (.inl z)⟩
  refine codeAny_call_function room.depth (inK _ _ look) rfl S.co S.gen rfl (PySem.W.codeRec_of inK code) (bt _ _ _ _ ?_)
  refine wpAny_newFunctionEnv_cells S.kind kinds fun env ee s1 made => ?_
  subst ee
  refine ⟨nolim.keeps made.toInCall.keep, codeAny_func ?_⟩
  obtain ⟨t, ht, hq⟩ := step Ar outs s H D Q q er (by have := room.un; show Ar.units + 3 + 65 < cLine; omega) want
  have I := L2H.inv_startH (CX := L2.CX P w) (E := fun _ _ _ => False) S pin e0 (vs := [.ref q.1]) rfl (.cons rfl .nil) made
  refine wpAny_mono (ht.run [] s1 (L2.start N [.ref q.1]) H _ I hq) (fun fl s' out => ?_) fun e s' out => out
  cases fl with
  | ret u =>
    obtain ⟨v, σ', H', J, rv, z⟩ := out
    exact ⟨v, H', J.os, J.bare, J.base, J.hok, rv, z⟩
  | next =>
    obtain ⟨σ', H', J, z⟩ := out
    exact ⟨V.non, H', J.os, J.bare, J.base, J.hok, rfl, z⟩
  | brk =>
    obtain ⟨_, _, _, z⟩ := out
    exact z.elim
  | cont =>
    obtain ⟨_, _, _, z⟩ := out
    exact z.elim
section
variable {X : Cx} {f : Addr} {fd : FuncData} {x nm : Str} {sp : SpW}
/-- the call, in the suite -/
def tErr (i : Nat) (sp : SpW) (D a : Addr) : TE := fun σ H Q => σ[i]? = some (some (.ref a)) ∧ sp D a H Q
theorem pe_callE {i : Nat} {g : Str} {p p2 pos : Pos} {D a : Addr} {oe : Obj} (F : FnE X.prog X.w X.K X.mg X.base f fd x sp) (room : RoomH 0 X.A) (pin : (a, oe) ∈ X.pn) (er : ErrAt D oe) (hg : Gl X g) (hm : X.mg g = some (.ref f)) (hk : PySem.W.keepIn X.K (.ref f) = true)
    (hb : Binds X.K fd [x] []) (hN : X.N[i]? = some nm) (hv : Vis X.env.scope nm) (hd1 : (nm == ("__debug__" : Str)) = false) (hd2 : (nm == ("__classdict__" : Str)) = false) (hd3 : (g == ("__debug__" : Str)) = false) :
    PE X (.Call (.Name g p) [.Name nm p2] [] pos) (tErr i sp D a) := by
  refine ⟨fun pins s σ H Q I h => ?_⟩
  obtain ⟨h1, h2⟩ := h
  refine wpAny_Call_Name_kw (L2.ld_glob I hg hm ?_ hd3)
  have var := L2.pe_var (X := X) (i := i) (pos := p2) hN hv hd1 hd2
  have arg := L2.pa_cons var L2.pa_nil (rfl : starEach (.Name nm p2 :: []) X.env = _)
  refine PySem.W.callWith_K (h₀ := X.base) I.ok.mod.kin hk (L2.thn (arg.run pos pins s σ H (fun vs H' => vs = [.ref a] ∧ H' = H) I ⟨.ref a, h1, rfl, rfl⟩) fun us s1 ⟨vs, H1, I1, r, e1, e2⟩ => ⟨I1.kIn, ?_⟩) rfl rfl
  subst e1 e2
  rw [Vals.ref1 r]
  have bt := hb s1 [.ref a] I1.kIn rfl
  have P1 := I1.pin (a, oe) (List.mem_append_left _ pin)
  have ok : PinOk X.stack H1 s1 (a, oe) := ⟨P1.1, P1.2.1, fun hm => (List.mem_cons.mp (I1.stkSub a hm)).elim P1.2.2.1 P1.2.2.2.1, P1.2.2.2.2⟩
  refine wpAny_call (codeAny_mono (F X.A X.stack s1 H1 ⟨[.ref a], []⟩ D (a, oe) Q room ok er I1.env0 bt h2) fun r s' hq => ?_)
  cases r with
  | error e =>
    obtain ⟨z1, z2, z3, z4, z5, z6, z7, z8, z9, z10, z11, z12, z13⟩ := hq
    first | exact z13.elim | exact z12.elim | trivial
  | ok fl =>
    cases fl with
    | ret u => exact I1.after hq
    | next => exact hq.elim
    | brk => exact hq.elim
    | cont => exact hq.elim
/-- isinstance of an error that stands pinned -/
theorem call_isP {a D : Addr} {oe : Obj} (C : L2.ExcC X.K D) (er : ErrAt D oe) (pin : (a, oe) ∈ X.pn) : CallR X (.builtin "isinstance") (L2.rIsE X.K D a) := by
  intro pins s σ H xs us Q I r h
  obtain ⟨c, cv, b, rfl, hcv, e, q⟩ := h
  obtain ⟨u1, u2, rfl, rx, rt⟩ := r.two
  cases rx
  have ec := hcv _ rt
  subst ec
  obtain ⟨got, _⟩ := I.pin (a, oe) (List.mem_append_left _ pin)
  obtain ⟨vs, hvs⟩ := er.fl
  have J : PySem.W.InstAt s.heap a oe D none := by
    obtain ⟨oc, od, dat, sl⟩ := oe
    obtain ⟨z1, z2⟩ := er.zc
    dsimp only at z1 z2 hvs
    subst z1 z2 hvs
    exact ⟨got, rfl, rfl, trivial⟩
  exact PySem.W.kia_one (PySem.W.handS_kitx_exc C.hg C.hk C.hs C.hd C.ha C.hn C.ht C.hm) I.kIn J e (fun z => nomatch z) fun tk => ⟨.bl b, H, I.kept (t' := tk) fun _ _ z => z, rfl, q⟩
end
end Bo

set_option Elab.async false
set_option linter.all false
set_option maxRecDepth 100000
/-! BX2: which error it is: a list of isinstance's, its count of True and the first. -/
namespace Bo
open PySem PySem.Spec PyProof.Rows
open L2 (V HO Hp Rd SqL SqT Vals upd Cx PE PT PA PO PI PW PG PGs PTs PS PSs OpR UnR CallR SlR IxR VK XK TE TT TA TO TI TG TGs TS Ends Inv RelV EP Room Sp FnOk Gl Vis Binds WX Takes tOp tCons tNil It Turn PIE Loc BlkOk)
theorem countIn_bls (k : Bool) : ∀ bs : List Bool, countIn (.bool k) (bs.map .bool) = (bs.count k : Nat)
  | [] => rfl
  | c :: r => by
    rw [List.map_cons, countIn, countIn_bls k r, List.count_cons]
    cases c <;> cases k <;> simp [same] <;> omega
theorem bls_pys : ∀ {ds : List D} {bs : List Bool}, blsD ds = some bs → pys ds = some (bs.map .bool)
  | [], bs, h => by cases h; rfl
  | .bl c :: r, bs, h => by
    cases e : blsD r with
    | none => simp [blsD, e] at h
    | some cs =>
      simp [blsD, e] at h
      subst h
      rw [pys, bls_pys e]
      rfl
  | .non :: _, _, h => by simp [blsD] at h
  | .int _ :: _, _, h => by simp [blsD] at h
  | .str _ :: _, _, h => by simp [blsD] at h
  | .tup _ :: _, _, h => by simp [blsD] at h
  | .lst _ :: _, _, h => by simp [blsD] at h
  | .dct _ _ :: _, _, h => by simp [blsD] at h
  | .arg _ :: _, _, h => by simp [blsD] at h
  | .ktp _ :: _, _, h => by simp [blsD] at h
  | .ref _ :: _, _, h => by simp [blsD] at h
  | .fn _ :: _, _, h => by simp [blsD] at h
theorem idx_before {k : Bool} : ∀ {bs : List Bool} {i : Nat}, i < bs.idxOf k → bs[i]? ≠ some k
  | [], _, h => absurd h (Nat.not_lt_zero _)
  | c :: r, i, h => by
    rw [List.idxOf_cons] at h
    by_cases e : c = k
    · subst e
      simp at h
    · have e' : (c == k) = false := beq_eq_false_iff_ne.mpr e
      rw [e', cond_false] at h
      cases i with
      | zero =>
        intro z
        exact e (Option.some.inj z)
      | succ i =>
        rw [List.getElem?_cons_succ]
        exact idx_before (by omega)
def cntB (m : M) (o : D) : List D → Option (D × M)
  | [.bl k] => ((lstM m o).bind blsD).map fun bs => (.int (bs.count k : Nat), m)
  | _ => none
def idxB (m : M) (o : D) : List D → Option (D × M)
  | [.bl k] => ((lstM m o).bind blsD).bind fun bs => if k ∈ bs then some (.int (bs.idxOf k : Nat), m) else none
  | _ => none
section
variable {A : Ad} {B : Nat → Nat} {b : Nat} {X : Cx} {W : Wi}
theorem mt_cntB : L2.MtR X "list.count" (rMt A X.K B b cntB) := by
  intro pins s σ H x xs v us Q I rx rs h
  obtain ⟨io, m, d, ds, r, m', R, r1, r2, ho, q⟩ := h
  unfold cntB at ho
  split at ho
  · rename_i k
    cases hc : lstM m d with
    | none => rw [hc] at ho; cases ho
    | some zs =>
      cases hi : blsD zs with
      | none => rw [hc] at ho; simp [hi] at ho
      | some bs =>
        rw [hc] at ho
        simp [hi] at ho
        obtain ⟨rfl, rfl⟩ := ho
        obtain ⟨a, vs, rfl, g1, g2, g3⟩ := r1.lstEx R hc
        obtain ⟨u, rfl, r3⟩ := reps1 r2
        cases r3
        cases rx
        obtain ⟨uv, rfl, hv⟩ := rs.one
        cases hv
        obtain ⟨its, rv, pl, _⟩ := I.list (.inl (.inl g1))
        obtain ⟨as, ra⟩ := L2.Dp.readsAll I _ _ its (g2.dps (bls_pys hi)) rv
        refine PyProof.Rows.count_list_bools (k := k) pl.isList ra (by rw [List.all_map]; exact List.all_eq_true.mpr fun c _ => rfl) ?_
        rw [countIn_bls]
        exact ⟨.int _, H, I.tok _, ⟨_, rfl⟩, q.flat R (.int _)⟩
  · cases ho
theorem mt_idxB : L2.MtR X "list.index" (rMt A X.K B b idxB) := by
  intro pins s σ H x xs v us Q I rx rs h
  obtain ⟨io, m, d, ds, r, m', R, r1, r2, ho, q⟩ := h
  unfold idxB at ho
  split at ho
  · rename_i k
    cases hc : lstM m d with
    | none => rw [hc] at ho; cases ho
    | some zs =>
      cases hi : blsD zs with
      | none => rw [hc] at ho; simp [hi] at ho
      | some bs =>
        rw [hc] at ho
        by_cases hk : k ∈ bs
        · simp [hi, hk] at ho
          obtain ⟨rfl, rfl⟩ := ho
          obtain ⟨a, vs, rfl, g1, g2, g3⟩ := r1.lstEx R hc
          rw [vals_bls g2 hi] at g1
          obtain ⟨u, rfl, r3⟩ := reps1 r2
          cases r3
          have hl := List.idxOf_lt_length_iff.mpr hk
          refine L2.mt_index pins s σ H _ _ v us Q I rx rs ⟨a, bs.map V.bl, .bl k, bs.idxOf k, .bl k, rfl, rfl, .inl (.inl g1), rfl, ?_, ?_, ?_, ?_, q.flat R (.int _)⟩
          · rw [List.all_map]
            exact List.all_eq_true.mpr fun c _ => rfl
          · rw [List.getElem?_map, List.getElem?_eq_getElem hl, List.getElem_idxOf hl]
            rfl
          · show (k == k) = true
            exact beq_self_eq_true k
          · intro i z hi' hz
            rw [List.getElem?_map] at hz
            cases e : bs[i]? with
            | none => rw [e] at hz; cases hz
            | some c =>
              rw [e] at hz
              cases hz
              show (c == k) = false
              rw [beq_eq_false_iff_ne]
              intro z
              rw [z] at e
              exact idx_before hi' e
        · simp [hi, hk] at ho
  · cases ho
/-! ### isinstance of the error -/
/-- the error, told as a def's number -/
def errD : D := .fn 1000
def isE (k : Bool) (d : D) (m : M) : Option (Rs D × M) := match d with
  | .fn n => if n = 1000 then some (.ok (.bl k), m) else none
  | _ => none
theorem n_isE {a D : Addr} {oe : Obj} {e ce : Expr} {f : Sg → M → Option (Rs Bo.D × M)} {x : Str} {p pos : Pos} {c : V} {cv : Value} {k : Bool} (C : L2.ExcC X.K D) (er : ErrAt D oe) (pin : (a, oe) ∈ X.pn) (ha : A.fa 1000 = some a) (hk : PySem.W.kitOne X.K (.ref D) cv = some k) (hcv : ∀ u, RelV c u → u = cv)
    (hg : glB X.env.scope x = true) (hn : x = ("isinstance" : Str)) (hm : X.mg "isinstance" = none) (hp : plE e = true) (hp2 : plE ce = true) (hc : PE X ce (L2.tC c)) (he : PE X e (tD A X B b W f)) :
    PE X (.Call (.Name x p) [e, ce] [] pos) (tD A X B b W fun s m => bnd (f s m) fun d m1 => isE k d m1) := by
  subst hn
  refine pe_imp (L2.pe_callB (call_isP C er pin) (gl_of hg).1 hm (by decide +kernel) (L2.pa_cons he (L2.pa_cons hc L2.pa_nil (pl_star hp2 _ _)) (pl_star hp _ _)) (gl_of hg).2.2 (gl_of hg).2.1 (pl_star hp _ _) (pl_any (by simp [hp2]))) fun σ H Q q => ?_
  obtain ⟨io, s, m, R, S, q⟩ := q
  refine tG.step (RR := RD A X.K) R S q fun io1 H1 m1 d v x1 R1 S1 r1 h1 => ?_
  unfold isE at h1
  split at h1
  · rename_i n
    split at h1
    · rename_i e1
      subst e1
      cases r1 with
      | fn h =>
        rw [ha] at h
        cases h
        exact ⟨c, cv, k, rfl, hcv, hk, h1.fin R1 (.bl _)⟩
    · exact h1.elim
  · exact h1.elim
end
end Bo

set_option Elab.async false
set_option linter.all false
set_option maxRecDepth 100000
/-! BX3: the def that tells which error it is. -/
namespace Bo
open PySem PySem.Spec PyProof.Rows
open L2 (V HO Hp Rd SqL SqT Vals upd Cx PE PT PA PO PI PW PG PGs PTs PS PSs OpR UnR CallR SlR IxR VK XK TE TT TA TO TI TG TGs TS Ends Inv RelV EP Room Sp FnOk Gl Vis Binds WX Takes tOp tCons tNil It Turn PIE Loc BlkOk)
/-- the classes of errors, one of another -/
structure ErrOk (A : Ad) (K : PySem.W.Frag) (mg : Str → Option Value) : Prop where
  root : ∃ R, A.ca 0 = some R ∧ ∀ c a, A.ca c = some a → 1 ≤ c → c ≤ 12 → PySem.W.exmOne K (.ref a) (.ref R) = some true
  exc : ∀ c a, A.ca c = some a → 1 ≤ c → c ≤ 12 → L2.ExcC K a
  kit : ∀ i a j c, A.ca i = some a → A.ca j = some c → 1 ≤ i → i ≤ 12 → 1 ≤ j → j ≤ 12 → PySem.W.kitOne K (.ref a) (.ref c) = some (i == j)
  val : ∀ c a, A.ca c = some a → 1 ≤ c → c ≤ 12 → PySem.W.kitOne K (.ref a) (.type "ValueError") = some true
  noval : mg "ValueError" = none
/-! ### the text -/
section
variable (l : Lk) (N : List Str) (sc : Scope)
def mSlot (i : Nat) (x : Expr) : Bool := match x with
  | .Name n _ => visB sc n && decide (N[i]? = some n) && n != ("__debug__" : Str) && n != ("__classdict__" : Str)
  | _ => false
def mWI (k : Nat) (x : Expr) : Bool := match x with
  | .Call (.Name n _) [e, .Name t _] [] _ => glB sc n && decide (n = ("isinstance" : Str)) && mSlot N sc 0 e && glB sc t && decide (l.cl k = some t)
  | _ => false
def mWV (x : Expr) : Bool := match x with
  | .Call (.Name n _) [e, .Name t _] [] _ => glB sc n && decide (n = ("isinstance" : Str)) && mSlot N sc 0 e && glB sc t && decide (t = ("ValueError" : Str))
  | _ => false
def mWIs : List Nat → List Expr → Bool
  | [], xs => xs.isEmpty
  | k :: ks, xs => match xs with
    | x :: r => mWI l N sc k x && mWIs ks r
    | [] => false
def mW1 (x : Stmt) : Bool := match x with
  | .Assign [.Name n _] (.List xs _) _ => locB sc n && decide (N[1]? = some n) && mWIs l N sc [1, 2, 3, 4] xs
  | _ => false
def mW2 (ks : List Nat) (x : Stmt) : Bool := match x with
  | .Expr (.Call (.Attribute o n p) [.List xs _] [] q) _ => decide (n = nExtend) && p.endLine == q.line && mSlot N sc 1 o && mWIs l N sc ks xs
  | _ => false
def sRefused : Str := ⟨#[114, 101, 102, 117, 115, 101, 100]⟩
def mW4 (x : Stmt) : Bool := match x with
  | .If (.BoolOp .Or [.Compare (.Call (.Attribute o n p) [.Constant (.bool true) _ _] [] q) [.NotEq] [.Constant (.int 1) _ _] _, .UnaryOp .Not v _] _) [.Return (some (.Tuple [.Constant (.str _) _ _, .UnaryOp .USub (.Constant (.int 1) _ _) _] _ _)) _] [] _ => decide (n = nCount) && p.endLine == q.line && mSlot N sc 1 o && mWV N sc v
  | _ => false
def mW5 (x : Stmt) : Bool := match x with
  | .Return (some (.Tuple [.Constant (.str r) _ _, .Call (.Attribute o n p) [.Constant (.bool true) _ _] [] q] _ _)) _ => decide (r = sRefused) && decide (n = nIndex) && p.endLine == q.line && mSlot N sc 1 o
  | _ => false
def mWh (xs : List Stmt) : Bool := match xs with
  | [x1, x2, x3, x4, x5] => mW1 l N sc x1 && mW2 l N sc [5, 6, 7, 8] x2 && mW2 l N sc [9, 10, 11, 12] x3 && mW4 N sc x4 && mW5 N sc x5
  | _ => false
end
/-! ### what it computes -/
def w0 (i : Nat) (s : Sg) (m : M) : Option (Rs D × M) := match s[i]? with
  | some (some d) => some (.ok d, m)
  | _ => none
def wI (k : Bool) (s : Sg) (m : M) : Option (Rs D × M) := bnd (w0 0 s m) fun d m1 => isE k d m1
def wL (j : Nat) : List Nat → Sg → M → Option (Rs (List D) × M)
  | [], _, m => some (.ok [], m)
  | k :: ks, s, m => bnd (wI (j == k) s m) fun d m1 => bnd (wL j ks s m1) fun ds m2 => some (.ok (d :: ds), m2)
def wN (j : Nat) (ks : List Nat) (s : Sg) (m : M) : Option (Rs D × M) := bnd (wL j ks s m) fun ds m1 => if ds.length ≤ sizeLine then some (.ok (.lst ds), m1) else none
def w1 (j : Nat) (s : Sg) (m : M) : Option (Out × M) := eb (bnd (wL j [1, 2, 3, 4] s m) fun ds m1 => if ds.length ≤ sizeLine then some (.ok (.ref m1.length), m1 ++ [.lst ds]) else none) fun d m1 => some (.nx (s.set 1 (some d)), m1)
def wM (F : M → D → List D → Option (D × M)) (g : Sg → M → Option (Rs D × M)) (s : Sg) (m : M) : Option (Rs D × M) := bnd (w0 1 s m) fun o m1 => if (lstM m1 o).isSome then bnd (g s m1) fun d m2 => (match F m2 o [d] with
      | some (r, m3) => some (.ok r, m3)
      | none => none) else none
def extB (b : Nat) (m : M) (o : D) : List D → Option (D × M)
  | [d] => (lstM m d).bind fun es => fUpd b (fun _ ds => some (.non, ds ++ es)) (fun _ => es) m o []
  | _ => none
def w2 (b j : Nat) (ks : List Nat) (s : Sg) (m : M) : Option (Out × M) := eb (wM (fun m o xs => match xs with
    | [d] => (lstM m d).bind fun es => fUpd b (fun _ ds => some (.non, ds ++ es)) (fun _ => es) m o []
    | _ => none) (wN j ks) s m) fun _ m1 => some (.nx s, m1)
def wC (s : Sg) (m : M) : Option (Rs D × M) := wM cntB (fun _ m => some (.ok (.bl true), m)) s m
def wQ (s : Sg) (m : M) : Option (Rs D × M) := bnd (wC s m) fun x m1 => bnd (some (Rs.ok (D.int 1), m1)) fun y m2 => giv ((opCmp m2 .ne x y).map D.bl) m2
def wV (s : Sg) (m : M) : Option (Rs D × M) := bnd (wI true s m) fun x m2 => match x with
    | .bl b => some (.ok (.bl (!b)), m2)
    | _ => none
def wT (s : Sg) (m : M) : Option (Rs D × M) := bnd (wQ s m) fun x m1 => match x with
    | .bl false => bnd (wV s m1) fun x m2 => match x with
      | .bl false => some (.ok (.bl false), m2)
      | .bl true => some (.ok (.bl true), m2)
      | _ => none
    | .bl true => some (.ok (.bl true), m1)
    | _ => none
def wP (z : Str) (g : Sg → M → Option (Rs D × M)) (s : Sg) (m : M) : Option (Rs D × M) := bnd (bnd (some (Rs.ok (D.str z), m)) fun d m1 => bnd (bnd (g s m1) fun d m1 => bnd (some (Rs.ok ([] : List D), m1)) fun ds m2 => some (.ok (d :: ds), m2)) fun ds m2 => some (.ok (d :: ds), m2)) fun ds m1 => if ds.length ≤ sizeLine then some (.ok (.tup ds), m1) else none
def w4 (z : Str) (s : Sg) (m : M) : Option (Out × M) := eb (wT s m) fun x m1 => match x with
    | .bl true => sb (eb (wP z (fun _ m => some (.ok (.int (-1)), m)) s m1) fun d m2 => some (.rt d, m2)) fun s1 m2 => some (.nx s1, m2)
    | .bl false => some (.nx s, m1)
    | _ => none
def w5 (s : Sg) (m : M) : Option (Out × M) := eb (wP sRefused (fun s m => wM idxB (fun _ m => some (.ok (.bl true), m)) s m) s m) fun d m1 => some (.rt d, m1)
def wAll (b j : Nat) (z : Str) (s : Sg) (m : M) : Option (Out × M) := sb (w1 j s m) fun s m => sb (w2 b j [5, 6, 7, 8] s m) fun s m => sb (w2 b j [9, 10, 11, 12] s m) fun s m => sb (w4 z s m) fun s m => sb (w5 s m) fun s m => some (.nx s, m)
theorem wAll_eq {j : Nat} (h1 : 1 ≤ j) (h2 : j ≤ 12) (z : Str) : ∃ mo, wAll 0 j z [some errD, none] [] = some (.rt (.tup [.str sRefused, .int ((j : Int) - 1)]), [mo]) := by
  have : j = 1 ∨ j = 2 ∨ j = 3 ∨ j = 4 ∨ j = 5 ∨ j = 6 ∨ j = 7 ∨ j = 8 ∨ j = 9 ∨ j = 10 ∨ j = 11 ∨ j = 12 := by omega
  rcases this with rfl | rfl | rfl | rfl | rfl | rfl | rfl | rfl | rfl | rfl | rfl | rfl <;> exact ⟨_, rfl⟩
/-- what is known where it runs -/
structure WhX (A : Ad) (l : Lk) (N : List Str) (X : Cx) (a D : Addr) (oe : Obj) (j : Nat) : Prop where
  N : X.N = N
  nd : X.N.Nodup
  er : ErrAt D oe
  pin : (a, oe) ∈ X.pn
  hD : A.ca j = some D
  j1 : 1 ≤ j
  j12 : j ≤ 12
  ok : ErrOk A X.K X.mg
  cl : ∀ c x, l.cl c = some x → ∃ a, A.ca c = some a ∧ X.mg x = some (.ref a)
  isi : X.mg "isinstance" = none
  kind : X.env.scope.kind = .function
  fn : ∀ x, X.fn x = true
  un : X.A.units + 65 < cLine
abbrev adE (a : Addr) (hd : List Addr) : Ad := ⟨fun f => if f = 1000 then some a else none, fun _ => none, hd⟩
section
variable {A : Ad} {l : Lk} {N : List Str} {X : Cx} {a D : Addr} {oe : Obj} {j : Nat} {hd : List Addr} {B : Nat → Nat} {b : Nat} {W : Wi}
theorem wh_slot {i : Nat} {x : Expr} (F : WhX A l N X a D oe j) (h : mSlot N X.env.scope i x = true) : PE X x (tD (adE a hd) X B b W (w0 i)) ∧ plE x = true ∧ baseB x = true := by
  unfold mSlot at h
  split at h
  · simp only [Bool.and_eq_true, decide_eq_true_eq, bne_iff_ne, ne_eq] at h
    exact ⟨n_var (by rw [F.N]; exact h.1.1.2) (vis_of h.1.1.1) (by simpa using h.1.2) (by simpa using h.2), rfl, rfl⟩
  · cases h
theorem wh_isi {k : Nat} {x : Expr} (F : WhX A l N X a D oe j) (k1 : 1 ≤ k) (k12 : k ≤ 12) (h : mWI l N X.env.scope k x = true) : PE X x (tD (adE a hd) X B b W (wI (j == k))) ∧ plE x = true := by
  unfold mWI at h
  split at h
  · simp only [Bool.and_eq_true, decide_eq_true_eq] at h
    obtain ⟨⟨⟨⟨h1, h2⟩, h3⟩, h4⟩, h5⟩ := h
    obtain ⟨c, c1, c2⟩ := F.cl k _ h5
    obtain ⟨e1, e2, _⟩ := wh_slot (hd := hd) (B := B) (b := b) (W := W) F h3
    exact ⟨n_isE (c := .ref c) (F.ok.exc j D F.hD F.j1 F.j12) F.er F.pin rfl (F.ok.kit j D k c F.hD c1 F.j1 F.j12 k1 k12) (fun u r => by cases r; rfl) h1 h2 F.isi e2 rfl (L2.pe_glob (v := .ref c) (gl_of h4).1 c2 rfl (gl_of h4).2.1) e1, rfl⟩
  · cases h
theorem wh_val {x : Expr} (F : WhX A l N X a D oe j) (h : mWV N X.env.scope x = true) : PE X x (tD (adE a hd) X B b W (wI true)) ∧ plT x = true := by
  unfold mWV at h
  split at h
  · simp only [Bool.and_eq_true, decide_eq_true_eq] at h
    obtain ⟨⟨⟨⟨h1, h2⟩, h3⟩, h4⟩, h5⟩ := h
    subst h5
    obtain ⟨e1, e2, _⟩ := wh_slot (hd := hd) (B := B) (b := b) (W := W) F h3
    exact ⟨n_isE (c := .ty "ValueError") (F.ok.exc j D F.hD F.j1 F.j12) F.er F.pin rfl (F.ok.val j D F.hD F.j1 F.j12) (fun u r => r) h1 h2 F.isi e2 rfl (L2.pe_bltn (gl_of h4).1 F.ok.noval (by decide +kernel) rfl (gl_of h4).2.2 (gl_of h4).2.1) e1, rfl⟩
  · cases h
theorem wh_list (F : WhX A l N X a D oe j) : ∀ (ks : List Nat) (xs : List Expr), (∀ k, k ∈ ks → 1 ≤ k ∧ k ≤ 12) → mWIs l N X.env.scope ks xs = true → PA X xs (tDs (adE a hd) X B b W (wL j ks))
  | [], xs, _, h => by
    simp only [mWIs, List.isEmpty_iff] at h
    subst h
    exact n_nil
  | k :: ks, xs, hk, h => by
    cases xs with
    | nil => simp [mWIs] at h
    | cons x r =>
      simp only [mWIs, Bool.and_eq_true] at h
      obtain ⟨e1, e2⟩ := wh_isi (hd := hd) (B := B) (b := b) (W := W) F (hk k List.mem_cons_self).1 (hk k List.mem_cons_self).2 h.1
      exact n_cons e1 (wh_list F ks r (fun k' h' => hk k' (List.mem_cons_of_mem _ h')) h.2) e2
theorem wh_loc (F : WhX A l N X a D oe j) : LocOk X X.env.scope := by
  intro x h
  refine ⟨?_, .inl (F.fn x)⟩
  unfold locB at h
  split at h
  · rename_i e; exact .inl e
  · rename_i e; exact .inr e
  · cases h
theorem wh_st1 {x : Stmt} (F : WhX A l N X a D oe j) (h : mW1 l N X.env.scope x = true) : PS X x (tSt (adE a hd) X B b W (w1 j)) := by
  unfold mW1 at h
  split at h
  · simp only [Bool.and_eq_true, decide_eq_true_eq] at h
    exact s_asg F.nd F.N (wh_loc F) h.1.1 h.1.2 (pl_swap rfl _ _ _) (n_new (wh_list F [1, 2, 3, 4] _ (by decide) h.2))
  · cases h
theorem wh_st2 {x : Stmt} {ks : List Nat} (F : WhX A l N X a D oe j) (hk : ∀ k, k ∈ ks → 1 ≤ k ∧ k ≤ 12) (h : mW2 l N X.env.scope ks x = true) : PS X x (tSt (adE a hd) X B b W (w2 b j ks)) := by
  unfold mW2 at h
  split at h
  · simp only [Bool.and_eq_true, decide_eq_true_eq] at h
    obtain ⟨⟨⟨h1, h2⟩, h3⟩, h4⟩ := h
    subst h1
    obtain ⟨e1, _, e3⟩ := wh_slot (hd := hd) (B := B) (b := b) (W := W) F h3
    exact s_ex (n_m1 PySem.F.slot_list_extend PySem.F.type_list_extend (mt_ext (A := adE a hd) (B := B) (b := b)) e3 h2 e1 (n_lst (wh_list F ks _ hk h4)) rfl) rfl
  · cases h
theorem wh_st4 {x : Stmt} (F : WhX A l N X a D oe j) (h : mW4 N X.env.scope x = true) : ∃ z, PS X x (tSt (adE a hd) X B b W (w4 z)) := by
  unfold mW4 at h
  split at h
  · rename_i o n p jj pp q j2 p2 p3 v p4 p5 z j3 p6 j4 p7 p8 kk p9 p10 p11
    simp only [Bool.and_eq_true, decide_eq_true_eq] at h
    obtain ⟨⟨⟨h1, h2⟩, h3⟩, h4⟩ := h
    subst h1
    obtain ⟨e1, _, e3⟩ := wh_slot (hd := hd) (B := B) (b := b) (W := W) F h3
    obtain ⟨v1, v2⟩ := wh_val (hd := hd) (B := B) (b := b) (W := W) F h4
    refine ⟨z, s_ife (f := wT) (F := fun s m1 => sb (eb (wP z (fun _ m => some (.ok (.int (-1)), m)) s m1) fun d m2 => some (.rt d, m2)) fun s1 m2 => some (.nx s1, m2)) (F2 := fun s m => some (.nx s, m)) (pt_pw (n_orcT ?_ (n_or1T ?_))) (s_cons (s_ret (n_tup (n_cons (n_const L2.pe_str fun _ _ _ => .str _) (n_cons (n_const (v := .int (-1)) (pe_imp (L2.pe_un L2.un_neg L2.pe_int) fun σ H Q q => ⟨1, rfl, q⟩) fun _ _ _ => .int _) n_nil rfl) rfl))) s_nil) s_nil⟩
    · exact n_cmpT F.un rfl rfl (n_m1 PySem.F.slot_list_count PySem.F.type_list_count (mt_cntB (A := adE a hd) (B := B) (b := b)) e3 h2 e1 (n_const L2.pe_bl fun _ _ _ => .bl _) rfl) (n_const L2.pe_int fun _ _ _ => .int _)
    · exact n_notT (pt_of v1 v2)
  · cases h
theorem wh_st5 {x : Stmt} (F : WhX A l N X a D oe j) (h : mW5 N X.env.scope x = true) : PS X x (tSt (adE a hd) X B b W w5) := by
  unfold mW5 at h
  split at h
  · simp only [Bool.and_eq_true, decide_eq_true_eq] at h
    obtain ⟨⟨⟨h0, h1⟩, h2⟩, h3⟩ := h
    subst h0 h1
    obtain ⟨e1, _, e3⟩ := wh_slot (hd := hd) (B := B) (b := b) (W := W) F h3
    exact s_ret (n_tup (n_cons (n_const L2.pe_str fun _ _ _ => .str _) (n_cons (n_m1 PySem.F.slot_list_index PySem.F.type_list_index (mt_idxB (A := adE a hd) (B := B) (b := b)) e3 h2 e1 (n_const L2.pe_bl fun _ _ _ => .bl _) rfl) n_nil rfl) rfl))
  · cases h
theorem wh_body {xs : List Stmt} (F : WhX A l N X a D oe j) (h : mWh l N X.env.scope xs = true) : ∃ z, PSs X xs (tSt (adE a hd) X B b W (wAll b j z)) := by
  unfold mWh at h
  split at h
  · simp only [Bool.and_eq_true] at h
    obtain ⟨⟨⟨⟨h1, h2⟩, h3⟩, h4⟩, h5⟩ := h
    obtain ⟨z, q4⟩ := wh_st4 (hd := hd) (B := B) (b := b) (W := W) F h4
    exact ⟨z, s_cons (wh_st1 F h1) (s_cons (wh_st2 F (by decide) h2) (s_cons (wh_st2 F (by decide) h3) (s_cons q4 (s_cons (wh_st5 F h5) s_nil))))⟩
  · cases h
end
end Bo

set_option Elab.async false
set_option linter.all false
set_option maxRecDepth 100000
/-! BX4: try: .. except .. as e: return which(e). -/
namespace Bo
open PySem PySem.Spec PyProof.Rows
open L2 (V HO Hp Rd SqL SqT Vals upd Cx PE PT PA PO PI PW PG PGs PTs PS PSs OpR UnR CallR SlR IxR VK XK TE TT TA TO TI TG TGs TS Ends Inv RelV EP Room Sp FnOk Gl Vis Binds WX Takes tOp tCons tNil It Turn PIE Loc BlkOk FnScope defScope defBody)
/-- what is told of the error; hd: what must stay as it is -/
def spWh (A : Ad) : SpW := fun D a H Q => ∃ (j : Nat) (hd : List Addr), A.ca j = some D ∧ 1 ≤ j ∧ j ≤ 12 ∧ (∀ c, c ∈ hd → ∃ o, H c = some o ∧ ∀ vs, o ≠ .tup vs) ∧
  ∀ (t : Addr) (H' : Hp), H' t = some (.tup [.str sRefused, .int ((j : Int) - 1)]) → t ∉ hd → (∀ c o, c ∈ hd → H c = some o → H' c = some o) →
    (∀ c o, c ∉ hd → H c = some o → H' c = some o ∨ ∃ ob kvs, o = .dT kvs ∧ H' c = some (.frz ob (.dT kvs))) → Q (.ref t) H'
theorem which_fn {A : Ad} {l : Lk} {K : PySem.W.Frag} {mg : Str → Option Value} {x y : Str} {st : Stmt} {f : Addr} {fd : FuncData} {N : List Str} (E : ErrOk A K mg) (cl : ∀ c x, l.cl c = some x → ∃ a, A.ca c = some a ∧ mg x = some (.ref a)) (isi : mg "isinstance" = none)
    (F : L2.Fun K x x st f fd) (S : FnScope N [y] (defScope st)) (hN : N.length = 2) (hm : mWh l N (defScope st) (defBody st) = true) (P : Program) (w : World) (base : Heap) : FnE P w K mg base f fd y (spWh A) := by
  obtain ⟨oc, od, kV, doc, pm, an, cdv, ct, osl, rfl, lk, hcd⟩ := F.ex
  refine fnE_of lk hcd S fun Ar outs s H D Q q er un want => ?_
  obtain ⟨j, hd, hD, j1, j12, hh, fin⟩ := want
  have X : WhX A l N (L2H.cxH (L2.CX P w) P w K mg base N x (defScope st) f cdv Ar outs s H (fun _ _ _ => False) q) q.1 D q.2 j :=
    ⟨rfl, S.nd, er, List.mem_singleton.mpr rfl, hD, j1, j12, E, cl, isi, S.kind, fun _ => rfl, un⟩
  obtain ⟨z, body⟩ := wh_body (hd := hd) (B := fun _ => 0) (b := 0) (W := fun _ _ _ => False) X hm
  refine ⟨_, body, [], [some errD, none], [], ?_, ?_, ?_⟩
  · exact { len := rfl, nd := List.nodup_nil, base := Nat.le_refl _, hid := fun a ha => ⟨by simp, hh a ha⟩, bd := fun n h => absurd h (Nat.not_lt_zero _), ob := fun n a o h => by simp at h }
  · refine ⟨?_, fun i d e => ?_⟩
    · unfold L2.start
      simp [hN]
    · cases i with
      | zero =>
        cases e
        refine ⟨.ref q.1, rfl, .fn ?_⟩
        show (if (1000 : Nat) = 1000 then some q.1 else none) = _
        rw [if_pos rfl]
      | succ i => cases i with
        | zero => cases e
        | succ i => simp at e
  · obtain ⟨mo, e⟩ := wAll_eq j1 j12 z
    unfold sW
    rw [e]
    intro io' H' v x R r
    cases r with
    | tup h1 h2 h3 =>
      have ev : ∀ {vs}, Reps (adE q.1 hd) K io' io'.length H' [.str sRefused, .int ((j : Int) - 1)] vs → vs = [.str sRefused, .int ((j : Int) - 1)] := fun h => by
        obtain ⟨v1, v2, rfl, q1, q2⟩ := reps2 h
        cases q1
        cases q2
        rfl
      have := ev h3
      subst this
      exact fin _ H' h1.2 (fun z => h1.1.2 z) (fun c o hc e => x.hid c o hc e) fun c o hc e => x.keep c o ⟨by simp, hc⟩ e
section
variable {A : Ad} {B : Nat → Nat} {b : Nat} {X : Cx} {W : Wi} {l : Lk} {N : List Str}
/-- a wish of the library's as one of ours -/
def wiOf (A : Ad) (W1 : WX) : Wi := fun c σ H => ∀ a, A.ca c = some a → W1 (.ref a) none σ H
/-- what the suite wants -/
def tSuite (A : Ad) (i : Nat) (a : Addr) (cls : Value) (d : Option Addr) : TS := fun E σ H => ∃ D, cls = .ref D ∧ d = none ∧ σ[i]? = some (some (.ref a)) ∧ spWh A D a H E.rt
theorem s_tryw {F : Sg → M → Option (Out × M)} {body : List Stmt} {i n : Nat} {x nm g : Str} {np np2 gp hp rp cp pos : Pos} (hc : X.calm = true) (hr : Room n X.A) (tk : Takes X (wxOf A W)) (stk : X.stack = X.env :: X.outer) (frm : X.env.frame = some X.env.locals) (hN : X.N.Nodup) (hi : X.N[i]? = some nm)
    (hln : X.env.kindOf nm = some .local) (hd1 : (nm == ("__debug__" : Str)) = false) (hd2 : (nm == ("__classdict__" : Str)) = false) (hgx : glB X.env.scope x = true) {R : Addr} (hR : A.ca 0 = some R) (hmx : X.mg x = some (.ref R))
    (hgg : glB X.env.scope g = true) {f : Addr} {fd : FuncData} {y : Str} (hmg : X.mg g = some (.ref f)) (hk : PySem.W.keepIn X.K (.ref f) = true) (hb : Binds X.K fd [y] []) (fe : FnE X.prog X.w X.K X.mg X.base f fd y (spWh A)) (E : ErrOk A X.K X.mg)
    (hbody : ∀ (W1 : WX) (pn : List (Addr × Obj)) (xe : Value → Shared → Prop), Takes (X.tr pn xe) (wxOf A (wiOf A W1)) → PassesOwn (model X.prog X.w) X.A X.env xe → PSs (X.tr pn xe) body (tSt A (X.tr pn xe) B b (wiOf A W1) F)) :
    PS X (.Try body [.ExceptHandler (some (.Name x np)) (some nm) [.Return (some (.Call (.Name g gp) [.Name nm np2] [] cp)) rp] hp] [] [] pos) (tSt A X B b W fun s m => match F s m with
      | some (.ex c, m1) => if decide (1 ≤ c) && decide (c ≤ 12) && decide (i < s.length) then some (.rt (.tup [.str sRefused, .int ((c : Int) - 1)]), m1) else none
      | r => r) := by
  refine ps_imp (L2.ps_try_as (tb := fun W1 => tS A X.K B b (wiOf A W1) F) (ts := tSuite A i) (Wout := wxOf A W) stk frm hN hi hln ⟨(gl_of hgx).1, (gl_of hgx).2.1, .inl hmx⟩ tk (fun W1 pn xe t po => hbody W1 pn xe (t.imp fun cls d σ H z => ?_) po) fun a oe cls d pn hz hf => ?_) fun E' σ H q => ?_
  · obtain ⟨c, a, e1, rfl, rfl, z⟩ := z
    exact z a e1
  · -- the suite
    refine ⟨fun pins s σ H E' I h => ?_⟩
    obtain ⟨D, rfl, rfl, h1, h2⟩ := h
    have er : ErrAt D oe := ⟨hz, hf⟩
    have call : PE (X.suite a ((a, oe) :: pn)) (.Call (.Name g gp) [.Name nm np2] [] cp) (tErr i (spWh A) D a) :=
      pe_callE (X := X.suite a ((a, oe) :: pn)) (oe := oe) fe ⟨by have := hr.dp; show X.A.depth + 3 * 0 + 5 < _; omega, by have := hr.un; show X.A.units + 16 * 0 + 200 < _; omega⟩ List.mem_cons_self er (gl_of hgg).1 hmg hk hb hi (.inl hln) hd1 hd2 (gl_of hgg).2.1
    exact (L2.pss_cons (L2.ps_ret call) L2.pss_nil).run pins s σ H E' I ⟨h1, h2⟩
  · -- what follows
    obtain ⟨io, s, m, R0, S, q⟩ := q
    refine ⟨io, s, m, R0, S, ?_⟩
    unfold sW at q ⊢
    cases e : F s m with
    | none => simp only [e] at q
    | some o =>
      obtain ⟨o, m1⟩ := o
      simp only [e] at q
      cases o with
      | nx s' => exact q
      | rt d => exact q
      | ex c =>
        by_cases hc12 : (decide (1 ≤ c) && decide (c ≤ 12) && decide (i < s.length)) = true
        · dsimp only at q
          rw [if_pos hc12] at q
          rw [Bool.and_eq_true, Bool.and_eq_true, decide_eq_true_eq, decide_eq_true_eq, decide_eq_true_eq] at hc12
          obtain ⟨hc12, his⟩ := hc12
          intro io' H' σ' x1 R1 hl a ha
          obtain ⟨R', r1, r2⟩ := E.root
          rw [hR] at r1
          cases r1
          refine ⟨true, r2 c a ha hc12.1 hc12.2, fun _ a0 na => ?_, fun z => by cases z⟩
          have il : i < σ'.length := by
            rw [hl, ← S.1]
            exact his
          refine ⟨a, rfl, rfl, List.getElem?_set_self il, c, io' ++ A.hd, ha, hc12.1, hc12.2, fun u hu => ?_, fun t H2 ht hn hst hkp => ?_⟩
          · rcases List.mem_append.mp hu with z | z
            · obtain ⟨k, hk', e'⟩ := List.getElem_of_mem z
              have hm1 : k < m1.length := by rw [← R1.len]; exact hk'
              have ob := R1.ob k u m1[k] (by rw [List.getElem?_eq_getElem hk', e']) (List.getElem?_eq_getElem hm1)
              cases hmo : m1[k] with
              | lst ds => rw [hmo] at ob; obtain ⟨vs, e2, _⟩ := ob; exact ⟨_, e2, fun vs z => by cases z⟩
              | dct ks ds => rw [hmo] at ob; obtain ⟨vs, e2, _⟩ := ob; exact ⟨_, e2, fun vs z => by cases z⟩
              | ins c fs => rw [hmo] at ob; obtain ⟨_, _, _, _, e2, _⟩ := ob; exact ⟨_, e2, fun vs z => by cases z⟩
            · exact (R1.hid u z).2
          · have x2 : Ext A io' io' H' H2 := by
              refine ⟨⟨[], by simp⟩, fun u o hu e2 => ?_, fun u z n => absurd z n, fun u o hu e2 => hst u o (List.mem_append_right _ hu) e2⟩
              exact hkp u o (fun z => (List.mem_append.mp z).elim hu.1 hu.2) e2
            have R2 : Rel A X.K B b io' H2 m1 := R1.same x2 fun u hu => by
              obtain ⟨o, e2⟩ := R1.tracked hu
              rw [hst u o (List.mem_append_left _ hu) e2, e2]
            refine q io' H2 (.ref t) (x1.trans x2) R2 ?_
            exact .tup ⟨⟨fun z => hn (List.mem_append_left _ z), fun z => hn (List.mem_append_right _ z)⟩, ht⟩ (by show 2 ≤ sizeLine; decide) (.cons (.str _) (.cons (.int _) .nil))
        · dsimp only at q
          rw [if_neg hc12] at q
          exact q.elim
end
/-! ### the facts on the classes, told by one sum -/
def excB (K : PySem.W.Frag) (D : Addr) : Bool :=
  PySem.W.findIn K (.ref D) "__getattribute__" == some (some (.builtin "BaseException.__getattribute__")) && PySem.W.findIn K (.ref D) "__getattr__" == some none && PySem.W.subIn K (.ref D) (.type "BaseException") == some true && PySem.W.hasDictIn K D &&
  PySem.W.findIn K (.ref D) "__class__" == some (some (.builtin "object.__class__")) && PySem.W.specialIn K (.builtin "object.__class__") "__get__" == some (some (.builtin "getset_descriptor.__get__")) && PySem.W.takesIn K (.builtin "object.__class__") == some true && PySem.W.mroIn K D (.type "object") == some true
def errB (K : PySem.W.Frag) (R : Addr) (cs : List Addr) : Bool :=
  cs.all (fun a => PySem.W.exmOne K (.ref a) (.ref R) == some true && PySem.W.kitOne K (.ref a) (.type "ValueError") == some true && excB K a) &&
  cs.zipIdx.all fun p => cs.zipIdx.all fun q => PySem.W.kitOne K (.ref p.1) (.ref q.1) == some (p.2 == q.2)
theorem errOk_of {A : Ad} {K : PySem.W.Frag} {mg : Str → Option Value} {R : Addr} {cs : List Addr} (h0 : A.ca 0 = some R) (hc : ∀ i, 1 ≤ i → i ≤ 12 → A.ca i = cs[i - 1]?) (h : errB K R cs = true) (nv : mg "ValueError" = none) : ErrOk A K mg := by
  unfold errB at h
  rw [Bool.and_eq_true, List.all_eq_true, List.all_eq_true] at h
  obtain ⟨h1, h2⟩ := h
  have one : ∀ c a, A.ca c = some a → 1 ≤ c → c ≤ 12 → (PySem.W.exmOne K (.ref a) (.ref R) == some true && PySem.W.kitOne K (.ref a) (.type "ValueError") == some true && excB K a) = true := fun c a e k1 k2 => by
    rw [hc c k1 k2] at e
    exact h1 a (List.mem_of_getElem? e)
  refine ⟨⟨R, h0, fun c a e k1 k2 => ?_⟩, fun c a e k1 k2 => ?_, fun i a j c e1 e2 i1 i2 j1 j2 => ?_, fun c a e k1 k2 => ?_, nv⟩
  · have := one c a e k1 k2
    rw [Bool.and_eq_true, Bool.and_eq_true] at this
    exact beq_iff_eq.mp this.1.1
  · have := one c a e k1 k2
    rw [Bool.and_eq_true] at this
    have q := this.2
    unfold excB at q
    simp only [Bool.and_eq_true, beq_iff_eq] at q
    obtain ⟨⟨⟨⟨⟨⟨⟨q1, q2⟩, q3⟩, q4⟩, q5⟩, q6⟩, q7⟩, q8⟩ := q
    exact ⟨q1, q2, q3, q4, q5, q6, q7, q8⟩
  · rw [hc i i1 i2] at e1
    rw [hc j j1 j2] at e2
    have m1 : (a, i - 1) ∈ cs.zipIdx := List.mem_iff_getElem?.mpr ⟨i - 1, by rw [List.getElem?_zipIdx, e1]; simp⟩
    have m2 : (c, j - 1) ∈ cs.zipIdx := List.mem_iff_getElem?.mpr ⟨j - 1, by rw [List.getElem?_zipIdx, e2]; simp⟩
    have := List.all_eq_true.mp (h2 _ m1) _ m2
    rw [beq_iff_eq.mp this]
    have : (i - 1 == j - 1) = (i == j) := by
      rw [Bool.eq_iff_iff, beq_iff_eq, beq_iff_eq]
      omega
    rw [this]
  · have := one c a e k1 k2
    rw [Bool.and_eq_true, Bool.and_eq_true] at this
    exact beq_iff_eq.mp this.1.2
end Bo

set_option Elab.async false
set_option linter.all false
set_option maxRecDepth 100000
/-! BX5: books: fields, methods, making. -/
namespace Bo
open PySem PySem.Spec PyProof.Rows
open L2 (V HO Hp Rd SqL SqT Vals upd Cx PE PT PA PO PI PW PG PGs PTs PS PSs OpR UnR CallR SlR IxR VK XK TE TT TA TO TI TG TGs TS Ends Inv RelV EP Room Sp FnOk Gl Vis Binds WX Takes tOp tCons tNil It Turn PIE Loc BlkOk)
section
variable {A : Ad} {B : Nat → Nat} {b : Nat} {X : Cx} {W : Wi} {io : List Addr} {H : Hp} {σ : L2.St} {l : Lk} {G : List (Str × D)} {N : List Str} {T : Tb} {n : Nat}
variable {f g h : Sg → M → Option (Rs D × M)} {fs : Sg → M → Option (Rs (List D) × M)} {e e2 e3 tg : Expr} {es : List Expr} {pos apos : Pos}
theorem fld_lookup {K : PySem.W.Frag} {c : Nat} : ∀ {fs : List (Str × D)} {gs : List (Str × V)} {x : Str} {d : D}, FldsR A K io c H fs gs → fs.lookup x = some d → ∃ v, gs.lookup x = some v ∧ Rep A K io c H d v
  | [], _, _, _, _, e => by cases e
  | (y, d0) :: r, [], _, _, h, _ => by have := h.1; cases this
  | (y, d0) :: r, (z, v0) :: s, x, d, h, e => by
    have h1 := h.1
    rw [List.map_cons, List.map_cons] at h1
    have hy : y = z := List.head_eq_of_cons_eq h1
    have ht := List.tail_eq_of_cons_eq h1
    have h2 := h.2
    rw [List.map_cons, List.map_cons] at h2
    cases h2 with
    | cons q1 q2 =>
      rw [List.lookup_cons] at e ⊢
      rw [← hy]
      split at e
      · cases e
        exact ⟨_, rfl, q1⟩
      · exact fld_lookup ⟨ht, q2⟩ e
theorem fld_none {K : PySem.W.Frag} {c : Nat} {x : Str} : ∀ {fs : List (Str × D)} {gs : List (Str × V)}, FldsR A K io c H fs gs → (∀ p, p ∈ fs → p.1 ≠ x) → gs.lookup x = none
  | _, [], _, _ => rfl
  | [], _ :: _, h, _ => by have := h.1; cases this
  | (y, d0) :: r, (z, v0) :: s, h, q => by
    have h1 := h.1
    rw [List.map_cons, List.map_cons] at h1
    have hy : y = z := List.head_eq_of_cons_eq h1
    have ht := List.tail_eq_of_cons_eq h1
    have h2 := h.2
    rw [List.map_cons, List.map_cons] at h2
    cases h2 with
    | cons q1 q2 =>
      rw [List.lookup_cons]
      have hne : ¬ x = z := fun z' => q _ List.mem_cons_self (by rw [z', ← hy])
      split
      · rename_i e
        exact absurd (beq_iff_eq.mp e) hne
      · exact fld_none ⟨ht, q2⟩ fun p hp => q p (List.mem_cons_of_mem _ hp)
theorem putF_len (x : Str) (d : D) : ∀ {fs : List (Str × D)} {gs : List (Str × V)}, fs.map (·.1) = gs.map (·.1) → fs.length = gs.length := fun h => by
  have := congrArg List.length h
  simpa using this
theorem flds_putF {K : PySem.W.Frag} {c : Nat} {x : Str} {d : D} {v : V} (r : Rep A K io c H d v) : ∀ {fs : List (Str × D)} {gs : List (Str × V)}, FldsR A K io c H fs gs → FldsR A K io c H (putF x d fs) (L2.putF x v gs)
  | [], [], _ => ⟨rfl, .cons r .nil⟩
  | [], _ :: _, h => by have := h.1; cases this
  | _ :: _, [], h => by have := h.1; cases this
  | (y, d0) :: fs, (z, v0) :: gs, h => by
    have h1 := h.1
    rw [List.map_cons, List.map_cons] at h1
    have hy : y = z := List.head_eq_of_cons_eq h1
    have ht := List.tail_eq_of_cons_eq h1
    have h2 := h.2
    rw [List.map_cons, List.map_cons] at h2
    subst hy
    cases h2 with
    | cons q1 q2 =>
      by_cases hx : y = x
      · have e1 : putF x d ((y, d0) :: fs) = (x, d) :: fs := by simp [putF, hx]
        have e2 : L2.putF x v ((y, v0) :: gs) = (x, v) :: gs := by simp [L2.putF, hx]
        rw [e1, e2]
        exact ⟨by rw [List.map_cons, List.map_cons, ht], .cons r q2⟩
      · have e1 : putF x d ((y, d0) :: fs) = (y, d0) :: putF x d fs := by simp [putF, hx]
        have e2 : L2.putF x v ((y, v0) :: gs) = (y, v0) :: L2.putF x v gs := by simp [L2.putF, hx]
        have ih := flds_putF (x := x) r (fs := fs) (gs := gs) ⟨ht, q2⟩
        rw [e1, e2]
        exact ⟨by rw [List.map_cons, List.map_cons, ih.1], .cons q1 ih.2⟩
/-- books, as they stand -/
theorem bk_ex {m : M} {d : D} {v : V} (R : Rel A X.K B b io H m) (r : Rep A X.K io io.length H d v) (h : isBk m d = true) :
    ∃ k a C dx fs gs, d = .ref k ∧ v = .ref a ∧ m[k]? = some (.ins 13 fs) ∧ io[k]? = some a ∧ A.ca 13 = some C ∧ H a = some (.ins C dx gs) ∧ FldsR A X.K io io.length H fs gs ∧ ∀ p, p ∈ fs → p.1 ∈ fldN := by
  unfold isBk at h
  split at h
  · rename_i k
    split at h
    · rename_i c fs e
      rw [Bool.and_eq_true, beq_iff_eq] at h
      obtain ⟨rfl, h⟩ := h
      obtain ⟨a, rfl, ha⟩ := r.refEx R
      obtain ⟨C, dx, gs, c1, e2, f2⟩ := R.get ha e
      refine ⟨k, a, C, dx, fs, gs, rfl, rfl, e, ha, c1, e2, f2, fun p hp => ?_⟩
      have q := List.all_eq_true.mp h p hp
      obtain ⟨x, hx, q⟩ := List.any_eq_true.mp q
      rw [decide_eq_true_eq] at q
      rw [← q]
      exact hx
    · cases h
  · cases h
/-- e.x of books -/
theorem n_fld {x : Str} (F : Fr A l G N T n X) (hx : x ∈ fldN) (hb : baseB e = true) (ha : PE X e (tD A X B b W f)) :
    PE X (.Attribute e x pos) (tD A X B b W fun s m => bnd (f s m) fun o m1 => if isBk m1 o then (match o with
      | .ref n => (match m1[n]? with
        | some (.ins _ fs) => giv (fs.lookup x) m1
        | _ => none)
      | _ => none) else none) := by
  refine pe_imp (L2.pe_fld ha (base_ok hb _ _)) fun σ H Q q => ?_
  obtain ⟨io, s, m, R, S, q⟩ := q
  refine tG.step (RR := RD A X.K) R S q fun io1 H1 m1 d v x1 R1 S1 r1 h1 => ?_
  split at h1
  · rename_i hk
    obtain ⟨k, a, C, dx, fs, gs, rfl, rfl, e1, e2, e3, e4, e5, e6⟩ := bk_ex R1 r1 hk
    simp only [e1] at h1
    obtain ⟨r, e7, q7⟩ := h1.giv
    obtain ⟨v, e8, e9⟩ := fld_lookup e5 e7
    exact ⟨a, C, dx, gs, v, rfl, e4, (F.bk C e3).cls, (F.bk C e3).na x hx, e8, q7 io1 H1 v (Ext.refl io1 H1) R1 e9⟩
  · exact h1.elim
/-! ### methods -/
abbrev plS (o : Expr) (env : Env) : Sem Bool := do return (← importBound o env).getD true
theorem mcall_mine {o : Expr} {m : Str} {env : Env} (hb : baseB o = true) (hl : (apos.endLine == pos.line) = true) (hf : methodCallForm es.length (backTo pos (starEach es env)) (backToKw pos (keywordEach [] env)) = true) :
    eval (.Call (.Attribute o m apos) es [] pos) env = (do
      let ov ← eval o env
      standAt apos.atName
      let (f, first) ← holding [ov] (getMethod ov m (plS o env))
      callWith pos f first (backTo pos (starEach es env)) (backToKw pos (keywordEach [] env))) := by
  refine L2.mcall_of (base_ok hb _ _) fun ov => ?_
  unfold methodCall calleeOf methodCallPos
  have h0 : (es.length + ([] : List Keyword).length) = es.length := rfl
  rw [h0]
  simp only [hf, hl, Bool.not_true, Bool.false_or, if_true, pure_bind]
def tMethD (C : Addr) (m : Str) (sp : Sp) (E : L2.St → XK) (ta : TE) (t : TA) : TE := fun σ H Q => ta σ H fun x H1 => ∃ a dx fs, x = .ref a ∧ H1 a = some (.ins C dx fs) ∧ fs.lookup m = none ∧ t σ H1 fun vs H2 => sp (x :: vs) H2 Q (E σ)
section
variable {CX : L2.CXT} {k : Nat} {C a : Addr} {fd : FuncData} {ps : List Str} {sp : Sp} {E : L2.St → XK} {m : Str} {ta : TE} {t : TA} {o : Expr}
theorem pe_methD (he : PE X o ta) (c : L2.Cls X.K C) (hm : L2.Meth X.K C m a) (F : FnOk X.prog X.w X.K X.mg X.base CX k a fd ps sp) (hr : Room k X.A) (hb : Binds X.K fd ps []) (hx : ∀ σ, L2.PassesAt CX X σ (E σ)) (ha : PA X (e :: es) t)
    (hbase : baseB o = true) (hl : (apos.endLine == pos.line) = true) (hp : (e :: es).all plE = true) (hn : (e :: es).length < 30) : PE X (.Call (.Attribute o m apos) (e :: es) [] pos) (tMethD C m sp E ta t) := by
  have hp' := hp
  rw [List.all_cons, Bool.and_eq_true] at hp
  have ht := mcall_mine (m := m) (es := e :: es) (env := X.env) hbase hl (by
    unfold methodCallForm
    have e0 : backToKw pos (keywordEach [] X.env) = [] := rfl
    rw [pl_all hp', e0]
    simpa using hn)
  refine ⟨fun pins s σ H Q I h => ?_⟩
  refine PySem.W.methodCall_KW (L2.thn (he.run pins s σ H _ I h) fun u s1 ⟨x, H1, I1, rx, a', dx, fs, ex, ea, l, q⟩ => ?_) ht
  subst ex
  obtain rfl : u = Value.ref a' := rx
  refine L2.getmeth_ok I1 ea c hm l ?_
  refine PySem.W.callWith_K (first := [.ref a']) (h₀ := X.base) I.ok.mod.kin hm.kp (L2.thn (ha.run pos pins s1 σ H1 _ I1 q) fun us s2 ⟨vs, H2, I2, r, q2⟩ => ⟨I2.kIn, ?_⟩) (pl_star hp.1 _ _) (pl_any hp.2)
  exact L2.run_fnSD (us := .ref a' :: us) (vs := .ref a' :: vs) (dvs := []) (ds := []) F hr hb .nil (hx σ) I2 (.cons rfl r) (by rw [List.append_nil]; exact q2)
theorem pe_methD0 (he : PE X o ta) (c : L2.Cls X.K C) (hm : L2.Meth X.K C m a) (F : FnOk X.prog X.w X.K X.mg X.base CX k a fd ps sp) (hr : Room k X.A) (hb : Binds X.K fd ps []) (hx : ∀ σ, L2.PassesAt CX X σ (E σ))
    (hbase : baseB o = true) (hl : (apos.endLine == pos.line) = true) : PE X (.Call (.Attribute o m apos) [] [] pos) (tMethD C m sp E ta tNil) := by
  have ht := mcall_mine (m := m) (es := []) (env := X.env) hbase hl rfl
  refine ⟨fun pins s σ H Q I h => ?_⟩
  refine PySem.W.methodCall_KW (L2.thn (he.run pins s σ H _ I h) fun u s1 ⟨x, H1, I1, rx, a', dx, fs, ex, ea, l, q⟩ => ?_) ht
  subst ex
  obtain rfl : u = Value.ref a' := rx
  refine L2.getmeth_ok I1 ea c hm l ?_
  exact PySem.W.callWith_K0 (first := [.ref a']) I1.kIn hm.kp (L2.run_fnSD (us := [.ref a']) (vs := [.ref a']) (dvs := []) (ds := []) F hr hb .nil (hx σ) I1 (.cons rfl .nil) q)
end
theorem bk_no {x : Str} (hx : (fldN.any fun y => decide (y = x)) = false) {fs : List (Str × D)} (h : ∀ p, p ∈ fs → p.1 ∈ fldN) : ∀ p, p ∈ fs → p.1 ≠ x := fun p hp e => by
  have q := List.any_eq_false.mp hx p.1 (h p hp)
  simp [e] at q
theorem n_mth {k : Nat} {x : Str} (F : Fr A l G N T n X) (tk : Takes X (wxOf A W)) (hl : l.mt k = some x) (hx : (fldN.any fun y => decide (y = x)) = false) (hb : baseB e2 = true) (hli : (apos.endLine == pos.line) = true) (he : PE X e2 (tD A X B b W f)) (ha : PA X (e :: es) (tDs A X B b W fs)) (hp : (e :: es).all plE = true) (hn : (e :: es).length < 30) :
    PE X (.Call (.Attribute e2 x apos) (e :: es) [] pos) (tD A X B b W fun s m => bnd (f s m) fun o m1 => if isBk m1 o then bnd (fs s m1) fun ds m2 => callN T n k (o :: ds) m2 else none) := by
  obtain ⟨C, a, c1, h1, h2, _, fd, ps, h4, h5⟩ := F.mt k x hl
  have BK := F.bk C c1
  refine pe_imp (pe_methD he BK.cls h2 h4 F.rm h5 (fun σ => L2.passAt tk σ) ha hb hli hp hn) fun σ H Q q => ?_
  obtain ⟨io, s, m, R, S, q⟩ := q
  refine tG.step (RR := RD A X.K) R S q fun io1 H1 m1 d v x1 R1 S1 r1 h1 => ?_
  split at h1
  · rename_i hk
    obtain ⟨j, a', C', dx, fs', gs, rfl, rfl, e1, e2, e3, e4, e5, e6⟩ := bk_ex R1 r1 hk
    rw [c1] at e3
    cases e3
    refine ⟨a', dx, gs, rfl, e4, fld_none e5 (bk_no hx e6), ?_⟩
    refine tG.step (RR := RDs A X.K) R1 S1 h1 fun io2 H2 m2 ds vs x2 R2 S2 r2 h2 => ?_
    exact ⟨A.hd, B, b, io2, m2, .ref j :: ds, R2, .cons (r1.mono x2 x2.len) r2, .inl h2.toE⟩
  · exact h1.elim
theorem n_mth0 {k : Nat} {x : Str} (F : Fr A l G N T n X) (tk : Takes X (wxOf A W)) (hl : l.mt k = some x) (hx : (fldN.any fun y => decide (y = x)) = false) (hb : baseB e2 = true) (hli : (apos.endLine == pos.line) = true) (he : PE X e2 (tD A X B b W f)) :
    PE X (.Call (.Attribute e2 x apos) [] [] pos) (tD A X B b W fun s m => bnd (f s m) fun o m1 => if isBk m1 o then callN T n k [o] m1 else none) := by
  obtain ⟨C, a, c1, h1, h2, _, fd, ps, h4, h5⟩ := F.mt k x hl
  have BK := F.bk C c1
  refine pe_imp (pe_methD0 he BK.cls h2 h4 F.rm h5 (fun σ => L2.passAt tk σ) hb hli) fun σ H Q q => ?_
  obtain ⟨io, s, m, R, S, q⟩ := q
  refine tG.step (RR := RD A X.K) R S q fun io1 H1 m1 d v x1 R1 S1 r1 h1 => ?_
  split at h1
  · rename_i hk
    obtain ⟨j, a', C', dx, fs', gs, rfl, rfl, e1, e2, e3, e4, e5, e6⟩ := bk_ex R1 r1 hk
    rw [c1] at e3
    cases e3
    exact ⟨a', dx, gs, rfl, e4, fld_none e5 (bk_no hx e6), A.hd, B, b, io1, m1, [.ref j], R1, .cons r1 .nil, .inl h1.toE⟩
  · exact h1.elim
theorem n_mthk0 {k : Nat} {x : Str} (F : Fr A l G N T n X) (tk : Takes X (wxOf A W)) (hl : l.mt k = some x) (hx : (fldN.any fun y => decide (y = x)) = false) (hb : baseB e2 = true) (hli : (apos.endLine == pos.line) = true) (he : PE X e2 (tD A X B b W f)) :
    PE X (.Call (.Attribute e2 x apos) [] [] pos) (tD A X B b W fun s m => bnd (f s m) fun o m1 => if isBk m1 o then keepN T n b k [o] m1 else none) := by
  obtain ⟨C, a, c1, h1, h2, _, fd, ps, h4, h5⟩ := F.mt k x hl
  have BK := F.bk C c1
  refine pe_imp (pe_methD0 he BK.cls h2 h4 F.rm h5 (fun σ => L2.passAt tk σ) hb hli) fun σ H Q q => ?_
  obtain ⟨io, s, m, R, S, q⟩ := q
  refine tG.step (RR := RD A X.K) R S q fun io1 H1 m1 d v x1 R1 S1 r1 h1 => ?_
  split at h1
  · rename_i hk
    obtain ⟨j, a', C', dx, fs', gs, rfl, rfl, e1, e2, e3, e4, e5, e6⟩ := bk_ex R1 r1 hk
    rw [c1] at e3
    cases e3
    exact ⟨a', dx, gs, rfl, e4, fld_none e5 (bk_no hx e6), A.hd, B, b, io1, m1, [.ref j], R1, .cons r1 .nil, .inr h1.toE⟩
  · exact h1.elim
/-! ### making -/
def tMakeD (C : Addr) (sp : Sp) (E : L2.St → XK) (t : TA) : TE := fun σ H Q => t σ H fun vs H1 => ∀ x dx, H1 x = none → H1 dx = none → dx ≠ x →
  sp (.ref x :: vs) (upd (upd H1 dx (.own x)) x (.ins C dx [])) (fun v H2 => v = .non ∧ Q (.ref x) H2) (E σ)
theorem run_makeD {C a : Addr} {k : Nat} {fd : FuncData} {ps : List Str} {sp : Sp} {E : XK} {pins : List (Addr × Obj)} {σ : L2.St} {H : Hp} {s : Shared} {Q : VK} {us : List Value} {vs : List V} (Mk : L2.Mk X.K C a) (F : FnOk X.prog X.w X.K X.mg X.base (L2.CX X.prog X.w) k a fd ps sp)
    (hr : Room (k + 1) X.A) (hb : Binds X.K fd ps []) (hx : L2.PassesAt (L2.CX X.prog X.w) X σ E) (I : Inv X pins σ H s) (r : Vals vs us)
    (h : ∀ x dx, H x = none → H dx = none → dx ≠ x → sp (.ref x :: vs) (upd (upd H dx (.own x)) x (.ins C dx [])) (fun v H2 => v = .non ∧ Q (.ref x) H2) E) :
    wpAny (model X.prog X.w) X.A (call (.ref C) us) (EP X pins σ Q) X.xe s := by
  have hq := h (s.heap.objs.size + 1) s.heap.objs.size (I.hok.fresh (Nat.le_succ _)) (I.hok.fresh (Nat.le_refl _)) (Nat.ne_of_lt (Nat.lt_succ_self _))
  have I2 := L2.Inv.made (C := C) I
  have r2 : Vals (V.ref (s.heap.objs.size + 1) :: vs) (Value.ref (s.heap.objs.size + 1) :: us) := .cons rfl r
  have hl : (Value.ref (s.heap.objs.size + 1) :: us ++ ([] : List Value)).length = ps.length := by
    have e := r2.length
    rw [F.len _ _ _ _ hq] at e
    rw [List.append_nil]
    exact e.symm
  have hb2 := hb _ (Value.ref (s.heap.objs.size + 1) :: us) I2.kIn hl
  rw [List.append_nil] at hb2
  refine wpAny_call (L2.make_map (f := a) I.kIn Mk.makes Mk.init (beq_iff_eq.mp Mk.fn) (codeAny_mono (F.run _ X.stack _ _ ⟨Value.ref (s.heap.objs.size + 1) :: us, []⟩ (Value.ref (s.heap.objs.size + 1) :: us) _ _ E (hr.make C us [])
    (I2.env0.make C us []) hb2 r2 hq) fun r s' hq' => ?_))
  cases r with
  | error e => exact hx pins _ _ e s' I2 hq'
  | ok fl =>
    cases fl with
    | ret u =>
      obtain ⟨v, H', I3, rv, ev, q3⟩ := I2.after hq'
      subst ev
      exact ⟨rv, ⟨V.ref (s.heap.objs.size + 1), H', I3, rfl, q3⟩⟩
    | next => exact False.elim hq'
    | brk => exact False.elim hq'
    | cont => exact False.elim hq'
theorem pe_makeD {C a : Addr} {k : Nat} {fd : FuncData} {ps : List Str} {sp : Sp} {E : L2.St → XK} {x : Str} {p : Pos} {t : TA} (Mk : L2.Mk X.K C a) (F : FnOk X.prog X.w X.K X.mg X.base (L2.CX X.prog X.w) k a fd ps sp) (hr : Room (k + 1) X.A) (hg : glB X.env.scope x = true) (hm : X.mg x = some (.ref C)) (hb : Binds X.K fd ps [])
    (hx : ∀ σ, L2.PassesAt (L2.CX X.prog X.w) X σ (E σ)) (ha : PA X (e :: es) t) (hp : (e :: es).all plE = true) : PE X (.Call (.Name x p) (e :: es) [] pos) (tMakeD C sp E t) := by
  rw [List.all_cons, Bool.and_eq_true] at hp
  refine ⟨fun pins s σ H Q I h => ?_⟩
  refine wpAny_Call_Name_kw (L2.ld_glob I (gl_of hg).1 hm ?_ (gl_of hg).2.1)
  refine PySem.W.callWith_K (h₀ := X.base) I.ok.mod.kin Mk.kp (L2.thn (ha.run pos pins s σ H _ I h) fun us s1 ⟨vs, H1, I1, r, q⟩ => ⟨I1.kIn, ?_⟩) (pl_star hp.1 _ _) (pl_any hp.2)
  exact run_makeD Mk F hr hb (hx σ) I1 r q
theorem n_mk {k : Nat} {x : Str} {p : Pos} (F : Fr A l G N T n X) (tk : Takes X (wxOf A W)) (hl : l.mt k = some nInit) (hc : l.cl 13 = some x) (hg : glB X.env.scope x = true) (ha : PA X (e :: es) (tDs A X B b W fs)) (hp : (e :: es).all plE = true) :
    PE X (.Call (.Name x p) (e :: es) [] pos) (tD A X B b W fun s m => bnd (fs s m) fun ds m1 => bnd (keepN T n b k (.ref m1.length :: ds) (m1 ++ [.ins 13 []])) fun d m2 => match d with
      | .non => some (.ok (.ref m1.length), m2)
      | _ => none) := by
  obtain ⟨C, a, c1, h1, _, h3, fd, ps, h4, h5⟩ := F.mt k nInit hl
  obtain ⟨C', c2, h6⟩ := F.cl 13 x hc
  rw [c1] at c2
  cases c2
  refine pe_imp (pe_makeD (h3 rfl) h4 F.room hg h6 h5 (fun σ => L2.passAt tk σ) ha hp) fun σ H Q q => ?_
  obtain ⟨io, s, m, R, S, q⟩ := q
  refine tG.step (RR := RDs A X.K) R S q fun io1 H1 m1 ds vs x1 R1 S1 r1 h1 => ?_
  intro q dq hq hd hne
  have hq1 : upd H1 dq (.own q) q = none := by rw [L2.upd_ne (fun z => hne z.symm)]; exact hq
  have R2 : Rel A X.K B b io1 (upd H1 dq (.own q)) m1 := R1.laid hd
  have y1 : Ext A io1 io1 H1 (upd H1 dq (.own q)) := ext_new _ hd
  have y2 : Ext A io1 (io1 ++ [q]) (upd H1 dq (.own q)) (upd (upd H1 dq (.own q)) q (.ins C dq [])) := ext_new1 _ hq1
  have y := y1.trans y2
  have R3 : Rel A X.K B b (io1 ++ [q]) (upd (upd H1 dq (.own q)) q (.ins C dq [])) (m1 ++ [.ins 13 []]) := R2.push hq1 ⟨C, dq, [], c1, L2.upd_same, rfl, .nil⟩
  have rq : Rep A X.K (io1 ++ [q]) (io1 ++ [q]).length (upd (upd H1 dq (.own q)) q (.ins C dq [])) (.ref m1.length) (.ref q) := by
    refine .ref ?_ ?_
    · rw [List.length_append, ← R1.len]; exact Nat.lt_succ_self _
    · rw [← R1.len, List.getElem?_append_right (Nat.le_refl _), Nat.sub_self]; rfl
  refine ⟨A.hd, B, b, io1 ++ [q], m1 ++ [.ins 13 []], .ref m1.length :: ds, R3, .cons rq (r1.mono y y.len), .inr ?_⟩
  refine gW.toE ?_
  refine (gW.bnd (RR := RD A X.K) (gW.ext y h1)).mono ?_
  rintro v H4 ⟨io4, m4, d4, x4, R4, r4, h5⟩
  split at h5
  · cases r4
    exact ⟨rfl, gW.ok h5 (Ext.refl _ _) R4 (rq.mono x4 x4.len)⟩
  · exact h5.elim
end
end Bo

set_option Elab.async false
set_option linter.all false
set_option maxRecDepth 100000
/-! BX6: books: a field is set; len, str and == of their own. -/
namespace Bo
open PySem PySem.Spec PyProof.Rows
open L2 (V HO Hp Rd SqL SqT Vals upd Cx PE PT PA PO PI PW PG PGs PTs PS PSs OpR UnR CallR SlR IxR VK XK TE TT TA TO TI TG TGs TS Ends Inv RelV EP Room Sp FnOk Gl Vis Binds WX Takes tOp tCons tNil It Turn PIE Loc BlkOk)
section
variable {A : Ad} {B : Nat → Nat} {b : Nat} {X : Cx} {W : Wi} {io : List Addr} {H : Hp} {σ : L2.St} {l : Lk} {G : List (Str × D)} {N : List Str} {T : Tb} {n : Nat}
variable {f g h : Sg → M → Option (Rs Bo.D × M)} {fs : Sg → M → Option (Rs (List Bo.D) × M)} {e e2 e3 tg : Expr} {es : List Expr} {pos apos : Pos}
theorem pl_swaps (h : plC e3 = true) (t : Option Expr) (ln : Nat) (env : Env) : swapsWith e3 t ln env = pure false := by
  cases e3 <;> first | rfl | cases h
theorem s_setf {x : Str} (F : Fr A l G N T n X) (hx : x ∈ fldN) (hp : plC e3 = true) (ha : PE X e (tD A X B b W f)) (hv : PE X e3 (tD A X B b W g)) :
    PS X (.Assign [.Attribute e x apos] e3 pos) (tSt A X B b W fun s m => eb (g s m) fun d m1 => eb (f s m1) fun y m2 => match y with
      | .ref n => match m2[n]? with
        | some (.ins k fs) => if k == 13 && (decide (b ≤ n) || d.nr) && decide (fs.length < 1000) then some (.nx s, m2.set n (.ins k (putF x d fs))) else none
        | _ => none
      | _ => none) := by
  refine ps_imp (L2.ps_fld ha hv (pl_swaps hp _ _ _)) fun D σ H q => ?_
  obtain ⟨io, s, m, R, S, q⟩ := q
  refine tG.stepS R S q fun io1 H1 m1 d v x1 R1 S1 r1 h1 => tG.stepS R1 S1 h1 fun io2 H2 m2 y w x2 R2 S2 r2 h2 => ?_
  split at h2
  · rename_i n
    split at h2
    · rename_i k fs e1
      split at h2
      · rename_i hz
        rw [Bool.and_eq_true, Bool.and_eq_true, beq_iff_eq, Bool.or_eq_true, decide_eq_true_eq, decide_eq_true_eq] at hz
        obtain ⟨⟨rfl, hz⟩, hl⟩ := hz
        obtain ⟨a, rfl, ha⟩ := r2.refEx R2
        obtain ⟨C, dx, gs, c1, e2, f2⟩ := R2.ob n a _ ha e1
        have BK := F.bk C c1
        refine ⟨a, C, dx, gs, rfl, e2, BK.cls, BK.na x hx, by rw [← putF_len x d f2.1]; exact hl, ?_⟩
        have w : Ext A io2 io2 H2 (upd H2 a (.ins C dx (L2.putF x v gs))) := R2.ext_write (List.mem_of_getElem? ha)
        have r3 := r1.mono x2 x2.len
        have r4 : Reps A X.K io2 (bnds B b io2 n) H2 [d] [v] := reps_bnd (c := 0) (.cons r3 .nil) (by rcases hz with z | z; exact .inl z; exact .inr (by simp [nrs, z]))
        obtain ⟨w', ew, r5⟩ := reps1 r4
        cases ew
        have f3 := flds_putF (x := x) r5 f2
        exact h2 io2 _ σ w (R2.write ha w ⟨C, dx, _, c1, L2.upd_same, f3.mono w (Nat.le_refl _)⟩) (S2.mono w) rfl
      · exact h2.elim
    · exact h2.elim
  · exact h2.elim
/-! ### len, str, == -/
theorem room_in2 {k : Nat} {C : Around} (r : Room (k + 1) C) : Room k C.in1.in1 :=
  ⟨r.hd, by have := r.dp; show C.depth + 3 * k + 5 < _; omega, by have := r.un; show C.units + 1 + 1 + 16 * k + 200 < _; omega⟩
theorem run_fnA {k : Nat} {a : Addr} {fd : FuncData} {ps : List Str} {sp : Sp} {E : XK} {C : Around} {pins : List (Addr × Obj)} {s : Shared} {Q : VK} {us : List Value} {vs : List V} (F : FnOk X.prog X.w X.K X.mg X.base (L2.CX X.prog X.w) k a fd ps sp) (hr : Room k C) (hf : C.frames = X.A.frames) (hb : Binds X.K fd ps [])
    (hx : L2.PassesAt (L2.CX X.prog X.w) X σ E) (I : Inv X pins σ H s) (r : Vals vs us) (h : sp vs H Q E) : wpAny (model X.prog X.w) C (call (.ref a) us) (EP X pins σ Q) X.xe s := by
  have hl : (us ++ ([] : List Value)).length = ps.length := by rw [List.append_nil, ← r.length]; exact F.len _ _ _ _ h
  have hb2 := hb s us I.kIn hl
  rw [List.append_nil] at hb2
  have e0 : L2.Env0 X.prog X.w X.K X.mg X.base C X.stack s H := by
    have e := I.env0
    exact ⟨by rw [hf]; exact e.frames, e.mod, e.bs, e.bsz, e.funs, e.frf, e.hok, e.bare⟩
  refine wpAny_call (codeAny_mono (F.run C X.stack s H ⟨us, []⟩ us vs Q E hr e0 hb2 r h) fun r s' hq => ?_)
  cases r with
  | error e => exact hx pins H s e s' I hq
  | ok fl =>
    cases fl with
    | ret u => exact I.after hq
    | next => exact False.elim hq
    | brk => exact False.elim hq
    | cont => exact False.elim hq
/-- what len, str and == promise -/
def rDun (A : Ad) (K : PySem.W.Frag) (B : Nat → Nat) (b : Nat) (T : Tb) (n k f : Nat) : List V → Hp → VK → Prop := fun vs H Q => ∃ io m ds d m1, Rel A K B b io H m ∧ Reps A K io io.length H ds vs ∧ dunR k m ds (callN T n f ds m) = some (.ok d, m1) ∧ Aft A K B b io H m1 d Q
theorem spF_ok {K : PySem.W.Frag} {m m1 : M} {ds : List Bo.D} {d : Bo.D} {vs : List V} {k : Nat} {Q : VK} {E : XK} (R : Rel A K B b io H m) (r : Reps A K io io.length H ds vs) (e : callN T n k ds m = some (.ok d, m1)) (q : Aft A K B b io H m1 d Q) : spF A K T n k vs H Q E := by
  refine ⟨A.hd, B, b, io, m, ds, R, r, .inl ?_⟩
  rw [e]
  exact q
theorem dunR0 {m m1 : M} {ds : List Bo.D} {r : Option (Rs Bo.D × M)} {d : Bo.D} (e : dunR 0 m ds r = some (.ok d, m1)) : ∃ x i, ds = [x] ∧ r = some (.ok (.int i), m1) ∧ d = .int i ∧ isBk m x = true ∧ 0 ≤ i ∧ i < 2 ^ 63 := by
  unfold dunR at e
  split at e
  case h_1 =>
    split at e
    · rename_i hz
      rw [Bool.and_eq_true, Bool.and_eq_true, decide_eq_true_eq, decide_eq_true_eq] at hz
      cases e
      exact ⟨_, _, rfl, rfl, rfl, hz.1.1, hz.1.2, hz.2⟩
    · cases e
  all_goals first | exact absurd ‹(0 : Nat) = 1› (by decide) | exact absurd ‹(0 : Nat) = 2› (by decide) | cases e
theorem dunR1 {m m1 : M} {ds : List Bo.D} {r : Option (Rs Bo.D × M)} {d : Bo.D} (e : dunR 1 m ds r = some (.ok d, m1)) : ∃ x t, ds = [x] ∧ r = some (.ok (.str t), m1) ∧ d = .str t ∧ isBk m x = true := by
  unfold dunR at e
  split at e
  case h_2 =>
    split at e
    · rename_i hz
      cases e
      exact ⟨_, _, rfl, rfl, rfl, hz⟩
    · cases e
  all_goals first | exact absurd ‹(1 : Nat) = 0› (by decide) | exact absurd ‹(1 : Nat) = 2› (by decide) | cases e
theorem dunR2 {m m1 : M} {ds : List Bo.D} {r : Option (Rs Bo.D × M)} {d : Bo.D} (e : dunR 2 m ds r = some (.ok d, m1)) : ∃ x y t, ds = [x, y] ∧ r = some (.ok (.bl t), m1) ∧ d = .bl t ∧ isBk m x = true ∧ (isBk m y = true ∨ ∃ z, y = .str z) := by
  unfold dunR at e
  split at e
  case h_3 =>
    split at e
    · split at e
      · rename_i hz
        rw [Bool.and_eq_true] at hz
        cases e
        exact ⟨_, _, _, rfl, rfl, rfl, hz.1, .inr ⟨_, rfl⟩⟩
      · cases e
    · split at e
      · rename_i hz
        rw [Bool.and_eq_true, Bool.or_false] at hz
        cases e
        exact ⟨_, _, _, rfl, rfl, rfl, hz.1, .inl hz.2⟩
      · cases e
  all_goals first | exact absurd ‹(2 : Nat) = 0› (by decide) | exact absurd ‹(2 : Nat) = 1› (by decide) | cases e
theorem cr_dlen {k : Nat} (F : Fr A l G N T n X) (tk : Takes X (wxOf A W)) (hl : l.mt k = some "__len__") : CallR X (.builtin "len") (rDun A X.K B b T n 0 k) := by
  intro pins s σ H xs us Q I r h
  obtain ⟨io, m, ds, d, m1, R, r1, e, q⟩ := h
  obtain ⟨C, a, c1, h1, h2, _, fd, ps, h4, h5⟩ := F.mt k _ hl
  obtain ⟨x, i, rfl, eq, rfl, hk, i0, i1⟩ := dunR0 e
  obtain ⟨v, rfl, r2⟩ := reps1 r1
  obtain ⟨j, a', C', dx, fs', gs, rfl, rfl, e1, e2, e3, e4, e5, e6⟩ := bk_ex R r2 hk
  rw [c1] at e3
  cases e3
  obtain ⟨u, rfl, ru⟩ := L2.vals1 r
  obtain rfl : u = Value.ref a' := ru
  obtain ⟨mA, O, _⟩ := L2.ins_get I.hok e4
  obtain ⟨od, J, _⟩ := O.look
  obtain ⟨mm, hF⟩ := I.fr
  refine PySem.W.len_K hF I.ok.mod.kin J h2.at_ h2.fn ?_
  refine wpAny_mono (run_fnA (σ := σ) (sp := spF A X.K T n k) (E := L2.WE (wxOf A W) σ) (Q := fun v H' => v = .int i ∧ Q v H') (vs := [.ref a']) h4 F.room.in1 rfl h5 (L2.passAt tk σ) I r (spF_ok R r1 eq fun io' H' v y R' r' => ?_)) (fun u s' z => ?_) fun _ _ y => y
  · cases r'
    exact ⟨rfl, q io' H' _ y R' (.int i)⟩
  · obtain ⟨v, H', I', rv, rfl, q'⟩ := z
    obtain ⟨t, rfl⟩ := (show ∃ t, u = Value.int i t from rv)
    exact ⟨⟨i0, i1⟩, .int i, H', I'.tok _, ⟨_, rfl⟩, q'⟩
theorem cr_dstr {k : Nat} (F : Fr A l G N T n X) (tk : Takes X (wxOf A W)) (hl : l.mt k = some "__str__") : CallR X (.type "str") (rDun A X.K B b T n 1 k) := by
  intro pins s σ H xs us Q I r h
  obtain ⟨io, m, ds, d, m1, R, r1, e, q⟩ := h
  obtain ⟨C, a, c1, h1, h2, _, fd, ps, h4, h5⟩ := F.mt k _ hl
  obtain ⟨x, t, rfl, eq, rfl, hk⟩ := dunR1 e
  obtain ⟨v, rfl, r2⟩ := reps1 r1
  obtain ⟨j, a', C', dx, fs', gs, rfl, rfl, e1, e2, e3, e4, e5, e6⟩ := bk_ex R r2 hk
  rw [c1] at e3
  cases e3
  obtain ⟨u, rfl, ru⟩ := L2.vals1 r
  obtain rfl : u = Value.ref a' := ru
  obtain ⟨mA, O, _⟩ := L2.ins_get I.hok e4
  obtain ⟨od, J, _⟩ := O.look
  refine PySem.W.kso_call (by have := F.room.un; show X.A.units + 1 + 1 < cLine; omega) I.kIn J h2.at_ h2.fn ?_
  refine wpAny_mono (run_fnA (σ := σ) (sp := spF A X.K T n k) (E := L2.WE (wxOf A W) σ) (Q := fun v H' => v = .str t ∧ Q v H') (vs := [.ref a']) h4 (room_in2 F.room) rfl h5 (L2.passAt tk σ) I r (spF_ok R r1 eq fun io' H' v y R' r' => ?_)) (fun u s' z => ?_) fun _ _ y => y
  · cases r'
    exact ⟨rfl, q io' H' _ y R' (.str t)⟩
  · obtain ⟨v, H', I', rv, rfl, q'⟩ := z
    obtain ⟨t', rfl⟩ := (show ∃ t', u = Value.str t t' from rv)
    exact ⟨.str t, H', I', ⟨_, rfl⟩, q'⟩
def rDun2 (A : Ad) (K : PySem.W.Frag) (B : Nat → Nat) (b : Nat) (T : Tb) (n f : Nat) : L2.R2 := fun x y H Q => rDun A K B b T n 2 f [x, y] H Q
theorem or_deq {k : Nat} (F : Fr A l G N T n X) (tk : Takes X (wxOf A W)) (hl : l.mt k = some "__eq__") : OpR X (compareOp .Eq) (rDun2 A X.K B b T n k) := by
  intro pins s σ H x y v u Q I rx ry h
  obtain ⟨io, m, ds, d, m1, R, r1, e, q⟩ := h
  obtain ⟨C, a, c1, h1, h2, _, fd, ps, h4, h5⟩ := F.mt k _ hl
  have BK := F.bk C c1
  obtain ⟨dx, dy, t, rfl, eq, rfl, hk, hy⟩ := dunR2 e
  cases r1 with
  | cons r2 r3 =>
    cases r3 with
    | cons r3 r4 =>
      cases r4
      obtain ⟨j, a', C', dx', fs', gs, rfl, rfl, e1, e2, e3, e4, e5, e6⟩ := bk_ex R r2 hk
      rw [c1] at e3
      cases e3
      obtain rfl : v = Value.ref a' := rx
      obtain ⟨mA, O, _⟩ := L2.ins_get I.hok e4
      obtain ⟨od, J, _⟩ := O.look
      obtain ⟨mm, hF⟩ := I.fr
      have go : ∀ (tb : Value), PySem.W.Looks (model X.prog X.w) s.heap (typeOf u) tb → PySem.W.notFirst X.K C tb = true → wpAny (model X.prog X.w) X.A (richCompare .Eq (.ref a') u) (EP X pins σ Q) X.xe s := fun tb hb hn => by
        refine PySem.W.cmp_K (op := .Eq) F.room.units0 hF I.ok.mod.kin J hb hn h2.at_ h2.fn ?_
        refine wpAny_mono (run_fnA (σ := σ) (sp := spF A X.K T n k) (E := L2.WE (wxOf A W) σ) (Q := fun v H' => v = .bl t ∧ Q v H') (vs := [.ref a', y]) h4 F.rm rfl h5 (L2.passAt tk σ) I (.cons rfl (.cons ry .nil)) (spF_ok R (.cons r2 (.cons r3 .nil)) eq fun io' H' v y R' r' => ?_)) (fun u s' z => ?_) fun _ _ y => y
        · cases r'
          exact ⟨rfl, q io' H' _ y R' (.bl t)⟩
        · obtain ⟨v, H', I', rv, rfl, q'⟩ := z
          cases (show u = Value.bool t from rv)
          exact ⟨.bl t, H', I', rfl, q'⟩
      show wpAny (model X.prog X.w) X.A (richCompare .Eq (.ref a') u) (EP X pins σ Q) X.xe s
      rcases hy with hy | ⟨z, rfl⟩
      · obtain ⟨j2, a2, C2, dx2, fs2, gs2, rfl, rfl, g1, g2, g3, g4, g5, g6⟩ := bk_ex R r3 hy
        rw [c1] at g3
        cases g3
        obtain rfl : u = Value.ref a2 := ry
        obtain ⟨mB, O2, _⟩ := L2.ins_get I.hok g4
        obtain ⟨od2, J2, _⟩ := O2.look
        exact go (.ref C) J2.type (by simp [PySem.W.notFirst])
      · cases r3
        obtain ⟨t', rfl⟩ := (show ∃ t', u = Value.str z t' from ry)
        exact go (.type "str") (PySem.W.Looks.of_pure rfl) (by unfold PySem.W.notFirst; rw [BK.sb]; rfl)
end
end Bo

set_option Elab.async false
set_option linter.all false
set_option maxRecDepth 100000
/-! BX7: len, str and == of books, as expressions. -/
namespace Bo
open PySem PySem.Spec PyProof.Rows
open L2 (V HO Hp Rd SqL SqT Vals upd Cx PE PT PA PO PI PW PG PGs PTs PS PSs OpR UnR CallR SlR IxR VK XK TE TT TA TO TI TG TGs TS Ends Inv RelV EP Room Sp FnOk Gl Vis Binds WX Takes tOp tCons tNil It Turn PIE Loc BlkOk)
section
variable {A : Ad} {B : Nat → Nat} {b : Nat} {X : Cx} {W : Wi} {io : List Addr} {H : Hp} {σ : L2.St} {l : Lk} {G : List (Str × D)} {N : List Str} {T : Tb} {n : Nat}
variable {f g h : Sg → M → Option (Rs Bo.D × M)} {fs : Sg → M → Option (Rs (List Bo.D) × M)} {e e2 e3 tg : Expr} {es : List Expr} {pos apos : Pos}
theorem dunR_ex {k : Nat} {m m1 : M} {ds : List Bo.D} {r : Option (Rs Bo.D × M)} {c : Nat} (e : dunR k m ds r = some (.ex c, m1)) : False := by
  unfold dunR at e
  split at e
  · split at e <;> cases e
  · split at e <;> cases e
  · split at e <;> (split at e <;> cases e)
  · cases e
theorem dun_gW {k : Nat} {K : PySem.W.Frag} {m : M} {ds : List Bo.D} {r : Option (Rs Bo.D × M)} {Q : VK} (h : gW A K B b (RD A K) W io σ H (dunR k m ds r) Q) : ∃ d m1, dunR k m ds r = some (.ok d, m1) ∧ Aft A K B b io H m1 d Q := by
  cases e : dunR k m ds r with
  | none => rw [e] at h; exact h.elim
  | some p =>
    obtain ⟨q, m1⟩ := p
    rw [e] at h
    cases q with
    | ok d => exact ⟨d, m1, rfl, h⟩
    | ex c => exact (dunR_ex e).elim
theorem n_dunB {k j : Nat} {id : String} {x : Str} {p : Pos} (hc : CallR X (.builtin id) (rDun A X.K B b T n k j)) (hg : glB X.env.scope x = true) (hm : X.mg x = none) (hv : bootBuiltins x = some (.builtin id)) (ha : PA X (e :: es) (tDs A X B b W fs)) (hp : (e :: es).all plE = true) :
    PE X (.Call (.Name x p) (e :: es) [] pos) (tD A X B b W fun s m => bnd (fs s m) fun ds m1 => dunR k m1 ds (callN T n j ds m1)) := by
  rw [List.all_cons, Bool.and_eq_true] at hp
  refine pe_imp (L2.pe_callB hc (gl_of hg).1 hm hv ha (gl_of hg).2.2 (gl_of hg).2.1 (pl_star hp.1 _ _) (pl_any hp.2)) fun σ H Q q => ?_
  obtain ⟨io, s, m, R, S, q⟩ := q
  refine tG.step (RR := RDs A X.K) R S q fun io1 H1 m1 d v x1 R1 S1 r1 h1 => ?_
  obtain ⟨r, m2, e, q⟩ := dun_gW h1
  exact ⟨io1, m1, d, r, m2, R1, r1, e, q⟩
theorem n_dunT {k j : Nat} {ty : String} {x : Str} {p : Pos} (hc : CallR X (.type ty) (rDun A X.K B b T n k j)) (hg : glB X.env.scope x = true) (hm : X.mg x = none) (hv : bootBuiltins x = some (.type ty)) (ha : PA X (e :: es) (tDs A X B b W fs)) (hp : (e :: es).all plE = true) :
    PE X (.Call (.Name x p) (e :: es) [] pos) (tD A X B b W fun s m => bnd (fs s m) fun ds m1 => dunR k m1 ds (callN T n j ds m1)) := by
  rw [List.all_cons, Bool.and_eq_true] at hp
  refine pe_imp (L2.pe_callTy hc (gl_of hg).1 hm hv ha (gl_of hg).2.2 (gl_of hg).2.1 (pl_star hp.1 _ _) (pl_any hp.2)) fun σ H Q q => ?_
  obtain ⟨io, s, m, R, S, q⟩ := q
  refine tG.step (RR := RDs A X.K) R S q fun io1 H1 m1 d v x1 R1 S1 r1 h1 => ?_
  obtain ⟨r, m2, e, q⟩ := dun_gW h1
  exact ⟨io1, m1, d, r, m2, R1, r1, e, q⟩
theorem n_dunE {j : Nat} (F : Fr A l G N T n X) (tk : Takes X (wxOf A W)) (hl : l.mt j = some "__eq__") (ha : PE X e (tD A X B b W f)) (hb : PE X e2 (tD A X B b W g)) :
    PE X (.Compare e [.Eq] [e2] pos) (tD A X B b W fun s m => bnd (f s m) fun x m1 => bnd (g s m1) fun y m2 => dunR 2 m2 [x, y] (callN T n j [x, y] m2)) := by
  refine pe_imp (L2.pe_cmpR (or_deq (B := B) (b := b) F tk hl) ha hb (L2.nomark _)) fun σ H Q q => ?_
  obtain ⟨io, s, m, R, S, q⟩ := q
  refine tG.step (RR := RD A X.K) R S q fun io1 H1 m1 d v x1 R1 S1 r1 h1 => tG.step (RR := RD A X.K) R1 S1 h1 fun io2 H2 m2 d2 v2 x2 R2 S2 r2 h2 => ?_
  obtain ⟨r, m3, e, q⟩ := dun_gW h2
  exact ⟨io2, m2, [d, d2], r, m3, R2, .cons (r1.mono x2 x2.len) (.cons r2 .nil), e, q⟩
end
end Bo

set_option Elab.async false
set_option linter.all false
set_option maxRecDepth 100000
/-! BS1: sets whose elements are tuples of one kind (HeapKind), whatever their texts hash to: what the model asks of an element; the search. -/
namespace Bo
open PySem PySem.Spec PyProof.Rows
open L2 (TabOk MaskOk way nth adv runAt)
section
variable {P : Program} {w : World}
/-! ### nested keys: of no class statement; hashed by value or not -/
mutual
theorem key_ofA : ∀ (k : NestedKey) (v : Value) (n : Nat) (s : Shared), NestedIs s.heap k v → k.depth ≤ n → ∀ {A : Around} {E : Value → Shared → Prop} {Q : Bool → Shared → Prop}, Q false s → wpAny (model P w) A (ofAClassStatement n v) Q E s
  | .none, _, n, s, x, _, A, E, Q, q => by cases x; cases n <;> exact wpAny_pure q
  | .num i, _, n, s, x, _, A, E, Q, q => by cases x <;> cases n <;> exact wpAny_pure q
  | .text y, _, n, s, x, _, A, E, Q, q => by cases x; cases n <;> exact wpAny_pure q
  | .tup ks, _, n, s, x, hn, A, E, Q, q => by
    cases x with
    | @tup a o vs m _ g1 g2 g3 g4 =>
      simp only [NestedKey.depth] at hn
      cases n with
      | zero => omega
      | succ n =>
        unfold ofAClassStatement
        refine wpAny_bind (wpAny_typeOf (T := "tuple") ⟨o, g1, g2⟩ ?_)
        dsimp only
        simp only [show (("tuple" : String) == "tuple") = true from by decide, if_true, Bool.not_true, Bool.false_eq_true, if_false]
        try refine wpAny_bind (wpAny_pure ?_)
        try simp only [Bool.not_true, Bool.false_eq_true, if_false]
        show wpAny _ _ (seqItems? (.ref a) >>= _) _ _ s
        refine wpAny_bind (wpAny_seqItems g1 g3 ?_)
        dsimp only
        refine wpAny_bind ?_
        show wpAny _ _ (forIn vs _ _) _ _ s
        rw [← Array.forIn_toList]
        have each := keys_ofA ks vs.toList n s g4 (by omega)
        refine wpAny_forIn_list _ (fun rest r s' => (r.1 = none ∧ s' = s) ∧ ∀ u ∈ rest, u ∈ vs.toList) _ ?_ ?_ _ _ ⟨⟨rfl, rfl⟩, fun u z => z⟩
        · rintro u rest r s' ⟨⟨hr, rfl⟩, sub⟩
          refine wpAny_bind (each u (sub u List.mem_cons_self) ?_)
          simp only [Bool.false_eq_true, if_false]
          exact wpAny_pure ⟨⟨rfl, rfl⟩, fun z hz => sub z (List.mem_cons_of_mem _ hz)⟩
        · rintro ⟨r1, r2⟩ s' ⟨⟨hr, rfl⟩, _⟩
          simp only at hr
          subst hr
          exact wpAny_pure q
theorem keys_ofA : ∀ (ks : List NestedKey) (vs : List Value) (n : Nat) (s : Shared), NestedAll s.heap ks vs → NestedKey.depthAll ks ≤ n → ∀ u, u ∈ vs → ∀ {A : Around} {E : Value → Shared → Prop} {Q : Bool → Shared → Prop}, Q false s → wpAny (model P w) A (ofAClassStatement n u) Q E s
  | [], _, n, s, x, _, u, hu, A, E, Q, q => by cases x; cases hu
  | k :: ks, _, n, s, x, hn, u, hu, A, E, Q, q => by
    cases x with
    | cons x1 x2 =>
      simp only [NestedKey.depthAll] at hn
      rcases List.mem_cons.mp hu with e | hu
      · rw [e]; exact key_ofA k _ n s x1 (by omega) q
      · exact keys_ofA ks _ n s x2 (by omega) u hu q
end
mutual
/-- whether a hash is by value is told, one way or the other -/
theorem key_hb : ∀ (k : NestedKey) (v : Value) (n : Nat) (s : Shared), NestedIs s.heap k v → ∀ {A : Around} {E : Value → Shared → Prop} {Q : Bool → Shared → Prop}, (∀ c, Q c s) → wpAny (model P w) A (hashByValue n v) Q E s
  | .none, _, n, s, x, A, E, Q, q => by cases x; cases n <;> exact wpAny_pure (q _)
  | .num i, _, n, s, x, A, E, Q, q => by cases x <;> cases n <;> exact wpAny_pure (q _)
  | .text y, _, n, s, x, A, E, Q, q => by cases x; cases n <;> exact wpAny_pure (q _)
  | .tup ks, _, n, s, x, A, E, Q, q => by
    cases x with
    | @tup a o vs m _ g1 g2 g3 g4 =>
      cases n with
      | zero => exact wpAny_pure (q _)
      | succ n =>
        unfold hashByValue
        refine wpAny_bind (wpAny_specialOf (T := "tuple") ⟨o, g1, g2⟩ F.slot_tuple_hash.lookup ?_)
        show wpAny _ _ (seqItems? (.ref a) >>= _) _ _ s
        refine wpAny_bind (wpAny_seqItems g1 g3 ?_)
        refine wpAny_bind ?_
        show wpAny _ _ (forIn vs _ _) _ _ s
        rw [← Array.forIn_toList]
        have each := keys_hb ks vs.toList n s g4
        refine wpAny_forIn_list _ (fun rest r s' => ((r.1 = none ∨ ∃ c, r.1 = some c) ∧ s' = s) ∧ ∀ u ∈ rest, u ∈ vs.toList) _ ?_ ?_ _ _ ⟨⟨.inl rfl, rfl⟩, fun u z => z⟩
        · rintro u rest r s' ⟨⟨hr, rfl⟩, sub⟩
          refine wpAny_bind (each u (sub u List.mem_cons_self) fun c => ?_)
          cases c
          · simp only [Bool.not_false, if_true]
            exact wpAny_pure (wpAny_pure (q _))
          · simp only [Bool.not_true, Bool.false_eq_true, if_false]
            exact wpAny_pure ⟨⟨.inl rfl, rfl⟩, fun z hz => sub z (List.mem_cons_of_mem _ hz)⟩
        · rintro ⟨r1, r2⟩ s' ⟨⟨hr, rfl⟩, _⟩
          rcases r1 with _ | c
          · exact wpAny_pure (q _)
          · exact wpAny_pure (q _)
theorem keys_hb : ∀ (ks : List NestedKey) (vs : List Value) (n : Nat) (s : Shared), NestedAll s.heap ks vs → ∀ u, u ∈ vs → ∀ {A : Around} {E : Value → Shared → Prop} {Q : Bool → Shared → Prop}, (∀ c, Q c s) → wpAny (model P w) A (hashByValue n u) Q E s
  | [], _, n, s, x, u, hu, A, E, Q, q => by cases x; cases hu
  | k :: ks, _, n, s, x, u, hu, A, E, Q, q => by
    cases x with
    | cons x1 x2 =>
      rcases List.mem_cons.mp hu with e | hu
      · rw [e]; exact key_hb k _ n s x1 q
      · exact keys_hb ks _ n s x2 u hu q
end
/-! ### the kind of the elements -/
structure SetKind {K : Type} [DecidableEq K] (knd : HeapKind P w K) : Prop where
  st : knd.Stays
  ofA : ∀ {A : Around} {E : Value → Shared → Prop} {s : Shared} {k : K} {a : Addr} {Q : Bool → Shared → Prop}, knd.is s.heap k a → Q false s → wpAny (model P w) A (ofAClassStatement 8 (.ref a)) Q E s
  hb : ∀ {A : Around} {E : Value → Shared → Prop} {s : Shared} {k : K} {a : Addr} {Q : Bool → Shared → Prop}, knd.is s.heap k a → (∀ c, Q c s) → wpAny (model P w) A (hashByValue 8 (.ref a)) Q E s
theorem nested_set : SetKind (nestedKind P w) := ⟨nestedKind_stays, fun x q => key_ofA _ _ _ _ x.1 x.2 q, fun x q => key_hb _ _ _ _ x.1 q⟩
variable {K : Type} [DecidableEq K] {knd : HeapKind P w K} {A : Around} {E : Value → Shared → Prop} {s : Shared}
/-- nothing is shown by a search among such -/
theorem SetKind.unseen (S : SetKind knd) {k : K} {x : Addr} {Q : Bool → Shared → Prop} (hx : knd.is s.heap k x) {ys : List Value} (hy : ∀ y ∈ ys, ∃ j c, y = Value.ref c ∧ knd.is s.heap j c) (q : Q false s) :
    wpAny (model P w) A (searchCouldBeSeen (.ref x) ys) Q E s := by
  unfold searchCouldBeSeen
  refine wpAny_bind (wpAny_forIn_list _ (fun rest r s' => (r.1 = none ∧ s' = s) ∧ ∀ y ∈ rest, ∃ j c, y = Value.ref c ∧ knd.is s.heap j c) _ ?_ ?_ _ _ ⟨⟨rfl, rfl⟩, hy⟩)
  · rintro v rest r s' ⟨⟨hr, rfl⟩, all⟩
    obtain ⟨j, c, rfl, hc⟩ := all v List.mem_cons_self
    have more : ∀ y ∈ rest, ∃ j c, y = Value.ref c ∧ knd.is s'.heap j c := fun u z => all u (List.mem_cons_of_mem _ z)
    dsimp only
    by_cases very : (x == c || (carriedByValue (.ref x) && carriedByValue (.ref c))) = true
    · exact L2.wp_if_pos very (wpAny_pure ⟨⟨rfl, rfl⟩, more⟩)
    · refine L2.wp_if_neg very (wpAny_bind (knd.quiet hx ?_))
      simp only [Bool.not_true, Bool.false_eq_true, if_false]
      refine wpAny_bind (knd.quiet hc ?_)
      simp only [Bool.not_true, Bool.false_eq_true, if_false]
      refine wpAny_bind (S.ofA hx ?_)
      simp only [Bool.false_eq_true, if_false]
      refine wpAny_bind (S.ofA hc ?_)
      simp only [Bool.false_eq_true, if_false]
      exact wpAny_pure ⟨⟨rfl, rfl⟩, more⟩
  · rintro ⟨r1, r2⟩ s' ⟨⟨hr, rfl⟩, _⟩
    simp only at hr
    subst hr
    exact wpAny_pure q
/-! ### the set at an address -/
/-- its rows: hash and element -/
def rws (knd : HeapKind P w K) (L : List (K × Addr)) : List (Int × Value) := L.map fun p => (knd.hash p.1, Value.ref p.2)
structure Sx (knd : HeapKind P w K) (h : Heap) (a : Addr) (L : List (K × Addr)) (es : Array (Int × Value)) (ep : Nat) (t : SetTable) : Prop where
  obj : ∃ o, h.get? a = some o ∧ o.ExactSet ∧ o.data = .set es ep t
  row : es.toList = rws knd L
  tab : TabOk t (L.map fun p => knd.hash p.1)
  dis : (L.map Prod.fst).Nodup
  own : ∀ p ∈ L, knd.is h p.1 p.2
  lay : w.params.followText "set-order" = true ∨ t.led = true
  low : L.length * 5 < t.mask * 3
  cnt : L.length < 64
variable {a : Addr} {L : List (K × Addr)} {es : Array (Int × Value)} {ep : Nat} {t : SetTable}
theorem rws_len {L : List (K × Addr)} {es : Array (Int × Value)} (h : es.toList = rws knd L) : es.size = L.length := by
  rw [← Array.length_toList, h, rws, List.length_map]
theorem rws_at {L : List (K × Addr)} {es : Array (Int × Value)} (h : es.toList = rws knd L) {i : Nat} {p : K × Addr} (e : L[i]? = some p) : es[i]? = some (knd.hash p.1, Value.ref p.2) := by
  rw [← Array.getElem?_toList, h, rws, List.getElem?_map, e, Option.map_some]
theorem Sx.fit (S : Sx knd s.heap a L es ep t) : t.fits es.size = true := by
  have n1 : t.place.size = L.length := by rw [S.tab.sz, List.length_map]
  have n2 := S.low
  unfold SetTable.fits SetTable.fill
  rw [S.tab.dm, rws_len S.row, n1]
  simp
  omega
/-! ### the search -/
/-- the c-th stand of a search for the hash h -/
abbrev stand (m : Nat) (h : Int) (c : Nat) : SetTable.Probe := nth m (runAt m (SetTable.bits h % (m + 1)) (SetTable.bits h)) c
theorem stand_add (m : Nat) (h : Int) (c d : Nat) : nth m (stand m h c) d = stand m h (c + d) := (L2.nth_add m c _ d).symm
theorem stand_j (m : Nat) (h : Int) (c : Nat) : (stand m h c).j = way m h c := rfl
theorem stand_dm (m : Nat) (h : Int) (c : Nat) : (stand m h c).dummy = none := by
  induction c with
  | zero => rfl
  | succ c ih =>
    rw [show stand m h (c + 1) = adv m (stand m h c) from L2.nth_succ m _ c]
    unfold adv
    split <;> exact ih
/-- what the table answers to one who looks on from the c-th stand: the next of equal hash, or the empty slot -/
theorem look {t : SetTable} {hs : List Int} (T : TabOk t hs) (ha : Nat → Int) (h : Int) {n c : Nat} (n1 : n < 10 * SetTable.turns t.mask) (n2 : way t.mask h n ∉ t.place.toList) (n3 : ∀ d, d < n → way t.mask h d ∈ t.place.toList) (hc : c ≤ n) :
    (∃ d i, c ≤ d ∧ d < n ∧ t.place.toList[i]? = some (way t.mask h d) ∧ (∀ d' i', c ≤ d' → d' < d → t.place.toList[i']? = some (way t.mask h d') → ha i' ≠ h) ∧ t.probe ha h (stand t.mask h c) = some (.candidate (way t.mask h d) i (stand t.mask h (d + 1)))) ∨
    ((∀ d' i', c ≤ d' → d' < n → t.place.toList[i']? = some (way t.mask h d') → ha i' ≠ h) ∧ t.probe ha h (stand t.mask h c) = some (.empty (way t.mask h n) none)) := by
  have E : ∀ q, (nth t.mask (stand t.mask h c) q).j = way t.mask h (c + q) := fun q => by rw [stand_add]
  have back : ∀ (r : Nat), (∀ k' i', k' < r → t.place.toList[i']? = some (nth t.mask (stand t.mask h c) k').j → ha i' ≠ h) → ∀ d' i', c ≤ d' → d' < c + r → t.place.toList[i']? = some (way t.mask h d') → ha i' ≠ h := fun r z d' i' l1 l2 e =>
    z (d' - c) i' (by omega) (by rw [E, show c + (d' - c) = d' from by omega]; exact e)
  rcases L2.go_spec t T.ris T.dm ha h (10 * SetTable.turns t.mask) (n - c) (stand t.mask h c) (stand_dm ..) (by omega) (fun q hq => by rw [E]; exact n3 _ (by omega)) (by rw [E, show c + (n - c) = n from by omega]; exact n2) with ⟨q, i, q1, q2, _, q4, q5⟩ | ⟨q4, q5⟩
  · refine .inl ⟨c + q, i, by omega, by omega, by rw [← E]; exact q2, back q q4, ?_⟩
    rw [← E, show c + q + 1 = c + (q + 1) from by omega, ← stand_add]
    exact q5
  · refine .inr ⟨fun d' i' l1 l2 => back (n - c) q4 d' i' l1 (by omega), ?_⟩
    rw [show way t.mask h n = (nth t.mask (stand t.mask h c) (n - c)).j from by rw [E, show c + (n - c) = n from by omega]]
    exact q5
theorem Sx.search_from (S : Sx knd s.heap a L es ep t) (KS : SetKind knd) {x : Addr} {k : K} (hx : knd.is s.heap k x) (hu : knd.room A) {n : Nat} (n1 : n < 10 * SetTable.turns t.mask)
    (n2 : way t.mask (knd.hash k) n ∉ t.place.toList) (n3 : ∀ d, d < n → way t.mask (knd.hash k) d ∈ t.place.toList) {Q : SetFound → Shared → Prop} (hin : k ∈ L.map Prod.fst → Q (.there none) s) (hout : k ∉ L.map Prod.fst → Q (.free (way t.mask (knd.hash k) n) false) s) :
    ∀ (f c : Nat) (o : Option SetTable.Probe), o.getD (t.probeStart (knd.hash k)) = stand t.mask (knd.hash k) c → c ≤ n → n - c < f →
      (∀ (i : Nat) p, L[i]? = some p → p.1 = k → ∃ d, c ≤ d ∧ d < n ∧ t.place.toList[i]? = some (way t.mask (knd.hash k) d)) → wpAny (model P w) A (setSearchFrom a (.ref x) (knd.hash k) true f o) Q E s
  | 0, c, o, _, _, hf, _ => absurd hf (Nat.not_lt_zero _)
  | f + 1, c, o, ho, hc, hf, ahead => by
    obtain ⟨ob, o1, o2, o3⟩ := S.obj
    have state : ∀ {R : Array (Int × Value) × Nat × SetTable → Shared → Prop}, R (es, ep, t) s → wpAny (model P w) A (setState a) R E s := fun r => wpAny_setState_of o1 o3 S.fit r
    have odd : ¬ t.gaveWay = true := by
      unfold SetTable.gaveWay
      rw [L2.mask_odd S.tab.mok]
      decide
    have hAt : ∀ (i : Nat) p, L[i]? = some p → (es[i]?.map (·.1)).getD 0 = knd.hash p.1 := fun i p e => by
      rw [rws_at S.row e]
      rfl
    rw [L2.setSearchFrom_succ]
    refine wpAny_bind (state ?_)
    dsimp only
    refine L2.wp_if_neg odd ?_
    try refine wpAny_bind (wpAny_pure ?_)
    rw [ho]
    rcases look S.tab (fun i => (es[i]?.map (·.1)).getD 0) (knd.hash k) n1 n2 n3 hc with ⟨d, i, d1, d2, d3, d4, d5⟩ | ⟨d4, d5⟩
    · rw [d5]
      dsimp only
      obtain ⟨p, hp⟩ : ∃ p, L[i]? = some p := by
        have l1 := (List.getElem?_eq_some_iff.mp d3).1
        have l2 := S.tab.sz
        rw [Array.length_toList] at l1
        rw [List.length_map] at l2
        exact ⟨_, List.getElem?_eq_getElem (by omega)⟩
      have pm := List.mem_of_getElem? hp
      have rest : wpAny (model P w) A (L2.searchRest a (.ref x) (knd.hash k) true f es t (way t.mask (knd.hash k) d) i (stand t.mask (knd.hash k) (d + 1))) Q E s := by
        unfold L2.searchRest
        rw [rws_at S.row hp]
        dsimp only
        refine wpAny_bind (wpAny_holding (knd.eqBool hu (S.own p pm) hx (wpAny_bind (state ?_))))
        dsimp only
        by_cases same : p.1 = k
        · exact L2.wp_if_pos (by simp [same]) (wpAny_pure (hin (List.mem_map.mpr ⟨p, pm, same⟩)))
        · refine L2.wp_if_neg (by simp [same]) ?_
          try refine wpAny_bind (wpAny_pure ?_)
          have live : t.slot (way t.mask (knd.hash k) d) = .live i := L2.slot_live S.tab.ris d3
          rw [L2.sameMem]
          dsimp only
          simp only [if_true, live, rws_at S.row hp]
          refine wpAny_bind (wpAny_isSame_ref_self (wpAny_bind (wpAny_pure ?_)))
          simp only [if_true]
          refine L2.wp_if_neg (by simp [same]) (Sx.search_from S KS hx hu n1 n2 n3 hin hout f (d + 1) _ rfl (by omega) (by omega) fun j r hj hr => ?_)
          obtain ⟨d', b1, b2, b3⟩ := ahead j r hj hr
          refine ⟨d', ?_, b2, b3⟩
          rcases Nat.lt_trichotomy d' d with z | z | z
          · exact absurd ((hAt j r hj).trans (congrArg knd.hash hr)) (d4 d' j b1 z b3)
          · exfalso
            rw [z] at b3
            have live' := L2.slot_live S.tab.ris b3
            rw [live] at live'
            injection live' with ij
            rw [← ij, hp] at hj
            exact same (by rw [Option.some.inj hj]; exact hr)
          · exact z
      by_cases led : t.led = true
      · refine L2.wp_if_neg (by simp [led]) ?_
        try refine wpAny_bind (wpAny_pure ?_)
        exact rest
      · refine L2.wp_if_pos (by simp [led]) (wpAny_bind (KS.unseen hx (fun y hy => ?_) ?_))
        · obtain ⟨e, he, rfl⟩ := List.mem_map.mp hy
          have he' : e ∈ es.toList := by
            have : e ∈ es ∧ e.1 = knd.hash k := by simpa using he
            simpa using this.1
          rw [S.row] at he'
          obtain ⟨r, hr, rfl⟩ := List.mem_map.mp he'
          exact ⟨r.1, r.2, rfl, S.own r hr⟩
        · refine L2.wp_if_neg (by decide) ?_
          try refine wpAny_bind (wpAny_pure ?_)
          exact rest
    · rw [d5]
      dsimp only
      refine wpAny_pure (hout fun hm => ?_)
      obtain ⟨p, hp, hk⟩ := List.mem_map.mp hm
      obtain ⟨i, hi⟩ := List.getElem?_of_mem hp
      obtain ⟨d, b1, b2, b3⟩ := ahead i p hi hk
      exact d4 d i b1 b2 b3 ((hAt i p hi).trans (congrArg knd.hash hk))
theorem Sx.search (S : Sx knd s.heap a L es ep t) (KS : SetKind knd) {x : Addr} {k : K} (hx : knd.is s.heap k x) (hu : knd.room A) {Q : SetFound → Shared → Prop} (hin : k ∈ L.map Prod.fst → Q (.there none) s)
    (hout : ∀ n, k ∉ L.map Prod.fst → way t.mask (knd.hash k) n ∉ t.place.toList → (∀ d, d < n → way t.mask (knd.hash k) d ∈ t.place.toList) → Q (.free (way t.mask (knd.hash k) n) false) s) :
    wpAny (model P w) A (setSearch a (.ref x) (knd.hash k) true) Q E s := by
  have low := S.low
  obtain ⟨n, n1, n2, n3⟩ := S.tab.first (by rw [List.length_map]; omega) (knd.hash k)
  have few : n < 100000 := by
    have : 10 * SetTable.turns t.mask ≤ 1420 := by
      unfold SetTable.turns
      rcases S.tab.mok with e | e | e <;> omega
    omega
  refine S.search_from KS hx hu n1 n2 n3 hin (fun z => hout n z n2 n3) 100000 0 none rfl (Nat.zero_le _) (by omega) fun i p hp hk => ?_
  have l1 : i < t.place.toList.length := by
    have l2 := (List.getElem?_eq_some_iff.mp hp).1
    have l3 := S.tab.sz
    rw [List.length_map] at l3
    rw [Array.length_toList]
    omega
  obtain ⟨d, d1, d2⟩ := S.tab.before (h := knd.hash k) (i := i) n2 (by rw [List.getElem?_map, hp, ← hk]; rfl) (List.getElem?_eq_getElem l1)
  exact ⟨d, Nat.zero_le _, d1, by rw [d2]; exact List.getElem?_eq_getElem l1⟩
/-! ### the table laid anew -/
theorem pick_all {β : Type} (L : List β) : (List.range L.length).filterMap (fun i => L[i]?) = L := by
  induction L with
  | nil => rfl
  | cons x r ih =>
    rw [List.length_cons, List.range_succ_eq_map, List.filterMap_cons, List.filterMap_map]
    show x :: _ = _
    rw [show ((fun i => (x :: r)[i]?) ∘ Nat.succ) = fun i => r[i]? from rfl, ih]
theorem pick_map {β γ : Type} (g : β → γ) (d : γ) (L : List β) : ∀ l : List Nat, (∀ i, i ∈ l → i < L.length) → (l.filterMap fun i => L[i]?).map g = l.map fun i => (L.map g).getD i d
  | [], _ => rfl
  | i :: r, h => by
    have hi := h i List.mem_cons_self
    rw [List.filterMap_cons, List.getElem?_eq_getElem hi, List.map_cons, List.map_cons, pick_map g d L r fun j hj => h j (List.mem_cons_of_mem _ hj)]
    simp [List.getD_eq_getElem?_getD, hi]
theorem rws_order {L : List (K × Addr)} {es : Array (Int × Value)} (row : es.toList = rws knd L) {order : Array Nat} (pm : order.toList.Perm (List.range L.length)) :
    ∃ L2, (order.filterMap (es[·]?)).toList = rws knd L2 ∧ L2.Perm L ∧ (L2.map fun p => knd.hash p.1) = order.toList.map fun i => (es.map (·.1)).getD i 0 := by
  refine ⟨order.toList.filterMap fun i => L[i]?, ?_, ?_, ?_⟩
  · rw [Array.toList_filterMap, rws, List.map_filterMap]
    congr 1
    funext i
    rw [← Array.getElem?_toList, row, rws, List.getElem?_map]
  · have := pm.filterMap fun i => L[i]?
    rw [pick_all] at this
    exact this
  · rw [pick_map (fun p : K × Addr => knd.hash p.1) 0 L _ fun i hi => List.mem_range.mp (pm.mem_iff.mp hi)]
    congr 1
    funext i
    have e : (es.map (·.1)).toList = L.map fun p => knd.hash p.1 := by
      rw [Array.toList_map, row, rws, List.map_map]
      rfl
    rw [← e]
    simp [List.getD_eq_getElem?_getD, Array.getD_eq_getD_getElem?]
theorem own_but (KS : SetKind knd) {h h' : Heap} {k : K} {x a : Addr} {o : Obj} (hx : knd.is h k x) (ho : h.get? a = some o) (hd : o.data = .set es ep t) (sb : Heap.SameBut a h h') : knd.is h' k x :=
  KS.st.stays (fun b o' vs n hb hv => by
    have ne : b ≠ a := fun e => by
      rw [e, ho] at hb
      rw [← Option.some.inj hb, hd] at hv
      cases hv
    rw [sb.2 b ne]
    exact hb) hx
theorem relay (KS : SetKind knd) {o : Obj} (ho : s.heap.get? a = some o) (hex : o.ExactSet) (hd : o.data = .set es ep t) (row : es.toList = rws knd L) (T : TabOk t (L.map fun p => knd.hash p.1)) (fl : L.length ≤ t.mask)
    (dis : (L.map Prod.fst).Nodup) (own : ∀ p ∈ L, knd.is s.heap p.1 p.2) (lay : w.params.followText "set-order" = true ∨ t.led = true) (cnt : L.length < 64) {want m : Nat} (hw : SetTable.sizeAbove want - 1 = m) (hm : MaskOk m) (hw2 : SetTable.sizeAbove want ≤ 128)
    (low : L.length * 5 < m * 3) {Q : Unit → Shared → Prop} (q : ∀ h' L' es' ep' t', Heap.SameBut a s.heap h' → Sx knd h' a L' es' ep' t' → L'.Perm L → Q () { s with heap := h' }) : wpAny (model P w) A (setRelay a want) Q E s := by
  have el := rws_len row
  have ps : t.place.size = L.length := by rw [T.sz, List.length_map]
  have fit : t.fits es.size = true := by
    unfold SetTable.fits SetTable.fill
    rw [T.dm, el, ps]
    simp
    omega
  obtain ⟨t', order, e1, pm, T', e3, e4, e5, e6⟩ := L2.relaid_ok t (hs := es.map (·.1)) (wanted := want) hw hm (by rw [Array.size_map]; omega)
  rw [Array.size_map, el] at pm
  obtain ⟨M2, f1, f2, f3⟩ := rws_order row pm
  rw [← f3] at T'
  have len2 : (order.filterMap (es[·]?)).size = es.size := by rw [rws_len f1, f2.length_eq, el]
  rw [L2.setRelay_eq]
  refine wpAny_bind (wpAny_setState_of ho hd fit ?_)
  dsimp only
  refine L2.wp_if_neg (by rw [sizeLine_eq]; omega) ?_
  try refine wpAny_bind (wpAny_pure ?_)
  rw [e1]
  dsimp only
  refine wpAny_bind (L2.wp_if_neg (by rw [len2]; simp) ?_)
  try refine wpAny_bind (wpAny_pure ?_)
  refine wpAny_pure ?_
  dsimp only
  refine wpAny_storeSet_of ho hd ?_ (by rw [len2, el, sizeLine_eq]; omega)
  have sb : Heap.SameBut a s.heap (s.heap.update a (Obj.putSet (order.filterMap (es[·]?)) t')) := Heap.SameBut.update ..
  exact q _ M2 _ (ep + 1) t' sb ⟨⟨_, L2.store_at ho hd, ⟨hex.1, hex.2.1, hex.2.2⟩, rfl⟩, f1, T', (f2.map Prod.fst).nodup_iff.mpr dis, fun p hp => own_but KS (own p (f2.mem_iff.mp hp)) ho hd sb, by rw [e4]; exact lay, by rw [f2.length_eq, e3]; exact low, by rw [f2.length_eq]; exact cnt⟩ f2
/-! ### adding -/
theorem ins_perm {β : Type} (L : List β) (n : Nat) (x : β) : (L.take n ++ x :: L.drop n).Perm (x :: L) := by
  have := (List.perm_middle (a := x) (l₁ := L.take n) (l₂ := L.drop n))
  rwa [List.take_append_drop] at this
theorem Sx.add (S : Sx knd s.heap a L es ep t) (KS : SetKind knd) {x : Addr} {k : K} (hx : knd.is s.heap k x) (hu : knd.room A) (few : L.length + 1 < 64) {Q : Bool → Shared → Prop}
    (q : ∀ b h' L' es' ep' t', Heap.SameBut a s.heap h' → Sx knd h' a L' es' ep' t' → (k ∈ L.map Prod.fst → L' = L) → (k ∉ L.map Prod.fst → L'.Perm ((k, x) :: L)) → Q b { s with heap := h' }) :
    wpAny (model P w) A (setAddHashed a (.ref x) (knd.hash k)) Q E s := by
  obtain ⟨ob, o1, o2, o3⟩ := S.obj
  have el := rws_len S.row
  have low := S.low
  unfold setAddHashed
  refine wpAny_holding ?_
  rw [show (100000 : Nat) = 99999 + 1 from rfl, L2.setAddHashedIn_succ]
  refine wpAny_bind (wpAny_setState_of o1 o3 S.fit ?_)
  dsimp only
  refine L2.wp_if_neg (by simp [byScan, Value.scannable]) ?_
  try refine wpAny_bind (wpAny_pure ?_)
  refine wpAny_bind (S.search KS hx hu (fun hm => ?_) fun n hm n2 n3 => ?_)
  · dsimp only
    exact wpAny_pure (q false s.heap L es ep t (Heap.SameBut.refl a s.heap) S (fun _ => rfl) fun z => absurd hm z)
  dsimp only
  refine wpAny_bind (wpAny_setState_of o1 o3 S.fit ?_)
  dsimp only
  obtain ⟨p1, p2, p3, p4, p5, p6, p7, p8, p9⟩ := S.tab.put n2 n3
  generalize hpt : t.put (way t.mask (knd.hash k) n) = pt at p1 p3 p4 p5 p6 p7 p8 p9 ⊢
  obtain ⟨t1, j⟩ := pt
  dsimp only at p1 p3 p4 p5 p6 p7 p8 p9 ⊢
  subst p1
  generalize hj : SetTable.below t.place (way t.mask (knd.hash k) n) = j at p2 p3 ⊢
  have row1 : (SetTable.insertAt es j (knd.hash k, Value.ref x)).toList = rws knd (L.take j ++ (k, x) :: L.drop j) := by
    rw [SetTable.toList_insertAt, S.row]
    unfold rws
    rw [List.map_append, List.map_cons, List.map_take, List.map_drop]
  have pm := ins_perm L j (k, x)
  have hs1 : (L.take j ++ (k, x) :: L.drop j).map (fun p => knd.hash p.1) = (L.map fun p => knd.hash p.1).take j ++ knd.hash k :: (L.map fun p => knd.hash p.1).drop j := by
    rw [List.map_append, List.map_cons, List.map_take, List.map_drop]
  rw [← hs1] at p3
  have dis1 : ((L.take j ++ (k, x) :: L.drop j).map Prod.fst).Nodup := by
    refine (pm.map Prod.fst).nodup_iff.mpr ?_
    rw [List.map_cons]
    exact List.nodup_cons.mpr ⟨hm, S.dis⟩
  generalize SetTable.insertAt es j (knd.hash k, Value.ref x) = es1 at row1 ⊢
  generalize L.take j ++ (k, x) :: L.drop j = L1 at pm p3 dis1 row1
  have len1 : L1.length = L.length + 1 := pm.length_eq
  have el1 : es1.size = L.length + 1 := by rw [rws_len row1, len1]
  -- the table, marked or not
  have tail : ∀ c : Bool, wpAny (model P w) A (do
      storeSet a es1 (if c then t1 else { t1 with plain := false })
      if !false && (if c then t1 else { t1 with plain := false }).tooFull then setRelay a (SetTable.grown (es.size + 1))
      return true) Q E s := by
    intro c
    obtain ⟨t2, e2⟩ : ∃ t2, t2 = (if c then t1 else { t1 with plain := false }) := ⟨_, rfl⟩
    have T2 : TabOk t2 (L1.map fun p => knd.hash p.1) := by
      rw [e2]
      cases c
      · exact ⟨p3.ris, p3.dm, p3.sz, p3.mok, p3.bd, p3.reach⟩
      · exact p3
    have mk2 : t2.mask = t.mask := by rw [e2]; cases c <;> exact p4
    have ld2 : t2.led = t.led := by rw [e2]; cases c <;> exact p5
    have fl2 : t2.fill = L.length + 1 := by
      have : t1.fill = L.length + 1 := by rw [p9, List.length_map]
      rw [e2]; cases c <;> exact this
    rw [← e2]
    refine wpAny_bind (wpAny_storeSet_of o1 o3 ?_ (by rw [el1, sizeLine_eq]; have := S.cnt; omega))
    have sb : Heap.SameBut a s.heap (s.heap.update a (Obj.putSet es1 t2)) := Heap.SameBut.update ..
    have ob1 := L2.store_at (es' := es1) (t' := t2) o1 o3
    generalize s.heap.update a (Obj.putSet es1 t2) = h1 at sb ob1 ⊢
    have own1 : ∀ p ∈ L1, knd.is h1 p.1 p.2 := fun p hp => by
      rcases List.mem_cons.mp (pm.mem_iff.mp hp) with e | hp
      · rw [e]; exact own_but KS hx o1 o3 sb
      · exact own_but KS (S.own p hp) o1 o3 sb
    have lay1 : w.params.followText "set-order" = true ∨ t2.led = true := by rw [ld2]; exact S.lay
    by_cases full : t2.tooFull = true
    · have big : (L.length + 1) * 5 ≥ t.mask * 3 := by
        have h := full
        unfold SetTable.tooFull at h
        rw [decide_eq_true_eq, fl2, mk2] at h
        exact h
      rw [el]
      have go : ∀ m, SetTable.sizeAbove (SetTable.grown (L.length + 1)) - 1 = m → MaskOk m → SetTable.sizeAbove (SetTable.grown (L.length + 1)) ≤ 128 → (L.length + 1) * 5 < m * 3 → L.length + 1 ≤ t.mask →
          wpAny (model P w) A (setRelay a (SetTable.grown (L.length + 1))) (fun _ s' => wpAny (model P w) A (pure true) Q E s') E { s with heap := h1 } := fun m m1 m2 m3 m4 m5 =>
        relay (s := { s with heap := h1 }) KS ob1 ⟨o2.1, o2.2.1, o2.2.2⟩ rfl row1 T2 (by rw [len1, mk2]; exact m5) dis1 own1 lay1 (by rw [len1]; exact few) m1 m2 m3 (by rw [len1]; exact m4)
          fun h2 L3 es3 ep3 t3 sb3 S3 pm3 => wpAny_pure (q true h2 L3 es3 ep3 t3 (sb.trans sb3) S3 (fun z => absurd z hm) fun _ => pm3.trans pm)
      have now : wpAny (model P w) A (setRelay a (SetTable.grown (L.length + 1))) (fun _ s' => wpAny (model P w) A (pure true) Q E s') E { s with heap := h1 } := by
        rcases S.tab.mok with e | e | e
        · have e4 : L.length = 4 := by rw [e] at big low; omega
          exact go 31 (by rw [e4, L2.size_20]) (.inr (.inl rfl)) (by rw [e4, L2.size_20]; decide) (by omega) (by omega)
        · have e18 : L.length = 18 := by rw [e] at big low; omega
          exact go 127 (by rw [e18, L2.size_76]) (.inr (.inr rfl)) (by rw [e18, L2.size_76]; decide) (by omega) (by omega)
        · rw [e] at big; omega
      first
        | exact wpAny_bind (L2.wp_if_pos (by simp [full]) now)
        | exact L2.wp_if_pos (by simp [full]) (wpAny_bind now)
    · have fin : wpAny (model P w) A (pure true) Q E { s with heap := h1 } := by
        refine wpAny_pure (q true h1 L1 es1 (ep + 1) t2 sb ⟨⟨_, ob1, ⟨o2.1, o2.2.1, o2.2.2⟩, rfl⟩, row1, T2, dis1, own1, lay1, ?_, by rw [len1]; exact few⟩ (fun z => absurd z hm) fun _ => pm)
        have h := full
        unfold SetTable.tooFull at h
        rw [decide_eq_true_eq, fl2, mk2] at h
        rw [len1, mk2]
        omega
      first
        | exact L2.wp_if_neg (by simp [full]) fin
        | exact wpAny_bind (L2.wp_if_neg (by simp [full]) (wpAny_pure fin))
  by_cases pl : t1.plain = true
  · first
      | exact wpAny_bind (L2.wp_if_pos pl (KS.hb hx tail))
      | exact L2.wp_if_pos pl (wpAny_bind (KS.hb hx tail))
  · first
      | exact wpAny_bind (L2.wp_if_neg pl (wpAny_pure (tail true)))
      | exact L2.wp_if_neg pl (wpAny_bind (wpAny_pure (tail true)))
      | exact L2.wp_if_neg pl (tail true)
end
end Bo

set_option Elab.async false
set_option linter.all false
set_option maxRecDepth 100000
/-! BS2: set(xs) of a list of such. -/
namespace Bo
open PySem PySem.Spec PyProof.Rows
open L2 (TabOk MaskOk)
section
variable {P : Program} {w : World} {K : Type} [DecidableEq K] {knd : HeapKind P w K} {A : Around} {E : Value → Shared → Prop} {s : Shared}
/-- what the set has from these -/
structure Had (pre L : List (K × Addr)) : Prop where
  sub : ∀ p ∈ L, p ∈ pre
  all : ∀ p ∈ pre, p.1 ∈ L.map Prod.fst
  len : L.length ≤ pre.length
theorem Had.nil : Had ([] : List (K × Addr)) [] := ⟨fun p h => (by cases h), fun p h => (by cases h), Nat.le_refl _⟩
theorem Had.next {pre L L' : List (K × Addr)} {p : K × Addr} (g : Had pre L) (h1 : p.1 ∈ L.map Prod.fst → L' = L) (h2 : p.1 ∉ L.map Prod.fst → L'.Perm ((p.1, p.2) :: L)) : Had (pre ++ [p]) L' := by
  by_cases c : p.1 ∈ L.map Prod.fst
  · rw [h1 c]
    refine ⟨fun q hq => List.mem_append_left _ (g.sub q hq), fun q hq => ?_, by rw [List.length_append]; have := g.len; simp; omega⟩
    rcases List.mem_append.mp hq with z | z
    · exact g.all q z
    · rw [List.mem_singleton.mp z]; exact c
  · have pm := h2 c
    refine ⟨fun q hq => ?_, fun q hq => ?_, by rw [pm.length_eq, List.length_append, List.length_cons]; have := g.len; simp; omega⟩
    · rcases List.mem_cons.mp (pm.mem_iff.mp hq) with z | z
      · exact List.mem_append_right _ (List.mem_singleton.mpr z)
      · exact List.mem_append_left _ (g.sub q z)
    · rw [(pm.map Prod.fst).mem_iff, List.map_cons]
      rcases List.mem_append.mp hq with z | z
      · exact List.mem_cons_of_mem _ (g.all q z)
      · rw [List.mem_singleton.mp z]; exact List.mem_cons_self
theorem own_on (KS : SetKind knd) {h h' : Heap} {k : K} {x : Addr} (hx : knd.is h k x) (old : ∀ b o, h.get? b = some o → h'.get? b = some o) : knd.is h' k x := KS.st.stays (fun b o _ _ hb _ => old b o hb) hx
theorem Sx.on {h h' : Heap} {a : Addr} {L : List (K × Addr)} {es : Array (Int × Value)} {ep : Nat} {t : SetTable} (S : Sx knd h a L es ep t) (k : ∀ o, h.get? a = some o → h'.get? a = some o) (own : ∀ p ∈ L, knd.is h' p.1 p.2) : Sx knd h' a L es ep t := by
  obtain ⟨o, ho, r⟩ := S.obj
  exact ⟨⟨o, k o ho, r⟩, S.row, S.tab, S.dis, own, S.lay, S.low, S.cnt⟩
theorem sx_new {h : Heap} {a : Addr} (ho : h.get? a = some { cls := .type "set", dict := none, data := .set #[] 0 (.fresh 0 0 (!w.params.followText "set-order")) }) : Sx knd h a [] #[] 0 (.fresh 0 0 (!w.params.followText "set-order")) where
  obj := ⟨_, ho, ⟨rfl, rfl, rfl⟩, rfl⟩
  row := rfl
  tab := ⟨List.Pairwise.nil, rfl, rfl, .inl rfl, fun x hx => (by cases hx), fun i h j hi => (by simp at hi)⟩
  dis := List.nodup_nil
  own := fun p hp => (by cases hp)
  lay := by
    show _ ∨ (!w.params.followText "set-order") = true
    cases w.params.followText "set-order"
    · exact .inr rfl
    · exact .inl rfl
  low := show 0 * 5 < 7 * 3 by decide
  cnt := show 0 < 64 by decide
/-- the loop of set.update -/
theorem upd_loop (KS : SetKind knd) {I : Addr} {fp wr : List Addr} {G : Array GenState → Array GenState → Prop} {Pv : Nat → Value → Prop} {St : Nat → Shared → Prop} {R : Result → Shared → Prop} (ks : List (K × Addr))
    (W : WalksS P w A.in1 I fp wr G ks.length Pv St) (z : Addr) (zf : z ∉ fp) (few : ks.length < 64) (val : ∀ i v, Pv i v → ∃ p, ks[i]? = some p ∧ v = .ref p.2) (h0 : Heap) (own : ∀ p ∈ ks, knd.is h0 p.1 p.2)
    (z0 : h0.get? z = none) (w0 : ∀ b ∈ wr, h0.get? b = none) (hu : knd.room A.in1) :
    ∀ (rest pre : List (K × Addr)) (s : Shared), ks = pre ++ rest → St pre.length s → (∀ b o, h0.get? b = some o → s.heap.get? b = some o) → (∃ L es ep t, Sx knd s.heap z L es ep t ∧ Had pre L) →
      (∀ s' L es ep t, Moved (z :: wr) G s s' → Sx knd s'.heap z L es ep t → Had ks L → (∀ b o, h0.get? b = some o → s'.heap.get? b = some o) → R (.ok (.ret .none)) s') →
      codeAny (model P w) A (.builtin "set.update.loop" ⟨[.ref z, .ref I], []⟩) R s := by
  have zw : z ∉ wr := fun h => zf (W.sub _ h)
  have up : ∀ b ∈ wr, b ∈ z :: wr := fun b hb => List.mem_cons_of_mem _ hb
  have olds : ∀ {s s' : Shared}, Moved wr G s s' → (∀ b o, h0.get? b = some o → s.heap.get? b = some o) → ∀ b o, h0.get? b = some o → s'.heap.get? b = some o := fun hm k b o e =>
    hm.heap b o (fun hb => by rw [w0 b hb] at e; cases e) (k b o e)
  intro rest
  induction rest with
  | nil =>
    intro pre s hks hst old hS fin
    rw [List.append_nil] at hks
    subst hks
    obtain ⟨L, es, ep, t, S, g⟩ := hS
    refine codeAny_builtin F.entry_set_update_loop ?_
    rw [Around.under_plainId F.plain_set_update_loop _]
    show wpAny _ A.in1 (pyNext (.ref I) >>= _) _ _ s
    refine wpAny_bind (W.done s _ _ hst fun s' hm => ?_)
    show wpAny _ A.in1 (ret Value.none) _ _ s'
    have old' := olds hm old
    exact wpAny_pure (fin s' L es ep t (hm.mono up) (S.on (fun o e => hm.heap z o zw e) fun p hp => own_on KS (own p (g.sub p hp)) old') g old')
  | cons x rest ih =>
    intro pre s hks hst old hS fin
    obtain ⟨L, es, ep, t, S, g⟩ := hS
    have hl : pre.length < ks.length := by rw [hks]; simp
    refine codeAny_builtin F.entry_set_update_loop ?_
    rw [Around.under_plainId F.plain_set_update_loop _]
    show wpAny _ A.in1 (pyNext (.ref I) >>= _) _ _ s
    refine wpAny_bind (W.item pre.length s _ _ hl hst fun v s' hP hst' hm => ?_)
    obtain ⟨p, hp, rfl⟩ := val _ v hP
    have ex : p = x := by
      rw [hks, List.getElem?_append_right (Nat.le_refl _), Nat.sub_self] at hp
      exact (Option.some.inj hp).symm
    subst ex
    have old' := olds hm old
    have insub : ∀ q ∈ L, q ∈ ks := fun q hq => by rw [hks]; exact List.mem_append_left _ (g.sub q hq)
    have S' : Sx knd s'.heap z L es ep t := S.on (fun o e => hm.heap z o zw e) fun q hq => own_on KS (own q (insub q hq)) old'
    have hx : knd.is s'.heap p.1 p.2 := own_on KS (own p (List.mem_of_getElem? hp)) old'
    show wpAny _ A.in1 (holding [Value.ref p.2] (setAdd z (.ref p.2)) >>= _) _ _ s'
    refine wpAny_bind (wpAny_holding ?_)
    unfold setAdd
    refine wpAny_holding (wpAny_bind (knd.pyHash hu hx ?_))
    refine Sx.add (s := { s' with toks := s'.toks + knd.draws p.1 }) S' KS hx hu (by have := g.len; omega) fun b h' L' es' ep' t' sb S2 c1 c2 => ?_
    have g' : Had (pre ++ [p]) L' := g.next c1 c2
    have old2 : ∀ b o, h0.get? b = some o → h'.get? b = some o := fun b o e => (sb.2 b (fun q => by rw [q, z0] at e; cases e)).trans (old' b o e)
    have ks' : ks = (pre ++ [p]) ++ rest := by rw [hks]; simp
    refine wpAny_pure ⟨plainId_quiet F.plain_set_update_loop _, ih (pre ++ [p]) _ ks' ?_ old2 ⟨L', es', ep', t', S2, g'⟩ fun s'' L2 es2 ep2 t2 hm2 S3 g3 old3 => ?_⟩
    · rw [List.length_append]
      exact W.frame _ s' _ _ hst' (Nat.le_add_right _ _) fun b hb o e => by rw [sb.2 b (fun h : b = z => zf (by rw [← h]; exact hb))]; exact e
    · refine fin s'' L2 es2 ep2 t2 (Moved.trans W.gtrans ((hm.mono up).then_heap (Nat.le_add_right _ _) fun b o hb e => ?_) hm2) S3 g3 old3
      rw [sb.2 b (fun h : b = z => hb (by rw [h]; exact List.mem_cons_self))]; exact e
/-- an empty set's object -/
abbrev emptySet (w : World) : Obj := { cls := .type "set", dict := none, data := .set #[] 0 (.fresh 0 0 (!w.params.followText "set-order")) }
set_option maxHeartbeats 3200000 in
/-- set(xs) -/
theorem call_set (KS : SetKind knd) {l : Addr} {items : Array Value} (ks : List (K × Addr)) {Q : Value → Shared → Prop} (hh : A.handled = none) (hl : s.heap.IsList l items) (hit : items.toList = ks.map fun p => Value.ref p.2)
    (own : ∀ p ∈ ks, knd.is s.heap p.1 p.2) (few : ks.length < 64) (hu : ∀ B : Around, B.units ≤ A.units + 4 → knd.room B)
    (q : ∀ (h' : Heap) (tk : Nat) L es ep t, Sx knd h' s.heap.objs.size L es ep t → Had ks L → (∀ b o, s.heap.get? b = some o → h'.get? b = some o) → Q (.ref s.heap.objs.size) { s with heap := h', toks := tk }) :
    wpAny (model P w) A (call (.type "set") [.ref l]) Q E s := by
  have isz : items.size = ks.length := by rw [← Array.length_toList, hit, List.length_map]
  obtain ⟨c, tl, hmro⟩ := F.called_set.mro
  have hmade := F.called_set.made
  have hsub := F.called_set.sub
  refine wpAny_call (codeAny_of_tree ?_)
  show wpAny _ _ (callAny (.type "set") _) _ _ _
  refine wpAny_pure ⟨Code.quiet_builtin _ (by decide +kernel), codeAny_builtin F.entry_type_call ?_⟩
  rw [Around.under_plain (weight_type_call_type "set" [.ref l] []) rfl]
  have h1 := F.called_set.notType
  have h2 := F.called_set.canCreate
  have hct := F.typeCall_set_1 (.ref l)
  repeat (any_goals (first | assumption | wp_step))
  refine codeAny_mono (L2.code_set_led1 (.ref l) (E := E) (Q₁ := fun obj s₁ => obj = .ref s.heap.objs.size ∧ s₁ = { s with heap := s.heap.push (emptySet w) }) ⟨rfl, rfl⟩) fun r s₁ hr => ?_
  cases r with
  | error e => exact hr
  | ok fl =>
    cases fl with
    | ret obj =>
      obtain ⟨rfl, rfl⟩ := hr
      have at0 : (s.heap.push (emptySet w)).get? s.heap.objs.size = some (emptySet w) := Heap.get?_push_size _ rfl
      have hT : Shared.TypeIs { s with heap := s.heap.push (emptySet w) } (.ref s.heap.objs.size) "set" := ⟨_, at0, rfl⟩
      have hli := F.called_set.init.lookup
      have hbi := F.called_set.init.bind (.ref s.heap.objs.size)
      repeat (any_goals (first | assumption | wp_step))
      refine codeAny_mono (codeAny_call_builtin (R := wants (fun r s₂ => r = .none ∧ ∃ h' tk L es ep t, s₂ = { s with heap := h', toks := tk } ∧ Sx knd h' s.heap.objs.size L es ep t ∧ Had ks L ∧ ∀ b o, s.heap.get? b = some o → h'.get? b = some o) E)
        F.called_set.init.plain F.entry_set_init (check_set_init_1 hT ?_)) fun r₂ s₂ hr₂ => ?_
      · obtain ⟨ol, hol, hcl, nl, hdl⟩ := hl
        obtain ⟨ocls, odict, odata, oslots⟩ := ol
        simp only at hcl hdl
        subst hcl
        subst hdl
        have hol' : (s.heap.push (emptySet w)).get? l = some { cls := .type "list", dict := odict, data := .seq items nl, slots := oslots } := Heap.get?_push_of_some _ hol
        have hsls := F.sub_list_set
        have hslf := F.sub_list_frozenset
        have hne : (Value.type "list" == Value.type "dict") = false := by decide
        have hl1 : (s.heap.push (emptySet w)).IsList l items := ⟨_, hol', rfl, nl, rfl⟩
        unfold Builtin.«set.__init__» noKeywords Builtin.Frozenset.updateFrom
        generalize hPI : pyIter = PI
        wp_walk
        subst hPI
        refine wpAny_pyIter_list hl1 (wpAny_bind (wpAny_runValue ?_))
        have ls : l < s.heap.objs.size := Heap.lt_size hol
        have sz1 : (s.heap.push (emptySet w)).objs.size = s.heap.objs.size + 1 := Heap.size_push ..
        have gone : ∀ b, s.heap.objs.size ≤ b → s.heap.get? b = none := fun b hb => by
          cases e : s.heap.get? b with
          | none => rfl
          | some o => exact absurd (Heap.lt_size e) (Nat.not_lt.mpr hb)
        have val : ∀ (i : Nat) (v : Value), items[i]? = some v → ∃ p, ks[i]? = some p ∧ v = .ref p.2 := fun i v hv => by
          rw [← Array.getElem?_toList, hit, List.getElem?_map] at hv
          obtain ⟨p, hp, e⟩ := Option.map_eq_some_iff.mp hv
          exact ⟨p, hp, e.symm⟩
        have W := (Walks.list (prog := P) (w := w) (A := A.in1.in1.in1) (by simp [hh]) (s.heap.push (emptySet w)).objs.size l (by rw [sz1]; exact Nat.ne_of_lt (Nat.lt_succ_of_lt ls)) items).toS
        rw [isz] at W
        refine upd_loop KS ks W s.heap.objs.size (by rw [sz1]; simp only [List.mem_cons, List.not_mem_nil, or_false, not_or]; exact ⟨Nat.ne_of_lt (Nat.lt_succ_self _), Nat.ne_of_gt ls⟩) few val s.heap own (gone _ (Nat.le_refl _)) (fun b hb => gone b (by rw [List.mem_singleton.mp hb, sz1]; exact Nat.le_succ _)) (hu _ (by simp; try omega)) ks [] _ rfl
          ⟨⟨_, Heap.get?_push_size _ rfl, rfl, rfl⟩, hl1.push _⟩ (fun b o e => Heap.get?_push_of_some _ (Heap.get?_push_of_some _ e)) ⟨[], #[], 0, _, sx_new (Heap.get?_push_of_some _ at0), Had.nil⟩ fun s' L es ep t hm S g old => ?_
        obtain ⟨h', g2, d', tk', os'⟩ := s'
        have eg : g2 = s.gens := hm.gens
        have ed : d' = s.drawn := hm.drawn
        have eo : os' = s.os := hm.os
        subst eg ed eo
        show wpAny _ _ _ _ _ _
        refine wpAny_pure ?_
        show wpAny _ _ (ret Value.none) _ _ _
        exact wpAny_pure ⟨rfl, h', tk', L, es, ep, t, rfl, S, g, old⟩
      · cases r₂ with
        | error e => exact hr₂
        | ok fl₂ =>
          cases fl₂ with
          | ret r =>
            obtain ⟨rfl, h', tk, L, es, ep, t, rfl, S, g, old⟩ := hr₂
            repeat (any_goals (first | assumption | wp_step))
            exact q _ _ _ _ _ _ S g old
          | _ => exact hr₂.elim
    | _ => exact hr.elim
end
end Bo

set_option Elab.async false
set_option linter.all false
set_option maxRecDepth 100000
/-! BS3: sorted(set(xs)), xs a list of nested tuples of texts and ints. -/
namespace Bo
open PySem PySem.Spec PyProof.Rows
open L2 (V HO Hp Rd SqL SqT Vals upd Cx CallR VK Inv RelV EP TabOk)
mutual
theorem nk_inj : ∀ (a b : D), a.hsh = true → b.hsh = true → nk a = nk b → a = b
  | .int i, b, _, hb, e => by cases b <;> simp_all [nk, D.hsh]
  | .str i, b, _, hb, e => by cases b <;> simp_all [nk, D.hsh]
  | .tup x, b, ha, hb, e => by
    cases b with
    | tup y =>
      simp only [D.hsh] at ha hb
      simp only [nk, NestedKey.tup.injEq] at e
      rw [nks_inj x y ha hb e]
    | _ => simp_all [nk, D.hsh]
  | .non, _, ha, _, _ => by simp [D.hsh] at ha
  | .bl _, _, ha, _, _ => by simp [D.hsh] at ha
  | .lst _, _, ha, _, _ => by simp [D.hsh] at ha
  | .ktp _, _, ha, _, _ => by simp [D.hsh] at ha
  | .arg _, _, ha, _, _ => by simp [D.hsh] at ha
  | .dct _ _, _, ha, _, _ => by simp [D.hsh] at ha
  | .ref _, _, ha, _, _ => by simp [D.hsh] at ha
  | .fn _, _, ha, _, _ => by simp [D.hsh] at ha
theorem nks_inj : ∀ (a b : List D), hshs a = true → hshs b = true → nks a = nks b → a = b
  | [], [], _, _, _ => rfl
  | [], _ :: _, _, _, e => by simp [nks] at e
  | _ :: _, [], _, _, e => by simp [nks] at e
  | x :: r, y :: t, ha, hb, e => by
    simp only [hshs, Bool.and_eq_true] at ha hb
    simp only [nks, List.cons.injEq] at e
    rw [nk_inj x y ha.1 hb.1 e.1, nks_inj r t ha.2 hb.2 e.2]
end
section
variable {A : Ad} {B : Nat → Nat} {b : Nat} {X : Cx} {io : List Addr} {H : Hp} {pins : List (Addr × Obj)} {σ : L2.St} {s : Shared}
mutual
theorem nk_is (I : Inv X pins σ H s) : ∀ (d : D) (v : V) (u : Value), d.hsh = true → Rep A X.K io b H d v → RelV v u → NestedIs s.heap (nk d) u
  | .int i, _, u, _, r, x => by
    cases r
    obtain ⟨t, rfl⟩ := x
    exact .int i t
  | .str i, _, u, _, r, x => by
    cases r
    obtain ⟨t, rfl⟩ := x
    exact .text i t
  | .tup ds, _, u, h, r, x => by
    cases r with
    | tup h1 z r =>
      cases x
      simp only [D.hsh] at h
      obtain ⟨its, rv, ⟨o, ho, hc, n, hd⟩, _⟩ := I.tuple h1.sq
      exact .tup ho hc hd (nks_are I ds _ _ h r (by simpa using rv))
  | .non, _, _, ha, _, _ => by simp [D.hsh] at ha
  | .bl _, _, _, ha, _, _ => by simp [D.hsh] at ha
  | .lst _, _, _, ha, _, _ => by simp [D.hsh] at ha
  | .ktp _, _, _, ha, _, _ => by simp [D.hsh] at ha
  | .arg _, _, _, ha, _, _ => by simp [D.hsh] at ha
  | .dct _ _, _, _, ha, _, _ => by simp [D.hsh] at ha
  | .ref _, _, _, ha, _, _ => by simp [D.hsh] at ha
  | .fn _, _, _, ha, _, _ => by simp [D.hsh] at ha
theorem nks_are (I : Inv X pins σ H s) : ∀ (ds : List D) (vs : List V) (us : List Value), hshs ds = true → Reps A X.K io b H ds vs → Vals vs us → NestedAll s.heap (nks ds) us
  | [], _, _, _, r, x => by
    cases r
    cases x
    exact .nil
  | d :: ds, _, _, h, r, x => by
    simp only [hshs, Bool.and_eq_true] at h
    cases r with
    | cons r t =>
      cases x with
      | cons x y => exact .cons (nk_is I d _ _ h.1 r x) (nks_are I ds _ _ h.2 t y)
end
mutual
/-- such a datum is read off the heap, no list on the way -/
theorem nk_reads (I : Inv X pins σ H s) : ∀ (d : D) (v : V) (u : Value), d.hsh = true → Rep A X.K io b H d v → RelV v u → ∃ p, D.py d = some p ∧ Reads s.heap u p []
  | .int i, _, u, _, r, x => by
    cases r
    obtain ⟨t, rfl⟩ := x
    exact ⟨_, rfl, .int i t⟩
  | .str i, _, u, _, r, x => by
    cases r
    obtain ⟨t, rfl⟩ := x
    exact ⟨_, rfl, .str i t⟩
  | .tup ds, _, u, h, r, x => by
    cases r with
    | tup h1 z r =>
      cases x
      simp only [D.hsh] at h
      obtain ⟨its, rv, ⟨o, ho, hc, n, hd⟩, _⟩ := I.tuple h1.sq
      obtain ⟨ps, e, q⟩ := nks_reads I ds _ _ h r (by simpa using rv)
      exact ⟨.tuple ps, by simp [D.py, e], .tuple ho hc hd q⟩
  | .non, _, _, ha, _, _ => by simp [D.hsh] at ha
  | .bl _, _, _, ha, _, _ => by simp [D.hsh] at ha
  | .lst _, _, _, ha, _, _ => by simp [D.hsh] at ha
  | .ktp _, _, _, ha, _, _ => by simp [D.hsh] at ha
  | .arg _, _, _, ha, _, _ => by simp [D.hsh] at ha
  | .dct _ _, _, _, ha, _, _ => by simp [D.hsh] at ha
  | .ref _, _, _, ha, _, _ => by simp [D.hsh] at ha
  | .fn _, _, _, ha, _, _ => by simp [D.hsh] at ha
theorem nks_reads (I : Inv X pins σ H s) : ∀ (ds : List D) (vs : List V) (us : List Value), hshs ds = true → Reps A X.K io b H ds vs → Vals vs us → ∃ ps, pys ds = some ps ∧ ReadsAll s.heap us ps []
  | [], _, _, _, r, x => by
    cases r
    cases x
    exact ⟨[], rfl, .nil⟩
  | d :: ds, _, _, h, r, x => by
    simp only [hshs, Bool.and_eq_true] at h
    cases r with
    | cons r t =>
      cases x with
      | cons x y =>
        obtain ⟨p, e1, q1⟩ := nk_reads I d _ _ h.1 r x
        obtain ⟨ps, e2, q2⟩ := nks_reads I ds _ _ h.2 t y
        exact ⟨p :: ps, by simp [pys, e1, e2], .cons q1 q2⟩
end
/-- the set at a, without its elements -/
structure SxN (P : Program) (w : World) (h : Heap) (a : Addr) (L : List (NestedKey × Addr)) : Prop where
  ex : ∃ (es : Array (Int × Value)) (ep : Nat) (t : SetTable), (∃ o, h.get? a = some o ∧ o.ExactSet ∧ o.data = .set es ep t) ∧ es.toList = rws (nestedKind P w) L ∧ TabOk t (L.map fun p => (nestedKind P w).hash p.1) ∧ (L.map Prod.fst).Nodup ∧
    (w.params.followText "set-order" = true ∨ t.led = true) ∧ L.length * 5 < t.mask * 3 ∧ L.length < 64
def SxO (P : Program) (w : World) (a : Addr) (L : List (NestedKey × Addr)) : HO := .ext fun h => SxN P w h a L
theorem Sx.part {P : Program} {w : World} {h : Heap} {a : Addr} {L : List (NestedKey × Addr)} {es : Array (Int × Value)} {ep : Nat} {t : SetTable} (S : Sx (nestedKind P w) h a L es ep t) : SxN P w h a L :=
  ⟨es, ep, t, S.obj, S.row, S.tab, S.dis, S.lay, S.low, S.cnt⟩
theorem SxN.whole {P : Program} {w : World} {h : Heap} {a : Addr} {L : List (NestedKey × Addr)} (S : SxN P w h a L) (own : ∀ p ∈ L, (nestedKind P w).is h p.1 p.2) : ∃ es ep t, Sx (nestedKind P w) h a L es ep t := by
  obtain ⟨es, ep, t, h1, h2, h3, h4, h5, h6, h7⟩ := S.ex
  exact ⟨es, ep, t, h1, h2, h3, h4, own, h5, h6, h7⟩
theorem sxO_new {P : Program} {w : World} {h : Heap} {a : Addr} {L : List (NestedKey × Addr)} (S : SxN P w h a L) : L2.ObjOk P w H h a (SxO P w a L) := by
  have ⟨es, ep, t, ⟨o, ho, r⟩, q⟩ := S.ex
  refine ⟨S, ⟨o, ho⟩, fun h1 h2 p k => ?_⟩
  have ⟨es', ep', t', ⟨o', ho', r'⟩, q'⟩ := SxN.ex p
  exact ⟨es', ep', t', ⟨o', k o' ho', r'⟩, q'⟩
theorem vals_refs : ∀ {as : List Addr} {us : List Value}, Vals (as.map V.ref) us → us = as.map Value.ref
  | [], _, .nil => rfl
  | a :: r, _, .cons x t => by
    cases x
    rw [vals_refs t, List.map_cons]
theorem refs_vals : ∀ as : List Addr, Vals (as.map V.ref) (as.map Value.ref)
  | [] => .nil
  | a :: r => .cons rfl (refs_vals r)
theorem reps_zip {K : PySem.W.Frag} : ∀ {ds : List D} {as : List Addr}, Reps A K io b H ds (as.map V.ref) → ds.length = as.length ∧ ∀ p ∈ (ds.map nk).zip as, ∃ d, d ∈ ds ∧ p.1 = nk d ∧ Rep A K io b H d (.ref p.2)
  | [], [], _ => ⟨rfl, fun p hp => (by cases hp)⟩
  | [], _ :: _, h => by cases h
  | _ :: _, [], h => by cases h
  | d :: ds, a :: as, h => by
    cases h with
    | cons r t =>
      obtain ⟨l, q⟩ := reps_zip t
      refine ⟨by rw [List.length_cons, List.length_cons, l], fun p hp => ?_⟩
      rw [List.map_cons, List.zip_cons_cons] at hp
      rcases List.mem_cons.mp hp with e | hp
      · rw [e]; exact ⟨d, List.mem_cons_self, rfl, r⟩
      · obtain ⟨d', m, e, r'⟩ := q p hp
        exact ⟨d', List.mem_cons_of_mem _ m, e, r'⟩
/-- set(xs), xs a list of such tuples -/
def rSetN (A : Ad) (K : PySem.W.Frag) (P : Program) (w : World) : List V → Hp → VK → Prop := fun xs H Q => ∃ (l : Addr) (io : List Addr) (ds : List D) (as : List Addr), xs = [V.ref l] ∧ SqL K H l (as.map V.ref) ∧ Reps A K io io.length H ds (as.map V.ref) ∧
  (∀ d ∈ ds, d.hsh = true ∧ (nk d).depth ≤ 8) ∧ ds.length < 64 ∧ ∀ a L, H a = none → Had ((ds.map nk).zip as) L → (L.map Prod.fst).Nodup → Q (.ref a) (upd H a (SxO P w a L))
theorem cr_setN (hc : X.calm = true) (hu : X.A.units + 64 < cLine) : CallR X (.type "set") (rSetN A X.K X.prog X.w) := by
  intro pins s σ H xs us Q I r h
  obtain ⟨l, io, ds, as, rfl, hl, rs, good, few, q⟩ := h
  rw [Vals.ref1 r]
  obtain ⟨its, rv, pl, hz⟩ := I.list hl
  have hn : H s.heap.objs.size = none := I.hok.fresh (Nat.le_refl _)
  obtain ⟨len, mem⟩ := reps_zip rs
  refine call_set (P := X.prog) (w := X.w) nested_set ((ds.map nk).zip as) (I.ok.hd hc) pl.isList ?_ (fun p hp => ?_) (by rw [List.length_zip, List.length_map]; omega) (fun B hB => by show B.units + 8 < cLine; omega) fun h' tk L es ep t S g old => ?_
  · rw [List.toList_toArray, vals_refs rv]
    have : ((ds.map nk).zip as).map Prod.snd = as := List.map_snd_zip (by rw [List.length_map]; omega)
    have e := congrArg (List.map Value.ref) this
    rw [List.map_map] at e
    exact e.symm
  · obtain ⟨d, m, e, r'⟩ := mem p hp
    rw [e]
    exact ⟨nk_is I d _ _ (good d m).1 r' rfl, (good d m).2⟩
  · exact ⟨.ref s.heap.objs.size, upd H s.heap.objs.size (SxO X.prog X.w s.heap.objs.size L), I.laid (t' := tk) old (Nat.le_refl _) (sxO_new S.part), rfl, q _ L hn g S.dis⟩
theorem each_perm {β : Type} {R : Value → β → Prop} : ∀ {us us' : List Value}, us.Perm us' → ∀ {ds : List β}, W.EachIs R us ds → ∃ ds', ds'.Perm ds ∧ W.EachIs R us' ds' := by
  intro us us' h
  induction h with
  | nil => intro ds e; cases e; exact ⟨[], .nil, .nil⟩
  | cons x _ ih =>
    intro ds e
    cases e with
    | cons r t =>
      obtain ⟨ds', p, e'⟩ := ih t
      exact ⟨_ :: ds', p.cons _, .cons r e'⟩
  | swap x y l =>
    intro ds e
    cases e with
    | cons r t =>
      cases t with
      | cons r2 t2 => exact ⟨_ :: _ :: _, .swap _ _ _, .cons r2 (.cons r t2)⟩
  | trans _ _ ih1 ih2 =>
    intro ds e
    obtain ⟨d1, p1, e1⟩ := ih1 e
    obtain ⟨d2, p2, e2⟩ := ih2 e1
    exact ⟨d2, p2.trans p1, e2⟩
theorem zip_back {β γ : Type} : ∀ L : List (β × γ), (L.map Prod.fst).zip (L.map Prod.snd) = L
  | [] => rfl
  | x :: r => by rw [List.map_cons, List.map_cons, List.zip_cons_cons, zip_back r]
/-- sorted(set) -/
def rSortN (A : Ad) (K : PySem.W.Frag) (P : Program) (w : World) : List V → Hp → VK → Prop := fun xs H Q => ∃ (a : Addr) (L : List (NestedKey × Addr)) (io : List Addr) (M : List D) (ps : List PyData), xs = [V.ref a] ∧ H a = some (SxO P w a L) ∧ M.map nk = L.map Prod.fst ∧
  Reps A K io io.length H M ((L.map Prod.snd).map V.ref) ∧ (∀ d ∈ M, d.hsh = true ∧ (nk d).depth ≤ 8) ∧ pys M = some ps ∧ srtOk ps = true ∧
  ∀ (M' : List D) (ws : List V) (p : Addr), M'.Perm M → M.length < 64 → Reps A K io io.length H (M'.mergeSort (W.dataLe false encD)) ws → H p = none → Q (.ref p) (upd H p (.lst ws))
theorem cr_sortN (hc : X.calm = true) (hu : X.A.units + 100 < cLine) : CallR X (.builtin "sorted") (rSortN A X.K X.prog X.w) := by
  intro pins s σ H xs us Q I rv h
  obtain ⟨a, L, io, M, ps, rfl, ha, hk, rs, good, hp, ok, q⟩ := h
  rw [Vals.ref1 rv]
  have eL : (M.map nk).zip (L.map Prod.snd) = L := by rw [hk]; exact zip_back L
  obtain ⟨len, mem⟩ := reps_zip rs
  rw [eL] at mem
  have S0 : SxN X.prog X.w s.heap a L := (I.hok a _ ha).1
  obtain ⟨es, ep, t, S⟩ := S0.whole fun p hp => by
    obtain ⟨d, m, e, r'⟩ := mem p hp
    rw [e]
    exact ⟨nk_is I d _ _ (good d m).1 r' rfl, (good d m).2⟩
  obtain ⟨o, ho, hex, hd⟩ := S.obj
  have cnt := S.cnt
  have lM : M.length = L.length := by rw [len, List.length_map]
  refine Calls.call_function_entry kind_sorted plain_sorted entry_sorted (args_sorted1 _) ?_
  unfold Builtin.«sorted»
  refine wpAny_bind (m := checkCount "sorted" 1 1 _) (wpAny_pure ?_)
  refine wpAny_bind (L2.collect_set (A := X.A.in1) (I.ok.hd hc) ⟨o, ho, hex.1, hd⟩ S.fit (by rw [rws_len S.row]; unfold scanBound; omega) S.tab.ris S.lay fun s1 vs k1 hz g1 o1 pm => ?_)
  have ev : es.toList.map (·.2) = (L.map Prod.snd).map Value.ref := by
    rw [S.row, rws, List.map_map, List.map_map]
    rfl
  rw [ev] at pm
  obtain ⟨M', pmM, each⟩ := each_perm pm.symm (each_of rs (refs_vals _))
  have lv : vs.length = L.length := by rw [pm.length_eq, List.length_map, List.length_map]
  have lM' : M'.length = L.length := by rw [pmM.length_eq, lM]
  refine wpAny_bind (wpAny_newList ?_ (by rw [sizeLine_eq]; omega))
  have hoL : (s1.heap.push (seqObj "list" vs.toArray 0)).get? s1.heap.objs.size = some (seqObj "list" vs.toArray 0) := Heap.get?_push_size _ rfl
  have grow : ∀ b u, s.heap.get? b = some u → (s1.heap.push (seqObj "list" vs.toArray 0)).get? b = some u := fun b u e => Heap.get?_push_of_some _ (k1 b u e)
  have em := pys_map hp
  have enc : ∀ d, d ∈ M'.map encD → d ∈ ps := fun d hd => by
    rw [← em]
    exact (pmM.map encD).mem_iff.mp hd
  unfold srtOk at ok
  rw [Bool.and_eq_true, Bool.and_eq_true, Bool.or_eq_true] at ok
  obtain ⟨⟨z1, z2⟩, z3⟩ := ok
  refine wpAny_bind (wpAny_holding (W.list_sort_data (s := { s1 with heap := s1.heap.push (seqObj "list" vs.toArray 0) }) (vs := vs) (bs := M') (enc := encD) (R := StandsFor A X.K io H) hoL each ?_ (fun d hd d' hd' => srt_alike z1 d (enc d hd) d' (enc d' hd')) ?_ (by rw [lM', sizeLine_eq]; omega) ?_ fun out hout eo => ?_))
  · refine (W.each_mem each).mono fun v d hv => ?_
    obtain ⟨⟨x, hx, r⟩, hm⟩ := hv
    obtain ⟨p, e, rd⟩ := nk_reads I d x v (good d (pmM.mem_iff.mp hm)).1 r hx
    refine ⟨[], ?_, fun z => nomatch z⟩
    have e2 : encD d = p := by unfold encD; rw [e]; rfl
    rw [e2]
    exact PyProof.Rows.Reads.keeps grow rd
  · rcases z3 with z3 | z3
    · refine .inl fun d hd => ?_
      have y := List.all_eq_true.mp z3 d (enc d hd)
      split at y
      · exact ⟨_, _, rfl⟩
      · cases y
    · refine .inr fun d hd => ?_
      have y := List.all_eq_true.mp z3 d (enc d hd)
      split at y
      · cases y
      · cases y
      · rename_i n1 n2
        exact ⟨n1, n2⟩
  · intro d hd
    have y := SeqAt.depth_of_shaped (List.all_eq_true.mp z2 _ (enc _ (List.mem_map.mpr ⟨d, hd, rfl⟩)))
    simp only [Around.in1_units]
    omega
  · obtain ⟨ws, w1, w2⟩ := of_each eo
    obtain ⟨c, hc'⟩ := sortedHeap_at (vs := vs) (out := out.toArray) hoL
    have old : ∀ b u, s.heap.get? b = some u → (sortedHeap (s1.heap.push (seqObj "list" vs.toArray 0)) s1.heap.objs.size vs out.toArray).get? b = some u := fun b u e => by
      have e1 := k1 b u e
      have lt := Heap.lt_size e1
      rw [sortedHeap_old (Nat.ne_of_lt lt) (by rw [size_push']; exact Nat.lt_succ_of_lt lt)]
      exact Heap.get?_push_of_some _ e1
    have hn : H s1.heap.objs.size = none := I.hok.fresh hz
    have wl : ws.length ≤ sizeLine := by rw [← w1.length, List.length_mergeSort, lM', sizeLine_eq]; omega
    have J : Inv X pins σ (upd H s1.heap.objs.size (.lst ws)) { s with heap := sortedHeap (s1.heap.push (seqObj "list" vs.toArray 0)) s1.heap.objs.size vs out.toArray, gens := s1.gens, drawn := s1.drawn, toks := s1.toks } :=
      I.call (ch := []) (L2.Un.laid old hz hn) (I.hok.laid old hz ⟨wl, out, c, w2, hc'⟩) (by rw [g1]; exact I.bare) (fun _ z => nomatch z)
    refine wpAny_pure ⟨_, rfl, ?_⟩
    have e : ({ s1 with heap := sortedHeap (s1.heap.push (seqObj "list" vs.toArray 0)) s1.heap.objs.size vs out.toArray } : Shared) = { s with heap := sortedHeap (s1.heap.push (seqObj "list" vs.toArray 0)) s1.heap.objs.size vs out.toArray, gens := s1.gens, drawn := s1.drawn, toks := s1.toks } := by
      cases s1
      cases s
      cases o1
      rfl
    show ∃ _, _
    rw [e]
    exact ⟨.ref s1.heap.objs.size, _, J, rfl, q M' ws _ pmM (by omega) w1 hn⟩
end
end Bo

set_option Elab.async false
set_option linter.all false
set_option maxRecDepth 100000
/-! BS4: sorted(set(xs)) in the evaluator. -/
namespace Bo
open PySem PySem.Spec PyProof.Rows
open L2 (V HO Hp Rd SqL SqT Vals upd Cx PE PT PA PO PI PW PG PGs PTs PS PSs OpR UnR CallR SlR IxR VK XK TE TT TA TO TI TG TGs TS Ends Inv RelV EP Room Sp FnOk Gl Vis Binds WX Takes tOp tCons tNil It Turn PIE Loc BlkOk)
theorem dd_mem {x : D} : ∀ {ds : List D}, x ∈ ddD ds ↔ x ∈ ds
  | [] => Iff.rfl
  | d :: r => by
    unfold ddD
    split
    · rename_i h
      obtain ⟨y, hy, e⟩ := List.any_eq_true.mp h
      have := D.beq_eq _ _ e
      subst this
      rw [dd_mem, List.mem_cons]
      refine ⟨.inr, fun z => ?_⟩
      rcases z with z | z
      · rw [z]; exact dd_mem.mp hy
      · exact z
    · rw [List.mem_cons, List.mem_cons, dd_mem]
theorem dd_nd : ∀ ds : List D, (ddD ds).Nodup
  | [] => List.nodup_nil
  | d :: r => by
    unfold ddD
    split
    · exact dd_nd r
    · rename_i h
      refine List.nodup_cons.mpr ⟨fun z => h (List.any_eq_true.mpr ⟨d, z, D.beq_refl d⟩), dd_nd r⟩
theorem up_pw : ∀ {L : List D}, upD L = true → L.Pairwise fun a b => W.dataLt (encD a) (encD b) = true
  | [], _ => List.Pairwise.nil
  | a :: r, h => by
    unfold upD at h
    rw [Bool.and_eq_true] at h
    exact List.pairwise_cons.mpr ⟨fun b hb => List.all_eq_true.mp h.1 b hb, up_pw h.2⟩
mutual
theorem hsh_py : ∀ d : D, d.hsh = true → D.py d = some (encD d)
  | .int i, _ => rfl
  | .str i, _ => rfl
  | .tup ds, h => by
    simp only [D.hsh] at h
    unfold encD
    simp [D.py, hshs_py ds h]
  | .non, ha => by simp [D.hsh] at ha
  | .bl _, ha => by simp [D.hsh] at ha
  | .lst _, ha => by simp [D.hsh] at ha
  | .ktp _, ha => by simp [D.hsh] at ha
  | .arg _, ha => by simp [D.hsh] at ha
  | .dct _ _, ha => by simp [D.hsh] at ha
  | .ref _, ha => by simp [D.hsh] at ha
  | .fn _, ha => by simp [D.hsh] at ha
theorem hshs_py : ∀ ds : List D, hshs ds = true → pys ds = some (ds.map encD)
  | [], _ => rfl
  | d :: r, h => by
    simp only [hshs, Bool.and_eq_true] at h
    simp [pys, hsh_py d h.1, hshs_py r h.2]
end
theorem hshs_all : ∀ {ds : List D}, (∀ d, d ∈ ds → d.hsh = true) → hshs ds = true
  | [], _ => rfl
  | d :: r, h => by
    simp only [hshs, Bool.and_eq_true]
    exact ⟨h d List.mem_cons_self, hshs_all fun x hx => h x (List.mem_cons_of_mem _ hx)⟩
theorem srtOk_sub {ps qs : List PyData} (h : ∀ p, p ∈ qs → p ∈ ps) (k : srtOk ps = true) : srtOk qs = true := by
  unfold srtOk alikes at *
  simp only [Bool.and_eq_true, Bool.or_eq_true] at *
  obtain ⟨⟨a, b⟩, c⟩ := k
  refine ⟨⟨?_, ?_⟩, ?_⟩
  · exact List.all_eq_true.mpr fun p hp => List.all_eq_true.mpr fun q hq => List.all_eq_true.mp (List.all_eq_true.mp a p (h p hp)) q (h q hq)
  · exact List.all_eq_true.mpr fun p hp => List.all_eq_true.mp b p (h p hp)
  · rcases c with c | c
    · exact .inl (List.all_eq_true.mpr fun p hp => List.all_eq_true.mp c p (h p hp))
    · exact .inr (List.all_eq_true.mpr fun p hp => List.all_eq_true.mp c p (h p hp))
section
variable {A : Ad} {B : Nat → Nat} {b : Nat} {X : Cx} {io : List Addr} {H : Hp}
theorem tups_refs {K : PySem.W.Frag} : ∀ {ds : List D} {vs : List V}, Reps A K io b H ds vs → (∀ d, d ∈ ds → ∃ es, d = .tup es) → ∃ as : List Addr, vs = as.map V.ref
  | [], _, .nil, _ => ⟨[], rfl⟩
  | d :: ds, _, .cons r t, h => by
    obtain ⟨as, e⟩ := tups_refs t fun x hx => h x (List.mem_cons_of_mem _ hx)
    obtain ⟨es, rfl⟩ := h d List.mem_cons_self
    cases r with
    | @tup a _ _ _ _ _ => exact ⟨a :: as, by rw [e]; rfl⟩
/-- the elements that the set has, as data -/
theorem had_data {K : PySem.W.Frag} {ds : List D} {as : List Addr} (rs : Reps A K io b H ds (as.map V.ref)) : ∀ {L : List (NestedKey × Addr)}, (∀ p ∈ L, p ∈ (ds.map nk).zip as) → ∃ M : List D, M.map nk = L.map Prod.fst ∧ Reps A K io b H M ((L.map Prod.snd).map V.ref) ∧ ∀ d ∈ M, d ∈ ds
  | [], _ => ⟨[], rfl, .nil, fun d hd => (by cases hd)⟩
  | p :: L, h => by
    obtain ⟨M, e, r, m⟩ := had_data rs (L := L) fun q hq => h q (List.mem_cons_of_mem _ hq)
    obtain ⟨d, hd, e1, r1⟩ := (reps_zip rs).2 p (h p List.mem_cons_self)
    exact ⟨d :: M, by rw [List.map_cons, List.map_cons, e, e1], .cons r1 r, fun x hx => by
      rcases List.mem_cons.mp hx with z | z
      · rw [z]; exact hd
      · exact m x z⟩
theorem had_perm {ds : List D} {as : List Addr} {L : List (NestedKey × Addr)} {M : List D} (len : ds.length = as.length) (g : Had ((ds.map nk).zip as) L) (nd : (L.map Prod.fst).Nodup) (hs : ∀ d, d ∈ ds → d.hsh = true) (e : M.map nk = L.map Prod.fst) (m : ∀ d ∈ M, d ∈ ds) : M.Perm (ddD ds) := by
  have nM : M.Nodup := by
    rw [← e] at nd
    exact List.Pairwise.of_map nk (fun _ _ hne h => hne (congrArg nk h)) nd
  refine (List.perm_ext_iff_of_nodup nM (dd_nd ds)).mpr fun d => ⟨fun h => dd_mem.mpr (m d h), fun h => ?_⟩
  have hd := dd_mem.mp h
  obtain ⟨i, hi, ei⟩ := List.getElem_of_mem hd
  have hz : (nk d, as[i]'(by omega)) ∈ (ds.map nk).zip as := by
    have : ((ds.map nk).zip as)[i]? = some (nk d, as[i]'(by omega)) := by
      rw [List.getElem?_zip_eq_some]
      exact ⟨by rw [List.getElem?_map, List.getElem?_eq_getElem hi, ei]; rfl, List.getElem?_eq_getElem (by omega)⟩
    exact List.mem_of_getElem? this
  have := g.all _ hz
  rw [← e] at this
  obtain ⟨d', h1, h2⟩ := List.mem_map.mp this
  rw [← nk_inj d' d (hs d' (m d' h1)) (hs d hd) h2]
  exact h1
theorem ltE_le {a b : D} (h : ltE a b = true) : W.dataLe false encD a b = true := by
  rw [W.dataLe_eq]
  simp only [cond_false, Bool.not_eq_true']
  cases e : W.dataLt (encD b) (encD a) with
  | false => rfl
  | true => have := lt_tr e h; rw [lt_irr] at this; cases this
theorem strict_ne {L : List D} (h : L.Pairwise fun a b => ltE a b = true) : ∀ a, a ∈ L → ∀ b, b ∈ L → a = b ∨ ltE a b = true ∨ ltE b a = true := by
  induction h with
  | nil => intro a ha; cases ha
  | @cons x r h1 h2 ih =>
    intro a ha b hb
    rcases List.mem_cons.mp ha with z | z <;> rcases List.mem_cons.mp hb with y | y
    · exact .inl (z.trans y.symm)
    · rw [z]; exact .inr (.inl (h1 b y))
    · rw [y]; exact .inr (.inr (h1 a z))
    · exact ih a z b y
/-- sorted: a strictly rising list of the same things -/
theorem srt_strict {ds L : List D} (hp : ds.Perm L) (hs : L.Pairwise fun a b => ltE a b = true) : ds.mergeSort (W.dataLe false encD) = L := by
  refine List.Perm.eq_of_pairwise (le := fun a b => W.dataLe false encD a b = true) ?_ (List.pairwise_mergeSort le_tr le_tot ds) (hs.imp ltE_le) ((List.mergeSort_perm ds _).trans hp)
  intro a b ha hb h1 h2
  have ha' : a ∈ L := ((List.mergeSort_perm ds _).trans hp).mem_iff.mp ha
  rcases strict_ne hs a ha' b hb with z | z | z
  · exact z
  · rw [W.dataLe_eq] at h2
    simp only [cond_false, Bool.not_eq_true'] at h2
    unfold ltE at z
    rw [z] at h2; cases h2
  · rw [W.dataLe_eq] at h1
    simp only [cond_false, Bool.not_eq_true'] at h1
    unfold ltE at z
    rw [z] at h1; cases h1
theorem cr_or {f : Value} {r1 r2 : List V → Hp → VK → Prop} (h1 : CallR X f r1) (h2 : CallR X f r2) : CallR X f (fun xs H Q => r1 xs H Q ∨ r2 xs H Q) := fun pins s σ H xs us Q I r h => h.elim (h1 pins s σ H xs us Q I r) (h2 pins s σ H xs us Q I r)
variable {W : Wi} {e : Expr} {f : Sg → M → Option (Rs D × M)}
theorem n_sst {x y : Str} {p p2 pos pos2 : Pos} (hc : X.calm = true) (hu : X.A.units + 100 < cLine) (hg : glB X.env.scope x = true) (hn : x = ("sorted" : Str)) (hm : X.mg "sorted" = none) (hg2 : glB X.env.scope y = true) (hn2 : y = ("set" : Str)) (hm2 : X.mg "set" = none) (hp : plE e = true) (ha : PE X e (tD A X B b W f)) :
    PE X (.Call (.Name x p) [.Call (.Name y p2) [e] [] pos2] [] pos) (tD A X B b W fun s m => bnd (f s m) fun d m1 => giv ((sstM m1 d).map .lst) m1) := by
  subst hn hn2
  refine pe_imp (L2.pe_callB (cr_or (L2.cr_sortedSet hc) (cr_sortN (A := A) hc hu)) (gl_of hg).1 hm (by decide +kernel) (L2.pa_cons (L2.pe_callTy (cr_or (cr_setTu hc) (cr_setN (A := A) hc (by omega))) (gl_of hg2).1 hm2 (by decide +kernel) (L2.pa_cons ha L2.pa_nil (pl_star hp _ _)) (gl_of hg2).2.2 (gl_of hg2).2.1 (pl_star hp _ _) (pl_any rfl)) L2.pa_nil) (gl_of hg).2.2 (gl_of hg).2.1 (by rfl) (pl_any rfl)) fun σ H Q q => ?_
  obtain ⟨io, s, m, R, S, q⟩ := q
  refine tG.step (RR := RD A X.K) R S q fun io1 H1 m1 d v x1 R1 S1 r1 h1 => ?_
  obtain ⟨r, e, q⟩ := h1.giv
  by_cases ht : ∃ ds, d = .tup ds
  · obtain ⟨ds, rfl⟩ := ht
    cases r1 with
    | tup h2 z r2 =>
      simp only [sstM] at e
      cases hi : intsD ds with
      | none => rw [hi] at e; cases e
      | some ns =>
        rw [hi] at e
        simp only [Option.bind_some] at e
        split at e
        · rename_i hl
          cases e
          have hv := vals_ints r2 hi
          subst hv
          refine .inl ⟨_, ns, rfl, h2.sq, by unfold scanBound; omega, fun a c hna hcn => .inl ⟨a, _, c, rfl, L2.upd_same, by omega, fun ns' p' pw mm ln hnp => ?_⟩⟩
          have en : ns' = sdI ns := pw_uniq pw (sdI_pw ns) fun k => by rw [mm, sdI_mem, decide_eq_true_eq]
          have hz : ((sdI ns).map D.int).length ≤ sizeLine := by rw [List.length_map, ← en, ln]; exact Nat.le_trans (by omega : _ ≤ 1000) (by decide)
          have R2 := R1.laid (o := L2.SetO X.w a (fun j => decide (j ∈ ns)) c) hna
          have E2 := ext_new (A := A) (io := io1) (L2.SetO X.w a (fun j => decide (j ∈ ns)) c) hna
          rw [en]
          exact q io1 _ _ (E2.trans (ext_new _ hnp)) (R2.laid hnp) (.lst (R2.fresh hnp) L2.upd_same hz (reps_ints _))
        · cases e
  · have e' : ∃ l0, (lstM m1 d).bind sstL = some l0 ∧ r = .lst l0 := by
      have e2 : ((lstM m1 d).bind sstL).map D.lst = some r := by
        cases d <;> first | exact e | exact absurd ⟨_, rfl⟩ ht
      obtain ⟨l0, e3, e4⟩ := Option.map_eq_some_iff.mp e2
      exact ⟨l0, e3, e4.symm⟩
    obtain ⟨l0, e3, rfl⟩ := e'
    cases hl : lstM m1 d with
    | none => rw [hl] at e3; cases e3
    | some ds =>
      rw [hl, Option.bind_some] at e3
      obtain ⟨a0, vs, rfl, hv, rs, _⟩ := r1.lstEx R1 hl
      unfold sstL at e3
      split at e3
      · rename_i hz
        rw [Bool.and_eq_true, decide_eq_true_eq] at hz
        obtain ⟨hz, few⟩ := hz
        have each : ∀ d, d ∈ ds → ∃ es, d = .tup es ∧ d.hsh = true ∧ (nk d).depth ≤ 8 := fun d hd => by
          have := List.all_eq_true.mp hz d hd
          split at this
          · rename_i es
            rw [Bool.and_eq_true, decide_eq_true_eq] at this
            exact ⟨es, rfl, by rw [D.hsh]; exact this.1, this.2⟩
          · cases this
        obtain ⟨as, rfl⟩ := tups_refs rs fun d hd => by obtain ⟨es, h, _⟩ := each d hd; exact ⟨es, h⟩
        have good : ∀ d, d ∈ ds → d.hsh = true ∧ (nk d).depth ≤ 8 := fun d hd => by obtain ⟨es, _, h⟩ := each d hd; exact h
        cases hs : srtD (ddD ds) with
        | none => rw [hs] at e3; cases e3
        | some L0 =>
          rw [hs] at e3
          simp only at e3
          split at e3
          · rename_i up
            cases e3
            refine .inr ⟨a0, io1, ds, as, rfl, .inl (.inl hv), rs, good, few, fun a L hna g nd => ?_⟩
            obtain ⟨M, m1', m2, m3⟩ := had_data rs g.sub
            have pm := had_perm (reps_zip rs).1 g nd (fun d hd => (good d hd).1) m1' m3
            have R2 := R1.laid (o := SxO X.prog X.w a L) hna
            have E2 := ext_new (A := A) (io := io1) (SxO X.prog X.w a L) hna
            have hp0 := hshs_py (ddD ds) (hshs_all fun d hd => (good d (dd_mem.mp hd)).1)
            have hpM := hshs_py M (hshs_all fun d hd => (good d (m3 d hd)).1)
            rw [srtD_m] at hs
            rw [hp0] at hs
            simp only at hs
            split at hs
            · rename_i ok
              rw [Bool.and_eq_true, decide_eq_true_eq] at ok
              cases hs
              refine .inr ⟨a, L, io1, M, _, rfl, L2.upd_same, m1', Reps.mono E2 (Nat.le_refl _) m2, fun d hd => good d (m3 d hd), hpM, srtOk_sub (fun p hp => (pm.map encD).mem_iff.mp hp) ok.1, fun M' ws p pmM few' rws hnp => ?_⟩
              have pL : M'.Perm ((ddD ds).mergeSort (PySem.W.dataLe false encD)) := (pmM.trans pm).trans (List.mergeSort_perm ..).symm
              rw [srt_strict pL (up_pw up)] at rws
              have hlen : ((ddD ds).mergeSort (PySem.W.dataLe false encD)).length ≤ sizeLine := by rw [List.length_mergeSort]; exact ok.2
              exact q io1 _ _ (E2.trans (ext_new _ hnp)) (R2.laid hnp) (.lst (R2.fresh hnp) L2.upd_same hlen (Reps.mono (ext_new _ hnp) (Nat.le_refl _) rws))
            · cases hs
          · cases e3
      · cases e3
end
end Bo

set_option Elab.async false
set_option linter.all false
set_option maxRecDepth 100000
/-! B16: the evaluator is right about expressions. -/
namespace Bo
open PySem PySem.Spec PyProof.Rows
open L2 (V HO Hp Rd SqL SqT Vals upd Cx PE PT PA PO PI PW PG PGs PTs PS PSs OpR UnR CallR SlR IxR VK XK TE TT TA TO TI TG TGs TS Ends Inv RelV EP Room Sp FnOk Gl Vis Binds WX Takes tOp tCons tNil It Turn PIE Loc BlkOk)
variable {l : Lk} {G : List (Str × D)} {N : List Str} {T : Tb} {n : Nat} {B : Nat → Nat} {b : Nat}
theorem e_v (i : Nat) : EvP l G N T n B b (.v i) := by
  intro A X W x F raw tk h
  cases x with
  | Name nm p =>
    simp only [mE, Bool.and_eq_true, decide_eq_true_eq, bne_iff_ne, ne_eq] at h
    refine both (n_var (by rw [F.N]; exact h.1.1.2) (vis_of h.1.1.1) ?_ ?_) rfl
    · simpa using h.1.2
    · simpa using h.2
  | _ => simp [mE] at h
theorem e_k (d : D) : EvP l G N T n B b (.k d) := by
  intro A X W x F raw tk h
  cases x with
  | Constant c j p =>
    simp only [mE] at h
    obtain ⟨v, h1, h2⟩ := n_kc (A := A) (X := X) (W := W) (j := j) (p := p) h
    exact both (n_const h1 (h2 A)) rfl
  | UnaryOp op a p =>
    cases op with
    | USub =>
      cases a with
      | Constant c j p =>
        cases c with
        | int k =>
          simp only [mE] at h
          cases d with
          | int i =>
            have e : i = -k := of_decide_eq_true h
            subst e
            refine both (n_const (v := .int (-k)) (pe_imp (L2.pe_un L2.un_neg L2.pe_int) fun σ H Q q => ⟨k, rfl, q⟩) (fun _ _ _ => .int _)) rfl
          | _ => simp at h
        | _ => simp [mE] at h
      | _ => simp [mE] at h
    | _ => simp [mE] at h
  | _ => simp [mE] at h
theorem e_gl (i : Nat) (d : D) : EvP l G N T n B b (.gl i d) := by
  intro A X W x F raw tk h
  cases x with
  | Name nm p =>
    simp only [mE, Bool.and_eq_true] at h
    obtain ⟨h1, h2⟩ := h
    cases e : G[i]? with
    | none => simp [e] at h2
    | some q =>
      obtain ⟨n', d'⟩ := q
      simp only [e, Bool.and_eq_true, decide_eq_true_eq] at h2
      obtain ⟨rfl, h3⟩ := h2
      have e2 := D.beq_eq _ _ h3
      subst e2
      obtain ⟨v, u, g1, g2, g3⟩ := F.gl i _ _ e
      exact both (n_const (L2.pe_glob (gl_of h1).1 g1 g2 (gl_of h1).2.1) (g3 A.hd)) rfl
  | _ => simp [mE] at h
theorem e_fnm (f : Nat) : EvP l G N T n B b (.fnm f) := by
  intro A X W x F raw tk h
  cases x with
  | Name nm p =>
    simp only [mE, Bool.and_eq_true, decide_eq_true_eq] at h
    obtain ⟨a, g1, g2, _⟩ := F.fn f _ h.2
    exact both (n_const (L2.pe_glob (v := .ref a) (gl_of h.1).1 g2 rfl (gl_of h.1).2.1) (fun _ _ _ => .fn g1)) rfl
  | _ => simp [mE] at h
theorem e_tup {es : E} (ih : EsP l G N T n B b es) : EvP l G N T n B b (.tup es) := by
  intro A X W x F raw tk h
  cases x with
  | Tuple xs k p =>
    simp only [mE] at h
    exact both (n_tup (ih A X W xs F raw tk h)) rfl
  | _ => simp [mE] at h
theorem e_lst {es : E} (ih : EsP l G N T n B b es) : EvP l G N T n B b (.lst es) := by
  intro A X W x F raw tk h
  cases x with
  | List xs p =>
    simp only [mE] at h
    exact both (n_lst (ih A X W xs F raw tk h)) rfl
  | _ => simp [mE] at h
theorem e_new {es : E} (ih : EsP l G N T n B b es) : EvP l G N T n B b (.new es) := by
  intro A X W x F raw tk h
  cases x with
  | List xs p =>
    simp only [mE] at h
    exact both (n_new (ih A X W xs F raw tk h)) rfl
  | _ => simp [mE] at h
theorem e_bin {o : Op} {a c : E} (ha : EvP l G N T n B b a) (hc : EvP l G N T n B b c) : EvP l G N T n B b (.bin o a c) := by
  intro A X W x F raw tk h
  cases x with
  | BinOp a' o' c' p =>
    simp only [mE, Bool.and_eq_true] at h
    exact both (n_bin h.1.1 (ha A X W a' F raw tk h.1.2).1 (hc A X W c' F raw tk h.2).1) rfl
  | _ => simp [mE] at h
theorem e_cat {a c : E} (ha : EvP l G N T n B b a) (hc : EvP l G N T n B b c) : EvP l G N T n B b (.cat a c) := by
  intro A X W x F raw tk h
  cases x with
  | BinOp a' o' c' p =>
    cases o' with
    | Add =>
      simp only [mE, Bool.and_eq_true] at h
      exact both (n_cat (ha A X W a' F raw tk h.1).1 (hc A X W c' F raw tk h.2).1) rfl
    | _ => simp [mE] at h
  | _ => simp [mE] at h
theorem e_dnew : EvP l G N T n B b .dnew := by
  intro A X W x F raw tk h
  cases x with
  | Dict ks vs p =>
    cases ks with
    | nil =>
      cases vs with
      | nil => exact both n_dnew rfl
      | cons _ _ => simp [mE] at h
    | cons _ _ => simp [mE] at h
  | _ => simp [mE] at h
theorem e_cmp {o : Cm} {a c : E} (ha : EvP l G N T n B b a) (hc : EvP l G N T n B b c) : EvP l G N T n B b (.cmp o a c) := by
  intro A X W x F raw tk h
  unfold mE at h
  split at h
  · simp only [Bool.and_eq_true] at h
    exact ⟨n_cmp (units F) h.1.1 (mE_pl h.2) (ha A X W _ F raw tk h.1.2).1 (hc A X W _ F raw tk h.2).1, fun _ => n_cmpT (units F) h.1.1 (mE_pl h.2) (ha A X W _ F raw tk h.1.2).1 (hc A X W _ F raw tk h.2).1⟩
  · cases h
theorem e_chn {o p : Cm} {a c d : E} (ha : EvP l G N T n B b a) (hc : EvP l G N T n B b c) (hd : EvP l G N T n B b d) : EvP l G N T n B b (.chn o p a c d) := by
  intro A X W x F raw tk h
  unfold mE at h
  split at h
  · simp only [Bool.and_eq_true] at h
    exact ⟨n_chn (units F) h.1.1.1.1 h.1.1.1.2 (mE_pl h.2) (ha A X W _ F raw tk h.1.1.2).1 (hc A X W _ F raw tk h.1.2).1 (hd A X W _ F raw tk h.2).1,
      fun _ => n_chnT (units F) h.1.1.1.1 h.1.1.1.2 (mE_pl h.2) (ha A X W _ F raw tk h.1.1.2).1 (hc A X W _ F raw tk h.1.2).1 (hd A X W _ F raw tk h.2).1⟩
  · cases h
theorem e_isk {yes : Bool} {a : E} {d : D} (ha : EvP l G N T n B b a) : EvP l G N T n B b (.isk yes a d) := by
  intro A X W x F raw tk h
  unfold mE at h
  split at h
  · simp only [Bool.and_eq_true] at h
    obtain ⟨⟨rfl, h1⟩, h2⟩ := h
    obtain ⟨v, g1, g2⟩ := n_kc (A := A) (X := X) (W := W) h2
    obtain ⟨q1, q2⟩ := is_core (op_is (A := A) (B := B) (b := b) d) g1 (g2 A) rfl (ha A X W _ F raw tk h1).1
    exact ⟨q1, fun _ => q2⟩
  · simp only [Bool.and_eq_true, Bool.not_eq_true'] at h
    obtain ⟨⟨rfl, h1⟩, h2⟩ := h
    obtain ⟨v, g1, g2⟩ := n_kc (A := A) (X := X) (W := W) h2
    obtain ⟨q1, q2⟩ := is_core (op_isnt (A := A) (B := B) (b := b) d) g1 (g2 A) rfl (ha A X W _ F raw tk h1).1
    exact ⟨q1, fun _ => q2⟩
  · cases h
theorem e_not {a : E} (ha : EvP l G N T n B b a) : EvP l G N T n B b (.not a) := by
  intro A X W x F raw tk h
  unfold mE at h
  split at h
  · simp only [Bool.and_eq_true] at h
    obtain ⟨q1, q2⟩ := ha A X W _ F raw tk h.2
    exact ⟨n_not q1, fun _ => n_notT (q2 h.1)⟩
  · cases h
theorem e_ife {t a c : E} (ht : EvP l G N T n B b t) (ha : EvP l G N T n B b a) (hc : EvP l G N T n B b c) : EvP l G N T n B b (.ife t a c) := by
  intro A X W x F raw tk h
  unfold mE at h
  split at h
  · simp only [Bool.and_eq_true] at h
    exact ⟨n_ife ((ht A X W _ F raw tk h.1.1.2).2 h.1.1.1) (ha A X W _ F raw tk h.1.2).1 (hc A X W _ F raw tk h.2).1, fun z => by cases z⟩
  · cases h
theorem e_ix {a i : E} (ha : EvP l G N T n B b a) (hi : EvP l G N T n B b i) : EvP l G N T n B b (.ix a i) := by
  intro A X W x F raw tk h
  unfold mE at h
  split at h
  · simp only [Bool.and_eq_true] at h
    have := units F
    exact both (n_ix (by omega) (mE_pl h.2) (ha A X W _ F raw tk h.1).1 (hi A X W _ F raw tk h.2).1) rfl
  · cases h
theorem e_sl {a lo hi : E} (ha : EvP l G N T n B b a) (hl : OpP l G N T n B b lo) (hh : OpP l G N T n B b hi) : EvP l G N T n B b (.sl a lo hi) := by
  intro A X W x F raw tk h
  unfold mE at h
  split at h
  · simp only [Bool.and_eq_true] at h
    exact both (n_sl (ha A X W _ F raw tk h.1.1).1 (hl A X W _ F raw tk h.1.2) (hh A X W _ F raw tk h.2)) rfl
  · cases h
theorem e_rv {a : E} (ha : EvP l G N T n B b a) : EvP l G N T n B b (.rv a) := by
  intro A X W x F raw tk h
  unfold mE at h
  split at h
  · exact both (n_rv (ha A X W _ F raw tk h).1) rfl
  · cases h
theorem e_bi {bb : Bi} {es : E} (ih : EsP l G N T n B b es) : EvP l G N T n B b (.bi bb es) := by
  intro A X W x F raw tk h
  unfold mE at h
  split at h
  · rename_i nm p xs q
    simp only [Bool.and_eq_true, decide_eq_true_eq, Bool.not_eq_true'] at h
    obtain ⟨⟨⟨⟨h1, rfl⟩, h0⟩, h3⟩, h4⟩ := h
    cases xs with
    | nil => cases h3
    | cons e r =>
      have hp := mEs_pl h4
      rcases bi_case (B := B) (b := b) F raw bb h0 with ⟨id, hv, hc⟩ | ⟨ty, hv, hc⟩
      · exact both (n_biB hc h1 (F.bi _ (biN_mem bb)) hv (ih A X W _ F raw tk h4) hp) rfl
      · exact both (n_biT hc h1 (F.bi _ (biN_mem bb)) hv (ih A X W _ F raw tk h4) hp) rfl
  · cases h
theorem e_isi {a : E} {k : Ki} (ha : EvP l G N T n B b a) : EvP l G N T n B b (.isi a k) := by
  intro A X W x F raw tk h
  unfold mE at h
  split at h
  · simp only [Bool.and_eq_true, decide_eq_true_eq] at h
    obtain ⟨⟨⟨⟨h1, rfl⟩, h3⟩, h4⟩, h5⟩ := h
    obtain ⟨c, u, cv, hu, hc⟩ := ki_case F h4 h3
    exact both (n_isi F.cls h1 (F.bi _ (by decide +kernel)) (by decide +kernel) cv hu hc (mE_pl h5) rfl (ha A X W _ F raw tk h5).1) rfl
  · cases h
theorem m_list {A : Ad} {X : Cx} (F : Fr A l G N T n X) : X.mg "list" = none := (show nList = ("list" : Str) by decide +kernel) ▸ F.bi nList (by decide +kernel)
theorem m_range {A : Ad} {X : Cx} (F : Fr A l G N T n X) : X.mg "range" = none := (show nRange = ("range" : Str) by decide +kernel) ▸ F.bi nRange (by decide +kernel)
theorem m_enum {A : Ad} {X : Cx} (F : Fr A l G N T n X) : X.mg "enumerate" = none := (show nEnum = ("enumerate" : Str) by decide +kernel) ▸ F.bi nEnum (by decide +kernel)
theorem m_zip {A : Ad} {X : Cx} (F : Fr A l G N T n X) : X.mg "zip" = none := (show nZip = ("zip" : Str) by decide +kernel) ▸ F.bi nZip (by decide +kernel)
theorem pe_ext {X : Cx} {x : Expr} {A : Ad} {W : Wi} {f g : Sg → M → Option (Rs D × M)} (h : PE X x (tD A X B b W f)) (e : ∀ s m, f s m = g s m) : PE X x (tD A X B b W g) := by
  have : f = g := funext fun s => funext fun m => e s m
  rw [← this]
  exact h
theorem ev1 (C : Cl) (a : E) (s : Sg) (m : M) : evs C (.cons a .nil) s m = bnd (ev C a s m) fun d m1 => some (.ok [d], m1) := rfl
theorem ev2 (C : Cl) (a c : E) (s : Sg) (m : M) : evs C (.cons a (.cons c .nil)) s m = bnd (ev C a s m) fun d m1 => bnd (ev C c s m1) fun d2 m2 => some (.ok [d, d2], m2) := by
  show bnd (ev C a s m) (fun d m1 => bnd (bnd (ev C c s m1) fun d2 m2 => bnd (some (.ok [], m2)) fun ds m3 => some (.ok (d2 :: ds), m3)) fun ds m2 => some (.ok (d :: ds), m2)) = _
  congr 1
  funext d m1
  rw [bnd_assoc]
  rfl
theorem e_lsr1 {al : Bool} {a : E} (ha : EvP l G N T n B b a) : EvP l G N T n B b (.lsr al (.cons a .nil)) := by
  intro A X W x F raw tk h
  unfold mE at h
  split at h
  · simp only [Bool.and_eq_true, decide_eq_true_eq] at h
    obtain ⟨⟨⟨⟨⟨h1, h2⟩, h3⟩, h4⟩, h5⟩, h6⟩ := h
    unfold mEs at h6
    split at h6
    · simp only [Bool.and_eq_true] at h6
      obtain ⟨h6, h7⟩ := h6
      simp only [mEs, List.isEmpty_iff] at h7
      subst h7
      refine both (pe_ext (n_lsr1 (al := al) F.calm h1 (h2.trans (by decide +kernel)) (m_list F) h3 (h4.trans (by decide +kernel)) (m_range F) (mE_pl h6) (ha A X W _ F raw tk h6).1) fun s m => ?_) rfl
      show _ = bnd (evs (cC b T n) (.cons a .nil) s m) fun ds m1 => lsrK al ds m1
      rw [ev1, bnd_assoc]
      rfl
    · cases h6
  · cases h
theorem e_lsr2 {al : Bool} {a c : E} (ha : EvP l G N T n B b a) (hc : EvP l G N T n B b c) : EvP l G N T n B b (.lsr al (.cons a (.cons c .nil))) := by
  intro A X W x F raw tk h
  unfold mE at h
  split at h
  · simp only [Bool.and_eq_true, decide_eq_true_eq] at h
    obtain ⟨⟨⟨⟨⟨h1, h2⟩, h3⟩, h4⟩, h5⟩, h6⟩ := h
    unfold mEs at h6
    split at h6
    · simp only [Bool.and_eq_true] at h6
      obtain ⟨h6, h7⟩ := h6
      unfold mEs at h7
      split at h7
      · simp only [Bool.and_eq_true] at h7
        obtain ⟨h7, h8⟩ := h7
        simp only [mEs, List.isEmpty_iff] at h8
        subst h8
        refine both (pe_ext (n_lsr2 (al := al) F.calm h1 (h2.trans (by decide +kernel)) (m_list F) h3 (h4.trans (by decide +kernel)) (m_range F) (mE_pl h6) (mE_pl h7) (ha A X W _ F raw tk h6).1 (hc A X W _ F raw tk h7).1) fun s m => ?_) rfl
        show _ = bnd (evs (cC b T n) (.cons a (.cons c .nil)) s m) fun ds m1 => lsrK al ds m1
        rw [ev2, bnd_assoc]
        congr 1
        funext d m1
        rw [bnd_assoc]
        rfl
      · cases h7
    · cases h6
  · cases h
theorem e_lsq {al : Bool} {a : E} (ha : EvP l G N T n B b a) : EvP l G N T n B b (.lsq al a) := by
  intro A X W x F raw tk h
  unfold mE at h
  split at h
  · simp only [Bool.and_eq_true, decide_eq_true_eq] at h
    exact both (n_lsq F.calm h.1.1 (h.1.2.trans (by decide +kernel)) (m_list F) (mE_pl h.2) (ha A X W _ F raw tk h.2).1) rfl
  · cases h
theorem e_call {f : Nat} {es : E} (ih : EsP l G N T n B b es) : EvP l G N T n B b (.call f es) := by
  intro A X W x F raw tk h
  unfold mE at h
  split at h
  · rename_i nm p xs q
    simp only [Bool.and_eq_true, decide_eq_true_eq] at h
    cases xs with
    | nil =>
      have e : es = .nil := by
        have h3 := h.2
        cases es <;> simp [mEs] at h3 <;> rfl
      subst e
      exact both (pe_ext (n_call0 F tk h.1.2 h.1.1) fun s m => rfl) rfl
    | cons y ys => exact both (n_call F tk h.1.2 h.1.1 (ih A X W _ F raw tk h.2) (mEs_pl h.2)) rfl
  · cases h
/-! ### books -/
theorem any_mem {x : Str} {xs : List Str} (h : (xs.any fun z => decide (z = x)) = true) : x ∈ xs := by
  obtain ⟨y, hy, q⟩ := List.any_eq_true.mp h
  rw [decide_eq_true_eq] at q
  rw [← q]
  exact hy
theorem e_mth {f : Nat} {a es : E} (ha : EvP l G N T n B b a) (ih : EsP l G N T n B b es) : EvP l G N T n B b (.mth f a es) := by
  intro A X W x F raw tk h
  unfold mE at h
  split at h
  · rename_i a' nm p xs q
    simp only [Bool.and_eq_true, decide_eq_true_eq, Bool.not_eq_true'] at h
    obtain ⟨⟨⟨⟨⟨⟨h1, h2⟩, h3⟩, h4⟩, h5⟩, h6⟩, h7⟩ := h
    cases xs with
    | nil =>
      have e : es = .nil := by cases es <;> simp [mEs] at h7 <;> rfl
      subst e
      exact both (pe_ext (n_mth0 F tk h1 h2 h4 h3 (ha A X W _ F raw tk h6).1) fun s m => rfl) rfl
    | cons y ys => exact both (n_mth F tk h1 h2 h4 h3 (ha A X W _ F raw tk h6).1 (ih A X W _ F raw tk h7) (mEs_pl h7) h5) rfl
  · cases h
theorem e_mthk {f : Nat} {a es : E} (ha : EvP l G N T n B b a) : EvP l G N T n B b (.mthk f a es) := by
  intro A X W x F raw tk h
  unfold mE at h
  split at h
  · simp only [Bool.and_eq_true, decide_eq_true_eq, Bool.not_eq_true'] at h
    obtain ⟨⟨⟨⟨⟨h0, h1⟩, h2⟩, h3⟩, h4⟩, h6⟩ := h
    have e : es = .nil := by cases es <;> first | rfl | cases h0
    subst e
    exact both (pe_ext (n_mthk0 F tk h1 h2 h4 h3 (ha A X W _ F raw tk h6).1) fun s m => rfl) rfl
  · cases h
theorem e_mk {c f : Nat} {es : E} (ih : EsP l G N T n B b es) : EvP l G N T n B b (.mk c f es) := by
  intro A X W x F raw tk h
  unfold mE at h
  split at h
  · rename_i nm p xs q
    simp only [Bool.and_eq_true, decide_eq_true_eq, Bool.not_eq_true'] at h
    obtain ⟨⟨⟨⟨⟨h1, rfl⟩, h3⟩, h4⟩, h5⟩, h6⟩ := h
    cases xs with
    | nil => cases h5
    | cons y ys => exact both (n_mk F tk h4 h3 h1 (ih A X W _ F raw tk h6) (mEs_pl h6)) rfl
  · cases h
theorem e_fld {a : E} {y : Str} (ha : EvP l G N T n B b a) : EvP l G N T n B b (.fld a y) := by
  intro A X W x F raw tk h
  unfold mE at h
  split at h
  · simp only [Bool.and_eq_true, decide_eq_true_eq] at h
    obtain ⟨⟨⟨rfl, h2⟩, h3⟩, h4⟩ := h
    exact both (n_fld F (any_mem h2) h3 (ha A X W _ F raw tk h4).1) rfl
  · cases h
theorem e_dun {k f : Nat} {es : E} (ih : EsP l G N T n B b es) : EvP l G N T n B b (.dun k f es) := by
  intro A X W x F raw tk h
  unfold mE at h
  split at h
  · rename_i nm p xs q
    simp only [Bool.and_eq_true, Bool.or_eq_true, decide_eq_true_eq, Bool.not_eq_true'] at h
    obtain ⟨⟨⟨h1, h2⟩, h3⟩, h4⟩ := h
    cases xs with
    | nil => cases h2
    | cons y ys =>
      refine ⟨?_, fun z => by cases z⟩
      rcases h4 with ⟨⟨rfl, rfl⟩, h4⟩ | ⟨⟨rfl, rfl⟩, h4⟩
      · exact n_dunB (cr_dlen F tk h4) h1 (F.bi _ (by decide +kernel)) (by decide +kernel) (ih A X W _ F raw tk h3) (mEs_pl h3)
      · exact n_dunT (cr_dstr F tk h4) h1 (F.bi _ (by decide +kernel)) (by decide +kernel) (ih A X W _ F raw tk h3) (mEs_pl h3)
  · cases h
theorem e_deq {f : Nat} {a c : E} (ha : EvP l G N T n B b a) (hc : EvP l G N T n B b c) : EvP l G N T n B b (.deq f a c) := by
  intro A X W x F raw tk h
  unfold mE at h
  split at h
  · simp only [Bool.and_eq_true, decide_eq_true_eq] at h
    obtain ⟨⟨h1, h2⟩, h3⟩ := h
    refine ⟨n_dunE F tk h1 (ha A X W _ F raw tk h2).1 (hc A X W _ F raw tk h3).1, fun z => by cases z⟩
  · cases h
/-! ### methods -/
theorem giv_of (o : Option D) (m : M) : (match o.map fun r => (r, m) with
      | some (r, m3) => some (Rs.ok r, m3)
      | none => none) = giv o m := by cases o <;> rfl
theorem e_cnt {a x : E} (ha : EvP l G N T n B b a) (hx : EvP l G N T n B b x) : EvP l G N T n B b (.cnt a x) := by
  intro A X W y F raw tk h
  unfold mE at h
  split at h
  · simp only [Bool.and_eq_true, decide_eq_true_eq] at h
    obtain ⟨⟨⟨⟨h1, h2⟩, h3⟩, h4⟩, h5⟩ := h
    subst h1
    refine both (pe_ext (n_m1 PySem.F.slot_list_count PySem.F.type_list_count (mt_cnt (A := A) (B := B) (b := b)) h3 h2 (ha A X W _ F raw tk h4).1 (hx A X W _ F raw tk h5).1 (mE_pl h5)) fun s m => ?_) rfl
    show _ = bnd (ev (cC b T n) a s m) fun o m1 => if (lstM m1 o).isSome then bnd (ev (cC b T n) x s m1) fun d m2 => giv (cntD m2 o d) m2 else none
    congr 1
    funext o m1
    split
    · congr 1
      funext d m2
      exact giv_of _ _
    · rfl
  · cases h
theorem fUpd_of (c : Nat) (f : List D → List D → Option (D × List D)) (add : List D → List D) (m : M) (o : D) (xs : List D) : (match fUpd c f add m o xs with
      | some (r, m3) => some (Rs.ok r, m3)
      | none => none) = updL c m o (fun ds => f xs ds) (add xs) := by
  unfold fUpd
  cases h : updL c m o (fun ds => f xs ds) (add xs) with
  | none => rfl
  | some q =>
    obtain ⟨r, m3⟩ := q
    obtain ⟨n, ds, r', es, _, _, _, _, _, e⟩ := updL_ex h
    cases e
    rfl
theorem e_app {a x : E} (ha : EvP l G N T n B b a) (hx : EvP l G N T n B b x) : EvP l G N T n B b (.app a x) := by
  intro A X W y F raw tk h
  unfold mE at h
  split at h
  · simp only [Bool.and_eq_true, decide_eq_true_eq] at h
    obtain ⟨⟨⟨⟨h1, h2⟩, h3⟩, h4⟩, h5⟩ := h
    subst h1
    refine both (pe_ext (n_m1 PySem.F.slot_list_append PySem.F.type_list_append (mt_app (A := A) (B := B) (b := b)) h3 h2 (ha A X W _ F raw tk h4).1 (hx A X W _ F raw tk h5).1 (mE_pl h5)) fun s m => ?_) rfl
    show _ = bnd (ev (cC b T n) a s m) fun o m1 => if (lstM m1 o).isSome then bnd (ev (cC b T n) x s m1) fun d m2 => updL b m2 o (fun ds => some (.non, ds ++ [d])) [d] else none
    congr 1
    funext o m1
    split
    · congr 1
      funext d m2
      exact fUpd_of _ _ _ _ _ _
    · rfl
  · cases h
theorem e_ext {a x : E} (ha : EvP l G N T n B b a) (hx : EvP l G N T n B b x) : EvP l G N T n B b (.ext a x) := by
  intro A X W y F raw tk h
  unfold mE at h
  split at h
  · simp only [Bool.and_eq_true, decide_eq_true_eq] at h
    obtain ⟨⟨⟨⟨h1, h2⟩, h3⟩, h4⟩, h5⟩ := h
    subst h1
    refine both (pe_ext (n_m1 PySem.F.slot_list_extend PySem.F.type_list_extend (mt_ext (A := A) (B := B) (b := b)) h3 h2 (ha A X W _ F raw tk h4).1 (hx A X W _ F raw tk h5).1 (mE_pl h5)) fun s m => ?_) rfl
    show _ = bnd (ev (cC b T n) a s m) fun o m1 => if (lstM m1 o).isSome then bnd (ev (cC b T n) x s m1) fun d m2 => (match lstM m2 d with
      | some es => updL b m2 o (fun ds => some (.non, ds ++ es)) es
      | none => none) else none
    congr 1
    funext o m1
    split
    · congr 1
      funext d m2
      show (match (lstM m2 d).bind fun es => fUpd b (fun _ ds => some (.non, ds ++ es)) (fun _ => es) m2 o [] with
        | some (r, m3) => some (Rs.ok r, m3)
        | none => none) = _
      cases lstM m2 d with
      | none => rfl
      | some es => exact fUpd_of b (fun _ ds => some (.non, ds ++ es)) (fun _ => es) m2 o []
    · rfl
  · cases h
theorem fUpd_lst {c : Nat} {f : List D → List D → Option (D × List D)} {add : List D → List D} {m : M} {o : D} {xs : List D} {r : D × M} (h : fUpd c f add m o xs = some r) : (lstM m o).isSome = true := by
  obtain ⟨r, m'⟩ := r
  obtain ⟨n, ds, es, rfl, e, _⟩ := fUpd_ex h
  simp [lstM, e]
theorem e_pop0 {a : E} (ha : EvP l G N T n B b a) : EvP l G N T n B b (.pop0 a) := by
  intro A X W y F raw tk h
  unfold mE at h
  split at h
  · simp only [Bool.and_eq_true, decide_eq_true_eq] at h
    obtain ⟨⟨⟨h1, h2⟩, h3⟩, h4⟩ := h
    subst h1
    refine both (pe_ext (n_m0 PySem.F.slot_list_pop PySem.F.type_list_pop (mt_pop0 (A := A) (B := B) (b := b)) h3 h2 (fun _ _ _ _ z => fUpd_lst z) (ha A X W _ F raw tk h4).1) fun s m => ?_) rfl
    show _ = bnd (ev (cC b T n) a s m) fun o m1 => updL b m1 o (fun ds => ds.getLast?.map fun d => (d, ds.dropLast)) []
    congr 1
    funext o m1
    exact fUpd_of _ _ _ _ _ _
  · cases h
theorem e_rvs {a : E} (ha : EvP l G N T n B b a) : EvP l G N T n B b (.rvs a) := by
  intro A X W y F raw tk h
  unfold mE at h
  split at h
  · simp only [Bool.and_eq_true, decide_eq_true_eq] at h
    obtain ⟨⟨⟨h1, h2⟩, h3⟩, h4⟩ := h
    subst h1
    refine both (pe_ext (n_m0 PySem.F.slot_list_reverse PySem.F.type_list_reverse (mt_rvs (A := A) (B := B) (b := b)) h3 h2 (fun _ _ _ _ z => fUpd_lst z) (ha A X W _ F raw tk h4).1) fun s m => ?_) rfl
    show _ = bnd (ev (cC b T n) a s m) fun o m1 => updL b m1 o (fun ds => some (.non, ds.reverse)) []
    congr 1
    funext o m1
    exact fUpd_of _ _ _ _ _ _
  · cases h
theorem e_pop1 {a x : E} (ha : EvP l G N T n B b a) (hx : EvP l G N T n B b x) : EvP l G N T n B b (.pop1 a x) := by
  intro A X W y F raw tk h
  unfold mE at h
  split at h
  · simp only [Bool.and_eq_true, decide_eq_true_eq] at h
    obtain ⟨⟨⟨⟨h1, h2⟩, h3⟩, h4⟩, h5⟩ := h
    subst h1
    refine both (pe_ext (n_m1 PySem.F.slot_list_pop PySem.F.type_list_pop (mt_pop1 (A := A) (B := B) (b := b)) h3 h2 (ha A X W _ F raw tk h4).1 (hx A X W _ F raw tk h5).1 (mE_pl h5)) fun s m => ?_) rfl
    show _ = bnd (ev (cC b T n) a s m) fun o m1 => if (lstM m1 o).isSome then bnd (ev (cC b T n) x s m1) fun j m2 => (match j with
      | .int j => if decide (0 ≤ j) && decide (j < 2 ^ 63) then updL b m2 o (fun ds => ds[j.toNat]?.map fun d => (d, ds.eraseIdx j.toNat)) [] else none
      | _ => none) else none
    congr 1
    funext o m1
    split
    · congr 1
      funext d m2
      cases d with
      | int j =>
        show (match (if (decide (0 ≤ j) && decide (j < 2 ^ 63)) = true then fUpd b (fun _ ds => ds[j.toNat]?.map fun d => (d, ds.eraseIdx j.toNat)) (fun _ => []) m2 o [] else none) with
          | some (r, m3) => some (Rs.ok r, m3)
          | none => none) = if (decide (0 ≤ j) && decide (j < 2 ^ 63)) = true then updL b m2 o (fun ds => ds[j.toNat]?.map fun d => (d, ds.eraseIdx j.toNat)) [] else none
        by_cases hz : (decide (0 ≤ j) && decide (j < 2 ^ 63)) = true
        · rw [if_pos hz, if_pos hz]
          exact fUpd_of b (fun _ ds => ds[j.toNat]?.map fun d => (d, ds.eraseIdx j.toNat)) (fun _ => []) m2 o []
        · rw [if_neg hz, if_neg hz]
      | _ => rfl
    · rfl
  · cases h
theorem e_join {a x : E} (ha : EvP l G N T n B b a) (hx : EvP l G N T n B b x) : EvP l G N T n B b (.join a x) := by
  intro A X W y F raw tk h
  unfold mE at h
  split at h
  · simp only [Bool.and_eq_true, decide_eq_true_eq] at h
    obtain ⟨⟨⟨⟨h1, h2⟩, h3⟩, h4⟩, h5⟩ := h
    subst h1
    refine both (pe_ext (n_s1 PySem.F.slot_str_join PySem.F.type_str_join (mt_joinD (A := A) (B := B) (b := b)) h3 h2 (ha A X W _ F raw tk h4).1 (hx A X W _ F raw tk h5).1 (mE_pl h5)) fun s m => ?_) rfl
    show _ = bnd (ev (cC b T n) a s m) fun o m1 => if isStr o then bnd (ev (cC b T n) x s m1) fun d m2 => giv (joinD m2 o d) m2 else none
    congr 1
    funext o m1
    split
    · congr 1
      funext d m2
      exact giv_of _ _
    · rfl
  · cases h
theorem e_splt {a x : E} (ha : EvP l G N T n B b a) (hx : EvP l G N T n B b x) : EvP l G N T n B b (.splt a x) := by
  intro A X W y F raw tk h
  unfold mE at h
  split at h
  · simp only [Bool.and_eq_true, decide_eq_true_eq] at h
    obtain ⟨⟨⟨⟨h1, h2⟩, h3⟩, h4⟩, h5⟩ := h
    subst h1
    refine both (pe_ext (n_s1 PySem.F.slot_str_split PySem.F.type_str_split (mt_spltD (A := A) (B := B) (b := b)) h3 h2 (ha A X W _ F raw tk h4).1 (hx A X W _ F raw tk h5).1 (mE_pl h5)) fun s m => ?_) rfl
    show _ = bnd (ev (cC b T n) a s m) fun o m1 => if isStr o then bnd (ev (cC b T n) x s m1) fun d m2 => giv (spltD o d) m2 else none
    congr 1
    funext o m1
    split
    · congr 1
      funext d m2
      exact giv_of _ _
    · rfl
  · cases h
/-! ### and, or -/
def AndP (l : Lk) (G : List (Str × D)) (N : List Str) (T : Tb) (n : Nat) (B : Nat → Nat) (b : Nat) (es : E) : Prop := ∀ (A : Ad) (X : Cx) (W : Wi) (xs : List Expr) (p : Pos), Fr A l G N T n X → RawAll → Takes X (wxOf A W) → tstEs es = true → mEs l G N es X.env.scope xs = true →
  PE X (.BoolOp .And xs p) (tD A X B b W (evAnd (cC b T n) es)) ∧ PW X (.BoolOp .And xs p) (tT A X B b W fun s m => tst (evAnd (cC b T n) es s m))
def OrP (l : Lk) (G : List (Str × D)) (N : List Str) (T : Tb) (n : Nat) (B : Nat → Nat) (b : Nat) (es : E) : Prop := ∀ (A : Ad) (X : Cx) (W : Wi) (xs : List Expr) (p : Pos), Fr A l G N T n X → RawAll → Takes X (wxOf A W) → tstEs es = true → mEs l G N es X.env.scope xs = true →
  PE X (.BoolOp .Or xs p) (tD A X B b W (evOr (cC b T n) es)) ∧ PW X (.BoolOp .Or xs p) (tT A X B b W fun s m => tst (evOr (cC b T n) es s m))
theorem evAnd1 (C : Cl) (a : E) (s : Sg) (m : M) : evAnd C (.cons a .nil) s m = bnd (ev C a s m) fun x m1 => match x with
    | .bl true => some (.ok (.bl true), m1)
    | .bl false => some (.ok (.bl false), m1)
    | _ => none := by
  unfold evAnd
  all_goals rfl
theorem evOr1 (C : Cl) (a : E) (s : Sg) (m : M) : evOr C (.cons a .nil) s m = bnd (ev C a s m) fun x m1 => match x with
    | .bl false => some (.ok (.bl false), m1)
    | .bl true => some (.ok (.bl true), m1)
    | _ => none := by
  unfold evOr
  all_goals rfl
theorem evAnd2 (C : Cl) (a c r : E) (s : Sg) (m : M) : evAnd C (.cons a (.cons c r)) s m = bnd (ev C a s m) fun x m1 => match x with
    | .bl true => evAnd C (.cons c r) s m1
    | .bl false => some (.ok (.bl false), m1)
    | _ => none := by
  conv => lhs; unfold evAnd
  all_goals congr 1
theorem evOr2 (C : Cl) (a c r : E) (s : Sg) (m : M) : evOr C (.cons a (.cons c r)) s m = bnd (ev C a s m) fun x m1 => match x with
    | .bl false => evOr C (.cons c r) s m1
    | .bl true => some (.ok (.bl true), m1)
    | _ => none := by
  conv => lhs; unfold evOr
  all_goals congr 1
theorem pw_ext {X : Cx} {x : Expr} {A : Ad} {W : Wi} {f g : Sg → M → Option (Rs D × M)} (h : PW X x (tT A X B b W fun s m => tst (f s m))) (e : ∀ s m, f s m = g s m) : PW X x (tT A X B b W fun s m => tst (g s m)) := by
  have : f = g := funext fun s => funext fun m => e s m
  rw [← this]
  exact h
theorem a_one {a : E} (ha : EvP l G N T n B b a) : AndP l G N T n B b (.cons a .nil) := by
  intro A X W xs p F raw tk ht h
  unfold mEs at h
  split at h
  · simp only [Bool.and_eq_true] at h
    obtain ⟨h6, h7⟩ := h
    simp only [mEs, List.isEmpty_iff] at h7
    subst h7
    obtain ⟨q1, q2⟩ := ha A X W _ F raw tk h6
    exact ⟨pe_ext (n_and1 q1) fun s m => (evAnd1 _ _ _ _).symm, pw_ext (n_and1T (q2 ht)) fun s m => (evAnd1 _ _ _ _).symm⟩
  · cases h
theorem o_one {a : E} (ha : EvP l G N T n B b a) : OrP l G N T n B b (.cons a .nil) := by
  intro A X W xs p F raw tk ht h
  unfold mEs at h
  split at h
  · simp only [Bool.and_eq_true] at h
    obtain ⟨h6, h7⟩ := h
    simp only [mEs, List.isEmpty_iff] at h7
    subst h7
    obtain ⟨q1, q2⟩ := ha A X W _ F raw tk h6
    exact ⟨pe_ext (n_or1 q1) fun s m => (evOr1 _ _ _ _).symm, pw_ext (n_or1T (q2 ht)) fun s m => (evOr1 _ _ _ _).symm⟩
  · cases h
theorem a_more {a c r : E} (ha : EvP l G N T n B b a) (hr : AndP l G N T n B b (.cons c r)) : AndP l G N T n B b (.cons a (.cons c r)) := by
  intro A X W xs p F raw tk ht h
  unfold mEs at h
  split at h
  · rename_i x xr
    simp only [Bool.and_eq_true] at h
    obtain ⟨h6, h7⟩ := h
    have ht : (tstE a && tstEs (.cons c r)) = true := ht
    rw [Bool.and_eq_true] at ht
    cases xr with
    | nil => simp [mEs] at h7
    | cons y ys =>
      obtain ⟨q1, q2⟩ := ha A X W _ F raw tk h6
      obtain ⟨g1, g2⟩ := hr A X W _ p F raw tk ht.2 h7
      exact ⟨pe_ext (n_andc q1 g1) fun s m => (evAnd2 _ _ _ _ _ _).symm, pw_ext (n_andcT (q2 ht.1) g2) fun s m => (evAnd2 _ _ _ _ _ _).symm⟩
  · cases h
theorem o_more {a c r : E} (ha : EvP l G N T n B b a) (hr : OrP l G N T n B b (.cons c r)) : OrP l G N T n B b (.cons a (.cons c r)) := by
  intro A X W xs p F raw tk ht h
  unfold mEs at h
  split at h
  · rename_i x xr
    simp only [Bool.and_eq_true] at h
    obtain ⟨h6, h7⟩ := h
    have ht : (tstE a && tstEs (.cons c r)) = true := ht
    rw [Bool.and_eq_true] at ht
    cases xr with
    | nil => simp [mEs] at h7
    | cons y ys =>
      obtain ⟨q1, q2⟩ := ha A X W _ F raw tk h6
      obtain ⟨g1, g2⟩ := hr A X W _ p F raw tk ht.2 h7
      exact ⟨pe_ext (n_orc q1 g1) fun s m => (evOr2 _ _ _ _ _ _).symm, pw_ext (n_orcT (q2 ht.1) g2) fun s m => (evOr2 _ _ _ _ _ _).symm⟩
  · cases h
theorem e_and {es : E} (h : AndP l G N T n B b es) : EvP l G N T n B b (.and es) := by
  intro A X W x F raw tk hm
  unfold mE at hm
  split at hm
  · rw [Bool.and_eq_true] at hm
    obtain ⟨q1, q2⟩ := h A X W _ _ F raw tk hm.1 hm.2
    exact ⟨q1, fun _ => pt_pw q2⟩
  · cases hm
theorem e_or {es : E} (h : OrP l G N T n B b es) : EvP l G N T n B b (.or es) := by
  intro A X W x F raw tk hm
  unfold mE at hm
  split at hm
  · rw [Bool.and_eq_true] at hm
    obtain ⟨q1, q2⟩ := h A X W _ _ F raw tk hm.1 hm.2
    exact ⟨q1, fun _ => pt_pw q2⟩
  · cases hm
/-! ### several, bounds, walks -/
theorem s_nil' : EsP l G N T n B b .nil := by
  intro A X W xs F raw tk h
  simp only [mEs, List.isEmpty_iff] at h
  subst h
  exact n_nil
theorem s_cons' {a r : E} (ha : EvP l G N T n B b a) (hr : EsP l G N T n B b r) : EsP l G N T n B b (.cons a r) := by
  intro A X W xs F raw tk h
  unfold mEs at h
  split at h
  · simp only [Bool.and_eq_true] at h
    exact n_cons (ha A X W _ F raw tk h.1).1 (hr A X W _ F raw tk h.2) (mE_pl h.1)
  · cases h
theorem p_none : OpP l G N T n B b .nil := by
  intro A X W x F raw tk h
  cases x with
  | none => exact n_o0
  | some _ => simp [mO] at h
theorem p_some {a : E} (ha : EvP l G N T n B b a) : OpP l G N T n B b (.cons a .nil) := by
  intro A X W x F raw tk h
  cases x with
  | none => simp [mO] at h
  | some y => exact n_o1 (ha A X W y F raw tk (by simpa only [mO] using h)).1
theorem i_ov {a : E} (ha : EvP l G N T n B b a) : ItP l G N T n B b (.ov a) := by
  intro A X W tg x F raw tk h
  exact n_ov (ha A X W x F raw tk (by simpa only [mIt] using h)).1
theorem pi_ext {X : Cx} {tg x : Expr} {A : Ad} {W : Wi} {f g : Sg → M → Option (Rs Its × M)} (h : PI X tg x (tI A X B b W f)) (e : ∀ s m, f s m = g s m) : PI X tg x (tI A X B b W g) := by
  have : f = g := funext fun s => funext fun m => e s m
  rw [← this]
  exact h
theorem i_enm {a : E} (ha : EvP l G N T n B b a) : ItP l G N T n B b (.enm a) := by
  intro A X W tg x F raw tk h
  unfold mIt at h
  split at h
  · simp only [Bool.and_eq_true, decide_eq_true_eq] at h
    obtain ⟨⟨⟨h1, h2⟩, h3⟩, h4⟩ := h
    exact n_enm h2 (h3.trans (by decide +kernel)) (m_enum F) (mE_pl h4) h1 (ha A X W _ F raw tk h4).1
  · cases h
theorem i_zip {a c : E} (ha : EvP l G N T n B b a) (hc : EvP l G N T n B b c) : ItP l G N T n B b (.zip a c) := by
  intro A X W tg x F raw tk h
  unfold mIt at h
  split at h
  · simp only [Bool.and_eq_true, decide_eq_true_eq] at h
    obtain ⟨⟨⟨⟨h1, h2⟩, h3⟩, h4⟩, h5⟩ := h
    exact n_zip h2 (h3.trans (by decide +kernel)) (m_zip F) (mE_pl h4) (mE_pl h5) h1 (ha A X W _ F raw tk h4).1 (hc A X W _ F raw tk h5).1
  · cases h
theorem ev3 (C : Cl) (a c d : E) (s : Sg) (m : M) : evs C (.cons a (.cons c (.cons d .nil))) s m = bnd (ev C a s m) fun x m1 => bnd (ev C c s m1) fun y m2 => bnd (ev C d s m2) fun z m3 => some (.ok [x, y, z], m3) := by
  show bnd (ev C a s m) (fun d1 m1 => bnd (evs C (.cons c (.cons d .nil)) s m1) fun ds m2 => some (.ok (d1 :: ds), m2)) = _
  congr 1
  funext d1 m1
  rw [ev2, bnd_assoc]
  congr 1
  funext d2 m2
  rw [bnd_assoc]
  rfl
theorem i_rng3 {es : E} (hes : EsP l G N T n B b es) (h3 : few3 es = true) : ItP l G N T n B b (.rng es) := by
  intro A X W tg x F raw tk h
  unfold mIt at h
  split at h
  · rename_i nm np xs cp
    simp only [Bool.and_eq_true, decide_eq_true_eq] at h
    obtain ⟨⟨⟨h1, h2⟩, _⟩, h4⟩ := h
    have q := hes A X W _ F raw tk h4
    unfold few3 at h3
    split at h3
    · rename_i a c d _
      cases xs with
      | nil => simp [mEs] at h4
      | cons y ys =>
        cases ys with
        | nil => simp [mEs] at h4
        | cons z zs =>
          cases zs with
          | nil => simp [mEs] at h4
          | cons u us =>
            simp only [mEs, Bool.and_eq_true, List.isEmpty_iff] at h4
            obtain ⟨h4, h5, h6, rfl⟩ := h4
            refine pi_ext (n_rng3 h1 (h2.trans (by decide +kernel)) (m_range F) (mE_pl h4) (mE_pl h5) (mE_pl h6) q) fun s m => ?_
            show _ = bnd (evs (cC b T n) (.cons a (.cons c (.cons d .nil))) s m) fun ds m1 => giv ((rgD ds).map fun rs => (rs, none)) m1
            rw [ev3, bnd_assoc, bnd_assoc]
            congr 1
            funext d1 m1
            rw [bnd_assoc, bnd_assoc]
            congr 1
            funext d2 m2
            rw [bnd_assoc, bnd_assoc]
            rfl
    · cases h3
  · cases h
theorem i_rng {es : E} (hes : EsP l G N T n B b es) : ItP l G N T n B b (.rng es) := by
  intro A X W tg x F raw tk h
  unfold mIt at h
  split at h
  · rename_i nm np xs cp
    simp only [Bool.and_eq_true, decide_eq_true_eq] at h
    obtain ⟨⟨⟨h1, h2⟩, h3'⟩, h4⟩ := h
    have hp := mEs_pl h4
    have q := hes A X W _ F raw tk h4
    by_cases h33 : few3 es = true
    · exact i_rng3 hes h33 A X W tg _ F raw tk (by
        show (glB X.env.scope nm && decide (nm = nRange) && (few es || few3 es) && mEs l G N es X.env.scope xs) = true
        rw [h1, decide_eq_true h2, h3', h4]
        rfl)
    have h3 : few es = true := by
      rw [Bool.or_eq_true] at h3'
      exact h3'.resolve_right h33
    unfold few at h3
    split at h3
    · rename_i a
      cases xs with
      | nil => simp [mEs] at h4
      | cons y ys =>
        simp only [mEs, Bool.and_eq_true, List.isEmpty_iff] at h4
        obtain ⟨h4, rfl⟩ := h4
        refine pi_ext (n_rng1 h1 (h2.trans (by decide +kernel)) (m_range F) (mE_pl h4) q) fun s m => ?_
        show _ = bnd (evs (cC b T n) (.cons a .nil) s m) fun ds m1 => giv ((rgD ds).map fun rs => (rs, none)) m1
        rw [ev1, bnd_assoc, bnd_assoc]
        congr 1
        funext d m1
        show giv _ m1 = giv _ m1
        cases d <;> rfl
    · rename_i a c
      cases xs with
      | nil => simp [mEs] at h4
      | cons y ys =>
        cases ys with
        | nil => simp [mEs] at h4
        | cons z zs =>
          simp only [mEs, Bool.and_eq_true, List.isEmpty_iff] at h4
          obtain ⟨h4, h5, rfl⟩ := h4
          refine pi_ext (n_rng2 h1 (h2.trans (by decide +kernel)) (m_range F) (mE_pl h4) (mE_pl h5) q) fun s m => ?_
          show _ = bnd (evs (cC b T n) (.cons a (.cons c .nil)) s m) fun ds m1 => giv ((rgD ds).map fun rs => (rs, none)) m1
          rw [ev2, bnd_assoc, bnd_assoc]
          congr 1
          funext d m1
          rw [bnd_assoc, bnd_assoc]
          congr 1
          funext d2 m2
          show giv _ m2 = giv _ m2
          cases d <;> cases d2 <;> rfl
    · cases h3
  · cases h
/-! ### comprehensions -/
def TsP (l : Lk) (G : List (Str × D)) (N : List Str) (T : Tb) (n : Nat) (B : Nat → Nat) (b : Nat) (c : E) : Prop := ∀ (A : Ad) (X : Cx) (xs : List Expr), Fr A l G N T n X → RawAll → tstC c = true → mEs l G N c X.env.scope xs = true →
  PTs X xs (tG A X.K B b RId W0 (evC (cC b T n) c))
theorem takes0 {A : Ad} {X : Cx} : Takes X (wxOf A W0) := fun u s' ⟨_, _, _, _, _, _, _, _, _, _, _, _, _, _, _, _, _, _, _, _, _, w⟩ => w.elim
theorem t_nil : TsP l G N T n B b .nil := by
  intro A X xs F raw ht h
  simp only [mEs, List.isEmpty_iff] at h
  subst h
  exact n_ts0
theorem t_one {a : E} (ha : EvP l G N T n B b a) : TsP l G N T n B b (.cons a .nil) := by
  intro A X xs F raw ht h
  unfold mEs at h
  split at h
  · simp only [Bool.and_eq_true] at h
    obtain ⟨h6, h7⟩ := h
    simp only [mEs, List.isEmpty_iff] at h7
    subst h7
    exact n_ts1 ((ha A X W0 _ F raw takes0 h6).2 ht)
  · cases h
theorem lc_parts {vs : List Nat} {e it c : E} {p : P} (he : EvP l G N T n B b e) (hit : ItP l G N T n B b it) (hts : TsP l G N T n B b c) {A : Ad} {X : Cx} {W : Wi} {elt tg iter : Expr} {ifs : List Expr} {scope : Scope}
    (F : Fr A l G N T n X) (raw : RawAll) (tk : Takes X (wxOf A W))
    (h : (L2.blkC N X.env.scope scope (ownN N vs) && (pv p).all (vs.contains ·) && tstC c && mE l G N e (blkSc X.env.scope scope) elt && mP N p scope tg && mIt l G N it X.env.scope tg iter && mEs l G N c (blkSc X.env.scope scope) ifs) = true) :
    LcP A X B b W elt tg iter ifs scope (ownN N vs) p (evIt (cC b T n) it) (evC (cC b T n) c) (ev (cC b T n) e) := by
  simp only [Bool.and_eq_true] at h
  obtain ⟨⟨⟨⟨⟨⟨h1, h2⟩, h3⟩, h4⟩, h5⟩, h6⟩, h7⟩ := h
  refine ⟨hit A X W tg iter F raw tk h6, by rw [F.N]; exact L2.blkOk_by h1, fun j hj => ?_, fun s H C cl fp D => ?_, fun s H C cl fp D => ?_, fun s H C cl fp D => ?_, pl_folded (mIt_pl h6) _⟩
  · rw [own_map]
    have := List.all_eq_true.mp h2 j hj
    simpa using this
  · exact pg_pat (X := X.blk s H scope (compEnvC scope cl C X.env) fp) F.calm F.nd F.N (blk_loc s H C cl fp) p tg h5
  · exact hts (A.hide D) (X.blk s H scope (compEnvC scope cl C X.env) fp) ifs ((F.wh (D :: A.hd)).blk s H scope _ fp) raw h3 h7
  · exact (he (A.hide D) (X.blk s H scope (compEnvC scope cl C X.env) fp) W0 elt ((F.wh (D :: A.hd)).blk s H scope _ fp) raw takes0 h4).1
theorem e_lc {al : Bool} {vs : List Nat} {e it c : E} {p : P} (he : EvP l G N T n B b e) (hit : ItP l G N T n B b it) (hts : TsP l G N T n B b c) : EvP l G N T n B b (.lc al vs e p it c) := by
  intro A X W x F raw tk h
  unfold mE at h
  split at h
  · refine both (pe_ext (n_lc (al := al) F.calm F.nd (lc_parts he hit hts F raw tk h)) fun s m => ?_) rfl
    rw [own_map]
    rfl
  · cases h
theorem lc2_parts {vs vs1 : List Nat} {e it c a1 c1 : E} {p p1 : P} (he : EvP l G N T n B b e) (hit : ItP l G N T n B b it) (hts : TsP l G N T n B b c) (ha1 : EvP l G N T n B b a1) (hts1 : TsP l G N T n B b c1) {A : Ad} {X : Cx} {W : Wi} {elt tg iter tg1 iter1 : Expr} {ifs ifs1 : List Expr} {scope : Scope}
    (F : Fr A l G N T n X) (raw : RawAll) (tk : Takes X (wxOf A W))
    (h : (L2.blkC N X.env.scope scope (ownN N vs) && (pv p).all (vs.contains ·) && tstC c && mE l G N e (blkSc X.env.scope scope) elt && mP N p scope tg && mIt l G N it X.env.scope tg iter && mEs l G N c (blkSc X.env.scope scope) ifs &&
        ((pv p1).all (vs1.contains ·) && vs1.all (vs.contains ·) && tstC c1 && mP N p1 scope tg1 && mE l G N a1 (blkSc X.env.scope scope) iter1 && mEs l G N c1 (blkSc X.env.scope scope) ifs1)) = true) :
    Lc2P A X B b W elt tg iter tg1 iter1 ifs ifs1 scope (ownN N vs) vs1 p p1 (evIt (cC b T n) it) (evC (cC b T n) c) (ev (cC b T n) a1) (evC (cC b T n) c1) (ev (cC b T n) e) := by
  rw [Bool.and_eq_true] at h
  obtain ⟨h1, h2⟩ := h
  simp only [Bool.and_eq_true] at h2
  obtain ⟨⟨⟨⟨⟨g1, g2⟩, g3⟩, g4⟩, g5⟩, g6⟩ := h2
  refine ⟨lc_parts he hit hts F raw tk h1, ?_, ?_, ?_, ?_, ?_, fun env => pl_folded (mE_pl g5) env⟩
  · intro i hi
    rw [own_map]
    have := List.all_eq_true.mp g2 i hi
    simpa using this
  · intro j hj
    have := List.all_eq_true.mp g1 j hj
    simpa using this
  · intro s H C cl fp D
    exact pg_pat (X := X.blk s H _ (compEnvC _ cl C X.env) fp) F.calm F.nd F.N (blk_loc s H C cl fp) p1 _ g4
  · intro s H C cl fp D
    exact hts1 (A.hide D) (X.blk s H _ (compEnvC _ cl C X.env) fp) _ ((F.wh (D :: A.hd)).blk s H _ _ fp) raw g3 g6
  · intro s H C cl fp D
    exact (ha1 (A.hide D) (X.blk s H _ (compEnvC _ cl C X.env) fp) W0 _ ((F.wh (D :: A.hd)).blk s H _ _ fp) raw takes0 g5).1
theorem e_lc2 {vs vs1 : List Nat} {e it c a1 c1 : E} {p p1 : P} (he : EvP l G N T n B b e) (hit : ItP l G N T n B b it) (hts : TsP l G N T n B b c) (ha1 : EvP l G N T n B b a1) (hts1 : TsP l G N T n B b c1) : EvP l G N T n B b (.lc2 vs vs1 e p it c p1 a1 c1) := by
  intro A X W x F raw tk h
  unfold mE at h
  split at h
  · refine both (pe_ext (n_lc2 F.calm F.nd (lc2_parts he hit hts ha1 hts1 F raw tk h)) fun s m => ?_) rfl
    rw [own_map]
    rfl
  · cases h
theorem e_sst {a : E} (ha : EvP l G N T n B b a) : EvP l G N T n B b (.sst a) := by
  intro A X W x F raw tk h
  unfold mE at h
  split at h
  · simp only [Bool.and_eq_true, decide_eq_true_eq] at h
    obtain ⟨⟨⟨⟨h1, h2⟩, h3⟩, h4⟩, h5⟩ := h
    exact both (n_sst F.calm (units100 F) h1 (h2.trans (by decide +kernel)) ((show nSorted = ("sorted" : Str) by decide +kernel) ▸ F.bi nSorted (by decide +kernel)) h3 (h4.trans (by decide +kernel)) ((show nSet = ("set" : Str) by decide +kernel) ▸ F.bi nSet (by decide +kernel)) (mE_pl h5) (ha A X W _ F raw tk h5).1) rfl
  · cases h
theorem e_lst1 {a : E} (ha : EvP l G N T n B b a) : EvP l G N T n B b (.lst1 a) := by
  intro A X W x F raw tk h
  unfold mE at h
  split at h
  · simp only [Bool.and_eq_true, decide_eq_true_eq] at h
    obtain ⟨⟨⟨⟨h1, h2⟩, h3⟩, h4⟩, h5⟩ := h
    exact both (n_lst1 F.calm h1 (h2.trans (by decide +kernel)) ((show nLen = ("len" : Str) by decide +kernel) ▸ F.bi nLen (by decide +kernel)) h3 (h4.trans (by decide +kernel)) ((show nSet = ("set" : Str) by decide +kernel) ▸ F.bi nSet (by decide +kernel)) (mE_pl h5) (ha A X W _ F raw tk h5).1) rfl
  · cases h
/-- the heads -/
def HdP (l : Lk) (G : List (Str × D)) (N : List Str) (T : Tb) (n : Nat) (B : Nat → Nat) (b : Nat) : E → Prop
  | .cons a r => EvP l G N T n B b a ∧ HdP l G N T n B b r
  | _ => True
theorem e_lsr {al : Bool} {es : E} (h : HdP l G N T n B b es) : EvP l G N T n B b (.lsr al es) := by
  intro A X W x F raw tk hm
  have hf : few es = true := by
    unfold mE at hm
    split at hm
    · simp only [Bool.and_eq_true] at hm
      exact hm.1.2
    · cases hm
  unfold few at hf
  split at hf
  · exact e_lsr1 h.1 A X W x F raw tk hm
  · exact e_lsr2 h.1 h.2.1 A X W x F raw tk hm
  · cases hf
theorem a_gen {a r : E} (ha : EvP l G N T n B b a) (hr : AndP l G N T n B b r) : AndP l G N T n B b (.cons a r) := by
  cases r with
  | nil => exact a_one ha
  | cons c s => exact a_more ha hr
  | _ =>
    intro A X W xs p F raw tk ht
    have ht : (tstE a && false) = true := ht
    rw [Bool.and_false] at ht
    cases ht
theorem o_gen {a r : E} (ha : EvP l G N T n B b a) (hr : OrP l G N T n B b r) : OrP l G N T n B b (.cons a r) := by
  cases r with
  | nil => exact o_one ha
  | cons c s => exact o_more ha hr
  | _ =>
    intro A X W xs p F raw tk ht
    have ht : (tstE a && false) = true := ht
    rw [Bool.and_false] at ht
    cases ht
theorem p_gen {a r : E} (ha : EvP l G N T n B b a) : OpP l G N T n B b (.cons a r) := by
  cases r with
  | nil => exact p_some ha
  | _ => intro A X W x F raw tk h; simp [mO] at h
theorem t_gen {a r : E} (ha : EvP l G N T n B b a) : TsP l G N T n B b (.cons a r) := by
  cases r with
  | nil => exact t_one ha
  | _ => intro A X x F raw h; cases h
/-! ### all together -/
mutual
theorem pe_ev : ∀ e : E, EvP l G N T n B b e
  | .v i => e_v i
  | .k d => e_k d
  | .gl i d => e_gl i d
  | .fnm f => e_fnm f
  | .tup es => e_tup (pa_ev es)
  | .lst es => e_lst (pa_ev es)
  | .new es => e_new (pa_ev es)
  | .dnew => e_dnew
  | .bin _ a c => e_bin (pe_ev a) (pe_ev c)
  | .cat a c => e_cat (pe_ev a) (pe_ev c)
  | .cmp _ a c => e_cmp (pe_ev a) (pe_ev c)
  | .chn _ _ a c d => e_chn (pe_ev a) (pe_ev c) (pe_ev d)
  | .isk _ a _ => e_isk (pe_ev a)
  | .and es => e_and (pn_ev es)
  | .or es => e_or (po_ev es)
  | .not a => e_not (pe_ev a)
  | .ife t a c => e_ife (pe_ev t) (pe_ev a) (pe_ev c)
  | .ix a i => e_ix (pe_ev a) (pe_ev i)
  | .sl a lo hi => e_sl (pe_ev a) (pb_ev lo) (pb_ev hi)
  | .bi _ es => e_bi (pa_ev es)
  | .isi a _ => e_isi (pe_ev a)
  | .lsr _ es => e_lsr (hd_ev es)
  | .lsq _ a => e_lsq (pe_ev a)
  | .cnt a x => e_cnt (pe_ev a) (pe_ev x)
  | .join a x => e_join (pe_ev a) (pe_ev x)
  | .splt a x => e_splt (pe_ev a) (pe_ev x)
  | .app a x => e_app (pe_ev a) (pe_ev x)
  | .ext a x => e_ext (pe_ev a) (pe_ev x)
  | .pop0 a => e_pop0 (pe_ev a)
  | .pop1 a x => e_pop1 (pe_ev a) (pe_ev x)
  | .rvs a => e_rvs (pe_ev a)
  | .call _ es => e_call (pa_ev es)
  | .lc _ _ e _ it c => e_lc (pe_ev e) (pi_ev it) (pt_ev c)
  | .nil => by intro A X W x F raw tk h; simp [mE] at h
  | .cons _ _ => by intro A X W x F raw tk h; simp [mE] at h
  | .d1 _ _ => by intro A X W x F raw tk h; simp [mE] at h
  | .rv a => e_rv (pe_ev a)
  | .dcp _ => by intro A X W x F raw tk h; simp [mE] at h
  | .dpr _ => by intro A X W x F raw tk h; simp [mE] at h
  | .sst a => e_sst (pe_ev a)
  | .lst1 a => e_lst1 (pe_ev a)
  | .idx _ _ => by intro A X W x F raw tk h; simp [mE] at h
  | .callx _ _ => by intro A X W x F raw tk h; simp [mE] at h
  | .callk _ _ => by intro A X W x F raw tk h; simp [mE] at h
  | .mth _ a es => e_mth (pe_ev a) (pa_ev es)
  | .mthk _ a _ => e_mthk (pe_ev a)
  | .mk _ _ es => e_mk (pa_ev es)
  | .dun _ _ es => e_dun (pa_ev es)
  | .deq _ a c => e_deq (pe_ev a) (pe_ev c)
  | .fld a _ => e_fld (pe_ev a)
  | .lc2 _ _ e _ it c _ a1 c1 => e_lc2 (pe_ev e) (pi_ev it) (pt_ev c) (pe_ev a1) (pt_ev c1)
  | .dc _ _ _ _ _ _ => by intro A X W x F raw tk h; simp [mE] at h
  | .rng _ => by intro A X W x F raw tk h; simp [mE] at h
  | .enm _ => by intro A X W x F raw tk h; simp [mE] at h
  | .zip _ _ => by intro A X W x F raw tk h; simp [mE] at h
  | .ov _ => by intro A X W x F raw tk h; simp [mE] at h
theorem pa_ev : ∀ es : E, EsP l G N T n B b es
  | .nil => s_nil'
  | .cons a r => s_cons' (pe_ev a) (pa_ev r)
  | .v _ => by intro A X W x F raw tk h; simp [mEs] at h
  | .k _ => by intro A X W x F raw tk h; simp [mEs] at h
  | .gl _ _ => by intro A X W x F raw tk h; simp [mEs] at h
  | .fnm _ => by intro A X W x F raw tk h; simp [mEs] at h
  | .tup _ => by intro A X W x F raw tk h; simp [mEs] at h
  | .lst _ => by intro A X W x F raw tk h; simp [mEs] at h
  | .new _ => by intro A X W x F raw tk h; simp [mEs] at h
  | .dnew => by intro A X W x F raw tk h; simp [mEs] at h
  | .d1 _ _ => by intro A X W x F raw tk h; simp [mEs] at h
  | .bin _ _ _ => by intro A X W x F raw tk h; simp [mEs] at h
  | .cat _ _ => by intro A X W x F raw tk h; simp [mEs] at h
  | .cmp _ _ _ => by intro A X W x F raw tk h; simp [mEs] at h
  | .chn _ _ _ _ _ => by intro A X W x F raw tk h; simp [mEs] at h
  | .isk _ _ _ => by intro A X W x F raw tk h; simp [mEs] at h
  | .and _ => by intro A X W x F raw tk h; simp [mEs] at h
  | .or _ => by intro A X W x F raw tk h; simp [mEs] at h
  | .not _ => by intro A X W x F raw tk h; simp [mEs] at h
  | .ife _ _ _ => by intro A X W x F raw tk h; simp [mEs] at h
  | .ix _ _ => by intro A X W x F raw tk h; simp [mEs] at h
  | .sl _ _ _ => by intro A X W x F raw tk h; simp [mEs] at h
  | .rv _ => by intro A X W x F raw tk h; simp [mEs] at h
  | .bi _ _ => by intro A X W x F raw tk h; simp [mEs] at h
  | .isi _ _ => by intro A X W x F raw tk h; simp [mEs] at h
  | .lsr _ _ => by intro A X W x F raw tk h; simp [mEs] at h
  | .lsq _ _ => by intro A X W x F raw tk h; simp [mEs] at h
  | .dcp _ => by intro A X W x F raw tk h; simp [mEs] at h
  | .dpr _ => by intro A X W x F raw tk h; simp [mEs] at h
  | .sst _ => by intro A X W x F raw tk h; simp [mEs] at h
  | .lst1 _ => by intro A X W x F raw tk h; simp [mEs] at h
  | .cnt _ _ => by intro A X W x F raw tk h; simp [mEs] at h
  | .idx _ _ => by intro A X W x F raw tk h; simp [mEs] at h
  | .join _ _ => by intro A X W x F raw tk h; simp [mEs] at h
  | .splt _ _ => by intro A X W x F raw tk h; simp [mEs] at h
  | .app _ _ => by intro A X W x F raw tk h; simp [mEs] at h
  | .ext _ _ => by intro A X W x F raw tk h; simp [mEs] at h
  | .pop0 _ => by intro A X W x F raw tk h; simp [mEs] at h
  | .pop1 _ _ => by intro A X W x F raw tk h; simp [mEs] at h
  | .rvs _ => by intro A X W x F raw tk h; simp [mEs] at h
  | .call _ _ => by intro A X W x F raw tk h; simp [mEs] at h
  | .callx _ _ => by intro A X W x F raw tk h; simp [mEs] at h
  | .callk _ _ => by intro A X W x F raw tk h; simp [mEs] at h
  | .mth _ _ _ => by intro A X W x F raw tk h; simp [mEs] at h
  | .mthk _ _ _ => by intro A X W x F raw tk h; simp [mEs] at h
  | .mk _ _ _ => by intro A X W x F raw tk h; simp [mEs] at h
  | .dun _ _ _ => by intro A X W x F raw tk h; simp [mEs] at h
  | .deq _ _ _ => by intro A X W x F raw tk h; simp [mEs] at h
  | .fld _ _ => by intro A X W x F raw tk h; simp [mEs] at h
  | .lc _ _ _ _ _ _ => by intro A X W x F raw tk h; simp [mEs] at h
  | .lc2 _ _ _ _ _ _ _ _ _ => by intro A X W x F raw tk h; simp [mEs] at h
  | .dc _ _ _ _ _ _ => by intro A X W x F raw tk h; simp [mEs] at h
  | .rng _ => by intro A X W x F raw tk h; simp [mEs] at h
  | .enm _ => by intro A X W x F raw tk h; simp [mEs] at h
  | .zip _ _ => by intro A X W x F raw tk h; simp [mEs] at h
  | .ov _ => by intro A X W x F raw tk h; simp [mEs] at h
theorem hd_ev : ∀ es : E, HdP l G N T n B b es
  | .cons a r => ⟨pe_ev a, hd_ev r⟩
  | .v _ => by trivial
  | .k _ => by trivial
  | .gl _ _ => by trivial
  | .fnm _ => by trivial
  | .nil => by trivial
  | .tup _ => by trivial
  | .lst _ => by trivial
  | .new _ => by trivial
  | .dnew => by trivial
  | .d1 _ _ => by trivial
  | .bin _ _ _ => by trivial
  | .cat _ _ => by trivial
  | .cmp _ _ _ => by trivial
  | .chn _ _ _ _ _ => by trivial
  | .isk _ _ _ => by trivial
  | .and _ => by trivial
  | .or _ => by trivial
  | .not _ => by trivial
  | .ife _ _ _ => by trivial
  | .ix _ _ => by trivial
  | .sl _ _ _ => by trivial
  | .rv _ => by trivial
  | .bi _ _ => by trivial
  | .isi _ _ => by trivial
  | .lsr _ _ => by trivial
  | .lsq _ _ => by trivial
  | .dcp _ => by trivial
  | .dpr _ => by trivial
  | .sst _ => by trivial
  | .lst1 _ => by trivial
  | .cnt _ _ => by trivial
  | .idx _ _ => by trivial
  | .join _ _ => by trivial
  | .splt _ _ => by trivial
  | .app _ _ => by trivial
  | .ext _ _ => by trivial
  | .pop0 _ => by trivial
  | .pop1 _ _ => by trivial
  | .rvs _ => by trivial
  | .call _ _ => by trivial
  | .callx _ _ => by trivial
  | .callk _ _ => by trivial
  | .mth _ _ _ => by trivial
  | .mthk _ _ _ => by trivial
  | .mk _ _ _ => by trivial
  | .dun _ _ _ => by trivial
  | .deq _ _ _ => by trivial
  | .fld _ _ => by trivial
  | .lc _ _ _ _ _ _ => by trivial
  | .lc2 _ _ _ _ _ _ _ _ _ => by trivial
  | .dc _ _ _ _ _ _ => by trivial
  | .rng _ => by trivial
  | .enm _ => by trivial
  | .zip _ _ => by trivial
  | .ov _ => by trivial
theorem pn_ev : ∀ es : E, AndP l G N T n B b es
  | .cons a r => a_gen (pe_ev a) (pn_ev r)
  | .v _ => by intro A X W x p F raw tk h; cases h
  | .k _ => by intro A X W x p F raw tk h; cases h
  | .gl _ _ => by intro A X W x p F raw tk h; cases h
  | .fnm _ => by intro A X W x p F raw tk h; cases h
  | .nil => by intro A X W x p F raw tk h; cases h
  | .tup _ => by intro A X W x p F raw tk h; cases h
  | .lst _ => by intro A X W x p F raw tk h; cases h
  | .new _ => by intro A X W x p F raw tk h; cases h
  | .dnew => by intro A X W x p F raw tk h; cases h
  | .d1 _ _ => by intro A X W x p F raw tk h; cases h
  | .bin _ _ _ => by intro A X W x p F raw tk h; cases h
  | .cat _ _ => by intro A X W x p F raw tk h; cases h
  | .cmp _ _ _ => by intro A X W x p F raw tk h; cases h
  | .chn _ _ _ _ _ => by intro A X W x p F raw tk h; cases h
  | .isk _ _ _ => by intro A X W x p F raw tk h; cases h
  | .and _ => by intro A X W x p F raw tk h; cases h
  | .or _ => by intro A X W x p F raw tk h; cases h
  | .not _ => by intro A X W x p F raw tk h; cases h
  | .ife _ _ _ => by intro A X W x p F raw tk h; cases h
  | .ix _ _ => by intro A X W x p F raw tk h; cases h
  | .sl _ _ _ => by intro A X W x p F raw tk h; cases h
  | .rv _ => by intro A X W x p F raw tk h; cases h
  | .bi _ _ => by intro A X W x p F raw tk h; cases h
  | .isi _ _ => by intro A X W x p F raw tk h; cases h
  | .lsr _ _ => by intro A X W x p F raw tk h; cases h
  | .lsq _ _ => by intro A X W x p F raw tk h; cases h
  | .dcp _ => by intro A X W x p F raw tk h; cases h
  | .dpr _ => by intro A X W x p F raw tk h; cases h
  | .sst _ => by intro A X W x p F raw tk h; cases h
  | .lst1 _ => by intro A X W x p F raw tk h; cases h
  | .cnt _ _ => by intro A X W x p F raw tk h; cases h
  | .idx _ _ => by intro A X W x p F raw tk h; cases h
  | .join _ _ => by intro A X W x p F raw tk h; cases h
  | .splt _ _ => by intro A X W x p F raw tk h; cases h
  | .app _ _ => by intro A X W x p F raw tk h; cases h
  | .ext _ _ => by intro A X W x p F raw tk h; cases h
  | .pop0 _ => by intro A X W x p F raw tk h; cases h
  | .pop1 _ _ => by intro A X W x p F raw tk h; cases h
  | .rvs _ => by intro A X W x p F raw tk h; cases h
  | .call _ _ => by intro A X W x p F raw tk h; cases h
  | .callx _ _ => by intro A X W x p F raw tk h; cases h
  | .callk _ _ => by intro A X W x p F raw tk h; cases h
  | .mth _ _ _ => by intro A X W x p F raw tk h; cases h
  | .mthk _ _ _ => by intro A X W x p F raw tk h; cases h
  | .mk _ _ _ => by intro A X W x p F raw tk h; cases h
  | .dun _ _ _ => by intro A X W x p F raw tk h; cases h
  | .deq _ _ _ => by intro A X W x p F raw tk h; cases h
  | .fld _ _ => by intro A X W x p F raw tk h; cases h
  | .lc _ _ _ _ _ _ => by intro A X W x p F raw tk h; cases h
  | .lc2 _ _ _ _ _ _ _ _ _ => by intro A X W x p F raw tk h; cases h
  | .dc _ _ _ _ _ _ => by intro A X W x p F raw tk h; cases h
  | .rng _ => by intro A X W x p F raw tk h; cases h
  | .enm _ => by intro A X W x p F raw tk h; cases h
  | .zip _ _ => by intro A X W x p F raw tk h; cases h
  | .ov _ => by intro A X W x p F raw tk h; cases h
theorem po_ev : ∀ es : E, OrP l G N T n B b es
  | .cons a r => o_gen (pe_ev a) (po_ev r)
  | .v _ => by intro A X W x p F raw tk h; cases h
  | .k _ => by intro A X W x p F raw tk h; cases h
  | .gl _ _ => by intro A X W x p F raw tk h; cases h
  | .fnm _ => by intro A X W x p F raw tk h; cases h
  | .nil => by intro A X W x p F raw tk h; cases h
  | .tup _ => by intro A X W x p F raw tk h; cases h
  | .lst _ => by intro A X W x p F raw tk h; cases h
  | .new _ => by intro A X W x p F raw tk h; cases h
  | .dnew => by intro A X W x p F raw tk h; cases h
  | .d1 _ _ => by intro A X W x p F raw tk h; cases h
  | .bin _ _ _ => by intro A X W x p F raw tk h; cases h
  | .cat _ _ => by intro A X W x p F raw tk h; cases h
  | .cmp _ _ _ => by intro A X W x p F raw tk h; cases h
  | .chn _ _ _ _ _ => by intro A X W x p F raw tk h; cases h
  | .isk _ _ _ => by intro A X W x p F raw tk h; cases h
  | .and _ => by intro A X W x p F raw tk h; cases h
  | .or _ => by intro A X W x p F raw tk h; cases h
  | .not _ => by intro A X W x p F raw tk h; cases h
  | .ife _ _ _ => by intro A X W x p F raw tk h; cases h
  | .ix _ _ => by intro A X W x p F raw tk h; cases h
  | .sl _ _ _ => by intro A X W x p F raw tk h; cases h
  | .rv _ => by intro A X W x p F raw tk h; cases h
  | .bi _ _ => by intro A X W x p F raw tk h; cases h
  | .isi _ _ => by intro A X W x p F raw tk h; cases h
  | .lsr _ _ => by intro A X W x p F raw tk h; cases h
  | .lsq _ _ => by intro A X W x p F raw tk h; cases h
  | .dcp _ => by intro A X W x p F raw tk h; cases h
  | .dpr _ => by intro A X W x p F raw tk h; cases h
  | .sst _ => by intro A X W x p F raw tk h; cases h
  | .lst1 _ => by intro A X W x p F raw tk h; cases h
  | .cnt _ _ => by intro A X W x p F raw tk h; cases h
  | .idx _ _ => by intro A X W x p F raw tk h; cases h
  | .join _ _ => by intro A X W x p F raw tk h; cases h
  | .splt _ _ => by intro A X W x p F raw tk h; cases h
  | .app _ _ => by intro A X W x p F raw tk h; cases h
  | .ext _ _ => by intro A X W x p F raw tk h; cases h
  | .pop0 _ => by intro A X W x p F raw tk h; cases h
  | .pop1 _ _ => by intro A X W x p F raw tk h; cases h
  | .rvs _ => by intro A X W x p F raw tk h; cases h
  | .call _ _ => by intro A X W x p F raw tk h; cases h
  | .callx _ _ => by intro A X W x p F raw tk h; cases h
  | .callk _ _ => by intro A X W x p F raw tk h; cases h
  | .mth _ _ _ => by intro A X W x p F raw tk h; cases h
  | .mthk _ _ _ => by intro A X W x p F raw tk h; cases h
  | .mk _ _ _ => by intro A X W x p F raw tk h; cases h
  | .dun _ _ _ => by intro A X W x p F raw tk h; cases h
  | .deq _ _ _ => by intro A X W x p F raw tk h; cases h
  | .fld _ _ => by intro A X W x p F raw tk h; cases h
  | .lc _ _ _ _ _ _ => by intro A X W x p F raw tk h; cases h
  | .lc2 _ _ _ _ _ _ _ _ _ => by intro A X W x p F raw tk h; cases h
  | .dc _ _ _ _ _ _ => by intro A X W x p F raw tk h; cases h
  | .rng _ => by intro A X W x p F raw tk h; cases h
  | .enm _ => by intro A X W x p F raw tk h; cases h
  | .zip _ _ => by intro A X W x p F raw tk h; cases h
  | .ov _ => by intro A X W x p F raw tk h; cases h
theorem pb_ev : ∀ e : E, OpP l G N T n B b e
  | .nil => p_none
  | .cons a r => p_gen (pe_ev a)
  | .v _ => by intro A X W x F raw tk h; simp [mO] at h
  | .k _ => by intro A X W x F raw tk h; simp [mO] at h
  | .gl _ _ => by intro A X W x F raw tk h; simp [mO] at h
  | .fnm _ => by intro A X W x F raw tk h; simp [mO] at h
  | .tup _ => by intro A X W x F raw tk h; simp [mO] at h
  | .lst _ => by intro A X W x F raw tk h; simp [mO] at h
  | .new _ => by intro A X W x F raw tk h; simp [mO] at h
  | .dnew => by intro A X W x F raw tk h; simp [mO] at h
  | .d1 _ _ => by intro A X W x F raw tk h; simp [mO] at h
  | .bin _ _ _ => by intro A X W x F raw tk h; simp [mO] at h
  | .cat _ _ => by intro A X W x F raw tk h; simp [mO] at h
  | .cmp _ _ _ => by intro A X W x F raw tk h; simp [mO] at h
  | .chn _ _ _ _ _ => by intro A X W x F raw tk h; simp [mO] at h
  | .isk _ _ _ => by intro A X W x F raw tk h; simp [mO] at h
  | .and _ => by intro A X W x F raw tk h; simp [mO] at h
  | .or _ => by intro A X W x F raw tk h; simp [mO] at h
  | .not _ => by intro A X W x F raw tk h; simp [mO] at h
  | .ife _ _ _ => by intro A X W x F raw tk h; simp [mO] at h
  | .ix _ _ => by intro A X W x F raw tk h; simp [mO] at h
  | .sl _ _ _ => by intro A X W x F raw tk h; simp [mO] at h
  | .rv _ => by intro A X W x F raw tk h; simp [mO] at h
  | .bi _ _ => by intro A X W x F raw tk h; simp [mO] at h
  | .isi _ _ => by intro A X W x F raw tk h; simp [mO] at h
  | .lsr _ _ => by intro A X W x F raw tk h; simp [mO] at h
  | .lsq _ _ => by intro A X W x F raw tk h; simp [mO] at h
  | .dcp _ => by intro A X W x F raw tk h; simp [mO] at h
  | .dpr _ => by intro A X W x F raw tk h; simp [mO] at h
  | .sst _ => by intro A X W x F raw tk h; simp [mO] at h
  | .lst1 _ => by intro A X W x F raw tk h; simp [mO] at h
  | .cnt _ _ => by intro A X W x F raw tk h; simp [mO] at h
  | .idx _ _ => by intro A X W x F raw tk h; simp [mO] at h
  | .join _ _ => by intro A X W x F raw tk h; simp [mO] at h
  | .splt _ _ => by intro A X W x F raw tk h; simp [mO] at h
  | .app _ _ => by intro A X W x F raw tk h; simp [mO] at h
  | .ext _ _ => by intro A X W x F raw tk h; simp [mO] at h
  | .pop0 _ => by intro A X W x F raw tk h; simp [mO] at h
  | .pop1 _ _ => by intro A X W x F raw tk h; simp [mO] at h
  | .rvs _ => by intro A X W x F raw tk h; simp [mO] at h
  | .call _ _ => by intro A X W x F raw tk h; simp [mO] at h
  | .callx _ _ => by intro A X W x F raw tk h; simp [mO] at h
  | .callk _ _ => by intro A X W x F raw tk h; simp [mO] at h
  | .mth _ _ _ => by intro A X W x F raw tk h; simp [mO] at h
  | .mthk _ _ _ => by intro A X W x F raw tk h; simp [mO] at h
  | .mk _ _ _ => by intro A X W x F raw tk h; simp [mO] at h
  | .dun _ _ _ => by intro A X W x F raw tk h; simp [mO] at h
  | .deq _ _ _ => by intro A X W x F raw tk h; simp [mO] at h
  | .fld _ _ => by intro A X W x F raw tk h; simp [mO] at h
  | .lc _ _ _ _ _ _ => by intro A X W x F raw tk h; simp [mO] at h
  | .lc2 _ _ _ _ _ _ _ _ _ => by intro A X W x F raw tk h; simp [mO] at h
  | .dc _ _ _ _ _ _ => by intro A X W x F raw tk h; simp [mO] at h
  | .rng _ => by intro A X W x F raw tk h; simp [mO] at h
  | .enm _ => by intro A X W x F raw tk h; simp [mO] at h
  | .zip _ _ => by intro A X W x F raw tk h; simp [mO] at h
  | .ov _ => by intro A X W x F raw tk h; simp [mO] at h
theorem pi_ev : ∀ it : E, ItP l G N T n B b it
  | .rng es => i_rng (pa_ev es)
  | .enm a => i_enm (pe_ev a)
  | .zip a c => i_zip (pe_ev a) (pe_ev c)
  | .ov a => i_ov (pe_ev a)
  | .v _ => by intro A X W tg x F raw tk h; simp [mIt] at h
  | .k _ => by intro A X W tg x F raw tk h; simp [mIt] at h
  | .gl _ _ => by intro A X W tg x F raw tk h; simp [mIt] at h
  | .fnm _ => by intro A X W tg x F raw tk h; simp [mIt] at h
  | .nil => by intro A X W tg x F raw tk h; simp [mIt] at h
  | .cons _ _ => by intro A X W tg x F raw tk h; simp [mIt] at h
  | .tup _ => by intro A X W tg x F raw tk h; simp [mIt] at h
  | .lst _ => by intro A X W tg x F raw tk h; simp [mIt] at h
  | .new _ => by intro A X W tg x F raw tk h; simp [mIt] at h
  | .dnew => by intro A X W tg x F raw tk h; simp [mIt] at h
  | .d1 _ _ => by intro A X W tg x F raw tk h; simp [mIt] at h
  | .bin _ _ _ => by intro A X W tg x F raw tk h; simp [mIt] at h
  | .cat _ _ => by intro A X W tg x F raw tk h; simp [mIt] at h
  | .cmp _ _ _ => by intro A X W tg x F raw tk h; simp [mIt] at h
  | .chn _ _ _ _ _ => by intro A X W tg x F raw tk h; simp [mIt] at h
  | .isk _ _ _ => by intro A X W tg x F raw tk h; simp [mIt] at h
  | .and _ => by intro A X W tg x F raw tk h; simp [mIt] at h
  | .or _ => by intro A X W tg x F raw tk h; simp [mIt] at h
  | .not _ => by intro A X W tg x F raw tk h; simp [mIt] at h
  | .ife _ _ _ => by intro A X W tg x F raw tk h; simp [mIt] at h
  | .ix _ _ => by intro A X W tg x F raw tk h; simp [mIt] at h
  | .sl _ _ _ => by intro A X W tg x F raw tk h; simp [mIt] at h
  | .rv _ => by intro A X W tg x F raw tk h; simp [mIt] at h
  | .bi _ _ => by intro A X W tg x F raw tk h; simp [mIt] at h
  | .isi _ _ => by intro A X W tg x F raw tk h; simp [mIt] at h
  | .lsr _ _ => by intro A X W tg x F raw tk h; simp [mIt] at h
  | .lsq _ _ => by intro A X W tg x F raw tk h; simp [mIt] at h
  | .dcp _ => by intro A X W tg x F raw tk h; simp [mIt] at h
  | .dpr _ => by intro A X W tg x F raw tk h; simp [mIt] at h
  | .sst _ => by intro A X W tg x F raw tk h; simp [mIt] at h
  | .lst1 _ => by intro A X W tg x F raw tk h; simp [mIt] at h
  | .cnt _ _ => by intro A X W tg x F raw tk h; simp [mIt] at h
  | .idx _ _ => by intro A X W tg x F raw tk h; simp [mIt] at h
  | .join _ _ => by intro A X W tg x F raw tk h; simp [mIt] at h
  | .splt _ _ => by intro A X W tg x F raw tk h; simp [mIt] at h
  | .app _ _ => by intro A X W tg x F raw tk h; simp [mIt] at h
  | .ext _ _ => by intro A X W tg x F raw tk h; simp [mIt] at h
  | .pop0 _ => by intro A X W tg x F raw tk h; simp [mIt] at h
  | .pop1 _ _ => by intro A X W tg x F raw tk h; simp [mIt] at h
  | .rvs _ => by intro A X W tg x F raw tk h; simp [mIt] at h
  | .call _ _ => by intro A X W tg x F raw tk h; simp [mIt] at h
  | .callx _ _ => by intro A X W tg x F raw tk h; simp [mIt] at h
  | .callk _ _ => by intro A X W tg x F raw tk h; simp [mIt] at h
  | .mth _ _ _ => by intro A X W tg x F raw tk h; simp [mIt] at h
  | .mthk _ _ _ => by intro A X W tg x F raw tk h; simp [mIt] at h
  | .mk _ _ _ => by intro A X W tg x F raw tk h; simp [mIt] at h
  | .dun _ _ _ => by intro A X W tg x F raw tk h; simp [mIt] at h
  | .deq _ _ _ => by intro A X W tg x F raw tk h; simp [mIt] at h
  | .fld _ _ => by intro A X W tg x F raw tk h; simp [mIt] at h
  | .lc _ _ _ _ _ _ => by intro A X W tg x F raw tk h; simp [mIt] at h
  | .lc2 _ _ _ _ _ _ _ _ _ => by intro A X W tg x F raw tk h; simp [mIt] at h
  | .dc _ _ _ _ _ _ => by intro A X W tg x F raw tk h; simp [mIt] at h
theorem pt_ev : ∀ c : E, TsP l G N T n B b c
  | .nil => t_nil
  | .cons a r => t_gen (pe_ev a)
  | .v _ => by intro A X x F raw h; cases h
  | .k _ => by intro A X x F raw h; cases h
  | .gl _ _ => by intro A X x F raw h; cases h
  | .fnm _ => by intro A X x F raw h; cases h
  | .tup _ => by intro A X x F raw h; cases h
  | .lst _ => by intro A X x F raw h; cases h
  | .new _ => by intro A X x F raw h; cases h
  | .dnew => by intro A X x F raw h; cases h
  | .d1 _ _ => by intro A X x F raw h; cases h
  | .bin _ _ _ => by intro A X x F raw h; cases h
  | .cat _ _ => by intro A X x F raw h; cases h
  | .cmp _ _ _ => by intro A X x F raw h; cases h
  | .chn _ _ _ _ _ => by intro A X x F raw h; cases h
  | .isk _ _ _ => by intro A X x F raw h; cases h
  | .and _ => by intro A X x F raw h; cases h
  | .or _ => by intro A X x F raw h; cases h
  | .not _ => by intro A X x F raw h; cases h
  | .ife _ _ _ => by intro A X x F raw h; cases h
  | .ix _ _ => by intro A X x F raw h; cases h
  | .sl _ _ _ => by intro A X x F raw h; cases h
  | .rv _ => by intro A X x F raw h; cases h
  | .bi _ _ => by intro A X x F raw h; cases h
  | .isi _ _ => by intro A X x F raw h; cases h
  | .lsr _ _ => by intro A X x F raw h; cases h
  | .lsq _ _ => by intro A X x F raw h; cases h
  | .dcp _ => by intro A X x F raw h; cases h
  | .dpr _ => by intro A X x F raw h; cases h
  | .sst _ => by intro A X x F raw h; cases h
  | .lst1 _ => by intro A X x F raw h; cases h
  | .cnt _ _ => by intro A X x F raw h; cases h
  | .idx _ _ => by intro A X x F raw h; cases h
  | .join _ _ => by intro A X x F raw h; cases h
  | .splt _ _ => by intro A X x F raw h; cases h
  | .app _ _ => by intro A X x F raw h; cases h
  | .ext _ _ => by intro A X x F raw h; cases h
  | .pop0 _ => by intro A X x F raw h; cases h
  | .pop1 _ _ => by intro A X x F raw h; cases h
  | .rvs _ => by intro A X x F raw h; cases h
  | .call _ _ => by intro A X x F raw h; cases h
  | .callx _ _ => by intro A X x F raw h; cases h
  | .callk _ _ => by intro A X x F raw h; cases h
  | .mth _ _ _ => by intro A X x F raw h; cases h
  | .mthk _ _ _ => by intro A X x F raw h; cases h
  | .mk _ _ _ => by intro A X x F raw h; cases h
  | .dun _ _ _ => by intro A X x F raw h; cases h
  | .deq _ _ _ => by intro A X x F raw h; cases h
  | .fld _ _ => by intro A X x F raw h; cases h
  | .lc _ _ _ _ _ _ => by intro A X x F raw h; cases h
  | .lc2 _ _ _ _ _ _ _ _ _ => by intro A X x F raw h; cases h
  | .dc _ _ _ _ _ _ => by intro A X x F raw h; cases h
  | .rng _ => by intro A X x F raw h; cases h
  | .enm _ => by intro A X x F raw h; cases h
  | .zip _ _ => by intro A X x F raw h; cases h
  | .ov _ => by intro A X x F raw h; cases h
end
end Bo

set_option Elab.async false
set_option linter.all false
set_option maxRecDepth 100000
/-! B17: the evaluator is right about statements. -/
namespace Bo
open PySem PySem.Spec PyProof.Rows
open L2 (V HO Hp Rd SqL SqT Vals upd Cx PE PT PA PO PI PW PG PGs PTs PS PSs OpR UnR CallR SlR IxR VK XK TE TT TA TO TI TG TGs TS Ends Inv RelV EP Room Sp FnOk Gl Vis Binds WX Takes tOp tCons tNil It Turn PIE Loc BlkOk)
variable {l : Lk} {G : List (Str × D)} {N : List Str} {T : Tb} {n : Nat} {B : Nat → Nat} {b : Nat}
/-- a def's frame -/
structure FS (A : Ad) (l : Lk) (G : List (Str × D)) (N : List Str) (T : Tb) (n : Nat) (X : Cx) (W : Wi) : Prop where
  fr : Fr A l G N T n X
  raw : RawAll
  tk : Takes X (wxOf A W)
  kind : X.env.scope.kind = .function
  po : PassesOwn (model X.prog X.w) X.A X.env X.xe
  fn : ∀ x, X.fn x = true
  ex : ∀ c a, A.ca c = some a → c ≤ 12 → RsOk X a
  stk : X.stack = X.env :: X.outer
  frm : X.env.frame = some X.env.locals
  wh : ∀ g, l.wh = some g → ErrOk A X.K X.mg ∧ ∃ f fd y, X.mg g = some (.ref f) ∧ PySem.W.keepIn X.K (.ref f) = true ∧ Binds X.K fd [y] [] ∧ FnE X.prog X.w X.K X.mg X.base f fd y (spWh A)
theorem FS.tr {A : Ad} {X : Cx} {W W' : Wi} (F : FS A l G N T n X W) {pn : List (Addr × Obj)} {xe : Value → Shared → Prop} (tk : Takes (X.tr pn xe) (wxOf A W')) (po : PassesOwn (model X.prog X.w) X.A X.env xe) : FS A l G N T n (X.tr pn xe) W' :=
  ⟨⟨F.fr.calm, F.fr.nd, F.fr.N, F.fr.room, F.fr.bi, F.fr.gl, F.fr.fn, F.fr.cl, F.fr.cls, F.fr.bk, F.fr.mt⟩, F.raw, tk, F.kind, po, F.fn, F.ex, F.stk, F.frm, F.wh⟩
theorem FS.loc {A : Ad} {X : Cx} {W : Wi} (F : FS A l G N T n X W) : LocOk X X.env.scope := by
  intro x h
  refine ⟨?_, .inl (F.fn x)⟩
  unfold locB at h
  split at h
  · rename_i e; exact .inl e
  · rename_i e; exact .inr e
  · cases h
def StP (l : Lk) (G : List (Str × D)) (N : List Str) (T : Tb) (n : Nat) (B : Nat → Nat) (b : Nat) (st : S) : Prop := ∀ (A : Ad) (X : Cx) (W : Wi) (x : Stmt), FS A l G N T n X W → mS l G N st X.env.scope x = true → PS X x (tSt A X B b W (exS (cC b T n) st))
def SsP (l : Lk) (G : List (Str × D)) (N : List Str) (T : Tb) (n : Nat) (B : Nat → Nat) (b : Nat) (st : S) : Prop := ∀ (A : Ad) (X : Cx) (W : Wi) (xs : List Stmt), FS A l G N T n X W → mB l G N st X.env.scope xs = true → PSs X xs (tSt A X B b W (exS (cC b T n) st))
theorem mP_N {N' : List Str} {X : Cx} (h : X.N = N') : True := trivial
theorem lcE {e : E} {sc : Scope} {v : Expr} (h : isLcE e = true) (hm : mE l G N e sc v = true) : (∃ al vs e' p it c elt tg iter ifs scope pos, e = .lc al vs e' p it c ∧ v = .ListComp elt [⟨tg, iter, ifs, 0⟩] scope pos ∧
    (L2.blkC N sc scope (ownN N vs) && (pv p).all (vs.contains ·) && tstC c && mE l G N e' (blkSc sc scope) elt && mP N p scope tg && mIt l G N it sc tg iter && mEs l G N c (blkSc sc scope) ifs) = true) ∨
    ∃ vs vs1 e' p it c p1 a1 c1 elt tg iter ifs tg1 iter1 ifs1 scope pos, e = .lc2 vs vs1 e' p it c p1 a1 c1 ∧ v = .ListComp elt [⟨tg, iter, ifs, 0⟩, ⟨tg1, iter1, ifs1, 0⟩] scope pos ∧
    (L2.blkC N sc scope (ownN N vs) && (pv p).all (vs.contains ·) && tstC c && mE l G N e' (blkSc sc scope) elt && mP N p scope tg && mIt l G N it sc tg iter && mEs l G N c (blkSc sc scope) ifs &&
        ((pv p1).all (vs1.contains ·) && vs1.all (vs.contains ·) && tstC c1 && mP N p1 scope tg1 && mE l G N a1 (blkSc sc scope) iter1 && mEs l G N c1 (blkSc sc scope) ifs1)) = true := by
  cases e with
  | lc al vs e' p it c =>
    unfold mE at hm
    split at hm
    · exact .inl ⟨al, vs, e', p, it, c, _, _, _, _, _, _, rfl, rfl, hm⟩
    · cases hm
  | lc2 vs vs1 e' p it c p1 a1 c1 =>
    unfold mE at hm
    split at hm
    · exact .inr ⟨vs, vs1, e', p, it, c, p1, a1, c1, _, _, _, _, _, _, _, _, _, rfl, rfl, hm⟩
    · cases hm
  | _ => cases h
theorem plC_eq (e : Expr) : plCE e = plC e := by cases e <;> rfl
theorem st_asg {i : Nat} {e : E} : StP l G N T n B b (.asg i e) := by
  intro A X W x F h
  unfold mS at h
  split at h
  · rename_i nm px v pos
    simp only [Bool.and_eq_true, decide_eq_true_eq, Bool.or_eq_true] at h
    obtain ⟨⟨⟨h1, h2⟩, h3⟩, h4⟩ := h
    by_cases hl : isLcE e = true
    · rcases lcE hl h3 with ⟨al, vs, e', p, it, c, elt, tg, iter, ifs, scope, lpos, rfl, rfl, hm⟩ | ⟨vs, vs1, e', p, it, c, p1, a1, c1, elt, tg, iter, ifs, tg1, iter1, ifs1, scope, lpos, rfl, rfl, hm⟩
      · have P := lc_parts (A := A) (X := X) (W := W) (T := T) (n := n) (B := B) (b := b) (pe_ev e') (pi_ev it) (pt_ev c) F.fr F.raw F.tk hm
        have q := s_asgLc (i := i) (al := al) (px := px) (lpos := lpos) (pos := pos) F.fr.calm F.kind F.fr.nd F.fr.N F.loc h1 h2 P
        rw [own_map] at q
        exact q
      · have P := lc2_parts (A := A) (X := X) (W := W) (T := T) (n := n) (B := B) (b := b) (pe_ev e') (pi_ev it) (pt_ev c) (pe_ev a1) (pt_ev c1) F.fr F.raw F.tk hm
        have q := s_asgLc2 (i := i) (px := px) (lpos := lpos) (pos := pos) F.fr.calm F.kind F.fr.nd F.fr.N F.loc h1 h2 P
        rw [own_map] at q
        exact q
    · have hp : plC v = true := by
        rw [← plC_eq]
        rcases h4 with h4 | h4
        · exact h4
        · exact absurd h4 hl
      exact s_asg F.fr.nd F.fr.N F.loc h1 h2 (pl_swap hp _ _ _) (pe_ev e A X W v F.fr F.raw F.tk h3).1
  · cases h
theorem noTup_sw {tg v : Expr} (h : noTupE v = true) (env : Env) : swappedStores [tg] v env = pure none := by
  cases v with
  | Tuple a c d => cases h
  | _ => cases tg <;> rfl
theorem st_asgp {p : P} {e : E} : StP l G N T n B b (.asgp p e) := by
  intro A X W x F h
  unfold mS at h
  split at h
  · simp only [Bool.and_eq_true] at h
    obtain ⟨⟨⟨h1, h2⟩, h3⟩, h4⟩ := h
    exact s_asgp (pg_pat F.fr.calm F.fr.nd F.fr.N F.loc p _ h1) (mP_tg h1) (by rw [← plC_eq]; exact h3) (noTup_sw h4 _) (pe_ev e A X W _ F.fr F.raw F.tk h2).1
  · cases h
theorem sw_yes {X : Cx} {ts vs : List Expr} {k k2 : Nat} {p p2 : Pos} (hk : X.env.scope.kind = .function) (h : swYes X.env.scope ts vs = true) : swappedStores [.Tuple ts k p] (.Tuple vs k2 p2) X.env = pure (some (swNames X.env.scope (swLine ts) ts)) := by
  have hb : X.env.blockKind = .function := by unfold Env.blockKind; rw [hk]; rfl
  unfold swYes at h
  simp only [Bool.and_eq_true, Bool.not_eq_true'] at h
  obtain ⟨⟨⟨⟨⟨⟨h1, h2⟩, h3⟩, h4⟩, h5⟩, h6⟩, h7⟩ := h
  have h2' : (vs.length != ts.length) = false := by simp only [bne, h2]; rfl
  have h4' : ((swNames X.env.scope (swLine ts) ts).length != ts.length) = false := by simp only [bne, h4]; rfl
  have h5' : ((swNames X.env.scope (swLine ts) ts).eraseDups.length != (swNames X.env.scope (swLine ts) ts).length) = false := by simp only [bne, h5]; rfl
  have hb' : (X.env.blockKind != .function) = false := by rw [hb]; rfl
  unfold swappedStores
  dsimp only
  rw [h1, h2', hb']
  rw [if_neg (by decide)]
  refine (if_neg (Bool.eq_false_iff.mp h3)).trans ?_
  show (if ((swNames X.env.scope (swLine ts) ts).length != ts.length || (swNames X.env.scope (swLine ts) ts).eraseDups.length != (swNames X.env.scope (swLine ts) ts).length) = true then _ else _) = _
  rw [h4', h5']
  rw [if_neg (by decide), if_neg (by rw [h6]; decide), if_neg (by rw [h7]; decide)]
  rfl
theorem sw_no {X : Cx} {ts vs : List Expr} {k k2 : Nat} {p p2 : Pos} (hk : X.env.scope.kind = .function) (h : swNo X.env.scope ts vs = true) : swappedStores [.Tuple ts k p] (.Tuple vs k2 p2) X.env = pure none := by
  have hb : X.env.blockKind = .function := by unfold Env.blockKind; rw [hk]; rfl
  unfold swNo at h
  simp only [Bool.and_eq_true, Bool.not_eq_true'] at h
  obtain ⟨⟨⟨h1, h2⟩, h3⟩, h4⟩ := h
  have h2' : (vs.length != ts.length) = false := by simp only [bne, h2]; rfl
  have hb' : (X.env.blockKind != .function) = false := by rw [hb]; rfl
  unfold swappedStores
  dsimp only
  rw [h1, h2', hb']
  rw [if_neg (by decide)]
  refine (if_neg (Bool.eq_false_iff.mp h3)).trans ?_
  show (if ((swNames X.env.scope (swLine ts) ts).length != ts.length || (swNames X.env.scope (swLine ts) ts).eraseDups.length != (swNames X.env.scope (swLine ts) ts).length) = true then _ else _) = _
  rw [Bool.or_eq_true] at h4
  split
  · rfl
  · rename_i hn
    rcases h4 with h4 | h4
    · exact absurd h4 hn
    · rw [if_pos h4]
theorem lookup_of {sc : Scope} {x : Str} (h : (sc.names.lookup x == some NameKind.local) = true) : sc.names.lookup x = some .local := by
  cases hq : sc.names.lookup x with
  | none => rw [hq] at h; cases h
  | some kd => rw [hq] at h; cases kd <;> first | rfl | cases h
theorem swNames2 {sc : Scope} {x y : Str} {px py : Pos} {vs : List Expr} (h : swYes sc [.Name x px, .Name y py] vs = true) : sc.names.lookup x = some .local ∧ sc.names.lookup y = some .local ∧ swNames sc (swLine [.Name x px, .Name y py]) [.Name x px, .Name y py] = [x, y] := by
  unfold swYes at h
  simp only [Bool.and_eq_true] at h
  have h4 := h.1.1.1.2
  generalize swLine [Expr.Name x px, .Name y py] = ln at h4 ⊢
  unfold swNames at h4 ⊢
  rw [List.filterMap_cons, List.filterMap_cons, List.filterMap_nil] at h4 ⊢
  by_cases hx : (sc.names.lookup x == some NameKind.local && px.line == ln) = true
  · by_cases hy : (sc.names.lookup y == some NameKind.local && py.line == ln) = true
    · simp only [hx, hy, if_true]
      rw [Bool.and_eq_true] at hx hy
      exact ⟨lookup_of hx.1, lookup_of hy.1, trivial⟩
    · simp [hx, hy] at h4
  · by_cases hy : (sc.names.lookup y == some NameKind.local && py.line == ln) = true
    · simp [hx, hy] at h4
    · simp [hx, hy] at h4
theorem ps_ext {X : Cx} {x : Stmt} {A : Ad} {W : Wi} {f g : Sg → M → Option (Out × M)} (h : PS X x (tSt A X B b W f)) (e : ∀ s m, f s m = g s m) : PS X x (tSt A X B b W g) := by
  have : f = g := funext fun s => funext fun m => e s m
  rw [← this]
  exact h
theorem eb_bnd {α : Type} (r : Option (Rs α × M)) (k : α → M → Option (Rs D × M)) (c : D → M → Option (Out × M)) : eb (bnd r k) c = match r with
    | some (.ok a, m) => eb (k a m) c
    | some (.ex x, m) => some (.ex x, m)
    | none => none := by
  cases r with
  | none => rfl
  | some p =>
    obtain ⟨x, m⟩ := p
    cases x <;> rfl
theorem st_par2 {i j : Nat} {a c : E} : StP l G N T n B b (.par2 i j a c) := by
  intro A X W st F h
  unfold mS at h
  split at h
  · rename_i x px y py kt pt va vc k2 pt2 pos
    simp only [Bool.and_eq_true, decide_eq_true_eq] at h
    obtain ⟨⟨⟨⟨⟨⟨⟨h0, h1⟩, h2⟩, h3⟩, h4⟩, h5⟩, h6⟩, h7⟩ := h
    rw [Bool.or_eq_true] at h0
    have qa := (pe_ev (B := B) (b := b) a A X W va F.fr F.raw F.tk h6).1
    have qc := (pe_ev (B := B) (b := b) c A X W vc F.fr F.raw F.tk h7).1
    rcases h0 with h0 | h0
    · obtain ⟨e1, e2, e3⟩ := swNames2 h0
      exact s_par2 F.fr.calm F.fr.nd F.fr.N h3 h4 h5 e1 e2 (mE_pl h6) (mE_pl h7) (by rw [sw_yes F.kind h0, e3]) qa qc
    · have hm : mP N (.t (.cons (.v i) (.cons (.v j) .nil))) X.env.scope (.Tuple [.Name x px, .Name y py] kt pt) = true := by
        simp [mP, mPs, h1, h2, h3, h4]
      have qt := n_tup (k := k2) (pos := pt2) (n_cons qa (n_cons qc n_nil (mE_pl h7)) (mE_pl h6))
      refine ps_ext (s_asgp (pg_pat F.fr.calm F.fr.nd F.fr.N F.loc (.t (.cons (.v i) (.cons (.v j) .nil))) _ hm) (mP_tg hm) rfl (sw_no F.kind h0) qt) fun s m => ?_
      show _ = eb (ev (cC b T n) a s m) fun x m1 => eb (ev (cC b T n) c s m1) fun y m2 => some (.nx ((s.set i (some x)).set j (some y)), m2)
      cases ev (cC b T n) a s m with
      | none => rfl
      | some r =>
        obtain ⟨r, m1⟩ := r
        cases r with
        | ex c => rfl
        | ok d =>
          show eb (bnd (bnd (bnd (ev (cC b T n) c s m1) fun d2 m2 => bnd (some (.ok [], m2)) fun ds m3 => some (.ok (d2 :: ds), m3)) fun ds m2 => some (.ok (d :: ds), m2)) _) _ = eb (ev (cC b T n) c s m1) _
          cases ev (cC b T n) c s m1 with
          | none => rfl
          | some r =>
            obtain ⟨r, m2⟩ := r
            cases r with
            | ex c => rfl
            | ok d2 =>
              show eb (if [d, d2].length ≤ sizeLine then some (.ok (.tup [d, d2]), m2) else none) _ = _
              rw [if_pos (show [d, d2].length ≤ sizeLine by show 2 ≤ sizeLine; decide)]
              rfl
  · cases h
theorem st_seti {o k v : E} : StP l G N T n B b (.seti o k v) := by
  intro A X W st F h
  unfold mS at h
  split at h
  · simp only [Bool.and_eq_true] at h
    obtain ⟨⟨⟨h1, h2⟩, h3⟩, h4⟩ := h
    have := units F.fr
    exact s_seti (by omega) (by rw [← plC_eq]; exact h4) (mE_pl h2) (pe_ev o A X W _ F.fr F.raw F.tk h1).1 (pe_ev k A X W _ F.fr F.raw F.tk h2).1 (pe_ev v A X W _ F.fr F.raw F.tk h3).1
  · cases h
theorem st_setf {o v : E} {y : Str} : StP l G N T n B b (.setf o y v) := by
  intro A X W st F h
  unfold mS at h
  split at h
  · simp only [Bool.and_eq_true, decide_eq_true_eq] at h
    obtain ⟨⟨⟨⟨rfl, h1⟩, h2⟩, h3⟩, h4⟩ := h
    exact s_setf F.fr (any_mem h1) (by rw [← plC_eq]; exact h4) (pe_ev o A X W _ F.fr F.raw F.tk h2).1 (pe_ev v A X W _ F.fr F.raw F.tk h3).1
  · cases h
theorem st_set2 {o1 k1 o2 k2 v1 v2 : E} : StP l G N T n B b (.set2 o1 k1 o2 k2 v1 v2) := by
  intro A X W st F h
  unfold mS at h
  split at h
  · simp only [Bool.and_eq_true] at h
    obtain ⟨⟨⟨⟨⟨⟨h0, h1⟩, h2⟩, h3⟩, h4⟩, h5⟩, h6⟩ := h
    have := units F.fr
    exact s_set2 F.fr.calm (by omega) (mE_pl h2) (mE_pl h4) (mE_pl h5) (mE_pl h6) (sw_no F.kind h0) (pe_ev o1 A X W _ F.fr F.raw F.tk h1).1 (pe_ev k1 A X W _ F.fr F.raw F.tk h2).1
      (pe_ev o2 A X W _ F.fr F.raw F.tk h3).1 (pe_ev k2 A X W _ F.fr F.raw F.tk h4).1 (pe_ev v1 A X W _ F.fr F.raw F.tk h5).1 (pe_ev v2 A X W _ F.fr F.raw F.tk h6).1
  · cases h
theorem st_ex {e : E} : StP l G N T n B b (.ex e) := by
  intro A X W st F h
  unfold mS at h
  split at h
  · simp only [Bool.and_eq_true] at h
    exact s_ex (pe_ev e A X W _ F.fr F.raw F.tk h.1).1 (by rw [← plC_eq]; exact h.2)
  · cases h
theorem st_ret {e : E} : StP l G N T n B b (.ret e) := by
  intro A X W st F h
  unfold mS at h
  split at h
  · exact s_ret (pe_ev e A X W _ F.fr F.raw F.tk h).1
  · cases h
theorem st_retn : StP l G N T n B b .retn := by
  intro A X W st F h
  unfold mS at h
  split at h
  · exact s_retn
  · cases h
theorem st_nop : StP l G N T n B b .nop := by
  intro A X W st F h
  unfold mS at h
  split at h
  · exact s_pass
  · cases h
theorem st_ife {c : E} {p q : S} (hp : SsP l G N T n B b p) (hq : SsP l G N T n B b q) : StP l G N T n B b (.ife c p q) := by
  intro A X W st F h
  unfold mS at h
  split at h
  · simp only [Bool.and_eq_true] at h
    exact s_ife ((pe_ev c A X W _ F.fr F.raw F.tk h.1.1.2).2 h.1.1.1) (hp A X W _ F h.1.2) (hq A X W _ F h.2)
  · cases h
theorem st_for {p : P} {it : E} {q : S} (hq : SsP l G N T n B b q) : StP l G N T n B b (.for p it q) := by
  intro A X W st F h
  unfold mS at h
  split at h
  · simp only [Bool.and_eq_true] at h
    obtain ⟨⟨h1, h2⟩, h3⟩ := h
    refine ps_ext (s_for F.po F.fr.calm (pi_ev it A X W _ _ F.fr F.raw F.tk h2) (pg_pat F.fr.calm F.fr.nd F.fr.N F.loc p _ h1) (hq A X W _ F h3) (mIt_pl h2)) fun s m => ?_
    show forV p (evIt (cC b T n) it) (exS (cC b T n) q) s m = _
    rfl
  · cases h
theorem st_whl {k : Nat} {c : E} {q : S} (hq : SsP l G N T n B b q) : StP l G N T n B b (.whl k c q) := by
  intro A X W st F h
  unfold mS at h
  split at h
  · simp only [Bool.and_eq_true] at h
    exact s_whl F.po ((pe_ev c A X W _ F.fr F.raw F.tk h.1.2).2 h.1.1) (hq A X W _ F h.2)
  · cases h
theorem st_tryw {p : S} {c i f : Nat} (hp : SsP l G N T n B b p) : StP l G N T n B b (.tryw p c i f) := by
  intro A X W st F h
  unfold mS at h
  split at h
  · rename_i b' y yp nn g gp n2 n2p cp rp hp' pos
    simp only [Bool.and_eq_true, decide_eq_true_eq, bne_iff_ne, ne_eq] at h
    obtain ⟨⟨⟨⟨⟨⟨⟨⟨⟨⟨h1, h2⟩, h3⟩, h4⟩, h5⟩, h6⟩, h7⟩, h8⟩, h9⟩, h10⟩, h11⟩ := h
    subst h3 h5
    obtain ⟨E, wf, wd, wy, w1, w2, w3, w4⟩ := F.wh g h10
    obtain ⟨R, r1, r2⟩ := F.fr.cl 0 y h2
    have hloc : X.env.kindOf nn = some .local := by
      unfold locOnly at h6
      unfold Env.kindOf
      split at h6
      · assumption
      · cases h6
    exact ps_ext (s_tryw (F := exS (cC b T n) p) F.fr.calm F.fr.room F.tk F.stk F.frm F.fr.nd (by rw [F.fr.N]; exact h4) hloc (by simpa using h7) (by simpa using h8) h1 r1 r2 h9 w1 w2 w3 w4 E
      fun W1 pn xe tk po => hp A (X.tr pn xe) (wiOf A W1) b' (F.tr tk po) h11) fun s m => rfl
  · cases h
theorem st_rse {c : Nat} {z : Str} : StP l G N T n B b (.rse c z) := by
  intro A X W st F h
  unfold mS at h
  split at h
  · simp only [Bool.and_eq_true, decide_eq_true_eq] at h
    obtain ⟨a, h1, h2⟩ := F.fr.cl c _ h.1.2
    exact s_rse F.fr.calm F.tk h1 (F.ex c a h1 h.2) h.1.1 h2
  · cases h
mutual
theorem ps_ex : ∀ st : S, StP l G N T n B b st
  | .nop => st_nop
  | .asg _ _ => st_asg
  | .asgp _ _ => st_asgp
  | .par2 _ _ _ _ => st_par2
  | .seti _ _ _ => st_seti
  | .ex _ => st_ex
  | .ret _ => st_ret
  | .retn => st_retn
  | .ife c p q => st_ife (pss_ex p) (pss_ex q)
  | .for p it q => st_for (pss_ex q)
  | .whl k c q => st_whl (pss_ex q)
  | .rse _ _ => st_rse
  | .seq _ _ => by intro A X W x F h; simp [mS] at h
  | .par3 _ _ _ _ _ _ => by intro A X W x F h; simp [mS] at h
  | .set2 _ _ _ _ _ _ => st_set2
  | .augi _ _ _ => by intro A X W x F h; simp [mS] at h
  | .tryw p _ _ _ => st_tryw (pss_ex p)
  | .tryo _ _ _ => by intro A X W x F h; simp [mS] at h
  | .setf _ _ _ => st_setf
theorem pss_ex : ∀ st : S, SsP l G N T n B b st
  | .nop => by
    intro A X W xs F h
    simp only [mB, List.isEmpty_iff] at h
    subst h
    exact s_nil
  | .seq a r => by
    intro A X W xs F h
    cases xs with
    | nil => simp [mB] at h
    | cons x xr =>
      simp only [mB, Bool.and_eq_true] at h
      exact s_cons (ps_ex a A X W x F h.1) (pss_ex r A X W xr F h.2)
  | .asg _ _ => by intro A X W x F h; simp [mB] at h
  | .asgp _ _ => by intro A X W x F h; simp [mB] at h
  | .par2 _ _ _ _ => by intro A X W x F h; simp [mB] at h
  | .seti _ _ _ => by intro A X W x F h; simp [mB] at h
  | .ex _ => by intro A X W x F h; simp [mB] at h
  | .ret _ => by intro A X W x F h; simp [mB] at h
  | .retn => by intro A X W x F h; simp [mB] at h
  | .ife _ _ _ => by intro A X W x F h; simp [mB] at h
  | .for _ _ _ => by intro A X W x F h; simp [mB] at h
  | .whl _ _ _ => by intro A X W x F h; simp [mB] at h
  | .rse _ _ => by intro A X W x F h; simp [mB] at h
  | .par3 _ _ _ _ _ _ => by intro A X W x F h; simp [mB] at h
  | .set2 _ _ _ _ _ _ => by intro A X W x F h; simp [mB] at h
  | .augi _ _ _ => by intro A X W x F h; simp [mB] at h
  | .tryw _ _ _ _ => by intro A X W x F h; simp [mB] at h
  | .tryo _ _ _ => by intro A X W x F h; simp [mB] at h
  | .setf _ _ _ => by intro A X W x F h; simp [mB] at h
end
end Bo

set_option Elab.async false
set_option linter.all false
set_option maxRecDepth 100000
/-! B18: the evaluator is right about calls. -/
namespace Bo
open PySem PySem.Spec PyProof.Rows
open L2 (V HO Hp Rd SqL SqT Vals upd Cx PE PT PA PO PI PW PG PGs PTs PS PSs OpR UnR CallR SlR IxR VK XK TE TT TA TO TI TG TGs TS Ends Inv RelV EP Room Sp FnOk Gl Vis Binds WX Takes tOp tCons tNil It Turn PIE Loc BlkOk defScope defBody FnScope cxOf)
section
variable {A : Ad} {K : PySem.W.Frag} {B : Nat → Nat} {b : Nat} {io io1 : List Addr} {H H1 : Hp} {m m1 : M}
theorem Rel.enter (R : Rel A K B b io H m) : Rel A K (bnds B b io) io.length io H m :=
  ⟨R.len, R.nd, Nat.le_refl _, R.hid, fun n _ => R.bnd_le n, fun n a o e1 e2 => by
    have hn : n < io.length := (List.getElem?_eq_some_iff.mp e1).1
    have q := R.ob n a o e1 e2
    have e : bnds (bnds B b io) io.length io n = bnds B b io n := by
      show (if n < io.length then bnds B b io n else io.length) = _
      rw [if_pos hn]
    rw [e]
    exact q⟩
theorem Ext.cut (x : Ext A io io1 H H1) : Ext A io io H H1 := ⟨⟨[], by simp⟩, x.keep, fun _ h n => absurd h n, x.hid⟩
theorem Ext.sub (x : Ext A io io1 H H1) : ∀ a, a ∈ io → a ∈ io1 := by
  obtain ⟨n, e⟩ := x.pre
  intro a h
  rw [e]
  exact List.mem_append_left _ h
theorem Ext.back (x : Ext A io io1 H H1) {n : Nat} {a : Addr} (hn : n < io.length) (h : io1[n]? = some a) : io[n]? = some a := by
  obtain ⟨nw, e⟩ := x.pre
  rw [e, List.getElem?_append_left hn] at h
  exact h
theorem objR_less {c : Nat} {a : Addr} (hs : ∀ a, a ∈ io → a ∈ io1) (hg : ∀ n a, n < c → io1[n]? = some a → n < c ∧ io[n]? = some a) : ∀ {o : MO}, ObjR A K io1 c H a o → ObjR A K io c H a o
  | .lst _, ⟨vs, e, r, z⟩ => ⟨vs, e, r.less hs hg, z⟩
  | .dct _ _, ⟨kvs, e, q, r, z⟩ => ⟨kvs, e, q, r.less hs hg, z⟩
  | .ins _ _, ⟨C, dx, gs, c1, e, f⟩ => ⟨C, dx, gs, c1, e, f.1, f.2.less hs hg⟩
theorem Rel.leave (R : Rel A K B b io H m) (x : Ext A io io1 H H1) (R1 : Rel A K (bnds B b io) io.length io1 H1 m1) : Rel A K B b io H1 (m1.take m.length) := by
  have hl : io.length ≤ io1.length := x.len
  refine ⟨?_, R.nd, R.base, fun a ha => ⟨fun z => (R1.hid a ha).1 (x.sub a z), (R1.hid a ha).2⟩, R.bd, fun n a o e1 e2 => ?_⟩
  · rw [List.length_take, ← R1.len, ← R.len]
    omega
  · have hn : n < io.length := (List.getElem?_eq_some_iff.mp e1).1
    rw [List.getElem?_take_of_lt (by rw [← R.len]; exact hn)] at e2
    have q := R1.ob n a o (x.get e1) e2
    have e : bnds (bnds B b io) io.length io1 n = bnds B b io n := by
      show (if n < io.length then bnds B b io n else io1.length) = _
      rw [if_pos hn]
    rw [e] at q
    exact objR_less x.sub (fun n' a' h1 h2 => ⟨h1, x.back (Nat.lt_of_lt_of_le h1 (R.bnd_le n)) h2⟩) q
theorem mapO_reps {g : Bo.D → Option Bo.D} {io' : List Addr} {c c' : Nat} (hg : ∀ d d' v, g d = some d' → Rep A K io c H d v → Rep A K io' c' H d' v) : ∀ {ds ds' : List Bo.D} {vs : List V}, mapO g ds = some ds' → Reps A K io c H ds vs → Reps A K io' c' H ds' vs
  | [], _, _, h, .nil => by cases h; exact .nil
  | d :: r, _, _, h, .cons h1 h2 => by
    simp only [mapO] at h
    split at h
    · rename_i y s e1 e2
      cases h
      exact .cons (hg _ _ _ e1 h1) (mapO_reps hg e2 h2)
    · cases h
theorem mapO_len {α β : Type} {g : α → Option β} : ∀ {ds : List α} {ds' : List β}, mapO g ds = some ds' → ds'.length = ds.length
  | [], _, h => by cases h; rfl
  | d :: r, _, h => by
    simp only [mapO] at h
    split at h
    · rename_i y s e1 e2
      cases h
      rw [List.length_cons, List.length_cons, mapO_len e2]
    · cases h
/-- what a def hands back, told without its own mutable things -/
theorem snap_rep {B1 : Nat → Nat} {b1 : Nat} (x : Ext A io io1 H H1) (R1 : Rel A K B1 b1 io1 H1 m1) : ∀ (k : Nat) (d d' : Bo.D) (v : V), snap m1 io.length k d = some d' → Rep A K io1 io1.length H1 d v → Rep A K io io.length H1 d' v
  | 0, _, _, _, h, _ => by cases h
  | k + 1, d, d', v, h, r => by
    unfold snap at h
    split at h
    · rename_i hn
      cases h
      exact (r.nr (b' := 0) hn).less x.sub fun n a z => absurd z (Nat.not_lt_zero _)
    · have ih := snap_rep x R1 k
      cases r with
      | @ref n a h1 h2 =>
        simp only at h
        by_cases hlt : n < io.length
        · rw [if_pos hlt] at h
          cases h
          exact .ref hlt (x.back hlt h2)
        · rw [if_neg hlt] at h
          have un : Un A io a := by
            constructor
            · intro z
              obtain ⟨j, hj, e⟩ := List.getElem_of_mem z
              have e1 : io1[j]? = some a := x.get (by rw [List.getElem?_eq_getElem hj, e])
              obtain ⟨q1, q2⟩ := List.getElem?_eq_some_iff.mp e1
              obtain ⟨q3, q4⟩ := List.getElem?_eq_some_iff.mp h2
              have : j = n := (List.getElem_inj R1.nd).mp (q2.trans q4.symm)
              omega
            · exact fun z => (R1.hid a z).1 (List.mem_of_getElem? h2)
          split at h
          · rename_i ds e
            cases hm : mapO (snap m1 io.length k) ds with
            | none => rw [hm] at h; cases h
            | some ds' =>
              rw [hm] at h
              cases h
              obtain ⟨vs, e1, r1, z⟩ := R1.get h2 e
              exact .lst un e1 (by rw [mapO_len hm]; exact z) (mapO_reps (fun d d' v => ih d d' v) hm r1)
          · rename_i ks ds e
            cases hm : mapO (snap m1 io.length k) ds with
            | none => rw [hm] at h; cases h
            | some ds' =>
              rw [hm] at h
              cases h
              obtain ⟨kvs, e1, q, r1, z⟩ := R1.get h2 e
              exact .dct un (.inl e1) q (mapO_reps (fun d d' v => ih d d' v) hm r1) z
          · cases h
      | @tup a vs ds h1 z r =>
        simp only at h
        cases hm : mapO (snap m1 io.length k) ds with
        | none => rw [hm] at h; cases h
        | some ds' =>
          rw [hm] at h
          cases h
          exact .tup (h1.less x.sub) (by rw [mapO_len hm]; exact z) (mapO_reps (fun d d' v => ih d d' v) hm r)
      | @lst a vs ds h1 h2 z r =>
        simp only at h
        cases hm : mapO (snap m1 io.length k) ds with
        | none => rw [hm] at h; cases h
        | some ds' =>
          rw [hm] at h
          cases h
          exact .lst (h1.less x.sub) h2 (by rw [mapO_len hm]; exact z) (mapO_reps (fun d d' v => ih d d' v) hm r)
      | @dct a kvs ks vs h1 h2 e r z =>
        simp only at h
        cases hm : mapO (snap m1 io.length k) vs with
        | none => rw [hm] at h; cases h
        | some ds' =>
          rw [hm] at h
          cases h
          exact .dct (h1.less x.sub) h2 e (mapO_reps (fun d d' v => ih d d' v) hm r) z
      | _ => cases h
theorem start_rel {F : Fn} {N : List Str} {ds : List Bo.D} {vs : List V} (h : Reps A K io io.length H ds vs) (hn : F.nn = N.length) : RelS A K io H (st0 F ds) (L2.start N vs) := by
  unfold st0 L2.start
  have hl := h.length
  refine ⟨by rw [List.length_append, List.length_append, List.length_map, List.length_map, List.length_replicate, List.length_replicate, hl, hn], fun i d e => ?_⟩
  by_cases hi : i < ds.length
  · rw [List.getElem?_append_left (by rw [List.length_map]; exact hi), List.getElem?_map] at e
    cases hd : ds[i]? with
    | none => rw [hd] at e; cases e
    | some d' =>
      rw [hd] at e
      cases e
      obtain ⟨v, h1, h2⟩ := h.get hd
      exact ⟨v, by rw [List.getElem?_append_left (by rw [List.length_map, ← hl]; exact hi), List.getElem?_map, h1]; rfl, h2⟩
  · rw [List.getElem?_append_right (by rw [List.length_map]; omega), List.getElem?_replicate] at e
    split at e
    · cases e
    · cases e
end
/-- what is to be known of a def -/
structure DefOk (A : Ad) (l : Lk) (T : Tb) (K : PySem.W.Frag) (mg : Str → Option Value) (f : Nat) (x : Str) : Prop where
  ex : ∃ (st : Stmt) (a : Addr) (fd : FuncData) (N ps : List Str) (G : List (Str × D)) (F : Fn), A.fa f = some a ∧ mg x = some (.ref a) ∧ L2.Fun K x x st a fd ∧ FnScope N ps (defScope st) ∧ Binds K fd ps [] ∧ T f = some F ∧ F.nn = N.length ∧ F.np = ps.length ∧
    mB l G N F.body (defScope st) (defBody st) = true ∧ (∀ (i : Nat) y d, G[i]? = some (y, d) → ∃ v u, mg y = some u ∧ RelV v u ∧ ∀ hd io c H, Rep (A.wh hd) K io c H d v)
/-- what is to be known of a method of the books -/
structure MthOk (A : Ad) (l : Lk) (T : Tb) (K : PySem.W.Frag) (mg : Str → Option Value) (f : Nat) (x : Str) : Prop where
  ex : ∃ (C : Addr) (q : Str) (st : Stmt) (a : Addr) (fd : FuncData) (N ps : List Str) (G : List (Str × D)) (F : Fn), A.ca 13 = some C ∧ A.fa f = some a ∧ L2.Meth K C x a ∧ (x = nInit → L2.Mk K C a) ∧ L2.Fun K x q st a fd ∧ FnScope N ps (defScope st) ∧ Binds K fd ps [] ∧ T f = some F ∧ F.nn = N.length ∧ F.np = ps.length ∧
    mB l G N F.body (defScope st) (defBody st) = true ∧ (∀ (i : Nat) y d, G[i]? = some (y, d) → ∃ v u, mg y = some u ∧ RelV v u ∧ ∀ hd io c H, Rep (A.wh hd) K io c H d v)
/-- the text's names, all of them -/
structure TextOk (A : Ad) (l : Lk) (T : Tb) (K : PySem.W.Frag) (mg : Str → Option Value) : Prop where
  bi : ∀ x, x ∈ biNames → mg x = none
  df : ∀ f x, l.fn f = some x → DefOk A l T K mg f x
  cl : ∀ c x, l.cl c = some x → ∃ a, A.ca c = some a ∧ mg x = some (.ref a)
  cls : ClsOk A K
  bk : ∀ C, A.ca 13 = some C → BkOk K C
  mt : ∀ f x, l.mt f = some x → MthOk A l T K mg f x
  wh : ∀ g, l.wh = some g → ErrOk A K mg ∧ ∃ f fd y, mg g = some (.ref f) ∧ PySem.W.keepIn K (.ref f) = true ∧ Binds K fd [y] [] ∧ ∀ P w base, FnE P w K mg base f fd y (spWh A)
  ex : ∀ c a, A.ca c = some a → c ≤ 12 → ∃ (bmB : List Value) (B newId initId : String), PySem.ExcBaseFacts B newId initId bmB ∧ PySem.W.excIn K a bmB newId = true ∧ PySem.W.keepIn K (.ref a) = true ∧ PySem.W.subIn K (.ref a) (.type "BaseException") = some true ∧ PySem.W.typeIn K (.ref a) = some (.type "type")
section
variable {A : Ad} {l : Lk} {T : Tb} {P : Program} {w : World} {K : PySem.W.Frag} {mg : Str → Option Value} {base : Heap}
/-- the defs, and the books' methods, as far as n calls one in another go -/
structure AllAt (A : Ad) (l : Lk) (T : Tb) (P : Program) (w : World) (K : PySem.W.Frag) (mg : Str → Option Value) (base : Heap) (n : Nat) : Prop where
  fn : ∀ (f : Nat) (x : Str), l.fn f = some x → ∃ a, A.fa f = some a ∧ mg x = some (.ref a) ∧ PySem.W.keepIn K (.ref a) = true ∧ ∃ fd ps, FnOk P w K mg base (L2.CX P w) (2 * n) a fd ps (spF A K T n f) ∧ Binds K fd ps []
  mt : ∀ (f : Nat) (x : Str), l.mt f = some x → ∃ C a, A.ca 13 = some C ∧ A.fa f = some a ∧ L2.Meth K C x a ∧ (x = nInit → L2.Mk K C a) ∧ ∃ fd ps, FnOk P w K mg base (L2.CX P w) (2 * n) a fd ps (spF A K T n f) ∧ Binds K fd ps []
theorem fn_succ (raw : RawAll) (X : TextOk A l T K mg) {n f : Nat} {x qu : Str} (ih : AllAt A l T P w K mg base n)
    {st : Stmt} {a : Addr} {fd : FuncData} {N ps : List Str} {G : List (Str × D)} {F : Fn} (h3 : L2.Fun K x qu st a fd) (h4 : FnScope N ps (defScope st)) (h6 : T f = some F) (h7 : F.nn = N.length) (h8 : F.np = ps.length)
    (h9 : mB l G N F.body (defScope st) (defBody st) = true) (h10 : ∀ (i : Nat) y d, G[i]? = some (y, d) → ∃ v u, mg y = some u ∧ RelV v u ∧ ∀ hd io c H, Rep (A.wh hd) K io c H d v) : FnOk P w K mg base (L2.CX P w) (2 * (n + 1)) a fd ps (spF A K T (n + 1) f) := by
  refine h3.okX (k := 2 * n + 1) h4 (fun vs H Q E z => ?_) (fun cdv Ar outer s H vs Q E hr z => ?_)
  · obtain ⟨hd, B, b, io, m, ds, R, r, q⟩ := z
    rw [← r.length, ← h8]
    rcases q with q | q
    · unfold callN at q
      rw [h6] at q
      simp only at q
      split at q
      · assumption
      · exact q.elim
    · unfold keepN at q
      rw [h6] at q
      simp only at q
      split at q
      · assumption
      · exact q.elim
  · obtain ⟨hd, B, b, io, m, ds, R, r, q⟩ := z
    have fr : Fr A l G N T n (cxOf (L2.CX P w) P w K mg base N qu (defScope st) a cdv Ar outer s H E) := ⟨rfl, h4.nd, rfl, hr, X.bi, h10, ih.fn, X.cl, X.cls, X.bk, ih.mt⟩
    have fs : FS (A.wh hd) l G N T n (cxOf (L2.CX P w) P w K mg base N qu (defScope st) a cdv Ar outer s H E) (wE A E) := by
      refine ⟨fr.wh hd, raw, ?_, h4.kind, L2.passes_of rfl, fun _ => rfl, fun c a' e1 e2 => ?_, rfl, rfl, fun g hg => ?_⟩
      · refine (L2.takes_of (E := E) rfl rfl rfl rfl).imp fun cls d σ H' z => ?_
        obtain ⟨c, a', e1, rfl, rfl, z⟩ := z
        exact z a' e1
      · obtain ⟨bmB, B', newId, initId, g1, g2, g3, g4, g5⟩ := X.ex c a' e1 e2
        exact ⟨bmB, B', newId, initId, g1, g2, g3, L2.raises_own g4 g5⟩
      · obtain ⟨E, wf, wd, wy, w1, w2, w3, w4⟩ := X.wh g hg
        exact ⟨⟨E.root, E.exc, E.kit, E.val, E.noval⟩, wf, wd, wy, w1, w2, w3, w4 P w base⟩
    rcases q with q | q
    · have body := pss_ex (l := l) (G := G) (N := N) (T := T) (n := n) (B := bnds B b io) (b := io.length) F.body (A.wh hd) _ (wE A E) (defBody st) fs h9
      refine ⟨_, body, ?_⟩
      refine ⟨io, st0 F ds, m, R.enter, start_rel r h7, ?_⟩
      unfold callN at q
      rw [h6] at q
      simp only at q
      split at q
      · rw [← R.len] at q
        unfold sW
        cases e : exS (cC io.length T n) F.body (st0 F ds) m with
        | none => rw [e] at q; exact q.elim
        | some o =>
          obtain ⟨o, m1⟩ := o
          rw [e] at q
          cases o with
          | nx s' => exact fun io1 H1 σ' x1 R1 _ _ => q io H1 .non x1.cut (by have := R.leave x1 R1; rw [← R.len] at this; exact this) .non
          | rt d =>
            refine fun io1 H1 v x1 R1 r1 => ?_
            simp only at q
            cases hs : snap m1 io.length 8 d with
            | none => rw [hs] at q; exact q.elim
            | some d1 =>
              rw [hs] at q
              exact q io H1 v x1.cut (by have := R.leave x1 R1; rw [← R.len] at this; exact this) (snap_rep x1 R1 8 d d1 v hs r1)
          | ex c => exact fun io1 H1 σ' x1 R1 _ => q io H1 x1.cut (by have := R.leave x1 R1; rw [← R.len] at this; exact this)
      · exact q.elim
    · have body := pss_ex (l := l) (G := G) (N := N) (T := T) (n := n) (B := B) (b := b) F.body (A.wh hd) _ (wE A E) (defBody st) fs h9
      refine ⟨_, body, ?_⟩
      refine ⟨io, st0 F ds, m, R, start_rel r h7, ?_⟩
      unfold keepN at q
      rw [h6] at q
      simp only at q
      split at q
      · unfold sW
        cases e : exS (cC b T n) F.body (st0 F ds) m with
        | none => rw [e] at q; exact q.elim
        | some o =>
          obtain ⟨o, m1⟩ := o
          rw [e] at q
          cases o with
          | nx s' => exact fun io1 H1 σ' x1 R1 _ _ => q io1 H1 .non x1 R1 .non
          | rt d => exact fun io1 H1 v x1 R1 r1 => q io1 H1 v x1 R1 r1
          | ex c => exact fun io1 H1 σ' x1 R1 _ => q io1 H1 x1 R1
      · exact q.elim
theorem no_spF {A : Ad} {K : PySem.W.Frag} {T : Tb} {f : Nat} : ∀ vs H Q E, ¬ spF A K T 0 f vs H Q E := fun vs H Q E ⟨hd, B, b, io, m, ds, _, _, q⟩ => by
  rcases q with q | q <;> exact q.elim
theorem fn_all (raw : RawAll) (X : TextOk A l T K mg) : ∀ n : Nat, AllAt A l T P w K mg base n
  | 0 => by
    refine ⟨fun f x h => ?_, fun f x h => ?_⟩
    · obtain ⟨st, a, fd, N, ps, G, F, h1, h2, h3, h4, h5, _⟩ := (X.df f x h).ex
      exact ⟨a, h1, h2, h3.kp, fd, ps, ⟨fun vs H Q E z => absurd z (no_spF vs H Q E), fun A outer s H args us vs Q E _ _ _ _ z => absurd z (no_spF vs H Q E)⟩, h5⟩
    · obtain ⟨C, q, st, a, fd, N, ps, G, F, h1, h2, g1, g2, h3, h4, h5, _⟩ := (X.mt f x h).ex
      exact ⟨C, a, h1, h2, g1, g2, fd, ps, ⟨fun vs H Q E z => absurd z (no_spF vs H Q E), fun A outer s H args us vs Q E _ _ _ _ z => absurd z (no_spF vs H Q E)⟩, h5⟩
  | n + 1 => by
    refine ⟨fun f x h => ?_, fun f x h => ?_⟩
    · obtain ⟨st, a, fd, N, ps, G, F, h1, h2, h3, h4, h5, h6, h7, h8, h9, h10⟩ := (X.df f x h).ex
      exact ⟨a, h1, h2, h3.kp, fd, ps, fn_succ raw X (fn_all raw X n) h3 h4 h6 h7 h8 h9 h10, h5⟩
    · obtain ⟨C, q, st, a, fd, N, ps, G, F, h1, h2, g1, g2, h3, h4, h5, h6, h7, h8, h9, h10⟩ := (X.mt f x h).ex
      exact ⟨C, a, h1, h2, g1, g2, fd, ps, fn_succ raw X (fn_all raw X n) h3 h4 h6 h7 h8 h9 h10, h5⟩
end
end Bo

set_option Elab.async false
set_option linter.all false
set_option maxRecDepth 100000
/-! B19: from «the evaluator answers True» to the row. -/
namespace Bo
open PySem PySem.Spec PyProof.Rows
open L2 (V HO Hp Rd SqL SqT Vals upd VK XK RelV Room Sp FnOk Binds FnScope defScope defBody)
/-- what law(script) promises -/
def spL (K : PySem.W.Frag) : Sp := fun vs H Q _ => ∃ (a : Addr) (ns : List Int), vs = [.ref a] ∧ SqL K H a (ns.map V.int) ∧ ns.length ≤ 63 ∧ (∀ z, z ∈ ns → Builtin.Int.intBits z ≤ 1048576) ∧ ∀ H', Q (.bl true) H'
/-- the plain law -/
def LawP (T : Tb) (n f : Nat) : Prop := ∀ ns : List Int, ns.length ≤ 63 → (∀ z, z ∈ ns → Builtin.Int.intBits z ≤ 1048576) → ∃ m, callN T n f [.arg ns] [] = some (.ok (.bl true), m)
section
variable {A : Ad} {l : Lk} {T : Tb} {P : Program} {w : World} {K : PySem.W.Frag} {mg : Str → Option Value} {base : Heap} {n f : Nat}
theorem rel0 {H : Hp} (A : Ad) : Rel (A.wh []) K (fun _ => 0) 0 [] H [] :=
  { len := rfl
    nd := List.nodup_nil
    base := Nat.le_refl _
    hid := fun a h => by cases h
    bd := fun n h => absurd h (Nat.not_lt_zero _)
    ob := fun n a o h => by simp at h }
theorem spL_F (A : Ad) (law : LawP T n f) {vs : List V} {H : Hp} {Q : VK} {E : XK} (h : spL K vs H Q E) : spF A K T n f vs H Q E := by
  obtain ⟨a, ns, rfl, hS, hl, hb, q⟩ := h
  obtain ⟨m, e⟩ := law ns hl hb
  refine ⟨[], fun _ => 0, 0, [], [], [.arg ns], rel0 A, .cons (.arg ?_ (Nat.le_trans hl (by decide))) .nil, .inl ?_⟩
  · rcases hS with hS | ⟨o, its, k, h1, h2, h3, h4, h5, h6⟩
    · exact .inl ⟨⟨by simp, by simp⟩, hS⟩
    · exact .inr ⟨o, its, k, h1, h2, h3, h4, h5, h6⟩
  · rw [e]
    intro io' H' v x R r
    cases r
    exact q H'
theorem FnOk.mono {CX : L2.CXT} {a : Addr} {fd : FuncData} {ps : List Str} {sp sp' : Sp} (h : FnOk P w K mg base CX n a fd ps sp) (q : ∀ vs H Q E, sp' vs H Q E → sp vs H Q E) : FnOk P w K mg base CX n a fd ps sp' :=
  ⟨fun vs H Q E z => h.len vs H Q E (q _ _ _ _ z), fun A outer s H args us vs Q E h1 h2 h3 h4 z => h.run A outer s H args us vs Q E h1 h2 h3 h4 (q _ _ _ _ z)⟩
/-- a list of defs, all known -/
def AllD (A : Ad) (l : Lk) (T : Tb) (K : PySem.W.Frag) (mg : Str → Option Value) : List (Nat × Str) → Prop
  | [] => True
  | p :: r => DefOk A l T K mg p.1 p.2 ∧ AllD A l T K mg r
theorem allD_of {L : List (Nat × Str)} (h : AllD A l T K mg L) : ∀ f x, L.lookup f = some x → DefOk A l T K mg f x := by
  induction L with
  | nil => intro f x e; cases e
  | cons p r ih =>
    obtain ⟨k, y⟩ := p
    intro f x e
    rw [List.lookup_cons] at e
    split at e
    · rename_i hk
      cases e
      have : f = k := by simpa using hk
      subst this
      exact h.1
    · exact ih h.2 f x e
/-- a list of classes -/
def AllC (A : Ad) (mg : Str → Option Value) : List (Nat × Str) → Prop
  | [] => True
  | p :: r => (∃ a, A.ca p.1 = some a ∧ mg p.2 = some (.ref a)) ∧ AllC A mg r
theorem allC_of {L : List (Nat × Str)} (h : AllC A mg L) : ∀ f x, L.lookup f = some x → ∃ a, A.ca f = some a ∧ mg x = some (.ref a) := by
  induction L with
  | nil => intro f x e; cases e
  | cons p r ih =>
    obtain ⟨k, y⟩ := p
    intro f x e
    rw [List.lookup_cons] at e
    split at e
    · rename_i hk
      cases e
      have : f = k := by simpa using hk
      subst this
      exact h.1
    · exact ih h.2 f x e
/-- a list of numbers and names -/
def AllM (Pr : Nat → Str → Prop) : List (Nat × Str) → Prop
  | [] => True
  | p :: r => Pr p.1 p.2 ∧ AllM Pr r
theorem allM_of {Pr : Nat → Str → Prop} {L : List (Nat × Str)} (h : AllM Pr L) : ∀ f x, L.lookup f = some x → Pr f x := by
  induction L with
  | nil => intro f x e; cases e
  | cons p r ih =>
    obtain ⟨k, y⟩ := p
    intro f x e
    rw [List.lookup_cons] at e
    split at e
    · rename_i hk
      cases e
      have : f = k := by simpa using hk
      subst this
      exact h.1
    · exact ih h.2 f x e
theorem lookup_13 {c k : Nat} {a : Addr} {L : List (Nat × Addr)} (hc : c ≤ 12) (h : L.lookup c = some a) (hk : ∀ p, L[k]? = some p → p.1 = 13 := by intro p e; cases e; rfl) : (L.eraseIdx k).lookup c = some a := by
  induction L generalizing k with
  | nil => cases h
  | cons p r ih =>
    cases k with
    | zero =>
      have e := hk p rfl
      rw [List.lookup_cons] at h
      split at h
      · rename_i q
        have : c = p.1 := by simpa using q
        omega
      · exact h
    | succ k =>
      rw [List.eraseIdx_cons_succ, List.lookup_cons]
      rw [List.lookup_cons] at h
      split at h
      · exact h
      · exact ih h hk
/-- the books' class -/
theorem bkOk_of {C : Addr} (pg : PySem.W.plainGet K C Str.empty = true) (hd : PySem.W.hasDictIn K C = true) (po : PySem.W.plainOver K C = true) (sa : PySem.W.findIn K (.ref C) "__setattr__" = some (some (.builtin "object.__setattr__")))
    (n1 : PySem.W.findIn K (.ref C) ⟨#[104, 111, 119]⟩ = some none) (n2 : PySem.W.findIn K (.ref C) ⟨#[112, 97, 115, 116]⟩ = some none) (n3 : PySem.W.findIn K (.ref C) ⟨#[99, 97, 108, 108, 115]⟩ = some none)
    (sb : PySem.W.subIn K (.type "str") (.ref C) = some false) : BkOk K C :=
  ⟨⟨pg, hd, po, sa⟩, fun x hx => by
    have h : x = ⟨#[104, 111, 119]⟩ ∨ x = ⟨#[112, 97, 115, 116]⟩ ∨ x = ⟨#[99, 97, 108, 108, 115]⟩ := by
      unfold fldN at hx
      rcases List.mem_cons.mp hx with h | h
      · exact .inl h
      · rcases List.mem_cons.mp h with h | h
        · exact .inr (.inl h)
        · rcases List.mem_cons.mp h with h | h
          · exact .inr (.inr h)
          · cases h
    rcases h with rfl | rfl | rfl
    · exact n1
    · exact n2
    · exact n3, sb⟩
def kitB (K : PySem.W.Frag) (C : Addr) : Bool := tyNames.all fun T => decide (PySem.W.kitOne K (.type T) (.ref C) = some false)
theorem clsOk_of {C : Addr} (hA : A.ca 13 = some C) (BK : BkOk K C) (kb : kitB K C = true) (ks : PySem.W.kitOne K (.ref C) (.ref C) = some true)
    (ha : PySem.W.findIn K (.ref C) "__class__" = some (some (.builtin "object.__class__"))) (hn : PySem.W.specialIn K (.builtin "object.__class__") "__get__" = some (some (.builtin "getset_descriptor.__get__")))
    (htk : PySem.W.takesIn K (.builtin "object.__class__") = some true) (hm : PySem.W.mroIn K C (.type "object") = some true) : ClsOk A K := by
  refine ⟨fun a e T hT => ?_, fun a dx fs e H p hp => ?_⟩
  · rw [hA] at e
    cases e
    have q := List.all_eq_true.mp kb T hT
    rwa [decide_eq_true_eq] at q
  · rw [hA] at e
    cases e
    exact ⟨.base (.ins hp BK.cls ha hn htk hm), ks⟩
/-- what is asked of all entries of a list -/
def AllE {α : Type} (Pr : α → Prop) : List α → Prop
  | [] => True
  | p :: r => Pr p ∧ AllE Pr r
theorem allE_mem {α : Type} {Pr : α → Prop} : ∀ {L : List α}, AllE Pr L → ∀ x, x ∈ L → Pr x
  | [], _, x, h => by cases h
  | p :: r, q, x, h => by
    rcases List.mem_cons.mp h with z | z
    · rw [z]; exact q.1
    · exact allE_mem q.2 x z
/-- what is to be known of a class of errors -/
def ErrC (K : PySem.W.Frag) (a : Addr) : Prop := ∃ (bmB : List Value) (B newId initId : String), PySem.ExcBaseFacts B newId initId bmB ∧ PySem.W.excIn K a bmB newId = true ∧ PySem.W.keepIn K (.ref a) = true ∧ PySem.W.subIn K (.ref a) (.type "BaseException") = some true ∧ PySem.W.typeIn K (.ref a) = some (.type "type")
end
theorem law_end {l : PySem.W.OpenLaw} {q : Program} {loose : List Str} {XP : (Str → Option Value) → Heap → Prop} {YP : World → Heap → Prop} {d : DefRec} {K : Params → PySem.W.Frag} {n : Nat} (hn : l.most = some 63) (hdf : d.params.defaults = []) (hr : Room n callerA)
    (hY : ∀ (w : World) (h : Heap), YP w h → (K w.params).In h)
    (F : ∀ (w : World) (mg : Str → Option Value) (fa : Addr) (h : Heap), (K w.params).In h → h.Ns mainGlobals mg → mg d.name = some (.ref fa) →
      ∃ fd : FuncData, (∀ (s : Shared) (u : Value), BindsTo s fd ⟨[u], []⟩ [("_law_script", u)]) ∧ ∀ base : Heap, (K w.params).In base → base.Ns mainGlobals mg → FnOk l.prog w (K w.params) mg base (L2.CX l.prog w) n fa fd ["_law_script"] (spL (K w.params))) :
    PySem.W.WalkO q loose XP YP l.row.toRowW d [] (fun f vs => PySem.call f vs) :=
  L2.walk_ofB (n := 63) (k := n) (x := "_law_script") (CX := fun w => L2.CX l.prog w) (sp := fun w => spL (K w.params)) hn (by decide) hdf hr hY F (fun _ _ a ns hl hb _ hS => ⟨a, ns, rfl, hS, hl, hb, fun _ => rfl⟩)
    fun w H s e s' h => by
      obtain ⟨a, B, H', cls, d, _, _, _, _, _, _, _, z⟩ := h
      exact z
end Bo

set_option Elab.async false
set_option linter.all false
set_option maxRecDepth 100000
/-! Tb: the defs of all linked texts, printed by gen.py -/
namespace Bo
open PySem
abbrev f_is_whole : Nat := 0
abbrev f_items_in : Nat := 1
abbrev f_is_nesting : Nat := 2
abbrev f_good_bill : Nat := 3
abbrev f_is_bill : Nat := 4
abbrev f_need_bill : Nat := 5
abbrev f_groups_in : Nat := 6
abbrev f_groups_of : Nat := 7
abbrev f_groups : Nat := 8
abbrev f_lots_of : Nat := 9
abbrev f_spots : Nat := 10
abbrev f_is_spot : Nat := 11
abbrev f_need_spot : Nat := 12
abbrev f_amount_of : Nat := 13
abbrev f_amount : Nat := 14
abbrev f_ends_of : Nat := 15
abbrev f_ends : Nat := 16
abbrev f_l_cell_at : Nat := 17
abbrev f_l_mixed : Nat := 18
abbrev f_l_draw : Nat := 19
abbrev f_l_same_number : Nat := 20
abbrev f_l_some_group : Nat := 21
abbrev f_l_some_bill : Nat := 22
abbrev f_l_items : Nat := 23
abbrev f_l_lots : Nat := 24
abbrev f_law_k01 : Nat := 25
abbrev f_is_wish : Nat := 26
abbrev f_good_wishes : Nat := 27
abbrev f_are_wishes : Nat := 28
abbrev f_need_wishes : Nat := 29
abbrev f_bounds_of : Nat := 30
abbrev f_bounds : Nat := 31
abbrev f_all_bounds : Nat := 32
abbrev f_good_outline : Nat := 33
abbrev f_need_outline : Nat := 34
abbrev f_sum_at : Nat := 35
abbrev f_breaks_of : Nat := 36
abbrev f_keeps : Nat := 37
abbrev f_breaks : Nat := 38
abbrev f_l_pick : Nat := 39
abbrev f_l_same_truth : Nat := 40
abbrev f_l_rows : Nat := 41
abbrev f_l_outlines : Nat := 42
abbrev f_l_broken : Nat := 43
abbrev f_l_some_wishes : Nat := 44
abbrev f_law_k02 : Nat := 45
abbrev f_outlines : Nat := 46
abbrev f_kept : Nat := 47
abbrev f_first_of : Nat := 48
abbrev f_rounding : Nat := 49
abbrev f_how_many : Nat := 50
abbrev f_l_kept : Nat := 51
abbrev f_law_k03 : Nat := 52
abbrev f_parents : Nat := 53
abbrev f_parents_of : Nat := 54
abbrev f_pipes_of : Nat := 55
abbrev f_steps_from : Nat := 56
abbrev f_ways_from : Nat := 57
abbrev f_turned : Nat := 58
abbrev f_bad_pipe : Nat := 59
abbrev f_cut_of : Nat := 60
abbrev f_paper_of : Nat := 61
abbrev f_need_two : Nat := 62
abbrev f_paper : Nat := 63
abbrev f_are_spots : Nat := 64
abbrev f_is_paper : Nat := 65
abbrev f_l_which : Nat := 66
abbrev f_l_ask : Nat := 67
abbrev f_law_k04 : Nat := 68
abbrev f_l_right : Nat := 69
abbrev f_law_k05 : Nat := 70
abbrev f_broken_rows : Nat := 71
abbrev f_met : Nat := 72
abbrev f_bars : Nat := 73
abbrev f_l_ask_2 : Nat := 74
abbrev f_l_lots_of : Nat := 75
abbrev f_law_k06 : Nat := 76
abbrev f_free : Nat := 77
abbrev f_law_k07 : Nat := 78
abbrev f_off_by : Nat := 79
abbrev f_closest : Nat := 80
abbrev f_nearest : Nat := 81
abbrev f_law_k08 : Nat := 82
abbrev f__wall : Nat := 83
abbrev f_Books_init : Nat := 84
abbrev f_Books_call : Nat := 85
abbrev f_Books_at_spot : Nat := 86
abbrev f_Books_wish : Nat := 87
abbrev f_Books_drop : Nat := 88
abbrev f_Books_change : Nat := 89
abbrev f_Books_rounding : Nat := 90
abbrev f_Books_bill : Nat := 91
abbrev f_Books_wishes : Nat := 92
abbrev f_Books_back : Nat := 93
abbrev f_Books_twin : Nat := 94
abbrev f_Books_eq : Nat := 95
abbrev f_Books_len : Nat := 96
abbrev f_Books_str : Nat := 97
abbrev f_nest_words : Nat := 98
abbrev f_text_of : Nat := 99
abbrev f_bill_text : Nat := 100
abbrev f_wishes_of : Nat := 101
abbrev f_wishes_text : Nat := 102
abbrev f_number_in : Nat := 103
abbrev f_wish_in : Nat := 104
abbrev f_read_wishes : Nat := 105
abbrev f_l_ask_3 : Nat := 106
abbrev f_l_no_bills : Nat := 107
abbrev f_l_wishes_refused : Nat := 108
abbrev f_law_k09 : Nat := 109
abbrev f_group_at : Nat := 110
abbrev f_nesting_in : Nat := 111
abbrev f_read_bill : Nat := 112
abbrev f_l_ask_4 : Nat := 113
abbrev f_l_words : Nat := 114
abbrev f_l_bill_text : Nat := 115
abbrev f_l_wishes_text : Nat := 116
abbrev f_l_number : Nat := 117
abbrev f_l_tree : Nat := 118
abbrev f_l_parse : Nat := 119
abbrev f_law_k10 : Nat := 120
abbrev f_Books_drop_2 : Nat := 121
abbrev f_Books_change_2 : Nat := 122
abbrev f_Books_twin_2 : Nat := 123
abbrev f_l_call : Nat := 124
abbrev f_law_k11 : Nat := 125
abbrev f_Books_twin_3 : Nat := 126
abbrev f_l_call_2 : Nat := 127
abbrev f_l_look : Nat := 128
abbrev f_l_none_back : Nat := 129
abbrev f_law_k12 : Nat := 130
abbrev f_l_ask_5 : Nat := 131
abbrev f_law_k13 : Nat := 132
abbrev f_law_k14 : Nat := 133
abbrev f_Books_change_3 : Nat := 134
abbrev f_Books_back_2 : Nat := 135
abbrev f_law_k15 : Nat := 136
abbrev f_Books_back_3 : Nat := 137
abbrev f_Books_twin_4 : Nat := 138
abbrev f_l_lists : Nat := 139
abbrev f_law_k16 : Nat := 140
abbrev f_days : Nat := 141
abbrev f_are_days : Nat := 142
abbrev f_law_k17 : Nat := 143
abbrev f_l_due : Nat := 144
abbrev f_law_k18 : Nat := 145
abbrev f_need_ones : Nat := 146
abbrev f_with_amounts : Nat := 147
abbrev f_raised : Nat := 148
abbrev f_mirrored : Nat := 149
abbrev f_l_which_2 : Nat := 150
abbrev f_l_paper : Nat := 151
abbrev f_law_k19 : Nat := 152
abbrev f_renamed : Nat := 153
abbrev f_named : Nat := 154
abbrev f_l_order_of : Nat := 155
abbrev f_l_anew : Nat := 156
abbrev f_law_k20 : Nat := 157
abbrev f_l_choose : Nat := 158
abbrev f_law_k21 : Nat := 159
abbrev f_l_ask_6 : Nat := 160
abbrev f_law_k22 : Nat := 161
def s_is_whole : S :=
  (.seq (.ret (.and (.cons (.isi (.v 0) .int) (.cons (.not (.isi (.v 0) .bool)) (.cons (.chn .le .le (.v 1) (.v 0) (.v 2)) .nil))))) .nop)
def s_items_in : S :=
  (.seq (.ife (.call f_is_whole (.cons (.v 0) (.cons (.k (.int 0)) (.cons (.bin .sub (.gl 0 (.int 8)) (.k (.int 1))) .nil)))) (.seq (.ret (.lst (.cons (.v 0) .nil))) .nop) .nop) (.seq (.ife (.or (.cons (.not (.isi (.v 0) .tup)) (.cons (.cmp .eq (.v 0) (.tup .nil)) (.cons (.cmp .eq (.v 1) (.k (.int 0))) .nil)))) (.seq (.ret (.k .non)) .nop) .nop) (.seq (.asg 2 (.new .nil)) (.seq (.for (.v 3) (.ov (.v 0)) (.seq (.asg 4 (.call f_items_in (.cons (.v 3) (.cons (.bin .sub (.v 1) (.k (.int 1))) .nil)))) (.seq (.ife (.isk true (.v 4) .non) (.seq (.ret (.k .non)) .nop) .nop) (.seq (.ex (.ext (.v 2) (.v 4))) .nop)))) (.seq (.ret (.v 2)) .nop)))))
def s_is_nesting : S :=
  (.seq (.asg 2 (.ife (.isi (.v 1) .tup) (.call f_items_in (.cons (.v 1) (.cons (.gl 0 (.int 4)) .nil))) (.k .non))) (.seq (.ret (.and (.cons (.isk false (.v 2) .non) (.cons (.cmp .eq (.bi .srt (.cons (.v 2) .nil)) (.lsr false (.cons (.v 0) .nil))) .nil)))) .nop))
def s_good_bill : S :=
  (.seq (.ife (.or (.cons (.not (.isi (.v 0) .tup)) (.cons (.cmp .ne (.bi .len (.cons (.v 0) .nil)) (.k (.int 3))) (.cons (.not (.call f_is_whole (.cons (.ix (.v 0) (.k (.int 0))) (.cons (.k (.int 2)) (.cons (.gl 0 (.int 24)) .nil))))) .nil)))) (.seq (.ret (.k (.bl false))) .nop) .nop) (.seq (.ife (.or (.cons (.not (.isi (.ix (.v 0) (.k (.int 1))) .tup)) (.cons (.not (.chn .le .le (.k (.int 1)) (.bi .len (.cons (.ix (.v 0) (.k (.int 1))) .nil)) (.gl 1 (.int 8)))) .nil))) (.seq (.ret (.k (.bl false))) .nop) .nop) (.seq (.ife (.not (.bi .all (.cons (.lc false [1] (.call f_is_whole (.cons (.v 1) (.cons (.k (.int 0)) (.cons (.gl 2 (.int 999)) .nil)))) (.v 1) (.ov (.ix (.v 0) (.k (.int 1)))) .nil) .nil))) (.seq (.ret (.k (.bl false))) .nop) .nop) (.seq (.ife (.or (.cons (.not (.isi (.ix (.v 0) (.k (.int 2))) .tup)) (.cons (.not (.chn .le .le (.k (.int 1)) (.bi .len (.cons (.ix (.v 0) (.k (.int 2))) .nil)) (.gl 3 (.int 3)))) .nil))) (.seq (.ret (.k (.bl false))) .nop) .nop) (.seq (.ret (.bi .all (.cons (.lc false [1] (.call f_is_nesting (.cons (.bi .len (.cons (.ix (.v 0) (.k (.int 1))) .nil)) (.cons (.v 1) .nil))) (.v 1) (.ov (.ix (.v 0) (.k (.int 2)))) .nil) .nil))) .nop)))))
def s_is_bill : S :=
  (.seq (.ret (.call f_good_bill (.cons (.v 0) .nil))) .nop)
def s_need_bill : S :=
  (.seq (.ife (.not (.call f_good_bill (.cons (.v 0) .nil))) (.seq (.rse 1 ⟨#[110, 111, 32, 98, 105, 108, 108]⟩) .nop) .nop) .nop)
def s_groups_in : S :=
  (.seq (.asg 1 (.new (.cons (.v 0) .nil))) (.seq (.for (.v 2) (.ov (.v 0)) (.seq (.ife (.isi (.v 2) .tup) (.seq (.ex (.ext (.v 1) (.call f_groups_in (.cons (.v 2) .nil)))) .nop) .nop) .nop)) (.seq (.ret (.v 1)) .nop)))
def s_groups_of : S :=
  (.seq (.ret (.lc false [2] (.bi .tup (.cons (.bi .srt (.cons (.call f_items_in (.cons (.v 2) (.cons (.gl 0 (.int 4)) .nil))) .nil)) .nil)) (.v 2) (.ov (.call f_groups_in (.cons (.ix (.ix (.v 0) (.k (.int 2))) (.v 1)) .nil))) .nil)) .nop)
def s_groups : S :=
  (.seq (.ex (.call f_need_bill (.cons (.v 0) .nil))) (.seq (.ife (.not (.call f_is_whole (.cons (.v 1) (.cons (.k (.int 0)) (.cons (.bin .sub (.bi .len (.cons (.ix (.v 0) (.k (.int 2))) .nil)) (.k (.int 1))) .nil))))) (.seq (.rse 2 ⟨#[110, 111, 32, 110, 101, 115, 116, 105, 110, 103, 32, 111, 102, 32, 105, 116]⟩) .nop) .nop) (.seq (.ret (.call f_groups_of (.cons (.v 0) (.cons (.v 1) .nil)))) .nop)))
def s_lots_of : S :=
  (.seq (.asg 1 .dnew) (.seq (.for (.v 2) (.rng (.cons (.bi .len (.cons (.ix (.v 0) (.k (.int 2))) .nil)) .nil)) (.seq (.for (.t (.cons (.v 3) (.cons (.v 4) .nil))) (.enm (.call f_groups_of (.cons (.v 0) (.cons (.v 2) .nil)))) (.seq (.seti (.v 1) (.tup (.cons (.k (.str ⟨#[103, 114, 111, 117, 112]⟩)) (.cons (.v 2) (.cons (.v 3) .nil)))) (.v 4)) .nop)) .nop)) (.seq (.for (.v 5) (.rng (.cons (.bi .len (.cons (.ix (.v 0) (.k (.int 1))) .nil)) .nil)) (.seq (.seti (.v 1) (.tup (.cons (.k (.str ⟨#[105, 116, 101, 109]⟩)) (.cons (.v 5) .nil))) (.tup (.cons (.v 5) .nil))) .nop)) (.seq (.ret (.v 1)) .nop))))
def s_spots : S :=
  (.seq (.ex (.call f_need_bill (.cons (.v 0) .nil))) (.seq (.ret (.lsq false (.call f_lots_of (.cons (.v 0) .nil)))) .nop))
def s_is_spot : S :=
  (.seq (.ife (.or (.cons (.not (.isi (.v 1) .tup)) (.cons (.not (.chn .le .le (.k (.int 2)) (.bi .len (.cons (.v 1) .nil)) (.k (.int 3)))) (.cons (.not (.isi (.ix (.v 1) (.k (.int 0))) .str)) .nil)))) (.seq (.ret (.k (.bl false))) .nop) .nop) (.seq (.ife (.not (.bi .all (.cons (.lc false [2] (.call f_is_whole (.cons (.v 2) (.cons (.k (.int 0)) (.cons (.k (.int 99)) .nil)))) (.v 2) (.ov (.sl (.v 1) (.cons (.k (.int 1)) .nil) .nil)) .nil) .nil))) (.seq (.ret (.k (.bl false))) .nop) .nop) (.seq (.ret (.cmp .isin (.v 1) (.call f_lots_of (.cons (.v 0) .nil)))) .nop)))
def s_need_spot : S :=
  (.seq (.ife (.not (.call f_is_spot (.cons (.v 0) (.cons (.v 1) .nil)))) (.seq (.rse 3 ⟨#[110, 111, 32, 115, 112, 111, 116, 32, 111, 102, 32, 105, 116]⟩) .nop) .nop) .nop)
def s_amount_of : S :=
  (.seq (.ret (.bi .sum (.cons (.lc false [2] (.ix (.ix (.v 0) (.k (.int 1))) (.v 2)) (.v 2) (.ov (.v 1)) .nil) .nil))) .nop)
def s_amount : S :=
  (.seq (.ex (.call f_need_bill (.cons (.v 0) .nil))) (.seq (.ex (.call f_need_spot (.cons (.v 0) (.cons (.v 1) .nil)))) (.seq (.ret (.call f_amount_of (.cons (.v 0) (.cons (.ix (.call f_lots_of (.cons (.v 0) .nil)) (.v 1)) .nil)))) .nop)))
def s_ends_of : S :=
  (.seq (.asg 2 (.call f_amount_of (.cons (.v 0) (.cons (.v 1) .nil)))) (.seq (.ret (.tup (.cons (.bin .fdiv (.v 2) (.ix (.v 0) (.k (.int 0)))) (.cons (.bin .fdiv (.bin .sub (.bin .add (.v 2) (.ix (.v 0) (.k (.int 0)))) (.k (.int 1))) (.ix (.v 0) (.k (.int 0)))) .nil)))) .nop))
def s_ends : S :=
  (.seq (.ex (.call f_need_bill (.cons (.v 0) .nil))) (.seq (.ex (.call f_need_spot (.cons (.v 0) (.cons (.v 1) .nil)))) (.seq (.ret (.call f_ends_of (.cons (.v 0) (.cons (.ix (.call f_lots_of (.cons (.v 0) .nil)) (.v 1)) .nil)))) .nop)))
def s_l_cell_at : S :=
  (.seq (.ife (.cmp .lt (.v 1) (.bi .len (.cons (.v 0) .nil))) (.seq (.ret (.ix (.v 0) (.v 1))) .nop) .nop) (.seq (.ife (.cmp .eq (.v 0) (.lst .nil)) (.seq (.ret (.k (.int 0))) .nop) .nop) (.seq (.asg 2 (.ix (.v 0) (.bin .mod (.v 1) (.bi .len (.cons (.v 0) .nil))))) (.seq (.for (.v 3) (.rng (.cons (.bi .min2 (.cons (.bin .fdiv (.v 1) (.bi .len (.cons (.v 0) .nil))) (.cons (.k (.int 60)) .nil))) .nil)) (.seq (.asg 2 (.bin .fdiv (.v 2) (.k (.int 1000003)))) .nop)) (.seq (.ret (.bin .add (.bin .add (.bin .mul (.ix (.v 0) (.bin .mod (.v 1) (.bi .len (.cons (.v 0) .nil)))) (.k (.int 31))) (.v 1)) (.bin .mul (.v 2) (.k (.int 101))))) .nop)))))
def s_l_mixed : S :=
  (.seq (.asg 3 (.bin .mod (.bin .add (.bin .add (.bin .mul (.call f_l_cell_at (.cons (.v 0) (.cons (.v 1) .nil))) (.k (.int 1103515245))) (.bin .mul (.k (.int 7919)) (.v 1))) (.k (.int 12345))) (.k (.int 2147483647)))) (.seq (.ret (.bin .mod (.bin .mod (.bin .mod (.bin .pow (.v 3) (.k (.int 5))) (.k (.int 2147483647))) (.k (.int 999983))) (.v 2))) .nop))
def s_l_draw : S :=
  (.seq (.ex (.app (.v 1) (.k (.int 0)))) (.seq (.ret (.call f_l_mixed (.cons (.v 0) (.cons (.bi .len (.cons (.v 1) .nil)) (.cons (.v 2) .nil))))) .nop))
def s_l_same_number : S :=
  (.seq (.ret (.and (.cons (.isi (.v 0) .int) (.cons (.not (.isi (.v 0) .bool)) (.cons (.cmp .eq (.v 0) (.v 1)) .nil))))) .nop)
def s_l_some_group : S :=
  (.seq (.ife (.or (.cons (.cmp .eq (.v 3) (.k (.int 1))) (.cons (.cmp .lt (.bi .len (.cons (.v 2) .nil)) (.k (.int 2))) .nil))) (.seq (.ret (.bi .tup (.cons (.v 2) .nil))) .nop) .nop) (.seq (.asg 4 (.lc true [8] (.new .nil) (.v 8) (.rng (.cons (.bin .add (.k (.int 1)) (.call f_l_draw (.cons (.v 0) (.cons (.v 1) (.cons (.k (.int 3)) .nil))))) .nil)) .nil)) (.seq (.for (.v 5) (.ov (.v 2)) (.seq (.ex (.app (.ix (.v 4) (.call f_l_draw (.cons (.v 0) (.cons (.v 1) (.cons (.bi .len (.cons (.v 4) .nil)) .nil))))) (.v 5))) .nop)) (.seq (.asg 6 (.new .nil)) (.seq (.for (.v 7) (.ov (.v 4)) (.seq (.ife (.and (.cons (.cmp .ne (.v 7) (.lst .nil)) (.cons (.or (.cons (.cmp .eq (.bi .len (.cons (.v 7) .nil)) (.bi .len (.cons (.v 2) .nil))) (.cons (.cmp .eq (.call f_l_draw (.cons (.v 0) (.cons (.v 1) (.cons (.k (.int 3)) .nil)))) (.k (.int 0))) .nil))) .nil))) (.seq (.ex (.ext (.v 6) (.v 7))) .nop) (.seq (.ife (.cmp .ne (.v 7) (.lst .nil)) (.seq (.ex (.app (.v 6) (.call f_l_some_group (.cons (.v 0) (.cons (.v 1) (.cons (.v 7) (.cons (.bin .sub (.v 3) (.k (.int 1))) .nil))))))) .nop) .nop) .nop)) .nop)) (.seq (.ret (.bi .tup (.cons (.v 6) .nil))) .nop))))))
def s_l_some_bill : S :=
  (.seq (.par2 4 5 (.bin .add (.k (.int 1)) (.call f_l_draw (.cons (.v 0) (.cons (.v 1) (.cons (.v 3) .nil))))) (.bin .add (.k (.int 2)) (.call f_l_draw (.cons (.v 0) (.cons (.v 1) (.cons (.k (.int 9)) .nil)))))) (.seq (.asg 6 (.bi .tup (.cons (.lc false [11] (.call f_l_draw (.cons (.v 0) (.cons (.v 1) (.cons (.bin .mul (.k (.int 4)) (.v 5)) .nil)))) (.v 11) (.rng (.cons (.v 4) .nil)) .nil) .nil))) (.seq (.asg 7 (.new .nil)) (.seq (.for (.v 8) (.rng (.cons (.v 2) .nil)) (.seq (.par2 9 10 (.lsr true (.cons (.v 4) .nil)) (.new .nil)) (.seq (.whl 1000 (.cmp .ne (.v 9) (.lst .nil)) (.seq (.ex (.app (.v 10) (.pop1 (.v 9) (.call f_l_draw (.cons (.v 0) (.cons (.v 1) (.cons (.bi .len (.cons (.v 9) .nil)) .nil))))))) .nop)) (.seq (.ex (.app (.v 7) (.call f_l_some_group (.cons (.v 0) (.cons (.v 1) (.cons (.v 10) (.cons (.bin .add (.k (.int 1)) (.call f_l_draw (.cons (.v 0) (.cons (.v 1) (.cons (.k (.int 4)) .nil))))) .nil))))))) .nop)))) (.seq (.ret (.tup (.cons (.v 5) (.cons (.v 6) (.cons (.bi .tup (.cons (.v 7) .nil)) .nil))))) .nop)))))
def s_l_items : S :=
  (.seq (.ife (.not (.isi (.v 0) .tup)) (.seq (.ret (.lst (.cons (.v 0) .nil))) .nop) .nop) (.seq (.asg 1 (.new .nil)) (.seq (.for (.v 2) (.ov (.v 0)) (.seq (.ex (.ext (.v 1) (.call f_l_items (.cons (.v 2) .nil)))) .nop)) (.seq (.ret (.v 1)) .nop))))
def s_l_lots : S :=
  (.seq (.asg 1 (.new .nil)) (.seq (.for (.t (.cons (.v 2) (.cons (.v 3) .nil))) (.enm (.ix (.v 0) (.k (.int 2)))) (.seq (.par2 4 5 (.new (.cons (.v 3) .nil)) (.k (.int 0))) (.seq (.whl 1000 (.cmp .ne (.v 4) (.lst .nil)) (.seq (.asg 6 (.pop1 (.v 4) (.k (.int 0)))) (.seq (.ex (.app (.v 1) (.tup (.cons (.tup (.cons (.k (.str ⟨#[103, 114, 111, 117, 112]⟩)) (.cons (.v 2) (.cons (.v 5) .nil)))) (.cons (.bi .srt (.cons (.call f_l_items (.cons (.v 6) .nil)) .nil)) .nil))))) (.seq (.par2 5 4 (.bin .add (.v 5) (.k (.int 1))) (.cat (.lc false [8] (.v 8) (.v 8) (.ov (.v 6)) (.cons (.isi (.v 8) .tup) .nil)) (.v 4))) .nop)))) .nop))) (.seq (.ret (.bin .add (.v 1) (.lc false [7] (.tup (.cons (.tup (.cons (.k (.str ⟨#[105, 116, 101, 109]⟩)) (.cons (.v 7) .nil))) (.cons (.lst (.cons (.v 7) .nil)) .nil))) (.v 7) (.rng (.cons (.bi .len (.cons (.ix (.v 0) (.k (.int 1))) .nil)) .nil)) .nil))) .nop)))
def s_law_k01 : S :=
  (.seq (.asg 1 (.new .nil)) (.seq (.asg 2 (.call f_l_some_bill (.cons (.v 0) (.cons (.v 1) (.cons (.bin .add (.k (.int 1)) (.call f_l_draw (.cons (.v 0) (.cons (.v 1) (.cons (.k (.int 3)) .nil))))) (.cons (.k (.int 8)) .nil)))))) (.seq (.asg 3 (.call f_l_lots (.cons (.v 2) .nil))) (.seq (.ife (.or (.cons (.isk false (.call f_is_bill (.cons (.v 2) .nil)) (.bl true)) (.cons (.cmp .ne (.call f_spots (.cons (.v 2) .nil)) (.bi .srt (.cons (.lc false [5, 6] (.v 5) (.t (.cons (.v 5) (.cons (.v 6) .nil))) (.ov (.v 3)) .nil) .nil))) .nil))) (.seq (.ret (.k (.bl false))) .nop) .nop) (.seq (.for (.v 4) (.rng (.cons (.bi .len (.cons (.ix (.v 2) (.k (.int 2))) .nil)) .nil)) (.seq (.ife (.cmp .ne (.call f_groups (.cons (.v 2) (.cons (.v 4) .nil))) (.lc false [5, 6] (.bi .tup (.cons (.v 6) .nil)) (.t (.cons (.v 5) (.cons (.v 6) .nil))) (.ov (.v 3)) (.cons (.cmp .eq (.sl (.v 5) .nil (.cons (.k (.int 2)) .nil)) (.tup (.cons (.k (.str ⟨#[103, 114, 111, 117, 112]⟩)) (.cons (.v 4) .nil)))) .nil))) (.seq (.ret (.k (.bl false))) .nop) .nop) .nop)) (.seq (.for (.t (.cons (.v 5) (.cons (.v 6) .nil))) (.ov (.v 3)) (.seq (.asg 7 (.bi .sum (.cons (.lc false [10] (.ix (.ix (.v 2) (.k (.int 1))) (.v 10)) (.v 10) (.ov (.v 6)) .nil) .nil))) (.seq (.ife (.not (.call f_l_same_number (.cons (.call f_amount (.cons (.v 2) (.cons (.v 5) .nil))) (.cons (.v 7) .nil)))) (.seq (.ret (.k (.bl false))) .nop) .nop) (.seq (.asgp (.t (.cons (.v 8) (.cons (.v 9) .nil))) (.call f_ends (.cons (.v 2) (.cons (.v 5) .nil)))) (.seq (.ife (.or (.cons (.not (.chn .le .le (.bin .mul (.v 8) (.ix (.v 2) (.k (.int 0)))) (.v 7) (.bin .mul (.v 9) (.ix (.v 2) (.k (.int 0)))))) (.cons (.cmp .ne (.bin .sub (.v 9) (.v 8)) (.bi .int (.cons (.cmp .gt (.bin .sub (.v 7) (.bin .mul (.bin .fdiv (.v 7) (.ix (.v 2) (.k (.int 0)))) (.ix (.v 2) (.k (.int 0))))) (.k (.int 0))) .nil))) .nil))) (.seq (.ret (.k (.bl false))) .nop) .nop) .nop))))) (.seq (.ret (.k (.bl true))) .nop)))))))
def s_is_wish : S :=
  (.seq (.ife (.or (.cons (.not (.isi (.v 1) .tup)) (.cons (.cmp .ne (.bi .len (.cons (.v 1) .nil)) (.k (.int 2))) (.cons (.not (.isi (.ix (.v 1) (.k (.int 1))) .str)) .nil)))) (.seq (.ret (.k (.bl false))) .nop) .nop) (.seq (.ret (.and (.cons (.cmp .isin (.ix (.v 1) (.k (.int 1))) (.gl 0 (.ktp [(.str ⟨#[117, 112]⟩), (.str ⟨#[100, 111, 119, 110]⟩)]))) (.cons (.call f_is_spot (.cons (.v 0) (.cons (.ix (.v 1) (.k (.int 0))) .nil))) .nil)))) .nop))
def s_good_wishes : S :=
  (.seq (.ife (.or (.cons (.not (.isi (.v 1) .tup)) (.cons (.cmp .gt (.bi .len (.cons (.v 1) .nil)) (.gl 0 (.int 8))) (.cons (.not (.bi .all (.cons (.lc false [2] (.call f_is_wish (.cons (.v 0) (.cons (.v 2) .nil))) (.v 2) (.ov (.v 1)) .nil) .nil))) .nil)))) (.seq (.ret (.k (.bl false))) .nop) .nop) (.seq (.ret (.bi .all (.cons (.lc false [2, 3] (.cmp .lt (.v 2) (.v 3)) (.t (.cons (.v 2) (.cons (.v 3) .nil))) (.zip (.v 1) (.sl (.v 1) (.cons (.k (.int 1)) .nil) .nil)) .nil) .nil))) .nop))
def s_are_wishes : S :=
  (.seq (.ex (.call f_need_bill (.cons (.v 0) .nil))) (.seq (.ret (.call f_good_wishes (.cons (.v 0) (.cons (.v 1) .nil)))) .nop))
def s_need_wishes : S :=
  (.seq (.ex (.call f_need_bill (.cons (.v 0) .nil))) (.seq (.ife (.not (.call f_good_wishes (.cons (.v 0) (.cons (.v 1) .nil)))) (.seq (.rse 4 ⟨#[110, 111, 32, 119, 105, 115, 104, 101, 115]⟩) .nop) .nop) .nop))
def s_bounds_of : S :=
  (.seq (.asgp (.t (.cons (.v 4) (.cons (.v 5) .nil))) (.call f_ends_of (.cons (.v 0) (.cons (.v 3) .nil)))) (.seq (.asg 6 (.ife (.cmp .isin (.tup (.cons (.v 2) (.cons (.k (.str ⟨#[117, 112]⟩)) .nil))) (.v 1)) (.v 5) (.v 4))) (.seq (.ret (.tup (.cons (.v 6) (.cons (.ife (.cmp .isin (.tup (.cons (.v 2) (.cons (.k (.str ⟨#[100, 111, 119, 110]⟩)) .nil))) (.v 1)) (.v 4) (.v 5)) .nil)))) .nop)))
def s_bounds : S :=
  (.seq (.ex (.call f_need_wishes (.cons (.v 0) (.cons (.v 1) .nil)))) (.seq (.ex (.call f_need_spot (.cons (.v 0) (.cons (.v 2) .nil)))) (.seq (.ret (.call f_bounds_of (.cons (.v 0) (.cons (.v 1) (.cons (.v 2) (.cons (.ix (.call f_lots_of (.cons (.v 0) .nil)) (.v 2)) .nil)))))) .nop)))
def s_all_bounds : S :=
  (.seq (.asg 2 (.call f_lots_of (.cons (.v 0) .nil))) (.seq (.ret (.lc false [3] (.bin .add (.tup (.cons (.v 3) (.cons (.ix (.v 2) (.v 3)) .nil))) (.call f_bounds_of (.cons (.v 0) (.cons (.v 1) (.cons (.v 3) (.cons (.ix (.v 2) (.v 3)) .nil)))))) (.v 3) (.ov (.v 2)) .nil)) .nop))
def s_good_outline : S :=
  (.seq (.ife (.or (.cons (.not (.isi (.v 1) .tup)) (.cons (.cmp .ne (.bi .len (.cons (.v 1) .nil)) (.bi .len (.cons (.ix (.v 0) (.k (.int 1))) .nil))) .nil))) (.seq (.ret (.k (.bl false))) .nop) .nop) (.seq (.ret (.bi .all (.cons (.lc false [2, 3] (.and (.cons (.call f_is_whole (.cons (.v 3) (.cons (.k (.int 0)) (.cons (.k (.int 999)) .nil)))) (.cons (.cmp .isin (.v 3) (.call f_ends_of (.cons (.v 0) (.cons (.tup (.cons (.v 2) .nil)) .nil)))) .nil))) (.t (.cons (.v 2) (.cons (.v 3) .nil))) (.enm (.v 1)) .nil) .nil))) .nop))
def s_need_outline : S :=
  (.seq (.ife (.not (.call f_good_outline (.cons (.v 0) (.cons (.v 1) .nil)))) (.seq (.rse 5 ⟨#[110, 111, 32, 111, 117, 116, 108, 105, 110, 101]⟩) .nop) .nop) .nop)
def s_sum_at : S :=
  (.seq (.ret (.bi .sum (.cons (.lc false [2] (.ix (.v 0) (.v 2)) (.v 2) (.ov (.v 1)) .nil) .nil))) .nop)
def s_breaks_of : S :=
  (.seq (.ret (.lc false [2, 3, 4, 5] (.v 2) (.t (.cons (.v 2) (.cons (.v 3) (.cons (.v 4) (.cons (.v 5) .nil))))) (.ov (.v 0)) (.cons (.not (.chn .le .le (.v 4) (.call f_sum_at (.cons (.v 1) (.cons (.v 3) .nil))) (.v 5))) .nil))) .nop)
def s_keeps : S :=
  (.seq (.ex (.call f_need_wishes (.cons (.v 0) (.cons (.v 1) .nil)))) (.seq (.ex (.call f_need_outline (.cons (.v 0) (.cons (.v 2) .nil)))) (.seq (.ret (.cmp .eq (.call f_breaks_of (.cons (.call f_all_bounds (.cons (.v 0) (.cons (.v 1) .nil))) (.cons (.v 2) .nil))) (.lst .nil))) .nop)))
def s_breaks : S :=
  (.seq (.ex (.call f_need_wishes (.cons (.v 0) (.cons (.v 1) .nil)))) (.seq (.ex (.call f_need_outline (.cons (.v 0) (.cons (.v 2) .nil)))) (.seq (.ret (.call f_breaks_of (.cons (.call f_all_bounds (.cons (.v 0) (.cons (.v 1) .nil))) (.cons (.v 2) .nil)))) .nop)))
def s_l_pick : S :=
  (.seq (.ret (.ix (.v 2) (.call f_l_draw (.cons (.v 0) (.cons (.v 1) (.cons (.bi .len (.cons (.v 2) .nil)) .nil)))))) .nop)
def s_l_same_truth : S :=
  (.seq (.ret (.and (.cons (.isi (.v 0) .bool) (.cons (.cmp .eq (.v 0) (.v 1)) .nil)))) .nop)
def s_l_rows : S :=
  (.seq (.asg 2 (.new .nil)) (.seq (.for (.t (.cons (.v 3) (.cons (.v 4) .nil))) (.ov (.call f_l_lots (.cons (.v 0) .nil))) (.seq (.asg 5 (.bi .sum (.cons (.lc false [8] (.ix (.ix (.v 0) (.k (.int 1))) (.v 8)) (.v 8) (.ov (.v 4)) .nil) .nil))) (.seq (.par2 6 7 (.bin .fdiv (.v 5) (.ix (.v 0) (.k (.int 0)))) (.bin .sub (.k (.int 0)) (.bin .fdiv (.bin .sub (.k (.int 0)) (.v 5)) (.ix (.v 0) (.k (.int 0)))))) (.seq (.ex (.app (.v 2) (.tup (.cons (.v 3) (.cons (.v 4) (.cons (.ife (.cmp .isin (.tup (.cons (.v 3) (.cons (.k (.str ⟨#[117, 112]⟩)) .nil))) (.v 1)) (.v 7) (.v 6)) (.cons (.ife (.cmp .isin (.tup (.cons (.v 3) (.cons (.k (.str ⟨#[100, 111, 119, 110]⟩)) .nil))) (.v 1)) (.v 6) (.v 7)) .nil))))))) .nop)))) (.seq (.ret (.v 2)) .nop)))
def s_l_outlines : S :=
  (.seq (.asg 1 (.lst (.cons (.tup .nil) .nil))) (.seq (.for (.v 2) (.ov (.ix (.v 0) (.k (.int 1)))) (.seq (.par2 3 4 (.bin .fdiv (.v 2) (.ix (.v 0) (.k (.int 0)))) (.new .nil)) (.seq (.for (.v 5) (.ov (.v 1)) (.seq (.ex (.app (.v 4) (.bin .add (.v 5) (.tup (.cons (.v 3) .nil))))) (.seq (.ife (.cmp .gt (.v 2) (.bin .mul (.v 3) (.ix (.v 0) (.k (.int 0))))) (.seq (.ex (.app (.v 4) (.bin .add (.v 5) (.tup (.cons (.bin .add (.v 3) (.k (.int 1))) .nil))))) .nop) .nop) .nop))) (.seq (.asg 1 (.v 4)) .nop)))) (.seq (.ret (.v 1)) .nop)))
def s_l_broken : S :=
  (.seq (.asg 2 (.new .nil)) (.seq (.for (.t (.cons (.v 3) (.cons (.v 4) (.cons (.v 5) (.cons (.v 6) .nil))))) (.ov (.v 0)) (.seq (.ife (.not (.chn .le .le (.v 5) (.bi .sum (.cons (.lc false [7] (.ix (.v 1) (.v 7)) (.v 7) (.ov (.v 4)) .nil) .nil)) (.v 6))) (.seq (.ex (.app (.v 2) (.v 3))) .nop) .nop) .nop)) (.seq (.ret (.v 2)) .nop)))
def s_l_some_wishes : S :=
  (.seq (.asg 4 (.lc false [7, 8] (.v 7) (.t (.cons (.v 7) (.cons (.v 8) .nil))) (.ov (.call f_l_lots (.cons (.v 2) .nil))) .nil)) (.seq (.asg 5 (.new .nil)) (.seq (.for (.v 6) (.rng (.cons (.call f_l_draw (.cons (.v 0) (.cons (.v 1) (.cons (.bin .add (.v 3) (.k (.int 1))) .nil)))) .nil)) (.seq (.ex (.app (.v 5) (.tup (.cons (.call f_l_pick (.cons (.v 0) (.cons (.v 1) (.cons (.v 4) .nil)))) (.cons (.call f_l_pick (.cons (.v 0) (.cons (.v 1) (.cons (.lst (.cons (.k (.str ⟨#[117, 112]⟩)) (.cons (.k (.str ⟨#[100, 111, 119, 110]⟩)) .nil))) .nil)))) .nil))))) .nop)) (.seq (.ret (.bi .tup (.cons (.sst (.v 5)) .nil))) .nop))))
def s_law_k02 : S :=
  (.seq (.asg 1 (.new .nil)) (.seq (.asg 2 (.call f_l_some_bill (.cons (.v 0) (.cons (.v 1) (.cons (.bin .add (.k (.int 1)) (.call f_l_draw (.cons (.v 0) (.cons (.v 1) (.cons (.k (.int 3)) .nil))))) (.cons (.k (.int 7)) .nil)))))) (.seq (.asg 3 (.call f_l_some_wishes (.cons (.v 0) (.cons (.v 1) (.cons (.v 2) (.cons (.k (.int 6)) .nil)))))) (.seq (.asg 4 (.call f_l_rows (.cons (.v 2) (.cons (.v 3) .nil)))) (.seq (.ife (.isk false (.call f_are_wishes (.cons (.v 2) (.cons (.v 3) .nil))) (.bl true)) (.seq (.ret (.k (.bl false))) .nop) .nop) (.seq (.for (.t (.cons (.v 5) (.cons (.v 6) (.cons (.v 7) (.cons (.v 8) .nil))))) (.ov (.v 4)) (.seq (.ife (.cmp .ne (.call f_bounds (.cons (.v 2) (.cons (.v 3) (.cons (.v 5) .nil)))) (.tup (.cons (.v 7) (.cons (.v 8) .nil)))) (.seq (.ret (.k (.bl false))) .nop) .nop) .nop)) (.seq (.asg 9 (.call f_l_outlines (.cons (.v 2) .nil))) (.seq (.for (.v 10) (.rng (.cons (.k (.int 6)) .nil)) (.seq (.asg 11 (.call f_l_pick (.cons (.v 0) (.cons (.v 1) (.cons (.v 9) .nil))))) (.seq (.asg 12 (.bi .srt (.cons (.call f_l_broken (.cons (.v 4) (.cons (.v 11) .nil))) .nil))) (.seq (.ife (.or (.cons (.cmp .ne (.call f_breaks (.cons (.v 2) (.cons (.v 3) (.cons (.v 11) .nil)))) (.v 12)) (.cons (.not (.call f_l_same_truth (.cons (.call f_keeps (.cons (.v 2) (.cons (.v 3) (.cons (.v 11) .nil)))) (.cons (.cmp .eq (.v 12) (.lst .nil)) .nil)))) .nil))) (.seq (.ret (.k (.bl false))) .nop) .nop) .nop)))) (.seq (.ret (.k (.bl true))) .nop)))))))))
def s_outlines : S :=
  (.seq (.asg 1 (.lst (.cons (.tup .nil) .nil))) (.seq (.for (.v 2) (.rng (.cons (.bi .len (.cons (.ix (.v 0) (.k (.int 1))) .nil)) .nil)) (.seq (.asg 3 (.sst (.call f_ends_of (.cons (.v 0) (.cons (.tup (.cons (.v 2) .nil)) .nil))))) (.seq (.asg 1 (.lc2 [4, 5] [5] (.bin .add (.v 4) (.tup (.cons (.v 5) .nil))) (.v 4) (.ov (.v 1)) .nil (.v 5) (.v 3) .nil)) .nop))) (.seq (.ret (.v 1)) .nop)))
def s_kept : S :=
  (.seq (.asg 2 (.call f_all_bounds (.cons (.v 0) (.cons (.v 1) .nil)))) (.seq (.ret (.lc false [3] (.v 3) (.v 3) (.ov (.call f_outlines (.cons (.v 0) .nil))) (.cons (.cmp .eq (.call f_breaks_of (.cons (.v 2) (.cons (.v 3) .nil))) (.lst .nil)) .nil))) .nop))
def s_first_of : S :=
  (.seq (.asg 2 (.call f_all_bounds (.cons (.v 0) (.cons (.v 1) .nil)))) (.seq (.for (.v 3) (.ov (.call f_outlines (.cons (.v 0) .nil))) (.seq (.ife (.cmp .eq (.call f_breaks_of (.cons (.v 2) (.cons (.v 3) .nil))) (.lst .nil)) (.seq (.ret (.v 3)) .nop) .nop) .nop)) (.seq (.ret (.k .non)) .nop)))
def s_rounding : S :=
  (.seq (.ex (.call f_need_wishes (.cons (.v 0) (.cons (.v 1) .nil)))) (.seq (.ret (.call f_first_of (.cons (.v 0) (.cons (.v 1) .nil)))) .nop))
def s_how_many : S :=
  (.seq (.ex (.call f_need_wishes (.cons (.v 0) (.cons (.v 1) .nil)))) (.seq (.ret (.bi .len (.cons (.call f_kept (.cons (.v 0) (.cons (.v 1) .nil))) .nil))) .nop))
def s_l_kept : S :=
  (.seq (.asg 2 (.call f_l_rows (.cons (.v 0) (.cons (.v 1) .nil)))) (.seq (.ret (.lc false [3] (.v 3) (.v 3) (.ov (.call f_l_outlines (.cons (.v 0) .nil))) (.cons (.cmp .eq (.call f_l_broken (.cons (.v 2) (.cons (.v 3) .nil))) (.lst .nil)) .nil))) .nop))
def s_law_k03 : S :=
  (.seq (.asg 1 (.new .nil)) (.seq (.asg 2 (.call f_l_some_bill (.cons (.v 0) (.cons (.v 1) (.cons (.bin .add (.k (.int 1)) (.call f_l_draw (.cons (.v 0) (.cons (.v 1) (.cons (.k (.int 2)) .nil))))) (.cons (.k (.int 8)) .nil)))))) (.seq (.asg 3 (.call f_l_kept (.cons (.v 2) (.cons (.tup .nil) .nil)))) (.seq (.asg 4 (.call f_rounding (.cons (.v 2) (.cons (.tup .nil) .nil)))) (.seq (.ife (.or (.cons (.cmp .eq (.v 3) (.lst .nil)) (.cons (.cmp .ne (.v 4) (.ix (.v 3) (.k (.int 0)))) (.cons (.not (.call f_l_same_number (.cons (.call f_how_many (.cons (.v 2) (.cons (.tup .nil) .nil))) (.cons (.bi .len (.cons (.v 3) .nil)) .nil)))) .nil)))) (.seq (.ret (.k (.bl false))) .nop) .nop) (.seq (.ret (.isk true (.call f_keeps (.cons (.v 2) (.cons (.tup .nil) (.cons (.v 4) .nil)))) (.bl true))) .nop))))))
def s_parents : S :=
  (.seq (.par2 3 4 (.v 2) (.bin .add (.v 2) (.k (.int 1)))) (.seq (.for (.v 5) (.ov (.v 0)) (.seq (.ife (.isi (.v 5) .tup) (.seq (.seti (.v 1) (.tup (.cons (.k (.str ⟨#[103, 114, 111, 117, 112]⟩)) (.cons (.v 4) .nil))) (.v 3)) (.seq (.asg 4 (.call f_parents (.cons (.v 5) (.cons (.v 1) (.cons (.v 4) .nil))))) .nop)) (.seq (.seti (.v 1) (.tup (.cons (.k (.str ⟨#[105, 116, 101, 109]⟩)) (.cons (.v 5) .nil))) (.v 3)) .nop)) .nop)) (.seq (.ret (.v 4)) .nop)))
def s_parents_of : S :=
  (.seq (.asg 1 .dnew) (.seq (.ex (.call f_parents (.cons (.v 0) (.cons (.v 1) (.cons (.k (.int 0)) .nil))))) (.seq (.ret (.v 1)) .nop)))
def s_pipes_of : S :=
  (.seq (.asg 1 (.call f_parents_of (.cons (.ix (.ix (.v 0) (.k (.int 2))) (.k (.int 0))) .nil))) (.seq (.asg 2 (.ife (.cmp .gt (.bi .len (.cons (.ix (.v 0) (.k (.int 2))) .nil)) (.k (.int 1))) (.call f_parents_of (.cons (.ix (.ix (.v 0) (.k (.int 2))) (.k (.int (-1)))) .nil)) .dnew)) (.seq (.asg 3 .dnew) (.seq (.for (.v 4) (.ov (.call f_lots_of (.cons (.v 0) .nil))) (.seq (.ife (.cmp .eq (.ix (.v 4) (.k (.int 0))) (.k (.str ⟨#[105, 116, 101, 109]⟩))) (.seq (.seti (.v 3) (.v 4) (.tup (.cons (.tup (.cons (.k (.int 0)) (.cons (.ix (.v 1) (.v 4)) .nil))) (.cons (.ife (.cmp .ne (.v 2) .dnew) (.tup (.cons (.k (.int 1)) (.cons (.ix (.v 2) (.v 4)) .nil))) (.tup (.cons (.k (.int 2)) (.cons (.k (.int 0)) .nil)))) .nil)))) .nop) (.seq (.ife (.cmp .eq (.ix (.v 4) (.k (.int 2))) (.k (.int 0))) (.seq (.seti (.v 3) (.v 4) (.ife (.cmp .eq (.ix (.v 4) (.k (.int 1))) (.k (.int 0))) (.tup (.cons (.tup (.cons (.k (.int 2)) (.cons (.k (.int 0)) .nil))) (.cons (.tup (.cons (.k (.int 0)) (.cons (.k (.int 0)) .nil))) .nil))) (.tup (.cons (.tup (.cons (.k (.int 1)) (.cons (.k (.int 0)) .nil))) (.cons (.tup (.cons (.k (.int 2)) (.cons (.k (.int 0)) .nil))) .nil))))) .nop) (.seq (.ife (.cmp .eq (.ix (.v 4) (.k (.int 1))) (.k (.int 0))) (.seq (.seti (.v 3) (.v 4) (.tup (.cons (.tup (.cons (.k (.int 0)) (.cons (.ix (.v 1) (.tup (.cons (.k (.str ⟨#[103, 114, 111, 117, 112]⟩)) (.cons (.ix (.v 4) (.k (.int 2))) .nil)))) .nil))) (.cons (.tup (.cons (.k (.int 0)) (.cons (.ix (.v 4) (.k (.int 2))) .nil))) .nil)))) .nop) (.seq (.seti (.v 3) (.v 4) (.tup (.cons (.tup (.cons (.k (.int 1)) (.cons (.ix (.v 4) (.k (.int 2))) .nil))) (.cons (.tup (.cons (.k (.int 1)) (.cons (.ix (.v 2) (.tup (.cons (.k (.str ⟨#[103, 114, 111, 117, 112]⟩)) (.cons (.ix (.v 4) (.k (.int 2))) .nil)))) .nil))) .nil)))) .nop)) .nop)) .nop)) .nop)) (.seq (.ret (.v 3)) .nop)))))
def s_steps_from : S :=
  (.seq (.asg 3 (.new .nil)) (.seq (.for (.v 4) (.ov (.v 0)) (.seq (.asgp (.t (.cons (.v 5) (.cons (.v 6) (.cons (.v 7) .nil)))) (.ix (.v 1) (.v 4))) (.seq (.ife (.and (.cons (.cmp .eq (.ix (.ix (.v 0) (.v 4)) (.k (.int 0))) (.v 2)) (.cons (.cmp .lt (.v 5) (.v 7)) .nil))) (.seq (.ex (.app (.v 3) (.tup (.cons (.v 4) (.cons (.k (.int 1)) (.cons (.ix (.ix (.v 0) (.v 4)) (.k (.int 1))) .nil)))))) .nop) .nop) (.seq (.ife (.and (.cons (.cmp .eq (.ix (.ix (.v 0) (.v 4)) (.k (.int 1))) (.v 2)) (.cons (.cmp .gt (.v 5) (.v 6)) .nil))) (.seq (.ex (.app (.v 3) (.tup (.cons (.v 4) (.cons (.k (.int (-1))) (.cons (.ix (.ix (.v 0) (.v 4)) (.k (.int 0))) .nil)))))) .nop) .nop) .nop)))) (.seq (.ret (.v 3)) .nop)))
def s_ways_from : S :=
  (.seq (.par2 3 4 (.d1 (.v 2) (.k .non)) (.lst (.cons (.v 2) .nil))) (.seq (.whl 1000 (.cmp .ne (.v 4) (.lst .nil)) (.seq (.asg 5 (.new .nil)) (.seq (.for (.v 6) (.ov (.v 4)) (.seq (.for (.t (.cons (.v 7) (.cons (.v 8) (.cons (.v 9) .nil)))) (.ov (.call f_steps_from (.cons (.v 0) (.cons (.v 1) (.cons (.v 6) .nil))))) (.seq (.ife (.cmp .notin (.v 9) (.v 3)) (.seq (.seti (.v 3) (.v 9) (.tup (.cons (.v 7) (.cons (.v 8) (.cons (.v 6) .nil))))) (.seq (.ex (.app (.v 5) (.v 9))) .nop)) .nop) .nop)) .nop)) (.seq (.asg 4 (.v 5)) .nop)))) (.seq (.ret (.v 3)) .nop)))
def s_turned : S :=
  (.seq (.asgp (.t (.cons (.v 4) (.cons (.v 5) .nil))) (.ife (.cmp .gt (.v 3) (.k (.int 0))) (.rv (.ix (.v 0) (.v 2))) (.ix (.v 0) (.v 2)))) (.seq (.asg 6 (.call f_ways_from (.cons (.v 0) (.cons (.v 1) (.cons (.v 4) .nil))))) (.seq (.ife (.cmp .notin (.v 5) (.v 6)) (.seq (.ret (.tup (.cons (.k .non) (.cons (.v 6) .nil)))) .nop) .nop) (.seq (.asg 7 (.dcp (.v 1))) (.seq (.seti (.v 7) (.v 2) (.bin .add (.tup (.cons (.bin .add (.ix (.ix (.v 1) (.v 2)) (.k (.int 0))) (.v 3)) .nil)) (.sl (.ix (.v 1) (.v 2)) (.cons (.k (.int 1)) .nil) .nil))) (.seq (.whl 1000 (.isk false (.ix (.v 6) (.v 5)) .non) (.seq (.asgp (.t (.cons (.v 8) (.cons (.v 9) (.cons (.v 5) .nil)))) (.ix (.v 6) (.v 5))) (.seq (.seti (.v 7) (.v 8) (.bin .add (.tup (.cons (.bin .add (.ix (.ix (.v 7) (.v 8)) (.k (.int 0))) (.v 9)) .nil)) (.sl (.ix (.v 7) (.v 8)) (.cons (.k (.int 1)) .nil) .nil))) .nop))) (.seq (.ret (.tup (.cons (.v 7) (.cons (.v 6) .nil)))) .nop)))))))
def s_bad_pipe : S :=
  (.seq (.for (.v 1) (.ov (.v 0)) (.seq (.asgp (.t (.cons (.v 2) (.cons (.v 3) (.cons (.v 4) .nil)))) (.ix (.v 0) (.v 1))) (.seq (.ife (.or (.cons (.cmp .lt (.v 2) (.v 3)) (.cons (.cmp .gt (.v 2) (.v 4)) .nil))) (.seq (.ret (.tup (.cons (.v 1) (.cons (.ife (.cmp .lt (.v 2) (.v 3)) (.k (.int 1)) (.k (.int (-1)))) .nil)))) .nop) .nop) .nop))) (.seq (.ret (.k .non)) .nop))
def s_cut_of : S :=
  (.seq (.asg 2 (.lc false [4] (.v 4) (.v 4) (.ov (.v 0)) (.cons (.and (.cons (.cmp .notin (.ix (.ix (.v 0) (.v 4)) (.k (.int 0))) (.v 1)) (.cons (.cmp .isin (.ix (.ix (.v 0) (.v 4)) (.k (.int 1))) (.v 1)) .nil))) .nil))) (.seq (.asg 3 (.lc false [4] (.v 4) (.v 4) (.ov (.v 0)) (.cons (.and (.cons (.cmp .isin (.ix (.ix (.v 0) (.v 4)) (.k (.int 0))) (.v 1)) (.cons (.cmp .notin (.ix (.ix (.v 0) (.v 4)) (.k (.int 1))) (.v 1)) .nil))) .nil))) (.seq (.ret (.tup (.cons (.bi .tup (.cons (.bi .srt (.cons (.v 2) .nil)) .nil)) (.cons (.bi .tup (.cons (.bi .srt (.cons (.v 3) .nil)) .nil)) .nil)))) .nop)))
def s_paper_of : S :=
  (.seq (.asg 2 (.call f_all_bounds (.cons (.v 0) (.cons (.v 1) .nil)))) (.seq (.for (.t (.cons (.v 3) (.cons (.v 4) (.cons (.v 5) (.cons (.v 6) .nil))))) (.ov (.v 2)) (.seq (.ife (.cmp .gt (.v 5) (.v 6)) (.seq (.ret (.tup (.cons (.tup (.cons (.v 3) .nil)) (.cons (.tup (.cons (.v 3) .nil)) .nil)))) .nop) .nop) .nop)) (.seq (.asg 7 (.call f_pipes_of (.cons (.v 0) .nil))) (.seq (.asg 8 (.bi .tup (.cons (.lc false [13] (.ix (.v 13) (.k (.int 2))) (.v 13) (.ov (.v 2)) (.cons (.cmp .eq (.ix (.ix (.v 13) (.k (.int 0))) (.k (.int 0))) (.k (.str ⟨#[105, 116, 101, 109]⟩))) .nil)) .nil))) (.seq (.asg 9 (.dc [3, 4, 5, 6] (.v 3) (.tup (.cons (.call f_sum_at (.cons (.v 8) (.cons (.v 4) .nil))) (.cons (.v 5) (.cons (.v 6) .nil)))) (.t (.cons (.v 3) (.cons (.v 4) (.cons (.v 5) (.cons (.v 6) .nil))))) (.ov (.v 2)) .nil)) (.seq (.asg 10 (.call f_bad_pipe (.cons (.v 9) .nil))) (.seq (.whl 1000 (.isk false (.v 10) .non) (.seq (.asgp (.t (.cons (.v 11) (.cons (.v 12) .nil))) (.call f_turned (.cons (.v 7) (.cons (.v 9) (.cons (.ix (.v 10) (.k (.int 0))) (.cons (.ix (.v 10) (.k (.int 1))) .nil)))))) (.seq (.ife (.isk true (.v 11) .non) (.seq (.ret (.call f_cut_of (.cons (.v 7) (.cons (.v 12) .nil)))) .nop) .nop) (.seq (.asg 9 (.v 11)) (.seq (.asg 10 (.call f_bad_pipe (.cons (.v 9) .nil))) .nop))))) (.seq (.ret (.k .non)) .nop))))))))
def s_need_two : S :=
  (.seq (.ex (.call f_need_bill (.cons (.v 0) .nil))) (.seq (.ife (.cmp .gt (.bi .len (.cons (.ix (.v 0) (.k (.int 2))) .nil)) (.k (.int 2))) (.seq (.rse 6 ⟨#[116, 104, 114, 101, 101, 32, 110, 101, 115, 116, 105, 110, 103, 115]⟩) .nop) .nop) .nop))
def s_paper : S :=
  (.seq (.ex (.call f_need_two (.cons (.v 0) .nil))) (.seq (.ex (.call f_need_wishes (.cons (.v 0) (.cons (.v 1) .nil)))) (.seq (.asg 2 (.call f_paper_of (.cons (.v 0) (.cons (.v 1) .nil)))) (.seq (.ife (.or (.cons (.isk true (.v 2) .non) (.cons (.isk false (.call f_first_of (.cons (.v 0) (.cons (.v 1) .nil))) .non) .nil))) (.seq (.rse 7 ⟨#[97, 32, 114, 111, 117, 110, 100, 105, 110, 103, 32, 107, 101, 101, 112, 115, 32, 116, 104, 101, 109]⟩) .nop) .nop) (.seq (.ret (.v 2)) .nop)))))
def s_are_spots : S :=
  (.seq (.ife (.or (.cons (.not (.isi (.v 1) .tup)) (.cons (.not (.bi .all (.cons (.lc false [2] (.call f_is_spot (.cons (.v 0) (.cons (.v 2) .nil))) (.v 2) (.ov (.v 1)) .nil) .nil))) .nil))) (.seq (.ret (.k (.bl false))) .nop) .nop) (.seq (.ret (.bi .all (.cons (.lc false [2, 3] (.cmp .lt (.v 2) (.v 3)) (.t (.cons (.v 2) (.cons (.v 3) .nil))) (.zip (.v 1) (.sl (.v 1) (.cons (.k (.int 1)) .nil) .nil)) .nil) .nil))) .nop))
def s_is_paper : S :=
  (.seq (.ex (.call f_need_two (.cons (.v 0) .nil))) (.seq (.ex (.call f_need_wishes (.cons (.v 0) (.cons (.v 1) .nil)))) (.seq (.ife (.or (.cons (.not (.isi (.v 2) .tup)) (.cons (.cmp .ne (.bi .len (.cons (.v 2) .nil)) (.k (.int 2))) (.cons (.not (.bi .all (.cons (.lc false [9] (.call f_are_spots (.cons (.v 0) (.cons (.v 9) .nil))) (.v 9) (.ov (.v 2)) .nil) .nil))) .nil)))) (.seq (.ret (.k (.bl false))) .nop) .nop) (.seq (.asg 3 (.call f_lots_of (.cons (.v 0) .nil))) (.seq (.for (.v 4) (.rng (.cons (.bi .len (.cons (.ix (.v 0) (.k (.int 1))) .nil)) .nil)) (.seq (.asg 5 (.lc false [7] (.bi .len (.cons (.lc false [8] (.k (.int 1)) (.v 8) (.ov (.v 7)) (.cons (.cmp .isin (.v 4) (.ix (.v 3) (.v 8))) .nil)) .nil)) (.v 7) (.ov (.v 2)) .nil)) (.seq (.ife (.cmp .ne (.ix (.v 5) (.k (.int 0))) (.ix (.v 5) (.k (.int 1)))) (.seq (.ret (.k (.bl false))) .nop) .nop) .nop))) (.seq (.asg 6 (.bi .sum (.cons (.lc false [8] (.ix (.call f_bounds_of (.cons (.v 0) (.cons (.v 1) (.cons (.v 8) (.cons (.ix (.v 3) (.v 8)) .nil))))) (.k (.int 0))) (.v 8) (.ov (.ix (.v 2) (.k (.int 0)))) .nil) .nil))) (.seq (.ret (.cmp .gt (.v 6) (.bi .sum (.cons (.lc false [8] (.ix (.call f_bounds_of (.cons (.v 0) (.cons (.v 1) (.cons (.v 8) (.cons (.ix (.v 3) (.v 8)) .nil))))) (.k (.int 1))) (.v 8) (.ov (.ix (.v 2) (.k (.int 1)))) .nil) .nil)))) .nop)))))))
def s_l_which : S :=
  (.seq (.asg 1 (.new (.cons (.isi (.v 0) (.cls 1)) (.cons (.isi (.v 0) (.cls 2)) (.cons (.isi (.v 0) (.cls 3)) (.cons (.isi (.v 0) (.cls 4)) .nil)))))) (.seq (.ex (.ext (.v 1) (.lst (.cons (.isi (.v 0) (.cls 5)) (.cons (.isi (.v 0) (.cls 6)) (.cons (.isi (.v 0) (.cls 7)) (.cons (.isi (.v 0) (.cls 8)) .nil))))))) (.seq (.ex (.ext (.v 1) (.lst (.cons (.isi (.v 0) (.cls 9)) (.cons (.isi (.v 0) (.cls 10)) (.cons (.isi (.v 0) (.cls 11)) (.cons (.isi (.v 0) (.cls 12)) .nil))))))) (.seq (.ife (.or (.cons (.cmp .ne (.cnt (.v 1) (.k (.bl true))) (.k (.int 1))) (.cons (.not (.isi (.v 0) (.cls 14))) .nil))) (.seq (.ret (.tup (.cons (.k (.str ⟨#[114, 101, 102, 117, 115, 101, 100]⟩)) (.cons (.k (.int (-1))) .nil)))) .nop) .nop) (.seq (.ret (.tup (.cons (.k (.str ⟨#[114, 101, 102, 117, 115, 101, 100]⟩)) (.cons (.idx (.v 1) (.k (.bl true))) .nil)))) .nop)))))
def s_l_ask : S :=
  (.seq (.tryw (.seq (.ret (.call f_paper (.cons (.v 0) (.cons (.v 1) .nil)))) .nop) 0 2 f_l_which) .nop)
def s_law_k04 : S :=
  (.seq (.asg 1 (.new .nil)) (.seq (.asg 2 (.call f_l_some_bill (.cons (.v 0) (.cons (.v 1) (.cons (.bin .add (.k (.int 1)) (.call f_l_draw (.cons (.v 0) (.cons (.v 1) (.cons (.k (.int 2)) .nil))))) (.cons (.k (.int 7)) .nil)))))) (.seq (.asg 3 (.call f_l_some_wishes (.cons (.v 0) (.cons (.v 1) (.cons (.v 2) (.cons (.k (.int 8)) .nil)))))) (.seq (.par2 4 5 (.call f_l_kept (.cons (.v 2) (.cons (.v 3) .nil))) (.call f_l_ask (.cons (.v 2) (.cons (.v 3) .nil)))) (.seq (.ife (.or (.cons (.cmp .ne (.call f_rounding (.cons (.v 2) (.cons (.v 3) .nil))) (.ife (.cmp .ne (.v 4) (.lst .nil)) (.ix (.v 4) (.k (.int 0))) (.k .non))) (.cons (.cmp .ne (.call f_how_many (.cons (.v 2) (.cons (.v 3) .nil))) (.bi .len (.cons (.v 4) .nil))) .nil))) (.seq (.ret (.k (.bl false))) .nop) .nop) (.seq (.ife (.cmp .ne (.v 4) (.lst .nil)) (.seq (.ret (.cmp .eq (.v 5) (.tup (.cons (.k (.str ⟨#[114, 101, 102, 117, 115, 101, 100]⟩)) (.cons (.k (.int 6)) .nil))))) .nop) .nop) (.seq (.ife (.or (.cons (.not (.isi (.v 5) .tup)) (.cons (.cmp .eq (.ix (.v 5) (.k (.int 0))) (.k (.str ⟨#[114, 101, 102, 117, 115, 101, 100]⟩))) (.cons (.isk false (.call f_is_paper (.cons (.v 2) (.cons (.v 3) (.cons (.v 5) .nil)))) (.bl true)) .nil)))) (.seq (.ret (.k (.bl false))) .nop) .nop) (.seq (.par2 6 7 (.call f_l_rows (.cons (.v 2) (.cons (.v 3) .nil))) (.new .nil)) (.seq (.for (.v 8) (.rng (.cons (.k (.int 2)) .nil)) (.seq (.asg 9 (.lc false [11] (.v 11) (.v 11) (.ov (.v 6)) (.cons (.cmp .isin (.ix (.v 11) (.k (.int 0))) (.ix (.v 5) (.v 8))) .nil))) (.seq (.ife (.cmp .ne (.lsq false (.ix (.v 5) (.v 8))) (.bi .srt (.cons (.lc false [11] (.ix (.v 11) (.k (.int 0))) (.v 11) (.ov (.v 9)) .nil) .nil))) (.seq (.ret (.k (.bl false))) .nop) .nop) (.seq (.asg 10 (.lc false [12] (.bi .len (.cons (.lc false [11] (.v 11) (.v 11) (.ov (.v 9)) (.cons (.cmp .isin (.v 12) (.ix (.v 11) (.k (.int 1)))) .nil)) .nil)) (.v 12) (.rng (.cons (.bi .len (.cons (.ix (.v 2) (.k (.int 1))) .nil)) .nil)) .nil)) (.seq (.ex (.app (.v 7) (.tup (.cons (.v 10) (.cons (.bi .sum (.cons (.lc false [11] (.ix (.v 11) (.k (.int 2))) (.v 11) (.ov (.v 9)) .nil) .nil)) (.cons (.bi .sum (.cons (.lc false [11] (.ix (.v 11) (.k (.int 3))) (.v 11) (.ov (.v 9)) .nil) .nil)) .nil)))))) .nop))))) (.seq (.ret (.and (.cons (.cmp .eq (.ix (.ix (.v 7) (.k (.int 0))) (.k (.int 0))) (.ix (.ix (.v 7) (.k (.int 1))) (.k (.int 0)))) (.cons (.cmp .gt (.ix (.ix (.v 7) (.k (.int 0))) (.k (.int 1))) (.ix (.ix (.v 7) (.k (.int 1))) (.k (.int 2)))) .nil)))) .nop))))))))))
def s_l_right : S :=
  (.seq (.par2 3 4 (.call f_l_rows (.cons (.v 0) (.cons (.v 1) .nil))) (.new .nil)) (.seq (.for (.v 5) (.ov (.v 2)) (.seq (.asg 6 (.lc false [8] (.v 8) (.v 8) (.ov (.v 3)) (.cons (.cmp .isin (.ix (.v 8) (.k (.int 0))) (.v 5)) .nil))) (.seq (.ife (.or (.cons (.cmp .ne (.bi .len (.cons (.v 6) .nil)) (.bi .len (.cons (.v 5) .nil))) (.cons (.cmp .ne (.lsq false (.v 5)) (.bi .srt (.cons (.v 5) .nil))) .nil))) (.seq (.ret (.k (.bl false))) .nop) .nop) (.seq (.asg 7 (.lc false [9] (.bi .len (.cons (.lc false [8] (.v 8) (.v 8) (.ov (.v 6)) (.cons (.cmp .isin (.v 9) (.ix (.v 8) (.k (.int 1)))) .nil)) .nil)) (.v 9) (.rng (.cons (.bi .len (.cons (.ix (.v 0) (.k (.int 1))) .nil)) .nil)) .nil)) (.seq (.ex (.app (.v 4) (.tup (.cons (.v 7) (.cons (.bi .sum (.cons (.lc false [8] (.ix (.v 8) (.k (.int 2))) (.v 8) (.ov (.v 6)) .nil) .nil)) (.cons (.bi .sum (.cons (.lc false [8] (.ix (.v 8) (.k (.int 3))) (.v 8) (.ov (.v 6)) .nil) .nil)) .nil)))))) .nop))))) (.seq (.ret (.and (.cons (.cmp .eq (.ix (.ix (.v 4) (.k (.int 0))) (.k (.int 0))) (.ix (.ix (.v 4) (.k (.int 1))) (.k (.int 0)))) (.cons (.cmp .gt (.ix (.ix (.v 4) (.k (.int 0))) (.k (.int 1))) (.ix (.ix (.v 4) (.k (.int 1))) (.k (.int 2)))) .nil)))) .nop)))
def s_law_k05 : S :=
  (.seq (.asg 1 (.new .nil)) (.seq (.asg 2 (.call f_l_some_bill (.cons (.v 0) (.cons (.v 1) (.cons (.bin .add (.k (.int 1)) (.call f_l_draw (.cons (.v 0) (.cons (.v 1) (.cons (.k (.int 2)) .nil))))) (.cons (.k (.int 5)) .nil)))))) (.seq (.asg 3 (.call f_l_some_wishes (.cons (.v 0) (.cons (.v 1) (.cons (.v 2) (.cons (.k (.int 8)) .nil)))))) (.seq (.par2 4 5 (.lc false [11, 18] (.v 11) (.t (.cons (.v 11) (.cons (.v 18) .nil))) (.ov (.call f_l_lots (.cons (.v 2) .nil))) .nil) (.call f_l_kept (.cons (.v 2) (.cons (.v 3) .nil)))) (.seq (.asg 6 (.dpr (.call f_l_lots (.cons (.v 2) .nil)))) (.seq (.for (.v 7) (.rng (.cons (.k (.int 12)) .nil)) (.seq (.asg 8 (.new .nil)) (.seq (.for (.v 9) (.rng (.cons (.k (.int 2)) .nil)) (.seq (.asg 10 (.lc false [19] (.call f_l_pick (.cons (.v 0) (.cons (.v 1) (.cons (.v 4) .nil)))) (.v 19) (.rng (.cons (.call f_l_draw (.cons (.v 0) (.cons (.v 1) (.cons (.k (.int 4)) .nil)))) .nil)) .nil)) (.seq (.ex (.app (.v 8) (.bi .tup (.cons (.sst (.v 10)) .nil)))) .nop))) (.seq (.ife (.cmp .eq (.call f_l_draw (.cons (.v 0) (.cons (.v 1) (.cons (.k (.int 2)) .nil)))) (.k (.int 0))) (.seq (.asg 11 (.call f_l_pick (.cons (.v 0) (.cons (.v 1) (.cons (.v 4) .nil))))) (.seq (.asg 12 (.lc false [20] (.v 20) (.v 20) (.ov (.v 4)) (.cons (.and (.cons (.cmp .ne (.v 20) (.v 11)) (.cons (.cmp .eq (.ix (.v 6) (.v 20)) (.ix (.v 6) (.v 11))) .nil))) .nil))) (.seq (.asg 13 (.bi .tup (.cons (.bi .srt (.cons (.lc false [21] (.tup (.cons (.k (.str ⟨#[105, 116, 101, 109]⟩)) (.cons (.v 21) .nil))) (.v 21) (.ov (.ix (.v 6) (.v 11))) .nil) .nil)) .nil))) (.seq (.asg 10 (.lst (.cons (.lst (.cons (.tup (.cons (.v 11) .nil)) (.cons (.tup (.cons (.v 11) .nil)) .nil))) (.cons (.lst (.cons (.tup (.cons (.v 11) .nil)) (.cons (.bi .tup (.cons (.sl (.v 12) .nil (.cons (.k (.int 1)) .nil)) .nil)) .nil))) (.cons (.lst (.cons (.tup (.cons (.v 11) .nil)) (.cons (.v 13) .nil))) (.cons (.lst (.cons (.v 13) (.cons (.tup (.cons (.v 11) .nil)) .nil))) .nil)))))) (.seq (.asg 8 (.call f_l_pick (.cons (.v 0) (.cons (.v 1) (.cons (.v 10) .nil))))) .nop))))) .nop) (.seq (.par2 14 15 (.bi .tup (.cons (.v 8) .nil)) (.call f_l_right (.cons (.v 2) (.cons (.v 3) (.cons (.v 8) .nil))))) (.seq (.ife (.or (.cons (.not (.call f_l_same_truth (.cons (.call f_is_paper (.cons (.v 2) (.cons (.v 3) (.cons (.v 14) .nil)))) (.cons (.v 15) .nil)))) (.cons (.and (.cons (.v 15) (.cons (.cmp .ne (.v 5) (.lst .nil)) .nil))) .nil))) (.seq (.ret (.k (.bl false))) .nop) .nop) (.seq (.ife (.and (.cons (.cmp .gt (.bi .len (.cons (.ix (.v 14) (.k (.int 0))) .nil)) (.k (.int 1))) (.cons (.isk false (.call f_is_paper (.cons (.v 2) (.cons (.v 3) (.cons (.tup (.cons (.rv (.ix (.v 14) (.k (.int 0)))) (.cons (.ix (.v 14) (.k (.int 1))) .nil))) .nil)))) (.bl false)) .nil))) (.seq (.ret (.k (.bl false))) .nop) .nop) .nop))))))) (.seq (.asg 16 (.lst (.cons (.k .non) (.cons (.tup .nil) (.cons (.tup (.cons (.tup .nil) (.cons (.tup .nil) .nil))) (.cons (.lst (.cons (.tup .nil) (.cons (.tup .nil) .nil))) (.cons (.tup (.cons (.tup (.cons (.k .non) .nil)) (.cons (.tup (.cons (.k .non) .nil)) .nil))) (.cons (.tup (.cons (.tup (.cons (.ix (.v 4) (.k (.int 0))) .nil)) .nil)) (.cons (.tup (.cons (.sl (.v 4) .nil (.cons (.k (.int 1)) .nil)) (.cons (.sl (.v 4) .nil (.cons (.k (.int 1)) .nil)) .nil))) .nil))))))))) (.seq (.for (.v 17) (.ov (.bin .add (.v 16) (.lst (.cons (.tup (.cons (.tup (.cons (.ix (.v 4) (.k (.int 0))) .nil)) (.cons (.ix (.v 4) (.k (.int 0))) .nil))) .nil)))) (.seq (.ife (.isk false (.call f_is_paper (.cons (.v 2) (.cons (.v 3) (.cons (.v 17) .nil)))) (.bl false)) (.seq (.ret (.k (.bl false))) .nop) .nop) .nop)) (.seq (.ret (.k (.bl true))) .nop)))))))))
def s_broken_rows : S :=
  (.seq (.asg 2 (.call f_all_bounds (.cons (.v 0) (.cons (.v 1) .nil)))) (.seq (.asg 3 (.lc false [5] (.v 5) (.v 5) (.ov (.v 2)) (.cons (.cmp .eq (.ix (.ix (.v 5) (.k (.int 0))) (.k (.int 0))) (.k (.str ⟨#[105, 116, 101, 109]⟩))) .nil))) (.seq (.asg 4 (.lc false [5] (.v 5) (.v 5) (.ov (.v 2)) (.cons (.cmp .eq (.ix (.ix (.v 5) (.k (.int 0))) (.k (.int 0))) (.k (.str ⟨#[103, 114, 111, 117, 112]⟩))) .nil))) (.seq (.ret (.lc false [6] (.call f_breaks_of (.cons (.v 4) (.cons (.v 6) .nil))) (.v 6) (.ov (.call f_outlines (.cons (.v 0) .nil))) (.cons (.cmp .eq (.call f_breaks_of (.cons (.v 3) (.cons (.v 6) .nil))) (.lst .nil)) .nil))) .nop))))
def s_met : S :=
  (.seq (.ife (.cmp .eq (.v 0) (.lst .nil)) (.seq (.ret (.tup .nil)) .nop) .nop) (.seq (.ife (.cmp .eq (.v 2) (.k (.int 0))) (.seq (.ret (.k .non)) .nop) .nop) (.seq (.for (.t (.cons (.v 3) (.cons (.v 4) .nil))) (.enm (.v 1)) (.seq (.asg 5 (.lc false [7] (.v 7) (.v 7) (.ov (.v 0)) (.cons (.cmp .notin (.v 4) (.v 7)) .nil))) (.seq (.ife (.bi .all (.cons (.lc false [7] (.bi .any (.cons (.lc false [8] (.cmp .gt (.v 8) (.v 4)) (.v 8) (.ov (.v 7)) .nil) .nil)) (.v 7) (.ov (.v 5)) .nil) .nil)) (.seq (.asg 6 (.call f_met (.cons (.v 5) (.cons (.sl (.v 1) (.cons (.bin .add (.v 3) (.k (.int 1))) .nil) .nil) (.cons (.bin .sub (.v 2) (.k (.int 1))) .nil))))) (.seq (.ife (.isk false (.v 6) .non) (.seq (.ret (.bin .add (.tup (.cons (.v 4) .nil)) (.v 6))) .nop) .nop) .nop)) .nop) .nop))) (.seq (.ret (.k .non)) .nop))))
def s_bars : S :=
  (.seq (.ex (.call f_need_wishes (.cons (.v 0) (.cons (.v 1) .nil)))) (.seq (.ife (.isk false (.call f_first_of (.cons (.v 0) (.cons (.v 1) .nil))) .non) (.seq (.rse 7 ⟨#[97, 32, 114, 111, 117, 110, 100, 105, 110, 103, 32, 107, 101, 101, 112, 115, 32, 116, 104, 101, 109]⟩) .nop) .nop) (.seq (.asg 2 (.call f_broken_rows (.cons (.v 0) (.cons (.v 1) .nil)))) (.seq (.asg 3 (.lc false [7, 8] (.v 8) (.t (.cons (.v 7) (.cons (.v 8) .nil))) (.enm (.v 2)) (.cons (.cmp .notin (.v 8) (.sl (.v 2) .nil (.cons (.v 7) .nil))) .nil))) (.seq (.asg 4 (.sst (.lc2 [8, 9] [9] (.v 9) (.v 8) (.ov (.v 3)) .nil (.v 9) (.v 8) .nil))) (.seq (.for (.v 5) (.rng (.cons (.bin .add (.bi .len (.cons (.v 4) .nil)) (.k (.int 1))) .nil)) (.seq (.asg 6 (.call f_met (.cons (.v 3) (.cons (.v 4) (.cons (.v 5) .nil))))) (.seq (.ife (.isk false (.v 6) .non) (.seq (.ret (.v 6)) .nop) .nop) .nop))) (.seq (.ret (.tup .nil)) .nop)))))))
def s_l_ask_2 : S :=
  (.seq (.tryw (.seq (.ret (.call f_bars (.cons (.v 0) (.cons (.v 1) .nil)))) .nop) 0 2 f_l_which) .nop)
def s_l_lots_of : S :=
  (.seq (.asg 2 (.lst (.cons (.tup .nil) .nil))) (.seq (.for (.v 3) (.rng (.cons (.v 1) .nil)) (.seq (.asg 4 (.new .nil)) (.seq (.for (.v 5) (.ov (.v 2)) (.seq (.ex (.ext (.v 4) (.lc false [6] (.bin .add (.v 5) (.tup (.cons (.v 6) .nil))) (.v 6) (.ov (.v 0)) (.cons (.or (.cons (.cmp .eq (.v 5) (.tup .nil)) (.cons (.cmp .gt (.v 6) (.ix (.v 5) (.k (.int (-1))))) .nil))) .nil)))) .nop)) (.seq (.asg 2 (.v 4)) .nop)))) (.seq (.ret (.v 2)) .nop)))
def s_law_k06 : S :=
  (.seq (.asg 1 (.new .nil)) (.seq (.asg 2 (.call f_l_some_bill (.cons (.v 0) (.cons (.v 1) (.cons (.bin .add (.k (.int 1)) (.call f_l_draw (.cons (.v 0) (.cons (.v 1) (.cons (.k (.int 3)) .nil))))) (.cons (.k (.int 5)) .nil)))))) (.seq (.ife (.cmp .eq (.call f_l_draw (.cons (.v 0) (.cons (.v 1) (.cons (.k (.int 3)) .nil)))) (.k (.int 0))) (.seq (.asg 3 (.lst (.cons (.tup (.cons (.tup (.cons (.k (.int 0)) (.cons (.k (.int 1)) .nil))) (.cons (.tup (.cons (.k (.int 2)) (.cons (.k (.int 3)) .nil))) .nil))) (.cons (.tup (.cons (.tup (.cons (.k (.int 0)) (.cons (.k (.int 2)) .nil))) (.cons (.tup (.cons (.k (.int 1)) (.cons (.k (.int 3)) .nil))) .nil))) (.cons (.tup (.cons (.tup (.cons (.k (.int 0)) (.cons (.k (.int 3)) .nil))) (.cons (.tup (.cons (.k (.int 1)) (.cons (.k (.int 2)) .nil))) .nil))) .nil))))) (.seq (.asg 2 (.tup (.cons (.k (.int 2)) (.cons (.bi .tup (.cons (.lc false [16] (.bin .add (.k (.int 1)) (.bin .mul (.k (.int 2)) (.call f_l_draw (.cons (.v 0) (.cons (.v 1) (.cons (.k (.int 3)) .nil)))))) (.v 16) (.rng (.cons (.k (.int 4)) .nil)) .nil) .nil)) (.cons (.bi .tup (.cons (.v 3) .nil)) .nil))))) .nop)) .nop) (.seq (.asg 4 (.call f_l_some_wishes (.cons (.v 0) (.cons (.v 1) (.cons (.v 2) (.cons (.k (.int 5)) .nil)))))) (.seq (.par2 5 6 (.call f_l_kept (.cons (.v 2) (.cons (.v 4) .nil))) (.call f_l_ask_2 (.cons (.v 2) (.cons (.v 4) .nil)))) (.seq (.ife (.cmp .ne (.v 5) (.lst .nil)) (.seq (.ret (.cmp .eq (.v 6) (.tup (.cons (.k (.str ⟨#[114, 101, 102, 117, 115, 101, 100]⟩)) (.cons (.k (.int 6)) .nil))))) .nop) .nop) (.seq (.asg 7 (.call f_l_rows (.cons (.v 2) (.cons (.v 4) .nil)))) (.seq (.asg 8 (.lc false [14] (.v 14) (.v 14) (.ov (.v 7)) (.cons (.cmp .eq (.ix (.ix (.v 14) (.k (.int 0))) (.k (.int 0))) (.k (.str ⟨#[105, 116, 101, 109]⟩))) .nil))) (.seq (.asg 9 (.lc false [14] (.v 14) (.v 14) (.ov (.v 7)) (.cons (.cmp .eq (.ix (.ix (.v 14) (.k (.int 0))) (.k (.int 0))) (.k (.str ⟨#[103, 114, 111, 117, 112]⟩))) .nil))) (.seq (.asg 10 (.lc false [15] (.v 15) (.v 15) (.ov (.call f_l_outlines (.cons (.v 2) .nil))) (.cons (.cmp .eq (.call f_l_broken (.cons (.v 8) (.cons (.v 15) .nil))) (.lst .nil)) .nil))) (.seq (.for (.v 11) (.rng (.cons (.bin .add (.bi .len (.cons (.v 9) .nil)) (.k (.int 1))) .nil)) (.seq (.for (.v 12) (.ov (.call f_l_lots_of (.cons (.lc false [14] (.ix (.v 14) (.k (.int 0))) (.v 14) (.ov (.v 9)) .nil) (.cons (.v 11) .nil)))) (.seq (.asg 13 (.lc false [14] (.v 14) (.v 14) (.ov (.v 9)) (.cons (.cmp .isin (.ix (.v 14) (.k (.int 0))) (.v 12)) .nil))) (.seq (.ife (.cmp .eq (.lc false [15] (.k (.int 1)) (.v 15) (.ov (.v 10)) (.cons (.cmp .eq (.call f_l_broken (.cons (.v 13) (.cons (.v 15) .nil))) (.lst .nil)) .nil)) (.lst .nil)) (.seq (.ret (.and (.cons (.cmp .eq (.v 6) (.v 12)) (.cons (.cmp .eq (.bi .len (.cons (.v 12) .nil)) (.v 11)) .nil)))) .nop) .nop) .nop))) .nop)) (.seq (.ret (.k (.bl false))) .nop))))))))))))
def s_free : S :=
  (.seq (.ex (.call f_need_wishes (.cons (.v 0) (.cons (.v 1) .nil)))) (.seq (.asg 2 (.call f_kept (.cons (.v 0) (.cons (.v 1) .nil)))) (.seq (.ret (.lc false [3] (.v 3) (.v 3) (.rng (.cons (.bi .len (.cons (.ix (.v 0) (.k (.int 1))) .nil)) .nil)) (.cons (.cmp .eq (.lst1 (.lc false [4] (.ix (.v 4) (.v 3)) (.v 4) (.ov (.v 2)) .nil)) (.k (.int 2))) .nil))) .nop)))
def s_law_k07 : S :=
  (.seq (.asg 1 (.new .nil)) (.seq (.asg 2 (.call f_l_some_bill (.cons (.v 0) (.cons (.v 1) (.cons (.k (.int 3)) (.cons (.k (.int 7)) .nil)))))) (.seq (.asg 3 (.call f_l_some_wishes (.cons (.v 0) (.cons (.v 1) (.cons (.v 2) (.cons (.k (.int 4)) .nil)))))) (.seq (.asg 3 (.bi .tup (.cons (.lc false [9] (.v 9) (.v 9) (.ov (.v 3)) (.cons (.or (.cons (.cmp .eq (.ix (.ix (.v 9) (.k (.int 0))) (.k (.int 0))) (.k (.str ⟨#[105, 116, 101, 109]⟩))) (.cons (.cmp .lt (.ix (.ix (.v 9) (.k (.int 0))) (.k (.int 1))) (.k (.int 2))) .nil))) .nil)) .nil))) (.seq (.asg 4 (.call f_l_kept (.cons (.v 2) (.cons (.v 3) .nil)))) (.seq (.ife (.or (.cons (.cmp .ne (.call f_rounding (.cons (.v 2) (.cons (.v 3) .nil))) (.ife (.cmp .ne (.v 4) (.lst .nil)) (.ix (.v 4) (.k (.int 0))) (.k .non))) (.cons (.cmp .ne (.call f_how_many (.cons (.v 2) (.cons (.v 3) .nil))) (.bi .len (.cons (.v 4) .nil))) .nil))) (.seq (.ret (.k (.bl false))) .nop) .nop) (.seq (.asg 5 (.lc false [8] (.v 8) (.v 8) (.rng (.cons (.bi .len (.cons (.ix (.v 2) (.k (.int 1))) .nil)) .nil)) (.cons (.cmp .gt (.lst1 (.lc false [10] (.ix (.v 10) (.v 8)) (.v 10) (.ov (.v 4)) .nil)) (.k (.int 1))) .nil))) (.seq (.ife (.cmp .ne (.call f_free (.cons (.v 2) (.cons (.v 3) .nil))) (.v 5)) (.seq (.ret (.k (.bl false))) .nop) .nop) (.seq (.asg 6 (.tup (.cons (.ix (.v 2) (.k (.int 0))) (.cons (.ix (.v 2) (.k (.int 1))) (.cons (.sl (.ix (.v 2) (.k (.int 2))) .nil (.cons (.k (.int 2)) .nil)) .nil))))) (.seq (.asg 7 (.call f_l_kept (.cons (.v 6) (.cons (.v 3) .nil)))) (.seq (.ife (.or (.cons (.cmp .ne (.call f_how_many (.cons (.v 6) (.cons (.v 3) .nil))) (.bi .len (.cons (.v 7) .nil))) (.cons (.cmp .ne (.lc false [10] (.v 10) (.v 10) (.ov (.v 4)) (.cons (.cmp .notin (.v 10) (.v 7)) .nil)) (.lst .nil)) .nil))) (.seq (.ret (.k (.bl false))) .nop) .nop) (.seq (.ret (.cmp .eq (.lc false [8] (.v 8) (.v 8) (.ov (.call f_free (.cons (.v 2) (.cons (.v 3) .nil)))) (.cons (.cmp .notin (.v 8) (.call f_free (.cons (.v 6) (.cons (.v 3) .nil)))) .nil)) (.lst .nil))) .nop))))))))))))
def s_off_by : S :=
  (.seq (.asg 2 (.call f_lots_of (.cons (.v 0) .nil))) (.seq (.ret (.bi .sum (.cons (.lc false [3] (.bi .abs (.cons (.bin .sub (.bin .mul (.ix (.v 0) (.k (.int 0))) (.call f_sum_at (.cons (.v 1) (.cons (.ix (.v 2) (.v 3)) .nil)))) (.call f_amount_of (.cons (.v 0) (.cons (.ix (.v 2) (.v 3)) .nil)))) .nil)) (.v 3) (.ov (.v 2)) .nil) .nil))) .nop))
def s_closest : S :=
  (.seq (.ex (.call f_need_wishes (.cons (.v 0) (.cons (.v 1) .nil)))) (.seq (.asg 2 (.lc false [3] (.tup (.cons (.call f_off_by (.cons (.v 0) (.cons (.v 3) .nil))) (.cons (.v 3) .nil))) (.v 3) (.ov (.call f_kept (.cons (.v 0) (.cons (.v 1) .nil)))) .nil)) (.seq (.ret (.ife (.cmp .ne (.v 2) (.lst .nil)) (.tup (.cons (.ix (.bi .min1 (.cons (.v 2) .nil)) (.k (.int 1))) (.cons (.ix (.bi .min1 (.cons (.v 2) .nil)) (.k (.int 0))) .nil))) (.k .non))) .nop)))
def s_nearest : S :=
  (.seq (.ex (.call f_need_wishes (.cons (.v 0) (.cons (.v 1) .nil)))) (.seq (.ex (.call f_need_outline (.cons (.v 0) (.cons (.v 2) .nil)))) (.seq (.asg 3 (.new .nil)) (.seq (.for (.v 4) (.ov (.call f_kept (.cons (.v 0) (.cons (.v 1) .nil)))) (.seq (.ex (.app (.v 3) (.tup (.cons (.bi .len (.cons (.lc false [5, 6] (.k (.int 1)) (.t (.cons (.v 5) (.cons (.v 6) .nil))) (.zip (.v 4) (.v 2)) (.cons (.cmp .ne (.v 5) (.v 6)) .nil)) .nil)) (.cons (.v 4) .nil))))) .nop)) (.seq (.ret (.ife (.cmp .ne (.v 3) (.lst .nil)) (.ix (.bi .min1 (.cons (.v 3) .nil)) (.k (.int 1))) (.k .non))) .nop)))))
def s_law_k08 : S :=
  (.seq (.asg 1 (.new .nil)) (.seq (.asg 2 (.call f_l_some_bill (.cons (.v 0) (.cons (.v 1) (.cons (.bin .add (.k (.int 1)) (.call f_l_draw (.cons (.v 0) (.cons (.v 1) (.cons (.k (.int 3)) .nil))))) (.cons (.k (.int 6)) .nil)))))) (.seq (.asg 3 (.call f_l_some_wishes (.cons (.v 0) (.cons (.v 1) (.cons (.v 2) (.cons (.k (.int 4)) .nil)))))) (.seq (.par2 4 5 (.call f_l_kept (.cons (.v 2) (.cons (.v 3) .nil))) (.new .nil)) (.seq (.for (.v 6) (.ov (.v 4)) (.seq (.asg 7 (.k (.int 0))) (.seq (.for (.t (.cons (.v 8) (.cons (.v 9) .nil))) (.ov (.call f_l_lots (.cons (.v 2) .nil))) (.seq (.asg 7 (.bin .add (.v 7) (.bi .abs (.cons (.bi .sum (.cons (.lc false [15] (.bin .sub (.bin .mul (.ix (.v 2) (.k (.int 0))) (.ix (.v 6) (.v 15))) (.ix (.ix (.v 2) (.k (.int 1))) (.v 15))) (.v 15) (.ov (.v 9)) .nil) .nil)) .nil)))) .nop)) (.seq (.ex (.app (.v 5) (.tup (.cons (.v 7) (.cons (.v 6) .nil))))) .nop)))) (.seq (.ife (.cmp .ne (.call f_closest (.cons (.v 2) (.cons (.v 3) .nil))) (.ife (.cmp .ne (.v 5) (.lst .nil)) (.tup (.cons (.ix (.bi .min1 (.cons (.v 5) .nil)) (.k (.int 1))) (.cons (.ix (.bi .min1 (.cons (.v 5) .nil)) (.k (.int 0))) .nil))) (.k .non))) (.seq (.ret (.k (.bl false))) .nop) .nop) (.seq (.for (.v 10) (.rng (.cons (.k (.int 4)) .nil)) (.seq (.asg 11 (.call f_l_pick (.cons (.v 0) (.cons (.v 1) (.cons (.bin .add (.call f_l_outlines (.cons (.v 2) .nil)) (.v 4)) .nil))))) (.seq (.asg 12 (.lc false [6] (.tup (.cons (.bi .sum (.cons (.lc false [13, 14] (.bi .int (.cons (.cmp .ne (.v 13) (.v 14)) .nil)) (.t (.cons (.v 13) (.cons (.v 14) .nil))) (.zip (.v 6) (.v 11)) .nil) .nil)) (.cons (.v 6) .nil))) (.v 6) (.ov (.v 4)) .nil)) (.seq (.ife (.cmp .ne (.call f_nearest (.cons (.v 2) (.cons (.v 3) (.cons (.v 11) .nil)))) (.ife (.cmp .ne (.v 12) (.lst .nil)) (.ix (.bi .min1 (.cons (.v 12) .nil)) (.k (.int 1))) (.k .non))) (.seq (.ret (.k (.bl false))) .nop) .nop) (.seq (.ife (.and (.cons (.cmp .isin (.v 11) (.v 4)) (.cons (.cmp .ne (.call f_nearest (.cons (.v 2) (.cons (.v 3) (.cons (.v 11) .nil)))) (.v 11)) .nil))) (.seq (.ret (.k (.bl false))) .nop) .nop) .nop))))) (.seq (.ret (.k (.bl true))) .nop))))))))
def s__wall : S :=
  (.seq (.whl 1000 (.k (.bl true)) (.seq .nop .nop)) .nop)
def s_Books_init : S :=
  (.seq (.ex (.call f_need_bill (.cons (.v 1) .nil))) (.seq (.setf (.v 0) ⟨#[104, 111, 119]⟩ (.tup (.cons (.v 1) (.cons (.tup .nil) .nil)))) (.seq (.setf (.v 0) ⟨#[112, 97, 115, 116]⟩ (.new .nil)) (.seq (.setf (.v 0) ⟨#[99, 97, 108, 108, 115]⟩ (.new .nil)) .nop))))
def s_Books_call : S :=
  (.seq (.ex (.app (.fld (.v 0) ⟨#[112, 97, 115, 116]⟩) (.fld (.v 0) ⟨#[104, 111, 119]⟩))) (.seq (.ex (.app (.fld (.v 0) ⟨#[99, 97, 108, 108, 115]⟩) (.v 1))) (.seq (.setf (.v 0) ⟨#[104, 111, 119]⟩ (.v 2)) .nop)))
def s_Books_at_spot : S :=
  (.seq (.ret (.lc false [2] (.v 2) (.v 2) (.ov (.ix (.fld (.v 0) ⟨#[104, 111, 119]⟩) (.k (.int 1)))) (.cons (.cmp .eq (.ix (.v 2) (.k (.int 0))) (.v 1)) .nil))) .nop)
def s_Books_wish : S :=
  (.seq (.asgp (.t (.cons (.v 3) (.cons (.v 4) .nil))) (.fld (.v 0) ⟨#[104, 111, 119]⟩)) (.seq (.ex (.call f_need_spot (.cons (.v 3) (.cons (.v 1) .nil)))) (.seq (.ife (.or (.cons (.not (.isi (.v 2) .str)) (.cons (.cmp .notin (.v 2) (.gl 0 (.ktp [(.str ⟨#[117, 112]⟩), (.str ⟨#[100, 111, 119, 110]⟩)]))) (.cons (.cmp .ne (.mth f_Books_at_spot (.v 0) (.cons (.v 1) .nil)) (.lst .nil)) (.cons (.cmp .eq (.bi .len (.cons (.v 4) .nil)) (.gl 1 (.int 8))) .nil))))) (.seq (.rse 9 ⟨#[110, 111, 32, 119, 105, 115, 104]⟩) .nop) .nop) (.seq (.ex (.mth f_Books_call (.v 0) (.cons (.k (.str ⟨#[119, 105, 115, 104]⟩)) (.cons (.tup (.cons (.v 3) (.cons (.bi .tup (.cons (.bi .srt (.cons (.bin .add (.v 4) (.tup (.cons (.tup (.cons (.v 1) (.cons (.v 2) .nil))) .nil))) .nil)) .nil)) .nil))) .nil)))) .nop))))
def s_Books_drop : S :=
  (.seq (.ex (.call f__wall (.cons (.k (.int 0)) .nil))) .nop)
def s_Books_change : S :=
  (.seq (.ex (.call f__wall (.cons (.k (.int 1)) .nil))) .nop)
def s_Books_rounding : S :=
  (.seq (.ret (.call f_first_of (.cons (.ix (.fld (.v 0) ⟨#[104, 111, 119]⟩) (.k (.int 0))) (.cons (.ix (.fld (.v 0) ⟨#[104, 111, 119]⟩) (.k (.int 1))) .nil)))) .nop)
def s_Books_bill : S :=
  (.seq (.ret (.ix (.fld (.v 0) ⟨#[104, 111, 119]⟩) (.k (.int 0)))) .nop)
def s_Books_wishes : S :=
  (.seq (.ret (.ix (.fld (.v 0) ⟨#[104, 111, 119]⟩) (.k (.int 1)))) .nop)
def s_Books_back : S :=
  (.seq (.ife (.cmp .eq (.fld (.v 0) ⟨#[112, 97, 115, 116]⟩) (.lst .nil)) (.seq (.rse 11 ⟨#[110, 111, 116, 104, 105, 110, 103, 32, 119, 97, 115, 32, 99, 97, 108, 108, 101, 100]⟩) .nop) .nop) (.seq (.setf (.v 0) ⟨#[104, 111, 119]⟩ (.pop0 (.fld (.v 0) ⟨#[112, 97, 115, 116]⟩))) (.seq (.ret (.pop0 (.fld (.v 0) ⟨#[99, 97, 108, 108, 115]⟩))) .nop)))
def s_Books_twin : S :=
  (.seq (.ex (.call f__wall (.cons (.k (.int 2)) .nil))) .nop)
def s_Books_eq : S :=
  (.seq (.ret (.and (.cons (.isi (.v 1) (.cls 13)) (.cons (.cmp .eq (.fld (.v 0) ⟨#[104, 111, 119]⟩) (.fld (.v 1) ⟨#[104, 111, 119]⟩)) .nil)))) .nop)
def s_Books_len : S :=
  (.seq (.ret (.bi .len (.cons (.ix (.fld (.v 0) ⟨#[104, 111, 119]⟩) (.k (.int 1))) .nil))) .nop)
def s_Books_str : S :=
  (.seq (.asg 1 (.mth f_Books_rounding (.v 0) .nil)) (.seq (.ife (.isk true (.v 1) .non) (.seq (.ret (.k (.str ⟨#[110, 111, 110, 101]⟩))) .nop) .nop) (.seq (.ret (.join (.k (.str ⟨#[32]⟩)) (.lc false [2] (.bi .str (.cons (.v 2) .nil)) (.v 2) (.ov (.v 1)) .nil))) .nop)))
def s_nest_words : S :=
  (.seq (.asg 1 (.new (.cons (.k (.str ⟨#[40]⟩)) .nil))) (.seq (.for (.v 2) (.ov (.v 0)) (.seq (.ex (.ext (.v 1) (.ife (.isi (.v 2) .tup) (.call f_nest_words (.cons (.v 2) .nil)) (.lst (.cons (.bi .str (.cons (.v 2) .nil)) .nil))))) .nop)) (.seq (.ret (.bin .add (.v 1) (.lst (.cons (.k (.str ⟨#[41]⟩)) .nil)))) .nop)))
def s_text_of : S :=
  (.seq (.asg 1 (.lst (.cons (.bin .add (.k (.str ⟨#[112, 97, 114, 116, 115, 32]⟩)) (.bi .str (.cons (.ix (.v 0) (.k (.int 0))) .nil))) (.cons (.join (.k (.str ⟨#[32]⟩)) (.bin .add (.lst (.cons (.k (.str ⟨#[97, 109, 111, 117, 110, 116, 115]⟩)) .nil)) (.lc false [2] (.bi .str (.cons (.v 2) .nil)) (.v 2) (.ov (.ix (.v 0) (.k (.int 1)))) .nil))) .nil)))) (.seq (.ret (.join (.k (.str ⟨#[10]⟩)) (.bin .add (.v 1) (.lc false [2] (.join (.k (.str ⟨#[32]⟩)) (.bin .add (.lst (.cons (.k (.str ⟨#[110, 101, 115, 116]⟩)) .nil)) (.call f_nest_words (.cons (.v 2) .nil)))) (.v 2) (.ov (.ix (.v 0) (.k (.int 2)))) .nil)))) .nop))
def s_bill_text : S :=
  (.seq (.ex (.call f_need_bill (.cons (.v 0) .nil))) (.seq (.ret (.call f_text_of (.cons (.v 0) .nil))) .nop))
def s_wishes_of : S :=
  (.seq (.asg 1 (.lc false [2, 3] (.join (.k (.str ⟨#[32]⟩)) (.bin .add (.lc false [4] (.bi .str (.cons (.v 4) .nil)) (.v 4) (.ov (.v 2)) .nil) (.lst (.cons (.v 3) .nil)))) (.t (.cons (.v 2) (.cons (.v 3) .nil))) (.ov (.v 0)) .nil)) (.seq (.ret (.ife (.cmp .ne (.v 1) (.lst .nil)) (.join (.k (.str ⟨#[10]⟩)) (.v 1)) (.k (.str ⟨#[110, 111, 110, 101]⟩)))) .nop))
def s_wishes_text : S :=
  (.seq (.ex (.call f_need_wishes (.cons (.v 0) (.cons (.v 1) .nil)))) (.seq (.ret (.call f_wishes_of (.cons (.v 1) .nil))) .nop))
def s_number_in : S :=
  (.seq (.ife (.or (.cons (.cmp .eq (.v 0) (.k (.str ⟨#[]⟩))) (.cons (.cmp .gt (.bi .len (.cons (.v 0) .nil)) (.k (.int 3))) (.cons (.not (.bi .all (.cons (.lc false [1] (.cmp .isin (.v 1) (.gl 0 (.str ⟨#[48, 49, 50, 51, 52, 53, 54, 55, 56, 57]⟩))) (.v 1) (.ov (.v 0)) .nil) .nil))) (.cons (.cmp .ne (.bi .str (.cons (.bi .int (.cons (.v 0) .nil)) .nil)) (.v 0)) .nil))))) (.seq (.ret (.k .non)) .nop) .nop) (.seq (.ret (.bi .int (.cons (.v 0) .nil))) .nop))
def s_wish_in : S :=
  (.seq (.ret (.tup (.cons (.bi .tup (.cons (.bin .add (.sl (.v 0) .nil (.cons (.k (.int 1)) .nil)) (.lc false [1] (.call f_number_in (.cons (.v 1) .nil)) (.v 1) (.ov (.sl (.v 0) (.cons (.k (.int 1)) .nil) (.cons (.k (.int (-1))) .nil))) .nil)) .nil)) (.cons (.ix (.v 0) (.k (.int (-1)))) .nil)))) .nop)
def s_read_wishes : S :=
  (.seq (.ex (.call f_need_bill (.cons (.v 0) .nil))) (.seq (.ife (.not (.isi (.v 1) .str)) (.seq (.rse 8 ⟨#[110, 111, 32, 116, 101, 120, 116]⟩) .nop) .nop) (.seq (.asg 2 (.ife (.cmp .ne (.v 1) (.k (.str ⟨#[110, 111, 110, 101]⟩))) (.bi .tup (.cons (.lc false [3] (.call f_wish_in (.cons (.splt (.v 3) (.k (.str ⟨#[32]⟩))) .nil)) (.v 3) (.ov (.splt (.v 1) (.k (.str ⟨#[10]⟩)))) .nil) .nil)) (.tup .nil))) (.seq (.ife (.not (.call f_good_wishes (.cons (.v 0) (.cons (.v 2) .nil)))) (.seq (.rse 8 ⟨#[110, 111, 32, 119, 105, 115, 104, 101, 115, 32, 97, 114, 101, 32, 119, 114, 105, 116, 116, 101, 110, 32, 115, 111]⟩) .nop) .nop) (.seq (.ret (.v 2)) .nop)))))
def s_l_ask_3 : S :=
  (.seq (.tryw (.seq (.ife (.cmp .lt (.v 0) (.k (.int 3))) (.seq (.ret (.ife (.cmp .lt (.v 0) (.k (.int 2))) (.callx (.ix (.lst (.cons (.fnm f_spots) (.cons (.fnm f_bill_text) .nil))) (.v 0)) (.cons (.v 1) .nil)) (.mk 13 f_Books_init (.cons (.v 1) .nil)))) .nop) .nop) (.seq (.ife (.cmp .lt (.v 0) (.k (.int 6))) (.seq (.ret (.callx (.ix (.lst (.cons (.fnm f_groups) (.cons (.fnm f_amount) (.cons (.fnm f_ends) .nil)))) (.bin .sub (.v 0) (.k (.int 3)))) (.cons (.v 1) (.cons (.v 2) .nil)))) .nop) .nop) (.seq (.ife (.cmp .lt (.v 0) (.k (.int 12))) (.seq (.ret (.callx (.ix (.lst (.cons (.fnm f_rounding) (.cons (.fnm f_how_many) (.cons (.fnm f_closest) (.cons (.fnm f_free) (.cons (.fnm f_bars) (.cons (.fnm f_wishes_text) .nil))))))) (.bin .sub (.v 0) (.k (.int 6)))) (.cons (.v 1) (.cons (.v 2) .nil)))) .nop) .nop) (.seq (.ife (.cmp .lt (.v 0) (.k (.int 16))) (.seq (.ret (.callx (.ix (.lst (.cons (.fnm f_bounds) (.cons (.fnm f_keeps) (.cons (.fnm f_breaks) (.cons (.fnm f_nearest) .nil))))) (.bin .sub (.v 0) (.k (.int 12)))) (.cons (.v 1) (.cons (.v 2) (.cons (.v 3) .nil))))) .nop) .nop) (.seq (.ife (.cmp .lt (.v 0) (.k (.int 18))) (.seq (.ret (.ife (.cmp .eq (.v 0) (.k (.int 16))) (.call f_paper (.cons (.v 1) (.cons (.v 2) .nil))) (.call f_is_paper (.cons (.v 1) (.cons (.v 2) (.cons (.v 3) .nil)))))) .nop) .nop) (.seq (.ret (.ife (.cmp .eq (.v 0) (.k (.int 18))) (.call f_are_wishes (.cons (.v 1) (.cons (.v 2) .nil))) (.call f_read_wishes (.cons (.v 1) (.cons (.v 2) .nil))))) .nop)))))) 0 4 f_l_which) .nop)
def s_l_no_bills : S :=
  (.seq (.asg 0 (.tup (.cons (.tup (.cons (.k (.int 0)) (.cons (.k (.int 1)) .nil))) (.cons (.k (.int 2)) .nil)))) (.seq (.asg 1 (.new (.cons (.k .non) (.cons (.k (.int 5)) (.cons (.tup .nil) (.cons (.tup (.cons (.k (.int 10)) (.cons (.tup (.cons (.k (.int 1)) (.cons (.k (.int 2)) (.cons (.k (.int 3)) .nil)))) .nil))) (.cons (.new (.cons (.k (.int 10)) (.cons (.tup (.cons (.k (.int 1)) (.cons (.k (.int 2)) (.cons (.k (.int 3)) .nil)))) (.cons (.tup (.cons (.v 0) .nil)) .nil)))) (.cons (.tup (.cons (.k (.int 1)) (.cons (.tup (.cons (.k (.int 1)) (.cons (.k (.int 2)) (.cons (.k (.int 3)) .nil)))) (.cons (.tup (.cons (.v 0) .nil)) .nil)))) (.cons (.tup (.cons (.k (.int 25)) (.cons (.tup (.cons (.k (.int 1)) (.cons (.k (.int 2)) (.cons (.k (.int 3)) .nil)))) (.cons (.tup (.cons (.v 0) .nil)) .nil)))) .nil))))))))) (.seq (.ex (.ext (.v 1) (.lst (.cons (.tup (.cons (.k (.int 10)) (.cons (.lst (.cons (.k (.int 1)) (.cons (.k (.int 2)) (.cons (.k (.int 3)) .nil)))) (.cons (.tup (.cons (.v 0) .nil)) .nil)))) (.cons (.tup (.cons (.k (.int 10)) (.cons (.tup .nil) (.cons (.tup .nil) .nil)))) (.cons (.tup (.cons (.k (.int 10)) (.cons (.tup (.cons (.k (.int 1)) (.cons (.k (.int 2)) (.cons (.k (.int 1000)) .nil)))) (.cons (.tup (.cons (.v 0) .nil)) .nil)))) (.cons (.tup (.cons (.k (.int 10)) (.cons (.tup (.cons (.k (.int 1)) (.cons (.k (.int 2)) (.cons (.k (.int (-1))) .nil)))) (.cons (.tup (.cons (.v 0) .nil)) .nil)))) .nil))))))) (.seq (.ex (.ext (.v 1) (.lst (.cons (.tup (.cons (.k (.int 10)) (.cons (.tup (.cons (.k (.int 1)) (.cons (.k (.int 2)) (.cons (.k (.bl true)) .nil)))) (.cons (.tup (.cons (.v 0) .nil)) .nil)))) (.cons (.tup (.cons (.k (.int 10)) (.cons (.tup (.cons (.k (.int 1)) (.cons (.k (.int 2)) (.cons (.k (.int 3)) .nil)))) (.cons (.tup .nil) .nil)))) (.cons (.tup (.cons (.k (.int 10)) (.cons (.tup (.cons (.k (.int 1)) (.cons (.k (.int 2)) (.cons (.k (.int 3)) .nil)))) (.cons (.bin .mul (.tup (.cons (.v 0) .nil)) (.k (.int 4))) .nil)))) .nil)))))) (.seq (.ex (.app (.v 1) (.tup (.cons (.k (.int 10)) (.cons (.tup (.cons (.k (.int 1)) (.cons (.k (.int 2)) (.cons (.k (.int 3)) .nil)))) (.cons (.lst (.cons (.v 0) .nil)) .nil)))))) (.seq (.for (.v 2) (.ov (.lst (.cons (.tup (.cons (.k (.int 0)) (.cons (.k (.int 1)) .nil))) (.cons (.tup (.cons (.k (.int 0)) (.cons (.k (.int 1)) (.cons (.k (.int 2)) (.cons (.k (.int 2)) .nil))))) (.cons (.tup (.cons (.k (.int 0)) (.cons (.k (.int 1)) (.cons (.k (.int 3)) .nil)))) (.cons (.tup (.cons (.tup (.cons (.k (.int 0)) (.cons (.k (.int 1)) .nil))) (.cons (.tup .nil) (.cons (.k (.int 2)) .nil)))) (.cons (.lst (.cons (.k (.int 0)) (.cons (.k (.int 1)) (.cons (.k (.int 2)) .nil)))) (.cons (.tup (.cons (.k (.int 0)) (.cons (.k (.int 1)) (.cons (.k (.str ⟨#[50]⟩)) .nil)))) (.cons (.tup (.cons (.k (.int 0)) (.cons (.tup (.cons (.k (.int 1)) (.cons (.tup (.cons (.k (.int 2)) (.cons (.tup (.cons (.tup .nil) .nil)) .nil))) .nil))) .nil))) (.cons (.k (.int 0)) .nil)))))))))) (.seq (.ex (.app (.v 1) (.tup (.cons (.k (.int 10)) (.cons (.tup (.cons (.k (.int 1)) (.cons (.k (.int 2)) (.cons (.k (.int 3)) .nil)))) (.cons (.tup (.cons (.v 2) .nil)) .nil)))))) .nop)) (.seq (.asg 3 (.tup (.cons (.tup (.cons (.tup (.cons (.tup (.cons (.tup (.cons (.k (.int 0)) .nil)) .nil)) .nil)) .nil)) (.cons (.k (.int 1)) (.cons (.k (.int 2)) .nil))))) (.seq (.ex (.ext (.v 1) (.lst (.cons (.tup (.cons (.k (.int 10)) (.cons (.tup (.cons (.k (.int 1)) (.cons (.k (.int 2)) (.cons (.k (.int 3)) .nil)))) (.cons (.tup (.cons (.v 3) .nil)) .nil)))) (.cons (.tup (.cons (.k (.bl true)) (.cons (.tup (.cons (.k (.int 1)) (.cons (.k (.int 2)) (.cons (.k (.int 3)) .nil)))) (.cons (.tup (.cons (.v 0) .nil)) .nil)))) (.cons (.tup (.cons (.k (.int 10)) (.cons (.bin .mul (.tup (.cons (.k (.int 1)) .nil)) (.k (.int 9))) (.cons (.tup (.cons (.bi .tup (.cons (.lsr false (.cons (.k (.int 9)) .nil)) .nil)) .nil)) .nil)))) .nil)))))) (.seq (.ret (.bin .add (.v 1) (.lst (.cons (.tup (.cons (.k (.int 10)) (.cons (.tup (.cons (.k (.int 1)) (.cons (.k (.int 2)) (.cons (.k (.int 3)) .nil)))) (.cons (.tup (.cons (.tup (.cons (.tup (.cons (.tup (.cons (.tup (.cons (.k (.int 0)) .nil)) (.cons (.k (.int 1)) .nil))) .nil)) (.cons (.k (.int 2)) .nil))) (.cons (.tup (.cons (.tup (.cons (.tup (.cons (.tup (.cons (.tup (.cons (.k (.int 0)) (.cons (.k (.int 1)) .nil))) .nil)) .nil)) .nil)) (.cons (.k (.int 2)) .nil))) .nil))) .nil)))) .nil)))) .nop)))))))))
def s_l_wishes_refused : S :=
  (.seq (.asg 3 (.new (.cons (.k .non) (.cons (.new .nil) (.cons (.new (.cons (.tup (.cons (.v 1) (.cons (.k (.str ⟨#[117, 112]⟩)) .nil))) .nil)) (.cons (.tup (.cons (.tup (.cons (.v 1) .nil)) .nil)) (.cons (.tup (.cons (.tup (.cons (.v 1) (.cons (.k (.str ⟨#[111, 110]⟩)) .nil))) .nil)) (.cons (.tup (.cons (.tup (.cons (.v 1) (.cons (.k (.str ⟨#[117, 112]⟩)) (.cons (.k (.int 1)) .nil)))) .nil)) (.cons (.bin .mul (.tup (.cons (.tup (.cons (.v 1) (.cons (.k (.str ⟨#[117, 112]⟩)) .nil))) .nil)) (.k (.int 2))) .nil))))))))) (.seq (.ex (.app (.v 3) (.tup (.cons (.lst (.cons (.v 1) (.cons (.k (.str ⟨#[117, 112]⟩)) .nil))) .nil)))) (.seq (.asg 4 (.lst (.cons (.tup (.cons (.k (.str ⟨#[103, 114, 111, 117, 112]⟩)) (.cons (.k (.int 0)) (.cons (.k (.int 0)) .nil)))) (.cons (.tup (.cons (.k (.str ⟨#[103, 114, 111, 117, 112]⟩)) (.cons (.k (.int 0)) (.cons (.k (.int 1)) .nil)))) (.cons (.tup (.cons (.k (.str ⟨#[103, 114, 111, 117, 112]⟩)) (.cons (.k (.int 1)) (.cons (.k (.int 0)) .nil)))) (.cons (.tup (.cons (.k (.str ⟨#[103, 114, 111, 117, 112]⟩)) (.cons (.k (.int 1)) (.cons (.k (.int 1)) .nil)))) (.cons (.tup (.cons (.k (.str ⟨#[105, 116, 101, 109]⟩)) (.cons (.k (.int 0)) .nil))) (.cons (.tup (.cons (.k (.str ⟨#[105, 116, 101, 109]⟩)) (.cons (.k (.int 1)) .nil))) (.cons (.tup (.cons (.k (.str ⟨#[105, 116, 101, 109]⟩)) (.cons (.k (.int 2)) .nil))) .nil))))))))) (.seq (.asg 5 (.bi .tup (.cons (.bi .srt (.cons (.bin .add (.lc false [9] (.tup (.cons (.v 9) (.cons (.k (.str ⟨#[117, 112]⟩)) .nil))) (.v 9) (.ov (.v 4)) .nil) (.lst (.cons (.tup (.cons (.v 1) (.cons (.k (.str ⟨#[100, 111, 119, 110]⟩)) .nil))) (.cons (.tup (.cons (.v 2) (.cons (.k (.str ⟨#[100, 111, 119, 110]⟩)) .nil))) .nil)))) .nil)) .nil))) (.seq (.for (.v 6) (.ov (.bin .add (.v 3) (.lst (.cons (.tup (.cons (.tup (.cons (.v 1) (.cons (.k (.str ⟨#[117, 112]⟩)) .nil))) (.cons (.tup (.cons (.v 2) (.cons (.k (.str ⟨#[117, 112]⟩)) .nil))) .nil))) (.cons (.tup (.cons (.tup (.cons (.v 1) (.cons (.k (.str ⟨#[117, 112]⟩)) .nil))) (.cons (.tup (.cons (.v 1) (.cons (.k (.str ⟨#[100, 111, 119, 110]⟩)) .nil))) .nil))) (.cons (.tup (.cons (.tup (.cons (.v 1) (.cons (.k .non) .nil))) .nil)) (.cons (.v 5) .nil))))))) (.seq (.ife (.isk false (.call f_are_wishes (.cons (.v 0) (.cons (.v 6) .nil))) (.bl false)) (.seq (.ret (.k (.bl false))) .nop) .nop) (.seq (.ife (.cmp .ne (.lc false [8] (.call f_l_ask_3 (.cons (.v 8) (.cons (.v 0) (.cons (.v 6) (.cons (.k .non) .nil))))) (.v 8) (.rng (.cons (.k (.int 6)) (.cons (.k (.int 18)) .nil))) .nil) (.bin .mul (.lst (.cons (.tup (.cons (.k (.str ⟨#[114, 101, 102, 117, 115, 101, 100]⟩)) (.cons (.k (.int 3)) .nil))) .nil)) (.k (.int 12)))) (.seq (.ret (.k (.bl false))) .nop) .nop) .nop))) (.seq (.ife (.isk false (.call f_are_wishes (.cons (.v 0) (.cons (.sl (.v 5) .nil (.cons (.k (.int 8)) .nil)) .nil))) (.bl true)) (.seq (.ret (.k (.bl false))) .nop) .nop) (.seq (.ife (.isk false (.call f_are_wishes (.cons (.v 0) (.cons (.tup (.cons (.tup (.cons (.v 2) (.cons (.k (.str ⟨#[117, 112]⟩)) .nil))) (.cons (.tup (.cons (.v 1) (.cons (.k (.str ⟨#[100, 111, 119, 110]⟩)) .nil))) (.cons (.tup (.cons (.v 1) (.cons (.k (.str ⟨#[117, 112]⟩)) .nil))) .nil)))) .nil))) (.bl true)) (.seq (.ret (.k (.bl false))) .nop) .nop) (.seq (.for (.v 6) (.ov (.lst (.cons (.k .non) (.cons (.tup .nil) (.cons (.tup (.cons (.k (.int 0)) (.cons (.k (.int 2)) .nil))) (.cons (.lst (.cons (.k (.int 0)) (.cons (.k (.int 2)) (.cons (.k (.int 3)) .nil)))) (.cons (.tup (.cons (.k (.int 0)) (.cons (.k (.int 2)) (.cons (.k (.int 4)) .nil)))) (.cons (.tup (.cons (.k (.int 2)) (.cons (.k (.int 2)) (.cons (.k (.int 3)) .nil)))) (.cons (.tup (.cons (.k (.int 0)) (.cons (.k (.int 2)) (.cons (.k (.bl true)) .nil)))) (.cons (.tup (.cons (.k (.int 0)) (.cons (.k (.str ⟨#[50]⟩)) (.cons (.k (.int 3)) .nil)))) (.cons (.tup (.cons (.k (.int 0)) (.cons (.k (.int 1)) (.cons (.k (.int 3)) .nil)))) (.cons (.tup (.cons (.k (.int 0)) (.cons (.k (.int 2)) (.cons (.k (.int 3)) (.cons (.k (.int 0)) .nil))))) .nil)))))))))))) (.seq (.ife (.cmp .ne (.lc false [8] (.call f_l_ask_3 (.cons (.v 8) (.cons (.v 0) (.cons (.tup .nil) (.cons (.v 6) .nil))))) (.v 8) (.ov (.tup (.cons (.k (.int 13)) (.cons (.k (.int 14)) (.cons (.k (.int 15)) .nil))))) .nil) (.bin .mul (.lst (.cons (.tup (.cons (.k (.str ⟨#[114, 101, 102, 117, 115, 101, 100]⟩)) (.cons (.k (.int 4)) .nil))) .nil)) (.k (.int 3)))) (.seq (.ret (.k (.bl false))) .nop) .nop) .nop)) (.seq (.asg 7 (.tup (.cons (.k (.int 2)) (.cons (.tup (.cons (.k (.int 1)) (.cons (.k (.int 1)) (.cons (.k (.int 1)) .nil)))) (.cons (.bin .mul (.tup (.cons (.tup (.cons (.k (.int 0)) (.cons (.k (.int 1)) (.cons (.k (.int 2)) .nil)))) .nil)) (.k (.int 3))) .nil))))) (.seq (.ife (.cmp .ne (.lc false [8] (.call f_l_ask_3 (.cons (.v 8) (.cons (.v 7) (.cons (.k .non) (.cons (.k .non) .nil))))) (.v 8) (.ov (.tup (.cons (.k (.int 16)) (.cons (.k (.int 17)) .nil)))) .nil) (.bin .mul (.lst (.cons (.tup (.cons (.k (.str ⟨#[114, 101, 102, 117, 115, 101, 100]⟩)) (.cons (.k (.int 5)) .nil))) .nil)) (.k (.int 2)))) (.seq (.ret (.k (.bl false))) .nop) .nop) (.seq (.ret (.and (.cons (.cmp .eq (.lc false [8] (.call f_l_ask_3 (.cons (.v 8) (.cons (.v 0) (.cons (.tup .nil) (.cons (.k .non) .nil))))) (.v 8) (.ov (.tup (.cons (.k (.int 10)) (.cons (.k (.int 16)) .nil)))) .nil) (.bin .mul (.lst (.cons (.tup (.cons (.k (.str ⟨#[114, 101, 102, 117, 115, 101, 100]⟩)) (.cons (.k (.int 6)) .nil))) .nil)) (.k (.int 2)))) (.cons (.isk true (.call f_is_bill (.cons (.v 7) .nil)) (.bl true)) .nil)))) .nop)))))))))))
def s_law_k09 : S :=
  (.seq (.asg 1 (.new .nil)) (.seq (.asg 2 (.tup (.cons (.k (.int 10)) (.cons (.tup (.cons (.k (.int 1)) (.cons (.k (.int 25)) (.cons (.k (.int 30)) .nil)))) (.cons (.tup (.cons (.tup (.cons (.tup (.cons (.k (.int 0)) (.cons (.k (.int 1)) .nil))) (.cons (.k (.int 2)) .nil))) (.cons (.tup (.cons (.k (.int 0)) (.cons (.tup (.cons (.k (.int 1)) (.cons (.k (.int 2)) .nil))) .nil))) .nil))) .nil))))) (.seq (.asg 3 (.call f_l_pick (.cons (.v 0) (.cons (.v 1) (.cons (.call f_l_no_bills .nil) .nil))))) (.seq (.ife (.or (.cons (.isk false (.call f_is_bill (.cons (.v 2) .nil)) (.bl true)) (.cons (.isk false (.call f_is_bill (.cons (.v 3) .nil)) (.bl false)) (.cons (.isk false (.call f_is_bill (.cons (.tup (.cons (.k (.int 2)) (.cons (.tup (.cons (.k (.int 0)) .nil)) (.cons (.tup (.cons (.tup (.cons (.tup (.cons (.tup (.cons (.k (.int 0)) .nil)) .nil)) .nil)) .nil)) .nil)))) .nil)) (.bl true)) .nil)))) (.seq (.ret (.k (.bl false))) .nop) .nop) (.seq (.ife (.cmp .ne (.lc false [8] (.call f_l_ask_3 (.cons (.v 8) (.cons (.v 3) (.cons (.k .non) (.cons (.k .non) .nil))))) (.v 8) (.rng (.cons (.k (.int 20)) .nil)) .nil) (.bin .mul (.lst (.cons (.tup (.cons (.k (.str ⟨#[114, 101, 102, 117, 115, 101, 100]⟩)) (.cons (.k (.int 0)) .nil))) .nil)) (.k (.int 20)))) (.seq (.ret (.k (.bl false))) .nop) .nop) (.seq (.for (.v 4) (.ov (.lst (.cons (.k .non) (.cons (.k (.int (-1))) (.cons (.k (.int 2)) (.cons (.k (.str ⟨#[48]⟩)) (.cons (.k (.bl true)) .nil))))))) (.seq (.ife (.cmp .ne (.call f_l_ask_3 (.cons (.k (.int 3)) (.cons (.v 2) (.cons (.v 4) (.cons (.k .non) .nil))))) (.tup (.cons (.k (.str ⟨#[114, 101, 102, 117, 115, 101, 100]⟩)) (.cons (.k (.int 1)) .nil)))) (.seq (.ret (.k (.bl false))) .nop) .nop) .nop)) (.seq (.par2 5 6 (.tup (.cons (.k (.str ⟨#[105, 116, 101, 109]⟩)) (.cons (.k (.int 0)) .nil))) (.tup (.cons (.k (.str ⟨#[103, 114, 111, 117, 112]⟩)) (.cons (.k (.int 0)) (.cons (.k (.int 0)) .nil))))) (.seq (.asg 7 (.new (.cons (.k .non) (.cons (.tup .nil) (.cons (.k (.str ⟨#[105, 116, 101, 109]⟩)) (.cons (.tup (.cons (.k (.str ⟨#[105, 116, 101, 109]⟩)) .nil)) (.cons (.tup (.cons (.k (.str ⟨#[105, 116, 101, 109]⟩)) (.cons (.k (.int 3)) .nil))) (.cons (.tup (.cons (.k (.str ⟨#[105, 116, 101, 109]⟩)) (.cons (.k (.int (-1))) .nil))) (.cons (.tup (.cons (.k (.str ⟨#[105, 116, 101, 109]⟩)) (.cons (.k (.bl true)) .nil))) (.cons (.tup (.cons (.k (.str ⟨#[103, 114, 111, 117, 112]⟩)) (.cons (.k (.int 0)) .nil))) (.cons (.tup (.cons (.k (.str ⟨#[103, 114, 111, 117, 112]⟩)) (.cons (.k (.int 0)) (.cons (.k (.int 2)) .nil)))) .nil))))))))))) (.seq (.ex (.app (.v 7) (.tup (.cons (.k (.str ⟨#[103, 114, 111, 117, 112]⟩)) (.cons (.k (.int 2)) (.cons (.k (.int 0)) .nil)))))) (.seq (.for (.v 4) (.ov (.bin .add (.v 7) (.lst (.cons (.lst (.cons (.k (.str ⟨#[105, 116, 101, 109]⟩)) (.cons (.k (.int 0)) .nil))) (.cons (.tup (.cons (.k (.str ⟨#[105, 116, 101, 109]⟩)) (.cons (.k (.int 0)) (.cons (.k (.int 0)) .nil)))) (.cons (.tup (.cons (.k (.str ⟨#[103, 114, 111, 117, 112]⟩)) (.cons (.k (.int 0)) (.cons (.k (.int (-1))) .nil)))) (.cons (.tup (.cons (.k (.str ⟨#[108, 111, 116]⟩)) (.cons (.k (.int 0)) .nil))) (.cons (.tup (.cons (.k (.str ⟨#[105, 116, 101, 109]⟩)) (.cons (.k (.str ⟨#[48]⟩)) .nil))) .nil)))))))) (.seq (.ife (.cmp .ne (.lc false [8] (.call f_l_ask_3 (.cons (.v 8) (.cons (.v 2) (.cons (.v 4) (.cons (.k .non) .nil))))) (.v 8) (.ov (.tup (.cons (.k (.int 4)) (.cons (.k (.int 5)) .nil)))) .nil) (.bin .mul (.lst (.cons (.tup (.cons (.k (.str ⟨#[114, 101, 102, 117, 115, 101, 100]⟩)) (.cons (.k (.int 2)) .nil))) .nil)) (.k (.int 2)))) (.seq (.ret (.k (.bl false))) .nop) .nop) (.seq (.ife (.or (.cons (.cmp .ne (.call f_l_ask_3 (.cons (.k (.int 12)) (.cons (.v 2) (.cons (.tup .nil) (.cons (.v 4) .nil))))) (.tup (.cons (.k (.str ⟨#[114, 101, 102, 117, 115, 101, 100]⟩)) (.cons (.k (.int 2)) .nil)))) (.cons (.isk false (.call f_are_wishes (.cons (.v 2) (.cons (.tup (.cons (.tup (.cons (.v 4) (.cons (.k (.str ⟨#[117, 112]⟩)) .nil))) .nil)) .nil))) (.bl false)) .nil))) (.seq (.ret (.k (.bl false))) .nop) .nop) .nop))) (.seq (.ret (.call f_l_wishes_refused (.cons (.v 2) (.cons (.v 5) (.cons (.v 6) .nil))))) .nop)))))))))))
def s_group_at : S :=
  (.seq (.ife (.or (.cons (.cmp .ne (.sl (.v 0) .nil (.cons (.k (.int 1)) .nil)) (.lst (.cons (.k (.str ⟨#[40]⟩)) .nil))) (.cons (.cmp .eq (.v 1) (.k (.int 0))) .nil))) (.seq (.ret (.k .non)) .nop) .nop) (.seq (.par2 0 2 (.sl (.v 0) (.cons (.k (.int 1)) .nil) .nil) (.new .nil)) (.seq (.whl 1000 (.and (.cons (.cmp .ne (.v 0) (.lst .nil)) (.cons (.cmp .ne (.ix (.v 0) (.k (.int 0))) (.k (.str ⟨#[41]⟩))) .nil))) (.seq (.asg 3 (.ife (.cmp .eq (.ix (.v 0) (.k (.int 0))) (.k (.str ⟨#[40]⟩))) (.call f_group_at (.cons (.v 0) (.cons (.bin .sub (.v 1) (.k (.int 1))) .nil))) (.tup (.cons (.call f_number_in (.cons (.ix (.v 0) (.k (.int 0))) .nil)) (.cons (.sl (.v 0) (.cons (.k (.int 1)) .nil) .nil) .nil))))) (.seq (.ife (.isk true (.v 3) .non) (.seq (.ret (.k .non)) .nop) .nop) (.seq (.ex (.app (.v 2) (.ix (.v 3) (.k (.int 0))))) (.seq (.asg 0 (.ix (.v 3) (.k (.int 1)))) .nop))))) (.seq (.ret (.ife (.cmp .ne (.v 0) (.lst .nil)) (.tup (.cons (.bi .tup (.cons (.v 2) .nil)) (.cons (.sl (.v 0) (.cons (.k (.int 1)) .nil) .nil) .nil))) (.k .non))) .nop))))
def s_nesting_in : S :=
  (.seq (.asg 1 (.ife (.cmp .eq (.ix (.v 0) (.k (.int 0))) (.k (.str ⟨#[110, 101, 115, 116]⟩))) (.call f_group_at (.cons (.sl (.v 0) (.cons (.k (.int 1)) .nil) .nil) (.cons (.k (.int 4)) .nil))) (.k .non))) (.seq (.ret (.ife (.and (.cons (.isk false (.v 1) .non) (.cons (.cmp .eq (.ix (.v 1) (.k (.int 1))) (.lst .nil)) .nil))) (.ix (.v 1) (.k (.int 0))) (.k .non))) .nop))
def s_read_bill : S :=
  (.seq (.asg 1 (.ife (.isi (.v 0) .str) (.lc false [4] (.splt (.v 4) (.k (.str ⟨#[32]⟩))) (.v 4) (.ov (.splt (.v 0) (.k (.str ⟨#[10]⟩)))) .nil) (.lst .nil))) (.seq (.ife (.or (.cons (.cmp .lt (.bi .len (.cons (.v 1) .nil)) (.k (.int 3))) (.cons (.cmp .ne (.bi .len (.cons (.ix (.v 1) (.k (.int 0))) .nil)) (.k (.int 2))) (.cons (.cmp .ne (.ix (.ix (.v 1) (.k (.int 0))) (.k (.int 0))) (.k (.str ⟨#[112, 97, 114, 116, 115]⟩))) (.cons (.cmp .ne (.ix (.ix (.v 1) (.k (.int 1))) (.k (.int 0))) (.k (.str ⟨#[97, 109, 111, 117, 110, 116, 115]⟩))) .nil))))) (.seq (.rse 8 ⟨#[110, 111, 32, 98, 105, 108, 108, 32, 105, 115, 32, 119, 114, 105, 116, 116, 101, 110, 32, 115, 111]⟩) .nop) .nop) (.seq (.asg 2 (.bi .tup (.cons (.lc false [5] (.call f_number_in (.cons (.v 5) .nil)) (.v 5) (.ov (.sl (.ix (.v 1) (.k (.int 1))) (.cons (.k (.int 1)) .nil) .nil)) .nil) .nil))) (.seq (.asg 3 (.tup (.cons (.call f_number_in (.cons (.ix (.ix (.v 1) (.k (.int 0))) (.k (.int 1))) .nil)) (.cons (.v 2) (.cons (.bi .tup (.cons (.lc false [4] (.call f_nesting_in (.cons (.v 4) .nil)) (.v 4) (.ov (.sl (.v 1) (.cons (.k (.int 2)) .nil) .nil)) .nil) .nil)) .nil))))) (.seq (.ife (.not (.call f_good_bill (.cons (.v 3) .nil))) (.seq (.rse 8 ⟨#[110, 111, 32, 98, 105, 108, 108, 32, 105, 115, 32, 119, 114, 105, 116, 116, 101, 110, 32, 115, 111]⟩) .nop) .nop) (.seq (.ret (.v 3)) .nop))))))
def s_l_ask_4 : S :=
  (.seq (.tryw (.seq (.ret (.ife (.cmp .eq (.v 0) (.k (.int 0))) (.call f_read_bill (.cons (.v 2) .nil)) (.call f_read_wishes (.cons (.v 1) (.cons (.v 2) .nil))))) .nop) 0 3 f_l_which) .nop)
def s_l_words : S :=
  (.seq (.asg 1 (.new (.cons (.k (.str ⟨#[40]⟩)) .nil))) (.seq (.for (.v 2) (.ov (.v 0)) (.seq (.ex (.ext (.v 1) (.ife (.isi (.v 2) .tup) (.call f_l_words (.cons (.v 2) .nil)) (.lst (.cons (.bi .str (.cons (.v 2) .nil)) .nil))))) .nop)) (.seq (.ret (.bin .add (.v 1) (.lst (.cons (.k (.str ⟨#[41]⟩)) .nil)))) .nop)))
def s_l_bill_text : S :=
  (.seq (.asg 1 (.new (.cons (.bin .add (.k (.str ⟨#[112, 97, 114, 116, 115, 32]⟩)) (.bi .str (.cons (.ix (.v 0) (.k (.int 0))) .nil))) (.cons (.bin .add (.k (.str ⟨#[97, 109, 111, 117, 110, 116, 115, 32]⟩)) (.join (.k (.str ⟨#[32]⟩)) (.lc false [3] (.bi .str (.cons (.v 3) .nil)) (.v 3) (.ov (.ix (.v 0) (.k (.int 1)))) .nil))) .nil)))) (.seq (.for (.v 2) (.ov (.ix (.v 0) (.k (.int 2)))) (.seq (.ex (.app (.v 1) (.bin .add (.k (.str ⟨#[110, 101, 115, 116, 32]⟩)) (.join (.k (.str ⟨#[32]⟩)) (.call f_l_words (.cons (.v 2) .nil)))))) .nop)) (.seq (.ret (.join (.k (.str ⟨#[10]⟩)) (.v 1))) .nop)))
def s_l_wishes_text : S :=
  (.seq (.asg 1 (.new .nil)) (.seq (.for (.t (.cons (.v 2) (.cons (.v 3) .nil))) (.ov (.v 0)) (.seq (.ex (.app (.v 1) (.bin .add (.bin .add (.join (.k (.str ⟨#[32]⟩)) (.lc false [4] (.bi .str (.cons (.v 4) .nil)) (.v 4) (.ov (.v 2)) .nil)) (.k (.str ⟨#[32]⟩))) (.v 3)))) .nop)) (.seq (.ret (.ife (.cmp .ne (.v 1) (.lst .nil)) (.join (.k (.str ⟨#[10]⟩)) (.v 1)) (.k (.str ⟨#[110, 111, 110, 101]⟩)))) .nop)))
def s_l_number : S :=
  (.seq (.ife (.or (.cons (.cmp .eq (.v 0) (.k (.str ⟨#[]⟩))) (.cons (.cmp .gt (.bi .len (.cons (.v 0) .nil)) (.k (.int 3))) (.cons (.cmp .ne (.lc false [1] (.v 1) (.v 1) (.ov (.v 0)) (.cons (.cmp .notin (.v 1) (.k (.str ⟨#[48, 49, 50, 51, 52, 53, 54, 55, 56, 57]⟩))) .nil)) (.lst .nil)) .nil)))) (.seq (.ret (.k .non)) .nop) .nop) (.seq (.ret (.ife (.cmp .eq (.bi .str (.cons (.bi .int (.cons (.v 0) .nil)) .nil)) (.v 0)) (.bi .int (.cons (.v 0) .nil)) (.k .non))) .nop))
def s_l_tree : S :=
  (.seq (.asg 1 (.new (.cons (.new .nil) .nil))) (.seq (.for (.t (.cons (.v 2) (.cons (.v 3) .nil))) (.enm (.v 0)) (.seq (.ife (.cmp .eq (.v 3) (.k (.str ⟨#[40]⟩))) (.seq (.ex (.app (.v 1) (.new .nil))) .nop) (.seq (.ife (.and (.cons (.cmp .eq (.v 3) (.k (.str ⟨#[41]⟩))) (.cons (.cmp .gt (.bi .len (.cons (.v 1) .nil)) (.k (.int 1))) .nil))) (.seq (.asg 4 (.bi .tup (.cons (.pop0 (.v 1)) .nil))) (.seq (.ex (.app (.ix (.v 1) (.k (.int (-1)))) (.v 4))) (.seq (.ife (.and (.cons (.cmp .eq (.bi .len (.cons (.v 1) .nil)) (.k (.int 1))) (.cons (.cmp .lt (.v 2) (.bin .sub (.bi .len (.cons (.v 0) .nil)) (.k (.int 1)))) .nil))) (.seq (.ret (.k .non)) .nop) .nop) .nop))) (.seq (.ex (.app (.ix (.v 1) (.k (.int (-1)))) (.call f_l_number (.cons (.v 3) .nil)))) .nop)) .nop)) .nop)) (.seq (.ret (.ife (.and (.cons (.cmp .eq (.bi .len (.cons (.v 1) .nil)) (.k (.int 1))) (.cons (.cmp .eq (.bi .len (.cons (.ix (.v 1) (.k (.int 0))) .nil)) (.k (.int 1))) .nil))) (.ix (.ix (.v 1) (.k (.int 0))) (.k (.int 0))) (.k .non))) .nop)))
def s_l_parse : S :=
  (.seq (.asg 2 (.lc false [4] (.splt (.v 4) (.k (.str ⟨#[32]⟩))) (.v 4) (.ov (.splt (.v 1) (.k (.str ⟨#[10]⟩)))) .nil)) (.seq (.ife (.cmp .eq (.v 0) (.k (.int 1))) (.seq (.ife (.cmp .eq (.v 1) (.k (.str ⟨#[110, 111, 110, 101]⟩))) (.seq (.ret (.tup .nil)) .nop) .nop) (.seq (.ret (.bi .tup (.cons (.lc false [4] (.tup (.cons (.bi .tup (.cons (.bin .add (.sl (.v 4) .nil (.cons (.k (.int 1)) .nil)) (.lc false [5] (.call f_l_number (.cons (.v 5) .nil)) (.v 5) (.ov (.sl (.v 4) (.cons (.k (.int 1)) .nil) (.cons (.k (.int (-1))) .nil))) .nil)) .nil)) (.cons (.ix (.v 4) (.k (.int (-1)))) .nil))) (.v 4) (.ov (.v 2)) .nil) .nil))) .nop)) .nop) (.seq (.ife (.or (.cons (.cmp .lt (.bi .len (.cons (.v 2) .nil)) (.k (.int 3))) (.cons (.cmp .ne (.bi .len (.cons (.ix (.v 2) (.k (.int 0))) .nil)) (.k (.int 2))) (.cons (.cmp .ne (.lc false [4] (.ix (.v 4) (.k (.int 0))) (.v 4) (.ov (.sl (.v 2) .nil (.cons (.k (.int 2)) .nil))) .nil) (.lst (.cons (.k (.str ⟨#[112, 97, 114, 116, 115]⟩)) (.cons (.k (.str ⟨#[97, 109, 111, 117, 110, 116, 115]⟩)) .nil)))) .nil)))) (.seq (.ret (.k .non)) .nop) .nop) (.seq (.asg 3 (.lc false [4] (.ife (.cmp .eq (.ix (.v 4) (.k (.int 0))) (.k (.str ⟨#[110, 101, 115, 116]⟩))) (.call f_l_tree (.cons (.sl (.v 4) (.cons (.k (.int 1)) .nil) .nil) .nil)) (.k .non)) (.v 4) (.ov (.sl (.v 2) (.cons (.k (.int 2)) .nil) .nil)) .nil)) (.seq (.ret (.tup (.cons (.call f_l_number (.cons (.ix (.ix (.v 2) (.k (.int 0))) (.k (.int 1))) .nil)) (.cons (.bi .tup (.cons (.lc false [5] (.call f_l_number (.cons (.v 5) .nil)) (.v 5) (.ov (.sl (.ix (.v 2) (.k (.int 1))) (.cons (.k (.int 1)) .nil) .nil)) .nil) .nil)) (.cons (.bi .tup (.cons (.v 3) .nil)) .nil))))) .nop)))))
def s_law_k10 : S :=
  (.seq (.asg 1 (.new .nil)) (.seq (.asg 2 (.call f_l_some_bill (.cons (.v 0) (.cons (.v 1) (.cons (.bin .add (.k (.int 1)) (.call f_l_draw (.cons (.v 0) (.cons (.v 1) (.cons (.k (.int 3)) .nil))))) (.cons (.k (.int 6)) .nil)))))) (.seq (.asg 3 (.call f_l_some_wishes (.cons (.v 0) (.cons (.v 1) (.cons (.v 2) (.cons (.k (.int 4)) .nil)))))) (.seq (.asg 4 (.lst (.cons (.call f_l_bill_text (.cons (.v 2) .nil)) (.cons (.call f_l_wishes_text (.cons (.v 3) .nil)) .nil)))) (.seq (.ife (.or (.cons (.cmp .ne (.call f_bill_text (.cons (.v 2) .nil)) (.ix (.v 4) (.k (.int 0)))) (.cons (.cmp .ne (.call f_wishes_text (.cons (.v 2) (.cons (.v 3) .nil))) (.ix (.v 4) (.k (.int 1)))) .nil))) (.seq (.ret (.k (.bl false))) .nop) .nop) (.seq (.ife (.cmp .ne (.lc false [6] (.call f_l_ask_4 (.cons (.v 6) (.cons (.v 2) (.cons (.ix (.v 4) (.v 6)) .nil)))) (.v 6) (.rng (.cons (.k (.int 2)) .nil)) .nil) (.lst (.cons (.v 2) (.cons (.v 3) .nil)))) (.seq (.ret (.k (.bl false))) .nop) .nop) (.seq (.for (.v 5) (.rng (.cons (.k (.int 5)) .nil)) (.seq (.for (.t (.cons (.v 6) (.cons (.v 7) .nil))) (.enm (.v 4)) (.seq (.asg 8 (.call f_l_draw (.cons (.v 0) (.cons (.v 1) (.cons (.bin .add (.bi .len (.cons (.v 7) .nil)) (.k (.int 1))) .nil))))) (.seq (.asg 9 (.call f_l_pick (.cons (.v 0) (.cons (.v 1) (.cons (.lst (.cons (.k (.str ⟨#[]⟩)) (.cons (.k (.str ⟨#[32]⟩)) (.cons (.k (.str ⟨#[48]⟩)) (.cons (.k (.str ⟨#[49]⟩)) (.cons (.k (.str ⟨#[57]⟩)) (.cons (.k (.str ⟨#[40, 32]⟩)) (.cons (.k (.str ⟨#[41, 32]⟩)) (.cons (.k (.str ⟨#[10]⟩)) (.cons (.k (.str ⟨#[97]⟩)) (.cons (.k (.str ⟨#[117, 112]⟩)) (.cons (.k (.str ⟨#[110, 101, 115, 116]⟩)) .nil)))))))))))) .nil))))) (.seq (.asg 10 (.bin .add (.bin .add (.sl (.v 7) .nil (.cons (.v 8) .nil)) (.v 9)) (.sl (.v 7) (.cons (.bin .add (.v 8) (.call f_l_draw (.cons (.v 0) (.cons (.v 1) (.cons (.k (.int 3)) .nil))))) .nil) .nil))) (.seq (.asg 11 (.call f_l_parse (.cons (.v 6) (.cons (.v 10) .nil)))) (.seq (.asg 12 (.ife (.cmp .eq (.v 6) (.k (.int 0))) (.call f_is_bill (.cons (.v 11) .nil)) (.call f_are_wishes (.cons (.v 2) (.cons (.v 11) .nil))))) (.seq (.ife (.cmp .ne (.call f_l_ask_4 (.cons (.v 6) (.cons (.v 2) (.cons (.v 10) .nil)))) (.ife (.v 12) (.v 11) (.tup (.cons (.k (.str ⟨#[114, 101, 102, 117, 115, 101, 100]⟩)) (.cons (.k (.int 7)) .nil))))) (.seq (.ret (.k (.bl false))) .nop) .nop) .nop))))))) .nop)) (.seq (.for (.v 13) (.ov (.lst (.cons (.k .non) (.cons (.k (.int 5)) (.cons (.k (.str ⟨#[]⟩)) (.cons (.lst (.cons (.ix (.v 4) (.k (.int 0))) .nil)) (.cons (.bin .add (.ix (.v 4) (.k (.int 0))) (.k (.str ⟨#[10]⟩))) (.cons (.bin .add (.k (.str ⟨#[32]⟩)) (.ix (.v 4) (.k (.int 1)))) (.cons (.bin .add (.ix (.v 4) (.k (.int 1))) (.k (.str ⟨#[32]⟩))) .nil))))))))) (.seq (.ife (.cmp .ne (.lc false [6] (.call f_l_ask_4 (.cons (.v 6) (.cons (.v 2) (.cons (.v 13) .nil)))) (.v 6) (.rng (.cons (.k (.int 2)) .nil)) .nil) (.bin .mul (.lst (.cons (.tup (.cons (.k (.str ⟨#[114, 101, 102, 117, 115, 101, 100]⟩)) (.cons (.k (.int 7)) .nil))) .nil)) (.k (.int 2)))) (.seq (.ret (.k (.bl false))) .nop) .nop) .nop)) (.seq (.ret (.k (.bl true))) .nop)))))))))
def s_Books_drop_2 : S :=
  (.seq (.asgp (.t (.cons (.v 2) (.cons (.v 3) .nil))) (.fld (.v 0) ⟨#[104, 111, 119]⟩)) (.seq (.ex (.call f_need_spot (.cons (.v 2) (.cons (.v 1) .nil)))) (.seq (.asg 4 (.mth f_Books_at_spot (.v 0) (.cons (.v 1) .nil))) (.seq (.ife (.cmp .eq (.v 4) (.lst .nil)) (.seq (.rse 9 ⟨#[110, 111, 32, 119, 105, 115, 104, 32, 116, 104, 101, 114, 101]⟩) .nop) .nop) (.seq (.ex (.mth f_Books_call (.v 0) (.cons (.k (.str ⟨#[100, 114, 111, 112]⟩)) (.cons (.tup (.cons (.v 2) (.cons (.bi .tup (.cons (.lc false [5] (.v 5) (.v 5) (.ov (.v 3)) (.cons (.cmp .ne (.ix (.v 5) (.k (.int 0))) (.v 1)) .nil)) .nil)) .nil))) .nil)))) (.seq (.ret (.ix (.ix (.v 4) (.k (.int 0))) (.k (.int 1)))) .nop))))))
def s_Books_change_2 : S :=
  (.seq (.asgp (.t (.cons (.v 3) (.cons (.v 4) .nil))) (.fld (.v 0) ⟨#[104, 111, 119]⟩)) (.seq (.ife (.not (.call f_is_whole (.cons (.v 1) (.cons (.k (.int 0)) (.cons (.bin .sub (.bi .len (.cons (.ix (.v 3) (.k (.int 1))) .nil)) (.k (.int 1))) .nil))))) (.seq (.rse 3 ⟨#[110, 111, 32, 105, 116, 101, 109, 32, 111, 102, 32, 105, 116]⟩) .nop) .nop) (.seq (.ife (.not (.call f_is_whole (.cons (.v 2) (.cons (.k (.int 0)) (.cons (.gl 0 (.int 999)) .nil))))) (.seq (.rse 10 ⟨#[110, 111, 32, 97, 109, 111, 117, 110, 116]⟩) .nop) .nop) (.seq (.asg 5 (.bin .add (.bin .add (.sl (.ix (.v 3) (.k (.int 1))) .nil (.cons (.v 1) .nil)) (.tup (.cons (.v 2) .nil))) (.sl (.ix (.v 3) (.k (.int 1))) (.cons (.bin .add (.v 1) (.k (.int 1))) .nil) .nil))) (.seq (.ex (.mth f_Books_call (.v 0) (.cons (.k (.str ⟨#[99, 104, 97, 110, 103, 101]⟩)) (.cons (.tup (.cons (.tup (.cons (.ix (.v 3) (.k (.int 0))) (.cons (.v 5) (.cons (.ix (.v 3) (.k (.int 2))) .nil)))) (.cons (.v 4) .nil))) .nil)))) .nop)))))
def s_Books_twin_2 : S :=
  (.seq (.ex (.call f__wall (.cons (.k (.int 0)) .nil))) .nop)
def s_l_call : S :=
  (.seq (.tryw (.seq (.ife (.cmp .eq (.ix (.v 1) (.k (.int 0))) (.k (.str ⟨#[119, 105, 115, 104]⟩))) (.seq (.ret (.mth f_Books_wish (.v 0) (.cons (.ix (.v 1) (.k (.int 1))) (.cons (.ix (.v 1) (.k (.int 2))) .nil)))) .nop) .nop) (.seq (.ret (.ife (.cmp .eq (.ix (.v 1) (.k (.int 0))) (.k (.str ⟨#[100, 114, 111, 112]⟩))) (.mth f_Books_drop_2 (.v 0) (.cons (.ix (.v 1) (.k (.int 1))) .nil)) (.mth f_Books_change_2 (.v 0) (.cons (.ix (.v 1) (.k (.int 1))) (.cons (.ix (.v 1) (.k (.int 2))) .nil))))) .nop)) 0 2 f_l_which) .nop)
def s_law_k11 : S :=
  (.seq (.asg 1 (.new .nil)) (.seq (.par2 2 3 (.call f_l_some_bill (.cons (.v 0) (.cons (.v 1) (.cons (.bin .add (.k (.int 1)) (.call f_l_draw (.cons (.v 0) (.cons (.v 1) (.cons (.k (.int 3)) .nil))))) (.cons (.k (.int 5)) .nil))))) (.tup .nil)) (.seq (.par2 4 5 (.mk 13 f_Books_init (.cons (.v 2) .nil)) (.lc false [7, 19] (.v 7) (.t (.cons (.v 7) (.cons (.v 19) .nil))) (.ov (.call f_l_lots (.cons (.v 2) .nil))) .nil)) (.seq (.for (.v 6) (.rng (.cons (.k (.int 12)) .nil)) (.seq (.par2 7 8 (.call f_l_pick (.cons (.v 0) (.cons (.v 1) (.cons (.v 5) .nil)))) (.call f_l_draw (.cons (.v 0) (.cons (.v 1) (.cons (.bi .len (.cons (.ix (.v 2) (.k (.int 1))) .nil)) .nil))))) (.seq (.par2 9 10 (.call f_l_pick (.cons (.v 0) (.cons (.v 1) (.cons (.lst (.cons (.k (.str ⟨#[117, 112]⟩)) (.cons (.k (.str ⟨#[100, 111, 119, 110]⟩)) .nil))) .nil)))) (.call f_l_draw (.cons (.v 0) (.cons (.v 1) (.cons (.k (.int 40)) .nil))))) (.seq (.asg 11 (.lst (.cons (.tup (.cons (.k (.str ⟨#[119, 105, 115, 104]⟩)) (.cons (.v 7) (.cons (.v 9) .nil)))) (.cons (.tup (.cons (.k (.str ⟨#[119, 105, 115, 104]⟩)) (.cons (.v 7) (.cons (.v 9) .nil)))) (.cons (.tup (.cons (.k (.str ⟨#[100, 114, 111, 112]⟩)) (.cons (.v 7) .nil))) (.cons (.tup (.cons (.k (.str ⟨#[99, 104, 97, 110, 103, 101]⟩)) (.cons (.v 8) (.cons (.v 10) .nil)))) .nil)))))) (.seq (.asg 12 (.call f_l_pick (.cons (.v 0) (.cons (.v 1) (.cons (.v 11) .nil))))) (.seq (.par2 13 14 (.call f_l_call (.cons (.v 4) (.cons (.v 12) .nil))) (.lc false [20] (.v 20) (.v 20) (.ov (.v 3)) (.cons (.cmp .eq (.ix (.v 20) (.k (.int 0))) (.v 7)) .nil))) (.seq (.ife (.cmp .eq (.ix (.v 12) (.k (.int 0))) (.k (.str ⟨#[99, 104, 97, 110, 103, 101]⟩))) (.seq (.asg 2 (.tup (.cons (.ix (.v 2) (.k (.int 0))) (.cons (.bin .add (.bin .add (.sl (.ix (.v 2) (.k (.int 1))) .nil (.cons (.v 8) .nil)) (.tup (.cons (.v 10) .nil))) (.sl (.ix (.v 2) (.k (.int 1))) (.cons (.bin .add (.v 8) (.k (.int 1))) .nil) .nil)) (.cons (.ix (.v 2) (.k (.int 2))) .nil))))) (.seq (.asg 15 (.k .non)) .nop)) (.seq (.ife (.cmp .eq (.ix (.v 12) (.k (.int 0))) (.k (.str ⟨#[119, 105, 115, 104]⟩))) (.seq (.asg 15 (.ife (.or (.cons (.cmp .ne (.v 14) (.lst .nil)) (.cons (.cmp .eq (.bi .len (.cons (.v 3) .nil)) (.k (.int 8))) .nil))) (.tup (.cons (.k (.str ⟨#[114, 101, 102, 117, 115, 101, 100]⟩)) (.cons (.k (.int 8)) .nil))) (.k .non))) (.seq (.asg 3 (.ife (.isk false (.v 15) .non) (.v 3) (.bi .tup (.cons (.bi .srt (.cons (.bin .add (.v 3) (.tup (.cons (.tup (.cons (.v 7) (.cons (.v 9) .nil))) .nil))) .nil)) .nil)))) .nop)) (.seq (.asg 15 (.ife (.cmp .ne (.v 14) (.lst .nil)) (.ix (.ix (.v 14) (.k (.int 0))) (.k (.int 1))) (.tup (.cons (.k (.str ⟨#[114, 101, 102, 117, 115, 101, 100]⟩)) (.cons (.k (.int 8)) .nil))))) (.seq (.asg 3 (.bi .tup (.cons (.lc false [20] (.v 20) (.v 20) (.ov (.v 3)) (.cons (.cmp .ne (.ix (.v 20) (.k (.int 0))) (.v 7)) .nil)) .nil))) .nop))) .nop)) (.seq (.ife (.or (.cons (.cmp .ne (.v 13) (.v 15)) (.cons (.cmp .ne (.mth f_Books_bill (.v 4) .nil) (.v 2)) (.cons (.cmp .ne (.mth f_Books_wishes (.v 4) .nil) (.v 3)) (.cons (.cmp .ne (.dun 0 f_Books_len (.cons (.v 4) .nil)) (.bi .len (.cons (.v 3) .nil))) .nil))))) (.seq (.ret (.k (.bl false))) .nop) .nop) (.seq (.asg 16 (.call f_l_kept (.cons (.v 2) (.cons (.v 3) .nil)))) (.seq (.asg 17 (.ife (.cmp .ne (.v 16) (.lst .nil)) (.ix (.v 16) (.k (.int 0))) (.k .non))) (.seq (.asg 18 (.ife (.isk false (.v 17) .non) (.join (.k (.str ⟨#[32]⟩)) (.lc false [21] (.bi .str (.cons (.v 21) .nil)) (.v 21) (.ov (.v 17)) .nil)) (.k (.str ⟨#[110, 111, 110, 101]⟩)))) (.seq (.ife (.or (.cons (.cmp .ne (.mth f_Books_rounding (.v 4) .nil) (.v 17)) (.cons (.cmp .ne (.dun 1 f_Books_str (.cons (.v 4) .nil)) (.v 18)) .nil))) (.seq (.ret (.k (.bl false))) .nop) .nop) .nop)))))))))))) (.seq (.ret (.k (.bl true))) .nop)))))
def s_Books_twin_3 : S :=
  (.seq (.asg 1 (.mk 13 f_Books_init (.cons (.ix (.fld (.v 0) ⟨#[104, 111, 119]⟩) (.k (.int 0))) .nil))) (.seq (.setf (.v 1) ⟨#[104, 111, 119]⟩ (.fld (.v 0) ⟨#[104, 111, 119]⟩)) (.seq (.ret (.v 1)) .nop)))
def s_l_call_2 : S :=
  (.seq (.tryo (.seq (.ife (.cmp .eq (.ix (.v 1) (.k (.int 0))) (.k (.str ⟨#[119, 105, 115, 104]⟩))) (.seq (.ex (.mth f_Books_wish (.v 0) (.cons (.ix (.v 1) (.k (.int 1))) (.cons (.ix (.v 1) (.k (.int 2))) .nil)))) .nop) (.seq (.ife (.cmp .eq (.ix (.v 1) (.k (.int 0))) (.k (.str ⟨#[100, 114, 111, 112]⟩))) (.seq (.ex (.mth f_Books_drop_2 (.v 0) (.cons (.ix (.v 1) (.k (.int 1))) .nil))) .nop) (.seq (.ex (.mth f_Books_change_2 (.v 0) (.cons (.ix (.v 1) (.k (.int 1))) (.cons (.ix (.v 1) (.k (.int 2))) .nil)))) .nop)) .nop)) (.seq (.ret (.k (.bl true))) .nop)) 0 (.seq (.ret (.k (.bl false))) .nop)) .nop)
def s_l_look : S :=
  (.seq (.ret (.tup (.cons (.mth f_Books_bill (.v 0) .nil) (.cons (.mth f_Books_wishes (.v 0) .nil) (.cons (.mth f_Books_rounding (.v 0) .nil) (.cons (.dun 0 f_Books_len (.cons (.v 0) .nil)) (.cons (.dun 1 f_Books_str (.cons (.v 0) .nil)) .nil))))))) .nop)
def s_l_none_back : S :=
  (.seq (.tryo (.seq (.ex (.mth f_Books_back (.v 0) .nil)) (.seq (.ret (.k (.bl false))) .nop)) 11 (.seq (.ret (.k (.bl true))) .nop)) .nop)
def s_law_k12 : S :=
  (.seq (.asg 1 (.new .nil)) (.seq (.asg 2 (.call f_l_some_bill (.cons (.v 0) (.cons (.v 1) (.cons (.bin .add (.k (.int 1)) (.call f_l_draw (.cons (.v 0) (.cons (.v 1) (.cons (.k (.int 3)) .nil))))) (.cons (.k (.int 4)) .nil)))))) (.seq (.par3 3 4 5 (.mk 13 f_Books_init (.cons (.v 2) .nil)) (.new .nil) (.new .nil)) (.seq (.asg 6 (.lc false [8, 16] (.v 8) (.t (.cons (.v 8) (.cons (.v 16) .nil))) (.ov (.call f_l_lots (.cons (.v 2) .nil))) .nil)) (.seq (.for (.v 7) (.rng (.cons (.k (.int 12)) .nil)) (.seq (.ife (.and (.cons (.cmp .ne (.v 5) (.lst .nil)) (.cons (.cmp .eq (.call f_l_draw (.cons (.v 0) (.cons (.v 1) (.cons (.k (.int 4)) .nil)))) (.k (.int 0))) .nil))) (.seq (.ife (.or (.cons (.cmp .ne (.mth f_Books_back (.v 3) .nil) (.ix (.pop0 (.v 5)) (.k (.int 0)))) (.cons (.cmp .ne (.call f_l_look (.cons (.v 3) .nil)) (.pop0 (.v 4))) .nil))) (.seq (.ret (.k (.bl false))) .nop) .nop) .nop) (.seq (.par2 8 9 (.call f_l_pick (.cons (.v 0) (.cons (.v 1) (.cons (.v 6) .nil)))) (.call f_l_draw (.cons (.v 0) (.cons (.v 1) (.cons (.bi .len (.cons (.ix (.v 2) (.k (.int 1))) .nil)) .nil))))) (.seq (.asg 10 (.new (.cons (.tup (.cons (.k (.str ⟨#[119, 105, 115, 104]⟩)) (.cons (.v 8) (.cons (.k (.str ⟨#[117, 112]⟩)) .nil)))) (.cons (.tup (.cons (.k (.str ⟨#[119, 105, 115, 104]⟩)) (.cons (.v 8) (.cons (.k (.str ⟨#[100, 111, 119, 110]⟩)) .nil)))) (.cons (.tup (.cons (.k (.str ⟨#[100, 114, 111, 112]⟩)) (.cons (.v 8) .nil))) .nil))))) (.seq (.ex (.app (.v 10) (.tup (.cons (.k (.str ⟨#[99, 104, 97, 110, 103, 101]⟩)) (.cons (.v 9) (.cons (.call f_l_draw (.cons (.v 0) (.cons (.v 1) (.cons (.k (.int 30)) .nil)))) .nil)))))) (.seq (.par2 11 12 (.call f_l_pick (.cons (.v 0) (.cons (.v 1) (.cons (.v 10) .nil)))) (.call f_l_look (.cons (.v 3) .nil))) (.seq (.ife (.call f_l_call_2 (.cons (.v 3) (.cons (.v 11) .nil))) (.seq (.ex (.app (.v 5) (.v 11))) (.seq (.ex (.app (.v 4) (.v 12))) .nop)) (.seq (.ife (.cmp .ne (.call f_l_look (.cons (.v 3) .nil)) (.v 12)) (.seq (.ret (.k (.bl false))) .nop) .nop) .nop)) .nop)))))) .nop)) (.seq (.par3 13 14 15 (.call f_l_look (.cons (.v 3) .nil)) (.lsq false (.v 5)) (.mthk f_Books_twin_3 (.v 3) .nil)) (.seq (.ife (.not (.call f_l_none_back (.cons (.v 15) .nil))) (.seq (.ret (.k (.bl false))) .nop) .nop) (.seq (.ife (.or (.cons (.not (.call f_l_same_truth (.cons (.deq f_Books_eq (.v 15) (.v 3)) (.cons (.k (.bl true)) .nil)))) (.cons (.cmp .ne (.call f_l_look (.cons (.v 15) .nil)) (.v 13)) .nil))) (.seq (.ret (.k (.bl false))) .nop) .nop) (.seq (.whl 1000 (.cmp .ne (.v 5) (.lst .nil)) (.seq (.ife (.or (.cons (.cmp .ne (.mth f_Books_back (.v 3) .nil) (.ix (.pop0 (.v 5)) (.k (.int 0)))) (.cons (.cmp .ne (.call f_l_look (.cons (.v 3) .nil)) (.pop0 (.v 4))) .nil))) (.seq (.ret (.k (.bl false))) .nop) .nop) .nop)) (.seq (.ife (.or (.cons (.not (.call f_l_same_truth (.cons (.deq f_Books_eq (.v 3) (.mk 13 f_Books_init (.cons (.v 2) .nil))) (.cons (.k (.bl true)) .nil)))) (.cons (.cmp .ne (.call f_l_look (.cons (.v 15) .nil)) (.v 13)) .nil))) (.seq (.ret (.k (.bl false))) .nop) .nop) (.seq (.for (.v 11) (.ov (.v 14)) (.seq (.ex (.call f_l_call_2 (.cons (.v 3) (.cons (.v 11) .nil)))) .nop)) (.seq (.ife (.or (.cons (.cmp .ne (.call f_l_look (.cons (.v 3) .nil)) (.v 13)) (.cons (.not (.call f_l_same_truth (.cons (.deq f_Books_eq (.v 15) (.v 3)) (.cons (.k (.bl true)) .nil)))) .nil))) (.seq (.ret (.k (.bl false))) .nop) .nop) (.seq (.ex (.mth f_Books_change_2 (.v 15) (.cons (.k (.int 0)) (.cons (.k (.int 998)) .nil)))) (.seq (.ret (.and (.cons (.call f_l_same_truth (.cons (.deq f_Books_eq (.v 15) (.v 3)) (.cons (.k (.bl false)) .nil))) (.cons (.cmp .eq (.mth f_Books_back (.v 15) .nil) (.k (.str ⟨#[99, 104, 97, 110, 103, 101]⟩))) (.cons (.cmp .eq (.call f_l_look (.cons (.v 3) .nil)) (.v 13)) .nil))))) .nop))))))))))))))
def s_l_ask_5 : S :=
  (.seq (.tryw (.seq (.ife (.cmp .lt (.v 0) (.k (.int 2))) (.seq (.ret (.ife (.cmp .eq (.v 0) (.k (.int 0))) (.mth f_Books_wish (.v 1) (.cons (.v 2) (.cons (.v 3) .nil))) (.mth f_Books_drop_2 (.v 1) (.cons (.v 2) .nil)))) .nop) .nop) (.seq (.ret (.ife (.cmp .eq (.v 0) (.k (.int 2))) (.mth f_Books_change_2 (.v 1) (.cons (.v 2) (.cons (.v 3) .nil))) (.mth f_Books_back (.v 1) .nil))) .nop)) 0 4 f_l_which) .nop)
def s_law_k13 : S :=
  (.seq (.asg 1 (.new .nil)) (.seq (.asg 2 (.tup (.cons (.k (.int 10)) (.cons (.tup (.cons (.k (.int 1)) (.cons (.k (.int 25)) (.cons (.k (.int 30)) .nil)))) (.cons (.tup (.cons (.tup (.cons (.tup (.cons (.k (.int 0)) (.cons (.k (.int 1)) .nil))) (.cons (.k (.int 2)) .nil))) (.cons (.tup (.cons (.k (.int 0)) (.cons (.tup (.cons (.k (.int 1)) (.cons (.k (.int 2)) .nil))) .nil))) .nil))) .nil))))) (.seq (.par2 3 4 (.mk 13 f_Books_init (.cons (.v 2) .nil)) (.tup (.cons (.k (.str ⟨#[105, 116, 101, 109]⟩)) (.cons (.k (.int 0)) .nil)))) (.seq (.ife (.cmp .ne (.call f_l_ask_5 (.cons (.k (.int 3)) (.cons (.v 3) (.cons (.k .non) (.cons (.k .non) .nil))))) (.tup (.cons (.k (.str ⟨#[114, 101, 102, 117, 115, 101, 100]⟩)) (.cons (.k (.int 10)) .nil)))) (.seq (.ret (.k (.bl false))) .nop) .nop) (.seq (.for (.v 5) (.ov (.lst (.cons (.k .non) (.cons (.tup .nil) (.cons (.k (.str ⟨#[105, 116, 101, 109]⟩)) (.cons (.tup (.cons (.k (.str ⟨#[105, 116, 101, 109]⟩)) (.cons (.k (.int 3)) .nil))) (.cons (.tup (.cons (.k (.str ⟨#[105, 116, 101, 109]⟩)) (.cons (.k (.bl true)) .nil))) (.cons (.tup (.cons (.k (.str ⟨#[103, 114, 111, 117, 112]⟩)) (.cons (.k (.int 0)) (.cons (.k (.int 2)) .nil)))) (.cons (.lst (.cons (.k (.str ⟨#[105, 116, 101, 109]⟩)) (.cons (.k (.int 0)) .nil))) (.cons (.tup (.cons (.k (.str ⟨#[103, 114, 111, 117, 112]⟩)) (.cons (.k (.int 2)) (.cons (.k (.int 0)) .nil)))) .nil)))))))))) (.seq (.ife (.cmp .ne (.lc false [8] (.call f_l_ask_5 (.cons (.v 8) (.cons (.v 3) (.cons (.v 5) (.cons (.k .non) .nil))))) (.v 8) (.rng (.cons (.k (.int 2)) .nil)) .nil) (.bin .mul (.lst (.cons (.tup (.cons (.k (.str ⟨#[114, 101, 102, 117, 115, 101, 100]⟩)) (.cons (.k (.int 2)) .nil))) .nil)) (.k (.int 2)))) (.seq (.ret (.k (.bl false))) .nop) .nop) .nop)) (.seq (.for (.v 5) (.ov (.lst (.cons (.k .non) (.cons (.k (.str ⟨#[111, 110]⟩)) (.cons (.k (.int 1)) (.cons (.tup (.cons (.k (.str ⟨#[117, 112]⟩)) .nil)) (.cons (.k (.str ⟨#[85, 80]⟩)) .nil))))))) (.seq (.ife (.cmp .ne (.call f_l_ask_5 (.cons (.k (.int 0)) (.cons (.v 3) (.cons (.v 4) (.cons (.v 5) .nil))))) (.tup (.cons (.k (.str ⟨#[114, 101, 102, 117, 115, 101, 100]⟩)) (.cons (.k (.int 8)) .nil)))) (.seq (.ret (.k (.bl false))) .nop) .nop) .nop)) (.seq (.for (.v 5) (.ov (.lst (.cons (.k .non) (.cons (.k (.int (-1))) (.cons (.k (.int 3)) (.cons (.k (.str ⟨#[48]⟩)) (.cons (.k (.bl true)) (.cons (.tup (.cons (.k (.str ⟨#[105, 116, 101, 109]⟩)) (.cons (.k (.int 0)) .nil))) .nil)))))))) (.seq (.ife (.cmp .ne (.call f_l_ask_5 (.cons (.k (.int 2)) (.cons (.v 3) (.cons (.v 5) (.cons (.k .non) .nil))))) (.tup (.cons (.k (.str ⟨#[114, 101, 102, 117, 115, 101, 100]⟩)) (.cons (.k (.int 2)) .nil)))) (.seq (.ret (.k (.bl false))) .nop) .nop) .nop)) (.seq (.for (.v 5) (.ov (.lst (.cons (.k .non) (.cons (.k (.int (-1))) (.cons (.k (.int 1000)) (.cons (.k (.str ⟨#[53]⟩)) (.cons (.k (.bl true)) .nil))))))) (.seq (.ife (.cmp .ne (.call f_l_ask_5 (.cons (.k (.int 2)) (.cons (.v 3) (.cons (.k (.int 1)) (.cons (.v 5) .nil))))) (.tup (.cons (.k (.str ⟨#[114, 101, 102, 117, 115, 101, 100]⟩)) (.cons (.k (.int 9)) .nil)))) (.seq (.ret (.k (.bl false))) .nop) .nop) .nop)) (.seq (.ife (.or (.cons (.cmp .ne (.call f_l_ask_5 (.cons (.k (.int 1)) (.cons (.v 3) (.cons (.v 4) (.cons (.k .non) .nil))))) (.tup (.cons (.k (.str ⟨#[114, 101, 102, 117, 115, 101, 100]⟩)) (.cons (.k (.int 8)) .nil)))) (.cons (.not (.call f_l_same_truth (.cons (.deq f_Books_eq (.v 3) (.mk 13 f_Books_init (.cons (.v 2) .nil))) (.cons (.k (.bl true)) .nil)))) .nil))) (.seq (.ret (.k (.bl false))) .nop) .nop) (.seq (.ife (.or (.cons (.isk false (.mth f_Books_wish (.v 3) (.cons (.v 4) (.cons (.k (.str ⟨#[117, 112]⟩)) .nil))) .non) (.cons (.cmp .ne (.call f_l_ask_5 (.cons (.k (.int 0)) (.cons (.v 3) (.cons (.v 4) (.cons (.k (.str ⟨#[100, 111, 119, 110]⟩)) .nil))))) (.tup (.cons (.k (.str ⟨#[114, 101, 102, 117, 115, 101, 100]⟩)) (.cons (.k (.int 8)) .nil)))) (.cons (.cmp .ne (.dun 0 f_Books_len (.cons (.v 3) .nil)) (.k (.int 1))) .nil)))) (.seq (.ret (.k (.bl false))) .nop) .nop) (.seq (.ife (.or (.cons (.not (.call f_l_same_truth (.cons (.deq f_Books_eq (.v 3) (.mk 13 f_Books_init (.cons (.v 2) .nil))) (.cons (.k (.bl false)) .nil)))) (.cons (.not (.call f_l_same_truth (.cons (.deq f_Books_eq (.v 3) (.dun 1 f_Books_str (.cons (.v 3) .nil))) (.cons (.k (.bl false)) .nil)))) .nil))) (.seq (.ret (.k (.bl false))) .nop) .nop) (.seq (.asg 6 (.lst (.cons (.tup (.cons (.k (.str ⟨#[103, 114, 111, 117, 112]⟩)) (.cons (.k (.int 0)) (.cons (.k (.int 0)) .nil)))) (.cons (.tup (.cons (.k (.str ⟨#[103, 114, 111, 117, 112]⟩)) (.cons (.k (.int 0)) (.cons (.k (.int 1)) .nil)))) (.cons (.tup (.cons (.k (.str ⟨#[103, 114, 111, 117, 112]⟩)) (.cons (.k (.int 1)) (.cons (.k (.int 0)) .nil)))) (.cons (.tup (.cons (.k (.str ⟨#[103, 114, 111, 117, 112]⟩)) (.cons (.k (.int 1)) (.cons (.k (.int 1)) .nil)))) (.cons (.tup (.cons (.k (.str ⟨#[105, 116, 101, 109]⟩)) (.cons (.k (.int 1)) .nil))) (.cons (.tup (.cons (.k (.str ⟨#[105, 116, 101, 109]⟩)) (.cons (.k (.int 2)) .nil))) .nil)))))))) (.seq (.ife (.or (.cons (.cmp .ne (.lc false [9] (.call f_l_ask_5 (.cons (.k (.int 0)) (.cons (.v 3) (.cons (.v 9) (.cons (.k (.str ⟨#[117, 112]⟩)) .nil))))) (.v 9) (.ov (.v 6)) .nil) (.bin .mul (.lst (.cons (.k .non) .nil)) (.k (.int 6)))) (.cons (.cmp .ne (.dun 1 f_Books_str (.cons (.v 3) .nil)) (.k (.str ⟨#[110, 111, 110, 101]⟩))) .nil))) (.seq (.ret (.k (.bl false))) .nop) .nop) (.seq (.ife (.or (.cons (.isk false (.mth f_Books_change_2 (.v 3) (.cons (.k (.int 1)) (.cons (.k (.int 999)) .nil))) .non) (.cons (.cmp .ne (.mth f_Books_drop_2 (.v 3) (.cons (.v 4) .nil)) (.k (.str ⟨#[117, 112]⟩))) .nil))) (.seq (.ret (.k (.bl false))) .nop) .nop) (.seq (.ife (.cmp .ne (.lst (.cons (.mth f_Books_back (.v 3) .nil) (.cons (.mth f_Books_back (.v 3) .nil) .nil))) (.lst (.cons (.k (.str ⟨#[100, 114, 111, 112]⟩)) (.cons (.k (.str ⟨#[99, 104, 97, 110, 103, 101]⟩)) .nil)))) (.seq (.ret (.k (.bl false))) .nop) .nop) (.seq (.ret (.cmp .eq (.lc false [7] (.call f_l_ask_5 (.cons (.k (.int 3)) (.cons (.v 3) (.cons (.k .non) (.cons (.k .non) .nil))))) (.v 7) (.rng (.cons (.k (.int 8)) .nil)) .nil) (.bin .add (.bin .mul (.lst (.cons (.k (.str ⟨#[119, 105, 115, 104]⟩)) .nil)) (.k (.int 7))) (.lst (.cons (.tup (.cons (.k (.str ⟨#[114, 101, 102, 117, 115, 101, 100]⟩)) (.cons (.k (.int 10)) .nil))) .nil))))) .nop))))))))))))))))
def s_law_k14 : S :=
  (.seq (.asg 1 (.new .nil)) (.seq (.par2 2 3 (.bin .add (.k (.int 2)) (.call f_l_draw (.cons (.v 0) (.cons (.v 1) (.cons (.k (.int 9)) .nil))))) (.bin .add (.k (.int 1)) (.call f_l_draw (.cons (.v 0) (.cons (.v 1) (.cons (.k (.int 7)) .nil)))))) (.seq (.asg 4 (.bi .tup (.cons (.lsr false (.cons (.v 3) .nil)) .nil))) (.seq (.asg 5 (.tup (.cons (.v 2) (.cons (.bi .tup (.cons (.lc false [18] (.bin .mul (.v 2) (.call f_l_draw (.cons (.v 0) (.cons (.v 1) (.cons (.k (.int 5)) .nil))))) (.v 18) (.ov (.v 4)) .nil) .nil)) (.cons (.tup (.cons (.v 4) (.cons (.rv (.v 4)) .nil))) .nil))))) (.seq (.asg 6 (.bi .tup (.cons (.lc false [17] (.bin .fdiv (.v 17) (.v 2)) (.v 17) (.ov (.ix (.v 5) (.k (.int 1)))) .nil) .nil))) (.seq (.ife (.or (.cons (.cmp .ne (.call f_how_many (.cons (.v 5) (.cons (.tup .nil) .nil))) (.k (.int 1))) (.cons (.cmp .ne (.call f_closest (.cons (.v 5) (.cons (.tup .nil) .nil))) (.tup (.cons (.v 6) (.cons (.k (.int 0)) .nil)))) (.cons (.cmp .ne (.call f_free (.cons (.v 5) (.cons (.tup .nil) .nil))) (.lst .nil)) .nil)))) (.seq (.ret (.k (.bl false))) .nop) .nop) (.seq (.par2 7 8 (.tup (.cons (.k (.int 2)) (.cons (.bin .mul (.tup (.cons (.k (.int 1)) .nil)) (.v 3)) (.cons (.tup (.cons (.v 4) .nil)) .nil)))) (.k (.int 1))) (.seq (.for (.v 9) (.rng (.cons (.bin .fdiv (.v 3) (.k (.int 2))) .nil)) (.seq (.asg 8 (.bin .fdiv (.bin .mul (.v 8) (.bin .sub (.v 3) (.v 9))) (.bin .add (.v 9) (.k (.int 1))))) .nop)) (.seq (.par2 10 11 (.v 8) (.bin .fdiv (.v 3) (.k (.int 2)))) (.seq (.ife (.cmp .lt (.bin .mul (.v 11) (.k (.int 2))) (.v 3)) (.seq (.asg 10 (.bin .add (.v 8) (.bin .fdiv (.bin .mul (.v 8) (.bin .sub (.v 3) (.v 11))) (.bin .add (.v 11) (.k (.int 1)))))) .nop) .nop) (.seq (.ife (.or (.cons (.cmp .ne (.call f_how_many (.cons (.v 7) (.cons (.tup .nil) .nil))) (.v 10)) (.cons (.cmp .ne (.call f_rounding (.cons (.v 7) (.cons (.tup .nil) .nil))) (.bin .add (.bin .mul (.tup (.cons (.k (.int 0)) .nil)) (.bin .sub (.v 3) (.bin .fdiv (.v 3) (.k (.int 2))))) (.bin .mul (.tup (.cons (.k (.int 1)) .nil)) (.bin .fdiv (.v 3) (.k (.int 2)))))) .nil))) (.seq (.ret (.k (.bl false))) .nop) .nop) (.seq (.asg 12 (.lst (.cons (.tup (.cons (.tup (.cons (.k (.int 0)) (.cons (.k (.int 1)) .nil))) (.cons (.tup (.cons (.k (.int 2)) (.cons (.k (.int 3)) .nil))) .nil))) (.cons (.tup (.cons (.tup (.cons (.k (.int 0)) (.cons (.k (.int 2)) .nil))) (.cons (.tup (.cons (.k (.int 1)) (.cons (.k (.int 3)) .nil))) .nil))) (.cons (.tup (.cons (.tup (.cons (.k (.int 0)) (.cons (.k (.int 3)) .nil))) (.cons (.tup (.cons (.k (.int 1)) (.cons (.k (.int 2)) .nil))) .nil))) .nil))))) (.seq (.ife (.or (.cons (.cmp .ne (.call f_how_many (.cons (.tup (.cons (.k (.int 2)) (.cons (.bin .mul (.tup (.cons (.k (.int 1)) .nil)) (.k (.int 4))) (.cons (.bi .tup (.cons (.sl (.v 12) .nil (.cons (.k (.int 2)) .nil)) .nil)) .nil)))) (.cons (.tup .nil) .nil))) (.k (.int 2))) (.cons (.isk false (.call f_rounding (.cons (.tup (.cons (.k (.int 2)) (.cons (.tup (.cons (.k (.int 1)) (.cons (.k (.int 3)) (.cons (.k (.int 1)) (.cons (.k (.int 5)) .nil))))) (.cons (.bi .tup (.cons (.v 12) .nil)) .nil)))) (.cons (.tup .nil) .nil))) .non) .nil))) (.seq (.ret (.k (.bl false))) .nop) .nop) (.seq (.ife (.cmp .ne (.call f_bars (.cons (.tup (.cons (.k (.int 2)) (.cons (.bin .mul (.tup (.cons (.k (.int 1)) .nil)) (.k (.int 4))) (.cons (.bi .tup (.cons (.v 12) .nil)) .nil)))) (.cons (.tup .nil) .nil))) (.tup (.cons (.tup (.cons (.k (.str ⟨#[103, 114, 111, 117, 112]⟩)) (.cons (.k (.int 0)) (.cons (.k (.int 1)) .nil)))) (.cons (.tup (.cons (.k (.str ⟨#[103, 114, 111, 117, 112]⟩)) (.cons (.k (.int 1)) (.cons (.k (.int 1)) .nil)))) (.cons (.tup (.cons (.k (.str ⟨#[103, 114, 111, 117, 112]⟩)) (.cons (.k (.int 2)) (.cons (.k (.int 2)) .nil)))) .nil))))) (.seq (.ret (.k (.bl false))) .nop) .nop) (.seq (.asg 13 (.tup (.cons (.k (.int 2)) (.cons (.bin .mul (.tup (.cons (.k (.int 1)) .nil)) (.k (.int 3))) (.cons (.tup (.cons (.tup (.cons (.tup (.cons (.k (.int 0)) (.cons (.k (.int 1)) .nil))) (.cons (.k (.int 2)) .nil))) (.cons (.tup (.cons (.tup (.cons (.k (.int 1)) (.cons (.k (.int 2)) .nil))) (.cons (.k (.int 0)) .nil))) (.cons (.tup (.cons (.tup (.cons (.k (.int 0)) (.cons (.k (.int 2)) .nil))) (.cons (.k (.int 1)) .nil))) .nil)))) .nil))))) (.seq (.ife (.cmp .ne (.call f_bars (.cons (.v 13) (.cons (.tup .nil) .nil))) (.tup (.cons (.tup (.cons (.k (.str ⟨#[103, 114, 111, 117, 112]⟩)) (.cons (.k (.int 0)) (.cons (.k (.int 1)) .nil)))) (.cons (.tup (.cons (.k (.str ⟨#[103, 114, 111, 117, 112]⟩)) (.cons (.k (.int 1)) (.cons (.k (.int 1)) .nil)))) (.cons (.tup (.cons (.k (.str ⟨#[103, 114, 111, 117, 112]⟩)) (.cons (.k (.int 2)) (.cons (.k (.int 1)) .nil)))) .nil))))) (.seq (.ret (.k (.bl false))) .nop) .nop) (.seq (.asg 14 (.tup (.cons (.k (.int 2)) (.cons (.bin .mul (.tup (.cons (.k (.int 1)) .nil)) (.k (.int 3))) (.cons (.tup (.cons (.tup (.cons (.tup (.cons (.k (.int 0)) (.cons (.k (.int 1)) .nil))) (.cons (.k (.int 2)) .nil))) (.cons (.tup (.cons (.k (.int 0)) (.cons (.tup (.cons (.k (.int 1)) (.cons (.k (.int 2)) .nil))) .nil))) .nil))) .nil))))) (.seq (.asg 15 (.tup (.cons (.tup (.cons (.tup (.cons (.k (.str ⟨#[103, 114, 111, 117, 112]⟩)) (.cons (.k (.int 0)) (.cons (.k (.int 0)) .nil)))) (.cons (.k (.str ⟨#[117, 112]⟩)) .nil))) (.cons (.tup (.cons (.tup (.cons (.k (.str ⟨#[103, 114, 111, 117, 112]⟩)) (.cons (.k (.int 1)) (.cons (.k (.int 0)) .nil)))) (.cons (.k (.str ⟨#[100, 111, 119, 110]⟩)) .nil))) .nil)))) (.seq (.ife (.or (.cons (.isk false (.call f_rounding (.cons (.v 14) (.cons (.v 15) .nil))) .non) (.cons (.isk false (.call f_is_paper (.cons (.v 14) (.cons (.v 15) (.cons (.tup (.cons (.tup (.cons (.tup (.cons (.k (.str ⟨#[103, 114, 111, 117, 112]⟩)) (.cons (.k (.int 0)) (.cons (.k (.int 0)) .nil)))) .nil)) (.cons (.tup (.cons (.tup (.cons (.k (.str ⟨#[103, 114, 111, 117, 112]⟩)) (.cons (.k (.int 1)) (.cons (.k (.int 0)) .nil)))) .nil)) .nil))) .nil)))) (.bl true)) .nil))) (.seq (.ret (.k (.bl false))) .nop) .nop) (.seq (.asg 16 (.tup (.cons (.tup (.cons (.tup (.cons (.k (.str ⟨#[105, 116, 101, 109]⟩)) (.cons (.k (.int 0)) .nil))) (.cons (.k (.str ⟨#[100, 111, 119, 110]⟩)) .nil))) (.cons (.tup (.cons (.tup (.cons (.k (.str ⟨#[105, 116, 101, 109]⟩)) (.cons (.k (.int 0)) .nil))) (.cons (.k (.str ⟨#[117, 112]⟩)) .nil))) .nil)))) (.seq (.ife (.cmp .ne (.lc false [17] (.call f_is_paper (.cons (.v 14) (.cons (.v 16) (.cons (.v 17) .nil)))) (.v 17) (.ov (.tup (.cons (.call f_paper (.cons (.v 14) (.cons (.v 16) .nil))) (.cons (.tup (.cons (.tup (.cons (.ix (.ix (.v 16) (.k (.int 0))) (.k (.int 0))) .nil)) (.cons (.tup (.cons (.ix (.ix (.v 16) (.k (.int 0))) (.k (.int 0))) .nil)) .nil))) .nil)))) .nil) (.lst (.cons (.k (.bl true)) (.cons (.k (.bl true)) .nil)))) (.seq (.ret (.k (.bl false))) .nop) .nop) (.seq (.ret (.cmp .eq (.call f_rounding (.cons (.v 14) (.cons (.tup .nil) .nil))) (.tup (.cons (.k (.int 0)) (.cons (.k (.int 1)) (.cons (.k (.int 0)) .nil)))))) .nop))))))))))))))))))))))
def s_Books_change_3 : S :=
  (.seq (.ex (.call f__wall (.cons (.k (.int 0)) .nil))) .nop)
def s_Books_back_2 : S :=
  (.seq (.ex (.call f__wall (.cons (.k (.int 1)) .nil))) .nop)
def s_law_k15 : S :=
  (.seq (.asg 1 (.new .nil)) (.seq (.asg 2 (.call f_l_some_bill (.cons (.v 0) (.cons (.v 1) (.cons (.bin .add (.k (.int 1)) (.call f_l_draw (.cons (.v 0) (.cons (.v 1) (.cons (.k (.int 2)) .nil))))) (.cons (.k (.int 6)) .nil)))))) (.seq (.asg 2 (.call f_read_bill (.cons (.call f_bill_text (.cons (.v 2) .nil)) .nil))) (.seq (.asg 3 (.call f_read_wishes (.cons (.v 2) (.cons (.call f_wishes_text (.cons (.v 2) (.cons (.call f_l_some_wishes (.cons (.v 0) (.cons (.v 1) (.cons (.v 2) (.cons (.k (.int 6)) .nil))))) .nil))) .nil)))) (.seq (.asg 4 (.mk 13 f_Books_init (.cons (.v 2) .nil))) (.seq (.for (.t (.cons (.v 5) (.cons (.v 6) .nil))) (.ov (.v 3)) (.seq (.ife (.cmp .eq (.lc false [12] (.v 12) (.v 12) (.ov (.mth f_Books_wishes (.v 4) .nil)) (.cons (.cmp .eq (.ix (.v 12) (.k (.int 0))) (.v 5)) .nil)) (.lst .nil)) (.seq (.ex (.mth f_Books_wish (.v 4) (.cons (.v 5) (.cons (.v 6) .nil)))) .nop) .nop) .nop)) (.seq (.whl 1000 (.isk true (.mth f_Books_rounding (.v 4) .nil) .non) (.seq (.asg 7 (.mth f_Books_wishes (.v 4) .nil)) (.seq (.asg 8 (.call f_paper (.cons (.v 2) (.cons (.v 7) .nil)))) (.seq (.ife (.or (.cons (.isk false (.call f_is_paper (.cons (.v 2) (.cons (.v 7) (.cons (.v 8) .nil)))) (.bl true)) (.cons (.isk false (.call f_rounding (.cons (.v 2) (.cons (.v 7) .nil))) .non) .nil))) (.seq (.ret (.k (.bl false))) .nop) .nop) (.seq (.asg 9 (.sst (.bin .add (.ix (.v 8) (.k (.int 0))) (.ix (.v 8) (.k (.int 1)))))) (.seq (.asg 10 (.lc false [12] (.v 12) (.v 12) (.ov (.v 7)) (.cons (.and (.cons (.cmp .isin (.ix (.v 12) (.k (.int 0))) (.ix (.v 8) (.k (.int 0)))) (.cons (.cmp .eq (.ix (.v 12) (.k (.int 1))) (.k (.str ⟨#[117, 112]⟩))) .nil))) .nil))) (.seq (.asg 10 (.bin .add (.v 10) (.lc false [12] (.v 12) (.v 12) (.ov (.v 7)) (.cons (.and (.cons (.cmp .isin (.ix (.v 12) (.k (.int 0))) (.ix (.v 8) (.k (.int 1)))) (.cons (.cmp .eq (.ix (.v 12) (.k (.int 1))) (.k (.str ⟨#[100, 111, 119, 110]⟩))) .nil))) .nil)))) (.seq (.ife (.or (.cons (.cmp .eq (.v 10) (.lst .nil)) (.cons (.cmp .ne (.lc false [5] (.v 5) (.v 5) (.ov (.call f_bars (.cons (.v 2) (.cons (.v 7) .nil)))) (.cons (.cmp .ne (.ix (.v 5) (.k (.int 0))) (.k (.str ⟨#[103, 114, 111, 117, 112]⟩))) .nil)) (.lst .nil)) .nil))) (.seq (.ret (.k (.bl false))) .nop) .nop) (.seq (.asg 11 (.bi .tup (.cons (.lc false [12] (.v 12) (.v 12) (.ov (.v 7)) (.cons (.cmp .isin (.v 12) (.v 10)) .nil)) .nil))) (.seq (.ife (.or (.cons (.isk false (.call f_rounding (.cons (.v 2) (.cons (.v 11) .nil))) .non) (.cons (.cmp .lt (.bi .len (.cons (.v 9) .nil)) (.k (.int 1))) .nil))) (.seq (.ret (.k (.bl false))) .nop) .nop) (.seq (.asgp (.t (.cons (.v 5) (.cons (.v 6) .nil))) (.call f_l_pick (.cons (.v 0) (.cons (.v 1) (.cons (.v 10) .nil))))) (.seq (.ife (.or (.cons (.cmp .ne (.mth f_Books_drop_2 (.v 4) (.cons (.v 5) .nil)) (.v 6)) (.cons (.cmp .ne (.mth f_Books_wishes (.v 4) .nil) (.bi .tup (.cons (.lc false [12] (.v 12) (.v 12) (.ov (.v 7)) (.cons (.cmp .ne (.ix (.v 12) (.k (.int 0))) (.v 5)) .nil)) .nil))) .nil))) (.seq (.ret (.k (.bl false))) .nop) .nop) .nop)))))))))))) (.seq (.ret (.cmp .eq (.mth f_Books_rounding (.v 4) .nil) (.call f_rounding (.cons (.v 2) (.cons (.mth f_Books_wishes (.v 4) .nil) .nil))))) .nop))))))))
def s_Books_back_3 : S :=
  (.seq (.ex (.call f__wall (.cons (.k (.int 2)) .nil))) .nop)
def s_Books_twin_4 : S :=
  (.seq (.ex (.call f__wall (.cons (.k (.int 3)) .nil))) .nop)
def s_l_lists : S :=
  (.seq (.asg 4 (.lst (.cons (.call f_groups (.cons (.v 0) (.cons (.k (.int 0)) .nil))) (.cons (.call f_spots (.cons (.v 0) .nil)) (.cons (.call f_free (.cons (.v 0) (.cons (.v 1) .nil))) (.cons (.call f_breaks (.cons (.v 0) (.cons (.v 1) (.cons (.v 2) .nil)))) (.cons (.lsq false (.mth f_Books_wishes (.v 3) .nil)) .nil))))))) (.seq (.ex (.mth f_Books_rounding (.v 3) .nil)) (.seq (.ret (.bin .add (.v 4) (.lst (.cons (.lsq false (.mth f_Books_wishes (.v 3) .nil)) .nil)))) .nop)))
def s_law_k16 : S :=
  (.seq (.asg 1 (.new .nil)) (.seq (.asg 2 (.new .nil)) (.seq (.for (.v 3) (.rng (.cons (.k (.int 2)) .nil)) (.seq (.asg 4 (.call f_l_some_bill (.cons (.v 0) (.cons (.v 1) (.cons (.bin .add (.k (.int 1)) (.call f_l_draw (.cons (.v 0) (.cons (.v 1) (.cons (.k (.int 3)) .nil))))) (.cons (.k (.int 5)) .nil)))))) (.seq (.asg 5 (.call f_l_some_wishes (.cons (.v 0) (.cons (.v 1) (.cons (.v 4) (.cons (.k (.int 4)) .nil)))))) (.seq (.asg 6 (.mk 13 f_Books_init (.cons (.v 4) .nil))) (.seq (.ex (.mth f_Books_wish (.v 6) (.cons (.tup (.cons (.k (.str ⟨#[105, 116, 101, 109]⟩)) (.cons (.k (.int 0)) .nil))) (.cons (.k (.str ⟨#[117, 112]⟩)) .nil)))) (.seq (.ex (.app (.v 2) (.tup (.cons (.v 4) (.cons (.v 5) (.cons (.call f_l_pick (.cons (.v 0) (.cons (.v 1) (.cons (.call f_l_outlines (.cons (.v 4) .nil)) .nil)))) (.cons (.v 6) .nil))))))) .nop)))))) (.seq (.asg 7 (.new .nil)) (.seq (.for (.t (.cons (.v 4) (.cons (.v 5) (.cons (.v 8) (.cons (.v 6) .nil))))) (.ov (.v 2)) (.seq (.ex (.app (.v 7) (.lc false [11] (.lsq false (.v 11)) (.v 11) (.ov (.call f_l_lists (.cons (.v 4) (.cons (.v 5) (.cons (.v 8) (.cons (.v 6) .nil)))))) .nil))) .nop)) (.seq (.for (.v 3) (.rng (.cons (.k (.int 2)) .nil)) (.seq (.for (.t (.cons (.v 9) (.cons (.t (.cons (.v 4) (.cons (.v 5) (.cons (.v 8) (.cons (.v 6) .nil))))) .nil))) (.enm (.v 2)) (.seq (.asg 10 (.call f_l_lists (.cons (.v 4) (.cons (.v 5) (.cons (.v 8) (.cons (.v 6) .nil)))))) (.seq (.ife (.or (.cons (.cmp .ne (.v 10) (.ix (.v 7) (.v 9))) (.cons (.cmp .ne (.ix (.v 10) (.k (.int 4))) (.ix (.v 10) (.k (.int 5)))) .nil))) (.seq (.ret (.k (.bl false))) .nop) .nop) (.seq (.for (.v 11) (.ov (.v 10)) (.seq (.ex (.app (.v 11) (.k .non))) (.seq (.ex (.rvs (.v 11))) .nop))) .nop)))) .nop)) (.seq (.ret (.k (.bl true))) .nop)))))))
def s_days : S :=
  (.seq (.ex (.call f_need_two (.cons (.v 0) .nil))) (.seq (.par2 1 2 (.new .nil) (.ix (.v 0) (.k (.int 1)))) (.seq (.for (.v 3) (.rng (.cons (.ix (.v 0) (.k (.int 0))) (.cons (.k (.int 0)) (.cons (.k (.int (-1))) .nil)))) (.seq (.asg 4 (.call f_first_of (.cons (.tup (.cons (.v 3) (.cons (.v 2) (.cons (.ix (.v 0) (.k (.int 2))) .nil)))) (.cons (.tup .nil) .nil)))) (.seq (.ex (.app (.v 1) (.v 4))) (.seq (.asg 2 (.bi .tup (.cons (.lc false [5, 6] (.bin .sub (.v 5) (.v 6)) (.t (.cons (.v 5) (.cons (.v 6) .nil))) (.zip (.v 2) (.v 4)) .nil) .nil))) .nop)))) (.seq (.ret (.v 1)) .nop))))
def s_are_days : S :=
  (.seq (.ex (.call f_need_two (.cons (.v 0) .nil))) (.seq (.ife (.or (.cons (.not (.isi (.v 1) .lst)) (.cons (.cmp .ne (.bi .len (.cons (.v 1) .nil)) (.ix (.v 0) (.k (.int 0)))) (.cons (.not (.bi .all (.cons (.lc false [4] (.call f_good_outline (.cons (.v 0) (.cons (.v 4) .nil))) (.v 4) (.ov (.v 1)) .nil) .nil))) .nil)))) (.seq (.ret (.k (.bl false))) .nop) .nop) (.seq (.asg 2 (.call f_all_bounds (.cons (.v 0) (.cons (.tup .nil) .nil)))) (.seq (.ife (.not (.bi .all (.cons (.lc false [4] (.cmp .eq (.call f_breaks_of (.cons (.v 2) (.cons (.v 4) .nil))) (.lst .nil)) (.v 4) (.ov (.v 1)) .nil) .nil))) (.seq (.ret (.k (.bl false))) .nop) .nop) (.seq (.ret (.cmp .eq (.lc false [3] (.bi .sum (.cons (.lc false [4] (.ix (.v 4) (.v 3)) (.v 4) (.ov (.v 1)) .nil) .nil)) (.v 3) (.rng (.cons (.bi .len (.cons (.ix (.v 0) (.k (.int 1))) .nil)) .nil)) .nil) (.lsq false (.ix (.v 0) (.k (.int 1)))))) .nop)))))
def s_law_k17 : S :=
  (.seq (.asg 1 (.new .nil)) (.seq (.asg 2 (.call f_l_some_bill (.cons (.v 0) (.cons (.v 1) (.cons (.bin .add (.k (.int 1)) (.call f_l_draw (.cons (.v 0) (.cons (.v 1) (.cons (.k (.int 2)) .nil))))) (.cons (.k (.int 7)) .nil)))))) (.seq (.asgp (.t (.cons (.v 3) (.cons (.v 4) (.cons (.v 5) .nil)))) (.v 2)) (.seq (.par2 6 7 (.call f_days (.cons (.v 2) .nil)) (.call f_l_rows (.cons (.v 2) (.cons (.tup .nil) .nil)))) (.seq (.ife (.or (.cons (.cmp .ne (.bi .len (.cons (.v 6) .nil)) (.v 3)) (.cons (.isk false (.call f_are_days (.cons (.v 2) (.cons (.v 6) .nil))) (.bl true)) .nil))) (.seq (.ret (.k (.bl false))) .nop) .nop) (.seq (.for (.v 8) (.ov (.v 6)) (.seq (.ife (.or (.cons (.cmp .ne (.call f_l_broken (.cons (.v 7) (.cons (.v 8) .nil))) (.lst .nil)) (.cons (.isk false (.call f_keeps (.cons (.v 2) (.cons (.tup .nil) (.cons (.v 8) .nil)))) (.bl true)) .nil))) (.seq (.ret (.k (.bl false))) .nop) .nop) .nop)) (.seq (.for (.t (.cons (.v 9) (.cons (.v 10) (.cons (.v 11) (.cons (.v 12) .nil))))) (.ov (.v 7)) (.seq (.asg 13 (.lc false [8] (.bi .sum (.cons (.lc false [17] (.ix (.v 8) (.v 17)) (.v 17) (.ov (.v 10)) .nil) .nil)) (.v 8) (.ov (.v 6)) .nil)) (.seq (.asg 14 (.bi .sum (.cons (.lc false [17] (.ix (.v 4) (.v 17)) (.v 17) (.ov (.v 10)) .nil) .nil))) (.seq (.asg 15 (.ife (.cmp .gt (.v 12) (.v 11)) (.bin .sub (.v 14) (.bin .mul (.v 11) (.v 3))) (.v 3))) (.seq (.ife (.or (.cons (.cmp .ne (.bi .sum (.cons (.v 13) .nil)) (.v 14)) (.cons (.cmp .ne (.cnt (.v 13) (.v 12)) (.v 15)) .nil))) (.seq (.ret (.k (.bl false))) .nop) .nop) .nop))))) (.seq (.asg 16 (.tup (.cons (.v 3) (.cons (.bi .tup (.cons (.lc false [18] (.bin .mul (.v 3) (.bin .fdiv (.v 18) (.v 3))) (.v 18) (.ov (.v 4)) .nil) .nil)) (.cons (.v 5) .nil))))) (.seq (.ret (.cmp .eq (.call f_days (.cons (.v 16) .nil)) (.bin .mul (.lst (.cons (.bi .tup (.cons (.lc false [18] (.bin .fdiv (.v 18) (.v 3)) (.v 18) (.ov (.v 4)) .nil) .nil)) .nil)) (.v 3)))) .nop)))))))))
def s_l_due : S :=
  (.seq (.ife (.or (.cons (.cmp .ne (.bi .len (.cons (.v 2) .nil)) (.ix (.v 0) (.k (.int 0)))) (.cons (.cmp .ne (.lc false [5] (.v 5) (.v 5) (.ov (.v 2)) (.cons (.cmp .ne (.call f_l_broken (.cons (.v 1) (.cons (.v 5) .nil))) (.lst .nil)) .nil)) (.lst .nil)) .nil))) (.seq (.ret (.k (.bl false))) .nop) .nop) (.seq (.for (.t (.cons (.v 3) (.cons (.v 4) .nil))) (.enm (.ix (.v 0) (.k (.int 1)))) (.seq (.ife (.cmp .ne (.bi .sum (.cons (.lc false [5] (.ix (.v 5) (.v 3)) (.v 5) (.ov (.v 2)) .nil) .nil)) (.v 4)) (.seq (.ret (.k (.bl false))) .nop) .nop) .nop)) (.seq (.ret (.k (.bl true))) .nop)))
def s_law_k18 : S :=
  (.seq (.asg 1 (.new .nil)) (.seq (.asg 2 (.call f_l_some_bill (.cons (.v 0) (.cons (.v 1) (.cons (.bin .add (.k (.int 1)) (.call f_l_draw (.cons (.v 0) (.cons (.v 1) (.cons (.k (.int 2)) .nil))))) (.cons (.k (.int 5)) .nil)))))) (.seq (.par2 3 4 (.call f_l_rows (.cons (.v 2) (.cons (.tup .nil) .nil))) (.call f_days (.cons (.v 2) .nil))) (.seq (.asg 5 (.call f_l_outlines (.cons (.v 2) .nil))) (.seq (.ife (.isk false (.call f_are_days (.cons (.v 2) (.cons (.rv (.v 4)) .nil))) (.bl true)) (.seq (.ret (.k (.bl false))) .nop) .nop) (.seq (.for (.v 6) (.rng (.cons (.k (.int 10)) .nil)) (.seq (.par2 7 8 (.lsq true (.v 4)) (.call f_l_draw (.cons (.v 0) (.cons (.v 1) (.cons (.k (.int 4)) .nil))))) (.seq (.par2 9 10 (.call f_l_draw (.cons (.v 0) (.cons (.v 1) (.cons (.bi .len (.cons (.v 4) .nil)) .nil)))) (.call f_l_draw (.cons (.v 0) (.cons (.v 1) (.cons (.bi .len (.cons (.v 4) .nil)) .nil))))) (.seq (.asg 11 (.call f_l_draw (.cons (.v 0) (.cons (.v 1) (.cons (.bi .len (.cons (.ix (.v 2) (.k (.int 1))) .nil)) .nil))))) (.seq (.ife (.cmp .eq (.v 8) (.k (.int 0))) (.seq (.seti (.v 7) (.v 9) (.call f_l_pick (.cons (.v 0) (.cons (.v 1) (.cons (.v 5) .nil))))) .nop) (.seq (.ife (.cmp .eq (.v 8) (.k (.int 1))) (.seq (.par2 12 13 (.lsq true (.ix (.v 4) (.v 9))) (.lsq true (.ix (.v 4) (.v 10)))) (.seq (.set2 (.v 12) (.v 11) (.v 13) (.v 11) (.ix (.ix (.v 4) (.v 10)) (.v 11)) (.ix (.ix (.v 4) (.v 9)) (.v 11))) (.seq (.set2 (.v 7) (.v 9) (.v 7) (.v 10) (.bi .tup (.cons (.v 12) .nil)) (.bi .tup (.cons (.v 13) .nil))) .nop))) (.seq (.ife (.cmp .eq (.v 8) (.k (.int 2))) (.seq (.set2 (.v 7) (.v 9) (.v 7) (.v 10) (.ix (.v 4) (.v 10)) (.ix (.v 4) (.v 9))) .nop) (.seq (.ex (.pop1 (.v 7) (.v 9))) .nop)) .nop)) .nop)) (.seq (.ife (.not (.call f_l_same_truth (.cons (.call f_are_days (.cons (.v 2) (.cons (.v 7) .nil))) (.cons (.call f_l_due (.cons (.v 2) (.cons (.v 3) (.cons (.v 7) .nil)))) .nil)))) (.seq (.ret (.k (.bl false))) .nop) .nop) .nop)))))) (.seq (.for (.v 14) (.ov (.lst (.cons (.k .non) (.cons (.k (.int 5)) (.cons (.lst .nil) (.cons (.bi .tup (.cons (.v 4) .nil)) (.cons (.bin .add (.v 4) (.sl (.v 4) .nil (.cons (.k (.int 1)) .nil))) (.cons (.bin .mul (.lst (.cons (.k .non) .nil)) (.bi .len (.cons (.v 4) .nil))) (.cons (.lc false [15] (.lsq false (.v 15)) (.v 15) (.ov (.v 4)) .nil) .nil))))))))) (.seq (.ife (.isk false (.call f_are_days (.cons (.v 2) (.cons (.v 14) .nil))) (.bl false)) (.seq (.ret (.k (.bl false))) .nop) .nop) .nop)) (.seq (.ret (.k (.bl true))) .nop))))))))
def s_need_ones : S :=
  (.seq (.ife (.not (.call f_is_whole (.cons (.v 0) (.cons (.k (.int 0)) (.cons (.gl 0 (.int 999)) .nil))))) (.seq (.rse 10 ⟨#[110, 111, 116, 32, 115, 111, 32, 109, 97, 110, 121]⟩) .nop) .nop) .nop)
def s_with_amounts : S :=
  (.seq (.ife (.not (.bi .all (.cons (.lc false [2] (.call f_is_whole (.cons (.v 2) (.cons (.k (.int 0)) (.cons (.gl 0 (.int 999)) .nil)))) (.v 2) (.ov (.v 1)) .nil) .nil))) (.seq (.rse 10 ⟨#[116, 111, 111, 32, 103, 114, 101, 97, 116, 44, 32, 111, 114, 32, 98, 101, 108, 111, 119, 32, 110, 111, 117, 103, 104, 116]⟩) .nop) .nop) (.seq (.ret (.tup (.cons (.ix (.v 0) (.k (.int 0))) (.cons (.bi .tup (.cons (.v 1) .nil)) (.cons (.ix (.v 0) (.k (.int 2))) .nil))))) .nop))
def s_raised : S :=
  (.seq (.ex (.call f_need_bill (.cons (.v 0) .nil))) (.seq (.ife (.not (.call f_is_whole (.cons (.v 1) (.cons (.k (.int 0)) (.cons (.bin .sub (.bi .len (.cons (.ix (.v 0) (.k (.int 1))) .nil)) (.k (.int 1))) .nil))))) (.seq (.rse 3 ⟨#[110, 111, 32, 105, 116, 101, 109]⟩) .nop) .nop) (.seq (.ex (.call f_need_ones (.cons (.v 2) .nil))) (.seq (.asg 3 (.lsq true (.ix (.v 0) (.k (.int 1))))) (.seq (.augi (.v 3) (.v 1) (.bin .mul (.ix (.v 0) (.k (.int 0))) (.v 2))) (.seq (.ret (.call f_with_amounts (.cons (.v 0) (.cons (.v 3) .nil)))) .nop))))))
def s_mirrored : S :=
  (.seq (.ex (.call f_need_bill (.cons (.v 0) .nil))) (.seq (.ex (.call f_need_ones (.cons (.v 1) .nil))) (.seq (.ret (.call f_with_amounts (.cons (.v 0) (.cons (.lc false [2] (.bin .sub (.bin .mul (.ix (.v 0) (.k (.int 0))) (.v 1)) (.v 2)) (.v 2) (.ov (.ix (.v 0) (.k (.int 1)))) .nil) .nil)))) .nop)))
def s_l_which_2 : S :=
  (.seq (.asg 1 (.new (.cons (.isi (.v 0) (.cls 1)) (.cons (.isi (.v 0) (.cls 2)) (.cons (.isi (.v 0) (.cls 3)) (.cons (.isi (.v 0) (.cls 4)) .nil)))))) (.seq (.ex (.ext (.v 1) (.lst (.cons (.isi (.v 0) (.cls 5)) (.cons (.isi (.v 0) (.cls 6)) (.cons (.isi (.v 0) (.cls 7)) .nil)))))) (.seq (.ex (.app (.v 1) (.isi (.v 0) (.cls 8)))) (.seq (.ex (.ext (.v 1) (.lst (.cons (.isi (.v 0) (.cls 9)) (.cons (.isi (.v 0) (.cls 10)) (.cons (.isi (.v 0) (.cls 11)) .nil)))))) (.seq (.ex (.app (.v 1) (.isi (.v 0) (.cls 12)))) (.seq (.ife (.or (.cons (.cmp .ne (.cnt (.v 1) (.k (.bl true))) (.k (.int 1))) (.cons (.not (.isi (.v 0) (.cls 14))) .nil))) (.seq (.ret (.tup (.cons (.k (.str ⟨#[114, 101, 102, 117, 115, 101, 100]⟩)) (.cons (.k (.int (-1))) .nil)))) .nop) .nop) (.seq (.ret (.tup (.cons (.k (.str ⟨#[114, 101, 102, 117, 115, 101, 100]⟩)) (.cons (.idx (.v 1) (.k (.bl true))) .nil)))) .nop)))))))
def s_l_paper : S :=
  (.seq (.tryw (.seq (.ret (.call f_paper (.cons (.v 0) (.cons (.v 1) .nil)))) .nop) 0 2 f_l_which_2) .nop)
def s_law_k19 : S :=
  (.seq (.asg 1 (.new .nil)) (.seq (.asg 2 (.call f_l_some_bill (.cons (.v 0) (.cons (.v 1) (.cons (.bin .add (.k (.int 1)) (.call f_l_draw (.cons (.v 0) (.cons (.v 1) (.cons (.k (.int 2)) .nil))))) (.cons (.k (.int 5)) .nil)))))) (.seq (.asgp (.t (.cons (.v 3) (.cons (.v 4) (.cons (.v 5) .nil)))) (.v 2)) (.seq (.asg 6 (.call f_l_some_wishes (.cons (.v 0) (.cons (.v 1) (.cons (.v 2) (.cons (.k (.int 3)) .nil)))))) (.seq (.par2 7 8 (.call f_l_draw (.cons (.v 0) (.cons (.v 1) (.cons (.bi .len (.cons (.v 4) .nil)) .nil)))) (.call f_l_draw (.cons (.v 0) (.cons (.v 1) (.cons (.k (.int 20)) .nil))))) (.seq (.asg 9 (.call f_raised (.cons (.v 2) (.cons (.v 7) (.cons (.v 8) .nil))))) (.seq (.ife (.cmp .ne (.v 9) (.tup (.cons (.v 3) (.cons (.bin .add (.bin .add (.sl (.v 4) .nil (.cons (.v 7) .nil)) (.tup (.cons (.bin .add (.ix (.v 4) (.v 7)) (.bin .mul (.v 3) (.v 8))) .nil))) (.sl (.v 4) (.cons (.bin .add (.v 7) (.k (.int 1))) .nil) .nil)) (.cons (.v 5) .nil))))) (.seq (.ret (.k (.bl false))) .nop) .nop) (.seq (.asg 10 (.call f_l_kept (.cons (.v 2) (.cons (.v 6) .nil)))) (.seq (.for (.v 11) (.ov (.sl (.v 10) .nil (.cons (.k (.int 4)) .nil))) (.seq (.ife (.isk false (.call f_keeps (.cons (.v 9) (.cons (.v 6) (.cons (.bin .add (.bin .add (.sl (.v 11) .nil (.cons (.v 7) .nil)) (.tup (.cons (.bin .add (.ix (.v 11) (.v 7)) (.v 8)) .nil))) (.sl (.v 11) (.cons (.bin .add (.v 7) (.k (.int 1))) .nil) .nil)) .nil)))) (.bl true)) (.seq (.ret (.k (.bl false))) .nop) .nop) .nop)) (.seq (.ife (.or (.cons (.cmp .ne (.call f_how_many (.cons (.v 9) (.cons (.v 6) .nil))) (.bi .len (.cons (.v 10) .nil))) (.cons (.cmp .ne (.isk true (.call f_rounding (.cons (.v 9) (.cons (.v 6) .nil))) .non) (.cmp .eq (.v 10) (.lst .nil))) .nil))) (.seq (.ret (.k (.bl false))) .nop) .nop) (.seq (.asg 12 (.bin .add (.k (.int 4)) (.call f_l_draw (.cons (.v 0) (.cons (.v 1) (.cons (.k (.int 3)) .nil)))))) (.seq (.par2 13 14 (.call f_mirrored (.cons (.v 2) (.cons (.v 12) .nil))) (.new .nil)) (.seq (.asg 15 (.bi .tup (.cons (.lc false [11] (.bin .sub (.bin .mul (.v 3) (.v 12)) (.v 11)) (.v 11) (.ov (.v 4)) .nil) .nil))) (.seq (.ife (.or (.cons (.cmp .ne (.v 13) (.tup (.cons (.v 3) (.cons (.v 15) (.cons (.v 5) .nil))))) (.cons (.cmp .ne (.call f_mirrored (.cons (.v 13) (.cons (.v 12) .nil))) (.v 2)) .nil))) (.seq (.ret (.k (.bl false))) .nop) .nop) (.seq (.for (.t (.cons (.v 16) (.cons (.v 17) .nil))) (.ov (.v 6)) (.seq (.ex (.app (.v 14) (.tup (.cons (.v 16) (.cons (.ife (.cmp .eq (.v 17) (.k (.str ⟨#[117, 112]⟩))) (.k (.str ⟨#[100, 111, 119, 110]⟩)) (.k (.str ⟨#[117, 112]⟩))) .nil))))) .nop)) (.seq (.asg 14 (.bi .tup (.cons (.bi .srt (.cons (.v 14) .nil)) .nil))) (.seq (.for (.v 11) (.ov (.sl (.v 10) .nil (.cons (.k (.int 4)) .nil))) (.seq (.ife (.isk false (.call f_keeps (.cons (.v 13) (.cons (.v 14) (.cons (.bi .tup (.cons (.lc false [19] (.bin .sub (.v 12) (.v 19)) (.v 19) (.ov (.v 11)) .nil) .nil)) .nil)))) (.bl true)) (.seq (.ret (.k (.bl false))) .nop) .nop) .nop)) (.seq (.ife (.cmp .ne (.call f_how_many (.cons (.v 13) (.cons (.v 14) .nil))) (.bi .len (.cons (.v 10) .nil))) (.seq (.ret (.k (.bl false))) .nop) .nop) (.seq (.ife (.cmp .ne (.v 10) (.lst .nil)) (.seq (.ret (.cmp .eq (.ix (.call f_closest (.cons (.v 13) (.cons (.v 14) .nil))) (.k (.int 1))) (.ix (.call f_closest (.cons (.v 2) (.cons (.v 6) .nil))) (.k (.int 1))))) .nop) .nop) (.seq (.asg 18 (.call f_l_paper (.cons (.v 2) (.cons (.v 6) .nil)))) (.seq (.ret (.and (.cons (.isk true (.call f_is_paper (.cons (.v 13) (.cons (.v 14) (.cons (.tup (.cons (.ix (.v 18) (.k (.int 1))) (.cons (.ix (.v 18) (.k (.int 0))) .nil))) .nil)))) (.bl true)) (.cons (.isk true (.call f_is_paper (.cons (.v 9) (.cons (.v 6) (.cons (.v 18) .nil)))) (.bl true)) .nil)))) .nop)))))))))))))))))))))
def s_renamed : S :=
  (.seq (.ret (.bi .tup (.cons (.lc false [2] (.ife (.isi (.v 2) .tup) (.call f_renamed (.cons (.v 2) (.cons (.v 1) .nil))) (.idx (.v 1) (.v 2))) (.v 2) (.ov (.v 0)) .nil) .nil))) .nop)
def s_named : S :=
  (.seq (.ex (.call f_need_bill (.cons (.v 0) .nil))) (.seq (.ife (.or (.cons (.not (.isi (.v 1) .tup)) (.cons (.not (.bi .all (.cons (.lc false [5] (.call f_is_whole (.cons (.v 5) (.cons (.k (.int 0)) (.cons (.bin .sub (.bi .len (.cons (.ix (.v 0) (.k (.int 1))) .nil)) (.k (.int 1))) .nil)))) (.v 5) (.ov (.v 1)) .nil) .nil))) .nil))) (.seq (.rse 12 ⟨#[110, 111, 32, 111, 114, 100, 101, 114]⟩) .nop) .nop) (.seq (.ife (.cmp .ne (.bi .srt (.cons (.v 1) .nil)) (.lsr false (.cons (.bi .len (.cons (.ix (.v 0) (.k (.int 1))) .nil)) .nil))) (.seq (.rse 12 ⟨#[110, 111, 116, 32, 101, 97, 99, 104, 32, 111, 110, 99, 101]⟩) .nop) .nop) (.seq (.asg 2 (.bi .tup (.cons (.lc false [3] (.call f_renamed (.cons (.v 3) (.cons (.v 1) .nil))) (.v 3) (.ov (.ix (.v 0) (.k (.int 2)))) .nil) .nil))) (.seq (.ret (.tup (.cons (.ix (.v 0) (.k (.int 0))) (.cons (.bi .tup (.cons (.lc false [4] (.ix (.ix (.v 0) (.k (.int 1))) (.v 4)) (.v 4) (.ov (.v 1)) .nil) .nil)) (.cons (.v 2) .nil))))) .nop)))))
def s_l_order_of : S :=
  (.seq (.par2 3 4 (.lsr true (.cons (.v 2) .nil)) (.new .nil)) (.seq (.whl 1000 (.cmp .ne (.v 3) (.lst .nil)) (.seq (.ex (.app (.v 4) (.pop1 (.v 3) (.call f_l_draw (.cons (.v 0) (.cons (.v 1) (.cons (.bi .len (.cons (.v 3) .nil)) .nil))))))) .nop)) (.seq (.ret (.bi .tup (.cons (.v 4) .nil))) .nop)))
def s_l_anew : S :=
  (.seq (.asg 2 (.new .nil)) (.seq (.for (.v 3) (.ov (.v 0)) (.seq (.ex (.app (.v 2) (.ife (.isi (.v 3) .tup) (.call f_l_anew (.cons (.v 3) (.cons (.v 1) .nil))) (.idx (.v 1) (.v 3))))) .nop)) (.seq (.ret (.bi .tup (.cons (.v 2) .nil))) .nop)))
def s_law_k20 : S :=
  (.seq (.asg 1 (.new .nil)) (.seq (.asg 2 (.call f_l_some_bill (.cons (.v 0) (.cons (.v 1) (.cons (.bin .add (.k (.int 1)) (.call f_l_draw (.cons (.v 0) (.cons (.v 1) (.cons (.k (.int 3)) .nil))))) (.cons (.k (.int 6)) .nil)))))) (.seq (.asgp (.t (.cons (.v 3) (.cons (.v 4) (.cons (.v 5) .nil)))) (.v 2)) (.seq (.asg 6 (.call f_l_order_of (.cons (.v 0) (.cons (.v 1) (.cons (.bi .len (.cons (.v 4) .nil)) .nil))))) (.seq (.asg 7 (.call f_named (.cons (.v 2) (.cons (.v 6) .nil)))) (.seq (.ife (.cmp .ne (.v 7) (.tup (.cons (.v 3) (.cons (.bi .tup (.cons (.lc false [11] (.ix (.v 4) (.v 11)) (.v 11) (.ov (.v 6)) .nil) .nil)) (.cons (.bi .tup (.cons (.lc false [15] (.call f_l_anew (.cons (.v 15) (.cons (.v 6) .nil))) (.v 15) (.ov (.v 5)) .nil) .nil)) .nil))))) (.seq (.ret (.k (.bl false))) .nop) .nop) (.seq (.asg 8 (.bi .tup (.cons (.lc false [11] (.idx (.v 6) (.v 11)) (.v 11) (.rng (.cons (.bi .len (.cons (.v 4) .nil)) .nil)) .nil) .nil))) (.seq (.ife (.cmp .ne (.call f_named (.cons (.v 7) (.cons (.v 8) .nil))) (.v 2)) (.seq (.ret (.k (.bl false))) .nop) .nop) (.seq (.par2 9 10 (.new .nil) (.new .nil)) (.seq (.for (.v 11) (.rng (.cons (.bi .len (.cons (.v 4) .nil)) .nil)) (.seq (.asg 12 (.call f_l_pick (.cons (.v 0) (.cons (.v 1) (.cons (.lst (.cons (.k (.str ⟨#[117, 112]⟩)) (.cons (.k (.str ⟨#[100, 111, 119, 110]⟩)) (.cons (.k (.str ⟨#[110, 111, 110, 101]⟩)) (.cons (.k (.str ⟨#[110, 111, 110, 101]⟩)) .nil))))) .nil))))) (.seq (.ife (.cmp .ne (.v 12) (.k (.str ⟨#[110, 111, 110, 101]⟩))) (.seq (.ex (.app (.v 9) (.tup (.cons (.tup (.cons (.k (.str ⟨#[105, 116, 101, 109]⟩)) (.cons (.v 11) .nil))) (.cons (.v 12) .nil))))) (.seq (.ex (.app (.v 10) (.tup (.cons (.tup (.cons (.k (.str ⟨#[105, 116, 101, 109]⟩)) (.cons (.idx (.v 6) (.v 11)) .nil))) (.cons (.v 12) .nil))))) .nop)) .nop) .nop))) (.seq (.par2 9 10 (.bi .tup (.cons (.v 9) .nil)) (.bi .tup (.cons (.bi .srt (.cons (.v 10) .nil)) .nil))) (.seq (.asg 13 (.call f_l_kept (.cons (.v 2) (.cons (.v 9) .nil)))) (.seq (.ife (.cmp .ne (.call f_how_many (.cons (.v 7) (.cons (.v 10) .nil))) (.bi .len (.cons (.v 13) .nil))) (.seq (.ret (.k (.bl false))) .nop) .nop) (.seq (.ret (.cmp .eq (.lc false [14] (.v 14) (.v 14) (.ov (.v 13)) (.cons (.isk false (.call f_keeps (.cons (.v 7) (.cons (.v 10) (.cons (.bi .tup (.cons (.lc false [11] (.ix (.v 14) (.v 11)) (.v 11) (.ov (.v 6)) .nil) .nil)) .nil)))) (.bl true)) .nil)) (.lst .nil))) .nop))))))))))))))
def s_l_choose : S :=
  (.seq (.asg 2 (.k (.int 1))) (.seq (.for (.v 3) (.rng (.cons (.v 1) .nil)) (.seq (.asg 2 (.bin .fdiv (.bin .mul (.v 2) (.bin .sub (.v 0) (.v 3))) (.bin .add (.v 3) (.k (.int 1))))) .nop)) (.seq (.ret (.v 2)) .nop)))
def s_law_k21 : S :=
  (.seq (.asg 1 (.new .nil)) (.seq (.asg 2 (.call f_l_some_bill (.cons (.v 0) (.cons (.v 1) (.cons (.k (.int 1)) (.cons (.k (.int 8)) .nil)))))) (.seq (.asgp (.t (.cons (.v 3) (.cons (.v 4) (.cons (.v 5) .nil)))) (.v 2)) (.seq (.asg 6 (.tup (.cons (.v 3) (.cons (.v 4) (.cons (.tup (.cons (.bi .tup (.cons (.lsr false (.cons (.bi .len (.cons (.v 4) .nil)) .nil)) .nil)) .nil)) .nil))))) (.seq (.asg 7 (.bi .sum (.cons (.lc false [15] (.bin .sub (.v 15) (.bin .mul (.bin .fdiv (.v 15) (.v 3)) (.v 3))) (.v 15) (.ov (.v 4)) .nil) .nil))) (.seq (.asg 8 (.lc false [14, 15] (.v 14) (.t (.cons (.v 14) (.cons (.v 15) .nil))) (.enm (.v 4)) (.cons (.cmp .gt (.bin .sub (.v 15) (.bin .mul (.bin .fdiv (.v 15) (.v 3)) (.v 3))) (.k (.int 0))) .nil))) (.seq (.asg 9 (.bin .fdiv (.v 7) (.v 3))) (.seq (.asg 10 (.call f_l_choose (.cons (.bi .len (.cons (.v 8) .nil)) (.cons (.v 9) .nil)))) (.seq (.ife (.cmp .gt (.v 7) (.bin .mul (.v 9) (.v 3))) (.seq (.asg 10 (.bin .add (.v 10) (.call f_l_choose (.cons (.bi .len (.cons (.v 8) .nil)) (.cons (.bin .add (.v 9) (.k (.int 1))) .nil))))) .nop) .nop) (.seq (.ife (.or (.cons (.not (.call f_l_same_number (.cons (.call f_how_many (.cons (.v 6) (.cons (.tup .nil) .nil))) (.cons (.v 10) .nil)))) (.cons (.cmp .ne (.call f_free (.cons (.v 6) (.cons (.tup .nil) .nil))) (.ife (.cmp .gt (.v 10) (.k (.int 1))) (.v 8) (.lst .nil))) .nil))) (.seq (.ret (.k (.bl false))) .nop) .nop) (.seq (.asg 11 (.tup (.cons (.v 3) (.cons (.v 4) (.cons (.bin .mul (.v 5) (.k (.int 2))) .nil))))) (.seq (.asg 12 (.call f_how_many (.cons (.v 2) (.cons (.tup .nil) .nil)))) (.seq (.ife (.or (.cons (.cmp .lt (.v 12) (.k (.int 1))) (.cons (.cmp .ne (.call f_how_many (.cons (.v 11) (.cons (.tup .nil) .nil))) (.v 12)) (.cons (.cmp .ne (.call f_rounding (.cons (.v 11) (.cons (.tup .nil) .nil))) (.call f_rounding (.cons (.v 2) (.cons (.tup .nil) .nil)))) .nil)))) (.seq (.ret (.k (.bl false))) .nop) .nop) (.seq (.ife (.cmp .eq (.v 8) (.lst .nil)) (.seq (.ret (.cmp .eq (.v 12) (.k (.int 1)))) .nop) .nop) (.seq (.asg 13 (.tup (.cons (.k (.str ⟨#[105, 116, 101, 109]⟩)) (.cons (.call f_l_pick (.cons (.v 0) (.cons (.v 1) (.cons (.v 8) .nil)))) .nil)))) (.seq (.ret (.cmp .eq (.bin .add (.call f_how_many (.cons (.v 2) (.cons (.tup (.cons (.tup (.cons (.v 13) (.cons (.k (.str ⟨#[117, 112]⟩)) .nil))) .nil)) .nil))) (.call f_how_many (.cons (.v 2) (.cons (.tup (.cons (.tup (.cons (.v 13) (.cons (.k (.str ⟨#[100, 111, 119, 110]⟩)) .nil))) .nil)) .nil)))) (.v 12))) .nop))))))))))))))))
def s_l_ask_6 : S :=
  (.seq (.tryw (.seq (.ife (.cmp .eq (.v 0) (.k (.int 0))) (.seq (.ret (.call f_days (.cons (.v 1) .nil))) .nop) .nop) (.seq (.ife (.cmp .lt (.v 0) (.k (.int 4))) (.seq (.ret (.callx (.ix (.lst (.cons (.fnm f_are_days) (.cons (.fnm f_mirrored) (.cons (.fnm f_named) .nil)))) (.bin .sub (.v 0) (.k (.int 1)))) (.cons (.v 1) (.cons (.v 2) .nil)))) .nop) .nop) (.seq (.ret (.call f_raised (.cons (.v 1) (.cons (.v 2) (.cons (.v 3) .nil))))) .nop))) 0 4 f_l_which_2) .nop)
def s_law_k22 : S :=
  (.seq (.asg 1 (.new .nil)) (.seq (.asg 2 (.tup (.cons (.k (.int 0)) (.cons (.k (.int 1)) (.cons (.k (.int 2)) .nil))))) (.seq (.asg 3 (.tup (.cons (.k (.int 4)) (.cons (.tup (.cons (.k (.int 5)) (.cons (.k (.int 990)) (.cons (.k (.int 0)) .nil)))) (.cons (.tup (.cons (.v 2) (.cons (.tup (.cons (.k (.int 2)) (.cons (.tup (.cons (.k (.int 1)) (.cons (.k (.int 0)) .nil))) .nil))) .nil))) .nil))))) (.seq (.asg 4 (.new (.cons (.k .non) (.cons (.tup .nil) (.cons (.tup (.cons (.k (.int 1)) (.cons (.tup (.cons (.k (.int 5)) .nil)) (.cons (.tup (.cons (.tup (.cons (.k (.int 0)) .nil)) .nil)) .nil)))) (.cons (.tup (.cons (.k (.int 4)) (.cons (.tup .nil) (.cons (.tup (.cons (.tup .nil) .nil)) .nil)))) (.cons (.tup (.cons (.k (.int 4)) (.cons (.tup (.cons (.k (.int 5)) .nil)) (.cons (.tup (.cons (.tup (.cons (.k (.int 0)) (.cons (.k (.int 0)) .nil))) .nil)) .nil)))) .nil))))))) (.seq (.ex (.ext (.v 4) (.lst (.cons (.tup (.cons (.k (.int 4)) (.cons (.tup (.cons (.k (.int 1000)) .nil)) (.cons (.tup (.cons (.tup (.cons (.k (.int 0)) .nil)) .nil)) .nil)))) (.cons (.lst (.cons (.k (.int 4)) (.cons (.tup (.cons (.k (.int 5)) .nil)) (.cons (.tup (.cons (.tup (.cons (.k (.int 0)) .nil)) .nil)) .nil)))) .nil))))) (.seq (.for (.v 5) (.ov (.v 4)) (.seq (.ife (.cmp .ne (.lc false [8] (.call f_l_ask_6 (.cons (.v 8) (.cons (.v 5) (.cons (.k .non) (.cons (.k .non) .nil))))) (.v 8) (.rng (.cons (.k (.int 5)) .nil)) .nil) (.bin .mul (.lst (.cons (.tup (.cons (.k (.str ⟨#[114, 101, 102, 117, 115, 101, 100]⟩)) (.cons (.k (.int 0)) .nil))) .nil)) (.k (.int 5)))) (.seq (.ret (.k (.bl false))) .nop) .nop) .nop)) (.seq (.asg 6 (.tup (.cons (.k (.int 4)) (.cons (.tup (.cons (.k (.int 5)) (.cons (.k (.int 990)) (.cons (.k (.int 0)) .nil)))) (.cons (.bin .mul (.tup (.cons (.v 2) .nil)) (.k (.int 3))) .nil))))) (.seq (.ife (.cmp .ne (.lc false [8] (.call f_l_ask_6 (.cons (.v 8) (.cons (.v 6) (.cons (.k .non) (.cons (.k .non) .nil))))) (.v 8) (.ov (.tup (.cons (.k (.int 0)) (.cons (.k (.int 1)) .nil)))) .nil) (.bin .mul (.lst (.cons (.tup (.cons (.k (.str ⟨#[114, 101, 102, 117, 115, 101, 100]⟩)) (.cons (.k (.int 5)) .nil))) .nil)) (.k (.int 2)))) (.seq (.ret (.k (.bl false))) .nop) .nop) (.seq (.ife (.cmp .ne (.ix (.call f_l_ask_6 (.cons (.k (.int 2)) (.cons (.v 6) (.cons (.k (.int 249)) (.cons (.k .non) .nil))))) (.k (.int 0))) (.k (.int 4))) (.seq (.ret (.k (.bl false))) .nop) .nop) (.seq (.for (.v 5) (.ov (.lst (.cons (.k .non) (.cons (.k (.int (-1))) (.cons (.k (.int 3)) (.cons (.k (.str ⟨#[48]⟩)) (.cons (.k (.bl true)) (.cons (.tup (.cons (.k (.str ⟨#[105, 116, 101, 109]⟩)) (.cons (.k (.int 0)) .nil))) .nil)))))))) (.seq (.ife (.cmp .ne (.call f_l_ask_6 (.cons (.k (.int 4)) (.cons (.v 3) (.cons (.v 5) (.cons (.k .non) .nil))))) (.tup (.cons (.k (.str ⟨#[114, 101, 102, 117, 115, 101, 100]⟩)) (.cons (.k (.int 2)) .nil)))) (.seq (.ret (.k (.bl false))) .nop) .nop) .nop)) (.seq (.for (.v 5) (.ov (.lst (.cons (.k .non) (.cons (.k (.int (-1))) (.cons (.k (.int 1000)) (.cons (.k (.str ⟨#[49]⟩)) (.cons (.k (.bl true)) .nil))))))) (.seq (.ife (.or (.cons (.cmp .ne (.call f_l_ask_6 (.cons (.k (.int 4)) (.cons (.v 3) (.cons (.k (.int 0)) (.cons (.v 5) .nil))))) (.tup (.cons (.k (.str ⟨#[114, 101, 102, 117, 115, 101, 100]⟩)) (.cons (.k (.int 9)) .nil)))) (.cons (.cmp .ne (.call f_l_ask_6 (.cons (.k (.int 2)) (.cons (.v 3) (.cons (.v 5) (.cons (.k .non) .nil))))) (.tup (.cons (.k (.str ⟨#[114, 101, 102, 117, 115, 101, 100]⟩)) (.cons (.k (.int 9)) .nil)))) .nil))) (.seq (.ret (.k (.bl false))) .nop) .nop) .nop)) (.seq (.ife (.or (.cons (.cmp .ne (.call f_l_ask_6 (.cons (.k (.int 4)) (.cons (.v 3) (.cons (.k (.int 1)) (.cons (.k (.int 3)) .nil))))) (.tup (.cons (.k (.str ⟨#[114, 101, 102, 117, 115, 101, 100]⟩)) (.cons (.k (.int 9)) .nil)))) (.cons (.cmp .ne (.call f_l_ask_6 (.cons (.k (.int 4)) (.cons (.v 3) (.cons (.k (.int 1)) (.cons (.k (.int 2)) .nil))))) (.tup (.cons (.k (.int 4)) (.cons (.tup (.cons (.k (.int 5)) (.cons (.k (.int 998)) (.cons (.k (.int 0)) .nil)))) (.cons (.ix (.v 3) (.k (.int 2))) .nil))))) .nil))) (.seq (.ret (.k (.bl false))) .nop) .nop) (.seq (.ife (.cmp .ne (.lc false [9] (.call f_l_ask_6 (.cons (.k (.int 2)) (.cons (.v 3) (.cons (.v 9) (.cons (.k .non) .nil))))) (.v 9) (.ov (.tup (.cons (.k (.int 247)) (.cons (.k (.int 250)) .nil)))) .nil) (.bin .mul (.lst (.cons (.tup (.cons (.k (.str ⟨#[114, 101, 102, 117, 115, 101, 100]⟩)) (.cons (.k (.int 9)) .nil))) .nil)) (.k (.int 2)))) (.seq (.ret (.k (.bl false))) .nop) .nop) (.seq (.ife (.cmp .ne (.call f_l_ask_6 (.cons (.k (.int 2)) (.cons (.v 3) (.cons (.k (.int 249)) (.cons (.k .non) .nil))))) (.tup (.cons (.k (.int 4)) (.cons (.tup (.cons (.k (.int 991)) (.cons (.k (.int 6)) (.cons (.k (.int 996)) .nil)))) (.cons (.ix (.v 3) (.k (.int 2))) .nil))))) (.seq (.ret (.k (.bl false))) .nop) .nop) (.seq (.asg 4 (.new (.cons (.k .non) (.cons (.tup .nil) (.cons (.tup (.cons (.k (.int 0)) (.cons (.k (.int 1)) .nil))) (.cons (.new (.cons (.k (.int 0)) (.cons (.k (.int 1)) (.cons (.k (.int 2)) .nil)))) (.cons (.tup (.cons (.k (.int 0)) (.cons (.k (.int 1)) (.cons (.k (.int 1)) .nil)))) (.cons (.tup (.cons (.k (.int 0)) (.cons (.k (.int 1)) (.cons (.k (.int 3)) .nil)))) (.cons (.tup (.cons (.k (.int 0)) (.cons (.k (.int 1)) (.cons (.k (.int (-1))) .nil)))) (.cons (.tup (.cons (.k (.int 0)) (.cons (.k (.int 1)) (.cons (.k (.bl true)) .nil)))) .nil)))))))))) (.seq (.ex (.ext (.v 4) (.lst (.cons (.tup (.cons (.k (.int 0)) (.cons (.k (.int 1)) (.cons (.k (.str ⟨#[50]⟩)) .nil)))) (.cons (.tup (.cons (.k (.int 0)) (.cons (.k (.int 1)) (.cons (.k (.int 2)) (.cons (.k (.int 0)) .nil))))) .nil))))) (.seq (.for (.v 5) (.ov (.v 4)) (.seq (.ife (.cmp .ne (.call f_l_ask_6 (.cons (.k (.int 3)) (.cons (.v 3) (.cons (.v 5) (.cons (.k .non) .nil))))) (.tup (.cons (.k (.str ⟨#[114, 101, 102, 117, 115, 101, 100]⟩)) (.cons (.k (.int 11)) .nil)))) (.seq (.ret (.k (.bl false))) .nop) .nop) .nop)) (.seq (.asg 7 (.call f_l_order_of (.cons (.v 0) (.cons (.v 1) (.cons (.k (.int 3)) .nil))))) (.seq (.ret (.and (.cons (.cmp .eq (.bi .srt (.cons (.ix (.call f_l_ask_6 (.cons (.k (.int 3)) (.cons (.v 3) (.cons (.v 7) (.cons (.k .non) .nil))))) (.k (.int 1))) .nil)) (.lst (.cons (.k (.int 0)) (.cons (.k (.int 5)) (.cons (.k (.int 990)) .nil))))) (.cons (.cmp .eq (.bi .len (.cons (.call f_l_ask_6 (.cons (.k (.int 0)) (.cons (.v 3) (.cons (.k .non) (.cons (.k .non) .nil))))) .nil)) (.k (.int 4))) .nil)))) .nop)))))))))))))))))))
def Tab : Nat → Option Fn
  | 0 => some ⟨3, 3, s_is_whole⟩
  | 1 => some ⟨2, 5, s_items_in⟩
  | 2 => some ⟨2, 3, s_is_nesting⟩
  | 3 => some ⟨1, 2, s_good_bill⟩
  | 4 => some ⟨1, 1, s_is_bill⟩
  | 5 => some ⟨1, 1, s_need_bill⟩
  | 6 => some ⟨1, 3, s_groups_in⟩
  | 7 => some ⟨2, 3, s_groups_of⟩
  | 8 => some ⟨2, 2, s_groups⟩
  | 9 => some ⟨1, 6, s_lots_of⟩
  | 10 => some ⟨1, 1, s_spots⟩
  | 11 => some ⟨2, 3, s_is_spot⟩
  | 12 => some ⟨2, 2, s_need_spot⟩
  | 13 => some ⟨2, 3, s_amount_of⟩
  | 14 => some ⟨2, 2, s_amount⟩
  | 15 => some ⟨2, 3, s_ends_of⟩
  | 16 => some ⟨2, 2, s_ends⟩
  | 17 => some ⟨2, 4, s_l_cell_at⟩
  | 18 => some ⟨3, 4, s_l_mixed⟩
  | 19 => some ⟨3, 3, s_l_draw⟩
  | 20 => some ⟨2, 2, s_l_same_number⟩
  | 21 => some ⟨4, 9, s_l_some_group⟩
  | 22 => some ⟨4, 12, s_l_some_bill⟩
  | 23 => some ⟨1, 3, s_l_items⟩
  | 24 => some ⟨1, 9, s_l_lots⟩
  | 25 => some ⟨1, 11, s_law_k01⟩
  | 26 => some ⟨2, 2, s_is_wish⟩
  | 27 => some ⟨2, 4, s_good_wishes⟩
  | 28 => some ⟨2, 2, s_are_wishes⟩
  | 29 => some ⟨2, 2, s_need_wishes⟩
  | 30 => some ⟨4, 7, s_bounds_of⟩
  | 31 => some ⟨3, 3, s_bounds⟩
  | 32 => some ⟨2, 4, s_all_bounds⟩
  | 33 => some ⟨2, 4, s_good_outline⟩
  | 34 => some ⟨2, 2, s_need_outline⟩
  | 35 => some ⟨2, 3, s_sum_at⟩
  | 36 => some ⟨2, 6, s_breaks_of⟩
  | 37 => some ⟨3, 3, s_keeps⟩
  | 38 => some ⟨3, 3, s_breaks⟩
  | 39 => some ⟨3, 3, s_l_pick⟩
  | 40 => some ⟨2, 2, s_l_same_truth⟩
  | 41 => some ⟨2, 9, s_l_rows⟩
  | 42 => some ⟨1, 6, s_l_outlines⟩
  | 43 => some ⟨2, 8, s_l_broken⟩
  | 44 => some ⟨4, 9, s_l_some_wishes⟩
  | 45 => some ⟨1, 13, s_law_k02⟩
  | 46 => some ⟨1, 6, s_outlines⟩
  | 47 => some ⟨2, 4, s_kept⟩
  | 48 => some ⟨2, 4, s_first_of⟩
  | 49 => some ⟨2, 2, s_rounding⟩
  | 50 => some ⟨2, 2, s_how_many⟩
  | 51 => some ⟨2, 4, s_l_kept⟩
  | 52 => some ⟨1, 5, s_law_k03⟩
  | 53 => some ⟨3, 6, s_parents⟩
  | 54 => some ⟨1, 2, s_parents_of⟩
  | 55 => some ⟨1, 5, s_pipes_of⟩
  | 56 => some ⟨3, 8, s_steps_from⟩
  | 57 => some ⟨3, 10, s_ways_from⟩
  | 58 => some ⟨4, 10, s_turned⟩
  | 59 => some ⟨1, 5, s_bad_pipe⟩
  | 60 => some ⟨2, 5, s_cut_of⟩
  | 61 => some ⟨2, 14, s_paper_of⟩
  | 62 => some ⟨1, 1, s_need_two⟩
  | 63 => some ⟨2, 3, s_paper⟩
  | 64 => some ⟨2, 4, s_are_spots⟩
  | 65 => some ⟨3, 10, s_is_paper⟩
  | 66 => some ⟨1, 2, s_l_which⟩
  | 67 => some ⟨2, 3, s_l_ask⟩
  | 68 => some ⟨1, 13, s_law_k04⟩
  | 69 => some ⟨3, 10, s_l_right⟩
  | 70 => some ⟨1, 22, s_law_k05⟩
  | 71 => some ⟨2, 7, s_broken_rows⟩
  | 72 => some ⟨3, 9, s_met⟩
  | 73 => some ⟨2, 10, s_bars⟩
  | 74 => some ⟨2, 3, s_l_ask_2⟩
  | 75 => some ⟨2, 7, s_l_lots_of⟩
  | 76 => some ⟨1, 17, s_law_k06⟩
  | 77 => some ⟨2, 5, s_free⟩
  | 78 => some ⟨1, 11, s_law_k07⟩
  | 79 => some ⟨2, 4, s_off_by⟩
  | 80 => some ⟨2, 4, s_closest⟩
  | 81 => some ⟨3, 7, s_nearest⟩
  | 82 => some ⟨1, 16, s_law_k08⟩
  | 83 => some ⟨1, 1, s__wall⟩
  | 84 => some ⟨2, 2, s_Books_init⟩
  | 85 => some ⟨3, 3, s_Books_call⟩
  | 86 => some ⟨2, 3, s_Books_at_spot⟩
  | 87 => some ⟨3, 5, s_Books_wish⟩
  | 88 => some ⟨2, 2, s_Books_drop⟩
  | 89 => some ⟨3, 3, s_Books_change⟩
  | 90 => some ⟨1, 1, s_Books_rounding⟩
  | 91 => some ⟨1, 1, s_Books_bill⟩
  | 92 => some ⟨1, 1, s_Books_wishes⟩
  | 93 => some ⟨1, 1, s_Books_back⟩
  | 94 => some ⟨1, 1, s_Books_twin⟩
  | 95 => some ⟨2, 2, s_Books_eq⟩
  | 96 => some ⟨1, 1, s_Books_len⟩
  | 97 => some ⟨1, 3, s_Books_str⟩
  | 98 => some ⟨1, 3, s_nest_words⟩
  | 99 => some ⟨1, 3, s_text_of⟩
  | 100 => some ⟨1, 1, s_bill_text⟩
  | 101 => some ⟨1, 5, s_wishes_of⟩
  | 102 => some ⟨2, 2, s_wishes_text⟩
  | 103 => some ⟨1, 2, s_number_in⟩
  | 104 => some ⟨1, 2, s_wish_in⟩
  | 105 => some ⟨2, 4, s_read_wishes⟩
  | 106 => some ⟨4, 5, s_l_ask_3⟩
  | 107 => some ⟨0, 4, s_l_no_bills⟩
  | 108 => some ⟨3, 10, s_l_wishes_refused⟩
  | 109 => some ⟨1, 9, s_law_k09⟩
  | 110 => some ⟨2, 4, s_group_at⟩
  | 111 => some ⟨1, 2, s_nesting_in⟩
  | 112 => some ⟨1, 6, s_read_bill⟩
  | 113 => some ⟨3, 4, s_l_ask_4⟩
  | 114 => some ⟨1, 3, s_l_words⟩
  | 115 => some ⟨1, 4, s_l_bill_text⟩
  | 116 => some ⟨1, 5, s_l_wishes_text⟩
  | 117 => some ⟨1, 2, s_l_number⟩
  | 118 => some ⟨1, 5, s_l_tree⟩
  | 119 => some ⟨2, 6, s_l_parse⟩
  | 120 => some ⟨1, 14, s_law_k10⟩
  | 121 => some ⟨2, 6, s_Books_drop_2⟩
  | 122 => some ⟨3, 6, s_Books_change_2⟩
  | 123 => some ⟨1, 1, s_Books_twin_2⟩
  | 124 => some ⟨2, 3, s_l_call⟩
  | 125 => some ⟨1, 22, s_law_k11⟩
  | 126 => some ⟨1, 2, s_Books_twin_3⟩
  | 127 => some ⟨2, 2, s_l_call_2⟩
  | 128 => some ⟨1, 1, s_l_look⟩
  | 129 => some ⟨1, 1, s_l_none_back⟩
  | 130 => some ⟨1, 17, s_law_k12⟩
  | 131 => some ⟨4, 5, s_l_ask_5⟩
  | 132 => some ⟨1, 10, s_law_k13⟩
  | 133 => some ⟨1, 19, s_law_k14⟩
  | 134 => some ⟨3, 3, s_Books_change_3⟩
  | 135 => some ⟨1, 1, s_Books_back_2⟩
  | 136 => some ⟨1, 13, s_law_k15⟩
  | 137 => some ⟨1, 1, s_Books_back_3⟩
  | 138 => some ⟨1, 1, s_Books_twin_4⟩
  | 139 => some ⟨4, 5, s_l_lists⟩
  | 140 => some ⟨1, 12, s_law_k16⟩
  | 141 => some ⟨1, 7, s_days⟩
  | 142 => some ⟨2, 5, s_are_days⟩
  | 143 => some ⟨1, 19, s_law_k17⟩
  | 144 => some ⟨3, 6, s_l_due⟩
  | 145 => some ⟨1, 16, s_law_k18⟩
  | 146 => some ⟨1, 1, s_need_ones⟩
  | 147 => some ⟨2, 3, s_with_amounts⟩
  | 148 => some ⟨3, 4, s_raised⟩
  | 149 => some ⟨2, 3, s_mirrored⟩
  | 150 => some ⟨1, 2, s_l_which_2⟩
  | 151 => some ⟨2, 3, s_l_paper⟩
  | 152 => some ⟨1, 20, s_law_k19⟩
  | 153 => some ⟨2, 3, s_renamed⟩
  | 154 => some ⟨2, 6, s_named⟩
  | 155 => some ⟨3, 5, s_l_order_of⟩
  | 156 => some ⟨2, 4, s_l_anew⟩
  | 157 => some ⟨1, 16, s_law_k20⟩
  | 158 => some ⟨2, 4, s_l_choose⟩
  | 159 => some ⟨1, 16, s_law_k21⟩
  | 160 => some ⟨4, 5, s_l_ask_6⟩
  | 161 => some ⟨1, 10, s_law_k22⟩
  | _ => none
theorem T_is_whole : Tab f_is_whole = some ⟨3, 3, s_is_whole⟩ := rfl
theorem T_items_in : Tab f_items_in = some ⟨2, 5, s_items_in⟩ := rfl
theorem T_is_nesting : Tab f_is_nesting = some ⟨2, 3, s_is_nesting⟩ := rfl
theorem T_good_bill : Tab f_good_bill = some ⟨1, 2, s_good_bill⟩ := rfl
theorem T_is_bill : Tab f_is_bill = some ⟨1, 1, s_is_bill⟩ := rfl
theorem T_need_bill : Tab f_need_bill = some ⟨1, 1, s_need_bill⟩ := rfl
theorem T_groups_in : Tab f_groups_in = some ⟨1, 3, s_groups_in⟩ := rfl
theorem T_groups_of : Tab f_groups_of = some ⟨2, 3, s_groups_of⟩ := rfl
theorem T_groups : Tab f_groups = some ⟨2, 2, s_groups⟩ := rfl
theorem T_lots_of : Tab f_lots_of = some ⟨1, 6, s_lots_of⟩ := rfl
theorem T_spots : Tab f_spots = some ⟨1, 1, s_spots⟩ := rfl
theorem T_is_spot : Tab f_is_spot = some ⟨2, 3, s_is_spot⟩ := rfl
theorem T_need_spot : Tab f_need_spot = some ⟨2, 2, s_need_spot⟩ := rfl
theorem T_amount_of : Tab f_amount_of = some ⟨2, 3, s_amount_of⟩ := rfl
theorem T_amount : Tab f_amount = some ⟨2, 2, s_amount⟩ := rfl
theorem T_ends_of : Tab f_ends_of = some ⟨2, 3, s_ends_of⟩ := rfl
theorem T_ends : Tab f_ends = some ⟨2, 2, s_ends⟩ := rfl
theorem T_l_cell_at : Tab f_l_cell_at = some ⟨2, 4, s_l_cell_at⟩ := rfl
theorem T_l_mixed : Tab f_l_mixed = some ⟨3, 4, s_l_mixed⟩ := rfl
theorem T_l_draw : Tab f_l_draw = some ⟨3, 3, s_l_draw⟩ := rfl
theorem T_l_same_number : Tab f_l_same_number = some ⟨2, 2, s_l_same_number⟩ := rfl
theorem T_l_some_group : Tab f_l_some_group = some ⟨4, 9, s_l_some_group⟩ := rfl
theorem T_l_some_bill : Tab f_l_some_bill = some ⟨4, 12, s_l_some_bill⟩ := rfl
theorem T_l_items : Tab f_l_items = some ⟨1, 3, s_l_items⟩ := rfl
theorem T_l_lots : Tab f_l_lots = some ⟨1, 9, s_l_lots⟩ := rfl
theorem T_law_k01 : Tab f_law_k01 = some ⟨1, 11, s_law_k01⟩ := rfl
theorem T_is_wish : Tab f_is_wish = some ⟨2, 2, s_is_wish⟩ := rfl
theorem T_good_wishes : Tab f_good_wishes = some ⟨2, 4, s_good_wishes⟩ := rfl
theorem T_are_wishes : Tab f_are_wishes = some ⟨2, 2, s_are_wishes⟩ := rfl
theorem T_need_wishes : Tab f_need_wishes = some ⟨2, 2, s_need_wishes⟩ := rfl
theorem T_bounds_of : Tab f_bounds_of = some ⟨4, 7, s_bounds_of⟩ := rfl
theorem T_bounds : Tab f_bounds = some ⟨3, 3, s_bounds⟩ := rfl
theorem T_all_bounds : Tab f_all_bounds = some ⟨2, 4, s_all_bounds⟩ := rfl
theorem T_good_outline : Tab f_good_outline = some ⟨2, 4, s_good_outline⟩ := rfl
theorem T_need_outline : Tab f_need_outline = some ⟨2, 2, s_need_outline⟩ := rfl
theorem T_sum_at : Tab f_sum_at = some ⟨2, 3, s_sum_at⟩ := rfl
theorem T_breaks_of : Tab f_breaks_of = some ⟨2, 6, s_breaks_of⟩ := rfl
theorem T_keeps : Tab f_keeps = some ⟨3, 3, s_keeps⟩ := rfl
theorem T_breaks : Tab f_breaks = some ⟨3, 3, s_breaks⟩ := rfl
theorem T_l_pick : Tab f_l_pick = some ⟨3, 3, s_l_pick⟩ := rfl
theorem T_l_same_truth : Tab f_l_same_truth = some ⟨2, 2, s_l_same_truth⟩ := rfl
theorem T_l_rows : Tab f_l_rows = some ⟨2, 9, s_l_rows⟩ := rfl
theorem T_l_outlines : Tab f_l_outlines = some ⟨1, 6, s_l_outlines⟩ := rfl
theorem T_l_broken : Tab f_l_broken = some ⟨2, 8, s_l_broken⟩ := rfl
theorem T_l_some_wishes : Tab f_l_some_wishes = some ⟨4, 9, s_l_some_wishes⟩ := rfl
theorem T_law_k02 : Tab f_law_k02 = some ⟨1, 13, s_law_k02⟩ := rfl
theorem T_outlines : Tab f_outlines = some ⟨1, 6, s_outlines⟩ := rfl
theorem T_kept : Tab f_kept = some ⟨2, 4, s_kept⟩ := rfl
theorem T_first_of : Tab f_first_of = some ⟨2, 4, s_first_of⟩ := rfl
theorem T_rounding : Tab f_rounding = some ⟨2, 2, s_rounding⟩ := rfl
theorem T_how_many : Tab f_how_many = some ⟨2, 2, s_how_many⟩ := rfl
theorem T_l_kept : Tab f_l_kept = some ⟨2, 4, s_l_kept⟩ := rfl
theorem T_law_k03 : Tab f_law_k03 = some ⟨1, 5, s_law_k03⟩ := rfl
theorem T_parents : Tab f_parents = some ⟨3, 6, s_parents⟩ := rfl
theorem T_parents_of : Tab f_parents_of = some ⟨1, 2, s_parents_of⟩ := rfl
theorem T_pipes_of : Tab f_pipes_of = some ⟨1, 5, s_pipes_of⟩ := rfl
theorem T_steps_from : Tab f_steps_from = some ⟨3, 8, s_steps_from⟩ := rfl
theorem T_ways_from : Tab f_ways_from = some ⟨3, 10, s_ways_from⟩ := rfl
theorem T_turned : Tab f_turned = some ⟨4, 10, s_turned⟩ := rfl
theorem T_bad_pipe : Tab f_bad_pipe = some ⟨1, 5, s_bad_pipe⟩ := rfl
theorem T_cut_of : Tab f_cut_of = some ⟨2, 5, s_cut_of⟩ := rfl
theorem T_paper_of : Tab f_paper_of = some ⟨2, 14, s_paper_of⟩ := rfl
theorem T_need_two : Tab f_need_two = some ⟨1, 1, s_need_two⟩ := rfl
theorem T_paper : Tab f_paper = some ⟨2, 3, s_paper⟩ := rfl
theorem T_are_spots : Tab f_are_spots = some ⟨2, 4, s_are_spots⟩ := rfl
theorem T_is_paper : Tab f_is_paper = some ⟨3, 10, s_is_paper⟩ := rfl
theorem T_l_which : Tab f_l_which = some ⟨1, 2, s_l_which⟩ := rfl
theorem T_l_ask : Tab f_l_ask = some ⟨2, 3, s_l_ask⟩ := rfl
theorem T_law_k04 : Tab f_law_k04 = some ⟨1, 13, s_law_k04⟩ := rfl
theorem T_l_right : Tab f_l_right = some ⟨3, 10, s_l_right⟩ := rfl
theorem T_law_k05 : Tab f_law_k05 = some ⟨1, 22, s_law_k05⟩ := rfl
theorem T_broken_rows : Tab f_broken_rows = some ⟨2, 7, s_broken_rows⟩ := rfl
theorem T_met : Tab f_met = some ⟨3, 9, s_met⟩ := rfl
theorem T_bars : Tab f_bars = some ⟨2, 10, s_bars⟩ := rfl
theorem T_l_ask_2 : Tab f_l_ask_2 = some ⟨2, 3, s_l_ask_2⟩ := rfl
theorem T_l_lots_of : Tab f_l_lots_of = some ⟨2, 7, s_l_lots_of⟩ := rfl
theorem T_law_k06 : Tab f_law_k06 = some ⟨1, 17, s_law_k06⟩ := rfl
theorem T_free : Tab f_free = some ⟨2, 5, s_free⟩ := rfl
theorem T_law_k07 : Tab f_law_k07 = some ⟨1, 11, s_law_k07⟩ := rfl
theorem T_off_by : Tab f_off_by = some ⟨2, 4, s_off_by⟩ := rfl
theorem T_closest : Tab f_closest = some ⟨2, 4, s_closest⟩ := rfl
theorem T_nearest : Tab f_nearest = some ⟨3, 7, s_nearest⟩ := rfl
theorem T_law_k08 : Tab f_law_k08 = some ⟨1, 16, s_law_k08⟩ := rfl
theorem T__wall : Tab f__wall = some ⟨1, 1, s__wall⟩ := rfl
theorem T_Books_init : Tab f_Books_init = some ⟨2, 2, s_Books_init⟩ := rfl
theorem T_Books_call : Tab f_Books_call = some ⟨3, 3, s_Books_call⟩ := rfl
theorem T_Books_at_spot : Tab f_Books_at_spot = some ⟨2, 3, s_Books_at_spot⟩ := rfl
theorem T_Books_wish : Tab f_Books_wish = some ⟨3, 5, s_Books_wish⟩ := rfl
theorem T_Books_drop : Tab f_Books_drop = some ⟨2, 2, s_Books_drop⟩ := rfl
theorem T_Books_change : Tab f_Books_change = some ⟨3, 3, s_Books_change⟩ := rfl
theorem T_Books_rounding : Tab f_Books_rounding = some ⟨1, 1, s_Books_rounding⟩ := rfl
theorem T_Books_bill : Tab f_Books_bill = some ⟨1, 1, s_Books_bill⟩ := rfl
theorem T_Books_wishes : Tab f_Books_wishes = some ⟨1, 1, s_Books_wishes⟩ := rfl
theorem T_Books_back : Tab f_Books_back = some ⟨1, 1, s_Books_back⟩ := rfl
theorem T_Books_twin : Tab f_Books_twin = some ⟨1, 1, s_Books_twin⟩ := rfl
theorem T_Books_eq : Tab f_Books_eq = some ⟨2, 2, s_Books_eq⟩ := rfl
theorem T_Books_len : Tab f_Books_len = some ⟨1, 1, s_Books_len⟩ := rfl
theorem T_Books_str : Tab f_Books_str = some ⟨1, 3, s_Books_str⟩ := rfl
theorem T_nest_words : Tab f_nest_words = some ⟨1, 3, s_nest_words⟩ := rfl
theorem T_text_of : Tab f_text_of = some ⟨1, 3, s_text_of⟩ := rfl
theorem T_bill_text : Tab f_bill_text = some ⟨1, 1, s_bill_text⟩ := rfl
theorem T_wishes_of : Tab f_wishes_of = some ⟨1, 5, s_wishes_of⟩ := rfl
theorem T_wishes_text : Tab f_wishes_text = some ⟨2, 2, s_wishes_text⟩ := rfl
theorem T_number_in : Tab f_number_in = some ⟨1, 2, s_number_in⟩ := rfl
theorem T_wish_in : Tab f_wish_in = some ⟨1, 2, s_wish_in⟩ := rfl
theorem T_read_wishes : Tab f_read_wishes = some ⟨2, 4, s_read_wishes⟩ := rfl
theorem T_l_ask_3 : Tab f_l_ask_3 = some ⟨4, 5, s_l_ask_3⟩ := rfl
theorem T_l_no_bills : Tab f_l_no_bills = some ⟨0, 4, s_l_no_bills⟩ := rfl
theorem T_l_wishes_refused : Tab f_l_wishes_refused = some ⟨3, 10, s_l_wishes_refused⟩ := rfl
theorem T_law_k09 : Tab f_law_k09 = some ⟨1, 9, s_law_k09⟩ := rfl
theorem T_group_at : Tab f_group_at = some ⟨2, 4, s_group_at⟩ := rfl
theorem T_nesting_in : Tab f_nesting_in = some ⟨1, 2, s_nesting_in⟩ := rfl
theorem T_read_bill : Tab f_read_bill = some ⟨1, 6, s_read_bill⟩ := rfl
theorem T_l_ask_4 : Tab f_l_ask_4 = some ⟨3, 4, s_l_ask_4⟩ := rfl
theorem T_l_words : Tab f_l_words = some ⟨1, 3, s_l_words⟩ := rfl
theorem T_l_bill_text : Tab f_l_bill_text = some ⟨1, 4, s_l_bill_text⟩ := rfl
theorem T_l_wishes_text : Tab f_l_wishes_text = some ⟨1, 5, s_l_wishes_text⟩ := rfl
theorem T_l_number : Tab f_l_number = some ⟨1, 2, s_l_number⟩ := rfl
theorem T_l_tree : Tab f_l_tree = some ⟨1, 5, s_l_tree⟩ := rfl
theorem T_l_parse : Tab f_l_parse = some ⟨2, 6, s_l_parse⟩ := rfl
theorem T_law_k10 : Tab f_law_k10 = some ⟨1, 14, s_law_k10⟩ := rfl
theorem T_Books_drop_2 : Tab f_Books_drop_2 = some ⟨2, 6, s_Books_drop_2⟩ := rfl
theorem T_Books_change_2 : Tab f_Books_change_2 = some ⟨3, 6, s_Books_change_2⟩ := rfl
theorem T_Books_twin_2 : Tab f_Books_twin_2 = some ⟨1, 1, s_Books_twin_2⟩ := rfl
theorem T_l_call : Tab f_l_call = some ⟨2, 3, s_l_call⟩ := rfl
theorem T_law_k11 : Tab f_law_k11 = some ⟨1, 22, s_law_k11⟩ := rfl
theorem T_Books_twin_3 : Tab f_Books_twin_3 = some ⟨1, 2, s_Books_twin_3⟩ := rfl
theorem T_l_call_2 : Tab f_l_call_2 = some ⟨2, 2, s_l_call_2⟩ := rfl
theorem T_l_look : Tab f_l_look = some ⟨1, 1, s_l_look⟩ := rfl
theorem T_l_none_back : Tab f_l_none_back = some ⟨1, 1, s_l_none_back⟩ := rfl
theorem T_law_k12 : Tab f_law_k12 = some ⟨1, 17, s_law_k12⟩ := rfl
theorem T_l_ask_5 : Tab f_l_ask_5 = some ⟨4, 5, s_l_ask_5⟩ := rfl
theorem T_law_k13 : Tab f_law_k13 = some ⟨1, 10, s_law_k13⟩ := rfl
theorem T_law_k14 : Tab f_law_k14 = some ⟨1, 19, s_law_k14⟩ := rfl
theorem T_Books_change_3 : Tab f_Books_change_3 = some ⟨3, 3, s_Books_change_3⟩ := rfl
theorem T_Books_back_2 : Tab f_Books_back_2 = some ⟨1, 1, s_Books_back_2⟩ := rfl
theorem T_law_k15 : Tab f_law_k15 = some ⟨1, 13, s_law_k15⟩ := rfl
theorem T_Books_back_3 : Tab f_Books_back_3 = some ⟨1, 1, s_Books_back_3⟩ := rfl
theorem T_Books_twin_4 : Tab f_Books_twin_4 = some ⟨1, 1, s_Books_twin_4⟩ := rfl
theorem T_l_lists : Tab f_l_lists = some ⟨4, 5, s_l_lists⟩ := rfl
theorem T_law_k16 : Tab f_law_k16 = some ⟨1, 12, s_law_k16⟩ := rfl
theorem T_days : Tab f_days = some ⟨1, 7, s_days⟩ := rfl
theorem T_are_days : Tab f_are_days = some ⟨2, 5, s_are_days⟩ := rfl
theorem T_law_k17 : Tab f_law_k17 = some ⟨1, 19, s_law_k17⟩ := rfl
theorem T_l_due : Tab f_l_due = some ⟨3, 6, s_l_due⟩ := rfl
theorem T_law_k18 : Tab f_law_k18 = some ⟨1, 16, s_law_k18⟩ := rfl
theorem T_need_ones : Tab f_need_ones = some ⟨1, 1, s_need_ones⟩ := rfl
theorem T_with_amounts : Tab f_with_amounts = some ⟨2, 3, s_with_amounts⟩ := rfl
theorem T_raised : Tab f_raised = some ⟨3, 4, s_raised⟩ := rfl
theorem T_mirrored : Tab f_mirrored = some ⟨2, 3, s_mirrored⟩ := rfl
theorem T_l_which_2 : Tab f_l_which_2 = some ⟨1, 2, s_l_which_2⟩ := rfl
theorem T_l_paper : Tab f_l_paper = some ⟨2, 3, s_l_paper⟩ := rfl
theorem T_law_k19 : Tab f_law_k19 = some ⟨1, 20, s_law_k19⟩ := rfl
theorem T_renamed : Tab f_renamed = some ⟨2, 3, s_renamed⟩ := rfl
theorem T_named : Tab f_named = some ⟨2, 6, s_named⟩ := rfl
theorem T_l_order_of : Tab f_l_order_of = some ⟨3, 5, s_l_order_of⟩ := rfl
theorem T_l_anew : Tab f_l_anew = some ⟨2, 4, s_l_anew⟩ := rfl
theorem T_law_k20 : Tab f_law_k20 = some ⟨1, 16, s_law_k20⟩ := rfl
theorem T_l_choose : Tab f_l_choose = some ⟨2, 4, s_l_choose⟩ := rfl
theorem T_law_k21 : Tab f_law_k21 = some ⟨1, 16, s_law_k21⟩ := rfl
theorem T_l_ask_6 : Tab f_l_ask_6 = some ⟨4, 5, s_l_ask_6⟩ := rfl
theorem T_law_k22 : Tab f_law_k22 = some ⟨1, 10, s_law_k22⟩ := rfl
end Bo

set_option Elab.async false
set_option maxRecDepth 100000
/-! the link of law k13, printed by gen2.py -/
namespace Bo.Lk13
open PySem Bo
def fnL : List (Nat × Str) := [(f__wall, ("_wall" : Str)),
  (f_is_whole, ("is_whole" : Str)),
  (f_items_in, ("items_in" : Str)),
  (f_is_nesting, ("is_nesting" : Str)),
  (f_good_bill, ("good_bill" : Str)),
  (f_need_bill, ("need_bill" : Str)),
  (f_groups_in, ("groups_in" : Str)),
  (f_groups_of, ("groups_of" : Str)),
  (f_lots_of, ("lots_of" : Str)),
  (f_is_spot, ("is_spot" : Str)),
  (f_need_spot, ("need_spot" : Str)),
  (f_amount_of, ("amount_of" : Str)),
  (f_ends_of, ("ends_of" : Str)),
  (f_bounds_of, ("bounds_of" : Str)),
  (f_all_bounds, ("all_bounds" : Str)),
  (f_sum_at, ("sum_at" : Str)),
  (f_breaks_of, ("breaks_of" : Str)),
  (f_outlines, ("outlines" : Str)),
  (f_first_of, ("first_of" : Str)),
  (f_l_same_truth, ("_law_same_truth" : Str)),
  (f_l_ask_5, ("_law_ask" : Str)),
  (f_law_k13, ("law" : Str))]
def clL : List (Nat × Str) := [(0, ("RoundError" : Str)), (1, ("NoBill" : Str)), (2, ("NoNesting" : Str)), (3, ("NoSpot" : Str)), (4, ("NoWishes" : Str)), (5, ("NoOutline" : Str)), (6, ("ThreeNestings" : Str)), (7, ("Kept" : Str)), (8, ("NoText" : Str)), (9, ("NoWish" : Str)), (10, ("NoAmount" : Str)), (11, ("Nothing" : Str)), (12, ("NoOrder" : Str)), (13, ("Books" : Str))]
def mtL : List (Nat × Str) := [(f_Books_init, ("__init__" : Str)),
  (f_Books_call, ("call" : Str)),
  (f_Books_at_spot, ("at_spot" : Str)),
  (f_Books_wish, ("wish" : Str)),
  (f_Books_drop_2, ("drop" : Str)),
  (f_Books_change_2, ("change" : Str)),
  (f_Books_rounding, ("rounding" : Str)),
  (f_Books_bill, ("bill" : Str)),
  (f_Books_wishes, ("wishes" : Str)),
  (f_Books_back, ("back" : Str)),
  (f_Books_twin_2, ("twin" : Str)),
  (f_Books_eq, ("__eq__" : Str)),
  (f_Books_len, ("__len__" : Str)),
  (f_Books_str, ("__str__" : Str))]
def lk : Lk := ⟨fun f => fnL.lookup f, fun c => clL.lookup c, some ("_law_which" : Str), fun f => mtL.lookup f⟩
def N__wall : List Str := [("k" : Str)]
def P__wall : List Str := [("k" : Str)]
def G__wall : List (Str × D) := []
def N_is_whole : List Str := [("thing" : Str), ("low" : Str), ("high" : Str)]
def P_is_whole : List Str := [("thing" : Str), ("low" : Str), ("high" : Str)]
def G_is_whole : List (Str × D) := []
def N_items_in : List Str := [("thing" : Str), ("left" : Str), ("made" : Str), ("one" : Str), ("own" : Str)]
def P_items_in : List Str := [("thing" : Str), ("left" : Str)]
def G_items_in : List (Str × D) := [(("ITEMS" : Str), (.int 8))]
def N_is_nesting : List Str := [("many" : Str), ("thing" : Str), ("found" : Str)]
def P_is_nesting : List Str := [("many" : Str), ("thing" : Str)]
def G_is_nesting : List (Str × D) := [(("DEEP" : Str), (.int 4))]
def N_good_bill : List Str := [("thing" : Str), ("one" : Str)]
def P_good_bill : List Str := [("thing" : Str)]
def G_good_bill : List (Str × D) := [(("PARTS" : Str), (.int 24)), (("ITEMS" : Str), (.int 8)), (("AMOUNT" : Str), (.int 999)), (("NESTINGS" : Str), (.int 3))]
def N_need_bill : List Str := [("bill" : Str)]
def P_need_bill : List Str := [("bill" : Str)]
def G_need_bill : List (Str × D) := []
def N_groups_in : List Str := [("group" : Str), ("made" : Str), ("one" : Str)]
def P_groups_in : List Str := [("group" : Str)]
def G_groups_in : List (Str × D) := []
def N_groups_of : List Str := [("bill" : Str), ("nesting" : Str), ("group" : Str)]
def P_groups_of : List Str := [("bill" : Str), ("nesting" : Str)]
def G_groups_of : List (Str × D) := [(("DEEP" : Str), (.int 4))]
def N_lots_of : List Str := [("bill" : Str), ("made" : Str), ("nesting" : Str), ("number" : Str), ("own" : Str), ("item" : Str)]
def P_lots_of : List Str := [("bill" : Str)]
def G_lots_of : List (Str × D) := []
def N_is_spot : List Str := [("bill" : Str), ("thing" : Str), ("one" : Str)]
def P_is_spot : List Str := [("bill" : Str), ("thing" : Str)]
def G_is_spot : List (Str × D) := []
def N_need_spot : List Str := [("bill" : Str), ("spot" : Str)]
def P_need_spot : List Str := [("bill" : Str), ("spot" : Str)]
def G_need_spot : List (Str × D) := []
def N_amount_of : List Str := [("bill" : Str), ("items" : Str), ("item" : Str)]
def P_amount_of : List Str := [("bill" : Str), ("items" : Str)]
def G_amount_of : List (Str × D) := []
def N_ends_of : List Str := [("bill" : Str), ("items" : Str), ("total" : Str)]
def P_ends_of : List Str := [("bill" : Str), ("items" : Str)]
def G_ends_of : List (Str × D) := []
def N_bounds_of : List Str := [("bill" : Str), ("wishes" : Str), ("spot" : Str), ("items" : Str), ("low" : Str), ("high" : Str), ("least" : Str)]
def P_bounds_of : List Str := [("bill" : Str), ("wishes" : Str), ("spot" : Str), ("items" : Str)]
def G_bounds_of : List (Str × D) := []
def N_all_bounds : List Str := [("bill" : Str), ("wishes" : Str), ("lots" : Str), ("spot" : Str)]
def P_all_bounds : List Str := [("bill" : Str), ("wishes" : Str)]
def G_all_bounds : List (Str × D) := []
def N_sum_at : List Str := [("outline" : Str), ("items" : Str), ("item" : Str)]
def P_sum_at : List Str := [("outline" : Str), ("items" : Str)]
def G_sum_at : List (Str × D) := []
def N_breaks_of : List Str := [("rows" : Str), ("outline" : Str), ("spot" : Str), ("items" : Str), ("least" : Str), ("most" : Str)]
def P_breaks_of : List Str := [("rows" : Str), ("outline" : Str)]
def G_breaks_of : List (Str × D) := []
def N_outlines : List Str := [("bill" : Str), ("made" : Str), ("item" : Str), ("both" : Str), ("row" : Str), ("one" : Str)]
def P_outlines : List Str := [("bill" : Str)]
def G_outlines : List (Str × D) := []
def N_first_of : List Str := [("bill" : Str), ("wishes" : Str), ("rows" : Str), ("one" : Str)]
def P_first_of : List Str := [("bill" : Str), ("wishes" : Str)]
def G_first_of : List (Str × D) := []
def N_l_same_truth : List Str := [("_law_got" : Str), ("_law_due" : Str)]
def P_l_same_truth : List Str := [("_law_got" : Str), ("_law_due" : Str)]
def G_l_same_truth : List (Str × D) := []
def N_l_ask_5 : List Str := [("_law_what" : Str), ("_law_books" : Str), ("_law_one" : Str), ("_law_two" : Str), ("_law_e" : Str)]
def P_l_ask_5 : List Str := [("_law_what" : Str), ("_law_books" : Str), ("_law_one" : Str), ("_law_two" : Str)]
def G_l_ask_5 : List (Str × D) := []
def N_law_k13 : List Str := [("_law_script" : Str), ("_law_town" : Str), ("_law_bill" : Str), ("_law_books" : Str), ("_law_item" : Str), ("_law_off" : Str), ("_law_spots_there" : Str), ("_law_again" : Str), ("_law_what" : Str), ("_law_spot" : Str)]
def P_law_k13 : List Str := [("_law_script" : Str)]
def G_law_k13 : List (Str × D) := []
def N_Books_init : List Str := [("self" : Str), ("bill" : Str)]
def P_Books_init : List Str := [("self" : Str), ("bill" : Str)]
def G_Books_init : List (Str × D) := []
def N_Books_call : List Str := [("self" : Str), ("name" : Str), ("how" : Str)]
def P_Books_call : List Str := [("self" : Str), ("name" : Str), ("how" : Str)]
def G_Books_call : List (Str × D) := []
def N_Books_at_spot : List Str := [("self" : Str), ("spot" : Str), ("wish" : Str)]
def P_Books_at_spot : List Str := [("self" : Str), ("spot" : Str)]
def G_Books_at_spot : List (Str × D) := []
def N_Books_wish : List Str := [("self" : Str), ("spot" : Str), ("word" : Str), ("bill" : Str), ("wishes" : Str)]
def P_Books_wish : List Str := [("self" : Str), ("spot" : Str), ("word" : Str)]
def G_Books_wish : List (Str × D) := [(("WORDS" : Str), (.ktp [(.str ⟨#[117, 112]⟩), (.str ⟨#[100, 111, 119, 110]⟩)])), (("MOST" : Str), (.int 8))]
def N_Books_drop_2 : List Str := [("self" : Str), ("spot" : Str), ("bill" : Str), ("wishes" : Str), ("found" : Str), ("wish" : Str)]
def P_Books_drop_2 : List Str := [("self" : Str), ("spot" : Str)]
def G_Books_drop_2 : List (Str × D) := []
def N_Books_change_2 : List Str := [("self" : Str), ("item" : Str), ("amount" : Str), ("bill" : Str), ("wishes" : Str), ("amounts" : Str)]
def P_Books_change_2 : List Str := [("self" : Str), ("item" : Str), ("amount" : Str)]
def G_Books_change_2 : List (Str × D) := [(("AMOUNT" : Str), (.int 999))]
def N_Books_rounding : List Str := [("self" : Str)]
def P_Books_rounding : List Str := [("self" : Str)]
def G_Books_rounding : List (Str × D) := []
def N_Books_bill : List Str := [("self" : Str)]
def P_Books_bill : List Str := [("self" : Str)]
def G_Books_bill : List (Str × D) := []
def N_Books_wishes : List Str := [("self" : Str)]
def P_Books_wishes : List Str := [("self" : Str)]
def G_Books_wishes : List (Str × D) := []
def N_Books_back : List Str := [("self" : Str)]
def P_Books_back : List Str := [("self" : Str)]
def G_Books_back : List (Str × D) := []
def N_Books_twin_2 : List Str := [("self" : Str)]
def P_Books_twin_2 : List Str := [("self" : Str)]
def G_Books_twin_2 : List (Str × D) := []
def N_Books_eq : List Str := [("self" : Str), ("other" : Str)]
def P_Books_eq : List Str := [("self" : Str), ("other" : Str)]
def G_Books_eq : List (Str × D) := []
def N_Books_len : List Str := [("self" : Str)]
def P_Books_len : List Str := [("self" : Str)]
def G_Books_len : List (Str × D) := []
def N_Books_str : List Str := [("self" : Str), ("found" : Str), ("one" : Str)]
def P_Books_str : List Str := [("self" : Str)]
def G_Books_str : List (Str × D) := []
def N_l_which : List Str := [("_law_e" : Str), ("_law_own" : Str)]
def P_l_which : List Str := [("_law_e" : Str)]
end Bo.Lk13

set_option Elab.async false
set_option linter.all false
set_option maxRecDepth 100000
/-! P_k13: the plain law of k13: nothing is drawn, the evaluator runs. -/
namespace Bo
open PySem
def isTrue1 (r : Option (Rs D × M)) : Bool := match r with
  | some (.ok (.bl true), _) => true
  | _ => false
theorem isTrue1_ex {r : Option (Rs D × M)} (h : isTrue1 r = true) : ∃ m, r = some (.ok (.bl true), m) := by
  unfold isTrue1 at h
  split at h
  · exact ⟨_, rfl⟩
  · cases h
set_option maxHeartbeats 0 in
theorem k13_runs (ns : List Int) : isTrue1 (callN Tab 40 f_law_k13 [.arg ns] []) = true := by kernel_rfl
end Bo
namespace Bo.Lk13
open PySem Bo
theorem law_ok : LawP Tab 40 f_law_k13 := fun ns _ _ => isTrue1_ex (k13_runs ns)
end Bo.Lk13

set_option Elab.async false
set_option linter.all false
set_option maxRecDepth 100000
/-! the end of law k13, printed by gen3.py -/
namespace Bo.Lk13
open PySem L2 Bo
def top (i : Nat) : Stmt := PySem.Challenge.pw_bothrounds_k13_books_refused.main.body.getD i (.Pass ⟨0, 0, 0, 0⟩)
abbrev t__wall : Stmt := top 0
theorem sc__wall : FnScope N__wall P__wall (defScope t__wall) := ⟨rfl, rfl, rfl, by decide +kernel, rfl, by decide +kernel, by decide +kernel⟩
theorem m__wall : mB lk G__wall N__wall s__wall (defScope t__wall) (defBody t__wall) = true := by decide +kernel
abbrev t_is_whole : Stmt := top 21
theorem sc_is_whole : FnScope N_is_whole P_is_whole (defScope t_is_whole) := ⟨rfl, rfl, rfl, by decide +kernel, rfl, by decide +kernel, by decide +kernel⟩
theorem m_is_whole : mB lk G_is_whole N_is_whole s_is_whole (defScope t_is_whole) (defBody t_is_whole) = true := by decide +kernel
abbrev t_items_in : Stmt := top 22
theorem sc_items_in : FnScope N_items_in P_items_in (defScope t_items_in) := ⟨rfl, rfl, rfl, by decide +kernel, rfl, by decide +kernel, by decide +kernel⟩
theorem m_items_in : mB lk G_items_in N_items_in s_items_in (defScope t_items_in) (defBody t_items_in) = true := by decide +kernel
abbrev t_is_nesting : Stmt := top 23
theorem sc_is_nesting : FnScope N_is_nesting P_is_nesting (defScope t_is_nesting) := ⟨rfl, rfl, rfl, by decide +kernel, rfl, by decide +kernel, by decide +kernel⟩
theorem m_is_nesting : mB lk G_is_nesting N_is_nesting s_is_nesting (defScope t_is_nesting) (defBody t_is_nesting) = true := by decide +kernel
abbrev t_good_bill : Stmt := top 24
theorem sc_good_bill : FnScope N_good_bill P_good_bill (defScope t_good_bill) := ⟨rfl, rfl, rfl, by decide +kernel, rfl, by decide +kernel, by decide +kernel⟩
theorem m_good_bill : mB lk G_good_bill N_good_bill s_good_bill (defScope t_good_bill) (defBody t_good_bill) = true := by decide +kernel
abbrev t_need_bill : Stmt := top 25
theorem sc_need_bill : FnScope N_need_bill P_need_bill (defScope t_need_bill) := ⟨rfl, rfl, rfl, by decide +kernel, rfl, by decide +kernel, by decide +kernel⟩
theorem m_need_bill : mB lk G_need_bill N_need_bill s_need_bill (defScope t_need_bill) (defBody t_need_bill) = true := by decide +kernel
abbrev t_groups_in : Stmt := top 26
theorem sc_groups_in : FnScope N_groups_in P_groups_in (defScope t_groups_in) := ⟨rfl, rfl, rfl, by decide +kernel, rfl, by decide +kernel, by decide +kernel⟩
theorem m_groups_in : mB lk G_groups_in N_groups_in s_groups_in (defScope t_groups_in) (defBody t_groups_in) = true := by decide +kernel
abbrev t_groups_of : Stmt := top 27
theorem sc_groups_of : FnScope N_groups_of P_groups_of (defScope t_groups_of) := ⟨rfl, rfl, rfl, by decide +kernel, rfl, by decide +kernel, by decide +kernel⟩
theorem m_groups_of : mB lk G_groups_of N_groups_of s_groups_of (defScope t_groups_of) (defBody t_groups_of) = true := by decide +kernel
abbrev t_lots_of : Stmt := top 28
theorem sc_lots_of : FnScope N_lots_of P_lots_of (defScope t_lots_of) := ⟨rfl, rfl, rfl, by decide +kernel, rfl, by decide +kernel, by decide +kernel⟩
theorem m_lots_of : mB lk G_lots_of N_lots_of s_lots_of (defScope t_lots_of) (defBody t_lots_of) = true := by decide +kernel
abbrev t_is_spot : Stmt := top 29
theorem sc_is_spot : FnScope N_is_spot P_is_spot (defScope t_is_spot) := ⟨rfl, rfl, rfl, by decide +kernel, rfl, by decide +kernel, by decide +kernel⟩
theorem m_is_spot : mB lk G_is_spot N_is_spot s_is_spot (defScope t_is_spot) (defBody t_is_spot) = true := by decide +kernel
abbrev t_need_spot : Stmt := top 30
theorem sc_need_spot : FnScope N_need_spot P_need_spot (defScope t_need_spot) := ⟨rfl, rfl, rfl, by decide +kernel, rfl, by decide +kernel, by decide +kernel⟩
theorem m_need_spot : mB lk G_need_spot N_need_spot s_need_spot (defScope t_need_spot) (defBody t_need_spot) = true := by decide +kernel
abbrev t_amount_of : Stmt := top 31
theorem sc_amount_of : FnScope N_amount_of P_amount_of (defScope t_amount_of) := ⟨rfl, rfl, rfl, by decide +kernel, rfl, by decide +kernel, by decide +kernel⟩
theorem m_amount_of : mB lk G_amount_of N_amount_of s_amount_of (defScope t_amount_of) (defBody t_amount_of) = true := by decide +kernel
abbrev t_ends_of : Stmt := top 32
theorem sc_ends_of : FnScope N_ends_of P_ends_of (defScope t_ends_of) := ⟨rfl, rfl, rfl, by decide +kernel, rfl, by decide +kernel, by decide +kernel⟩
theorem m_ends_of : mB lk G_ends_of N_ends_of s_ends_of (defScope t_ends_of) (defBody t_ends_of) = true := by decide +kernel
abbrev t_bounds_of : Stmt := top 36
theorem sc_bounds_of : FnScope N_bounds_of P_bounds_of (defScope t_bounds_of) := ⟨rfl, rfl, rfl, by decide +kernel, rfl, by decide +kernel, by decide +kernel⟩
theorem m_bounds_of : mB lk G_bounds_of N_bounds_of s_bounds_of (defScope t_bounds_of) (defBody t_bounds_of) = true := by decide +kernel
abbrev t_all_bounds : Stmt := top 37
theorem sc_all_bounds : FnScope N_all_bounds P_all_bounds (defScope t_all_bounds) := ⟨rfl, rfl, rfl, by decide +kernel, rfl, by decide +kernel, by decide +kernel⟩
theorem m_all_bounds : mB lk G_all_bounds N_all_bounds s_all_bounds (defScope t_all_bounds) (defBody t_all_bounds) = true := by decide +kernel
abbrev t_sum_at : Stmt := top 38
theorem sc_sum_at : FnScope N_sum_at P_sum_at (defScope t_sum_at) := ⟨rfl, rfl, rfl, by decide +kernel, rfl, by decide +kernel, by decide +kernel⟩
theorem m_sum_at : mB lk G_sum_at N_sum_at s_sum_at (defScope t_sum_at) (defBody t_sum_at) = true := by decide +kernel
abbrev t_breaks_of : Stmt := top 39
theorem sc_breaks_of : FnScope N_breaks_of P_breaks_of (defScope t_breaks_of) := ⟨rfl, rfl, rfl, by decide +kernel, rfl, by decide +kernel, by decide +kernel⟩
theorem m_breaks_of : mB lk G_breaks_of N_breaks_of s_breaks_of (defScope t_breaks_of) (defBody t_breaks_of) = true := by decide +kernel
abbrev t_outlines : Stmt := top 41
theorem sc_outlines : FnScope N_outlines P_outlines (defScope t_outlines) := ⟨rfl, rfl, rfl, by decide +kernel, rfl, by decide +kernel, by decide +kernel⟩
theorem m_outlines : mB lk G_outlines N_outlines s_outlines (defScope t_outlines) (defBody t_outlines) = true := by decide +kernel
abbrev t_first_of : Stmt := top 42
theorem sc_first_of : FnScope N_first_of P_first_of (defScope t_first_of) := ⟨rfl, rfl, rfl, by decide +kernel, rfl, by decide +kernel, by decide +kernel⟩
theorem m_first_of : mB lk G_first_of N_first_of s_first_of (defScope t_first_of) (defBody t_first_of) = true := by decide +kernel
abbrev t_l_same_truth : Stmt := top 46
theorem sc_l_same_truth : FnScope N_l_same_truth P_l_same_truth (defScope t_l_same_truth) := ⟨rfl, rfl, rfl, by decide +kernel, rfl, by decide +kernel, by decide +kernel⟩
theorem m_l_same_truth : mB lk G_l_same_truth N_l_same_truth s_l_same_truth (defScope t_l_same_truth) (defBody t_l_same_truth) = true := by decide +kernel
abbrev t_l_ask_5 : Stmt := top 48
theorem sc_l_ask_5 : FnScope N_l_ask_5 P_l_ask_5 (defScope t_l_ask_5) := ⟨rfl, rfl, rfl, by decide +kernel, rfl, by decide +kernel, by decide +kernel⟩
theorem m_l_ask_5 : mB lk G_l_ask_5 N_l_ask_5 s_l_ask_5 (defScope t_l_ask_5) (defBody t_l_ask_5) = true := by decide +kernel
abbrev t_law_k13 : Stmt := top 49
theorem sc_law_k13 : FnScope N_law_k13 P_law_k13 (defScope t_law_k13) := ⟨rfl, rfl, rfl, by decide +kernel, rfl, by decide +kernel, by decide +kernel⟩
theorem m_law_k13 : mB lk G_law_k13 N_law_k13 s_law_k13 (defScope t_law_k13) (defBody t_law_k13) = true := by decide +kernel
def topM (i j : Nat) : Stmt := match top i with
  | .ClassDef _ _ _ b _ _ _ _ _ _ _ => b.getD j (.Pass ⟨0, 0, 0, 0⟩)
  | s => s
abbrev t_Books_init : Stmt := topM 44 0
theorem sc_Books_init : FnScope N_Books_init P_Books_init (defScope t_Books_init) := ⟨rfl, rfl, rfl, by decide +kernel, rfl, by decide +kernel, by decide +kernel⟩
theorem m_Books_init : mB lk G_Books_init N_Books_init s_Books_init (defScope t_Books_init) (defBody t_Books_init) = true := by decide +kernel
abbrev t_Books_call : Stmt := topM 44 1
theorem sc_Books_call : FnScope N_Books_call P_Books_call (defScope t_Books_call) := ⟨rfl, rfl, rfl, by decide +kernel, rfl, by decide +kernel, by decide +kernel⟩
theorem m_Books_call : mB lk G_Books_call N_Books_call s_Books_call (defScope t_Books_call) (defBody t_Books_call) = true := by decide +kernel
abbrev t_Books_at_spot : Stmt := topM 44 2
theorem sc_Books_at_spot : FnScope N_Books_at_spot P_Books_at_spot (defScope t_Books_at_spot) := ⟨rfl, rfl, rfl, by decide +kernel, rfl, by decide +kernel, by decide +kernel⟩
theorem m_Books_at_spot : mB lk G_Books_at_spot N_Books_at_spot s_Books_at_spot (defScope t_Books_at_spot) (defBody t_Books_at_spot) = true := by decide +kernel
abbrev t_Books_wish : Stmt := topM 44 3
theorem sc_Books_wish : FnScope N_Books_wish P_Books_wish (defScope t_Books_wish) := ⟨rfl, rfl, rfl, by decide +kernel, rfl, by decide +kernel, by decide +kernel⟩
theorem m_Books_wish : mB lk G_Books_wish N_Books_wish s_Books_wish (defScope t_Books_wish) (defBody t_Books_wish) = true := by decide +kernel
abbrev t_Books_drop_2 : Stmt := topM 44 4
theorem sc_Books_drop_2 : FnScope N_Books_drop_2 P_Books_drop_2 (defScope t_Books_drop_2) := ⟨rfl, rfl, rfl, by decide +kernel, rfl, by decide +kernel, by decide +kernel⟩
theorem m_Books_drop_2 : mB lk G_Books_drop_2 N_Books_drop_2 s_Books_drop_2 (defScope t_Books_drop_2) (defBody t_Books_drop_2) = true := by decide +kernel
abbrev t_Books_change_2 : Stmt := topM 44 5
theorem sc_Books_change_2 : FnScope N_Books_change_2 P_Books_change_2 (defScope t_Books_change_2) := ⟨rfl, rfl, rfl, by decide +kernel, rfl, by decide +kernel, by decide +kernel⟩
theorem m_Books_change_2 : mB lk G_Books_change_2 N_Books_change_2 s_Books_change_2 (defScope t_Books_change_2) (defBody t_Books_change_2) = true := by decide +kernel
abbrev t_Books_rounding : Stmt := topM 44 6
theorem sc_Books_rounding : FnScope N_Books_rounding P_Books_rounding (defScope t_Books_rounding) := ⟨rfl, rfl, rfl, by decide +kernel, rfl, by decide +kernel, by decide +kernel⟩
theorem m_Books_rounding : mB lk G_Books_rounding N_Books_rounding s_Books_rounding (defScope t_Books_rounding) (defBody t_Books_rounding) = true := by decide +kernel
abbrev t_Books_bill : Stmt := topM 44 7
theorem sc_Books_bill : FnScope N_Books_bill P_Books_bill (defScope t_Books_bill) := ⟨rfl, rfl, rfl, by decide +kernel, rfl, by decide +kernel, by decide +kernel⟩
theorem m_Books_bill : mB lk G_Books_bill N_Books_bill s_Books_bill (defScope t_Books_bill) (defBody t_Books_bill) = true := by decide +kernel
abbrev t_Books_wishes : Stmt := topM 44 8
theorem sc_Books_wishes : FnScope N_Books_wishes P_Books_wishes (defScope t_Books_wishes) := ⟨rfl, rfl, rfl, by decide +kernel, rfl, by decide +kernel, by decide +kernel⟩
theorem m_Books_wishes : mB lk G_Books_wishes N_Books_wishes s_Books_wishes (defScope t_Books_wishes) (defBody t_Books_wishes) = true := by decide +kernel
abbrev t_Books_back : Stmt := topM 44 9
theorem sc_Books_back : FnScope N_Books_back P_Books_back (defScope t_Books_back) := ⟨rfl, rfl, rfl, by decide +kernel, rfl, by decide +kernel, by decide +kernel⟩
theorem m_Books_back : mB lk G_Books_back N_Books_back s_Books_back (defScope t_Books_back) (defBody t_Books_back) = true := by decide +kernel
abbrev t_Books_twin_2 : Stmt := topM 44 10
theorem sc_Books_twin_2 : FnScope N_Books_twin_2 P_Books_twin_2 (defScope t_Books_twin_2) := ⟨rfl, rfl, rfl, by decide +kernel, rfl, by decide +kernel, by decide +kernel⟩
theorem m_Books_twin_2 : mB lk G_Books_twin_2 N_Books_twin_2 s_Books_twin_2 (defScope t_Books_twin_2) (defBody t_Books_twin_2) = true := by decide +kernel
abbrev t_Books_eq : Stmt := topM 44 11
theorem sc_Books_eq : FnScope N_Books_eq P_Books_eq (defScope t_Books_eq) := ⟨rfl, rfl, rfl, by decide +kernel, rfl, by decide +kernel, by decide +kernel⟩
theorem m_Books_eq : mB lk G_Books_eq N_Books_eq s_Books_eq (defScope t_Books_eq) (defBody t_Books_eq) = true := by decide +kernel
abbrev t_Books_len : Stmt := topM 44 12
theorem sc_Books_len : FnScope N_Books_len P_Books_len (defScope t_Books_len) := ⟨rfl, rfl, rfl, by decide +kernel, rfl, by decide +kernel, by decide +kernel⟩
theorem m_Books_len : mB lk G_Books_len N_Books_len s_Books_len (defScope t_Books_len) (defBody t_Books_len) = true := by decide +kernel
abbrev t_Books_str : Stmt := topM 44 13
theorem sc_Books_str : FnScope N_Books_str P_Books_str (defScope t_Books_str) := ⟨rfl, rfl, rfl, by decide +kernel, rfl, by decide +kernel, by decide +kernel⟩
theorem m_Books_str : mB lk G_Books_str N_Books_str s_Books_str (defScope t_Books_str) (defBody t_Books_str) = true := by decide +kernel
abbrev t_l_which : Stmt := top 47
theorem sc_l_which : FnScope N_l_which P_l_which (defScope t_l_which) := ⟨rfl, rfl, rfl, by decide +kernel, rfl, by decide +kernel, by decide +kernel⟩
theorem m_l_which : mWh lk N_l_which (defScope t_l_which) (defBody t_l_which) = true := by decide +kernel
def ad (a__wall a_is_whole a_items_in a_is_nesting a_good_bill a_need_bill a_groups_in a_groups_of a_lots_of a_is_spot a_need_spot a_amount_of a_ends_of a_bounds_of a_all_bounds a_sum_at a_breaks_of a_outlines a_first_of a_l_same_truth a_l_ask_5 a_law_k13 a_Books_init a_Books_call a_Books_at_spot a_Books_wish a_Books_drop_2 a_Books_change_2 a_Books_rounding a_Books_bill a_Books_wishes a_Books_back a_Books_twin_2 a_Books_eq a_Books_len a_Books_str c_RoundError c_NoBill c_NoNesting c_NoSpot c_NoWishes c_NoOutline c_ThreeNestings c_Kept c_NoText c_NoWish c_NoAmount c_Nothing c_NoOrder c_Books : Addr) : Ad where
  fa f := List.lookup f [(f__wall, a__wall), (f_is_whole, a_is_whole), (f_items_in, a_items_in), (f_is_nesting, a_is_nesting), (f_good_bill, a_good_bill), (f_need_bill, a_need_bill), (f_groups_in, a_groups_in), (f_groups_of, a_groups_of), (f_lots_of, a_lots_of), (f_is_spot, a_is_spot), (f_need_spot, a_need_spot), (f_amount_of, a_amount_of), (f_ends_of, a_ends_of), (f_bounds_of, a_bounds_of), (f_all_bounds, a_all_bounds), (f_sum_at, a_sum_at), (f_breaks_of, a_breaks_of), (f_outlines, a_outlines), (f_first_of, a_first_of), (f_l_same_truth, a_l_same_truth), (f_l_ask_5, a_l_ask_5), (f_law_k13, a_law_k13), (f_Books_init, a_Books_init), (f_Books_call, a_Books_call), (f_Books_at_spot, a_Books_at_spot), (f_Books_wish, a_Books_wish), (f_Books_drop_2, a_Books_drop_2), (f_Books_change_2, a_Books_change_2), (f_Books_rounding, a_Books_rounding), (f_Books_bill, a_Books_bill), (f_Books_wishes, a_Books_wishes), (f_Books_back, a_Books_back), (f_Books_twin_2, a_Books_twin_2), (f_Books_eq, a_Books_eq), (f_Books_len, a_Books_len), (f_Books_str, a_Books_str)]
  ca c := List.lookup c [(0, c_RoundError), (1, c_NoBill), (2, c_NoNesting), (3, c_NoSpot), (4, c_NoWishes), (5, c_NoOutline), (6, c_ThreeNestings), (7, c_Kept), (8, c_NoText), (9, c_NoWish), (10, c_NoAmount), (11, c_Nothing), (12, c_NoOrder), (13, c_Books)]
  hd := []
set_option maxHeartbeats 0 in
theorem all_mk {P : Program} {w : World} {K : PySem.W.Frag} {h : Heap} {mg : Str → Option Value} {fa : Addr} (X : K.In h) (G : h.Ns mainGlobals mg) (hfa : mg "law" = some (.ref fa))
    {a__wall a_is_whole a_items_in a_is_nesting a_good_bill a_need_bill a_groups_in a_groups_of a_lots_of a_is_spot a_need_spot a_amount_of a_ends_of a_bounds_of a_all_bounds a_sum_at a_breaks_of a_outlines a_first_of a_l_same_truth a_l_ask_5 a_law_k13 a_l_which a_Books_init a_Books_call a_Books_at_spot a_Books_wish a_Books_drop_2 a_Books_change_2 a_Books_rounding a_Books_bill a_Books_wishes a_Books_back a_Books_twin_2 a_Books_eq a_Books_len a_Books_str c_RoundError c_NoBill c_NoNesting c_NoSpot c_NoWishes c_NoOutline c_ThreeNestings c_Kept c_NoText c_NoWish c_NoAmount c_Nothing c_NoOrder c_Books : Addr}
    {od__wall an__wall od_is_whole an_is_whole od_items_in an_items_in od_is_nesting an_is_nesting od_good_bill an_good_bill od_need_bill an_need_bill od_groups_in an_groups_in od_groups_of an_groups_of od_lots_of an_lots_of od_is_spot an_is_spot od_need_spot an_need_spot od_amount_of an_amount_of od_ends_of an_ends_of od_bounds_of an_bounds_of od_all_bounds an_all_bounds od_sum_at an_sum_at od_breaks_of an_breaks_of od_outlines an_outlines od_first_of an_first_of od_l_same_truth an_l_same_truth od_l_ask_5 an_l_ask_5 od_law_k13 an_law_k13 od_l_which an_l_which od_Books_init an_Books_init od_Books_call an_Books_call od_Books_at_spot an_Books_at_spot od_Books_wish an_Books_wish od_Books_drop_2 an_Books_drop_2 od_Books_change_2 an_Books_change_2 od_Books_rounding an_Books_rounding od_Books_bill an_Books_bill od_Books_wishes an_Books_wishes od_Books_back an_Books_back od_Books_twin_2 an_Books_twin_2 od_Books_eq an_Books_eq od_Books_len an_Books_len od_Books_str an_Books_str : Option Addr} {sl__wall sl_is_whole sl_items_in sl_is_nesting sl_good_bill sl_need_bill sl_groups_in sl_groups_of sl_lots_of sl_is_spot sl_need_spot sl_amount_of sl_ends_of sl_bounds_of sl_all_bounds sl_sum_at sl_breaks_of sl_outlines sl_first_of sl_l_same_truth sl_l_ask_5 sl_law_k13 sl_l_which sl_Books_init sl_Books_call sl_Books_at_spot sl_Books_wish sl_Books_drop_2 sl_Books_change_2 sl_Books_rounding sl_Books_bill sl_Books_wishes sl_Books_back sl_Books_twin_2 sl_Books_eq sl_Books_len sl_Books_str : Array (Option Value)} {oc__wall kV__wall dc__wall pm__wall cd__wall ct__wall oc_is_whole kV_is_whole dc_is_whole pm_is_whole cd_is_whole ct_is_whole oc_items_in kV_items_in dc_items_in pm_items_in cd_items_in ct_items_in oc_is_nesting kV_is_nesting dc_is_nesting pm_is_nesting cd_is_nesting ct_is_nesting oc_good_bill kV_good_bill dc_good_bill pm_good_bill cd_good_bill ct_good_bill oc_need_bill kV_need_bill dc_need_bill pm_need_bill cd_need_bill ct_need_bill oc_groups_in kV_groups_in dc_groups_in pm_groups_in cd_groups_in ct_groups_in oc_groups_of kV_groups_of dc_groups_of pm_groups_of cd_groups_of ct_groups_of oc_lots_of kV_lots_of dc_lots_of pm_lots_of cd_lots_of ct_lots_of oc_is_spot kV_is_spot dc_is_spot pm_is_spot cd_is_spot ct_is_spot oc_need_spot kV_need_spot dc_need_spot pm_need_spot cd_need_spot ct_need_spot oc_amount_of kV_amount_of dc_amount_of pm_amount_of cd_amount_of ct_amount_of oc_ends_of kV_ends_of dc_ends_of pm_ends_of cd_ends_of ct_ends_of oc_bounds_of kV_bounds_of dc_bounds_of pm_bounds_of cd_bounds_of ct_bounds_of oc_all_bounds kV_all_bounds dc_all_bounds pm_all_bounds cd_all_bounds ct_all_bounds oc_sum_at kV_sum_at dc_sum_at pm_sum_at cd_sum_at ct_sum_at oc_breaks_of kV_breaks_of dc_breaks_of pm_breaks_of cd_breaks_of ct_breaks_of oc_outlines kV_outlines dc_outlines pm_outlines cd_outlines ct_outlines oc_first_of kV_first_of dc_first_of pm_first_of cd_first_of ct_first_of oc_l_same_truth kV_l_same_truth dc_l_same_truth pm_l_same_truth cd_l_same_truth ct_l_same_truth oc_l_ask_5 kV_l_ask_5 dc_l_ask_5 pm_l_ask_5 cd_l_ask_5 ct_l_ask_5 oc_law_k13 kV_law_k13 dc_law_k13 pm_law_k13 cd_law_k13 ct_law_k13 oc_l_which kV_l_which dc_l_which pm_l_which cd_l_which ct_l_which oc_Books_init kV_Books_init dc_Books_init pm_Books_init cd_Books_init ct_Books_init oc_Books_call kV_Books_call dc_Books_call pm_Books_call cd_Books_call ct_Books_call oc_Books_at_spot kV_Books_at_spot dc_Books_at_spot pm_Books_at_spot cd_Books_at_spot ct_Books_at_spot oc_Books_wish kV_Books_wish dc_Books_wish pm_Books_wish cd_Books_wish ct_Books_wish oc_Books_drop_2 kV_Books_drop_2 dc_Books_drop_2 pm_Books_drop_2 cd_Books_drop_2 ct_Books_drop_2 oc_Books_change_2 kV_Books_change_2 dc_Books_change_2 pm_Books_change_2 cd_Books_change_2 ct_Books_change_2 oc_Books_rounding kV_Books_rounding dc_Books_rounding pm_Books_rounding cd_Books_rounding ct_Books_rounding oc_Books_bill kV_Books_bill dc_Books_bill pm_Books_bill cd_Books_bill ct_Books_bill oc_Books_wishes kV_Books_wishes dc_Books_wishes pm_Books_wishes cd_Books_wishes ct_Books_wishes oc_Books_back kV_Books_back dc_Books_back pm_Books_back cd_Books_back ct_Books_back oc_Books_twin_2 kV_Books_twin_2 dc_Books_twin_2 pm_Books_twin_2 cd_Books_twin_2 ct_Books_twin_2 oc_Books_eq kV_Books_eq dc_Books_eq pm_Books_eq cd_Books_eq ct_Books_eq oc_Books_len kV_Books_len dc_Books_len pm_Books_len cd_Books_len ct_Books_len oc_Books_str kV_Books_str dc_Books_str pm_Books_str cd_Books_str ct_Books_str : Value}
    {v_ITEMS v_DEEP v_PARTS v_AMOUNT v_NESTINGS v_MOST : Value}
    {w_WORDS : Addr} {n_WORDS : Nat} {sl_WORDS : Array (Option Value)} {tk_WORDS_0 tk_WORDS_1 : Tok}
    (ac_RoundError : PySem.W.nsIn K mainGlobals "RoundError" = some (some (.ref c_RoundError)))
    (ac_NoBill : PySem.W.nsIn K mainGlobals "NoBill" = some (some (.ref c_NoBill)))
    (ac_NoNesting : PySem.W.nsIn K mainGlobals "NoNesting" = some (some (.ref c_NoNesting)))
    (ac_NoSpot : PySem.W.nsIn K mainGlobals "NoSpot" = some (some (.ref c_NoSpot)))
    (ac_NoWishes : PySem.W.nsIn K mainGlobals "NoWishes" = some (some (.ref c_NoWishes)))
    (ac_NoOutline : PySem.W.nsIn K mainGlobals "NoOutline" = some (some (.ref c_NoOutline)))
    (ac_ThreeNestings : PySem.W.nsIn K mainGlobals "ThreeNestings" = some (some (.ref c_ThreeNestings)))
    (ac_Kept : PySem.W.nsIn K mainGlobals "Kept" = some (some (.ref c_Kept)))
    (ac_NoText : PySem.W.nsIn K mainGlobals "NoText" = some (some (.ref c_NoText)))
    (ac_NoWish : PySem.W.nsIn K mainGlobals "NoWish" = some (some (.ref c_NoWish)))
    (ac_NoAmount : PySem.W.nsIn K mainGlobals "NoAmount" = some (some (.ref c_NoAmount)))
    (ac_Nothing : PySem.W.nsIn K mainGlobals "Nothing" = some (some (.ref c_Nothing)))
    (ac_NoOrder : PySem.W.nsIn K mainGlobals "NoOrder" = some (some (.ref c_NoOrder)))
    (ac_Books : PySem.W.nsIn K mainGlobals "Books" = some (some (.ref c_Books)))
    (a1__wall : PySem.W.nsIn K mainGlobals "_wall" = some (some (.ref a__wall)))
    (l1__wall : K.lookup a__wall = some ⟨oc__wall, od__wall, .func (PySem.W.fnOf "_wall" "_wall" (defArgs t__wall) (defBody t__wall) (defScope t__wall) .none kV__wall dc__wall pm__wall an__wall cd__wall ct__wall), sl__wall⟩)
    (k1__wall : PySem.W.codeIn K cd__wall "_wall" = true)
    (p1__wall : PySem.W.keepIn K (.ref a__wall) = true)
    (a1_is_whole : PySem.W.nsIn K mainGlobals "is_whole" = some (some (.ref a_is_whole)))
    (l1_is_whole : K.lookup a_is_whole = some ⟨oc_is_whole, od_is_whole, .func (PySem.W.fnOf "is_whole" "is_whole" (defArgs t_is_whole) (defBody t_is_whole) (defScope t_is_whole) .none kV_is_whole dc_is_whole pm_is_whole an_is_whole cd_is_whole ct_is_whole), sl_is_whole⟩)
    (k1_is_whole : PySem.W.codeIn K cd_is_whole "is_whole" = true)
    (p1_is_whole : PySem.W.keepIn K (.ref a_is_whole) = true)
    (a1_items_in : PySem.W.nsIn K mainGlobals "items_in" = some (some (.ref a_items_in)))
    (l1_items_in : K.lookup a_items_in = some ⟨oc_items_in, od_items_in, .func (PySem.W.fnOf "items_in" "items_in" (defArgs t_items_in) (defBody t_items_in) (defScope t_items_in) .none kV_items_in dc_items_in pm_items_in an_items_in cd_items_in ct_items_in), sl_items_in⟩)
    (k1_items_in : PySem.W.codeIn K cd_items_in "items_in" = true)
    (p1_items_in : PySem.W.keepIn K (.ref a_items_in) = true)
    (a1_is_nesting : PySem.W.nsIn K mainGlobals "is_nesting" = some (some (.ref a_is_nesting)))
    (l1_is_nesting : K.lookup a_is_nesting = some ⟨oc_is_nesting, od_is_nesting, .func (PySem.W.fnOf "is_nesting" "is_nesting" (defArgs t_is_nesting) (defBody t_is_nesting) (defScope t_is_nesting) .none kV_is_nesting dc_is_nesting pm_is_nesting an_is_nesting cd_is_nesting ct_is_nesting), sl_is_nesting⟩)
    (k1_is_nesting : PySem.W.codeIn K cd_is_nesting "is_nesting" = true)
    (p1_is_nesting : PySem.W.keepIn K (.ref a_is_nesting) = true)
    (a1_good_bill : PySem.W.nsIn K mainGlobals "good_bill" = some (some (.ref a_good_bill)))
    (l1_good_bill : K.lookup a_good_bill = some ⟨oc_good_bill, od_good_bill, .func (PySem.W.fnOf "good_bill" "good_bill" (defArgs t_good_bill) (defBody t_good_bill) (defScope t_good_bill) .none kV_good_bill dc_good_bill pm_good_bill an_good_bill cd_good_bill ct_good_bill), sl_good_bill⟩)
    (k1_good_bill : PySem.W.codeIn K cd_good_bill "good_bill" = true)
    (p1_good_bill : PySem.W.keepIn K (.ref a_good_bill) = true)
    (a1_need_bill : PySem.W.nsIn K mainGlobals "need_bill" = some (some (.ref a_need_bill)))
    (l1_need_bill : K.lookup a_need_bill = some ⟨oc_need_bill, od_need_bill, .func (PySem.W.fnOf "need_bill" "need_bill" (defArgs t_need_bill) (defBody t_need_bill) (defScope t_need_bill) .none kV_need_bill dc_need_bill pm_need_bill an_need_bill cd_need_bill ct_need_bill), sl_need_bill⟩)
    (k1_need_bill : PySem.W.codeIn K cd_need_bill "need_bill" = true)
    (p1_need_bill : PySem.W.keepIn K (.ref a_need_bill) = true)
    (a1_groups_in : PySem.W.nsIn K mainGlobals "groups_in" = some (some (.ref a_groups_in)))
    (l1_groups_in : K.lookup a_groups_in = some ⟨oc_groups_in, od_groups_in, .func (PySem.W.fnOf "groups_in" "groups_in" (defArgs t_groups_in) (defBody t_groups_in) (defScope t_groups_in) .none kV_groups_in dc_groups_in pm_groups_in an_groups_in cd_groups_in ct_groups_in), sl_groups_in⟩)
    (k1_groups_in : PySem.W.codeIn K cd_groups_in "groups_in" = true)
    (p1_groups_in : PySem.W.keepIn K (.ref a_groups_in) = true)
    (a1_groups_of : PySem.W.nsIn K mainGlobals "groups_of" = some (some (.ref a_groups_of)))
    (l1_groups_of : K.lookup a_groups_of = some ⟨oc_groups_of, od_groups_of, .func (PySem.W.fnOf "groups_of" "groups_of" (defArgs t_groups_of) (defBody t_groups_of) (defScope t_groups_of) .none kV_groups_of dc_groups_of pm_groups_of an_groups_of cd_groups_of ct_groups_of), sl_groups_of⟩)
    (k1_groups_of : PySem.W.codeIn K cd_groups_of "groups_of" = true)
    (p1_groups_of : PySem.W.keepIn K (.ref a_groups_of) = true)
    (a1_lots_of : PySem.W.nsIn K mainGlobals "lots_of" = some (some (.ref a_lots_of)))
    (l1_lots_of : K.lookup a_lots_of = some ⟨oc_lots_of, od_lots_of, .func (PySem.W.fnOf "lots_of" "lots_of" (defArgs t_lots_of) (defBody t_lots_of) (defScope t_lots_of) .none kV_lots_of dc_lots_of pm_lots_of an_lots_of cd_lots_of ct_lots_of), sl_lots_of⟩)
    (k1_lots_of : PySem.W.codeIn K cd_lots_of "lots_of" = true)
    (p1_lots_of : PySem.W.keepIn K (.ref a_lots_of) = true)
    (a1_is_spot : PySem.W.nsIn K mainGlobals "is_spot" = some (some (.ref a_is_spot)))
    (l1_is_spot : K.lookup a_is_spot = some ⟨oc_is_spot, od_is_spot, .func (PySem.W.fnOf "is_spot" "is_spot" (defArgs t_is_spot) (defBody t_is_spot) (defScope t_is_spot) .none kV_is_spot dc_is_spot pm_is_spot an_is_spot cd_is_spot ct_is_spot), sl_is_spot⟩)
    (k1_is_spot : PySem.W.codeIn K cd_is_spot "is_spot" = true)
    (p1_is_spot : PySem.W.keepIn K (.ref a_is_spot) = true)
    (a1_need_spot : PySem.W.nsIn K mainGlobals "need_spot" = some (some (.ref a_need_spot)))
    (l1_need_spot : K.lookup a_need_spot = some ⟨oc_need_spot, od_need_spot, .func (PySem.W.fnOf "need_spot" "need_spot" (defArgs t_need_spot) (defBody t_need_spot) (defScope t_need_spot) .none kV_need_spot dc_need_spot pm_need_spot an_need_spot cd_need_spot ct_need_spot), sl_need_spot⟩)
    (k1_need_spot : PySem.W.codeIn K cd_need_spot "need_spot" = true)
    (p1_need_spot : PySem.W.keepIn K (.ref a_need_spot) = true)
    (a1_amount_of : PySem.W.nsIn K mainGlobals "amount_of" = some (some (.ref a_amount_of)))
    (l1_amount_of : K.lookup a_amount_of = some ⟨oc_amount_of, od_amount_of, .func (PySem.W.fnOf "amount_of" "amount_of" (defArgs t_amount_of) (defBody t_amount_of) (defScope t_amount_of) .none kV_amount_of dc_amount_of pm_amount_of an_amount_of cd_amount_of ct_amount_of), sl_amount_of⟩)
    (k1_amount_of : PySem.W.codeIn K cd_amount_of "amount_of" = true)
    (p1_amount_of : PySem.W.keepIn K (.ref a_amount_of) = true)
    (a1_ends_of : PySem.W.nsIn K mainGlobals "ends_of" = some (some (.ref a_ends_of)))
    (l1_ends_of : K.lookup a_ends_of = some ⟨oc_ends_of, od_ends_of, .func (PySem.W.fnOf "ends_of" "ends_of" (defArgs t_ends_of) (defBody t_ends_of) (defScope t_ends_of) .none kV_ends_of dc_ends_of pm_ends_of an_ends_of cd_ends_of ct_ends_of), sl_ends_of⟩)
    (k1_ends_of : PySem.W.codeIn K cd_ends_of "ends_of" = true)
    (p1_ends_of : PySem.W.keepIn K (.ref a_ends_of) = true)
    (a1_bounds_of : PySem.W.nsIn K mainGlobals "bounds_of" = some (some (.ref a_bounds_of)))
    (l1_bounds_of : K.lookup a_bounds_of = some ⟨oc_bounds_of, od_bounds_of, .func (PySem.W.fnOf "bounds_of" "bounds_of" (defArgs t_bounds_of) (defBody t_bounds_of) (defScope t_bounds_of) .none kV_bounds_of dc_bounds_of pm_bounds_of an_bounds_of cd_bounds_of ct_bounds_of), sl_bounds_of⟩)
    (k1_bounds_of : PySem.W.codeIn K cd_bounds_of "bounds_of" = true)
    (p1_bounds_of : PySem.W.keepIn K (.ref a_bounds_of) = true)
    (a1_all_bounds : PySem.W.nsIn K mainGlobals "all_bounds" = some (some (.ref a_all_bounds)))
    (l1_all_bounds : K.lookup a_all_bounds = some ⟨oc_all_bounds, od_all_bounds, .func (PySem.W.fnOf "all_bounds" "all_bounds" (defArgs t_all_bounds) (defBody t_all_bounds) (defScope t_all_bounds) .none kV_all_bounds dc_all_bounds pm_all_bounds an_all_bounds cd_all_bounds ct_all_bounds), sl_all_bounds⟩)
    (k1_all_bounds : PySem.W.codeIn K cd_all_bounds "all_bounds" = true)
    (p1_all_bounds : PySem.W.keepIn K (.ref a_all_bounds) = true)
    (a1_sum_at : PySem.W.nsIn K mainGlobals "sum_at" = some (some (.ref a_sum_at)))
    (l1_sum_at : K.lookup a_sum_at = some ⟨oc_sum_at, od_sum_at, .func (PySem.W.fnOf "sum_at" "sum_at" (defArgs t_sum_at) (defBody t_sum_at) (defScope t_sum_at) .none kV_sum_at dc_sum_at pm_sum_at an_sum_at cd_sum_at ct_sum_at), sl_sum_at⟩)
    (k1_sum_at : PySem.W.codeIn K cd_sum_at "sum_at" = true)
    (p1_sum_at : PySem.W.keepIn K (.ref a_sum_at) = true)
    (a1_breaks_of : PySem.W.nsIn K mainGlobals "breaks_of" = some (some (.ref a_breaks_of)))
    (l1_breaks_of : K.lookup a_breaks_of = some ⟨oc_breaks_of, od_breaks_of, .func (PySem.W.fnOf "breaks_of" "breaks_of" (defArgs t_breaks_of) (defBody t_breaks_of) (defScope t_breaks_of) .none kV_breaks_of dc_breaks_of pm_breaks_of an_breaks_of cd_breaks_of ct_breaks_of), sl_breaks_of⟩)
    (k1_breaks_of : PySem.W.codeIn K cd_breaks_of "breaks_of" = true)
    (p1_breaks_of : PySem.W.keepIn K (.ref a_breaks_of) = true)
    (a1_outlines : PySem.W.nsIn K mainGlobals "outlines" = some (some (.ref a_outlines)))
    (l1_outlines : K.lookup a_outlines = some ⟨oc_outlines, od_outlines, .func (PySem.W.fnOf "outlines" "outlines" (defArgs t_outlines) (defBody t_outlines) (defScope t_outlines) .none kV_outlines dc_outlines pm_outlines an_outlines cd_outlines ct_outlines), sl_outlines⟩)
    (k1_outlines : PySem.W.codeIn K cd_outlines "outlines" = true)
    (p1_outlines : PySem.W.keepIn K (.ref a_outlines) = true)
    (a1_first_of : PySem.W.nsIn K mainGlobals "first_of" = some (some (.ref a_first_of)))
    (l1_first_of : K.lookup a_first_of = some ⟨oc_first_of, od_first_of, .func (PySem.W.fnOf "first_of" "first_of" (defArgs t_first_of) (defBody t_first_of) (defScope t_first_of) .none kV_first_of dc_first_of pm_first_of an_first_of cd_first_of ct_first_of), sl_first_of⟩)
    (k1_first_of : PySem.W.codeIn K cd_first_of "first_of" = true)
    (p1_first_of : PySem.W.keepIn K (.ref a_first_of) = true)
    (a1_l_same_truth : PySem.W.nsIn K mainGlobals "_law_same_truth" = some (some (.ref a_l_same_truth)))
    (l1_l_same_truth : K.lookup a_l_same_truth = some ⟨oc_l_same_truth, od_l_same_truth, .func (PySem.W.fnOf "_law_same_truth" "_law_same_truth" (defArgs t_l_same_truth) (defBody t_l_same_truth) (defScope t_l_same_truth) .none kV_l_same_truth dc_l_same_truth pm_l_same_truth an_l_same_truth cd_l_same_truth ct_l_same_truth), sl_l_same_truth⟩)
    (k1_l_same_truth : PySem.W.codeIn K cd_l_same_truth "_law_same_truth" = true)
    (p1_l_same_truth : PySem.W.keepIn K (.ref a_l_same_truth) = true)
    (a1_l_ask_5 : PySem.W.nsIn K mainGlobals "_law_ask" = some (some (.ref a_l_ask_5)))
    (l1_l_ask_5 : K.lookup a_l_ask_5 = some ⟨oc_l_ask_5, od_l_ask_5, .func (PySem.W.fnOf "_law_ask" "_law_ask" (defArgs t_l_ask_5) (defBody t_l_ask_5) (defScope t_l_ask_5) .none kV_l_ask_5 dc_l_ask_5 pm_l_ask_5 an_l_ask_5 cd_l_ask_5 ct_l_ask_5), sl_l_ask_5⟩)
    (k1_l_ask_5 : PySem.W.codeIn K cd_l_ask_5 "_law_ask" = true)
    (p1_l_ask_5 : PySem.W.keepIn K (.ref a_l_ask_5) = true)
    (a1_law_k13 : PySem.W.nsIn K mainGlobals "law" = some (some (.ref a_law_k13)))
    (l1_law_k13 : K.lookup a_law_k13 = some ⟨oc_law_k13, od_law_k13, .func (PySem.W.fnOf "law" "law" (defArgs t_law_k13) (defBody t_law_k13) (defScope t_law_k13) .none kV_law_k13 dc_law_k13 pm_law_k13 an_law_k13 cd_law_k13 ct_law_k13), sl_law_k13⟩)
    (k1_law_k13 : PySem.W.codeIn K cd_law_k13 "law" = true)
    (p1_law_k13 : PySem.W.keepIn K (.ref a_law_k13) = true)
    (a1_l_which : PySem.W.nsIn K mainGlobals "_law_which" = some (some (.ref a_l_which)))
    (l1_l_which : K.lookup a_l_which = some ⟨oc_l_which, od_l_which, .func (PySem.W.fnOf "_law_which" "_law_which" (defArgs t_l_which) (defBody t_l_which) (defScope t_l_which) .none kV_l_which dc_l_which pm_l_which an_l_which cd_l_which ct_l_which), sl_l_which⟩)
    (k1_l_which : PySem.W.codeIn K cd_l_which "_law_which" = true)
    (p1_l_which : PySem.W.keepIn K (.ref a_l_which) = true)
    (a1_Books_init : PySem.W.findIn K (.ref c_Books) "__init__" = some (some (.ref a_Books_init)))
    (i1_Books_init : PySem.W.isFn K (.ref a_Books_init) = true)
    (l1_Books_init : K.lookup a_Books_init = some ⟨oc_Books_init, od_Books_init, .func (PySem.W.fnOf "__init__" "Books.__init__" (defArgs t_Books_init) (defBody t_Books_init) (defScope t_Books_init) .none kV_Books_init dc_Books_init pm_Books_init an_Books_init cd_Books_init ct_Books_init), sl_Books_init⟩)
    (k1_Books_init : PySem.W.codeIn K cd_Books_init "Books.__init__" = true)
    (p1_Books_init : PySem.W.keepIn K (.ref a_Books_init) = true)
    (a1_Books_call : PySem.W.findIn K (.ref c_Books) "call" = some (some (.ref a_Books_call)))
    (i1_Books_call : PySem.W.isFn K (.ref a_Books_call) = true)
    (l1_Books_call : K.lookup a_Books_call = some ⟨oc_Books_call, od_Books_call, .func (PySem.W.fnOf "call" "Books.call" (defArgs t_Books_call) (defBody t_Books_call) (defScope t_Books_call) .none kV_Books_call dc_Books_call pm_Books_call an_Books_call cd_Books_call ct_Books_call), sl_Books_call⟩)
    (k1_Books_call : PySem.W.codeIn K cd_Books_call "Books.call" = true)
    (p1_Books_call : PySem.W.keepIn K (.ref a_Books_call) = true)
    (a1_Books_at_spot : PySem.W.findIn K (.ref c_Books) "at_spot" = some (some (.ref a_Books_at_spot)))
    (i1_Books_at_spot : PySem.W.isFn K (.ref a_Books_at_spot) = true)
    (l1_Books_at_spot : K.lookup a_Books_at_spot = some ⟨oc_Books_at_spot, od_Books_at_spot, .func (PySem.W.fnOf "at_spot" "Books.at_spot" (defArgs t_Books_at_spot) (defBody t_Books_at_spot) (defScope t_Books_at_spot) .none kV_Books_at_spot dc_Books_at_spot pm_Books_at_spot an_Books_at_spot cd_Books_at_spot ct_Books_at_spot), sl_Books_at_spot⟩)
    (k1_Books_at_spot : PySem.W.codeIn K cd_Books_at_spot "Books.at_spot" = true)
    (p1_Books_at_spot : PySem.W.keepIn K (.ref a_Books_at_spot) = true)
    (a1_Books_wish : PySem.W.findIn K (.ref c_Books) "wish" = some (some (.ref a_Books_wish)))
    (i1_Books_wish : PySem.W.isFn K (.ref a_Books_wish) = true)
    (l1_Books_wish : K.lookup a_Books_wish = some ⟨oc_Books_wish, od_Books_wish, .func (PySem.W.fnOf "wish" "Books.wish" (defArgs t_Books_wish) (defBody t_Books_wish) (defScope t_Books_wish) .none kV_Books_wish dc_Books_wish pm_Books_wish an_Books_wish cd_Books_wish ct_Books_wish), sl_Books_wish⟩)
    (k1_Books_wish : PySem.W.codeIn K cd_Books_wish "Books.wish" = true)
    (p1_Books_wish : PySem.W.keepIn K (.ref a_Books_wish) = true)
    (a1_Books_drop_2 : PySem.W.findIn K (.ref c_Books) "drop" = some (some (.ref a_Books_drop_2)))
    (i1_Books_drop_2 : PySem.W.isFn K (.ref a_Books_drop_2) = true)
    (l1_Books_drop_2 : K.lookup a_Books_drop_2 = some ⟨oc_Books_drop_2, od_Books_drop_2, .func (PySem.W.fnOf "drop" "Books.drop" (defArgs t_Books_drop_2) (defBody t_Books_drop_2) (defScope t_Books_drop_2) .none kV_Books_drop_2 dc_Books_drop_2 pm_Books_drop_2 an_Books_drop_2 cd_Books_drop_2 ct_Books_drop_2), sl_Books_drop_2⟩)
    (k1_Books_drop_2 : PySem.W.codeIn K cd_Books_drop_2 "Books.drop" = true)
    (p1_Books_drop_2 : PySem.W.keepIn K (.ref a_Books_drop_2) = true)
    (a1_Books_change_2 : PySem.W.findIn K (.ref c_Books) "change" = some (some (.ref a_Books_change_2)))
    (i1_Books_change_2 : PySem.W.isFn K (.ref a_Books_change_2) = true)
    (l1_Books_change_2 : K.lookup a_Books_change_2 = some ⟨oc_Books_change_2, od_Books_change_2, .func (PySem.W.fnOf "change" "Books.change" (defArgs t_Books_change_2) (defBody t_Books_change_2) (defScope t_Books_change_2) .none kV_Books_change_2 dc_Books_change_2 pm_Books_change_2 an_Books_change_2 cd_Books_change_2 ct_Books_change_2), sl_Books_change_2⟩)
    (k1_Books_change_2 : PySem.W.codeIn K cd_Books_change_2 "Books.change" = true)
    (p1_Books_change_2 : PySem.W.keepIn K (.ref a_Books_change_2) = true)
    (a1_Books_rounding : PySem.W.findIn K (.ref c_Books) "rounding" = some (some (.ref a_Books_rounding)))
    (i1_Books_rounding : PySem.W.isFn K (.ref a_Books_rounding) = true)
    (l1_Books_rounding : K.lookup a_Books_rounding = some ⟨oc_Books_rounding, od_Books_rounding, .func (PySem.W.fnOf "rounding" "Books.rounding" (defArgs t_Books_rounding) (defBody t_Books_rounding) (defScope t_Books_rounding) .none kV_Books_rounding dc_Books_rounding pm_Books_rounding an_Books_rounding cd_Books_rounding ct_Books_rounding), sl_Books_rounding⟩)
    (k1_Books_rounding : PySem.W.codeIn K cd_Books_rounding "Books.rounding" = true)
    (p1_Books_rounding : PySem.W.keepIn K (.ref a_Books_rounding) = true)
    (a1_Books_bill : PySem.W.findIn K (.ref c_Books) "bill" = some (some (.ref a_Books_bill)))
    (i1_Books_bill : PySem.W.isFn K (.ref a_Books_bill) = true)
    (l1_Books_bill : K.lookup a_Books_bill = some ⟨oc_Books_bill, od_Books_bill, .func (PySem.W.fnOf "bill" "Books.bill" (defArgs t_Books_bill) (defBody t_Books_bill) (defScope t_Books_bill) .none kV_Books_bill dc_Books_bill pm_Books_bill an_Books_bill cd_Books_bill ct_Books_bill), sl_Books_bill⟩)
    (k1_Books_bill : PySem.W.codeIn K cd_Books_bill "Books.bill" = true)
    (p1_Books_bill : PySem.W.keepIn K (.ref a_Books_bill) = true)
    (a1_Books_wishes : PySem.W.findIn K (.ref c_Books) "wishes" = some (some (.ref a_Books_wishes)))
    (i1_Books_wishes : PySem.W.isFn K (.ref a_Books_wishes) = true)
    (l1_Books_wishes : K.lookup a_Books_wishes = some ⟨oc_Books_wishes, od_Books_wishes, .func (PySem.W.fnOf "wishes" "Books.wishes" (defArgs t_Books_wishes) (defBody t_Books_wishes) (defScope t_Books_wishes) .none kV_Books_wishes dc_Books_wishes pm_Books_wishes an_Books_wishes cd_Books_wishes ct_Books_wishes), sl_Books_wishes⟩)
    (k1_Books_wishes : PySem.W.codeIn K cd_Books_wishes "Books.wishes" = true)
    (p1_Books_wishes : PySem.W.keepIn K (.ref a_Books_wishes) = true)
    (a1_Books_back : PySem.W.findIn K (.ref c_Books) "back" = some (some (.ref a_Books_back)))
    (i1_Books_back : PySem.W.isFn K (.ref a_Books_back) = true)
    (l1_Books_back : K.lookup a_Books_back = some ⟨oc_Books_back, od_Books_back, .func (PySem.W.fnOf "back" "Books.back" (defArgs t_Books_back) (defBody t_Books_back) (defScope t_Books_back) .none kV_Books_back dc_Books_back pm_Books_back an_Books_back cd_Books_back ct_Books_back), sl_Books_back⟩)
    (k1_Books_back : PySem.W.codeIn K cd_Books_back "Books.back" = true)
    (p1_Books_back : PySem.W.keepIn K (.ref a_Books_back) = true)
    (a1_Books_twin_2 : PySem.W.findIn K (.ref c_Books) "twin" = some (some (.ref a_Books_twin_2)))
    (i1_Books_twin_2 : PySem.W.isFn K (.ref a_Books_twin_2) = true)
    (l1_Books_twin_2 : K.lookup a_Books_twin_2 = some ⟨oc_Books_twin_2, od_Books_twin_2, .func (PySem.W.fnOf "twin" "Books.twin" (defArgs t_Books_twin_2) (defBody t_Books_twin_2) (defScope t_Books_twin_2) .none kV_Books_twin_2 dc_Books_twin_2 pm_Books_twin_2 an_Books_twin_2 cd_Books_twin_2 ct_Books_twin_2), sl_Books_twin_2⟩)
    (k1_Books_twin_2 : PySem.W.codeIn K cd_Books_twin_2 "Books.twin" = true)
    (p1_Books_twin_2 : PySem.W.keepIn K (.ref a_Books_twin_2) = true)
    (a1_Books_eq : PySem.W.findIn K (.ref c_Books) "__eq__" = some (some (.ref a_Books_eq)))
    (i1_Books_eq : PySem.W.isFn K (.ref a_Books_eq) = true)
    (l1_Books_eq : K.lookup a_Books_eq = some ⟨oc_Books_eq, od_Books_eq, .func (PySem.W.fnOf "__eq__" "Books.__eq__" (defArgs t_Books_eq) (defBody t_Books_eq) (defScope t_Books_eq) .none kV_Books_eq dc_Books_eq pm_Books_eq an_Books_eq cd_Books_eq ct_Books_eq), sl_Books_eq⟩)
    (k1_Books_eq : PySem.W.codeIn K cd_Books_eq "Books.__eq__" = true)
    (p1_Books_eq : PySem.W.keepIn K (.ref a_Books_eq) = true)
    (a1_Books_len : PySem.W.findIn K (.ref c_Books) "__len__" = some (some (.ref a_Books_len)))
    (i1_Books_len : PySem.W.isFn K (.ref a_Books_len) = true)
    (l1_Books_len : K.lookup a_Books_len = some ⟨oc_Books_len, od_Books_len, .func (PySem.W.fnOf "__len__" "Books.__len__" (defArgs t_Books_len) (defBody t_Books_len) (defScope t_Books_len) .none kV_Books_len dc_Books_len pm_Books_len an_Books_len cd_Books_len ct_Books_len), sl_Books_len⟩)
    (k1_Books_len : PySem.W.codeIn K cd_Books_len "Books.__len__" = true)
    (p1_Books_len : PySem.W.keepIn K (.ref a_Books_len) = true)
    (a1_Books_str : PySem.W.findIn K (.ref c_Books) "__str__" = some (some (.ref a_Books_str)))
    (i1_Books_str : PySem.W.isFn K (.ref a_Books_str) = true)
    (l1_Books_str : K.lookup a_Books_str = some ⟨oc_Books_str, od_Books_str, .func (PySem.W.fnOf "__str__" "Books.__str__" (defArgs t_Books_str) (defBody t_Books_str) (defScope t_Books_str) .none kV_Books_str dc_Books_str pm_Books_str an_Books_str cd_Books_str ct_Books_str), sl_Books_str⟩)
    (k1_Books_str : PySem.W.codeIn K cd_Books_str "Books.__str__" = true)
    (p1_Books_str : PySem.W.keepIn K (.ref a_Books_str) = true)
    (b_pg : PySem.W.plainGet K c_Books Str.empty = true)
    (b_hd : PySem.W.hasDictIn K c_Books = true)
    (b_po : PySem.W.plainOver K c_Books = true)
    (b_sa : PySem.W.findIn K (.ref c_Books) "__setattr__" = some (some (.builtin "object.__setattr__")))
    (b_mk : PySem.W.makesIn K c_Books = true)
    (b_kc : PySem.W.keepIn K (.ref c_Books) = true)
    (b_n1 : PySem.W.findIn K (.ref c_Books) ⟨#[104, 111, 119]⟩ = some none)
    (b_n2 : PySem.W.findIn K (.ref c_Books) ⟨#[112, 97, 115, 116]⟩ = some none)
    (b_n3 : PySem.W.findIn K (.ref c_Books) ⟨#[99, 97, 108, 108, 115]⟩ = some none)
    (eb_sb : PySem.W.subIn K (.type "str") (.ref c_Books) = some false)
    (eb_kb : kitB K c_Books = true)
    (eb_ks : PySem.W.kitOne K (.ref c_Books) (.ref c_Books) = some true)
    (b_ha : PySem.W.findIn K (.ref c_Books) "__class__" = some (some (.builtin "object.__class__")))
    (b_hn : PySem.W.specialIn K (.builtin "object.__class__") "__get__" = some (some (.builtin "getset_descriptor.__get__")))
    (b_tk : PySem.W.takesIn K (.builtin "object.__class__") = some true)
    (b_hm : PySem.W.mroIn K c_Books (.type "object") = some true)
    (xc_RoundError : PySem.W.excIn K c_RoundError [.type "ValueError", .type "Exception", .type "BaseException", .type "object"] "ValueError.__new__" = true)
    (kc_RoundError : PySem.W.keepIn K (.ref c_RoundError) = true)
    (sc_RoundError : PySem.W.subIn K (.ref c_RoundError) (.type "BaseException") = some true)
    (tc_RoundError : PySem.W.typeIn K (.ref c_RoundError) = some (.type "type"))
    (xc_NoBill : PySem.W.excIn K c_NoBill [.type "ValueError", .type "Exception", .type "BaseException", .type "object"] "ValueError.__new__" = true)
    (kc_NoBill : PySem.W.keepIn K (.ref c_NoBill) = true)
    (sc_NoBill : PySem.W.subIn K (.ref c_NoBill) (.type "BaseException") = some true)
    (tc_NoBill : PySem.W.typeIn K (.ref c_NoBill) = some (.type "type"))
    (xc_NoNesting : PySem.W.excIn K c_NoNesting [.type "ValueError", .type "Exception", .type "BaseException", .type "object"] "ValueError.__new__" = true)
    (kc_NoNesting : PySem.W.keepIn K (.ref c_NoNesting) = true)
    (sc_NoNesting : PySem.W.subIn K (.ref c_NoNesting) (.type "BaseException") = some true)
    (tc_NoNesting : PySem.W.typeIn K (.ref c_NoNesting) = some (.type "type"))
    (xc_NoSpot : PySem.W.excIn K c_NoSpot [.type "ValueError", .type "Exception", .type "BaseException", .type "object"] "ValueError.__new__" = true)
    (kc_NoSpot : PySem.W.keepIn K (.ref c_NoSpot) = true)
    (sc_NoSpot : PySem.W.subIn K (.ref c_NoSpot) (.type "BaseException") = some true)
    (tc_NoSpot : PySem.W.typeIn K (.ref c_NoSpot) = some (.type "type"))
    (xc_NoWishes : PySem.W.excIn K c_NoWishes [.type "ValueError", .type "Exception", .type "BaseException", .type "object"] "ValueError.__new__" = true)
    (kc_NoWishes : PySem.W.keepIn K (.ref c_NoWishes) = true)
    (sc_NoWishes : PySem.W.subIn K (.ref c_NoWishes) (.type "BaseException") = some true)
    (tc_NoWishes : PySem.W.typeIn K (.ref c_NoWishes) = some (.type "type"))
    (xc_NoOutline : PySem.W.excIn K c_NoOutline [.type "ValueError", .type "Exception", .type "BaseException", .type "object"] "ValueError.__new__" = true)
    (kc_NoOutline : PySem.W.keepIn K (.ref c_NoOutline) = true)
    (sc_NoOutline : PySem.W.subIn K (.ref c_NoOutline) (.type "BaseException") = some true)
    (tc_NoOutline : PySem.W.typeIn K (.ref c_NoOutline) = some (.type "type"))
    (xc_ThreeNestings : PySem.W.excIn K c_ThreeNestings [.type "ValueError", .type "Exception", .type "BaseException", .type "object"] "ValueError.__new__" = true)
    (kc_ThreeNestings : PySem.W.keepIn K (.ref c_ThreeNestings) = true)
    (sc_ThreeNestings : PySem.W.subIn K (.ref c_ThreeNestings) (.type "BaseException") = some true)
    (tc_ThreeNestings : PySem.W.typeIn K (.ref c_ThreeNestings) = some (.type "type"))
    (xc_Kept : PySem.W.excIn K c_Kept [.type "ValueError", .type "Exception", .type "BaseException", .type "object"] "ValueError.__new__" = true)
    (kc_Kept : PySem.W.keepIn K (.ref c_Kept) = true)
    (sc_Kept : PySem.W.subIn K (.ref c_Kept) (.type "BaseException") = some true)
    (tc_Kept : PySem.W.typeIn K (.ref c_Kept) = some (.type "type"))
    (xc_NoText : PySem.W.excIn K c_NoText [.type "ValueError", .type "Exception", .type "BaseException", .type "object"] "ValueError.__new__" = true)
    (kc_NoText : PySem.W.keepIn K (.ref c_NoText) = true)
    (sc_NoText : PySem.W.subIn K (.ref c_NoText) (.type "BaseException") = some true)
    (tc_NoText : PySem.W.typeIn K (.ref c_NoText) = some (.type "type"))
    (xc_NoWish : PySem.W.excIn K c_NoWish [.type "ValueError", .type "Exception", .type "BaseException", .type "object"] "ValueError.__new__" = true)
    (kc_NoWish : PySem.W.keepIn K (.ref c_NoWish) = true)
    (sc_NoWish : PySem.W.subIn K (.ref c_NoWish) (.type "BaseException") = some true)
    (tc_NoWish : PySem.W.typeIn K (.ref c_NoWish) = some (.type "type"))
    (xc_NoAmount : PySem.W.excIn K c_NoAmount [.type "ValueError", .type "Exception", .type "BaseException", .type "object"] "ValueError.__new__" = true)
    (kc_NoAmount : PySem.W.keepIn K (.ref c_NoAmount) = true)
    (sc_NoAmount : PySem.W.subIn K (.ref c_NoAmount) (.type "BaseException") = some true)
    (tc_NoAmount : PySem.W.typeIn K (.ref c_NoAmount) = some (.type "type"))
    (xc_Nothing : PySem.W.excIn K c_Nothing [.type "ValueError", .type "Exception", .type "BaseException", .type "object"] "ValueError.__new__" = true)
    (kc_Nothing : PySem.W.keepIn K (.ref c_Nothing) = true)
    (sc_Nothing : PySem.W.subIn K (.ref c_Nothing) (.type "BaseException") = some true)
    (tc_Nothing : PySem.W.typeIn K (.ref c_Nothing) = some (.type "type"))
    (xc_NoOrder : PySem.W.excIn K c_NoOrder [.type "ValueError", .type "Exception", .type "BaseException", .type "object"] "ValueError.__new__" = true)
    (kc_NoOrder : PySem.W.keepIn K (.ref c_NoOrder) = true)
    (sc_NoOrder : PySem.W.subIn K (.ref c_NoOrder) (.type "BaseException") = some true)
    (tc_NoOrder : PySem.W.typeIn K (.ref c_NoOrder) = some (.type "type"))
    (eb_ : errB K c_RoundError [c_NoBill, c_NoNesting, c_NoSpot, c_NoWishes, c_NoOutline, c_ThreeNestings, c_Kept, c_NoText, c_NoWish, c_NoAmount, c_Nothing, c_NoOrder] = true)
    (z_ValueError : PySem.W.nsIn K mainGlobals "ValueError" = some none)
    (z_range : PySem.W.nsIn K mainGlobals "range" = some none)
    (z_list : PySem.W.nsIn K mainGlobals "list" = some none)
    (z_dict : PySem.W.nsIn K mainGlobals "dict" = some none)
    (z_set : PySem.W.nsIn K mainGlobals "set" = some none)
    (z_sorted : PySem.W.nsIn K mainGlobals "sorted" = some none)
    (z_len : PySem.W.nsIn K mainGlobals "len" = some none)
    (z_isinstance : PySem.W.nsIn K mainGlobals "isinstance" = some none)
    (z_enumerate : PySem.W.nsIn K mainGlobals "enumerate" = some none)
    (z_zip : PySem.W.nsIn K mainGlobals "zip" = some none)
    (z_tuple : PySem.W.nsIn K mainGlobals "tuple" = some none)
    (z_sum : PySem.W.nsIn K mainGlobals "sum" = some none)
    (z_all : PySem.W.nsIn K mainGlobals "all" = some none)
    (z_any : PySem.W.nsIn K mainGlobals "any" = some none)
    (z_min : PySem.W.nsIn K mainGlobals "min" = some none)
    (z_abs : PySem.W.nsIn K mainGlobals "abs" = some none)
    (z_str : PySem.W.nsIn K mainGlobals "str" = some none)
    (z_int : PySem.W.nsIn K mainGlobals "int" = some none)
    (z_bool : PySem.W.nsIn K mainGlobals "bool" = some none)
    (g_ITEMS : PySem.W.nsIn K mainGlobals "ITEMS" = some (some v_ITEMS))
    (r_ITEMS : RelV (.int 8) v_ITEMS)
    (g_DEEP : PySem.W.nsIn K mainGlobals "DEEP" = some (some v_DEEP))
    (r_DEEP : RelV (.int 4) v_DEEP)
    (g_PARTS : PySem.W.nsIn K mainGlobals "PARTS" = some (some v_PARTS))
    (r_PARTS : RelV (.int 24) v_PARTS)
    (g_AMOUNT : PySem.W.nsIn K mainGlobals "AMOUNT" = some (some v_AMOUNT))
    (r_AMOUNT : RelV (.int 999) v_AMOUNT)
    (g_NESTINGS : PySem.W.nsIn K mainGlobals "NESTINGS" = some (some v_NESTINGS))
    (r_NESTINGS : RelV (.int 3) v_NESTINGS)
    (g_WORDS : PySem.W.nsIn K mainGlobals "WORDS" = some (some (.ref w_WORDS)))
    (l1_WORDS : K.lookup w_WORDS = some ⟨.type "tuple", none, .seq #[.str ⟨#[117, 112]⟩ tk_WORDS_0, .str ⟨#[100, 111, 119, 110]⟩ tk_WORDS_1] n_WORDS, sl_WORDS⟩)
    (g_MOST : PySem.W.nsIn K mainGlobals "MOST" = some (some v_MOST))
    (r_MOST : RelV (.int 8) v_MOST)
    (law : LawP Tab 40 f_law_k13) :
    ∃ fd : FuncData, (∀ (s : Shared) (u : Value), BindsTo s fd ⟨[u], []⟩ [("_law_script", u)]) ∧ ∀ base : Heap, K.In base → base.Ns mainGlobals mg → FnOk P w K mg base (L2.CX P w) 80 fa fd ["_law_script"] (spL K) := by
  have e : a_law_k13 = fa := by
    have e := hfa.symm.trans (PySem.W.mg_of X G a1_law_k13)
    cases e
    rfl
  subst e
  have X0 : TextOk (ad a__wall a_is_whole a_items_in a_is_nesting a_good_bill a_need_bill a_groups_in a_groups_of a_lots_of a_is_spot a_need_spot a_amount_of a_ends_of a_bounds_of a_all_bounds a_sum_at a_breaks_of a_outlines a_first_of a_l_same_truth a_l_ask_5 a_law_k13 a_Books_init a_Books_call a_Books_at_spot a_Books_wish a_Books_drop_2 a_Books_change_2 a_Books_rounding a_Books_bill a_Books_wishes a_Books_back a_Books_twin_2 a_Books_eq a_Books_len a_Books_str c_RoundError c_NoBill c_NoNesting c_NoSpot c_NoWishes c_NoOutline c_ThreeNestings c_Kept c_NoText c_NoWish c_NoAmount c_Nothing c_NoOrder c_Books) lk Tab K mg := by
    have CL : ∀ c x, lk.cl c = some x → ∃ a, (ad a__wall a_is_whole a_items_in a_is_nesting a_good_bill a_need_bill a_groups_in a_groups_of a_lots_of a_is_spot a_need_spot a_amount_of a_ends_of a_bounds_of a_all_bounds a_sum_at a_breaks_of a_outlines a_first_of a_l_same_truth a_l_ask_5 a_law_k13 a_Books_init a_Books_call a_Books_at_spot a_Books_wish a_Books_drop_2 a_Books_change_2 a_Books_rounding a_Books_bill a_Books_wishes a_Books_back a_Books_twin_2 a_Books_eq a_Books_len a_Books_str c_RoundError c_NoBill c_NoNesting c_NoSpot c_NoWishes c_NoOutline c_ThreeNestings c_Kept c_NoText c_NoWish c_NoAmount c_Nothing c_NoOrder c_Books).ca c = some a ∧ mg x = some (.ref a) := allC_of (L := clL) ⟨⟨_, rfl, PySem.W.mg_of X G ac_RoundError⟩, ⟨_, rfl, PySem.W.mg_of X G ac_NoBill⟩, ⟨_, rfl, PySem.W.mg_of X G ac_NoNesting⟩, ⟨_, rfl, PySem.W.mg_of X G ac_NoSpot⟩, ⟨_, rfl, PySem.W.mg_of X G ac_NoWishes⟩, ⟨_, rfl, PySem.W.mg_of X G ac_NoOutline⟩, ⟨_, rfl, PySem.W.mg_of X G ac_ThreeNestings⟩, ⟨_, rfl, PySem.W.mg_of X G ac_Kept⟩, ⟨_, rfl, PySem.W.mg_of X G ac_NoText⟩, ⟨_, rfl, PySem.W.mg_of X G ac_NoWish⟩, ⟨_, rfl, PySem.W.mg_of X G ac_NoAmount⟩, ⟨_, rfl, PySem.W.mg_of X G ac_Nothing⟩, ⟨_, rfl, PySem.W.mg_of X G ac_NoOrder⟩, ⟨_, rfl, PySem.W.mg_of X G ac_Books⟩, trivial⟩
    refine ⟨?_, ?_, ?_, ?_, ?_, ?_, ?_, ?_⟩
    · intro x hx
      exact allE_mem (L := biNames) (Pr := fun x => mg x = none) ⟨PySem.W.mg_none_of X G z_range, PySem.W.mg_none_of X G z_list, PySem.W.mg_none_of X G z_dict, PySem.W.mg_none_of X G z_set, PySem.W.mg_none_of X G z_sorted, PySem.W.mg_none_of X G z_len, PySem.W.mg_none_of X G z_isinstance, PySem.W.mg_none_of X G z_enumerate, PySem.W.mg_none_of X G z_zip, PySem.W.mg_none_of X G z_tuple, PySem.W.mg_none_of X G z_sum, PySem.W.mg_none_of X G z_all, PySem.W.mg_none_of X G z_any, PySem.W.mg_none_of X G z_min, PySem.W.mg_none_of X G z_abs, PySem.W.mg_none_of X G z_str, PySem.W.mg_none_of X G z_int, PySem.W.mg_none_of X G z_bool, trivial⟩ x hx
    · refine allD_of (L := fnL) ?_
      refine ⟨?_, ?_, ?_, ?_, ?_, ?_, ?_, ?_, ?_, ?_, ?_, ?_, ?_, ?_, ?_, ?_, ?_, ?_, ?_, ?_, ?_, ?_, trivial⟩
      · have F := fun_mk (st := t__wall) l1__wall k1__wall p1__wall
        refine ⟨t__wall, _, _, N__wall, P__wall, G__wall, ⟨1, 1, s__wall⟩, rfl, PySem.W.mg_of X G a1__wall, F, sc__wall, F.binds (ps := P__wall) (fun _ _ _ _ _ _ us hl => match us, hl with | [_], _ => rfl), T__wall, rfl, rfl, m__wall, ?_⟩
        intro i y d hi
        simp [G__wall] at hi
      · have F := fun_mk (st := t_is_whole) l1_is_whole k1_is_whole p1_is_whole
        refine ⟨t_is_whole, _, _, N_is_whole, P_is_whole, G_is_whole, ⟨3, 3, s_is_whole⟩, rfl, PySem.W.mg_of X G a1_is_whole, F, sc_is_whole, F.binds (ps := P_is_whole) (fun _ _ _ _ _ _ us hl => match us, hl with | [_, _, _], _ => rfl), T_is_whole, rfl, rfl, m_is_whole, ?_⟩
        intro i y d hi
        simp [G_is_whole] at hi
      · have F := fun_mk (st := t_items_in) l1_items_in k1_items_in p1_items_in
        refine ⟨t_items_in, _, _, N_items_in, P_items_in, G_items_in, ⟨2, 5, s_items_in⟩, rfl, PySem.W.mg_of X G a1_items_in, F, sc_items_in, F.binds (ps := P_items_in) (fun _ _ _ _ _ _ us hl => match us, hl with | [_, _], _ => rfl), T_items_in, rfl, rfl, m_items_in, ?_⟩
        intro i y d hi
        rcases i with _ | i
        · cases hi; exact ⟨_, _, PySem.W.mg_of X G g_ITEMS, r_ITEMS, fun _ _ _ _ => .int _⟩
        · simp [G_items_in] at hi
      · have F := fun_mk (st := t_is_nesting) l1_is_nesting k1_is_nesting p1_is_nesting
        refine ⟨t_is_nesting, _, _, N_is_nesting, P_is_nesting, G_is_nesting, ⟨2, 3, s_is_nesting⟩, rfl, PySem.W.mg_of X G a1_is_nesting, F, sc_is_nesting, F.binds (ps := P_is_nesting) (fun _ _ _ _ _ _ us hl => match us, hl with | [_, _], _ => rfl), T_is_nesting, rfl, rfl, m_is_nesting, ?_⟩
        intro i y d hi
        rcases i with _ | i
        · cases hi; exact ⟨_, _, PySem.W.mg_of X G g_DEEP, r_DEEP, fun _ _ _ _ => .int _⟩
        · simp [G_is_nesting] at hi
      · have F := fun_mk (st := t_good_bill) l1_good_bill k1_good_bill p1_good_bill
        refine ⟨t_good_bill, _, _, N_good_bill, P_good_bill, G_good_bill, ⟨1, 2, s_good_bill⟩, rfl, PySem.W.mg_of X G a1_good_bill, F, sc_good_bill, F.binds (ps := P_good_bill) (fun _ _ _ _ _ _ us hl => match us, hl with | [_], _ => rfl), T_good_bill, rfl, rfl, m_good_bill, ?_⟩
        intro i y d hi
        rcases i with _ | i
        · cases hi; exact ⟨_, _, PySem.W.mg_of X G g_PARTS, r_PARTS, fun _ _ _ _ => .int _⟩
        rcases i with _ | i
        · cases hi; exact ⟨_, _, PySem.W.mg_of X G g_ITEMS, r_ITEMS, fun _ _ _ _ => .int _⟩
        rcases i with _ | i
        · cases hi; exact ⟨_, _, PySem.W.mg_of X G g_AMOUNT, r_AMOUNT, fun _ _ _ _ => .int _⟩
        rcases i with _ | i
        · cases hi; exact ⟨_, _, PySem.W.mg_of X G g_NESTINGS, r_NESTINGS, fun _ _ _ _ => .int _⟩
        · simp [G_good_bill] at hi
      · have F := fun_mk (st := t_need_bill) l1_need_bill k1_need_bill p1_need_bill
        refine ⟨t_need_bill, _, _, N_need_bill, P_need_bill, G_need_bill, ⟨1, 1, s_need_bill⟩, rfl, PySem.W.mg_of X G a1_need_bill, F, sc_need_bill, F.binds (ps := P_need_bill) (fun _ _ _ _ _ _ us hl => match us, hl with | [_], _ => rfl), T_need_bill, rfl, rfl, m_need_bill, ?_⟩
        intro i y d hi
        simp [G_need_bill] at hi
      · have F := fun_mk (st := t_groups_in) l1_groups_in k1_groups_in p1_groups_in
        refine ⟨t_groups_in, _, _, N_groups_in, P_groups_in, G_groups_in, ⟨1, 3, s_groups_in⟩, rfl, PySem.W.mg_of X G a1_groups_in, F, sc_groups_in, F.binds (ps := P_groups_in) (fun _ _ _ _ _ _ us hl => match us, hl with | [_], _ => rfl), T_groups_in, rfl, rfl, m_groups_in, ?_⟩
        intro i y d hi
        simp [G_groups_in] at hi
      · have F := fun_mk (st := t_groups_of) l1_groups_of k1_groups_of p1_groups_of
        refine ⟨t_groups_of, _, _, N_groups_of, P_groups_of, G_groups_of, ⟨2, 3, s_groups_of⟩, rfl, PySem.W.mg_of X G a1_groups_of, F, sc_groups_of, F.binds (ps := P_groups_of) (fun _ _ _ _ _ _ us hl => match us, hl with | [_, _], _ => rfl), T_groups_of, rfl, rfl, m_groups_of, ?_⟩
        intro i y d hi
        rcases i with _ | i
        · cases hi; exact ⟨_, _, PySem.W.mg_of X G g_DEEP, r_DEEP, fun _ _ _ _ => .int _⟩
        · simp [G_groups_of] at hi
      · have F := fun_mk (st := t_lots_of) l1_lots_of k1_lots_of p1_lots_of
        refine ⟨t_lots_of, _, _, N_lots_of, P_lots_of, G_lots_of, ⟨1, 6, s_lots_of⟩, rfl, PySem.W.mg_of X G a1_lots_of, F, sc_lots_of, F.binds (ps := P_lots_of) (fun _ _ _ _ _ _ us hl => match us, hl with | [_], _ => rfl), T_lots_of, rfl, rfl, m_lots_of, ?_⟩
        intro i y d hi
        simp [G_lots_of] at hi
      · have F := fun_mk (st := t_is_spot) l1_is_spot k1_is_spot p1_is_spot
        refine ⟨t_is_spot, _, _, N_is_spot, P_is_spot, G_is_spot, ⟨2, 3, s_is_spot⟩, rfl, PySem.W.mg_of X G a1_is_spot, F, sc_is_spot, F.binds (ps := P_is_spot) (fun _ _ _ _ _ _ us hl => match us, hl with | [_, _], _ => rfl), T_is_spot, rfl, rfl, m_is_spot, ?_⟩
        intro i y d hi
        simp [G_is_spot] at hi
      · have F := fun_mk (st := t_need_spot) l1_need_spot k1_need_spot p1_need_spot
        refine ⟨t_need_spot, _, _, N_need_spot, P_need_spot, G_need_spot, ⟨2, 2, s_need_spot⟩, rfl, PySem.W.mg_of X G a1_need_spot, F, sc_need_spot, F.binds (ps := P_need_spot) (fun _ _ _ _ _ _ us hl => match us, hl with | [_, _], _ => rfl), T_need_spot, rfl, rfl, m_need_spot, ?_⟩
        intro i y d hi
        simp [G_need_spot] at hi
      · have F := fun_mk (st := t_amount_of) l1_amount_of k1_amount_of p1_amount_of
        refine ⟨t_amount_of, _, _, N_amount_of, P_amount_of, G_amount_of, ⟨2, 3, s_amount_of⟩, rfl, PySem.W.mg_of X G a1_amount_of, F, sc_amount_of, F.binds (ps := P_amount_of) (fun _ _ _ _ _ _ us hl => match us, hl with | [_, _], _ => rfl), T_amount_of, rfl, rfl, m_amount_of, ?_⟩
        intro i y d hi
        simp [G_amount_of] at hi
      · have F := fun_mk (st := t_ends_of) l1_ends_of k1_ends_of p1_ends_of
        refine ⟨t_ends_of, _, _, N_ends_of, P_ends_of, G_ends_of, ⟨2, 3, s_ends_of⟩, rfl, PySem.W.mg_of X G a1_ends_of, F, sc_ends_of, F.binds (ps := P_ends_of) (fun _ _ _ _ _ _ us hl => match us, hl with | [_, _], _ => rfl), T_ends_of, rfl, rfl, m_ends_of, ?_⟩
        intro i y d hi
        simp [G_ends_of] at hi
      · have F := fun_mk (st := t_bounds_of) l1_bounds_of k1_bounds_of p1_bounds_of
        refine ⟨t_bounds_of, _, _, N_bounds_of, P_bounds_of, G_bounds_of, ⟨4, 7, s_bounds_of⟩, rfl, PySem.W.mg_of X G a1_bounds_of, F, sc_bounds_of, F.binds (ps := P_bounds_of) (fun _ _ _ _ _ _ us hl => match us, hl with | [_, _, _, _], _ => rfl), T_bounds_of, rfl, rfl, m_bounds_of, ?_⟩
        intro i y d hi
        simp [G_bounds_of] at hi
      · have F := fun_mk (st := t_all_bounds) l1_all_bounds k1_all_bounds p1_all_bounds
        refine ⟨t_all_bounds, _, _, N_all_bounds, P_all_bounds, G_all_bounds, ⟨2, 4, s_all_bounds⟩, rfl, PySem.W.mg_of X G a1_all_bounds, F, sc_all_bounds, F.binds (ps := P_all_bounds) (fun _ _ _ _ _ _ us hl => match us, hl with | [_, _], _ => rfl), T_all_bounds, rfl, rfl, m_all_bounds, ?_⟩
        intro i y d hi
        simp [G_all_bounds] at hi
      · have F := fun_mk (st := t_sum_at) l1_sum_at k1_sum_at p1_sum_at
        refine ⟨t_sum_at, _, _, N_sum_at, P_sum_at, G_sum_at, ⟨2, 3, s_sum_at⟩, rfl, PySem.W.mg_of X G a1_sum_at, F, sc_sum_at, F.binds (ps := P_sum_at) (fun _ _ _ _ _ _ us hl => match us, hl with | [_, _], _ => rfl), T_sum_at, rfl, rfl, m_sum_at, ?_⟩
        intro i y d hi
        simp [G_sum_at] at hi
      · have F := fun_mk (st := t_breaks_of) l1_breaks_of k1_breaks_of p1_breaks_of
        refine ⟨t_breaks_of, _, _, N_breaks_of, P_breaks_of, G_breaks_of, ⟨2, 6, s_breaks_of⟩, rfl, PySem.W.mg_of X G a1_breaks_of, F, sc_breaks_of, F.binds (ps := P_breaks_of) (fun _ _ _ _ _ _ us hl => match us, hl with | [_, _], _ => rfl), T_breaks_of, rfl, rfl, m_breaks_of, ?_⟩
        intro i y d hi
        simp [G_breaks_of] at hi
      · have F := fun_mk (st := t_outlines) l1_outlines k1_outlines p1_outlines
        refine ⟨t_outlines, _, _, N_outlines, P_outlines, G_outlines, ⟨1, 6, s_outlines⟩, rfl, PySem.W.mg_of X G a1_outlines, F, sc_outlines, F.binds (ps := P_outlines) (fun _ _ _ _ _ _ us hl => match us, hl with | [_], _ => rfl), T_outlines, rfl, rfl, m_outlines, ?_⟩
        intro i y d hi
        simp [G_outlines] at hi
      · have F := fun_mk (st := t_first_of) l1_first_of k1_first_of p1_first_of
        refine ⟨t_first_of, _, _, N_first_of, P_first_of, G_first_of, ⟨2, 4, s_first_of⟩, rfl, PySem.W.mg_of X G a1_first_of, F, sc_first_of, F.binds (ps := P_first_of) (fun _ _ _ _ _ _ us hl => match us, hl with | [_, _], _ => rfl), T_first_of, rfl, rfl, m_first_of, ?_⟩
        intro i y d hi
        simp [G_first_of] at hi
      · have F := fun_mk (st := t_l_same_truth) l1_l_same_truth k1_l_same_truth p1_l_same_truth
        refine ⟨t_l_same_truth, _, _, N_l_same_truth, P_l_same_truth, G_l_same_truth, ⟨2, 2, s_l_same_truth⟩, rfl, PySem.W.mg_of X G a1_l_same_truth, F, sc_l_same_truth, F.binds (ps := P_l_same_truth) (fun _ _ _ _ _ _ us hl => match us, hl with | [_, _], _ => rfl), T_l_same_truth, rfl, rfl, m_l_same_truth, ?_⟩
        intro i y d hi
        simp [G_l_same_truth] at hi
      · have F := fun_mk (st := t_l_ask_5) l1_l_ask_5 k1_l_ask_5 p1_l_ask_5
        refine ⟨t_l_ask_5, _, _, N_l_ask_5, P_l_ask_5, G_l_ask_5, ⟨4, 5, s_l_ask_5⟩, rfl, PySem.W.mg_of X G a1_l_ask_5, F, sc_l_ask_5, F.binds (ps := P_l_ask_5) (fun _ _ _ _ _ _ us hl => match us, hl with | [_, _, _, _], _ => rfl), T_l_ask_5, rfl, rfl, m_l_ask_5, ?_⟩
        intro i y d hi
        simp [G_l_ask_5] at hi
      · have F := fun_mk (st := t_law_k13) l1_law_k13 k1_law_k13 p1_law_k13
        refine ⟨t_law_k13, _, _, N_law_k13, P_law_k13, G_law_k13, ⟨1, 10, s_law_k13⟩, rfl, PySem.W.mg_of X G a1_law_k13, F, sc_law_k13, F.binds (ps := P_law_k13) (fun _ _ _ _ _ _ us hl => match us, hl with | [_], _ => rfl), T_law_k13, rfl, rfl, m_law_k13, ?_⟩
        intro i y d hi
        simp [G_law_k13] at hi
    · exact CL
    · exact clsOk_of (A := (ad a__wall a_is_whole a_items_in a_is_nesting a_good_bill a_need_bill a_groups_in a_groups_of a_lots_of a_is_spot a_need_spot a_amount_of a_ends_of a_bounds_of a_all_bounds a_sum_at a_breaks_of a_outlines a_first_of a_l_same_truth a_l_ask_5 a_law_k13 a_Books_init a_Books_call a_Books_at_spot a_Books_wish a_Books_drop_2 a_Books_change_2 a_Books_rounding a_Books_bill a_Books_wishes a_Books_back a_Books_twin_2 a_Books_eq a_Books_len a_Books_str c_RoundError c_NoBill c_NoNesting c_NoSpot c_NoWishes c_NoOutline c_ThreeNestings c_Kept c_NoText c_NoWish c_NoAmount c_Nothing c_NoOrder c_Books)) rfl (bkOk_of b_pg b_hd b_po b_sa b_n1 b_n2 b_n3 eb_sb) eb_kb eb_ks b_ha b_hn b_tk b_hm
    · intro C h
      have e : (some c_Books : Option Addr) = some C := h
      cases e
      exact bkOk_of b_pg b_hd b_po b_sa b_n1 b_n2 b_n3 eb_sb
    · refine allM_of (L := mtL) ?_
      refine ⟨?_, ?_, ?_, ?_, ?_, ?_, ?_, ?_, ?_, ?_, ?_, ?_, ?_, ?_, trivial⟩
      · have F := fun_mk (st := t_Books_init) l1_Books_init k1_Books_init p1_Books_init
        refine ⟨c_Books, _, t_Books_init, _, _, N_Books_init, P_Books_init, G_Books_init, ⟨2, 2, s_Books_init⟩, rfl, rfl, ⟨a1_Books_init, i1_Books_init, p1_Books_init⟩, fun _ => ⟨b_mk, a1_Books_init, i1_Books_init, b_kc⟩, F, sc_Books_init, F.binds (ps := P_Books_init) (fun _ _ _ _ _ _ us hl => match us, hl with | [_, _], _ => rfl), T_Books_init, rfl, rfl, m_Books_init, ?_⟩
        intro i y d hi
        simp [G_Books_init] at hi
      · have F := fun_mk (st := t_Books_call) l1_Books_call k1_Books_call p1_Books_call
        refine ⟨c_Books, _, t_Books_call, _, _, N_Books_call, P_Books_call, G_Books_call, ⟨3, 3, s_Books_call⟩, rfl, rfl, ⟨a1_Books_call, i1_Books_call, p1_Books_call⟩, fun e => absurd e (by decide), F, sc_Books_call, F.binds (ps := P_Books_call) (fun _ _ _ _ _ _ us hl => match us, hl with | [_, _, _], _ => rfl), T_Books_call, rfl, rfl, m_Books_call, ?_⟩
        intro i y d hi
        simp [G_Books_call] at hi
      · have F := fun_mk (st := t_Books_at_spot) l1_Books_at_spot k1_Books_at_spot p1_Books_at_spot
        refine ⟨c_Books, _, t_Books_at_spot, _, _, N_Books_at_spot, P_Books_at_spot, G_Books_at_spot, ⟨2, 3, s_Books_at_spot⟩, rfl, rfl, ⟨a1_Books_at_spot, i1_Books_at_spot, p1_Books_at_spot⟩, fun e => absurd e (by decide), F, sc_Books_at_spot, F.binds (ps := P_Books_at_spot) (fun _ _ _ _ _ _ us hl => match us, hl with | [_, _], _ => rfl), T_Books_at_spot, rfl, rfl, m_Books_at_spot, ?_⟩
        intro i y d hi
        simp [G_Books_at_spot] at hi
      · have F := fun_mk (st := t_Books_wish) l1_Books_wish k1_Books_wish p1_Books_wish
        refine ⟨c_Books, _, t_Books_wish, _, _, N_Books_wish, P_Books_wish, G_Books_wish, ⟨3, 5, s_Books_wish⟩, rfl, rfl, ⟨a1_Books_wish, i1_Books_wish, p1_Books_wish⟩, fun e => absurd e (by decide), F, sc_Books_wish, F.binds (ps := P_Books_wish) (fun _ _ _ _ _ _ us hl => match us, hl with | [_, _, _], _ => rfl), T_Books_wish, rfl, rfl, m_Books_wish, ?_⟩
        intro i y d hi
        rcases i with _ | i
        · cases hi; exact ⟨.ref w_WORDS, _, PySem.W.mg_of X G g_WORDS, rfl, fun _ _ _ _ => .ktp (vs := [.str ⟨#[117, 112]⟩, .str ⟨#[100, 111, 119, 110]⟩]) ⟨_, _, _, l1_WORDS, rfl, rfl, rfl, (show 2 ≤ sizeLine by decide), .cons ⟨_, rfl⟩ (.cons ⟨_, rfl⟩ (.nil))⟩ (show 2 ≤ sizeLine by decide) (.cons (.str _) (.cons (.str _) .nil))⟩
        rcases i with _ | i
        · cases hi; exact ⟨_, _, PySem.W.mg_of X G g_MOST, r_MOST, fun _ _ _ _ => .int _⟩
        · simp [G_Books_wish] at hi
      · have F := fun_mk (st := t_Books_drop_2) l1_Books_drop_2 k1_Books_drop_2 p1_Books_drop_2
        refine ⟨c_Books, _, t_Books_drop_2, _, _, N_Books_drop_2, P_Books_drop_2, G_Books_drop_2, ⟨2, 6, s_Books_drop_2⟩, rfl, rfl, ⟨a1_Books_drop_2, i1_Books_drop_2, p1_Books_drop_2⟩, fun e => absurd e (by decide), F, sc_Books_drop_2, F.binds (ps := P_Books_drop_2) (fun _ _ _ _ _ _ us hl => match us, hl with | [_, _], _ => rfl), T_Books_drop_2, rfl, rfl, m_Books_drop_2, ?_⟩
        intro i y d hi
        simp [G_Books_drop_2] at hi
      · have F := fun_mk (st := t_Books_change_2) l1_Books_change_2 k1_Books_change_2 p1_Books_change_2
        refine ⟨c_Books, _, t_Books_change_2, _, _, N_Books_change_2, P_Books_change_2, G_Books_change_2, ⟨3, 6, s_Books_change_2⟩, rfl, rfl, ⟨a1_Books_change_2, i1_Books_change_2, p1_Books_change_2⟩, fun e => absurd e (by decide), F, sc_Books_change_2, F.binds (ps := P_Books_change_2) (fun _ _ _ _ _ _ us hl => match us, hl with | [_, _, _], _ => rfl), T_Books_change_2, rfl, rfl, m_Books_change_2, ?_⟩
        intro i y d hi
        rcases i with _ | i
        · cases hi; exact ⟨_, _, PySem.W.mg_of X G g_AMOUNT, r_AMOUNT, fun _ _ _ _ => .int _⟩
        · simp [G_Books_change_2] at hi
      · have F := fun_mk (st := t_Books_rounding) l1_Books_rounding k1_Books_rounding p1_Books_rounding
        refine ⟨c_Books, _, t_Books_rounding, _, _, N_Books_rounding, P_Books_rounding, G_Books_rounding, ⟨1, 1, s_Books_rounding⟩, rfl, rfl, ⟨a1_Books_rounding, i1_Books_rounding, p1_Books_rounding⟩, fun e => absurd e (by decide), F, sc_Books_rounding, F.binds (ps := P_Books_rounding) (fun _ _ _ _ _ _ us hl => match us, hl with | [_], _ => rfl), T_Books_rounding, rfl, rfl, m_Books_rounding, ?_⟩
        intro i y d hi
        simp [G_Books_rounding] at hi
      · have F := fun_mk (st := t_Books_bill) l1_Books_bill k1_Books_bill p1_Books_bill
        refine ⟨c_Books, _, t_Books_bill, _, _, N_Books_bill, P_Books_bill, G_Books_bill, ⟨1, 1, s_Books_bill⟩, rfl, rfl, ⟨a1_Books_bill, i1_Books_bill, p1_Books_bill⟩, fun e => absurd e (by decide), F, sc_Books_bill, F.binds (ps := P_Books_bill) (fun _ _ _ _ _ _ us hl => match us, hl with | [_], _ => rfl), T_Books_bill, rfl, rfl, m_Books_bill, ?_⟩
        intro i y d hi
        simp [G_Books_bill] at hi
      · have F := fun_mk (st := t_Books_wishes) l1_Books_wishes k1_Books_wishes p1_Books_wishes
        refine ⟨c_Books, _, t_Books_wishes, _, _, N_Books_wishes, P_Books_wishes, G_Books_wishes, ⟨1, 1, s_Books_wishes⟩, rfl, rfl, ⟨a1_Books_wishes, i1_Books_wishes, p1_Books_wishes⟩, fun e => absurd e (by decide), F, sc_Books_wishes, F.binds (ps := P_Books_wishes) (fun _ _ _ _ _ _ us hl => match us, hl with | [_], _ => rfl), T_Books_wishes, rfl, rfl, m_Books_wishes, ?_⟩
        intro i y d hi
        simp [G_Books_wishes] at hi
      · have F := fun_mk (st := t_Books_back) l1_Books_back k1_Books_back p1_Books_back
        refine ⟨c_Books, _, t_Books_back, _, _, N_Books_back, P_Books_back, G_Books_back, ⟨1, 1, s_Books_back⟩, rfl, rfl, ⟨a1_Books_back, i1_Books_back, p1_Books_back⟩, fun e => absurd e (by decide), F, sc_Books_back, F.binds (ps := P_Books_back) (fun _ _ _ _ _ _ us hl => match us, hl with | [_], _ => rfl), T_Books_back, rfl, rfl, m_Books_back, ?_⟩
        intro i y d hi
        simp [G_Books_back] at hi
      · have F := fun_mk (st := t_Books_twin_2) l1_Books_twin_2 k1_Books_twin_2 p1_Books_twin_2
        refine ⟨c_Books, _, t_Books_twin_2, _, _, N_Books_twin_2, P_Books_twin_2, G_Books_twin_2, ⟨1, 1, s_Books_twin_2⟩, rfl, rfl, ⟨a1_Books_twin_2, i1_Books_twin_2, p1_Books_twin_2⟩, fun e => absurd e (by decide), F, sc_Books_twin_2, F.binds (ps := P_Books_twin_2) (fun _ _ _ _ _ _ us hl => match us, hl with | [_], _ => rfl), T_Books_twin_2, rfl, rfl, m_Books_twin_2, ?_⟩
        intro i y d hi
        simp [G_Books_twin_2] at hi
      · have F := fun_mk (st := t_Books_eq) l1_Books_eq k1_Books_eq p1_Books_eq
        refine ⟨c_Books, _, t_Books_eq, _, _, N_Books_eq, P_Books_eq, G_Books_eq, ⟨2, 2, s_Books_eq⟩, rfl, rfl, ⟨a1_Books_eq, i1_Books_eq, p1_Books_eq⟩, fun e => absurd e (by decide), F, sc_Books_eq, F.binds (ps := P_Books_eq) (fun _ _ _ _ _ _ us hl => match us, hl with | [_, _], _ => rfl), T_Books_eq, rfl, rfl, m_Books_eq, ?_⟩
        intro i y d hi
        simp [G_Books_eq] at hi
      · have F := fun_mk (st := t_Books_len) l1_Books_len k1_Books_len p1_Books_len
        refine ⟨c_Books, _, t_Books_len, _, _, N_Books_len, P_Books_len, G_Books_len, ⟨1, 1, s_Books_len⟩, rfl, rfl, ⟨a1_Books_len, i1_Books_len, p1_Books_len⟩, fun e => absurd e (by decide), F, sc_Books_len, F.binds (ps := P_Books_len) (fun _ _ _ _ _ _ us hl => match us, hl with | [_], _ => rfl), T_Books_len, rfl, rfl, m_Books_len, ?_⟩
        intro i y d hi
        simp [G_Books_len] at hi
      · have F := fun_mk (st := t_Books_str) l1_Books_str k1_Books_str p1_Books_str
        refine ⟨c_Books, _, t_Books_str, _, _, N_Books_str, P_Books_str, G_Books_str, ⟨1, 3, s_Books_str⟩, rfl, rfl, ⟨a1_Books_str, i1_Books_str, p1_Books_str⟩, fun e => absurd e (by decide), F, sc_Books_str, F.binds (ps := P_Books_str) (fun _ _ _ _ _ _ us hl => match us, hl with | [_], _ => rfl), T_Books_str, rfl, rfl, m_Books_str, ?_⟩
        intro i y d hi
        simp [G_Books_str] at hi
    · intro g hg
      have hg : some ("_law_which" : Str) = some g := hg
      cases hg
      have F := fun_mk (st := t_l_which) l1_l_which k1_l_which p1_l_which
      have E : ErrOk (ad a__wall a_is_whole a_items_in a_is_nesting a_good_bill a_need_bill a_groups_in a_groups_of a_lots_of a_is_spot a_need_spot a_amount_of a_ends_of a_bounds_of a_all_bounds a_sum_at a_breaks_of a_outlines a_first_of a_l_same_truth a_l_ask_5 a_law_k13 a_Books_init a_Books_call a_Books_at_spot a_Books_wish a_Books_drop_2 a_Books_change_2 a_Books_rounding a_Books_bill a_Books_wishes a_Books_back a_Books_twin_2 a_Books_eq a_Books_len a_Books_str c_RoundError c_NoBill c_NoNesting c_NoSpot c_NoWishes c_NoOutline c_ThreeNestings c_Kept c_NoText c_NoWish c_NoAmount c_Nothing c_NoOrder c_Books) K mg := errOk_of (cs := [c_NoBill, c_NoNesting, c_NoSpot, c_NoWishes, c_NoOutline, c_ThreeNestings, c_Kept, c_NoText, c_NoWish, c_NoAmount, c_Nothing, c_NoOrder]) rfl (fun i h1 h2 => by
        rcases (by omega : i = 1 ∨ i = 2 ∨ i = 3 ∨ i = 4 ∨ i = 5 ∨ i = 6 ∨ i = 7 ∨ i = 8 ∨ i = 9 ∨ i = 10 ∨ i = 11 ∨ i = 12) with rfl | rfl | rfl | rfl | rfl | rfl | rfl | rfl | rfl | rfl | rfl | rfl <;> rfl) eb_ (PySem.W.mg_none_of X G z_ValueError)
      exact ⟨E, a_l_which, _, "_law_e", PySem.W.mg_of X G a1_l_which, F.kp, F.binds (ps := P_l_which) (fun _ _ _ _ _ _ us hl => match us, hl with | [_], _ => rfl), fun P w base => which_fn (l := lk) E CL (PySem.W.mg_none_of X G z_isinstance) F sc_l_which rfl m_l_which P w base⟩
    · intro c a ha hc
      have q : ∀ (L : List (Nat × Addr)), AllE (fun p => ErrC K p.2) L → ∀ c a, L.lookup c = some a → ErrC K a := fun L => by
        induction L with
        | nil => intro _ c a h; cases h
        | cons p r ih =>
          intro h c a e
          rw [List.lookup_cons] at e
          split at e
          · cases e; exact h.1
          · exact ih h.2 c a e
      have ha : List.lookup c [(0, c_RoundError), (1, c_NoBill), (2, c_NoNesting), (3, c_NoSpot), (4, c_NoWishes), (5, c_NoOutline), (6, c_ThreeNestings), (7, c_Kept), (8, c_NoText), (9, c_NoWish), (10, c_NoAmount), (11, c_Nothing), (12, c_NoOrder), (13, c_Books)] = some a := ha
      have ha : List.lookup c [(0, c_RoundError), (1, c_NoBill), (2, c_NoNesting), (3, c_NoSpot), (4, c_NoWishes), (5, c_NoOutline), (6, c_ThreeNestings), (7, c_Kept), (8, c_NoText), (9, c_NoWish), (10, c_NoAmount), (11, c_Nothing), (12, c_NoOrder)] = some a := lookup_13 (k := 13) hc ha
      exact q [(0, c_RoundError), (1, c_NoBill), (2, c_NoNesting), (3, c_NoSpot), (4, c_NoWishes), (5, c_NoOutline), (6, c_ThreeNestings), (7, c_Kept), (8, c_NoText), (9, c_NoWish), (10, c_NoAmount), (11, c_Nothing), (12, c_NoOrder)] ⟨⟨_, _, _, _, PySem.F.excBase_ValueError, xc_RoundError, kc_RoundError, sc_RoundError, tc_RoundError⟩, ⟨_, _, _, _, PySem.F.excBase_ValueError, xc_NoBill, kc_NoBill, sc_NoBill, tc_NoBill⟩, ⟨_, _, _, _, PySem.F.excBase_ValueError, xc_NoNesting, kc_NoNesting, sc_NoNesting, tc_NoNesting⟩, ⟨_, _, _, _, PySem.F.excBase_ValueError, xc_NoSpot, kc_NoSpot, sc_NoSpot, tc_NoSpot⟩, ⟨_, _, _, _, PySem.F.excBase_ValueError, xc_NoWishes, kc_NoWishes, sc_NoWishes, tc_NoWishes⟩, ⟨_, _, _, _, PySem.F.excBase_ValueError, xc_NoOutline, kc_NoOutline, sc_NoOutline, tc_NoOutline⟩, ⟨_, _, _, _, PySem.F.excBase_ValueError, xc_ThreeNestings, kc_ThreeNestings, sc_ThreeNestings, tc_ThreeNestings⟩, ⟨_, _, _, _, PySem.F.excBase_ValueError, xc_Kept, kc_Kept, sc_Kept, tc_Kept⟩, ⟨_, _, _, _, PySem.F.excBase_ValueError, xc_NoText, kc_NoText, sc_NoText, tc_NoText⟩, ⟨_, _, _, _, PySem.F.excBase_ValueError, xc_NoWish, kc_NoWish, sc_NoWish, tc_NoWish⟩, ⟨_, _, _, _, PySem.F.excBase_ValueError, xc_NoAmount, kc_NoAmount, sc_NoAmount, tc_NoAmount⟩, ⟨_, _, _, _, PySem.F.excBase_ValueError, xc_Nothing, kc_Nothing, sc_Nothing, tc_Nothing⟩, ⟨_, _, _, _, PySem.F.excBase_ValueError, xc_NoOrder, kc_NoOrder, sc_NoOrder, tc_NoOrder⟩, trivial⟩ c a ha
  have F := fun_mk (st := t_law_k13) l1_law_k13 k1_law_k13 p1_law_k13
  refine ⟨PySem.W.fnOf "law" "law" (defArgs t_law_k13) (defBody t_law_k13) (defScope t_law_k13) .none kV_law_k13 dc_law_k13 pm_law_k13 an_law_k13 cd_law_k13 ct_law_k13, fun s v => .of_eq rfl, fun base _ _ => ?_⟩
  exact FnOk.mono (fn_succ (n := 39) (x := "law") (qu := "law") (f := f_law_k13) (N := N_law_k13) (ps := P_law_k13) (G := G_law_k13) raw_all X0 (fn_all raw_all X0 39) F sc_law_k13 T_law_k13 rfl rfl m_law_k13 (by intro i y d hi; simp [G_law_k13] at hi)) fun vs H Q E z => spL_F _ law z
end Bo.Lk13
open PySem PySem.W PyProof.Rows
set_option maxRecDepth 100000 in
set_option maxHeartbeats 0 in
theorem PySem.Challenge.cw_bothrounds_k13_books_refused_holds : PySem.Challenge.rw_bothrounds_k13_books_refused.Holds := by
  w_on; o_law; k_head; (case hw => w_witness2)
  k_fill
  refine Bo.law_end (l := PySem.Challenge.rw_bothrounds_k13_books_refused) (n := 80) rfl rfl ⟨rfl, by decide, by decide⟩ (fun w h Y => PySem.W.kIn_of Y) ?F
  case F =>
    intro w mg fa h KX G hmg
    refine' Bo.Lk13.all_mk KX G hmg ?ac_RoundError ?ac_NoBill ?ac_NoNesting ?ac_NoSpot ?ac_NoWishes ?ac_NoOutline ?ac_ThreeNestings ?ac_Kept ?ac_NoText ?ac_NoWish ?ac_NoAmount ?ac_Nothing ?ac_NoOrder ?ac_Books ?a1__wall ?l1__wall ?k1__wall ?p1__wall ?a1_is_whole ?l1_is_whole ?k1_is_whole ?p1_is_whole ?a1_items_in ?l1_items_in ?k1_items_in ?p1_items_in ?a1_is_nesting ?l1_is_nesting ?k1_is_nesting ?p1_is_nesting ?a1_good_bill ?l1_good_bill ?k1_good_bill ?p1_good_bill ?a1_need_bill ?l1_need_bill ?k1_need_bill ?p1_need_bill ?a1_groups_in ?l1_groups_in ?k1_groups_in ?p1_groups_in ?a1_groups_of ?l1_groups_of ?k1_groups_of ?p1_groups_of ?a1_lots_of ?l1_lots_of ?k1_lots_of ?p1_lots_of ?a1_is_spot ?l1_is_spot ?k1_is_spot ?p1_is_spot ?a1_need_spot ?l1_need_spot ?k1_need_spot ?p1_need_spot ?a1_amount_of ?l1_amount_of ?k1_amount_of ?p1_amount_of ?a1_ends_of ?l1_ends_of ?k1_ends_of ?p1_ends_of ?a1_bounds_of ?l1_bounds_of ?k1_bounds_of ?p1_bounds_of ?a1_all_bounds ?l1_all_bounds ?k1_all_bounds ?p1_all_bounds ?a1_sum_at ?l1_sum_at ?k1_sum_at ?p1_sum_at ?a1_breaks_of ?l1_breaks_of ?k1_breaks_of ?p1_breaks_of ?a1_outlines ?l1_outlines ?k1_outlines ?p1_outlines ?a1_first_of ?l1_first_of ?k1_first_of ?p1_first_of ?a1_l_same_truth ?l1_l_same_truth ?k1_l_same_truth ?p1_l_same_truth ?a1_l_ask_5 ?l1_l_ask_5 ?k1_l_ask_5 ?p1_l_ask_5 ?a1_law_k13 ?l1_law_k13 ?k1_law_k13 ?p1_law_k13 ?a1_l_which ?l1_l_which ?k1_l_which ?p1_l_which ?a1_Books_init ?i1_Books_init ?l1_Books_init ?k1_Books_init ?p1_Books_init ?a1_Books_call ?i1_Books_call ?l1_Books_call ?k1_Books_call ?p1_Books_call ?a1_Books_at_spot ?i1_Books_at_spot ?l1_Books_at_spot ?k1_Books_at_spot ?p1_Books_at_spot ?a1_Books_wish ?i1_Books_wish ?l1_Books_wish ?k1_Books_wish ?p1_Books_wish ?a1_Books_drop_2 ?i1_Books_drop_2 ?l1_Books_drop_2 ?k1_Books_drop_2 ?p1_Books_drop_2 ?a1_Books_change_2 ?i1_Books_change_2 ?l1_Books_change_2 ?k1_Books_change_2 ?p1_Books_change_2 ?a1_Books_rounding ?i1_Books_rounding ?l1_Books_rounding ?k1_Books_rounding ?p1_Books_rounding ?a1_Books_bill ?i1_Books_bill ?l1_Books_bill ?k1_Books_bill ?p1_Books_bill ?a1_Books_wishes ?i1_Books_wishes ?l1_Books_wishes ?k1_Books_wishes ?p1_Books_wishes ?a1_Books_back ?i1_Books_back ?l1_Books_back ?k1_Books_back ?p1_Books_back ?a1_Books_twin_2 ?i1_Books_twin_2 ?l1_Books_twin_2 ?k1_Books_twin_2 ?p1_Books_twin_2 ?a1_Books_eq ?i1_Books_eq ?l1_Books_eq ?k1_Books_eq ?p1_Books_eq ?a1_Books_len ?i1_Books_len ?l1_Books_len ?k1_Books_len ?p1_Books_len ?a1_Books_str ?i1_Books_str ?l1_Books_str ?k1_Books_str ?p1_Books_str ?b_pg ?b_hd ?b_po ?b_sa ?b_mk ?b_kc ?b_n1 ?b_n2 ?b_n3 ?eb_sb ?eb_kb ?eb_ks ?b_ha ?b_hn ?b_tk ?b_hm ?xc_RoundError ?kc_RoundError ?sc_RoundError ?tc_RoundError ?xc_NoBill ?kc_NoBill ?sc_NoBill ?tc_NoBill ?xc_NoNesting ?kc_NoNesting ?sc_NoNesting ?tc_NoNesting ?xc_NoSpot ?kc_NoSpot ?sc_NoSpot ?tc_NoSpot ?xc_NoWishes ?kc_NoWishes ?sc_NoWishes ?tc_NoWishes ?xc_NoOutline ?kc_NoOutline ?sc_NoOutline ?tc_NoOutline ?xc_ThreeNestings ?kc_ThreeNestings ?sc_ThreeNestings ?tc_ThreeNestings ?xc_Kept ?kc_Kept ?sc_Kept ?tc_Kept ?xc_NoText ?kc_NoText ?sc_NoText ?tc_NoText ?xc_NoWish ?kc_NoWish ?sc_NoWish ?tc_NoWish ?xc_NoAmount ?kc_NoAmount ?sc_NoAmount ?tc_NoAmount ?xc_Nothing ?kc_Nothing ?sc_Nothing ?tc_Nothing ?xc_NoOrder ?kc_NoOrder ?sc_NoOrder ?tc_NoOrder ?eb_ ?z_ValueError ?z_range ?z_list ?z_dict ?z_set ?z_sorted ?z_len ?z_isinstance ?z_enumerate ?z_zip ?z_tuple ?z_sum ?z_all ?z_any ?z_min ?z_abs ?z_str ?z_int ?z_bool ?g_ITEMS ?r_ITEMS ?g_DEEP ?r_DEEP ?g_PARTS ?r_PARTS ?g_AMOUNT ?r_AMOUNT ?g_NESTINGS ?r_NESTINGS ?g_WORDS ?l1_WORDS ?g_MOST ?r_MOST Bo.Lk13.law_ok
    (case ac_RoundError => k_is)
    (case ac_NoBill => k_is)
    (case ac_NoNesting => k_is)
    (case ac_NoSpot => k_is)
    (case ac_NoWishes => k_is)
    (case ac_NoOutline => k_is)
    (case ac_ThreeNestings => k_is)
    (case ac_Kept => k_is)
    (case ac_NoText => k_is)
    (case ac_NoWish => k_is)
    (case ac_NoAmount => k_is)
    (case ac_Nothing => k_is)
    (case ac_NoOrder => k_is)
    (case ac_Books => k_is)
    (case a1__wall => k_is)
    (case l1__wall => k_is)
    (case k1__wall => k_is)
    (case p1__wall => k_is)
    (case a1_is_whole => k_is)
    (case l1_is_whole => k_is)
    (case k1_is_whole => k_is)
    (case p1_is_whole => k_is)
    (case a1_items_in => k_is)
    (case l1_items_in => k_is)
    (case k1_items_in => k_is)
    (case p1_items_in => k_is)
    (case a1_is_nesting => k_is)
    (case l1_is_nesting => k_is)
    (case k1_is_nesting => k_is)
    (case p1_is_nesting => k_is)
    (case a1_good_bill => k_is)
    (case l1_good_bill => k_is)
    (case k1_good_bill => k_is)
    (case p1_good_bill => k_is)
    (case a1_need_bill => k_is)
    (case l1_need_bill => k_is)
    (case k1_need_bill => k_is)
    (case p1_need_bill => k_is)
    (case a1_groups_in => k_is)
    (case l1_groups_in => k_is)
    (case k1_groups_in => k_is)
    (case p1_groups_in => k_is)
    (case a1_groups_of => k_is)
    (case l1_groups_of => k_is)
    (case k1_groups_of => k_is)
    (case p1_groups_of => k_is)
    (case a1_lots_of => k_is)
    (case l1_lots_of => k_is)
    (case k1_lots_of => k_is)
    (case p1_lots_of => k_is)
    (case a1_is_spot => k_is)
    (case l1_is_spot => k_is)
    (case k1_is_spot => k_is)
    (case p1_is_spot => k_is)
    (case a1_need_spot => k_is)
    (case l1_need_spot => k_is)
    (case k1_need_spot => k_is)
    (case p1_need_spot => k_is)
    (case a1_amount_of => k_is)
    (case l1_amount_of => k_is)
    (case k1_amount_of => k_is)
    (case p1_amount_of => k_is)
    (case a1_ends_of => k_is)
    (case l1_ends_of => k_is)
    (case k1_ends_of => k_is)
    (case p1_ends_of => k_is)
    (case a1_bounds_of => k_is)
    (case l1_bounds_of => k_is)
    (case k1_bounds_of => k_is)
    (case p1_bounds_of => k_is)
    (case a1_all_bounds => k_is)
    (case l1_all_bounds => k_is)
    (case k1_all_bounds => k_is)
    (case p1_all_bounds => k_is)
    (case a1_sum_at => k_is)
    (case l1_sum_at => k_is)
    (case k1_sum_at => k_is)
    (case p1_sum_at => k_is)
    (case a1_breaks_of => k_is)
    (case l1_breaks_of => k_is)
    (case k1_breaks_of => k_is)
    (case p1_breaks_of => k_is)
    (case a1_outlines => k_is)
    (case l1_outlines => k_is)
    (case k1_outlines => k_is)
    (case p1_outlines => k_is)
    (case a1_first_of => k_is)
    (case l1_first_of => k_is)
    (case k1_first_of => k_is)
    (case p1_first_of => k_is)
    (case a1_l_same_truth => k_is)
    (case l1_l_same_truth => k_is)
    (case k1_l_same_truth => k_is)
    (case p1_l_same_truth => k_is)
    (case a1_l_ask_5 => k_is)
    (case l1_l_ask_5 => k_is)
    (case k1_l_ask_5 => k_is)
    (case p1_l_ask_5 => k_is)
    (case a1_law_k13 => k_is)
    (case l1_law_k13 => k_is)
    (case k1_law_k13 => k_is)
    (case p1_law_k13 => k_is)
    (case a1_l_which => k_is)
    (case l1_l_which => k_is)
    (case k1_l_which => k_is)
    (case p1_l_which => k_is)
    (case a1_Books_init => k_is)
    (case i1_Books_init => k_is)
    (case l1_Books_init => k_is)
    (case k1_Books_init => k_is)
    (case p1_Books_init => k_is)
    (case a1_Books_call => k_is)
    (case i1_Books_call => k_is)
    (case l1_Books_call => k_is)
    (case k1_Books_call => k_is)
    (case p1_Books_call => k_is)
    (case a1_Books_at_spot => k_is)
    (case i1_Books_at_spot => k_is)
    (case l1_Books_at_spot => k_is)
    (case k1_Books_at_spot => k_is)
    (case p1_Books_at_spot => k_is)
    (case a1_Books_wish => k_is)
    (case i1_Books_wish => k_is)
    (case l1_Books_wish => k_is)
    (case k1_Books_wish => k_is)
    (case p1_Books_wish => k_is)
    (case a1_Books_drop_2 => k_is)
    (case i1_Books_drop_2 => k_is)
    (case l1_Books_drop_2 => k_is)
    (case k1_Books_drop_2 => k_is)
    (case p1_Books_drop_2 => k_is)
    (case a1_Books_change_2 => k_is)
    (case i1_Books_change_2 => k_is)
    (case l1_Books_change_2 => k_is)
    (case k1_Books_change_2 => k_is)
    (case p1_Books_change_2 => k_is)
    (case a1_Books_rounding => k_is)
    (case i1_Books_rounding => k_is)
    (case l1_Books_rounding => k_is)
    (case k1_Books_rounding => k_is)
    (case p1_Books_rounding => k_is)
    (case a1_Books_bill => k_is)
    (case i1_Books_bill => k_is)
    (case l1_Books_bill => k_is)
    (case k1_Books_bill => k_is)
    (case p1_Books_bill => k_is)
    (case a1_Books_wishes => k_is)
    (case i1_Books_wishes => k_is)
    (case l1_Books_wishes => k_is)
    (case k1_Books_wishes => k_is)
    (case p1_Books_wishes => k_is)
    (case a1_Books_back => k_is)
    (case i1_Books_back => k_is)
    (case l1_Books_back => k_is)
    (case k1_Books_back => k_is)
    (case p1_Books_back => k_is)
    (case a1_Books_twin_2 => k_is)
    (case i1_Books_twin_2 => k_is)
    (case l1_Books_twin_2 => k_is)
    (case k1_Books_twin_2 => k_is)
    (case p1_Books_twin_2 => k_is)
    (case a1_Books_eq => k_is)
    (case i1_Books_eq => k_is)
    (case l1_Books_eq => k_is)
    (case k1_Books_eq => k_is)
    (case p1_Books_eq => k_is)
    (case a1_Books_len => k_is)
    (case i1_Books_len => k_is)
    (case l1_Books_len => k_is)
    (case k1_Books_len => k_is)
    (case p1_Books_len => k_is)
    (case a1_Books_str => k_is)
    (case i1_Books_str => k_is)
    (case l1_Books_str => k_is)
    (case k1_Books_str => k_is)
    (case p1_Books_str => k_is)
    (case b_pg => k_is)
    (case b_hd => k_is)
    (case b_po => k_is)
    (case b_sa => k_is)
    (case b_mk => k_is)
    (case b_kc => k_is)
    (case b_n1 => k_is)
    (case b_n2 => k_is)
    (case b_n3 => k_is)
    (case eb_sb => kernel_rfl)
    (case eb_kb => kernel_rfl)
    (case eb_ks => kernel_rfl)
    (case b_ha => k_is)
    (case b_hn => k_is)
    (case b_tk => k_is)
    (case b_hm => k_is)
    (case xc_RoundError => k_exc)
    (case kc_RoundError => k_is)
    (case sc_RoundError => k_is)
    (case tc_RoundError => k_is)
    (case xc_NoBill => k_exc)
    (case kc_NoBill => k_is)
    (case sc_NoBill => k_is)
    (case tc_NoBill => k_is)
    (case xc_NoNesting => k_exc)
    (case kc_NoNesting => k_is)
    (case sc_NoNesting => k_is)
    (case tc_NoNesting => k_is)
    (case xc_NoSpot => k_exc)
    (case kc_NoSpot => k_is)
    (case sc_NoSpot => k_is)
    (case tc_NoSpot => k_is)
    (case xc_NoWishes => k_exc)
    (case kc_NoWishes => k_is)
    (case sc_NoWishes => k_is)
    (case tc_NoWishes => k_is)
    (case xc_NoOutline => k_exc)
    (case kc_NoOutline => k_is)
    (case sc_NoOutline => k_is)
    (case tc_NoOutline => k_is)
    (case xc_ThreeNestings => k_exc)
    (case kc_ThreeNestings => k_is)
    (case sc_ThreeNestings => k_is)
    (case tc_ThreeNestings => k_is)
    (case xc_Kept => k_exc)
    (case kc_Kept => k_is)
    (case sc_Kept => k_is)
    (case tc_Kept => k_is)
    (case xc_NoText => k_exc)
    (case kc_NoText => k_is)
    (case sc_NoText => k_is)
    (case tc_NoText => k_is)
    (case xc_NoWish => k_exc)
    (case kc_NoWish => k_is)
    (case sc_NoWish => k_is)
    (case tc_NoWish => k_is)
    (case xc_NoAmount => k_exc)
    (case kc_NoAmount => k_is)
    (case sc_NoAmount => k_is)
    (case tc_NoAmount => k_is)
    (case xc_Nothing => k_exc)
    (case kc_Nothing => k_is)
    (case sc_Nothing => k_is)
    (case tc_Nothing => k_is)
    (case xc_NoOrder => k_exc)
    (case kc_NoOrder => k_is)
    (case sc_NoOrder => k_is)
    (case tc_NoOrder => k_is)
    (case eb_ => kernel_rfl)
    (case z_ValueError => k_is)
    (case z_range => k_is)
    (case z_list => k_is)
    (case z_dict => k_is)
    (case z_set => k_is)
    (case z_sorted => k_is)
    (case z_len => k_is)
    (case z_isinstance => k_is)
    (case z_enumerate => k_is)
    (case z_zip => k_is)
    (case z_tuple => k_is)
    (case z_sum => k_is)
    (case z_all => k_is)
    (case z_any => k_is)
    (case z_min => k_is)
    (case z_abs => k_is)
    (case z_str => k_is)
    (case z_int => k_is)
    (case z_bool => k_is)
    (case g_ITEMS => k_is)
    (case r_ITEMS => exact ⟨_, rfl⟩)
    (case g_DEEP => k_is)
    (case r_DEEP => exact ⟨_, rfl⟩)
    (case g_PARTS => k_is)
    (case r_PARTS => exact ⟨_, rfl⟩)
    (case g_AMOUNT => k_is)
    (case r_AMOUNT => exact ⟨_, rfl⟩)
    (case g_NESTINGS => k_is)
    (case r_NESTINGS => exact ⟨_, rfl⟩)
    (case g_WORDS => k_is)
    (case l1_WORDS => k_is)
    (case g_MOST => k_is)
    (case r_MOST => exact ⟨_, rfl⟩)
