import PyProof.Rows.All
import Wide.All
import OpenK.AllK
import Wide.FinOn
import HandS.ForMost
import HandS.ForExc
import HandS.Deep
import HandS.TupAny
import HandS.TupMul
import HandS.Zip
import HandS.Style
import HandS.Flow
import HandS.IsInst
import KE.KDictKeyed
import KE.SortData
import KE.DataMinMax
import HandS.Replace
import KE.SortCalls
import KE.OsSortAny
import PyProof.SumWalk
import KE.KDictSum
import KE.KDictCopyH
import KE.KDictZip
import KE.KDictDisplayH
import KE.DataFind
import HandS.HotCalls
import HandS.ExcIs
import HandS.DictTup
import HandS.Small
import HandS.SetFor
import HandS.Strs
import HandS.Conv
import HandS.Text
import HandS.ReplaceLit
import PySem.Challenge.RW_labelgrids_k09_whole_counting
set_option Elab.async false
set_option linter.all false
set_option maxRecDepth 1000000
set_option maxHeartbeats 40000000
/-! LgA: the small language (IR), its values and its evaluator. -/
namespace LG
open PySem PySem.Spec PyProof.Rows L2

abbrev D := PyData
/-- a result: a value, an exception of the program (its number), or no word at all -/
inductive R (α : Type) where
  | ok (a : α)
  | exn (k c : Nat)
  | bad
/-- the state is the number of draws so far -/
def R.thn {α β : Type} (r : R (α × Nat)) (f : α → Nat → R (β × Nat)) : R (β × Nat) :=
  match r with
  | .ok (a, c) => f a c
  | .exn k c0 => .exn k c0
  | .bad => .bad
def R.at {α : Type} (r : R α) (c : Nat) : R (α × Nat) :=
  match r with
  | .ok a => .ok (a, c)
  | _ => .bad
@[simp] theorem R.thn_ok {α β : Type} (a : α) (c : Nat) (f : α → Nat → R (β × Nat)) : (R.ok (a, c)).thn f = f a c := rfl
@[simp] theorem R.thn_exn {α β : Type} (k c : Nat) (f : α → Nat → R (β × Nat)) : (R.exn k c : R (α × Nat)).thn f = .exn k c := rfl
@[simp] theorem R.thn_bad {α β : Type} (f : α → Nat → R (β × Nat)) : (R.bad : R (α × Nat)).thn f = .bad := rfl
@[simp] theorem R.at_ok {α : Type} (a : α) (c : Nat) : (R.ok a).at c = .ok (a, c) := rfl
@[simp] theorem R.at_exn {α : Type} (k c0 : Nat) (c : Nat) : (R.exn k c0 : R α).at c = .bad := rfl
@[simp] theorem R.at_bad {α : Type} (c : Nat) : (R.bad : R α).at c = .bad := rfl

/-- what a name of a frame holds: nothing known, a value that is not changed any more, a container of this frame's own, the script, the law's list of draws -/
inductive Slot where
  | unb
  | val (d : D)
  | own (d : D)
  | scr
  | town
abbrev En := List Slot

/-- no list, tuple or dict that is spoken of is longer -/
def LIM : Nat := 1000000

inductive BinO where
  | add | sub | mul | fdiv | mod
inductive CmpO where
  | eq | ne | lt | le | gt | ge | isin | notin
/-- built-in functions (of values) -/
inductive Pr where
  | len | sorted | min1 | max1 | min2 | max2 | sum | all | any | tuple | list | dictzip | dict | str | int
  | count | index | get2 | join | split | replace | items | sortedset | listr
/-- the classes that isinstance asks for -/
inductive Ty where
  | int | bool | tuple | str
inductive Tg where
  | nm (i : Nat)
  | tp (is : List Nat)

mutual
inductive Ex where
  | var (i : Nat)
  | con (d : D)
  | glb (g : Nat)
  | bin (o : BinO) (a b : Ex)
  | neg (a : Ex)
  | cmp (o : CmpO) (a b : Ex)
  | isc (neg : Bool) (a : Ex) (d : D)
  | chn (a b c : Ex)
  | and (a b : Ex)
  | or (a b : Ex)
  | not (a : Ex)
  | ite (c a b : Ex)
  | tup (es : Exs)
  | lst (es : Exs)
  | dct (k v : Exs)
  | idx (a i : Ex)
  | slc (a : Ex) (lo hi : Exo)
  | rev (a : Ex)
  | call (f : Nat) (es : Exs)
  | callT (f : Nat) (es : Exs)
  | callL (fs : List Nat) (i : Ex) (es : Exs)
  | callB (f : Nat) (i : Nat) (es : Exs)
  | mk (f : Nat) (es : Exs)
  | prim (p : Pr) (es : Exs)
  | mth (p : Pr) (a : Ex) (es : Exs)
  | isi (t : Ty) (a : Ex)
  | inO (neg : Bool) (a : Ex) (i : Nat)
  | eqO (neg : Bool) (i : Nat) (b : Ex)
  | idxO (i : Nat) (e : Ex)
  | getO (i : Nat) (k v : Ex)
  | comp (vs : List Nat) (tg : Tg) (it : Itx) (ifs : Exo) (elt : Ex)
inductive Exs where
  | nil
  | cons (e : Ex) (es : Exs)
inductive Exo where
  | none
  | some (e : Ex)
inductive Itx where
  | seq (e : Ex)
  | rng1 (a : Ex)
  | rng2 (a b : Ex)
  | rng3 (a b : Ex)
  | zip (a b : Ex)
  | enm (a : Ex)
end

mutual
inductive Sm where
  | asg (i : Nat) (e : Ex)
  | new (i : Nat) (e : Ex)
  | shr (i : Nat)
  | app (i : Nat) (e : Ex)
  | ext (i : Nat) (e : Ex)
  | put (i : Nat) (k v : Ex)
  | unp (is : List Nat) (e : Ex)
  | par (is : List (Nat × Bool)) (es : Exs)
  | aug (i : Nat) (o : BinO) (e : Ex)
  | ife (c : Ex) (t f : Sms)
  | for' (tg : Tg) (it : Itx) (b : Sms)
  | whl (fuel : Nat) (c : Ex) (b : Sms)
  | ret (e : Ex)
  | exp (e : Ex)
  | rse (k : Nat)
  | nop
  | tryW (i : Nat) (ov : List (Nat × D)) (b : Sms)
  | retL (j : Nat) (fs : List Nat) (i : Ex) (es : Exs)
  | hole
  | forP (tg : Tg) (f i : Nat) (b : Sms)
  | spr (i j : Nat) (tg : Tg) (it : Itx) (e : Ex)
inductive Sms where
  | nil
  | cons (s : Sm) (r : Sms)
end

/-! ### data -/
def small (i : Int) : Bool := decide (-(2 ^ 64) < i) && decide (i < 2 ^ 64)
def repL (xs : List D) (k : Int) : List D := (List.replicate k.toNat xs).flatten
def binD : BinO → D → D → R D
  | .add, .int a, .int b => .ok (.int (a + b))
  | .add, .list a, .list b => if a.length + b.length ≤ LIM then .ok (.list (a ++ b)) else .bad
  | .add, .tuple a, .tuple b => if a.length + b.length ≤ LIM then .ok (.tuple (a ++ b)) else .bad
  | .add, .str a, .str b => if a.length + b.length ≤ LIM then .ok (.str (a ++ b)) else .bad
  | .sub, .int a, .int b => .ok (.int (a - b))
  | .mul, .int a, .int b => if small a || small b then .ok (.int (a * b)) else .bad
  | .mul, .list a, .int k => if a.length ≤ 1000 ∧ 0 ≤ k ∧ k ≤ 1000 then .ok (.list (repL a k)) else .bad
  | .mul, .str a, .int k => if a.length ≤ 1000 ∧ 0 ≤ k ∧ k ≤ 1000 then .ok (.str (Txt.mul a k)) else .bad
  | .mul, .tuple a, .int k => if a.length ≤ 1000 ∧ a ≠ [] ∧ 2 ≤ k ∧ k ≤ 1000 then .ok (.tuple (repL a k)) else .bad
  | .fdiv, .int a, .int b => if 0 < b ∧ b < 1073741824 then .ok (.int (a / b)) else .bad
  | .mod, .int a, .int b => if 0 < b then .ok (.int (a % b)) else .bad
  | _, _, _ => .bad
/-- data without dicts, as == takes it -/
def shp (d : D) : Bool := SeqAt.shaped d
def eqD (x y : D) : R Bool := if shp x && shp y then .ok (PyData.eqv x y) else .bad
mutual
/-- a key of a dict: a tuple of numbers, nested -/
def nkE : D → Option NestedKey
  | .int i => some (.num i)
  | .str x => some (.text x)
  | .none => some .none
  | .bool b => some (.num (if b then 1 else 0))
  | .tuple ds => (nkA ds).map .tup
  | _ => none
def nkA : List D → Option (List NestedKey)
  | [] => some []
  | d :: ds => match nkE d, nkA ds with
    | some k, some ks => some (k :: ks)
    | _, _ => none
end
def nk (d : D) : Option NestedKey := match d with
  | .tuple _ => match nkE d with
    | some k => if k.depth ≤ 8 then some k else none
    | none => none
  | _ => none
mutual
/-- the hash of a key without texts -/
def hzK : NestedKey → Option Int
  | .num i => some (hashInt i)
  | .tup ks => (hzA ks).map fun hs => reduceHash (Builtin.Tuple.tupleHashOf hs)
  | _ => none
def hzA : List NestedKey → Option (List Int)
  | [] => some []
  | k :: ks => match hzK k, hzA ks with
    | some h, some hs => some (h :: hs)
    | _, _ => none
end
def hzKs : List D → Option (List Int)
  | [] => some []
  | d :: ds => match nk d with
    | some κ => (match hzK κ, hzKs ds with
      | some h, some hs => some (h :: hs)
      | _, _ => none)
    | none => none
mutual
/-- the datum is that key -/
def kq : D → NestedKey → Bool
  | .int i, .num j => decide (i = j)
  | .str x, .text y => decide (x = y)
  | .none, .none => true
  | .bool b, .num j => decide ((if b then 1 else 0) = j)
  | .tuple ds, .tup ks => kqA ds ks
  | _, _ => false
def kqA : List D → List NestedKey → Bool
  | [], [] => true
  | d :: ds, k :: ks => kq d k && kqA ds ks
  | _, _ => false
end
def dGet (kvs : List (D × D)) (k : NestedKey) : Option D := (kvs.find? fun p => kq p.1 k).map (·.2)
def dPut (kvs : List (D × D)) (kd : D) (k : NestedKey) (v : D) : List (D × D) :=
  if (dGet kvs k).isSome then kvs.map fun p => if kq p.1 k then (p.1, v) else p else kvs ++ [(kd, v)]
def isinD (x y : D) : R Bool := match y with
  | .list ds => if shp x && shp (.list ds) then .ok (ds.any fun z => PyData.eqv z x) else .bad
  | .tuple ds => if shp x && shp (.tuple ds) then .ok (ds.any fun z => PyData.eqv z x) else .bad
  | .dict kvs => match nk x with
    | some k => .ok (dGet kvs k).isSome
    | none => .bad
  | .str b => match x with
    | .str a => .ok (!(Builtin.Str.occurrences b a 0 b.length 1).isEmpty)
    | _ => .bad
  | _ => .bad
def R.neg (r : R Bool) : R Bool := match r with
  | .ok b => .ok !b
  | _ => .bad
def cmpB : CmpO → D → D → R Bool
  | .eq, x, y => eqD x y
  | .ne, x, y => (eqD x y).neg
  | .lt, .int a, .int b => .ok (decide (a < b))
  | .le, .int a, .int b => .ok (decide (a ≤ b))
  | .gt, .int a, .int b => .ok (decide (b < a))
  | .ge, .int a, .int b => .ok (decide (b ≤ a))
  | .isin, x, y => isinD x y
  | .notin, x, y => (isinD x y).neg
  | _, _, _ => .bad
def boolR (r : R Bool) : R D := match r with
  | .ok b => .ok (.bool b)
  | _ => .bad
def atD (xs : List D) (i : Int) : R D := match atI xs i with
  | some d => .ok d
  | none => .bad
def idxD : D → D → R D
  | .list ds, .int i => atD ds i
  | .tuple ds, .int i => atD ds i
  | .str z, .int i => if z.length ≤ LIM then (match atI z.cps.toList i with | some c => .ok (.str ⟨#[c]⟩) | none => .bad) else .bad
  | .dict kvs, k => match nk k with
    | some κ => (match dGet kvs κ with | some v => .ok v | none => .bad)
    | none => .bad
  | _, _ => .bad
def cutD {α : Type} (xs : List α) (lo hi : Option Int) : List α := (xs.drop (HT.sIx xs.length 0 lo)).take (HT.sIx xs.length xs.length hi - HT.sIx xs.length 0 lo)
def slcD (d : D) (lo hi : Option Int) : R D := match d with
  | .list ds => .ok (.list (cutD ds lo hi))
  | .tuple ds => .ok (.tuple (cutD ds lo hi))
  | .str z => if z.length ≤ LIM then .ok (.str (cutS z lo hi)) else .bad
  | _ => .bad
def intsOf : List D → Option (List Int)
  | [] => some []
  | .int i :: r => (intsOf r).map (i :: ·)
  | _ => none
def boolsOf : List D → Option (List Bool)
  | [] => some []
  | .bool b :: r => (boolsOf r).map (b :: ·)
  | _ => none
def minI : Int → List Int → Int
  | m, [] => m
  | m, x :: r => minI (if x < m then x else m) r
def maxI : Int → List Int → Int
  | m, [] => m
  | m, x :: r => maxI (if m < x then x else m) r
def seqOf : D → Option (List D)
  | .list ds => some ds
  | .tuple ds => some ds
  | _ => none
/-! ### sorting -/
def leD (x y : D) : Bool := PySem.W.dataLe false id x y
def insD (x : D) : List D → List D
  | [] => [x]
  | y :: r => if leD x y then x :: y :: r else y :: insD x r
def isortD : List D → List D
  | [] => []
  | x :: r => insD x (isortD r)
def isTup1 : D → Bool
  | .tuple (_ :: _) => true
  | _ => false
def noTup : D → Bool
  | .tuple _ => false
  | .none => false
  | _ => true
def sortableD (ds : List D) : Bool := ds.all (fun x => ds.all fun y => PySem.W.alike x y) && (ds.all isTup1 || ds.all noTup) && ds.all fun x => decide (x.depth ≤ 40) && x.canLay0
def sortD (ds : List D) : R D := if sortableD ds then .ok (.list (isortD ds)) else .bad
def minsD (ds : List D) : R D := match ds with
  | [] => .bad
  | d :: r => match intsOf (d :: r) with
    | some (i :: is) => .ok (.int (minI i is))
    | _ => if sortableD (d :: r) && (d :: r).all (fun x => match x with | .none => false | _ => true) then .ok (PySem.W.minD d r) else .bad
def maxsD (ds : List D) : R D := match intsOf ds with
  | some (i :: is) => .ok (.int (maxI i is))
  | _ => .bad
def mergeD : List (D × D) → List (D × D) → List (D × D)
  | acc, [] => acc
  | acc, (k, v) :: r => match nk k with
    | some κ => mergeD (dPut acc k κ v) r
    | none => mergeD acc r
def strsOf : List D → Option (List Str)
  | [] => some []
  | .str z :: r => (strsOf r).map (z :: ·)
  | _ => none
def keysOf (kvs : List (D × D)) : List D := kvs.map (·.1)
/-- no two keys hash alike -/
def hzOk (kvs : List (D × D)) : Bool := match hzKs (keysOf kvs) with
  | some hs => decide hs.Nodup
  | none => false
/-- what an iteration of a value gives -/
def itemsD : D → R (List D)
  | .list ds => .ok ds
  | .tuple ds => .ok ds
  | .dict kvs => .ok (keysOf kvs)
  | .str z => if z.length ≤ LIM then .ok (z.cps.toList.map fun c => .str ⟨#[c]⟩) else .bad
  | _ => .bad
def rangeU (lo hi : Int) : List D := (List.range (hi - lo).toNat).map fun i => .int (lo + (i : Nat))
def rangeDn (lo hi : Int) : List D := (List.range (lo - hi).toNat).map fun i => .int (lo - (i : Nat))
def bounded (i : Int) : Bool := decide (-400000 ≤ i) && decide (i ≤ 400000)
/-! ### the members of a list of numbers, ascending -/
def dedI : List Int → List Int
  | [] => []
  | x :: r => if x ∈ r then dedI r else x :: dedI r
def insI (x : Int) : List Int → List Int
  | [] => [x]
  | y :: r => if x ≤ y then x :: y :: r else y :: insI x r
def isI : List Int → List Int
  | [] => []
  | x :: r => insI x (isI r)
def primD : Pr → List D → R D
  | .len, [.list ds] => .ok (.int ds.length)
  | .len, [.tuple ds] => .ok (.int ds.length)
  | .len, [.str z] => if z.length ≤ LIM then .ok (.int z.length) else .bad
  | .sorted, [.list ds] => sortD ds
  | .sorted, [.tuple ds] => sortD ds
  | .sorted, [.dict kvs] => sortD (keysOf kvs)
  | .min1, [.list ds] => minsD ds
  | .min1, [.tuple ds] => minsD ds
  | .max1, [.list ds] => maxsD ds
  | .max1, [.tuple ds] => maxsD ds
  | .min2, [.int a, .int b] => .ok (.int (if b < a then b else a))
  | .max2, [.int a, .int b] => .ok (.int (if b > a then b else a))
  | .sum, [.list ds] => (match intsOf ds with | some is => .ok (.int is.sum) | none => .bad)
  | .sum, [.tuple ds] => (match intsOf ds with | some is => .ok (.int is.sum) | none => .bad)
  | .all, [.list ds] => (match boolsOf ds with | some bs => .ok (.bool (bs.all id)) | none => .bad)
  | .any, [.list ds] => (match boolsOf ds with | some bs => .ok (.bool (bs.any id)) | none => .bad)
  | .tuple, [.list ds] => .ok (.tuple ds)
  | .tuple, [.tuple ds] => .ok (.tuple ds)
  | .list, [.list ds] => .ok (.list ds)
  | .list, [.tuple ds] => .ok (.list ds)
  | .dictzip, [.list ks, .tuple vs] => if (ks.zip vs).all (fun p => (nk p.1).isSome) then .ok (.dict (mergeD [] (ks.zip vs))) else .bad
  | .dict, [.dict kvs] => if hzOk kvs then .ok (.dict kvs) else .bad
  | .count, [.list ds, d] => if shp (.list ds) && shp d then .ok (.int (ds.countP fun y => PyData.eqv y d : Nat)) else .bad
  | .index, [.list ds, d] => if shp (.list ds) && shp d then (match ds.findIdx? fun y => PyData.eqv y d with | some j => .ok (.int (j : Nat)) | none => .bad) else .bad
  | .sortedset, [.list ds] => (match intsOf ds with | some is => if is.length ≤ 4000 ∧ (dedI is).length < 64 then .ok (.list ((isI (dedI is)).map .int)) else .bad | none => .bad)
  | .str, [.int i] => if i.natAbs.log2 < 1920 then .ok (.str (toString i)) else .bad
  | .int, [.str a] => (match intText? a with | some n => if a.length ≤ 640 then .ok (.int n) else .bad | none => .bad)
  | .listr, [.int lo, .int hi] => if bounded lo && bounded hi then .ok (.list (rangeU lo hi)) else .bad
  | .join, [.str a, .list ds] => (match strsOf ds with | some ys => if (ys.map (·.length)).sum + ys.length * a.length ≤ LIM then .ok (.str (Txt.join a ys)) else .bad | none => .bad)
  | .split, [.str a, .str b] => if (b.length == 0) = false ∧ a.length + 2 ≤ LIM ∧ (Txt.split a b).length ≤ LIM then .ok (.list ((Txt.split a b).map .str)) else .bad
  | .replace, [.str a, .str b, .str d] => if (b == d) = false ∧ a.length + (a.length + 1) * d.length ≤ LIM then .ok (.str (Txt.replace a b d)) else .bad
  | _, _ => .bad

/-- whose method it is -/
def recvOk : Pr → D → Bool
  | .count, .list _ => true
  | .index, .list _ => true
  | .join, .str _ => true
  | .split, .str _ => true
  | .replace, .str _ => true
  | _, _ => false

/-! ### the evaluator -/
structure Callee where
  tw : Bool
  F : List Int → List D → Nat → R (D × Nat)
def wipeE (env : En) : List Nat → En
  | [] => env
  | v :: vs => (wipeE env vs).set v .unb
/-- a target takes a value -/
def asgN : List Nat → List D → En → Option En
  | [], [], env => some env
  | i :: is, d :: ds, env => asgN is ds (env.set i (.val d))
  | _, _, _ => none
def asgT : Tg → D → En → Option En
  | .nm i, d, env => some (env.set i (.val d))
  | .tp is, .tuple ds, env => asgN is ds env
  | _, _, _ => none
/-- the loop of a comprehension -/
def compL (tg : Tg) (env : En) (tt : En → Nat → R (D × Nat)) (te : En → Nat → R (D × Nat)) : List D → List D → Nat → R (List D × Nat)
  | [], acc, c => .ok (acc, c)
  | x :: xs, acc, c => match asgT tg x env with
    | none => .bad
    | some env1 => match tt env1 c with
      | .ok (.bool true, c) => (match te env1 c with
        | .ok (y, c) => compL tg env tt te xs (acc ++ [y]) c
        | _ => .bad)
      | .ok (.bool false, c) => compL tg env tt te xs acc c
      | _ => .bad
def dictD : List D → List D → Option (List (D × D))
  | [], [] => some []
  | k :: ks, v :: vs => match nk k, dictD ks vs with
    | some _, some r => some ((k, v) :: r)
    | _, _ => none
  | _, _ => none
def isiD : Ty → D → R Bool
  | .int, .int _ => .ok true
  | .int, .bool _ => .ok true
  | .bool, .bool _ => .ok true
  | .tuple, .tuple _ => .ok true
  | .str, .str _ => .ok true
  | _, .dict _ => .bad
  | _, _ => .ok false
def oiD : Option D → Option (Option Int)
  | none => some none
  | some (.int i) => some (some i)
  | _ => none
def revD : D → R D
  | .tuple ds => .ok (.tuple ds.reverse)
  | .list ds => .ok (.list ds.reverse)
  | _ => .bad
def isConst (d x : D) : R Bool := match d, x with
  | .none, .none => .ok true
  | .none, .dict _ => .ok false
  | .none, _ => .ok false
  | .bool a, .bool b => .ok (a == b)
  | _, _ => .bad
def zipD (x y : D) : R (List D) := match seqOf x, seqOf y with
  | some a, some b => .ok ((a.zip b).map fun p => .tuple [p.1, p.2])
  | _, _ => .bad
def rng1D : D → R (List D)
  | .int hi => if bounded hi then .ok (rangeU 0 hi) else .bad
  | _ => .bad
def rng2D : D → D → R (List D)
  | .int lo, .int hi => if bounded lo && bounded hi then .ok (rangeU lo hi) else .bad
  | _, _ => .bad
def rng3D : D → D → R (List D)
  | .int lo, .int hi => if bounded lo && bounded hi then .ok (rangeDn lo hi) else .bad
  | _, _ => .bad
def enmD (x : D) : R (List D) := match x with
  | .list ds => .ok ((ds.zipIdx).map fun p => .tuple [.int p.2, p.1])
  | _ => .bad

mutual
def evE (ns : List Int) (Φ : List Callee) (gv : List D) : Ex → En → Nat → R (D × Nat)
  | .var i, env, c => match env[i]? with
    | some (.val d) => .ok (d, c)
    | _ => .bad
  | .con d, _, c => .ok (d, c)
  | .glb g, _, c => match gv[g]? with
    | some d => .ok (d, c)
    | none => .bad
  | .bin o a b, env, c => (evE ns Φ gv a env c).thn fun x c => (evE ns Φ gv b env c).thn fun y c => (binD o x y).at c
  | .neg a, env, c => (evE ns Φ gv a env c).thn fun x c => match x with
    | .int i => .ok (.int (-i), c)
    | _ => .bad
  | .cmp o a b, env, c => (evE ns Φ gv a env c).thn fun x c => (evE ns Φ gv b env c).thn fun y c => (boolR (cmpB o x y)).at c
  | .isc neg a d, env, c => (evE ns Φ gv a env c).thn fun x c => match isConst d x with
    | .ok b => .ok (.bool (if neg then !b else b), c)
    | _ => .bad
  | .chn a b e, env, c => (evE ns Φ gv a env c).thn fun x c => (evE ns Φ gv b env c).thn fun y c => match x, y with
    | .int i, .int j => if i ≤ j then (evE ns Φ gv e env c).thn fun z c => (match z with
        | .int k => .ok (.bool (decide (j ≤ k)), c)
        | _ => .bad) else .ok (.bool false, c)
    | _, _ => .bad
  | .and a b, env, c => (evE ns Φ gv a env c).thn fun x c => match x with
    | .bool true => evE ns Φ gv b env c
    | .bool false => .ok (.bool false, c)
    | _ => .bad
  | .or a b, env, c => (evE ns Φ gv a env c).thn fun x c => match x with
    | .bool true => .ok (.bool true, c)
    | .bool false => evE ns Φ gv b env c
    | _ => .bad
  | .not a, env, c => (evE ns Φ gv a env c).thn fun x c => match x with
    | .bool b => .ok (.bool !b, c)
    | _ => .bad
  | .ite t a b, env, c => (evE ns Φ gv t env c).thn fun x c => match x with
    | .bool true => evE ns Φ gv a env c
    | .bool false => evE ns Φ gv b env c
    | _ => .bad
  | .tup es, env, c => (evA ns Φ gv es env c).thn fun ds c => if ds.length ≤ LIM then .ok (.tuple ds, c) else .bad
  | .lst es, env, c => (evA ns Φ gv es env c).thn fun ds c => if ds.length ≤ LIM then .ok (.list ds, c) else .bad
  | .dct ks vs, env, c => (evA ns Φ gv ks env c).thn fun xs c => (evA ns Φ gv vs env c).thn fun ys c => match dictD xs ys with
    | some kvs => .ok (.dict (mergeD [] kvs), c)
    | none => .bad
  | .idx a i, env, c => (evE ns Φ gv a env c).thn fun x c => (evE ns Φ gv i env c).thn fun y c => (idxD x y).at c
  | .slc a lo hi, env, c => (evE ns Φ gv a env c).thn fun x c => (evO ns Φ gv lo env c).thn fun l c => match oiD l with
    | none => .bad
    | some l => (evO ns Φ gv hi env c).thn fun h c => (match oiD h with
      | none => .bad
      | some h => (slcD x l h).at c)
  | .rev a, env, c => (evE ns Φ gv a env c).thn fun x c => (revD x).at c
  | .call f es, env, c => (evA ns Φ gv es env c).thn fun ds c => match Φ[f]? with
    | some k => if k.tw then .bad else k.F ns ds c
    | none => .bad
  | .callT f es, env, c => match env[0]?, env[1]? with
    | some Slot.scr, some Slot.town => (evA ns Φ gv es env c).thn fun ds c => (match Φ[f]? with
      | some k => if k.tw then k.F ns ds c else .bad
      | none => .bad)
    | _, _ => .bad
  | .mk f es, env, c => (evA ns Φ gv es env c).thn fun ds c => (match Φ[f]? with
    | some k => if k.tw then .bad else (match k.F ns ds c with
      | .exn e c0 => .exn e c0
      | _ => .bad)
    | none => .bad)
  | .callB f i es, env, c => match env[i]? with
    | some (.own d) => (evA ns Φ gv es env c).thn fun ds c => (match Φ[f]? with
      | some k => if k.tw then .bad else (match k.F ns (d :: ds) c with
        | .ok (.bool b, c) => .ok (.bool b, c)
        | _ => .bad)
      | none => .bad)
    | _ => .bad
  | .callL fs i es, env, c => (evE ns Φ gv i env c).thn fun x c => match x with
    | .int j => (match atI fs j with
      | some f => (evA ns Φ gv es env c).thn fun ds c => (match Φ[f]? with
        | some k => if k.tw then .bad else k.F ns ds c
        | none => .bad)
      | none => .bad)
    | _ => .bad
  | .prim p es, env, c => (evA ns Φ gv es env c).thn fun ds c => (primD p ds).at c
  | .mth p a es, env, c => (evE ns Φ gv a env c).thn fun x c => if recvOk p x then (evA ns Φ gv es env c).thn fun ds c => (primD p (x :: ds)).at c else .bad
  | .isi t a, env, c => (evE ns Φ gv a env c).thn fun x c => (boolR (isiD t x)).at c
  | .inO neg a i, env, c => (evE ns Φ gv a env c).thn fun x c => match env[i]? with
    | some (.own d) => (boolR (cmpB (if neg then .notin else .isin) x d)).at c
    | some (.val d) => (boolR (cmpB (if neg then .notin else .isin) x d)).at c
    | _ => .bad
  | .eqO neg i b, env, c => match env[i]? with
    | some (.own d) => (evE ns Φ gv b env c).thn fun y c => (boolR (cmpB (if neg then .ne else .eq) d y)).at c
    | some (.val d) => (evE ns Φ gv b env c).thn fun y c => (boolR (cmpB (if neg then .ne else .eq) d y)).at c
    | _ => .bad
  | .idxO i e, env, c => match env[i]? with
    | some (.own d) => (evE ns Φ gv e env c).thn fun y c => (idxD d y).at c
    | some (.val d) => (evE ns Φ gv e env c).thn fun y c => (idxD d y).at c
    | _ => .bad
  | .getO i k v, env, c => match env[i]? with
    | some (.own (.dict kvs)) => (evE ns Φ gv k env c).thn fun x c => (evE ns Φ gv v env c).thn fun y c => (match nk x with
      | some κ => .ok ((dGet kvs κ).getD y, c)
      | none => .bad)
    | _ => .bad
  | .comp vs tg it ifs elt, env, c => (evI ns Φ gv it env c).thn fun xs c =>
      (compL tg (wipeE env vs) (fun env c => (evO ns Φ gv ifs env c).thn fun t c => .ok (t.getD (.bool true), c)) (fun env c => evE ns Φ gv elt env c) xs [] c).thn fun ds c => .ok (.list ds, c)
def evA (ns : List Int) (Φ : List Callee) (gv : List D) : Exs → En → Nat → R (List D × Nat)
  | .nil, _, c => .ok ([], c)
  | .cons e es, env, c => (evE ns Φ gv e env c).thn fun x c => (evA ns Φ gv es env c).thn fun xs c => .ok (x :: xs, c)
def evO (ns : List Int) (Φ : List Callee) (gv : List D) : Exo → En → Nat → R (Option D × Nat)
  | .none, _, c => .ok (none, c)
  | .some e, env, c => (evE ns Φ gv e env c).thn fun x c => .ok (some x, c)
def evI (ns : List Int) (Φ : List Callee) (gv : List D) : Itx → En → Nat → R (List D × Nat)
  | .seq e, env, c => (evE ns Φ gv e env c).thn fun x c => (itemsD x).at c
  | .rng1 a, env, c => (evE ns Φ gv a env c).thn fun x c => (rng1D x).at c
  | .rng2 a b, env, c => (evE ns Φ gv a env c).thn fun x c => (evE ns Φ gv b env c).thn fun y c => (rng2D x y).at c
  | .rng3 a b, env, c => (evE ns Φ gv a env c).thn fun x c => (evE ns Φ gv b env c).thn fun y c => (rng3D x y).at c
  | .zip a b, env, c => (evE ns Φ gv a env c).thn fun x c => (evE ns Φ gv b env c).thn fun y c => (zipD x y).at c
  | .enm a, env, c => (evE ns Φ gv a env c).thn fun x c => (enmD x).at c
end

/-- what a law's _law_which says of an exception: its place in the law's own list -/
def whichI : Nat → Int
  | 1 => 0
  | 2 => 1
  | 4 => 2
  | 5 => 3
  | 6 => 4
  | 7 => 5
  | 8 => 6
  | 9 => 7
  | 10 => 8
  | 11 => 9
  | 12 => 10
  | 13 => 11
  | 14 => 12
  | 15 => 13
  | _ => -1
def whichD (ov : List (Nat × D)) (k : Nat) : D := match ov.lookup k with
  | some d => d
  | none => .tuple [.str (Str.ofString "raised"), .int (whichI k)]
inductive Fl where
  | next (env : En)
  | ret (d : D)
def forL (tg : Tg) (body : En → Nat → R (Fl × Nat)) : List D → En → Nat → R (Fl × Nat)
  | [], env, c => .ok (.next env, c)
  | x :: xs, env, c => match asgT tg x env with
    | none => .bad
    | some env1 => match body env1 c with
      | .ok (.next env2, c) => forL tg body xs env2 c
      | .ok (.ret d, c) => .ok (.ret d, c)
      | .exn k c0 => .exn k c0
      | .bad => .bad
def whlL (cond : En → Nat → R (D × Nat)) (body : En → Nat → R (Fl × Nat)) : Nat → En → Nat → R (Fl × Nat)
  | 0, _, _ => .bad
  | fuel + 1, env, c => match cond env c with
    | .ok (.bool true, c) => (match body env c with
      | .ok (.next env2, c) => whlL cond body fuel env2 c
      | .ok (.ret d, c) => .ok (.ret d, c)
      | .exn k c0 => .exn k c0
      | .bad => .bad)
    | .ok (.bool false, c) => .ok (.next env, c)
    | .exn k c0 => .exn k c0
    | _ => .bad
def setAll : List (Nat × Bool) → List D → En → Option En
  | [], [], env => some env
  | (i, own) :: is, d :: ds, env => setAll is ds (env.set i (if own then .own d else .val d))
  | _, _, _ => none
def augD (o : BinO) (x y : D) : R D := match o, x, y with
  | .add, .int a, .int b => .ok (.int (a + b))
  | .mul, .int a, .int b => if small a || small b then .ok (.int (a * b)) else .bad
  | _, _, _ => .bad
def putD (d k v : D) : R D := match d with
  | .list ds => (match k with
    | .int i => (match ixN ds.length i with
      | some j => .ok (.list (ds.set j v))
      | none => .bad)
    | _ => .bad)
  | .dict kvs => (match nk k with
    | some κ => if kvs.length < LIM then .ok (.dict (dPut kvs k κ v)) else .bad
    | none => .bad)
  | _ => .bad
/-- for x in f(l.pop()) -/
def forPR (ns : List Int) (Φ : List Callee) (gv : List D) (tg : Tg) (f i : Nat) (body : En → Nat → R (Fl × Nat)) (env : En) (c : Nat) : R (Fl × Nat) := match env[i]? with
    | some (.own (.list ds)) => (match ds.getLast?, Φ[f]? with
      | some x, some k => if k.tw then .bad else (match k.F ns [x] c with
        | .ok (.list xs, c) => forL tg body xs (env.set i (.own (.list ds.dropLast))) c
        | _ => .bad)
      | _, _ => .bad)
    | _ => .bad
def pairI (p : Int × Int) : D := .tuple [.int p.1, .int p.2]
/-! ### counting in a dict of numbers -/
def valI (acc : List (Int × Int)) (k : Int) : Option Int := (acc.find? fun p => decide (p.1 = k)).map (·.2)
def bumpI (acc : List (Int × Int)) (k : Int) : List (Int × Int) :=
  if (acc.any fun p => decide (p.1 = k)) = true then acc.map (fun p => if p.1 = k then (p.1, (valI acc k).getD 0 + 1) else p) else acc ++ [(k, (valI acc k).getD 0 + 1)]
def noOwn (env : En) : Bool := env.all fun s => match s with | .own _ => false | _ => true
def sprL (tg : Tg) (j : Nat) (num : En → Nat → R (D × Nat)) : List D → En → List (Int × Int) → Nat → R (List (Int × Int) × Nat)
  | [], _, acc, c => .ok (acc, c)
  | x :: xs, env, acc, c => match asgT tg x env with
    | none => .bad
    | some env1 => match num env1 c with
      | .ok (.int k, c) => if noOwn env1 && decide (acc.length < LIM) && decide (j < env1.length) then sprL tg j num xs (env1.set j (.val (.int k))) (bumpI acc k) c else .bad
      | .exn k c0 => .exn k c0
      | _ => .bad
def sprR (tg : Tg) (i j : Nat) (items : En → Nat → R (List D × Nat)) (num : En → Nat → R (D × Nat)) (env : En) (c : Nat) : R (Fl × Nat) :=
  if noOwn env && decide (i < env.length) then
    (items (env.set i .unb) c).thn fun xs c => (sprL tg j num xs (env.set i .unb) [] c).thn fun acc c => (sortD (acc.map pairI)).at c |>.thn fun d c => .ok (.ret d, c)
  else .bad
mutual
def exS (ns : List Int) (Φ : List Callee) (gv : List D) : Sm → En → Nat → R (Fl × Nat)
  | .asg i e, env, c => (evE ns Φ gv e env c).thn fun x c => .ok (.next (env.set i (.val x)), c)
  | .new i e, env, c => (evE ns Φ gv e env c).thn fun x c => .ok (.next (env.set i (.own x)), c)
  | .shr i, env, c => match env[i]? with
    | some (.own d) => .ok (.next (env.set i (.val d)), c)
    | _ => .ok (.next env, c)
  | .app i e, env, c => match env[i]? with
    | some (.own (.list ds)) => (evE ns Φ gv e env c).thn fun x c => if ds.length < LIM then .ok (.next (env.set i (.own (.list (ds ++ [x])))), c) else .bad
    | _ => .bad
  | .ext i e, env, c => match env[i]? with
    | some (.own (.list ds)) => (evE ns Φ gv e env c).thn fun x c => (match x with
      | .list zs => if ds.length + zs.length ≤ LIM then .ok (.next (env.set i (.own (.list (ds ++ zs)))), c) else .bad
      | _ => .bad)
    | _ => .bad
  | .put i k v, env, c => match env[i]? with
    | some (.own d) => (evE ns Φ gv v env c).thn fun y c => (evE ns Φ gv k env c).thn fun x c => (match putD d x y with
      | .ok d' => .ok (.next (env.set i (.own d')), c)
      | _ => .bad)
    | _ => .bad
  | .unp is e, env, c => (evE ns Φ gv e env c).thn fun x c => match x with
    | .tuple ds => (match asgN is ds env with
      | some env' => .ok (.next env', c)
      | none => .bad)
    | _ => .bad
  | .par is es, env, c => (evA ns Φ gv es env c).thn fun ds c => match setAll is ds env with
    | some env' => .ok (.next env', c)
    | none => .bad
  | .aug i o e, env, c => match env[i]? with
    | some (.val x) => (evE ns Φ gv e env c).thn fun y c => (match augD o x y with
      | .ok z => .ok (.next (env.set i (.val z)), c)
      | _ => .bad)
    | _ => .bad
  | .ife t a b, env, c => (evE ns Φ gv t env c).thn fun x c => match x with
    | .bool true => exSs ns Φ gv a env c
    | .bool false => exSs ns Φ gv b env c
    | _ => .bad
  | .for' tg it b, env, c => (evI ns Φ gv it env c).thn fun xs c => forL tg (fun env c => exSs ns Φ gv b env c) xs env c
  | .whl fuel t b, env, c => whlL (fun env c => evE ns Φ gv t env c) (fun env c => exSs ns Φ gv b env c) fuel env c
  | .ret e, env, c => (evE ns Φ gv e env c).thn fun x c => .ok (.ret x, c)
  | .exp e, env, c => (evE ns Φ gv e env c).thn fun _ c => .ok (.next env, c)
  | .rse k, _, c => .exn k c
  | .nop, env, c => .ok (.next env, c)
  | .tryW _ ov b, env, c => match exSs ns Φ gv b env c with
    | .exn k c0 => if k < 16 then .ok (.ret (whichD ov k), c0) else .bad
    | .ok r => .ok r
    | .bad => .bad
  | .retL j fs i es, env, c => match env[j]? with
    | some .unb => (evE ns Φ gv (.callL fs i es) (env.set j .unb) c).thn fun x c => .ok (.ret x, c)
    | _ => .bad
  | .hole, _, _ => .bad
  | .forP tg f i b, env, c => forPR ns Φ gv tg f i (fun env c => exSs ns Φ gv b env c) env c
  | .spr i j tg it e, env, c => sprR tg i j (fun env c => evI ns Φ gv it env c) (fun env c => evE ns Φ gv e env c) env c
def exSs (ns : List Int) (Φ : List Callee) (gv : List D) : Sms → En → Nat → R (Fl × Nat)
  | .nil, env, c => .ok (.next env, c)
  | .cons s r, env, c => match exS ns Φ gv s env c with
    | .ok (.next env', c) => exSs ns Φ gv r env' c
    | .ok (.ret d, c) => .ok (.ret d, c)
    | .exn k c0 => .exn k c0
    | .bad => .bad
end
/-- a def: n parameters (without script and town), N names in all -/
def startE (tw : Bool) (N : Nat) (ds : List D) : En :=
  let a := (if tw then [Slot.scr, Slot.town] else []) ++ ds.map Slot.val
  a ++ List.replicate (N - a.length) .unb
def runD (Φ : List Callee) (gv : List D) (tw : Bool) (n N : Nat) (body : Sms) : List Int → List D → Nat → R (D × Nat) := fun ns ds c =>
  if ds.length = n then
    match exSs ns Φ gv body (startE tw N ds) c with
    | .ok (.next _, c) => .ok (.none, c)
    | .ok (.ret d, c) => .ok (d, c)
    | .exn k c0 => .exn k c0
    | .bad => .bad
  else .bad

/-! ### draws -/
def cellAt (ns : List Int) (k : Nat) : Int :=
  if k < ns.length then ns.getD k 0
  else if ns = [] then 0
  else ns.getD (k % ns.length) 0 * 31 + k + (Nat.repeat (fun (x : Int) => x / 1000003) (min (k / ns.length) 60) (ns.getD (k % ns.length) 0)) * 101
def mixedAt (ns : List Int) (k : Nat) (m : Int) : Int := ((cellAt ns k * 1103515245 + 7919 * k + 12345) % 2147483647) ^ 5 % 2147483647 % 999983 % m
def drawF : List Int → List D → Nat → R (D × Nat) := fun ns ds c => match ds with
  | [.int m] => if 0 < m ∧ c < LIM then .ok (.int (mixedAt ns (c + 1) m), c + 1) else .bad
  | _ => .bad
end LG

/-! LgB: what a value stands for; the view of the heap; frames. -/
namespace LG
open PySem PySem.Spec PyProof.Rows L2

abbrev Sg := List (Option V)
theorem LIM_le : LIM ≤ sizeLine := by rw [sizeLine_eq]; decide
theorem LIM_lt : LIM < sizeLine := by rw [sizeLine_eq]; decide

/-- the object at a is just o -/
def pinO (a : Addr) (o : Obj) : Heap → Prop := fun h => h.get? a = some o

section
variable (P : Program) (w : World) (K : PySem.W.Frag) (S : Hp)
mutual
inductive Rep : D → V → Prop
  | non : Rep .none .non
  | bl (b : Bool) : Rep (.bool b) (.bl b)
  | int (i : Int) : Rep (.int i) (.int i)
  | str (x : Str) : Rep (.str x) (.str x)
  | lst {a : Addr} {vs : List V} {ds : List D} : S a = some (.lst vs) → ds.length ≤ LIM → Reps ds vs → Rep (.list ds) (.ref a)
  | tup {a : Addr} {vs : List V} {ds : List D} : SqT K S a vs → ds.length ≤ LIM → Reps ds vs → Rep (.tuple ds) (.ref a)
  | dic {a : Addr} {o : Obj} {es : Array DictEntry} {ep : Nat} {kvs : List (D × D)} {xs : List (NestedKey × Addr × Value)} : S a = some (.ext (pinO a o)) → o.ExactDict → o.data = .dict es ep →
      es.toList = xs.map (entryOfKey (nestedKind P w)) → (xs.map (·.1)).Nodup → (a == sysModules) = false → kvs.length ≤ LIM → KReps kvs xs → Rep (.dict kvs) (.ref a)
inductive Reps : List D → List V → Prop
  | nil : Reps [] []
  | cons {d : D} {ds : List D} {v : V} {vs : List V} : Rep d v → Reps ds vs → Reps (d :: ds) (v :: vs)
inductive KReps : List (D × D) → List (NestedKey × Addr × Value) → Prop
  | nil : KReps [] []
  | cons {kd vd : D} {r : List (D × D)} {κ : NestedKey} {ka : Addr} {u : Value} {v : V} {xs : List (NestedKey × Addr × Value)} : nk kd = some κ → Rep kd (.ref ka) → RelV v u → Rep vd v → KReps r xs → KReps ((kd, vd) :: r) ((κ, ka, u) :: xs)
end
end

abbrev Sub (S S' : Hp) : Prop := ∀ a o, S a = some o → S' a = some o
theorem SqT.sub {K : PySem.W.Frag} {S S' : Hp} {a : Addr} {vs : List V} (h : Sub S S') (x : SqT K S a vs) : SqT K S' a vs := by
  rcases x with (x | ⟨o, x⟩) | x
  · exact .inl (.inl (h _ _ x))
  · exact .inl (.inr ⟨o, h _ _ x⟩)
  · exact .inr x
theorem SqL.sub {K : PySem.W.Frag} {S S' : Hp} {a : Addr} {vs : List V} (h : Sub S S') (x : SqL K S a vs) : SqL K S' a vs := by
  rcases x with (x | ⟨o, x⟩) | x
  · exact .inl (.inl (h _ _ x))
  · exact .inl (.inr ⟨o, h _ _ x⟩)
  · exact .inr x
section
variable {P : Program} {w : World} {K : PySem.W.Frag} {S S' : Hp}
mutual
theorem Rep.sub (h : Sub S S') : ∀ {d : D} {v : V}, Rep P w K S d v → Rep P w K S' d v
  | _, _, .non => .non
  | _, _, .bl b => .bl b
  | _, _, .int i => .int i
  | _, _, .str x => .str x
  | _, _, .lst a l r => .lst (h _ _ a) l (Reps.sub h r)
  | _, _, .tup a l r => .tup (SqT.sub h a) l (Reps.sub h r)
  | _, _, .dic a b c e n m l r => .dic (h _ _ a) b c e n m l (KReps.sub h r)
theorem Reps.sub (h : Sub S S') : ∀ {d : List D} {v : List V}, Reps P w K S d v → Reps P w K S' d v
  | _, _, .nil => .nil
  | _, _, .cons a r => .cons (Rep.sub h a) (Reps.sub h r)
theorem KReps.sub (h : Sub S S') : ∀ {d : List (D × D)} {v : List (NestedKey × Addr × Value)}, KReps P w K S d v → KReps P w K S' d v
  | _, _, .nil => .nil
  | _, _, .cons a b c d r => .cons a (Rep.sub h b) c (Rep.sub h d) (KReps.sub h r)
end
theorem Reps.length : ∀ {ds : List D} {vs : List V}, Reps P w K S ds vs → ds.length = vs.length
  | _, _, .nil => rfl
  | _, _, .cons _ r => by simp [Reps.length r]
theorem Reps.get : ∀ {ds : List D} {vs : List V} {i : Nat} {d : D}, Reps P w K S ds vs → ds[i]? = some d → ∃ v, vs[i]? = some v ∧ Rep P w K S d v
  | _, _, _, _, .nil, e => by simp at e
  | _, _, 0, _, .cons r _, e => by simp at e; subst e; exact ⟨_, rfl, r⟩
  | _, _, i + 1, d, .cons _ t, e => by
    obtain ⟨v, h1, h2⟩ := Reps.get (i := i) (d := d) t (by simpa using e)
    exact ⟨v, by simpa using h1, h2⟩
theorem Reps.append : ∀ {ds es : List D} {vs us : List V}, Reps P w K S ds vs → Reps P w K S es us → Reps P w K S (ds ++ es) (vs ++ us)
  | _, _, _, _, .nil, s => s
  | _, _, _, _, .cons r t, s => .cons r (Reps.append t s)
theorem Reps.take : ∀ {ds : List D} {vs : List V} (n : Nat), Reps P w K S ds vs → Reps P w K S (ds.take n) (vs.take n)
  | _, _, 0, _ => .nil
  | _, _, _ + 1, .nil => .nil
  | _, _, n + 1, .cons r t => .cons r (Reps.take n t)
theorem Reps.drop : ∀ {ds : List D} {vs : List V} (n : Nat), Reps P w K S ds vs → Reps P w K S (ds.drop n) (vs.drop n)
  | _, _, 0, r => r
  | _, _, _ + 1, .nil => .nil
  | _, _, n + 1, .cons _ t => Reps.drop n t
theorem Reps.reverse : ∀ {ds : List D} {vs : List V}, Reps P w K S ds vs → Reps P w K S ds.reverse vs.reverse
  | _, _, .nil => .nil
  | _, _, .cons r t => by simpa using Reps.append (Reps.reverse t) (.cons r .nil)
theorem Reps.set : ∀ {ds : List D} {vs : List V} (i : Nat) {d : D} {v : V}, Rep P w K S d v → Reps P w K S ds vs → Reps P w K S (ds.set i d) (vs.set i v)
  | _, _, _, _, _, _, .nil => .nil
  | _, _, 0, _, _, r, .cons _ t => .cons r t
  | _, _, i + 1, _, _, r, .cons q t => .cons q (Reps.set i r t)

mutual
theorem Rep.dp : ∀ {d : D} {v : V}, Rep P w K S d v → PyData.canLay0 d = true → Dp K S v d
  | _, _, .non, _ => .non
  | _, _, .bl b, _ => .bl b
  | _, _, .int i, _ => .int i
  | _, _, .str x, _ => .str x
  | _, _, .lst a l r, h => .lst (SqL.of a) (Reps.dp r (by simpa [PyData.canLay0] using h))
  | _, _, .tup a l r, h => .tup a (Reps.dp r (by simpa [PyData.canLay0] using h))
  | _, _, .dic .., h => by simp [PyData.canLay0] at h
theorem Reps.dp : ∀ {d : List D} {v : List V}, Reps P w K S d v → PyData.canLayAll0 d = true → DpAll K S v d
  | _, _, .nil, _ => .nil
  | _, _, .cons a r, h => by
    simp only [PyData.canLayAll0, Bool.and_eq_true] at h
    exact .cons (Rep.dp a h.1) (Reps.dp r h.2)
end
end

/-! ### the heap grows -/
def zeros (c : Nat) : List V := List.replicate c (.int 0)
/-- the view S of the heap H, the law's list of draws at T -/
structure Wf (K : PySem.W.Frag) (scr : Addr) (ns : List Int) (T : Addr) (c : Nat) (S H : Hp) : Prop where
  inn : Sub S H
  tS : S T = none
  tH : H T = some (.lst (zeros c))
  sc : SqL K S scr (ns.map V.int)
  ln : ns.length ≤ 63
/-- all that stood stands, but for the draws -/
structure Gr (T : Addr) (S H : Hp) (c' : Nat) (S' H' : Hp) : Prop where
  sub : Sub S S'
  inn : Sub S' H'
  same : ∀ a o, a ≠ T → H a = some o → H' a = some o
  new : ∀ a o, S' a = some o → S a = some o ∨ H a = none
  town : H' T = some (.lst (zeros c'))
section
variable {P : Program} {w : World} {K : PySem.W.Frag} {scr : Addr} {ns : List Int} {T : Addr} {c c' c'' : Nat} {S H S' H' S'' H'' : Hp}
theorem Wf.gr (x : Wf K scr ns T c S H) (g : Gr T S H c' S' H') : Wf K scr ns T c' S' H' where
  inn := g.inn
  tS := by
    cases e : S' T with
    | none => rfl
    | some o =>
      rcases g.new T o e with z | z
      · rw [x.tS] at z; cases z
      · rw [x.tH] at z; cases z
  tH := g.town
  ln := x.ln
  sc := SqL.sub g.sub x.sc
theorem Wf.refl (x : Wf K scr ns T c S H) : Gr T S H c S H := ⟨fun _ _ h => h, x.inn, fun _ _ _ h => h, fun _ _ h => .inl h, x.tH⟩
theorem Gr.trans (x : Wf K scr ns T c S H) (g : Gr T S H c' S' H') (g' : Gr T S' H' c'' S'' H'') : Gr T S H c'' S'' H'' where
  sub := fun a o h => g'.sub a o (g.sub a o h)
  inn := g'.inn
  same := fun a o n h => g'.same a o n (g.same a o n h)
  new := fun a o h => by
    rcases g'.new a o h with z | z
    · exact g.new a o z
    · cases e : H a with
      | none => exact .inr rfl
      | some u =>
        by_cases ht : a = T
        · subst ht; rw [g.town] at z; cases z
        · rw [g.same a u ht e] at z; cases z
  town := g'.town
/-- a new thing, shared at once -/
theorem Wf.fresh (x : Wf K scr ns T c S H) {p : Addr} (hp : H p = none) (o : HO) : Gr T S H c (upd S p o) (upd H p o) where
  sub := fun a u h => by rw [upd_ne (ne_of_none (x.inn a u h) hp)]; exact h
  inn := fun a u h => by
    by_cases e : a = p
    · subst e; rw [upd_same] at h ⊢; exact h
    · rw [upd_ne e] at h ⊢; exact x.inn a u h
  same := fun a u _ h => by rw [upd_ne (ne_of_none h hp)]; exact h
  new := fun a u h => by
    by_cases e : a = p
    · subst e; exact .inr hp
    · rw [upd_ne e] at h; exact .inl h
  town := by rw [upd_ne (ne_of_none x.tH hp)]; exact x.tH
/-- a new thing, not shared -/
theorem Wf.laid (x : Wf K scr ns T c S H) {p : Addr} (hp : H p = none) (o : HO) : Gr T S H c S (upd H p o) where
  sub := fun a u h => h
  inn := fun a u h => by rw [upd_ne (ne_of_none (x.inn a u h) hp)]; exact x.inn a u h
  same := fun a u _ h => by rw [upd_ne (ne_of_none h hp)]; exact h
  new := fun a u h => .inl h
  town := by rw [upd_ne (ne_of_none x.tH hp)]; exact x.tH
end

/-! ### a frame -/
/-- what a frame has of its own: a list or a dict that no one else reaches -/
inductive OwnAt (P : Program) (w : World) (K : PySem.W.Frag) (S H : Hp) (a : Addr) : D → Prop
  | lst {vs : List V} {ds : List D} : H a = some (.lst vs) → ds.length ≤ LIM → Reps P w K S ds vs → OwnAt P w K S H a (.list ds)
  | dic {o : Obj} {es : Array DictEntry} {ep : Nat} {kvs : List (D × D)} {xs : List (NestedKey × Addr × Value)} : H a = some (.ext (pinO a o)) → o.ExactDict → o.data = .dict es ep →
      es.toList = xs.map (entryOfKey (nestedKind P w)) → (xs.map (·.1)).Nodup → (a == sysModules) = false → kvs.length ≤ LIM → KReps P w K S kvs xs → OwnAt P w K S H a (.dict kvs)
/-- what does not change while a frame runs -/
structure Fm where
  scr : Addr
  ns : List Int
  T : Addr
  S0 : Hp
  H0 : Hp
  lb : Hp
abbrev Fm.wf (f : Fm) (K : PySem.W.Frag) : Nat → Hp → Hp → Prop := Wf K f.scr f.ns f.T
structure Rel (P : Program) (w : World) (K : PySem.W.Frag) (f : Fm) (c : Nat) (S H : Hp) (env : En) (σ : Sg) : Prop where
  wf : f.wf K c S H
  wf0 : ∃ c0, f.wf K c0 f.S0 f.H0
  ent : Gr f.T f.S0 f.H0 c S H
  low : Sub f.lb S
  len : env.length = σ.length
  val : ∀ (i : Nat) (d : D), env[i]? = some (.val d) → ∃ v, σ[i]? = some (some v) ∧ Rep P w K S d v
  scr : ∀ i : Nat, env[i]? = some .scr → σ[i]? = some (some (.ref f.scr))
  twn : ∀ i : Nat, env[i]? = some .town → σ[i]? = some (some (.ref f.T))
  own : ∀ (i : Nat) (d : D), env[i]? = some (.own d) → ∃ a, σ[i]? = some (some (.ref a)) ∧ S a = none ∧ a ≠ f.T ∧ f.H0 a = none ∧ OwnAt P w K S H a d
  dist : ∀ (i j : Nat) (d e : D) (a : Addr), i ≠ j → env[i]? = some (.own d) → env[j]? = some (.own e) → σ[i]? = some (some (.ref a)) → σ[j]? ≠ some (some (.ref a))

section
variable {P : Program} {w : World} {K : PySem.W.Frag} {f : Fm} {c c' : Nat} {S H S' H' : Hp} {env : En} {σ : Sg}
theorem OwnAt.gr {T a : Addr} {d : D} (x : OwnAt P w K S H a d) (g : Gr T S H c' S' H') (h : a ≠ T) : OwnAt P w K S' H' a d := by
  cases x with
  | lst e l r => exact .lst (g.same _ _ h e) l (Reps.sub g.sub r)
  | dic e a1 a2 a3 a4 a5 a6 r => exact .dic (g.same _ _ h e) a1 a2 a3 a4 a5 a6 (KReps.sub g.sub r)
theorem OwnAt.there {a : Addr} {d : D} (x : OwnAt P w K S H a d) : ∃ o, H a = some o := by
  cases x with
  | lst e => exact ⟨_, e⟩
  | dic e => exact ⟨_, e⟩
/-- the heap as it stands is itself a view -/
theorem OwnAt.rep {a : Addr} {d : D} (x : OwnAt P w K S H a d) (h : Sub S H) : Rep P w K H d (.ref a) := by
  cases x with
  | lst e l r => exact .lst e l (Reps.sub h r)
  | dic e a1 a2 a3 a4 a5 a6 r => exact .dic e a1 a2 a3 a4 a5 a6 (KReps.sub h r)
theorem Rel.gr (x : Rel P w K f c S H env σ) (g : Gr f.T S H c' S' H') : Rel P w K f c' S' H' env σ where
  wf := x.wf.gr g
  wf0 := x.wf0
  ent := let ⟨_, w0⟩ := x.wf0; x.ent.trans w0 g
  low := fun a o h => g.sub a o (x.low a o h)
  len := x.len
  val := fun i d e => let ⟨v, h1, h2⟩ := x.val i d e; ⟨v, h1, Rep.sub g.sub h2⟩
  scr := x.scr
  twn := x.twn
  own := fun i d e => by
    obtain ⟨a, h1, h2, h3, h4, h5⟩ := x.own i d e
    refine ⟨a, h1, ?_, h3, h4, h5.gr g h3⟩
    cases q : S' a with
    | none => rfl
    | some o =>
      obtain ⟨u, hu⟩ := h5.there
      rcases g.new a o q with z | z
      · rw [h2] at z; cases z
      · rw [hu] at z; cases z
  dist := x.dist
/-- a name takes a value -/
theorem Rel.set (x : Rel P w K f c S H env σ) {i : Nat} {d : D} {v : V} (r : Rep P w K S d v) : Rel P w K f c S H (env.set i (.val d)) (σ.set i (some v)) where
  wf := x.wf
  wf0 := x.wf0
  ent := x.ent
  low := x.low
  len := by simp [x.len]
  val := fun j e h => by
    by_cases hj : i = j
    · subst hj
      by_cases hl : i < env.length
      · rw [List.getElem?_set_self hl] at h
        rw [List.getElem?_set_self (by rw [← x.len]; exact hl)]
        cases h
        exact ⟨v, rfl, r⟩
      · rw [List.getElem?_eq_none (by simpa using hl)] at h; cases h
    · rw [List.getElem?_set_ne hj] at h ⊢
      exact x.val j e h
  scr := fun j h => by
    by_cases hj : i = j
    · subst hj
      by_cases hl : i < env.length
      · rw [List.getElem?_set_self hl] at h; cases h
      · rw [List.getElem?_eq_none (by simpa using hl)] at h; cases h
    · rw [List.getElem?_set_ne hj] at h ⊢
      exact x.scr j h
  twn := fun j h => by
    by_cases hj : i = j
    · subst hj
      by_cases hl : i < env.length
      · rw [List.getElem?_set_self hl] at h; cases h
      · rw [List.getElem?_eq_none (by simpa using hl)] at h; cases h
    · rw [List.getElem?_set_ne hj] at h ⊢
      exact x.twn j h
  own := fun j e h => by
    by_cases hj : i = j
    · subst hj
      by_cases hl : i < env.length
      · rw [List.getElem?_set_self hl] at h; cases h
      · rw [List.getElem?_eq_none (by simpa using hl)] at h; cases h
    · rw [List.getElem?_set_ne hj] at h ⊢
      exact x.own j e h
  dist := fun j k e e' a hjk h h' q => by
    have ne : ∀ {m : Nat} {z : D}, (env.set i (.val d))[m]? = some (.own z) → i ≠ m := fun {m z} hm hj => by
      subst hj
      by_cases hl : i < env.length
      · rw [List.getElem?_set_self hl] at hm; cases hm
      · rw [List.getElem?_eq_none (by simpa using hl)] at hm; cases hm
    have n1 := ne h
    have n2 := ne h'
    rw [List.getElem?_set_ne n1] at h q
    rw [List.getElem?_set_ne n2] at h' ⊢
    exact x.dist j k e e' a hjk h h' q
/-- a name forgotten -/
theorem Rel.unb (x : Rel P w K f c S H env σ) {i : Nat} {v : Option V} : Rel P w K f c S H (env.set i .unb) (σ.set i v) where
  wf := x.wf
  wf0 := x.wf0
  ent := x.ent
  low := x.low
  len := by simp [x.len]
  val := fun j e h => by
    by_cases hj : i = j
    · subst hj
      by_cases hl : i < env.length
      · rw [List.getElem?_set_self hl] at h; cases h
      · rw [List.getElem?_eq_none (by simpa using hl)] at h; cases h
    · rw [List.getElem?_set_ne hj] at h ⊢
      exact x.val j e h
  scr := fun j h => by
    by_cases hj : i = j
    · subst hj
      by_cases hl : i < env.length
      · rw [List.getElem?_set_self hl] at h; cases h
      · rw [List.getElem?_eq_none (by simpa using hl)] at h; cases h
    · rw [List.getElem?_set_ne hj] at h ⊢
      exact x.scr j h
  twn := fun j h => by
    by_cases hj : i = j
    · subst hj
      by_cases hl : i < env.length
      · rw [List.getElem?_set_self hl] at h; cases h
      · rw [List.getElem?_eq_none (by simpa using hl)] at h; cases h
    · rw [List.getElem?_set_ne hj] at h ⊢
      exact x.twn j h
  own := fun j e h => by
    by_cases hj : i = j
    · subst hj
      by_cases hl : i < env.length
      · rw [List.getElem?_set_self hl] at h; cases h
      · rw [List.getElem?_eq_none (by simpa using hl)] at h; cases h
    · rw [List.getElem?_set_ne hj] at h ⊢
      exact x.own j e h
  dist := fun j k e e' a hjk h h' q => by
    have ne : ∀ {m : Nat} {z : D}, (env.set i .unb)[m]? = some (.own z) → i ≠ m := fun {m z} hm hj => by
      subst hj
      by_cases hl : i < env.length
      · rw [List.getElem?_set_self hl] at hm; cases hm
      · rw [List.getElem?_eq_none (by simpa using hl)] at hm; cases hm
    have n1 := ne h
    have n2 := ne h'
    rw [List.getElem?_set_ne n1] at h q
    rw [List.getElem?_set_ne n2] at h' ⊢
    exact x.dist j k e e' a hjk h h' q
/-- a name takes a container that is new here -/
theorem Rel.setOwn (x : Rel P w K f c S H env σ) {i : Nat} {d : D} {a : Addr} (h2 : S a = none) (h3 : a ≠ f.T) (h4 : f.H0 a = none) (h5 : OwnAt P w K S H a d)
    (hd : ∀ (j : Nat) (e : D), i ≠ j → env[j]? = some (.own e) → σ[j]? ≠ some (some (.ref a))) : Rel P w K f c S H (env.set i (.own d)) (σ.set i (some (.ref a))) where
  wf := x.wf
  wf0 := x.wf0
  ent := x.ent
  low := x.low
  len := by simp [x.len]
  val := fun j e h => by
    by_cases hj : i = j
    · subst hj
      by_cases hl : i < env.length
      · rw [List.getElem?_set_self hl] at h; cases h
      · rw [List.getElem?_eq_none (by simpa using hl)] at h; cases h
    · rw [List.getElem?_set_ne hj] at h ⊢
      exact x.val j e h
  scr := fun j h => by
    by_cases hj : i = j
    · subst hj
      by_cases hl : i < env.length
      · rw [List.getElem?_set_self hl] at h; cases h
      · rw [List.getElem?_eq_none (by simpa using hl)] at h; cases h
    · rw [List.getElem?_set_ne hj] at h ⊢
      exact x.scr j h
  twn := fun j h => by
    by_cases hj : i = j
    · subst hj
      by_cases hl : i < env.length
      · rw [List.getElem?_set_self hl] at h; cases h
      · rw [List.getElem?_eq_none (by simpa using hl)] at h; cases h
    · rw [List.getElem?_set_ne hj] at h ⊢
      exact x.twn j h
  own := fun j e h => by
    by_cases hj : i = j
    · subst hj
      by_cases hl : i < env.length
      · rw [List.getElem?_set_self hl] at h
        rw [List.getElem?_set_self (by rw [← x.len]; exact hl)]
        cases h
        exact ⟨a, rfl, h2, h3, h4, h5⟩
      · rw [List.getElem?_eq_none (by simpa using hl)] at h; cases h
    · rw [List.getElem?_set_ne hj] at h ⊢
      exact x.own j e h
  dist := fun j k e e' b hjk h h' q => by
    by_cases hj : i = j
    · have hk : i ≠ k := fun z => hjk (hj.symm.trans z)
      subst hj
      rw [List.getElem?_set_ne hk] at h' ⊢
      by_cases hl : i < env.length
      · rw [List.getElem?_set_self (by rw [← x.len]; exact hl)] at q
        have q' : a = b := by simpa using q
        subst q'
        exact hd k e' hk h'
      · rw [List.getElem?_eq_none (by simpa using hl)] at h; cases h
    · rw [List.getElem?_set_ne hj] at h q
      by_cases hk : i = k
      · subst hk
        by_cases hl : i < env.length
        · rw [List.getElem?_set_self (by rw [← x.len]; exact hl)]
          intro z
          have z' : a = b := by simpa using z
          subst z'
          exact hd j e hj h q
        · rw [List.getElem?_eq_none (by simpa using hl)] at h'; cases h'
      · rw [List.getElem?_set_ne hk] at h' ⊢
        exact x.dist j k e e' b hjk h h' q
/-- the container of a name is changed in place -/
theorem Rel.write (x : Rel P w K f c S H env σ) {i : Nat} {d d' : D} {a : Addr} {o : HO} (hi : env[i]? = some (.own d)) (hs : σ[i]? = some (some (.ref a)))
    (hn : OwnAt P w K S (upd H a o) a d') : Rel P w K f c S (upd H a o) (env.set i (.own d')) σ := by
  obtain ⟨a', h1, h2, h3, h4, h5⟩ := x.own i d hi
  rw [hs] at h1
  have e : a = a' := by simpa using h1
  subst e
  have wf' : f.wf K c S (upd H a o) := ⟨fun b u q => by
      have ne : b ≠ a := fun z => by rw [z, h2] at q; cases q
      rw [upd_ne ne]; exact x.wf.inn b u q, x.wf.tS, by rw [upd_ne h3.symm]; exact x.wf.tH, x.wf.sc, x.wf.ln⟩
  have ent' : Gr f.T f.S0 f.H0 c S (upd H a o) := ⟨x.ent.sub, wf'.inn, fun b u nb q => by
      have ne : b ≠ a := fun z => by rw [z, h4] at q; cases q
      rw [upd_ne ne]; exact x.ent.same b u nb q, x.ent.new, wf'.tH⟩
  have ne : ∀ {m : Nat} {s : Slot}, i ≠ m → (env.set i (.own d'))[m]? = env[m]? := fun {m s} hm => List.getElem?_set_ne hm
  have hl : i < env.length := by
    by_cases z : i < env.length
    · exact z
    · rw [List.getElem?_eq_none (by simpa using z)] at hi; cases hi
  refine ⟨wf', x.wf0, ent', x.low, by simp [x.len], fun j e h => ?_, fun j h => ?_, fun j h => ?_, fun j e h => ?_, fun j k e e' b hjk h h' q => ?_⟩
  · by_cases hj : i = j
    · subst hj; rw [List.getElem?_set_self hl] at h; cases h
    · rw [List.getElem?_set_ne hj] at h; exact x.val j e h
  · by_cases hj : i = j
    · subst hj; rw [List.getElem?_set_self hl] at h; cases h
    · rw [List.getElem?_set_ne hj] at h; exact x.scr j h
  · by_cases hj : i = j
    · subst hj; rw [List.getElem?_set_self hl] at h; cases h
    · rw [List.getElem?_set_ne hj] at h; exact x.twn j h
  · by_cases hj : i = j
    · subst hj; rw [List.getElem?_set_self hl] at h
      cases h
      exact ⟨a, hs, h2, h3, h4, hn⟩
    · rw [List.getElem?_set_ne hj] at h
      obtain ⟨b, k1, k2, k3, k4, k5⟩ := x.own j e h
      have nb : b ≠ a := fun z => by subst z; exact x.dist i j d e b hj hi h hs k1
      refine ⟨b, k1, k2, k3, k4, ?_⟩
      cases k5 with
      | lst e l r => exact .lst (by rw [upd_ne nb]; exact e) l r
      | dic e a1 a2 a3 a4 a5 a6 r => exact .dic (by rw [upd_ne nb]; exact e) a1 a2 a3 a4 a5 a6 r
  · have t1 : ∃ e, env[j]? = some (.own e) := by
      by_cases hj : i = j
      · subst hj; exact ⟨d, hi⟩
      · rw [List.getElem?_set_ne hj] at h; exact ⟨e, h⟩
    have t2 : ∃ e, env[k]? = some (.own e) := by
      by_cases hj : i = k
      · subst hj; exact ⟨d, hi⟩
      · rw [List.getElem?_set_ne hj] at h'; exact ⟨e', h'⟩
    obtain ⟨e1, t1⟩ := t1
    obtain ⟨e2, t2⟩ := t2
    exact x.dist j k e1 e2 b hjk t1 t2 q
/-- a container is given away -/
theorem Rel.share (x : Rel P w K f c S H env σ) {i : Nat} {d : D} (hi : env[i]? = some (.own d)) : ∃ S', Rel P w K f c S' H (env.set i (.val d)) σ := by
  obtain ⟨a, h1, h2, h3, h4, h5⟩ := x.own i d hi
  obtain ⟨o, ho⟩ := h5.there
  have hl : i < env.length := by
    by_cases z : i < env.length
    · exact z
    · rw [List.getElem?_eq_none (by simpa using z)] at hi; cases hi
  have sub : Sub S (upd S a o) := fun b u q => by
    have ne : b ≠ a := fun z => by rw [z, h2] at q; cases q
    rw [upd_ne ne]; exact q
  have inn : Sub (upd S a o) H := fun b u q => by
    by_cases e : b = a
    · subst e; rw [upd_same] at q; cases q; exact ho
    · rw [upd_ne e] at q; exact x.wf.inn b u q
  refine ⟨upd S a o, ⟨inn, by rw [upd_ne h3.symm]; exact x.wf.tS, x.wf.tH, SqL.sub sub x.wf.sc, x.wf.ln⟩, x.wf0,
    ⟨fun b u q => sub b u (x.ent.sub b u q), inn, x.ent.same, fun b u q => ?_, x.ent.town⟩, fun b u q => sub b u (x.low b u q), by simp [x.len], fun j e h => ?_, fun j h => ?_, fun j h => ?_, fun j e h => ?_, fun j k e e' b hjk h h' q => ?_⟩
  · by_cases e : b = a
    · subst e; exact .inr h4
    · rw [upd_ne e] at q; exact x.ent.new b u q
  · by_cases hj : i = j
    · subst hj; rw [List.getElem?_set_self hl] at h; cases h
      refine ⟨_, h1, ?_⟩
      cases h5 with
      | lst e l r => rw [e] at ho; cases ho; exact .lst upd_same l (Reps.sub sub r)
      | dic e a1 a2 a3 a4 a5 a6 r => rw [e] at ho; cases ho; exact .dic upd_same a1 a2 a3 a4 a5 a6 (KReps.sub sub r)
    · rw [List.getElem?_set_ne hj] at h
      obtain ⟨v, q1, q2⟩ := x.val j e h
      exact ⟨v, q1, Rep.sub sub q2⟩
  · by_cases hj : i = j
    · subst hj; rw [List.getElem?_set_self hl] at h; cases h
    · rw [List.getElem?_set_ne hj] at h; exact x.scr j h
  · by_cases hj : i = j
    · subst hj; rw [List.getElem?_set_self hl] at h; cases h
    · rw [List.getElem?_set_ne hj] at h; exact x.twn j h
  · by_cases hj : i = j
    · subst hj; rw [List.getElem?_set_self hl] at h; cases h
    · rw [List.getElem?_set_ne hj] at h
      obtain ⟨b, k1, k2, k3, k4, k5⟩ := x.own j e h
      have nb : b ≠ a := fun z => by subst z; exact x.dist i j d e b hj hi h h1 k1
      refine ⟨b, k1, by rw [upd_ne nb]; exact k2, k3, k4, ?_⟩
      cases k5 with
      | lst e l r => exact .lst e l (Reps.sub sub r)
      | dic e a1 a2 a3 a4 a5 a6 r => exact .dic e a1 a2 a3 a4 a5 a6 (KReps.sub sub r)
  · have ne : ∀ {m : Nat} {z : D}, (env.set i (.val d))[m]? = some (.own z) → i ≠ m := fun {m z} hm hj => by
      subst hj; rw [List.getElem?_set_self hl] at hm; cases hm
    have n1 := ne h
    have n2 := ne h'
    rw [List.getElem?_set_ne n1] at h
    rw [List.getElem?_set_ne n2] at h'
    exact x.dist j k e e' b hjk h h' q
end
end LG

/-! LgC: what is wanted of a result; operations on values. -/
namespace LG
open PySem PySem.Spec PyProof.Rows L2

def Post {α β : Type} (f : Fm) (W : Nat → Hp → Prop) (rel : Hp → α → β → Prop) (S H : Hp) (r : R (α × Nat)) (Q : β → Hp → Prop) : Prop :=
  match r with
  | .ok (a, c') => ∀ S' H' b, Gr f.T S H c' S' H' → rel S' a b → Q b H'
  | .exn k c0 => ∀ S' H', Gr f.T S H c0 S' H' → W k H'
  | .bad => False
section
variable {α β γ δ : Type} {K : PySem.W.Frag} {f : Fm} {W : Nat → Hp → Prop} {rel : Hp → α → β → Prop} {rel' : Hp → γ → δ → Prop} {c c1 : Nat} {S H S1 H1 : Hp}
theorem Post.mono {r : R (α × Nat)} {Q : β → Hp → Prop} (wf : f.wf K c S H) (g : Gr f.T S H c1 S1 H1) (h : Post f W rel S H r Q) : Post f W rel S1 H1 r Q := by
  match r with
  | .ok (a, c') => exact fun S' H' b g' q => h S' H' b (g.trans wf g') q
  | .exn k c0 => exact fun S' H' g' => h S' H' (g.trans wf g')
  | .bad => exact h
theorem Post.thn {r : R (α × Nat)} {k : α → Nat → R (γ × Nat)} {Q : δ → Hp → Prop} {Q' : β → Hp → Prop} (wf : f.wf K c S H) (h : Post f W rel' S H (r.thn k) Q)
    (hk : ∀ a c' S' H' b, r = .ok (a, c') → Gr f.T S H c' S' H' → rel S' a b → Post f W rel' S' H' (k a c') Q → Q' b H') : Post f W rel S H r Q' := by
  match r with
  | .ok (a, c') => exact fun S' H' b g q => hk a c' S' H' b rfl g q (Post.mono wf g h)
  | .exn k c0 => exact h
  | .bad => exact h
theorem Post.imp {r : R (α × Nat)} {Q Q' : β → Hp → Prop} (h : Post f W rel S H r Q) (hq : ∀ b H', Q b H' → Q' b H') : Post f W rel S H r Q' := by
  match r with
  | .ok (a, c') => exact fun S' H' b g q => hq b H' (h S' H' b g q)
  | .exn k c0 => exact h
  | .bad => exact h
end
/-- the same of a plain result: nothing is raised, no draw is made -/
def PostR (P : Program) (w : World) (K : PySem.W.Frag) (f : Fm) (c : Nat) (S H : Hp) (r : R D) (Q : VK) : Prop :=
  match r with
  | .ok d => ∀ S' H' v, Gr f.T S H c S' H' → Rep P w K S' d v → Q v H'
  | _ => False
theorem PostR.of {P : Program} {w : World} {K : PySem.W.Frag} {f : Fm} {W : Nat → Hp → Prop} {c : Nat} {S H : Hp} {r : R D} {Q : VK} (h : Post f W (Rep P w K) S H (r.at c) Q) : PostR P w K f c S H r Q := by
  match r with
  | .ok d => exact h
  | .exn k c0 => exact h
  | .bad => exact h
section
variable {P : Program} {w : World} {K : PySem.W.Frag} {f : Fm} {c : Nat} {S H : Hp} {Q : VK}
/-- a new list, a new tuple -/
theorem PostR.newL (wf : f.wf K c S H) {ds : List D} {vs : List V} (h : PostR P w K f c S H (.ok (.list ds)) Q) (hl : ds.length ≤ LIM) (r : Reps P w K S ds vs) : ∀ p, H p = none → Q (.ref p) (upd H p (.lst vs)) := fun p hp =>
  h _ _ _ (wf.fresh hp _) (.lst upd_same hl (Reps.sub (wf.fresh hp _).sub r))
theorem PostR.newT (wf : f.wf K c S H) {ds : List D} {vs : List V} (h : PostR P w K f c S H (.ok (.tuple ds)) Q) (hl : ds.length ≤ LIM) (r : Reps P w K S ds vs) : ∀ p, H p = none → Q (.ref p) (upd H p (.tup vs)) := fun p hp =>
  h _ _ _ (wf.fresh hp _) (.tup (SqT.of upd_same) hl (Reps.sub (wf.fresh hp _).sub r))
theorem PostR.now (wf : f.wf K c S H) {d : D} {v : V} (h : PostR P w K f c S H (.ok d) Q) (r : Rep P w K S d v) : Q v H := h _ _ _ wf.refl r
end

/-! ### two values, one value -/
def rV2 (X : Cx) (op : D → D → R D) : R2 := fun x y H Q => ∃ f c S dx dy, f.wf X.K c S H ∧ Rep X.prog X.w X.K S dx x ∧ Rep X.prog X.w X.K S dy y ∧ PostR X.prog X.w X.K f c S H (op dx dy) Q
def rB2 (X : Cx) (op : D → D → R Bool) : R2 := fun x y H Q => ∃ dx dy b, Rep X.prog X.w X.K H dx x ∧ Rep X.prog X.w X.K H dy y ∧ op dx dy = .ok b ∧ Q (.bl b) H

section
variable {X : Cx}
theorem small_iff {i : Int} (h : small i = true) : -(2 ^ 64) < i ∧ i < 2 ^ 64 := by
  unfold small at h
  simpa only [Bool.and_eq_true, decide_eq_true_eq] using h
theorem opr_add : OpR X (binaryOp .Add) (rV2 X (binD .add)) := by
  intro pins s σ H x y v u Q I rx ry h
  obtain ⟨f, c, S, dx, dy, wf, r1, r2, h⟩ := h
  cases r1 with
  | int i =>
    cases r2 with
    | int j => exact op_add pins s σ H _ _ v u Q I rx ry ⟨i, j, rfl, rfl, h.now wf (.int _)⟩
    | _ => exact (show False from h).elim
  | str i =>
    cases r2 with
    | str j =>
      have h' : PostR X.prog X.w X.K f c S H (if i.length + j.length ≤ LIM then R.ok (.str (i ++ j)) else .bad) Q := h
      split at h'
      · rename_i hl
        exact op_add_str pins s σ H _ _ v u Q I rx ry ⟨i, j, rfl, rfl, Nat.le_trans hl LIM_le, h'.now wf (.str _)⟩
      · exact h'.elim
    | _ => exact (show False from h).elim
  | lst a1 l1 q1 =>
    rename_i a vs ds
    cases r2 with
    | lst a2 l2 q2 =>
      rename_i b us es
      have h' : PostR X.prog X.w X.K f c S H (if ds.length + es.length ≤ LIM then R.ok (.list (ds ++ es)) else .bad) Q := h
      split at h'
      · rename_i hl
        have e1 := q1.length
        have e2 := q2.length
        exact op_cat pins s σ H _ _ v u Q I rx ry ⟨a, b, vs, us, rfl, rfl, wf.inn _ _ a1, wf.inn _ _ a2, by have := LIM_le; omega, h'.newL wf (by simpa using hl) (q1.append q2)⟩
      · exact h'.elim
    | _ => exact (show False from h).elim
  | tup a1 l1 q1 =>
    rename_i a vs ds
    cases r2 with
    | tup a2 l2 q2 =>
      rename_i b us es
      have h' : PostR X.prog X.w X.K f c S H (if ds.length + es.length ≤ LIM then R.ok (.tuple (ds ++ es)) else .bad) Q := h
      split at h'
      · rename_i hl
        have e1 := q1.length
        have e2 := q2.length
        refine op_catA pins s σ H _ _ v u Q I rx ry ⟨a, b, vs, us, rfl, rfl, SqT.sub wf.inn a1, SqT.sub wf.inn a2, by have := LIM_le; omega, fun z => ?_, fun _ z => ?_, fun _ _ => h'.newT wf (by simpa using hl) (q1.append q2)⟩
        · subst z
          cases q1
          exact h'.now wf (.tup a2 l2 q2)
        · subst z
          cases q2
          simp only [List.append_nil] at h'
          exact h'.now wf (.tup a1 l1 q1)
      · exact h'.elim
    | _ => exact (show False from h).elim
  | non => exact (show False from h).elim
  | bl b => exact (show False from h).elim
  | dic => exact (show False from h).elim
theorem opr_sub : OpR X (binaryOp .Sub) (rV2 X (binD .sub)) := by
  intro pins s σ H x y v u Q I rx ry h
  obtain ⟨f, c, S, dx, dy, wf, r1, r2, h⟩ := h
  cases r1 with
  | int i =>
    cases r2 with
    | int j => exact op_sub pins s σ H _ _ v u Q I rx ry ⟨i, j, rfl, rfl, h.now wf (.int _)⟩
    | _ => exact (show False from h).elim
  | _ => exact (show False from h).elim
theorem opr_fdiv : OpR X (binaryOp .FloorDiv) (rV2 X (binD .fdiv)) := by
  intro pins s σ H x y v u Q I rx ry h
  obtain ⟨f, c, S, dx, dy, wf, r1, r2, h⟩ := h
  cases r1 with
  | int i =>
    cases r2 with
    | int j =>
      have h' : PostR X.prog X.w X.K f c S H (if 0 < j ∧ j < 1073741824 then R.ok (.int (i / j)) else .bad) Q := h
      split at h'
      · rename_i hl
        exact op_fdiv pins s σ H _ _ v u Q I rx ry ⟨i, j, rfl, rfl, hl, h'.now wf (.int _)⟩
      · exact h'.elim
    | _ => exact (show False from h).elim
  | _ => exact (show False from h).elim
theorem opr_mod : OpR X (binaryOp .Mod) (rV2 X (binD .mod)) := by
  intro pins s σ H x y v u Q I rx ry h
  obtain ⟨f, c, S, dx, dy, wf, r1, r2, h⟩ := h
  cases r1 with
  | int i =>
    cases r2 with
    | int j =>
      have h' : PostR X.prog X.w X.K f c S H (if 0 < j then R.ok (.int (i % j)) else .bad) Q := h
      split at h'
      · rename_i hl
        exact op_mod pins s σ H _ _ v u Q I rx ry ⟨i, j, rfl, rfl, hl, h'.now wf (.int _)⟩
      · exact h'.elim
    | _ => exact (show False from h).elim
  | _ => exact (show False from h).elim
theorem Reps.rep {P : Program} {w : World} {K : PySem.W.Frag} {S : Hp} {ds : List D} {vs : List V} (r : Reps P w K S ds vs) : ∀ n : Nat, Reps P w K S (List.replicate n ds).flatten (List.replicate n vs).flatten
  | 0 => .nil
  | n + 1 => by
    rw [List.replicate_succ, List.replicate_succ, List.flatten_cons, List.flatten_cons]
    exact r.append (Reps.rep r n)
theorem repL_len (ds : List D) (k : Int) (h1 : ds.length ≤ 1000) (h2 : k ≤ 1000) : (repL ds k).length ≤ LIM := by
  unfold repL
  rw [PyProof.Rows.lm_len_rep_flat]
  have a1 : k.toNat * ds.length ≤ 1000 * 1000 := Nat.mul_le_mul (by omega) h1
  exact a1
/-- a text, several times -/
theorem op_mulStr {a : Str} {k : Int} (h1 : a.length ≤ 1000) (h2 : 0 ≤ k) (h3 : k ≤ 1000) : OpR X (binaryOp .Mult) (fun x y H Q => x = .str a ∧ y = .int k ∧ Q (.str (Txt.mul a k)) H) := by
  intro pins s σ H x y v u Q I rx ry h
  obtain ⟨rfl, rfl, q⟩ := h
  obtain ⟨t, rfl⟩ := rx
  obtain ⟨t', rfl⟩ := ry
  have hk : k.toNat ≤ 1000 := by omega
  refine SB.mul ⟨?_, fun hk1 _ => ?_, fun _ _ => ?_⟩ fun t2 n => ⟨.str _, H, I.tok n, ⟨t2, rfl⟩, q⟩
  · simp only [Bool.or_eq_false_iff, decide_eq_false_iff_not]
    omega
  · have : ((1000 : Int)) ≤ (2 ^ 63 - 1) / k := Int.le_ediv_of_mul_le (by omega) (by omega)
    omega
  · unfold PySem.Builtin.Str.tooLong
    have h4 : a.length * k.toNat ≤ 1000 * 1000 := Nat.mul_le_mul h1 hk
    have h5 := LIM_le
    have h6 : LIM = 1000000 := rfl
    exact decide_eq_false (by omega)
theorem opr_mul : OpR X (binaryOp .Mult) (rV2 X (binD .mul)) := by
  intro pins s σ H x y v u Q I rx ry h
  obtain ⟨f, c, S, dx, dy, wf, r1, r2, h⟩ := h
  cases r1 with
  | int i =>
    cases r2 with
    | int j =>
      have h' : PostR X.prog X.w X.K f c S H (if (small i || small j) = true then R.ok (.int (i * j)) else .bad) Q := h
      split at h'
      · rename_i hl
        have hm : CMul i j := by
          rw [Bool.or_eq_true] at hl
          rcases hl with z | z
          · exact .inl (small_iff z)
          · exact .inr (small_iff z)
        exact op_mul pins s σ H _ _ v u Q I rx ry ⟨i, j, rfl, rfl, hm, h'.now wf (.int _)⟩
      · exact h'.elim
    | _ => exact (show False from h).elim
  | lst a1 l1 q1 =>
    rename_i a vs ds
    cases r2 with
    | int k =>
      have h' : PostR X.prog X.w X.K f c S H (if ds.length ≤ 1000 ∧ 0 ≤ k ∧ k ≤ 1000 then R.ok (.list (repL ds k)) else .bad) Q := h
      split at h'
      · rename_i hl
        have e1 := q1.length
        have hz : vs.length * k.toNat ≤ 1000 * 1000 := Nat.mul_le_mul (by omega) (by omega)
        exact op_rep pins s σ H _ _ v u Q I rx ry ⟨a, k, vs, rfl, rfl, wf.inn _ _ a1, by omega, by omega, Nat.le_trans hz LIM_le, h'.newL wf (repL_len ds k hl.1 hl.2.2) (Reps.rep q1 _)⟩
      · exact h'.elim
    | _ => exact (show False from h).elim
  | tup a1 l1 q1 =>
    rename_i a vs ds
    cases r2 with
    | int k =>
      have h' : PostR X.prog X.w X.K f c S H (if ds.length ≤ 1000 ∧ ds ≠ [] ∧ 2 ≤ k ∧ k ≤ 1000 then R.ok (.tuple (repL ds k)) else .bad) Q := h
      split at h'
      · rename_i hl
        have e1 := q1.length
        refine op_repT pins s σ H _ _ v u Q I rx ry ⟨a, k, vs, rfl, rfl, SqT.sub wf.inn a1, fun z => hl.2.1 ?_, hl.2.2.1, hl.2.2.2, by omega, h'.newT wf (repL_len ds k hl.1 hl.2.2.2) (Reps.rep q1 _)⟩
        subst z
        exact List.eq_nil_of_length_eq_zero e1
      · exact h'.elim
    | _ => exact (show False from h).elim
  | str a =>
    cases r2 with
    | int k =>
      have h' : PostR X.prog X.w X.K f c S H (if a.length ≤ 1000 ∧ 0 ≤ k ∧ k ≤ 1000 then R.ok (.str (Txt.mul a k)) else .bad) Q := h
      split at h'
      · rename_i hl
        exact op_mulStr hl.1 hl.2.1 hl.2.2 pins s σ H _ _ v u Q I rx ry ⟨rfl, rfl, h'.now wf (.str _)⟩
      · exact h'.elim
    | _ => exact (show False from h).elim
  | _ => exact (show False from h).elim

/-! ### comparisons -/
theorem eqD_ok {x y : D} {b : Bool} (h : eqD x y = .ok b) : SeqAt.shaped x = true ∧ SeqAt.shaped y = true ∧ PyData.eqv x y = b := by
  unfold eqD shp at h
  split at h
  · rename_i z
    rw [Bool.and_eq_true] at z
    cases h
    exact ⟨z.1, z.2, rfl⟩
  · cases h
theorem neg_ok {r : R Bool} {b : Bool} (h : r.neg = .ok b) : ∃ b', r = .ok b' ∧ b = !b' := by
  cases r with
  | ok b' => cases h; exact ⟨b', rfl, rfl⟩
  | exn k c0 => cases h
  | bad => cases h
theorem shaped_lay {d : D} (h : SeqAt.shaped d = true) : PyData.canLay0 d = true := SeqAt.canLay_of_shaped h
theorem opr_eq (hu : X.A.units + 64 < cLine) : OpR X (compareOp .Eq) (rB2 X (cmpB .eq)) := by
  intro pins s σ H x y v u Q I rx ry h
  obtain ⟨dx, dy, b, r1, r2, e, q⟩ := h
  obtain ⟨s1, s2, e⟩ := eqD_ok e
  subst e
  exact op_eqD hu pins s σ H x y v u Q I rx ry ⟨dx, dy, r1.dp (shaped_lay s1), r2.dp (shaped_lay s2), s1, s2, q⟩
theorem opr_ne (hu : X.A.units + 64 < cLine) : OpR X (compareOp .NotEq) (rB2 X (cmpB .ne)) := by
  intro pins s σ H x y v u Q I rx ry h
  obtain ⟨dx, dy, b, r1, r2, e, q⟩ := h
  obtain ⟨b', e', rfl⟩ := neg_ok e
  obtain ⟨s1, s2, e'⟩ := eqD_ok e'
  subst e'
  exact op_neD hu pins s σ H x y v u Q I rx ry ⟨dx, dy, r1.dp (shaped_lay s1), r2.dp (shaped_lay s2), s1, s2, q⟩
theorem opr_lt : OpR X (compareOp .Lt) (rB2 X (cmpB .lt)) := by
  intro pins s σ H x y v u Q I rx ry h
  obtain ⟨dx, dy, b, r1, r2, e, q⟩ := h
  cases r1 with
  | int i =>
    cases r2 with
    | int j => cases e; exact op_lt pins s σ H _ _ v u Q I rx ry ⟨i, j, rfl, rfl, q⟩
    | _ => cases e
  | _ => cases e
theorem opr_le : OpR X (compareOp .LtE) (rB2 X (cmpB .le)) := by
  intro pins s σ H x y v u Q I rx ry h
  obtain ⟨dx, dy, b, r1, r2, e, q⟩ := h
  cases r1 with
  | int i =>
    cases r2 with
    | int j => cases e; exact op_le pins s σ H _ _ v u Q I rx ry ⟨i, j, rfl, rfl, q⟩
    | _ => cases e
  | _ => cases e
theorem opr_gt : OpR X (compareOp .Gt) (rB2 X (cmpB .gt)) := by
  intro pins s σ H x y v u Q I rx ry h
  obtain ⟨dx, dy, b, r1, r2, e, q⟩ := h
  cases r1 with
  | int i =>
    cases r2 with
    | int j => cases e; exact op_gt pins s σ H _ _ v u Q I rx ry ⟨i, j, rfl, rfl, q⟩
    | _ => cases e
  | _ => cases e
theorem opr_ge : OpR X (compareOp .GtE) (rB2 X (cmpB .ge)) := by
  intro pins s σ H x y v u Q I rx ry h
  obtain ⟨dx, dy, b, r1, r2, e, q⟩ := h
  cases r1 with
  | int i =>
    cases r2 with
    | int j => cases e; exact op_ge pins s σ H _ _ v u Q I rx ry ⟨i, j, rfl, rfl, q⟩
    | _ => cases e
  | _ => cases e

/-! ### keys of dicts in the heap -/
theorem nk_tuple {d : D} {k : NestedKey} (h : nk d = some k) : ∃ ds ks, d = .tuple ds ∧ nkA ds = some ks ∧ k = .tup ks ∧ k.depth ≤ 8 := by
  unfold nk at h
  cases d with
  | tuple ds =>
    simp only at h
    cases e : nkE (.tuple ds) with
    | none => rw [e] at h; cases h
    | some k' =>
      rw [e] at h
      simp only at h
      split at h
      · rename_i hd
        cases h
        unfold nkE at e
        cases e2 : nkA ds with
        | none => rw [e2] at e; cases e
        | some ks => rw [e2] at e; cases e; exact ⟨ds, ks, rfl, e2, rfl, hd⟩
      · cases h
  | _ => cases h
mutual
theorem Rep.key {pins : List (Addr × Obj)} {σ : L2.St} {H : Hp} {s : Shared} (I : Inv X pins σ H s) : ∀ {d : D} {v : V} {u : Value} {k : NestedKey}, Rep X.prog X.w X.K H d v → RelV v u → nkE d = some k → NestedIs s.heap k u
  | _, _, u, k, .non, r, e => by
    cases (show u = Value.none from r)
    simp only [nkE, Option.some.injEq] at e
    subst e
    exact .none
  | _, _, u, k, .bl b, r, e => by
    cases (show u = Value.bool b from r)
    simp only [nkE, Option.some.injEq] at e
    subst e
    exact .bool rfl
  | _, _, u, k, .int i, r, e => by
    obtain ⟨t, rfl⟩ := r
    simp only [nkE, Option.some.injEq] at e
    subst e
    exact .int i t
  | _, _, u, k, .str x, r, e => by
    obtain ⟨t, rfl⟩ := r
    simp only [nkE, Option.some.injEq] at e
    subst e
    exact .text x t
  | _, _, u, k, .lst .., r, e => by simp [nkE] at e
  | _, _, u, k, .dic .., r, e => by simp [nkE] at e
  | _, _, u, k, .tup (ds := ds) a l q, r, e => by
    simp only [nkE] at e
    cases e2 : nkA ds with
    | none => rw [e2] at e; cases e
    | some ks =>
      rw [e2] at e
      cases e
      obtain ⟨its, rv, ⟨o, ho, hc, n, hd⟩, _⟩ := I.tuple a
      cases (show u = Value.ref _ from r)
      exact .tup ho hc hd (Reps.keys I q rv e2)
theorem Reps.keys {pins : List (Addr × Obj)} {σ : L2.St} {H : Hp} {s : Shared} (I : Inv X pins σ H s) : ∀ {ds : List D} {vs : List V} {us : List Value} {ks : List NestedKey}, Reps X.prog X.w X.K H ds vs → Vals vs us → nkA ds = some ks → NestedAll s.heap ks us
  | _, _, _, ks, .nil, .nil, e => by simp only [nkA, Option.some.injEq] at e; subst e; exact .nil
  | _, _, _, ks, .cons (d := d) (ds := ds) q1 q2, .cons r1 r2, e => by
    simp only [nkA] at e
    cases e1 : nkE d with
    | none => rw [e1] at e; cases e
    | some k =>
      cases e2 : nkA ds with
      | none => rw [e1, e2] at e; cases e
      | some ks' =>
        rw [e1, e2] at e
        cases e
        exact .cons (Rep.key I q1 r1 e1) (Reps.keys I q2 r2 e2)
end
theorem nk_nkE {d : D} {k : NestedKey} (h : nk d = some k) : nkE d = some k ∧ k.depth ≤ 8 := by
  obtain ⟨ds, ks, rfl, e, rfl, hd⟩ := nk_tuple h
  exact ⟨by unfold nkE; rw [e]; rfl, hd⟩
theorem Rep.kindIs {pins : List (Addr × Obj)} {σ : L2.St} {H : Hp} {s : Shared} (I : Inv X pins σ H s) {d : D} {a : Addr} {k : NestedKey} (r : Rep X.prog X.w X.K H d (.ref a)) (e : nk d = some k) : (nestedKind X.prog X.w).is s.heap k a :=
  ⟨Rep.key I r rfl (nk_nkE e).1, (nk_nkE e).2⟩
theorem KReps.is {pins : List (Addr × Obj)} {σ : L2.St} {H : Hp} {s : Shared} (I : Inv X pins σ H s) : ∀ {kvs : List (D × D)} {xs : List (NestedKey × Addr × Value)}, KReps X.prog X.w X.K H kvs xs → ∀ x ∈ xs, (nestedKind X.prog X.w).is s.heap x.1 x.2.1
  | _, _, .nil, x, h => by cases h
  | _, _, .cons a b c d r, x, h => by
    rcases List.mem_cons.mp h with rfl | h
    · exact Rep.kindIs I b a
    · exact KReps.is I r x h
theorem KReps.length {P : Program} {w : World} {K : PySem.W.Frag} {S : Hp} : ∀ {kvs : List (D × D)} {xs : List (NestedKey × Addr × Value)}, KReps P w K S kvs xs → kvs.length = xs.length
  | _, _, .nil => rfl
  | _, _, .cons _ _ _ _ r => by simp [KReps.length r]
mutual
theorem kq_key : ∀ {d : D} {k : NestedKey}, nkE d = some k → ∀ κ, kq d κ = decide (k = κ)
  | .int i, k, h, κ => by simp only [nkE, Option.some.injEq] at h; subst h; cases κ <;> simp [kq]
  | .str x, k, h, κ => by simp only [nkE, Option.some.injEq] at h; subst h; cases κ <;> simp [kq]
  | .none, k, h, κ => by simp only [nkE, Option.some.injEq] at h; subst h; cases κ <;> simp [kq]
  | .bool b, k, h, κ => by simp only [nkE, Option.some.injEq] at h; subst h; cases κ <;> simp [kq]
  | .list ds, k, h, κ => by simp [nkE] at h
  | .dict ds, k, h, κ => by simp [nkE] at h
  | .tuple ds, k, h, κ => by
    simp only [nkE] at h
    cases e : nkA ds with
    | none => rw [e] at h; cases h
    | some ks =>
      rw [e] at h
      cases h
      cases κ with
      | tup ks' =>
        simp only [kq]
        rw [kq_keys e ks']
        simp
      | _ => simp [kq]
theorem kq_keys : ∀ {ds : List D} {ks : List NestedKey}, nkA ds = some ks → ∀ κs, kqA ds κs = decide (ks = κs)
  | [], ks, h, κs => by simp only [nkA, Option.some.injEq] at h; subst h; cases κs <;> simp [kqA]
  | d :: ds, ks, h, κs => by
    simp only [nkA] at h
    cases e1 : nkE d with
    | none => rw [e1] at h; cases h
    | some k =>
      cases e2 : nkA ds with
      | none => rw [e1, e2] at h; cases h
      | some ks' =>
        rw [e1, e2] at h
        cases h
        cases κs with
        | nil => simp [kqA]
        | cons κ κs =>
          simp only [kqA]
          rw [kq_key e1 κ, kq_keys e2 κs]
          simp
end
theorem kq_nk {d : D} {k : NestedKey} (h : nk d = some k) (κ : NestedKey) : kq d κ = decide (k = κ) := kq_key (nk_nkE h).1 κ
theorem KReps.get {P : Program} {w : World} {K : PySem.W.Frag} {S : Hp} {κ : NestedKey} : ∀ {kvs : List (D × D)} {xs : List (NestedKey × Addr × Value)}, KReps P w K S kvs xs →
    (dGet kvs κ = none ∧ atKey xs κ = none) ∨ ∃ d ka u v, dGet kvs κ = some d ∧ atKey xs κ = some (ka, u) ∧ RelV v u ∧ Rep P w K S d v
  | _, _, .nil => .inl ⟨rfl, rfl⟩
  | _, _, .cons (kd := kd) (vd := vd) (κ := κ') (ka := ka) (u := u) (v := v) (r := r) (xs := xs) a b c d t => by
    by_cases h : κ' = κ
    · subst h
      refine .inr ⟨vd, ka, u, v, ?_, ?_, c, d⟩
      · unfold dGet
        rw [List.find?_cons_of_pos (by simp [kq_nk a])]
        rfl
      · unfold atKey
        rw [List.find?_cons_of_pos (by simp)]
        rfl
    · have e1 : dGet ((kd, vd) :: r) κ = dGet r κ := by
        unfold dGet
        rw [List.find?_cons_of_neg (by simp [kq_nk a, h])]
      have e2 : atKey ((κ', ka, u) :: xs) κ = atKey xs κ := by
        unfold atKey
        rw [List.find?_cons_of_neg (by simp [h])]
      rw [e1, e2]
      exact KReps.get t
/-- a dict that is read: in the heap, as the library has it -/
theorem Rep.dictH {pins : List (Addr × Obj)} {σ : L2.St} {H : Hp} {s : Shared} (I : Inv X pins σ H s) {kvs : List (D × D)} {v : V} (r : Rep X.prog X.w X.K H (.dict kvs) v) :
    ∃ a xs, v = .ref a ∧ s.heap.DictOfH (nestedKind X.prog X.w) a xs ∧ KReps X.prog X.w X.K H kvs xs ∧ (a == sysModules) = false := by
  cases r with
  | dic e1 e2 e3 e4 e5 e6 e7 e8 =>
    rename_i a o es ep xs
    have h := I.hok a _ e1
    exact ⟨a, xs, rfl, ⟨o, es, ep, h.1, e2, e3, e4, e8.is I, e5⟩, e8, e6⟩
theorem room8 {k : Nat} {A : Around} (hr : Room k A) : (nestedKind X.prog X.w).room A.in1 := by
  show A.in1.units + 8 < cLine
  have := hr.un
  show A.units + 1 + 8 < cLine
  omega
theorem nk_ref {P : Program} {w : World} {K : PySem.W.Frag} {S : Hp} {d : D} {v : V} {k : NestedKey} (r : Rep P w K S d v) (e : nk d = some k) : ∃ a, v = .ref a := by
  obtain ⟨ds, ks, rfl, _⟩ := nk_tuple e
  cases r
  exact ⟨_, rfl⟩
theorem isin_list {x : D} {ds : List D} {b : Bool} (h : isinD x (.list ds) = .ok b) : SeqAt.shaped x = true ∧ SeqAt.shaped (.list ds) = true ∧ (ds.any fun z => PyData.eqv z x) = b := by
  have h' : (if (shp x && shp (.list ds)) = true then R.ok (ds.any fun z => PyData.eqv z x) else .bad) = .ok b := h
  by_cases z : (shp x && shp (.list ds)) = true
  · rw [if_pos z] at h'
    rw [Bool.and_eq_true] at z
    cases h'
    exact ⟨z.1, z.2, rfl⟩
  · rw [if_neg z] at h'
    cases h'
theorem isin_tuple {x : D} {ds : List D} {b : Bool} (h : isinD x (.tuple ds) = .ok b) : SeqAt.shaped x = true ∧ SeqAt.shaped (.tuple ds) = true ∧ (ds.any fun z => PyData.eqv z x) = b := by
  have h' : (if (shp x && shp (.tuple ds)) = true then R.ok (ds.any fun z => PyData.eqv z x) else .bad) = .ok b := h
  by_cases z : (shp x && shp (.tuple ds)) = true
  · rw [if_pos z] at h'
    rw [Bool.and_eq_true] at z
    cases h'
    exact ⟨z.1, z.2, rfl⟩
  · rw [if_neg z] at h'
    cases h'
theorem isin_dict {x : D} {kvs : List (D × D)} {b : Bool} (h : isinD x (.dict kvs) = .ok b) : ∃ κ, nk x = some κ ∧ (dGet kvs κ).isSome = b := by
  have h' : (match nk x with | some k => R.ok (dGet kvs k).isSome | none => .bad) = .ok b := h
  cases e : nk x with
  | none => rw [e] at h'; cases h'
  | some κ => rw [e] at h'; cases h'; exact ⟨κ, rfl, rfl⟩
theorem isin_str {x : D} {z : Str} {b : Bool} (h : isinD x (.str z) = .ok b) : ∃ y, x = .str y ∧ (!(Builtin.Str.occurrences z y 0 z.length 1).isEmpty) = b := by
  cases x with
  | str y => cases h; exact ⟨y, rfl, rfl⟩
  | _ => cases h
/-- x in y, on data of any kind -/
theorem opr_in {k : Nat} (hr : Room k X.A) : OpR X (compareOp .In) (rB2 X (cmpB .isin)) := by
  intro pins s σ H x y v u Q I rx ry h
  obtain ⟨dx, dy, b, r1, r2, e0, q⟩ := h
  have hu : X.A.units + 65 < cLine := by have := hr.un; omega
  have e : isinD dx dy = .ok b := e0
  cases dy with
  | list ds =>
    obtain ⟨z1, z2, e⟩ := isin_list e
    subst e
    exact op_inD hu pins s σ H x y v u Q I rx ry ⟨dx, ds, r1.dp (shaped_lay z1), r2.dp (shaped_lay z2), z1, z2, q⟩
  | tuple ds =>
    obtain ⟨z1, z2, e⟩ := isin_tuple e
    subst e
    obtain ⟨as, q1⟩ := Dp.reads I dx x v (r1.dp (shaped_lay z1)) rx
    obtain ⟨bs, q2⟩ := Dp.reads I (.tuple ds) y u (r2.dp (shaped_lay z2)) ry
    exact SeqAt.in_tuple_reads q2 q1 (shaped_lay z2) (shaped_lay z1) (room_in_shaped z1 hu) ⟨.bl _, H, I, rfl, q⟩
  | dict kvs =>
    obtain ⟨κ, ek, e⟩ := isin_dict e
    subst e
    obtain ⟨a, rfl⟩ := nk_ref r1 ek
    obtain ⟨d, xs, rfl, hd, kr, hs⟩ := r2.dictH I
    cases (show v = Value.ref a from rx)
    cases (show u = Value.ref d from ry)
    refine wpAny_in_heap (room8 (X := X) hr) (Rep.kindIs I r1 ek) hs hd ⟨.bl _, H, I.tok _, rfl, ?_⟩
    rcases kr.get (κ := κ) with ⟨e1, e2⟩ | ⟨d', ka, u', v', e1, e2, _⟩
    · rw [e1] at q; rw [e2]; exact q
    · rw [e1] at q; rw [e2]; exact q
  | str z =>
    obtain ⟨z', rfl, e'⟩ := isin_str e
    subst e'
    cases r1
    cases r2
    exact op_in_str pins s σ H _ _ v u Q I rx ry ⟨z', z, rfl, rfl, q⟩
  | _ => cases e
theorem opr_notin {k : Nat} (hr : Room k X.A) : OpR X (compareOp .NotIn) (rB2 X (cmpB .notin)) := by
  intro pins s σ H x y v u Q I rx ry h
  obtain ⟨dx, dy, b, r1, r2, e0, q⟩ := h
  have hu : X.A.units + 65 < cLine := by have := hr.un; omega
  obtain ⟨b', e, rfl⟩ := neg_ok (show (isinD dx dy).neg = .ok b from e0)
  clear e0
  cases dy with
  | list ds =>
    obtain ⟨z1, z2, e⟩ := isin_list e
    subst e
    exact op_notInD hu pins s σ H x y v u Q I rx ry ⟨dx, ds, r1.dp (shaped_lay z1), r2.dp (shaped_lay z2), z1, z2, q⟩
  | tuple ds =>
    obtain ⟨z1, z2, e⟩ := isin_tuple e
    subst e
    obtain ⟨as, q1⟩ := Dp.reads I dx x v (r1.dp (shaped_lay z1)) rx
    obtain ⟨bs, q2⟩ := Dp.reads I (.tuple ds) y u (r2.dp (shaped_lay z2)) ry
    exact SeqAt.notIn_tuple_reads q2 q1 (shaped_lay z2) (shaped_lay z1) (room_in_shaped z1 hu) ⟨.bl _, H, I, rfl, q⟩
  | dict kvs =>
    obtain ⟨κ, ek, e⟩ := isin_dict e
    subst e
    obtain ⟨a, rfl⟩ := nk_ref r1 ek
    obtain ⟨d, xs, rfl, hd, kr, hs⟩ := r2.dictH I
    cases (show v = Value.ref a from rx)
    cases (show u = Value.ref d from ry)
    refine notIn_keyed (room8 (X := X) hr) (Rep.kindIs I r1 ek) hs ⟨xs, hd, rfl⟩ ⟨.bl _, H, I.tok _, rfl, ?_⟩
    rw [valueAt_pairsH, Option.isSome_map]
    rcases kr.get (κ := κ) with ⟨e1, e2⟩ | ⟨d', ka, u', v', e1, e2, _⟩
    · rw [e1] at q; rw [e2]; exact q
    · rw [e1] at q; rw [e2]; exact q
  | str z =>
    obtain ⟨z', rfl, e'⟩ := isin_str e
    subst e'
    cases r1
    cases r2
    exact op_notin_str pins s σ H _ _ v u Q I rx ry ⟨z', z, rfl, rfl, q⟩
  | _ => cases e

/-! ### items -/
/-- shared, or a container of the frame's own -/
def Hold (P : Program) (w : World) (K : PySem.W.Frag) (S H : Hp) (d : D) (v : V) : Prop := Rep P w K S d v ∨ ∃ a, v = .ref a ∧ OwnAt P w K S H a d
def rIdx (X : Cx) : R2 := fun x y H Q => ∃ f c S dx dy, f.wf X.K c S H ∧ Hold X.prog X.w X.K S H dx x ∧ Rep X.prog X.w X.K S dy y ∧ PostR X.prog X.w X.K f c S H (idxD dx dy) Q
theorem atI_map {ds : List D} {vs : List V} {P : Program} {w : World} {K : PySem.W.Frag} {S : Hp} (r : Reps P w K S ds vs) {i : Int} {d : D} (h : atI ds i = some d) : ∃ v, atI vs i = some v ∧ Rep P w K S d v := by
  unfold atI at h ⊢
  rw [← r.length]
  cases e : ixN ds.length i with
  | none => rw [e] at h; cases h
  | some j =>
    rw [e] at h
    exact r.get h
theorem Hold.list {P : Program} {w : World} {K : PySem.W.Frag} {S H : Hp} {ds : List D} {v : V} (h : Hold P w K S H (.list ds) v) (hs : Sub S H) : ∃ a vs, v = .ref a ∧ H a = some (.lst vs) ∧ ds.length ≤ LIM ∧ Reps P w K S ds vs := by
  rcases h with h | ⟨a, rfl, h⟩
  · cases h with
    | lst e l r => exact ⟨_, _, rfl, hs _ _ e, l, r⟩
  · cases h with
    | lst e l r => exact ⟨_, _, rfl, e, l, r⟩
theorem Hold.rep {P : Program} {w : World} {K : PySem.W.Frag} {S H : Hp} {d : D} {v : V} (h : Hold P w K S H d v) (hs : Sub S H) : Rep P w K H d v := by
  rcases h with h | ⟨a, rfl, h⟩
  · exact h.sub hs
  · exact h.rep hs
theorem Hold.dict {P : Program} {w : World} {K : PySem.W.Frag} {S H : Hp} {kvs : List (D × D)} {v : V} (h : Hold P w K S H (.dict kvs) v) (hs : Sub S H) : ∃ a o es ep xs, v = .ref a ∧ H a = some (.ext (pinO a o)) ∧ o.ExactDict ∧ o.data = .dict es ep ∧
      es.toList = xs.map (entryOfKey (nestedKind P w)) ∧ (xs.map (·.1)).Nodup ∧ (a == sysModules) = false ∧ kvs.length ≤ LIM ∧ KReps P w K S kvs xs := by
  rcases h with h | ⟨a, rfl, h⟩
  · cases h with
    | dic e1 e2 e3 e4 e5 e6 e7 e8 => exact ⟨_, _, _, _, _, rfl, hs _ _ e1, e2, e3, e4, e5, e6, e7, e8⟩
  · cases h with
    | dic e1 e2 e3 e4 e5 e6 e7 e8 => exact ⟨_, _, _, _, _, rfl, e1, e2, e3, e4, e5, e6, e7, e8⟩
theorem ix_all {k : Nat} (hr : Room k X.A) : IxR X (rIdx X) := by
  intro value slice pins s σ H x y v u Q I rx ry h hs
  obtain ⟨f, c, S, dx, dy, wf, r1, r2, h⟩ := h
  cases dx with
  | list ds =>
    cases r2 with
    | int i =>
      obtain ⟨a, vs, rfl, ha, _, rr⟩ := r1.list wf.inn
      have h' : PostR X.prog X.w X.K f c S H (atD ds i) Q := h
      unfold atD at h'
      cases e : atI ds i with
      | none => rw [e] at h'; exact h'.elim
      | some d =>
        rw [e] at h'
        obtain ⟨z, e2, rz⟩ := atI_map rr e
        exact ix_list value slice pins s σ H _ _ v u Q I rx ry ⟨a, vs, i, z, rfl, rfl, SqL.of ha, e2, h'.now wf rz⟩ hs
    | _ => exact (show False from h).elim
  | tuple ds =>
    cases r2 with
    | int i =>
      have r1' : Rep X.prog X.w X.K S (.tuple ds) x := by
        rcases r1 with r1 | ⟨a, _, r1⟩
        · exact r1
        · cases r1
      cases r1' with
      | tup a l rr =>
        have h' : PostR X.prog X.w X.K f c S H (atD ds i) Q := h
        unfold atD at h'
        cases e : atI ds i with
        | none => rw [e] at h'; exact h'.elim
        | some d =>
          rw [e] at h'
          obtain ⟨z, e2, rz⟩ := atI_map rr e
          exact ix_tup value slice pins s σ H _ _ v u Q I rx ry ⟨_, _, i, z, rfl, rfl, SqT.sub wf.inn a, e2, h'.now wf rz⟩ hs
    | _ => exact (show False from h).elim
  | str z =>
    cases r2 with
    | int i =>
      have r1' : Rep X.prog X.w X.K S (.str z) x := by
        rcases r1 with r1 | ⟨a, _, r1⟩
        · exact r1
        · cases r1
      cases r1'
      have h' : PostR X.prog X.w X.K f c S H (if z.length ≤ LIM then (match atI z.cps.toList i with | some c => R.ok (.str ⟨#[c]⟩) | none => .bad) else .bad) Q := h
      by_cases hl : z.length ≤ LIM
      · rw [if_pos hl] at h'
        cases e : atI z.cps.toList i with
        | none => rw [e] at h'; exact h'.elim
        | some d =>
          rw [e] at h'
          exact ix_str value slice pins s σ H _ _ v u Q I rx ry ⟨z, i, d, rfl, rfl, Nat.le_trans hl LIM_le, e, h'.now wf (.str _)⟩ hs
      · rw [if_neg hl] at h'
        exact h'.elim
    | _ => exact (show False from h).elim
  | dict kvs =>
    have h' : PostR X.prog X.w X.K f c S H (match nk dy with | some κ => (match dGet kvs κ with | some v => R.ok v | none => .bad) | none => .bad) Q := h
    cases ek : nk dy with
    | none => rw [ek] at h'; exact h'.elim
    | some κ =>
      rw [ek] at h'
      cases eg : dGet kvs κ with
      | none => simp only [eg] at h'; exact h'.elim
      | some dv =>
        simp only [eg] at h'
        obtain ⟨a, rfl⟩ := nk_ref r2 ek
        obtain ⟨d, o, es, ep, xs, rfl, e1, e2, e3, e4, e5, e6, e7, e8⟩ := r1.dict wf.inn
        cases (show v = Value.ref d from rx)
        cases (show u = Value.ref a from ry)
        have ho := (I.hok d _ e1).1
        have hd : s.heap.DictOfH (nestedKind X.prog X.w) d xs := ⟨o, es, ep, ho, e2, e3, e4, (e8.sub wf.inn).is I, e5⟩
        rcases e8.get (κ := κ) with ⟨g1, g2⟩ | ⟨d', ka, u', v', g1, g2, g3, g4⟩
        · rw [eg] at g1; cases g1
        · rw [eg] at g1
          cases g1
          have ty : s.TypeIs (.ref d) "dict" := hd.typeIs
          exact tail_any ty PySem.F.slot_dict_getitem.lookup (wpAny_getItem_heap (room8 (X := X) hr) (Rep.kindIs I (r2.sub wf.inn) ek) hd g2 ⟨v', H, I.tok _, g3, h'.now wf g4⟩) hs
  | _ => exact (show False from h).elim

/-! ### slices -/
def rSlc (X : Cx) : V → Option Int → Option Int → Hp → VK → Prop := fun x lo hi H Q => ∃ f c S d, f.wf X.K c S H ∧ Rep X.prog X.w X.K S d x ∧ PostR X.prog X.w X.K f c S H (slcD d lo hi) Q
theorem Reps.cut {P : Program} {w : World} {K : PySem.W.Frag} {S : Hp} {ds : List D} {vs : List V} (r : Reps P w K S ds vs) (lo hi : Option Int) : Reps P w K S (cutD ds lo hi) (cutV vs lo hi) := by
  unfold cutD cutV
  rw [← r.length]
  exact (r.drop _).take _
theorem cutD_length {α : Type} (xs : List α) (lo hi : Option Int) : (cutD xs lo hi).length ≤ xs.length := by
  unfold cutD
  rw [List.length_take, List.length_drop]
  omega
theorem sl_all : SlR X (rSlc X) := by
  intro pins s σ H x v vl vu lo hi sl Q I rx hs pl pu h
  obtain ⟨f, c, S, d, wf, r, h⟩ := h
  cases r with
  | lst a l rr =>
    have h' : PostR X.prog X.w X.K f c S H (.ok (.list (cutD _ lo hi))) Q := h
    exact sl_list pins s σ H _ v vl vu lo hi sl Q I rx hs pl pu ⟨_, _, rfl, SqL.of (wf.inn _ _ a), h'.newL wf (Nat.le_trans (cutD_length _ lo hi) l) (rr.cut lo hi)⟩
  | tup a l rr =>
    rename_i aa vs ds
    have h' : PostR X.prog X.w X.K f c S H (.ok (.tuple (cutD ds lo hi))) Q := h
    refine sl_tupA pins s σ H _ v vl vu lo hi sl Q I rx hs pl pu ⟨_, _, rfl, SqT.sub wf.inn a, fun z => ?_, fun _ => h'.newT wf (Nat.le_trans (cutD_length _ lo hi) l) (rr.cut lo hi)⟩
    have e : cutD ds lo hi = ds := by
      unfold cutD
      rw [rr.length, z.1, z.2, List.drop_zero, Nat.sub_zero, ← rr.length, List.take_length]
    rw [e] at h'
    exact h'.now wf (.tup a l rr)
  | str z =>
    have h' : PostR X.prog X.w X.K f c S H (if z.length ≤ LIM then R.ok (.str (cutS z lo hi)) else .bad) Q := h
    by_cases hl : z.length ≤ LIM
    · rw [if_pos hl] at h'
      exact sl_str pins s σ H _ v vl vu lo hi sl Q I rx hs pl pu ⟨z, rfl, Nat.le_trans hl LIM_le, h'.now wf (.str _)⟩
    · rw [if_neg hl] at h'
      exact h'.elim
  | _ => exact (show False from h).elim
end
end LG

/-! LgD: the readings of the small language; expressions. -/
namespace LG
open PySem PySem.Spec PyProof.Rows L2

/-- what a def's text is read by: the defs that it calls, the module's constants, what is wanted of an exception -/
structure Cn where
  Φ : List Callee
  gv : List D
  W : Nat → Sg → Hp → Prop
def tE (X : Cx) (C : Cn) (x : Ex) : TE := fun σ H Q => ∃ f c S env, Rel X.prog X.w X.K f c S H env σ ∧ Post f (fun k H' => C.W k σ H') (Rep X.prog X.w X.K) S H (evE f.ns C.Φ C.gv x env c) Q
def tAs (X : Cx) (C : Cn) (x : Exs) : TA := fun σ H Q => ∃ f c S env, Rel X.prog X.w X.K f c S H env σ ∧ Post f (fun k H' => C.W k σ H') (Reps X.prog X.w X.K) S H (evA f.ns C.Φ C.gv x env c) Q
def bo (d : D) (c : Nat) : R (Bool × Nat) := match d with
  | .bool b => .ok (b, c)
  | _ => .bad
def tT (X : Cx) (C : Cn) (x : Ex) : TT := fun σ H Q => ∃ f c S env, Rel X.prog X.w X.K f c S H env σ ∧ Post f (fun k H' => C.W k σ H') (fun _ (a b : Bool) => a = b) S H ((evE f.ns C.Φ C.gv x env c).thn bo) Q
structure SE (X : Cx) (C : Cn) (x : Ex) (e : Expr) : Prop where
  pe : PE X e (tE X C x)
  pt : PT X e (tT X C x)
theorem _root_.L2.PE.lgi {X : Cx} {e : Expr} {t t' : TE} (h : PE X e t) (i : ∀ σ H Q, t' σ H Q → t σ H Q) : PE X e t' := ⟨fun pins s σ H Q I q => h.run pins s σ H Q I (i σ H Q q)⟩
theorem _root_.L2.PT.lgi {X : Cx} {e : Expr} {t t' : TT} (h : PT X e t) (i : ∀ σ H Q, t' σ H Q → t σ H Q) : PT X e t' := ⟨fun pins s σ H Q I q => h.run pins s σ H Q I (i σ H Q q)⟩
theorem _root_.L2.PW.lgi {X : Cx} {e : Expr} {t t' : TT} (h : PW X e t) (i : ∀ σ H Q, t' σ H Q → t σ H Q) : PW X e t' := ⟨fun wh pins s σ H Q I q => h.run wh pins s σ H Q I (i σ H Q q)⟩
theorem _root_.L2.PA.lgi {X : Cx} {e : List Expr} {t t' : TA} (h : PA X e t) (i : ∀ σ H Q, t' σ H Q → t σ H Q) : PA X e t' := ⟨fun p pins s σ H Q I q => h.run p pins s σ H Q I (i σ H Q q)⟩
theorem _root_.L2.PS.lgi {X : Cx} {e : Stmt} {t t' : TS} (h : PS X e t) (i : ∀ D σ H, t' D σ H → t D σ H) : PS X e t' := ⟨fun pins s σ H D I q => h.run pins s σ H D I (i D σ H q)⟩
theorem _root_.L2.PSs.lgi {X : Cx} {e : List Stmt} {t t' : TS} (h : PSs X e t) (i : ∀ D σ H, t' D σ H → t D σ H) : PSs X e t' := ⟨fun pins s σ H D I q => h.run pins s σ H D I (i D σ H q)⟩
section
variable {X : Cx} {C : Cn}
/-- from a wish about a bool's value to the wish about the value -/
theorem bo_val {f : Fm} {W : Nat → Hp → Prop} {S H : Hp} {c : Nat} {a : D} {v : V} {Q : Bool → Hp → Prop} (wf : f.wf X.K c S H) (r : Rep X.prog X.w X.K S a v) (h : Post f W (fun _ (a b : Bool) => a = b) S H (bo a c) Q) : ∃ k, v = .bl k ∧ Q k H := by
  cases r with
  | bl b => exact ⟨b, rfl, h _ _ b wf.refl rfl⟩
  | _ => exact (show False from h).elim
theorem tT_tE {x : Ex} {σ : L2.St} {H : Hp} {Q : Bool → Hp → Prop} (h : tT X C x σ H Q) : tE X C x σ H fun v H1 => ∃ k, v = .bl k ∧ Q k H1 := by
  obtain ⟨f, c, S, env, rel, post⟩ := h
  exact ⟨f, c, S, env, rel, post.thn rel.wf fun a c' S' H' b _ g r post' => bo_val (rel.gr g).wf r post'⟩
theorem se_val {x : Ex} {e : Expr} (h : PE X e (tE X C x)) (he : ∀ whole, isTrue e X.env whole = (do let v ← whole; standAt e.pos; holding [v] (truthy v)) := by intro _; rfl) : SE X C x e :=
  ⟨h, (pt_val h he).lgi fun σ H Q q => tT_tE q⟩
theorem se_var {i : Nat} {x : Str} {pos : Pos} (hN : X.N[i]? = some x) (hv : Vis X.env.scope x) (hd : (x == ("__debug__" : Str)) = false) (hcd : (x == ("__classdict__" : Str)) = false) : SE X C (.var i) (.Name x pos) := by
  refine se_val ((pe_var hN hv hd hcd).lgi fun σ H Q q => ?_)
  obtain ⟨f, c, S, env, rel, post⟩ := q
  rw [evE] at post
  cases e : env[i]? with
  | none => rw [e] at post; exact post.elim
  | some sl =>
    rw [e] at post
    cases sl with
    | val d =>
      obtain ⟨v, h1, h2⟩ := rel.val i d e
      exact ⟨v, h1, post _ _ v rel.wf.refl h2⟩
    | _ => exact (show False from post).elim
theorem se_con {d : D} {v : V} {e : Expr} (h : PE X e (tC v)) (r : ∀ S, Rep X.prog X.w X.K S d v) (he : ∀ whole, isTrue e X.env whole = (do let v ← whole; standAt e.pos; holding [v] (truthy v)) := by intro _; rfl) : SE X C (.con d) e := by
  refine se_val (h.lgi fun σ H Q q => ?_) he
  obtain ⟨f, c, S, env, rel, post⟩ := q
  rw [evE] at post
  exact post _ _ v rel.wf.refl (r _)
theorem se_glb {g : Nat} {d : D} {v : V} {e : Expr} (hg : C.gv[g]? = some d) (h : PE X e (tC v)) (r : ∀ S, Rep X.prog X.w X.K S d v) (he : ∀ whole, isTrue e X.env whole = (do let v ← whole; standAt e.pos; holding [v] (truthy v)) := by intro _; rfl) : SE X C (.glb g) e := by
  refine se_val (h.lgi fun σ H Q q => ?_) he
  obtain ⟨f, c, S, env, rel, post⟩ := q
  rw [evE, hg] at post
  exact post _ _ v rel.wf.refl (r _)
variable {a b : Expr} {xa xb : Ex} {pos : Pos}
theorem tOp_of {o : D → D → R D} {r : R2} {x : Ex} {σ : L2.St} {H : Hp} {Q : VK} (hx : ∀ ns env c, evE ns C.Φ C.gv x env c = (evE ns C.Φ C.gv xa env c).thn fun u c => (evE ns C.Φ C.gv xb env c).thn fun v c => (o u v).at c)
    (hr : ∀ x y H Q, rV2 X o x y H Q → r x y H Q) (h : tE X C x σ H Q) : tOp r (tE X C xa) (tE X C xb) σ H Q := by
  obtain ⟨f, c, S, env, rel, post⟩ := h
  rw [hx] at post
  refine ⟨f, c, S, env, rel, post.thn rel.wf fun u c1 S1 H1 v1 _ g1 r1 post1 => ?_⟩
  have rel1 := rel.gr g1
  refine ⟨f, c1, S1, env, rel1, post1.thn rel1.wf fun u2 c2 S2 H2 v2 _ g2 r2 post2 => ?_⟩
  have rel2 := rel1.gr g2
  exact hr _ _ _ _ ⟨f, c2, S2, u, u2, rel2.wf, r1.sub g2.sub, r2, .of post2⟩
theorem se_bin {o : BinO} {op : Operator} (ho : OpR X (binaryOp op) (rV2 X (binD o))) (ha : SE X C xa a) (hb : SE X C xb b) : SE X C (.bin o xa xb) (.BinOp a op b pos) :=
  se_val ((pe_op ho ha.pe hb.pe).lgi fun σ H Q q => tOp_of (fun ns env c => by rw [evE]) (fun _ _ _ _ h => h) q)
theorem boolR_ok {r : R Bool} {d : D} (h : boolR r = .ok d) : ∃ b, r = .ok b ∧ d = .bool b := by
  cases r with
  | ok b => cases h; exact ⟨b, rfl, rfl⟩
  | _ => cases h
theorem rB2_of {o : D → D → R Bool} {x y : V} {H : Hp} {Q : VK} (h : rV2 X (fun u v => boolR (o u v)) x y H Q) : rB2 X o x y H Q := by
  obtain ⟨f, c, S, dx, dy, wf, r1, r2, h⟩ := h
  cases e : o dx dy with
  | ok b =>
    have h' : PostR X.prog X.w X.K f c S H (boolR (o dx dy)) Q := h
    rw [e] at h'
    exact ⟨dx, dy, b, r1.sub wf.inn, r2.sub wf.inn, e, PostR.now wf h' (.bl b)⟩
  | exn k c0 =>
    have h' : PostR X.prog X.w X.K f c S H (boolR (o dx dy)) Q := h
    rw [e] at h'
    exact (show False from h').elim
  | bad =>
    have h' : PostR X.prog X.w X.K f c S H (boolR (o dx dy)) Q := h
    rw [e] at h'
    exact (show False from h').elim
theorem se_cmp {o : CmpO} {op : CmpOp} (ho : OpR X (compareOp op) (rB2 X (cmpB o))) (ha : SE X C xa a) (hb : SE X C xb b) (hm : behindInMarks op b = false) : SE X C (.cmp o xa xb) (.Compare a [op] [b] pos) := by
  have key : ∀ σ H Q, tE X C (.cmp o xa xb) σ H Q → tOp (rB2 X (cmpB o)) (tE X C xa) (tE X C xb) σ H Q := fun σ H Q q =>
    tOp_of (fun ns env c => by rw [evE]) (fun _ _ _ _ h => rB2_of h) q
  exact ⟨(pe_cmpR ho ha.pe hb.pe hm).lgi key, (pt_cmpR ho ha.pe hb.pe hm).lgi fun σ H Q q => key _ _ _ (tT_tE q)⟩
theorem se_neg (ha : SE X C xa a) : SE X C (.neg xa) (.UnaryOp .USub a pos) := by
  refine se_val ((pe_un un_neg ha.pe).lgi fun σ H Q q => ?_)
  obtain ⟨f, c, S, env, rel, post⟩ := q
  rw [evE] at post
  refine ⟨f, c, S, env, rel, post.thn rel.wf fun u c1 S1 H1 v1 _ g1 r1 post1 => ?_⟩
  cases r1 with
  | int i => exact ⟨i, rfl, post1 _ _ _ (rel.gr g1).wf.refl (.int _)⟩
  | _ => exact (show False from post1).elim
theorem se_not (ha : SE X C xa a) : SE X C (.not xa) (.UnaryOp .Not a pos) := by
  refine ⟨(pe_not ha.pe).lgi fun σ H Q q => ?_, (pt_not ha.pt).lgi fun σ H Q q => ?_⟩
  · obtain ⟨f, c, S, env, rel, post⟩ := q
    rw [evE] at post
    refine ⟨f, c, S, env, rel, post.thn rel.wf fun u c1 S1 H1 v1 _ g1 r1 post1 => ?_⟩
    cases r1 with
    | bl i => exact ⟨i, rfl, post1 _ _ _ (rel.gr g1).wf.refl (.bl _)⟩
    | _ => exact (show False from post1).elim
  · obtain ⟨f, c, S, env, rel, post⟩ := q
    rw [evE] at post
    refine ⟨f, c, S, env, rel, ?_⟩
    cases e : evE f.ns C.Φ C.gv xa env c with
    | ok p =>
      obtain ⟨d, c'⟩ := p
      rw [e] at post
      cases d with
      | bool k =>
        intro S' H' b' g r
        exact post S' H' (!b') g (congrArg (!·) (show k = b' from r))
      | _ => exact (show False from post).elim
    | exn k c0 => rw [e] at post; exact post
    | bad => rw [e] at post; exact post

/-! ### and, or -/
theorem thn_thn {α β γ : Type} (r : R (α × Nat)) (k : α → Nat → R (β × Nat)) (l : β → Nat → R (γ × Nat)) : (r.thn k).thn l = r.thn fun x c => (k x c).thn l := by
  match r with
  | .ok (a, c) => rfl
  | .exn _ c0 => rfl
  | .bad => rfl
theorem Post.test {γ δ : Type} {K : PySem.W.Frag} {f : Fm} {W : Nat → Hp → Prop} {rel' : Hp → γ → δ → Prop} {c : Nat} {S H : Hp} {r : R (D × Nat)} {k : D → Nat → R (γ × Nat)} {Q : δ → Hp → Prop} {Q' : Bool → Hp → Prop} (wf : f.wf K c S H)
    (h : Post f W rel' S H (r.thn k) Q) (hbad : ∀ d c, (∀ b, d ≠ .bool b) → k d c = .bad) (hk : ∀ b c' S' H', Gr f.T S H c' S' H' → Post f W rel' S' H' (k (.bool b) c') Q → Q' b H') :
    Post f W (fun _ (a b : Bool) => a = b) S H (r.thn bo) Q' := by
  match r with
  | .ok (.bool b, c') =>
    intro S' H' b' g e
    have e : b = b' := e
    subst e
    exact hk b c' S' H' g (Post.mono wf g h)
  | .ok (.none, c') => rw [R.thn_ok, hbad _ _ (fun b z => by cases z)] at h; exact h
  | .ok (.int _, c') => rw [R.thn_ok, hbad _ _ (fun b z => by cases z)] at h; exact h
  | .ok (.str _, c') => rw [R.thn_ok, hbad _ _ (fun b z => by cases z)] at h; exact h
  | .ok (.list _, c') => rw [R.thn_ok, hbad _ _ (fun b z => by cases z)] at h; exact h
  | .ok (.tuple _, c') => rw [R.thn_ok, hbad _ _ (fun b z => by cases z)] at h; exact h
  | .ok (.dict _, c') => rw [R.thn_ok, hbad _ _ (fun b z => by cases z)] at h; exact h
  | .exn k c0 => exact h
  | .bad => exact h
/-- a row of and (or) -/
structure SB (X : Cx) (C : Cn) (x : Ex) (op : BoolOp) (es : List Expr) (pos : Pos) : Prop where
  pe : PE X (.BoolOp op es pos) (tE X C x)
  pw : PW X (.BoolOp op es pos) (tT X C x)
theorem SB.se {x : Ex} {op : BoolOp} {es : List Expr} (h : SB X C x op es pos) : SE X C x (.BoolOp op es pos) := ⟨h.pe, h.pw.pt⟩
theorem sb_and1 (h : SE X C xa a) : SB X C xa .And [a] pos := ⟨pe_one h.pe, pw_and1 h.pt⟩
theorem sb_or1 (h : SE X C xa a) : SB X C xa .Or [a] pos := ⟨pe_one h.pe, pw_or1 h.pt⟩
variable {rest : List Expr}
theorem sb_and (ha : SE X C xa a) (hb : SB X C xb .And (b :: rest) pos) : SB X C (.and xa xb) .And (a :: b :: rest) pos := by
  refine ⟨(pe_and ha.pe hb.pe).lgi fun σ H Q q => ?_, (pw_and ha.pt hb.pw).lgi fun σ H Q q => ?_⟩
  · obtain ⟨f, c, S, env, rel, post⟩ := q
    rw [evE] at post
    refine ⟨f, c, S, env, rel, post.thn rel.wf fun u c1 S1 H1 v1 _ g1 r1 post1 => ?_⟩
    cases r1 with
    | bl i =>
      refine ⟨i, rfl, ?_⟩
      cases i with
      | true => rw [if_pos rfl]; exact ⟨f, c1, S1, env, rel.gr g1, post1⟩
      | false => rw [if_neg Bool.false_ne_true]; exact post1 _ _ _ (rel.gr g1).wf.refl (.bl _)
    | _ => exact (show False from post1).elim
  · obtain ⟨f, c, S, env, rel, post⟩ := q
    rw [evE, thn_thn] at post
    refine ⟨f, c, S, env, rel, post.test rel.wf (fun d c h => ?_) fun b c1 S1 H1 g1 post1 => ?_⟩
    · cases d with
      | bool b => exact absurd rfl (h b)
      | _ => rfl
    · cases b with
      | true => rw [if_pos rfl]; exact ⟨f, c1, S1, env, rel.gr g1, post1⟩
      | false => rw [if_neg Bool.false_ne_true]; exact post1 _ _ _ (rel.gr g1).wf.refl rfl
theorem sb_or (ha : SE X C xa a) (hb : SB X C xb .Or (b :: rest) pos) : SB X C (.or xa xb) .Or (a :: b :: rest) pos := by
  refine ⟨(pe_or ha.pe hb.pe).lgi fun σ H Q q => ?_, (pw_or ha.pt hb.pw).lgi fun σ H Q q => ?_⟩
  · obtain ⟨f, c, S, env, rel, post⟩ := q
    rw [evE] at post
    refine ⟨f, c, S, env, rel, post.thn rel.wf fun u c1 S1 H1 v1 _ g1 r1 post1 => ?_⟩
    cases r1 with
    | bl i =>
      refine ⟨i, rfl, ?_⟩
      cases i with
      | false => rw [if_neg Bool.false_ne_true]; exact ⟨f, c1, S1, env, rel.gr g1, post1⟩
      | true => rw [if_pos rfl]; exact post1 _ _ _ (rel.gr g1).wf.refl (.bl _)
    | _ => exact (show False from post1).elim
  · obtain ⟨f, c, S, env, rel, post⟩ := q
    rw [evE, thn_thn] at post
    refine ⟨f, c, S, env, rel, post.test rel.wf (fun d c h => ?_) fun b c1 S1 H1 g1 post1 => ?_⟩
    · cases d with
      | bool b => exact absurd rfl (h b)
      | _ => rfl
    · cases b with
      | false => rw [if_neg Bool.false_ne_true]; exact ⟨f, c1, S1, env, rel.gr g1, post1⟩
      | true => rw [if_pos rfl]; exact post1 _ _ _ (rel.gr g1).wf.refl rfl
theorem pt_ifExp {t : Expr} {tt ta tb : TT} (ht : PT X t tt) (ha : PT X a ta) (hb : PT X b tb) : PT X (.IfExp t a b pos) (fun σ H Q => tt σ H fun k H1 => if k = true then ta σ H1 Q else tb σ H1 Q) := by
  refine ⟨fun pins s σ H Q I h => ?_⟩
  refine isTrue_IfExp (thn (ht.run pins s σ H _ I h) fun k s1 ⟨H1, I1, q1⟩ => ?_)
  cases k with
  | true => exact ha.run pins s1 σ H1 Q I1 q1
  | false => exact hb.run pins s1 σ H1 Q I1 q1
theorem se_ite {t : Expr} {xt : Ex} (ht : SE X C xt t) (ha : SE X C xa a) (hb : SE X C xb b) : SE X C (.ite xt xa xb) (.IfExp t a b pos) := by
  refine ⟨(pe_ifExp ht.pt ha.pe hb.pe).lgi fun σ H Q q => ?_, (pt_ifExp ht.pt ha.pt hb.pt).lgi fun σ H Q q => ?_⟩
  · obtain ⟨f, c, S, env, rel, post⟩ := q
    rw [evE] at post
    refine ⟨f, c, S, env, rel, post.test rel.wf (fun d c h => ?_) fun b c1 S1 H1 g1 post1 => ?_⟩
    · cases d with
      | bool b => exact absurd rfl (h b)
      | _ => rfl
    · cases b with
      | true => rw [if_pos rfl]; exact ⟨f, c1, S1, env, rel.gr g1, post1⟩
      | false => rw [if_neg Bool.false_ne_true]; exact ⟨f, c1, S1, env, rel.gr g1, post1⟩
  · obtain ⟨f, c, S, env, rel, post⟩ := q
    rw [evE, thn_thn] at post
    refine ⟨f, c, S, env, rel, post.test rel.wf (fun d c h => ?_) fun b c1 S1 H1 g1 post1 => ?_⟩
    · cases d with
      | bool b => exact absurd rfl (h b)
      | _ => rfl
    · cases b with
      | true => rw [if_pos rfl]; exact ⟨f, c1, S1, env, rel.gr g1, post1⟩
      | false => rw [if_neg Bool.false_ne_true]; exact ⟨f, c1, S1, env, rel.gr g1, post1⟩
theorem se_chn {e : Expr} {xe : Ex} (ha : SE X C xa a) (hb : SE X C xb b) (he : SE X C xe e) (hm : lastMarks [.LtE, .LtE] [b, e] = false) : SE X C (.chn xa xb xe) (.Compare a [.LtE, .LtE] [b, e] pos) := by
  have key : ∀ σ H Q, tE X C (.chn xa xb xe) σ H Q → tChain (rB2 X (cmpB .le)) (rB2 X (cmpB .le)) (tE X C xa) (tE X C xb) (tE X C xe) σ H Q := fun σ H Q q => by
    obtain ⟨f, c, S, env, rel, post⟩ := q
    rw [evE] at post
    refine ⟨f, c, S, env, rel, post.thn rel.wf fun u c1 S1 H1 v1 _ g1 r1 post1 => ?_⟩
    have rel1 := rel.gr g1
    refine ⟨f, c1, S1, env, rel1, post1.thn rel1.wf fun u2 c2 S2 H2 v2 _ g2 r2 post2 => ?_⟩
    have rel2 := rel1.gr g2
    cases r1 with
    | int i =>
      cases r2 with
      | int j =>
        refine ⟨.int i, .int j, decide (i ≤ j), .int i, .int j, rfl, decide (i ≤ j), rfl, ?_⟩
        have post3 : Post f (fun k H' => C.W k σ H') (Rep X.prog X.w X.K) S2 H2 (if i ≤ j then (evE f.ns C.Φ C.gv xe env c2).thn fun z c => (match z with
          | .int k => .ok (.bool (decide (j ≤ k)), c)
          | _ => .bad) else .ok (.bool false, c2)) Q := post2
        by_cases hij : i ≤ j
        · rw [if_pos hij] at post3
          rw [decide_eq_true hij, if_pos rfl]
          refine ⟨f, c2, S2, env, rel2, post3.thn rel2.wf fun u3 c3 S3 H3 v3 _ g3 r3 post4 => ?_⟩
          cases r3 with
          | int k => exact ⟨.int j, .int k, decide (j ≤ k), .int j, .int k, rfl, post4 _ _ _ (rel2.gr g3).wf.refl (.bl _)⟩
          | _ => exact (show False from post4).elim
        · rw [if_neg hij] at post3
          rw [decide_eq_false hij, if_neg Bool.false_ne_true]
          exact post3 _ _ _ rel2.wf.refl (.bl _)
      | _ => exact (show False from post2).elim
    | _ => cases r2 <;> exact (show False from post2).elim
  exact ⟨(pe_chain opr_le opr_le ha.pe hb.pe he.pe hm).lgi key, (pt_chain opr_le opr_le ha.pe hb.pe he.pe hm).lgi fun σ H Q q => key _ _ _ (tT_tE q)⟩
/-- is None, is True, is False -/
theorem isc_key {neg : Bool} {d : D} {σ : L2.St} {H : Hp} {Q : VK} (h : tE X C (.isc neg xa d) σ H Q) : tE X C xa σ H fun v H1 => ∃ dx b, Rep X.prog X.w X.K H1 dx v ∧ isConst d dx = .ok b ∧ Q (.bl (if neg then !b else b)) H1 := by
  obtain ⟨f, c, S, env, rel, post⟩ := h
  rw [evE] at post
  refine ⟨f, c, S, env, rel, post.thn rel.wf fun u c1 S1 H1 v1 _ g1 r1 post1 => ?_⟩
  cases e : isConst d u with
  | ok b => simp only [e] at post1; exact ⟨u, b, r1.sub (rel.gr g1).wf.inn, e, post1 _ _ _ (rel.gr g1).wf.refl (.bl _)⟩
  | exn k c0 => simp only [e] at post1; exact (show False from post1).elim
  | bad => simp only [e] at post1; exact (show False from post1).elim
theorem isConst_none {P : Program} {w : World} {K : PySem.W.Frag} {S : Hp} {dx : D} {v : V} {b : Bool} (r : Rep P w K S dx v) (h : isConst .none dx = .ok b) : decide (v = .non) = b := by
  cases r with
  | non => cases h; rfl
  | _ => cases h; rfl
theorem se_isN {j : Nat} {p : Pos} (ha : SE X C xa a) : SE X C (.isc false xa .none) (.Compare a [.Is] [.Constant .none j p] pos) := by
  have key : ∀ σ H Q, tE X C (.isc false xa .none) σ H Q → tIsN (tE X C xa) σ H Q := fun σ H Q q => by
    obtain ⟨f, c, S, env, rel, post⟩ := isc_key q
    exact ⟨f, c, S, env, rel, post.imp fun v H1 ⟨dx, b, r, e, q⟩ => by rw [isConst_none r e]; exact q⟩
  exact ⟨(pe_cmp (pc_isN ha.pe)).lgi key, (pt_cmp (pc_isN ha.pe)).lgi fun σ H Q q => key _ _ _ (tT_tE q)⟩
theorem se_notN {j : Nat} {p : Pos} (ha : SE X C xa a) : SE X C (.isc true xa .none) (.Compare a [.IsNot] [.Constant .none j p] pos) := by
  have key : ∀ σ H Q, tE X C (.isc true xa .none) σ H Q → tNotN (tE X C xa) σ H Q := fun σ H Q q => by
    obtain ⟨f, c, S, env, rel, post⟩ := isc_key q
    exact ⟨f, c, S, env, rel, post.imp fun v H1 ⟨dx, b, r, e, q⟩ => by rw [isConst_none r e]; exact q⟩
  exact ⟨(pe_cmp (pc_notN ha.pe)).lgi key, (pt_cmp (pc_notN ha.pe)).lgi fun σ H Q q => key _ _ _ (tT_tE q)⟩
theorem isConst_bool {P : Program} {w : World} {K : PySem.W.Frag} {S : Hp} {dx : D} {v : V} {k b : Bool} (r : Rep P w K S dx v) (h : isConst (.bool k) dx = .ok b) : ∃ x, v = .bl x ∧ decide (x = k) = b := by
  cases r with
  | bl x =>
    cases h
    refine ⟨x, rfl, ?_⟩
    cases k <;> cases x <;> rfl
  | _ => cases h
theorem se_isB {k : Bool} {j : Nat} {p : Pos} (ha : SE X C xa a) : SE X C (.isc false xa (.bool k)) (.Compare a [.Is] [.Constant (.bool k) j p] pos) := by
  have key : ∀ σ H Q, tE X C (.isc false xa (.bool k)) σ H Q → tOp rIsB (tE X C xa) (tC (.bl k)) σ H Q := fun σ H Q q => by
    obtain ⟨f, c, S, env, rel, post⟩ := isc_key q
    refine ⟨f, c, S, env, rel, post.imp fun v H1 ⟨dx, b, r, e, q⟩ => ?_⟩
    obtain ⟨x, rfl, e'⟩ := isConst_bool r e
    exact ⟨x, k, rfl, rfl, by rw [e']; exact q⟩
  exact ⟨(pe_cmpR op_isBl ha.pe pe_bl (nomark _)).lgi key, (pt_cmpR op_isBl ha.pe pe_bl (nomark _)).lgi fun σ H Q q => key _ _ _ (tT_tE q)⟩
theorem se_notB {k : Bool} {j : Nat} {p : Pos} (ha : SE X C xa a) : SE X C (.isc true xa (.bool k)) (.Compare a [.IsNot] [.Constant (.bool k) j p] pos) := by
  have key : ∀ σ H Q, tE X C (.isc true xa (.bool k)) σ H Q → tOp rNotB (tE X C xa) (tC (.bl k)) σ H Q := fun σ H Q q => by
    obtain ⟨f, c, S, env, rel, post⟩ := isc_key q
    refine ⟨f, c, S, env, rel, post.imp fun v H1 ⟨dx, b, r, e, q⟩ => ?_⟩
    obtain ⟨x, rfl, e'⟩ := isConst_bool r e
    exact ⟨x, k, rfl, rfl, by rw [e']; exact q⟩
  exact ⟨(pe_cmpR op_notBl ha.pe pe_bl (nomark _)).lgi key, (pt_cmpR op_notBl ha.pe pe_bl (nomark _)).lgi fun σ H Q q => key _ _ _ (tT_tE q)⟩

/-! ### rows of expressions, displays -/
def NoStar (e : Expr) : Prop := ∀ (es : List Expr) (env : Env), starEach (e :: es) env = (false, eval e env) :: starEach es env
theorem sa_nil : PA X [] (tAs X C .nil) := pa_nil.lgi fun σ H Q q => by
  obtain ⟨f, c, S, env, rel, post⟩ := q
  rw [evA] at post
  exact post _ _ _ rel.wf.refl .nil
theorem sa_cons {e : Expr} {es : List Expr} {x : Ex} {xs : Exs} (he : SE X C x e) (hr : PA X es (tAs X C xs)) (hs : NoStar e) : PA X (e :: es) (tAs X C (.cons x xs)) :=
  (pa_cons he.pe hr (hs _ _)).lgi fun σ H Q q => by
    obtain ⟨f, c, S, env, rel, post⟩ := q
    rw [evA] at post
    refine ⟨f, c, S, env, rel, post.thn rel.wf fun u c1 S1 H1 v1 _ g1 r1 post1 => ?_⟩
    have rel1 := rel.gr g1
    refine ⟨f, c1, S1, env, rel1, post1.thn rel1.wf fun u2 c2 S2 H2 v2 _ g2 r2 post2 => ?_⟩
    exact post2 _ _ _ (rel1.gr g2).wf.refl (.cons (r1.sub g2.sub) r2)
theorem se_tup {es : List Expr} {xs : Exs} {k : Nat} (h : PA X es (tAs X C xs)) : SE X C (.tup xs) (.Tuple es k pos) := by
  refine se_val ((pe_tup h).lgi fun σ H Q q => ?_)
  obtain ⟨f, c, S, env, rel, post⟩ := q
  rw [evE] at post
  refine ⟨f, c, S, env, rel, post.thn rel.wf fun ds c1 S1 H1 vs _ g1 r1 post1 => ?_⟩
  have rel1 := rel.gr g1
  have post2 : Post f (fun k H' => C.W k σ H') (Rep X.prog X.w X.K) S1 H1 (if ds.length ≤ LIM then .ok (.tuple ds, c1) else .bad) Q := post1
  split at post2
  · rename_i hl
    have e := r1.length
    exact ⟨by have := LIM_le; omega, PostR.newT (P := X.prog) (w := X.w) rel1.wf (c := c1) post2 hl r1⟩
  · exact post2.elim
theorem se_lst {es : List Expr} {xs : Exs} (h : PA X es (tAs X C xs)) : SE X C (.lst xs) (.List es pos) := by
  refine se_val ((pe_lst h).lgi fun σ H Q q => ?_)
  obtain ⟨f, c, S, env, rel, post⟩ := q
  rw [evE] at post
  refine ⟨f, c, S, env, rel, post.thn rel.wf fun ds c1 S1 H1 vs _ g1 r1 post1 => ?_⟩
  have rel1 := rel.gr g1
  have post2 : Post f (fun k H' => C.W k σ H') (Rep X.prog X.w X.K) S1 H1 (if ds.length ≤ LIM then .ok (.list ds, c1) else .bad) Q := post1
  split at post2
  · rename_i hl
    have e := r1.length
    exact ⟨by have := LIM_le; omega, PostR.newL (P := X.prog) (w := X.w) rel1.wf (c := c1) post2 hl r1⟩
  · exact post2.elim

/-! ### items and slices -/
theorem se_idx {k : Nat} (hr : Room k X.A) (ha : SE X C xa a) (hb : SE X C xb b) (hs : PlainIx b) : SE X C (.idx xa xb) (.Subscript a b pos) :=
  se_val ((pe_ix (ix_all hr) ha.pe hb.pe hs).lgi fun σ H Q q => tOp_of (fun ns env c => by rw [evE]) (fun x y H Q h => by
    obtain ⟨f, c, S, dx, dy, wf, r1, r2, h⟩ := h
    exact ⟨f, c, S, dx, dy, wf, .inl r1, r2, h⟩) q)
def tOi (X : Cx) (C : Cn) (x : Exo) : TO := fun σ H Q => ∃ f c S env, Rel X.prog X.w X.K f c S H env σ ∧ Post f (fun k H' => C.W k σ H') (fun _ (a b : Option Int) => a = b) S H ((evO f.ns C.Φ C.gv x env c).thn fun l c => match oiD l with | none => .bad | some l => .ok (l, c)) Q
theorem _root_.L2.PO.lgi {X : Cx} {e : Option Expr} {t t' : TO} (h : PO X e t) (i : ∀ σ H Q, t' σ H Q → t σ H Q) : PO X e t' := ⟨fun pins s σ H Q I q => h.run pins s σ H Q I (i σ H Q q)⟩
theorem so_none : PO X none (tOi X C .none) := po_none.lgi fun σ H Q q => by
  obtain ⟨f, c, S, env, rel, post⟩ := q
  rw [evO] at post
  exact post _ _ _ rel.wf.refl rfl
theorem so_some {e : Expr} {x : Ex} (h : SE X C x e) : PO X (some e) (tOi X C (.some x)) := (po_some h.pe).lgi fun σ H Q q => by
  obtain ⟨f, c, S, env, rel, post⟩ := q
  rw [evO, thn_thn] at post
  refine ⟨f, c, S, env, rel, post.thn rel.wf fun u c1 S1 H1 v1 _ g1 r1 post1 => ?_⟩
  cases r1 with
  | int i => exact ⟨i, rfl, post1 _ _ _ (rel.gr g1).wf.refl rfl⟩
  | _ => exact (show False from post1).elim
theorem oi_split {f : Fm} {W : Nat → Hp → Prop} {γ δ : Type} {rel' : Hp → γ → δ → Prop} {S H : Hp} {c : Nat} {r : R (Option D × Nat)} {k : Option Int → Nat → R (γ × Nat)} {Q : δ → Hp → Prop} {Q' : Option Int → Hp → Prop} (wf : f.wf X.K c S H)
    (h : Post f W rel' S H (r.thn fun l c => match oiD l with | none => .bad | some l => k l c) Q) (hk : ∀ l c' S' H', Gr f.T S H c' S' H' → Post f W rel' S' H' (k l c') Q → Q' l H') :
    Post f W (fun _ (a b : Option Int) => a = b) S H (r.thn fun l c => match oiD l with | none => .bad | some l => .ok (l, c)) Q' := by
  match r with
  | .ok (o, c') =>
    cases e : oiD o with
    | none => simp only [R.thn_ok, e] at h; exact h.elim
    | some l =>
      simp only [R.thn_ok, e] at h ⊢
      intro S' H' b g q
      have q : l = b := q
      subst q
      exact hk l c' S' H' g (Post.mono wf g h)
  | .exn k c0 => exact h
  | .bad => exact h
theorem se_slc {lo hi : Option Expr} {xl xh : Exo} {p2 : Pos} (ha : SE X C xa a) (hl : PO X lo (tOi X C xl)) (hh : PO X hi (tOi X C xh)) : SE X C (.slc xa xl xh) (.Subscript a (.Slice lo hi none p2) pos) := by
  refine se_val ((pe_slice sl_all ha.pe hl hh).lgi fun σ H Q q => ?_)
  obtain ⟨f, c, S, env, rel, post⟩ := q
  rw [evE] at post
  refine ⟨f, c, S, env, rel, post.thn rel.wf fun u c1 S1 H1 v1 _ g1 r1 post1 => ?_⟩
  have rel1 := rel.gr g1
  refine ⟨f, c1, S1, env, rel1, oi_split (X := X) rel1.wf post1 fun l c2 S2 H2 g2 post2 => ?_⟩
  have rel2 := rel1.gr g2
  refine ⟨f, c2, S2, env, rel2, oi_split (X := X) rel2.wf post2 fun h c3 S3 H3 g3 post3 => ?_⟩
  exact ⟨f, c3, S3, u, (rel2.gr g3).wf, (r1.sub g2.sub).sub g3.sub, .of post3⟩
end
end LG

/-! LgE: sorted of a tuple; built-in functions on values. -/
namespace LG
open PySem PySem.Spec PyProof.Rows L2

section
variable {prog : Program} {w : World} {A : Around} {E : Value → Shared → Prop} {s : Shared}
theorem collect_tuple {l : Addr} {vs : List Value} {Q : List Value → Shared → Prop} (hl : s.heap.IsTuple l vs.toArray)
    (h : Q vs { s with heap := (s.heap.push (seqObj "list" #[] 0)).update s.heap.objs.size (Obj.mapSeq (· ++ vs.toArray)) }) (hsz : vs.length ≤ sizeLine) :
    wpAny (model prog w) A (collect (.ref l)) Q E s := by
  obtain ⟨o, ho, hc, n, hd⟩ := id hl
  unfold collect
  refine wpAny_bind (wpAny_runValue (codeAny_builtin entry_proto_collect' ?_))
  show wpAny _ _ (do again (.builtin "list.__iadd__" ⟨[← newList [], .ref l], []⟩)) _ _ s
  refine wpAny_bind (wpAny_newList (wpAny_pure ⟨Code.quiet_builtin _ (by decide +kernel), codeAny_builtin entry_list_iadd' ?_⟩))
  show wpAny _ _ (Builtin.List.listExtendWith (.ref s.heap.objs.size) (.ref l) (.ref s.heap.objs.size)) _ _ { s with heap := s.heap.push (seqObj "list" #[] 0) }
  unfold Builtin.List.listExtendWith
  have ho' : (s.heap.push (seqObj "list" #[] 0)).get? l = some o := Heap.get?_push_of_some _ ho
  refine wpAny_bind (wpAny_typeOf (T := "tuple") ⟨o, ho', hc⟩ ?_)
  have ht : (Value.type "tuple" == Value.type "tuple") = true := by rfl
  rw [if_pos (by rw [ht]; simp)]
  refine wpAny_bind (listItems_at ho' hd ?_)
  refine wpAny_bind (listItems_at (xs := #[]) (n := 0) (Heap.get?_push_size _ rfl) rfl ?_)
  rw [if_neg (by simp)]
  refine wpAny_bind (listUpdate_at (xs := #[]) (n := 0) (Heap.get?_push_size _ rfl) rfl ?_ (Nat.zero_le _) (by show (#[] ++ vs.toArray).size ≤ sizeLine + 1; simp only [Array.size_append, List.size_toArray, List.length_nil]; omega))
  refine wpAny_pure ?_
  show wpAny (model prog w) A (do
      let o ← load s.heap.objs.size
      match o.data with
      | .seq xs _ => pure xs.toList
      | _ => unsupported "internal:collect") Q E { s with heap := (s.heap.push (seqObj "list" #[] 0)).update s.heap.objs.size (Obj.mapSeq (· ++ vs.toArray)) }
  refine wpAny_bind (wpAny_load (get?_update_seq (Heap.get?_push_size _ rfl) _) ?_)
  show wpAny _ _ (pure ((#[] : Array Value) ++ vs.toArray).toList) Q E _
  rw [show ((#[] : Array Value) ++ vs.toArray).toList = vs by simp]
  exact wpAny_pure h
theorem sortedT_of_sort {l : Addr} {vs : List Value} {Q : Value → Shared → Prop} (hl : s.heap.IsTuple l vs.toArray) (hL : vs.length ≤ sizeLine)
    (body : ∀ E' : Value → Shared → Prop, wpAny (model prog w) A.in1.in1 (Builtin.«list.sort» ⟨[.ref (s.heap.objs.size + 1)], []⟩) (fun f s' => f = .done (.ret .none) ∧ Q (.ref (s.heap.objs.size + 1)) s') E' { s with heap := PySem.W.copyHeap s.heap vs }) :
    wpAny (model prog w) A (call (.builtin "sorted") [.ref l]) Q E s := by
  refine call_function_entry_kw kind_sorted plain_sorted entry_sorted (args_sorted1 _) ?_
  unfold Builtin.«sorted»
  refine wpAny_bind (m := checkCount "sorted" 1 1 _) (wpAny_pure ?_)
  refine wpAny_bind (collect_tuple hl ?_ hL)
  refine wpAny_bind (wpAny_newList ?_ hL)
  have hsz : ((s.heap.push (seqObj "list" #[] 0)).update s.heap.objs.size (Obj.mapSeq (· ++ vs.toArray))).objs.size = s.heap.objs.size + 1 := by
    rw [Heap.size_update, size_push']
  show wpAny _ _ _ _ _ { s with heap := PySem.W.copyHeap s.heap vs }
  rw [hsz]
  refine wpAny_bind (wpAny_holding (wpAny_call_entry_kw slot_list_sort ⟨_, PySem.W.copyHeap_at s.heap vs, rfl⟩ entry_list_sort ?body (args_list_sort _)))
  case body =>
    show wpAny (model prog w) A.in1.in1 (Builtin.«list.sort» ⟨[.ref (s.heap.objs.size + 1)], []⟩) _ _ _
    refine wpAny_mono (body _) (fun f s' hf => ?_) fun _ _ e => e
    obtain ⟨rfl, hq⟩ := hf
    exact ⟨_, rfl, wpAny_pure ⟨_, rfl, hq⟩⟩
theorem sortedT_data {β : Type} {vs : List Value} {bs : List β} {enc : β → PyData} {R : Value → β → Prop} {l : Addr} {Q : Value → Shared → Prop} (hl : s.heap.IsTuple l vs.toArray) (e : PySem.W.EachIs R vs bs)
    (er : PySem.W.EachIs (fun v b => ∃ as, Reads s.heap v (enc b) as) vs bs) (hal : PySem.W.AllAlike (bs.map enc)) (hk : PySem.W.Sortable (bs.map enc)) (hL : bs.length ≤ sizeLine)
    (hu : ∀ b, b ∈ bs → A.units + 2 + (enc b).depth < cLine) (h : ∀ out, out.length = bs.length → PySem.W.EachIs R out (bs.mergeSort (PySem.W.dataLe false enc)) → Q (.ref (s.heap.objs.size + 1)) { s with heap := sortedAll s.heap vs (List.toArray out) }) :
    wpAny (model prog w) A (call (.builtin "sorted") [.ref l]) Q E s := by
  have er' : PySem.W.EachIs (fun v b => ∃ as, Reads (PySem.W.sortingHeap (PySem.W.copyHeap s.heap vs) (s.heap.objs.size + 1) vs) v (enc b) as) vs bs := er.mono fun _ _ ⟨as, r⟩ => ⟨as, PyProof.Rows.Reads.keeps (fun _ _ => PySem.W.sorting_copy_old) r⟩
  have S := PySem.W.SortsAt.data (prog := prog) (w := w) (A := A.in1.in1) (s := { s with heap := PySem.W.sortingHeap (PySem.W.copyHeap s.heap vs) (s.heap.objs.size + 1) vs }) (PySem.W.each_map (R := fun v d => ∃ as, Reads (PySem.W.sortingHeap (PySem.W.copyHeap s.heap vs) (s.heap.objs.size + 1) vs) v d as) enc er') hal hk (PySem.W.bound_map hu)
  have hL' : vs.length ≤ sizeLine := by rw [e.length]; exact hL
  exact sortedT_of_sort hl hL' fun _ => PySem.W.list_sort_vals (s := { s with heap := PySem.W.copyHeap s.heap vs }) (PySem.W.copyHeap_at s.heap vs) S hL' ⟨rfl, h _ (by rw [PySem.W.sortVals_length false rfl]; exact e.length) (PySem.W.sortVals_data false e er' hal)⟩
end

section
variable {prog : Program} {w : World} {A : Around} {E : Value → Shared → Prop} {s : Shared}
/-- what a walked thing gives, in a new list; the heap has grown -/
theorem collect_src {T : String} {q d : Addr} {n : Nat} {Pi : Nat → Value → Prop} {OK : Heap → Prop} {G : List Value → Shared → Prop} (src : PySem.W.KdlSrc prog w T q d n Pi OK) (hd0 : A.handled = none) (ok0 : OK s.heap) (hn : n ≤ sizeLine)
    (go : ∀ (h1 : Heap) (tk : Nat) (got : Array Value), (∀ b o, s.heap.get? b = some o → h1.get? b = some o) → s.heap.objs.size ≤ h1.objs.size → ItemsOf Pi got n → G got.toList { s with heap := h1, toks := tk }) :
    wpAny (model prog w) A (collect (.ref q)) G E s := by
  have low := src.there _ ok0
  have lst0 : (s.heap.push { cls := .type "list", data := .seq ([] : List Value).toArray }).get? s.heap.objs.size = some { cls := .type "list", data := .seq #[] } := Heap.get?_push_size _ rfl
  have fin := PySem.W.kdl_extend (A := A) (s := { s with heap := s.heap.push { cls := .type "list", data := .seq ([] : List Value).toArray } })
    (R := fun (res : Result) (s' : Shared) => ∃ (h1 : Heap) (tk : Nat) (got : Array Value) (m : Nat), res = .ok (.ret (.ref s.heap.objs.size)) ∧ s' = { s with heap := h1, toks := tk } ∧
      (∀ b o, s.heap.get? b = some o → h1.get? b = some o) ∧ h1.get? s.heap.objs.size = some { cls := .type "list", dict := none, data := .seq got m, slots := #[] } ∧ ItemsOf Pi got n)
    src hd0 (src.keep _ _ ok0 fun b _ o z => Heap.get?_push_of_some _ z) s.heap.objs.size (Nat.ne_of_gt low.1) (Nat.ne_of_gt low.2) (.ref s.heap.objs.size) 0 lst0
    (fun h1 tk got m kp at1 it => ⟨h1, tk, got, m, rfl, rfl, fun b o z => kp b o (Nat.ne_of_lt (Heap.lt_size z)) (Heap.get?_push_of_some _ z), at1, it⟩) hn
  have last : ∀ (h1 : Heap) (tk : Nat) (got : Array Value) (m : Nat), (∀ b o, s.heap.get? b = some o → h1.get? b = some o) → h1.get? s.heap.objs.size = some { cls := .type "list", dict := none, data := .seq got m, slots := #[] } → ItemsOf Pi got n →
      wpAny (model prog w) A (load s.heap.objs.size >>= fun o => match o.data with | .seq ys _ => pure ys.toList | _ => unsupported "internal:collect") G E { s with heap := h1, toks := tk } :=
    fun h1 tk got m kp at1 it => wpAny_bind (wpAny_load at1 (wpAny_pure (go h1 tk got kp (Nat.le_of_lt (Heap.lt_size at1)) it)))
  unfold collect
  refine wpAny_bind (wpAny_runValue (codeAny_builtin entry_proto_collect' ?_))
  rw [Around.under_plainId PySem.F.plain_proto_collect _]
  refine wpAny_bind (wpAny_newObj_type (wpAny_pure ⟨plainId_quiet PySem.F.plain_list_iadd _, codeAny_builtin entry_list_iadd' ?_⟩))
  rw [Around.under_plainId PySem.F.plain_list_iadd _]
  refine wpAny_mono fin (fun fi s' z => ?_) fun _ s' z => by obtain ⟨_, _, _, _, e', _⟩ := z; cases e'
  cases fi with
  | done fv =>
    obtain ⟨h1, tk, got, m, e, rfl, kp, at1, it⟩ := z
    cases e
    exact last h1 tk got m kp at1 it
  | again c1 =>
    refine ⟨z.1, codeAny_mono z.2 fun res s2 y => ?_⟩
    obtain ⟨h1, tk, got, m, rfl, rfl, kp, at1, it⟩ := y
    exact last h1 tk got m kp at1 it
/-- sorted of whatever is collected -/
theorem sorted_from {β : Type} {r : Value} {enc : β → PyData} {Q : Value → Shared → Prop}
    (hcol : ∀ E' : Value → Shared → Prop, wpAny (model prog w) A.in1 (collect r) (fun us s1 => ∃ (R : Value → β → Prop) (h' : Heap) (tk : Nat) (bs : List β), s1 = { s with heap := h', toks := tk } ∧ us.length ≤ sizeLine ∧ PySem.W.EachIs R us bs ∧ PySem.W.EachIs (fun v b => ∃ as, Reads h' v (enc b) as) us bs ∧
      PySem.W.AllAlike (bs.map enc) ∧ PySem.W.Sortable (bs.map enc) ∧ (∀ b, b ∈ bs → A.units + 2 + (enc b).depth < cLine) ∧
      ∀ (out : List Value) (h'' : Heap) (ep : Nat), out.length = bs.length → PySem.W.EachIs R out (bs.mergeSort (PySem.W.dataLe false enc)) → (∀ b o, h'.get? b = some o → h''.get? b = some o) → h''.get? h'.objs.size = some (seqObj "list" out.toArray ep) →
        Q (.ref h'.objs.size) { s with heap := h'', toks := tk }) E' s) :
    wpAny (model prog w) A (call (.builtin "sorted") [r]) Q E s := by
  refine call_function_entry_kw kind_sorted plain_sorted entry_sorted (args_sorted1 _) ?_
  unfold Builtin.«sorted»
  refine wpAny_bind (m := checkCount "sorted" 1 1 _) (wpAny_pure ?_)
  refine wpAny_bind (wpAny_mono (hcol _) (fun us s1 hq => ?_) fun _ _ e => e)
  obtain ⟨R, h', tk, bs, rfl, hL, e, er, hal, hk, hu, h⟩ := hq
  refine wpAny_bind (wpAny_newList ?_ hL)
  have hget : (h'.push (seqObj "list" us.toArray 0)).get? h'.objs.size = some (seqObj "list" us.toArray 0) := Heap.get?_push_size _ rfl
  have old : ∀ b o, h'.get? b = some o → (PySem.W.sortingHeap (h'.push (seqObj "list" us.toArray 0)) h'.objs.size us).get? b = some o := fun b o hb => PySem.W.sortingHeap_old (Nat.ne_of_lt (Heap.lt_size hb)) (Heap.get?_push_of_some _ hb)
  have er' : PySem.W.EachIs (fun v b => ∃ as, Reads (PySem.W.sortingHeap (h'.push (seqObj "list" us.toArray 0)) h'.objs.size us) v (enc b) as) us bs := er.mono fun _ _ ⟨as, r⟩ => ⟨as, PyProof.Rows.Reads.keeps old r⟩
  have S := PySem.W.SortsAt.data (prog := prog) (w := w) (A := A.in1.in1) (s := { s with heap := PySem.W.sortingHeap (h'.push (seqObj "list" us.toArray 0)) h'.objs.size us, toks := tk }) (PySem.W.each_map (R := fun v d => ∃ as, Reads (PySem.W.sortingHeap (h'.push (seqObj "list" us.toArray 0)) h'.objs.size us) v d as) enc er') hal hk (PySem.W.bound_map hu)
  refine wpAny_bind (wpAny_holding (wpAny_call_entry_kw slot_list_sort ⟨_, hget, rfl⟩ entry_list_sort ?body (args_list_sort _)))
  case body =>
    show wpAny (model prog w) A.in1.in1 (Builtin.«list.sort» ⟨[.ref h'.objs.size], []⟩) _ _ _
    refine PySem.W.list_sort_vals (s := { s with heap := h'.push (seqObj "list" us.toArray 0), toks := tk }) hget S hL ?_
    obtain ⟨ep, hep⟩ := sortedHeap_at (out := (PySem.W.sortVals (PySem.W.dataKind (PySem.W.sortingHeap (h'.push (seqObj "list" us.toArray 0)) h'.objs.size us) (bs.map enc)) false us us).toArray) hget
    refine ⟨_, rfl, wpAny_pure ⟨_, rfl, h _ _ ep (by rw [PySem.W.sortVals_length false rfl]; exact e.length) (PySem.W.sortVals_data false e er' hal) (fun b o hb => ?_) hep⟩⟩
    rw [sortedHeap_old (Nat.ne_of_lt (Heap.lt_size hb)) (by rw [size_push']; exact Nat.lt_succ_of_lt (Heap.lt_size hb))]
    exact Heap.get?_push_of_some _ hb
end

/-! ### insertion is the sort -/
theorem leD_total : PySem.W.TotalLe leD := PySem.W.sortLe_total (listOrd itemOrd) false fun b : D => PySem.W.keyToks b
theorem leD_tot (x y : D) : (leD x y || leD y x) = true := by
  rcases leD_total.total x y with h | h <;> simp [h]
theorem insD_mem {x z : D} : ∀ {l : List D}, z ∈ insD x l ↔ z = x ∨ z ∈ l
  | [] => by simp [insD]
  | y :: r => by
    unfold insD
    split
    · simp
    · simp only [List.mem_cons, insD_mem (l := r)]
      constructor
      · rintro (h | h | h)
        · exact .inr (.inl h)
        · exact .inl h
        · exact .inr (.inr h)
      · rintro (h | h | h)
        · exact .inr (.inl h)
        · exact .inl h
        · exact .inr (.inr h)
theorem insD_ord {x : D} : ∀ {l : List D}, l.Pairwise (fun a b => leD a b = true) → (insD x l).Pairwise (fun a b => leD a b = true)
  | [], _ => by simp [insD]
  | y :: r, h => by
    unfold insD
    rw [List.pairwise_cons] at h
    split
    · rename_i hle
      rw [List.pairwise_cons]
      refine ⟨fun a ha => ?_, by rw [List.pairwise_cons]; exact h⟩
      rcases List.mem_cons.mp ha with rfl | ha
      · exact hle
      · exact leD_total.trans _ _ _ hle (h.1 a ha)
    · rename_i hle
      rw [List.pairwise_cons]
      refine ⟨fun a ha => ?_, insD_ord h.2⟩
      rcases insD_mem.mp ha with rfl | ha
      · rcases leD_total.total a y with z | z
        · exact absurd z hle
        · exact z
      · exact h.1 a ha
theorem isortD_ord : ∀ l : List D, (isortD l).Pairwise (fun a b => leD a b = true)
  | [] => .nil
  | x :: r => insD_ord (isortD_ord r)
theorem insD_filter {x z : D} : ∀ l : List D, (insD x l).filter (PySem.W.Srt.alike leD z) = (x :: l).filter (PySem.W.Srt.alike leD z)
  | [] => rfl
  | y :: r => by
    unfold insD
    split
    · rfl
    · rename_i hle
      have ih := insD_filter (x := x) (z := z) r
      by_cases hx : PySem.W.Srt.alike leD z x = true
      · have hy : PySem.W.Srt.alike leD z y = false := by
          cases hy : PySem.W.Srt.alike leD z y with
          | false => rfl
          | true =>
            unfold PySem.W.Srt.alike at hx hy
            rw [Bool.and_eq_true] at hx hy
            exact absurd (leD_total.trans _ _ _ hx.2 hy.1) hle
        rw [List.filter_cons_of_neg (by simp [hy]), ih, List.filter_cons_of_pos hx, List.filter_cons_of_pos hx, List.filter_cons_of_neg (by simp [hy])]
      · rw [List.filter_cons_of_neg hx] at ih ⊢
        rw [List.filter_cons, List.filter_cons, ih]
theorem isortD_filter (z : D) : ∀ l : List D, (isortD l).filter (PySem.W.Srt.alike leD z) = l.filter (PySem.W.Srt.alike leD z)
  | [] => rfl
  | x :: r => by
    show (insD x (isortD r)).filter _ = _
    rw [insD_filter, List.filter_cons, List.filter_cons, isortD_filter z r]
theorem isortD_eq (l : List D) : isortD l = l.mergeSort (PySem.W.dataLe false id) :=
  PySem.W.Srt.the leD leD_total.trans leD_tot (isortD_ord l) fun z => isortD_filter z l
theorem insD_length (x : D) : ∀ l : List D, (insD x l).length = l.length + 1
  | [] => rfl
  | y :: r => by
    unfold insD
    split
    · rfl
    · rw [List.length_cons, insD_length x r, List.length_cons]
theorem isortD_length : ∀ l : List D, (isortD l).length = l.length
  | [] => rfl
  | x :: r => by
    show (insD x (isortD r)).length = _
    rw [insD_length, isortD_length r, List.length_cons]

/-! ### calls of built-in functions -/
def rPr (X : Cx) (p : Pr) : List V → Hp → VK → Prop := fun vs H Q => ∃ f c S ds, f.wf X.K c S H ∧ Reps X.prog X.w X.K S ds vs ∧ PostR X.prog X.w X.K f c S H (primD p ds) Q
theorem sortable_of {ds : List D} (h : sortableD ds = true) : PySem.W.AllAlike (ds.map id) ∧ PySem.W.Sortable (ds.map id) ∧ ∀ d ∈ ds, d.depth ≤ 40 ∧ PyData.canLay0 d = true := by
  unfold sortableD at h
  simp only [Bool.and_eq_true, List.all_eq_true, decide_eq_true_eq, Bool.or_eq_true] at h
  obtain ⟨⟨h1, h2⟩, h3⟩ := h
  rw [List.map_id]
  refine ⟨fun d hd d' hd' => h1 d hd d' hd', ?_, h3⟩
  rcases h2 with h2 | h2
  · refine .inl fun d hd => ?_
    have := h2 d hd
    cases d with
    | tuple xs =>
      cases xs with
      | nil => cases this
      | cons x r => exact ⟨x, r, rfl⟩
    | _ => cases this
  · refine .inr fun d hd => ?_
    have := h2 d hd
    cases d with
    | tuple xs => cases this
    | none => cases this
    | _ => exact ⟨(fun z => by cases z), (fun xs z => by cases z)⟩
section
variable {X : Cx}
theorem each_of {pins : List (Addr × Obj)} {σ : L2.St} {H : Hp} {s : Shared} (I : Inv X pins σ H s) : ∀ {ds : List D} {vs : List V} {us : List Value}, Reps X.prog X.w X.K H ds vs → Vals vs us → (∀ d ∈ ds, PyData.canLay0 d = true) →
    PySem.W.EachIs (fun u d => ∃ as, Reads s.heap u (id d) as) us ds
  | _, _, _, .nil, .nil, _ => .nil
  | _, _, _, .cons a r, .cons b t, h => .cons (Dp.reads I _ _ _ (a.dp (h _ (List.mem_cons_self ..))) b) (each_of I r t fun d hd => h d (List.mem_cons_of_mem _ hd))
theorem each_rel {S : Hp} : ∀ {ds : List D} {vs : List V} {us : List Value}, Reps X.prog X.w X.K S ds vs → Vals vs us → PySem.W.EachIs (fun u d => ∃ v, RelV v u ∧ Rep X.prog X.w X.K S d v) us ds
  | _, _, _, .nil, .nil => .nil
  | _, _, _, .cons a r, .cons b t => .cons ⟨_, b, a⟩ (each_rel r t)
theorem of_each {S : Hp} : ∀ {ds : List D} {us : List Value}, PySem.W.EachIs (fun u d => ∃ v, RelV v u ∧ Rep X.prog X.w X.K S d v) us ds → ∃ vs, Vals vs us ∧ Reps X.prog X.w X.K S ds vs
  | _, _, .nil => ⟨[], .nil, .nil⟩
  | _, _, .cons ⟨v, a, b⟩ t => by
    obtain ⟨vs, h1, h2⟩ := of_each t
    exact ⟨v :: vs, .cons a h1, .cons b h2⟩
theorem KReps.keys {P : Program} {w : World} {K : PySem.W.Frag} {S : Hp} : ∀ {kvs : List (D × D)} {xs : List (NestedKey × Addr × Value)}, KReps P w K S kvs xs → Reps P w K S (keysOf kvs) (xs.map fun x => V.ref x.2.1)
  | _, _, .nil => .nil
  | _, _, .cons a b c d t => .cons b (KReps.keys t)
theorem vals_keys : ∀ xs : List (NestedKey × Addr × Value), Vals (xs.map fun x => V.ref x.2.1) (xs.map fun x => Value.ref x.2.1)
  | [] => .nil
  | _ :: r => .cons rfl (vals_keys r)
theorem items_keys {P : Program} {w : World} {es : Array DictEntry} {xs : List (NestedKey × Addr × Value)} {acc : Array Value} (he : es.toList = xs.map (entryOfKey (nestedKind P w))) (h : ItemsOf (fun i v => ∃ hi : i < es.size, v = es[i].key) acc es.size) : acc.toList = xs.map fun x => Value.ref x.2.1 := by
  have hsz : es.size = xs.length := by rw [← Array.length_toList, he, List.length_map]
  refine List.ext_getElem? fun i => ?_
  by_cases hi : i < es.size
  · have h1 : i < acc.size := by rw [h.1]; exact hi
    have hx : xs[i]? = some (xs[i]'(by omega)) := List.getElem?_eq_getElem (by omega)
    obtain ⟨_, e⟩ := h.2 i acc[i] (Array.getElem?_eq_getElem h1)
    have hen : es[i]? = some (entryOfKey (nestedKind P w) (xs[i]'(by omega))) := by rw [PySem.entry_at he, hx]; rfl
    rw [Array.getElem?_eq_getElem hi] at hen
    have hen' := Option.some.inj hen
    rw [List.getElem?_map, hx, Array.getElem?_toList, Array.getElem?_eq_getElem h1, e, hen']
    rfl
  · rw [List.getElem?_eq_none (by rw [Array.length_toList, h.1]; omega), List.getElem?_eq_none (by rw [List.length_map]; omega)]
theorem sorted_dict {pins : List (Addr × Obj)} {s : Shared} {σ : L2.St} {H S : Hp} {f : Fm} {c : Nat} {Q : VK} {kvs : List (D × D)} {aa : Addr} (hc : X.calm = true) (hu : X.A.units + 200 < cLine) (I : Inv X pins σ H s) (wf : f.wf X.K c S H) (r : Rep X.prog X.w X.K S (.dict kvs) (.ref aa))
    (h : PostR X.prog X.w X.K f c S H (sortD (keysOf kvs)) Q) : wpAny (model X.prog X.w) X.A (call (.builtin "sorted") [.ref aa]) (EP X pins σ Q) X.xe s := by
  have h' : PostR X.prog X.w X.K f c S H (if sortableD (keysOf kvs) = true then R.ok (.list (isortD (keysOf kvs))) else .bad) Q := h
  by_cases hso : sortableD (keysOf kvs) = true
  · rw [if_pos hso] at h'
    have so := sortable_of hso
    have lay : ∀ d ∈ keysOf kvs, PyData.canLay0 d = true := fun d hd => (so.2.2 d hd).2
    cases r with
    | dic e1 e2 e3 e4 e5 e6 e7 e8 =>
      rename_i ob es ep xs
      have hH := wf.inn _ _ e1
      have ho := (I.hok aa _ hH).1
      have hsz : es.size = xs.length := by rw [← Array.length_toList, e4, List.length_map]
      have hl := e8.length
      have hlk : (keysOf kvs).length ≤ LIM := by unfold keysOf; rw [List.length_map]; exact e7
      refine sorted_from (enc := id) fun E' => ?_
      refine collect_src (PySem.KdlSrc.rawDict (es := es) (ep := ep) e6) (I.ok.hd hc) ⟨ob, ho, e2, e3⟩ (by have := LIM_le; omega) fun h1 tk acc hk hge hacc => ?_
      rw [items_keys e4 hacc]
      have rk := e8.keys
      have vk := vals_keys xs
      refine ⟨fun u d => ∃ v, RelV v u ∧ Rep X.prog X.w X.K S d v, h1, tk, keysOf kvs, rfl, by have := LIM_le; rw [List.length_map]; omega, each_rel rk vk, (each_of I (rk.sub wf.inn) vk lay).mono fun _ _ ⟨as, r⟩ => ⟨as, PyProof.Rows.Reads.keeps hk r⟩, so.1, so.2.1, fun d hd => by have := (so.2.2 d hd).1; show X.A.units + 2 + d.depth < cLine; omega, fun out h2 ep' ho' he hk2 hep => ?_⟩
      obtain ⟨zs, z1, z2⟩ := of_each he
      rw [← isortD_eq] at z2
      have hlen : zs.length = (keysOf kvs).length := by rw [← z2.length, isortD_length]
      refine ⟨.ref h1.objs.size, upd H h1.objs.size (.lst zs), I.laid (t' := tk) (fun b o e => hk2 b o (hk b o e)) hge ⟨by have := LIM_le; omega, out, ep', z1, hep⟩, rfl, ?_⟩
      exact h'.newL wf (by rw [isortD_length]; exact hlk) z2 _ (I.hok.fresh hge)
  · rw [if_neg hso] at h'
    exact h'.elim
theorem pr_sorted {k : Nat} (hr : Room k X.A) (hc : X.calm = true) : CallR X (.builtin "sorted") (rPr X .sorted) := by
  intro pins s σ H vs us Q I r h
  obtain ⟨f, c, S, ds, wf, rr, h⟩ := h
  have hu : X.A.units + 200 < cLine := by have := hr.un; omega
  -- what is shared by a list and a tuple
  have main : ∀ (es : List D) (ws : List V) (its : List Value), es.length ≤ LIM → Reps X.prog X.w X.K S es ws → Vals ws its → PostR X.prog X.w X.K f c S H (sortD es) Q →
      (PySem.W.AllAlike (es.map id) ∧ PySem.W.Sortable (es.map id) ∧ (∀ d ∈ es, d.depth ≤ 40 ∧ PyData.canLay0 d = true)) ∧ PySem.W.EachIs (fun u d => ∃ v, RelV v u ∧ Rep X.prog X.w X.K S d v) its es ∧ PySem.W.EachIs (fun u d => ∃ as, Reads s.heap u (id d) as) its es ∧
      ∀ out : List Value, out.length = es.length → PySem.W.EachIs (fun u d => ∃ v, RelV v u ∧ Rep X.prog X.w X.K S d v) out (es.mergeSort (PySem.W.dataLe false id)) →
        EP X pins σ Q (.ref (s.heap.objs.size + 1)) { s with heap := sortedAll s.heap its out.toArray } := by
    intro es ws its hl q1 q2 hp
    have hp' : PostR X.prog X.w X.K f c S H (if sortableD es = true then R.ok (.list (isortD es)) else .bad) Q := hp
    by_cases hso : sortableD es = true
    · rw [if_pos hso] at hp'
      have so := sortable_of hso
      have lay : ∀ d ∈ es, PyData.canLay0 d = true := fun d hd => (so.2.2 d hd).2
      refine ⟨so, each_rel q1 q2, each_of I (q1.sub wf.inn) q2 lay, fun out ho he => ?_⟩
      obtain ⟨zs, z1, z2⟩ := of_each he
      rw [← isortD_eq] at z2
      have hlen : zs.length = es.length := by rw [← z2.length, isortD_length]
      obtain ⟨ep, hep⟩ := sortedAll_at s.heap its out.toArray
      refine ⟨.ref (s.heap.objs.size + 1), upd H (s.heap.objs.size + 1) (.lst zs), I.laid (t' := s.toks) (fun b o e => sortedAll_old e) (Nat.le_succ _) ⟨by have := LIM_le; omega, out, ep, z1, hep⟩, rfl, ?_⟩
      exact hp'.newL wf (by rw [isortD_length]; exact hl) z2 _ (I.hok.fresh (Nat.le_succ _))
    · rw [if_neg hso] at hp'
      exact hp'.elim
  cases rr with
  | nil => exact (show False from h).elim
  | cons a t =>
    cases t with
    | cons b t' =>
      cases a <;> exact (show False from h).elim
    | nil =>
      cases r with
      | cons ru rt =>
        cases rt
        cases a with
        | lst e l q =>
          rename_i aa ws es
          obtain ⟨its, rv, p, hz⟩ := I.list (SqL.of (wf.inn _ _ e))
          obtain ⟨⟨s1, s2, s3⟩, m1, m2, m3⟩ := main es ws its l q rv h
          cases (show _ = Value.ref aa from ru)
          exact PySem.W.sorted_data (enc := id) p.isList m1 m2 s1 s2 (Nat.le_trans l LIM_le) (fun d hd => by have := (s3 d hd).1; show X.A.units + 2 + d.depth < cLine; omega) m3
        | tup e l q =>
          rename_i aa ws es
          obtain ⟨its, rv, p, hz⟩ := I.tuple (SqT.sub wf.inn e)
          obtain ⟨⟨s1, s2, s3⟩, m1, m2, m3⟩ := main es ws its l q rv h
          cases (show _ = Value.ref aa from ru)
          exact sortedT_data (enc := id) (show s.heap.IsTuple aa its.toArray from p) m1 m2 s1 s2 (Nat.le_trans l LIM_le) (fun d hd => by have := (s3 d hd).1; show X.A.units + 2 + d.depth < cLine; omega) m3
        | dic e1 e2 e3 e4 e5 e6 e7 e8 =>
          cases ru
          exact sorted_dict hc hu I wf (.dic e1 e2 e3 e4 e5 e6 e7 e8) h
        | _ => exact (show False from h).elim
theorem ints_vals {P : Program} {w : World} {K : PySem.W.Frag} {S : Hp} : ∀ {ds : List D} {vs : List V} {is : List Int}, Reps P w K S ds vs → intsOf ds = some is → vs = is.map V.int
  | _, _, is, .nil, e => by
    simp only [intsOf, Option.some.injEq] at e
    subst e
    rfl
  | _, _, is, .cons (ds := ds) a r, e => by
    cases a with
    | int i =>
      simp only [intsOf] at e
      cases e2 : intsOf ds with
      | none => rw [e2] at e; cases e
      | some js =>
        rw [e2] at e
        cases e
        rw [ints_vals r e2]
        rfl
    | _ => simp [intsOf] at e
theorem bools_vals {P : Program} {w : World} {K : PySem.W.Frag} {S : Hp} : ∀ {ds : List D} {vs : List V} {is : List Bool}, Reps P w K S ds vs → boolsOf ds = some is → vs = is.map V.bl
  | _, _, is, .nil, e => by
    simp only [boolsOf, Option.some.injEq] at e
    subst e
    rfl
  | _, _, is, .cons (ds := ds) a r, e => by
    cases a with
    | bl i =>
      simp only [boolsOf] at e
      cases e2 : boolsOf ds with
      | none => rw [e2] at e; cases e
      | some js =>
        rw [e2] at e
        cases e
        rw [bools_vals r e2]
        rfl
    | _ => simp [boolsOf] at e
/-- a call with one argument -/
theorem one_of {P : Program} {w : World} {K : PySem.W.Frag} {S : Hp} {ds : List D} {vs : List V} {us : List Value} (r : Reps P w K S ds vs) (rv : Vals vs us) {d : D} (e : ds = [d]) : ∃ v u, vs = [v] ∧ us = [u] ∧ RelV v u ∧ Rep P w K S d v := by
  subst e
  cases r with
  | cons a t =>
    cases t
    cases rv with
    | cons b t => cases t; exact ⟨_, _, rfl, rfl, b, a⟩
theorem pr_len : CallR X (.builtin "len") (rPr X .len) := by
  intro pins s σ H vs us Q I r h
  obtain ⟨f, c, S, ds, wf, rr, h⟩ := h
  match ds, h with
  | [.list ds], h =>
    obtain ⟨v, u, rfl, rfl, ru, a⟩ := one_of rr r rfl
    cases a with
    | lst e l q =>
      have h' : PostR X.prog X.w X.K f c S H (.ok (.int ds.length)) Q := h
      exact call_len_seq pins s σ H _ _ Q I (.cons ru .nil) ⟨_, _, rfl, .inl (SqL.of (wf.inn _ _ e)), by rw [← q.length]; exact h'.now wf (.int _)⟩
  | [.tuple ds], h =>
    obtain ⟨v, u, rfl, rfl, ru, a⟩ := one_of rr r rfl
    cases a with
    | tup e l q =>
      have h' : PostR X.prog X.w X.K f c S H (.ok (.int ds.length)) Q := h
      exact call_len_seq pins s σ H _ _ Q I (.cons ru .nil) ⟨_, _, rfl, .inr (SqT.sub wf.inn e), by rw [← q.length]; exact h'.now wf (.int _)⟩
  | [.str z], h =>
    obtain ⟨v, u, rfl, rfl, ru, a⟩ := one_of rr r rfl
    cases a
    have h' : PostR X.prog X.w X.K f c S H (if z.length ≤ LIM then .ok (.int z.length) else .bad) Q := h
    by_cases hl : z.length ≤ LIM
    · rw [if_pos hl] at h'
      exact call_len_str pins s σ H _ _ Q I (.cons ru .nil) ⟨z, rfl, Nat.le_trans hl LIM_le, h'.now wf (.int _)⟩
    · rw [if_neg hl] at h'
      exact h'.elim
  | [], h => exact (show False from h).elim
  | [.none], h => exact (show False from h).elim
  | [.bool _], h => exact (show False from h).elim
  | [.int _], h => exact (show False from h).elim
  | [.dict _], h => exact (show False from h).elim
  | a :: b :: t, h => cases a <;> exact (show False from h).elim
theorem pr_tuple : CallR X (.type "tuple") (rPr X .tuple) := by
  intro pins s σ H vs us Q I r h
  obtain ⟨f, c, S, ds, wf, rr, h⟩ := h
  match ds, h with
  | [.list ds], h =>
    obtain ⟨v, u, rfl, rfl, ru, a⟩ := one_of rr r rfl
    cases a with
    | lst e l q => exact call_tuple_of pins s σ H _ _ Q I (.cons ru .nil) ⟨_, _, rfl, .inl ⟨SqL.of (wf.inn _ _ e), PostR.newT wf h l q⟩⟩
  | [.tuple ds], h =>
    obtain ⟨v, u, rfl, rfl, ru, a⟩ := one_of rr r rfl
    cases a with
    | tup e l q => exact call_tuple_of pins s σ H _ _ Q I (.cons ru .nil) ⟨_, _, rfl, .inr ⟨SqT.sub wf.inn e, PostR.now wf h (.tup e l q)⟩⟩
  | [], h => exact (show False from h).elim
  | [.none], h => exact (show False from h).elim
  | [.bool _], h => exact (show False from h).elim
  | [.int _], h => exact (show False from h).elim
  | [.str _], h => exact (show False from h).elim
  | [.dict _], h => exact (show False from h).elim
  | a :: b :: t, h => cases a <;> exact (show False from h).elim
theorem pr_list : CallR X (.type "list") (rPr X .list) := by
  intro pins s σ H vs us Q I r h
  obtain ⟨f, c, S, ds, wf, rr, h⟩ := h
  match ds, h with
  | [.list ds], h =>
    obtain ⟨v, u, rfl, rfl, ru, a⟩ := one_of rr r rfl
    cases a with
    | lst e l q => exact call_list_of pins s σ H _ _ Q I (.cons ru .nil) ⟨_, _, rfl, .inl (SqL.of (wf.inn _ _ e)), PostR.newL wf h l q⟩
  | [.tuple ds], h =>
    obtain ⟨v, u, rfl, rfl, ru, a⟩ := one_of rr r rfl
    cases a with
    | tup e l q => exact call_list_of pins s σ H _ _ Q I (.cons ru .nil) ⟨_, _, rfl, .inr (SqT.sub wf.inn e), PostR.newL wf h l q⟩
  | [], h => exact (show False from h).elim
  | [.none], h => exact (show False from h).elim
  | [.bool _], h => exact (show False from h).elim
  | [.int _], h => exact (show False from h).elim
  | [.str _], h => exact (show False from h).elim
  | [.dict _], h => exact (show False from h).elim
  | a :: b :: t, h => cases a <;> exact (show False from h).elim
theorem pr_all (hc : X.calm = true) : CallR X (.builtin "all") (rPr X .all) := by
  intro pins s σ H vs us Q I r h
  obtain ⟨f, c, S, ds, wf, rr, h⟩ := h
  match ds, h with
  | [.list ds], h =>
    obtain ⟨v, u, rfl, rfl, ru, a⟩ := one_of rr r rfl
    cases a with
    | lst e l q =>
      have h' : PostR X.prog X.w X.K f c S H (match boolsOf ds with | some bs => .ok (.bool (bs.all id)) | none => .bad) Q := h
      cases e2 : boolsOf ds with
      | none => rw [e2] at h'; exact h'.elim
      | some bs =>
        rw [e2] at h'
        exact cr_all hc pins s σ H _ _ Q I (.cons ru .nil) ⟨_, bs, rfl, by rw [← bools_vals q e2]; exact SqL.of (wf.inn _ _ e), PostR.now wf h' (.bl _)⟩
  | [], h => exact (show False from h).elim
  | [.none], h => exact (show False from h).elim
  | [.bool _], h => exact (show False from h).elim
  | [.int _], h => exact (show False from h).elim
  | [.str _], h => exact (show False from h).elim
  | [.tuple _], h => exact (show False from h).elim
  | [.dict _], h => exact (show False from h).elim
  | a :: b :: t, h => cases a <;> exact (show False from h).elim
theorem pr_any (hc : X.calm = true) : CallR X (.builtin "any") (rPr X .any) := by
  intro pins s σ H vs us Q I r h
  obtain ⟨f, c, S, ds, wf, rr, h⟩ := h
  match ds, h with
  | [.list ds], h =>
    obtain ⟨v, u, rfl, rfl, ru, a⟩ := one_of rr r rfl
    cases a with
    | lst e l q =>
      have h' : PostR X.prog X.w X.K f c S H (match boolsOf ds with | some bs => .ok (.bool (bs.any id)) | none => .bad) Q := h
      cases e2 : boolsOf ds with
      | none => rw [e2] at h'; exact h'.elim
      | some bs =>
        rw [e2] at h'
        exact cr_any hc pins s σ H _ _ Q I (.cons ru .nil) ⟨_, bs, rfl, by rw [← bools_vals q e2]; exact SqL.of (wf.inn _ _ e), PostR.now wf h' (.bl _)⟩
  | [], h => exact (show False from h).elim
  | [.none], h => exact (show False from h).elim
  | [.bool _], h => exact (show False from h).elim
  | [.int _], h => exact (show False from h).elim
  | [.str _], h => exact (show False from h).elim
  | [.tuple _], h => exact (show False from h).elim
  | [.dict _], h => exact (show False from h).elim
  | a :: b :: t, h => cases a <;> exact (show False from h).elim
theorem preSum_getD : ∀ (ns : List Int) (n : Nat), preSum (fun i => ns.getD i 0) n = (ns.take n).sum
  | ns, 0 => by simp [preSum]
  | ns, n + 1 => by
    rw [preSum, preSum_getD ns n, List.take_add_one]
    cases e : ns[n]? with
    | none => simp [List.getD_eq_getElem?_getD, e]
    | some z => simp [List.getD_eq_getElem?_getD, e]
theorem sumT_raw {prog : Program} {w : World} {A : Around} {E : Value → Shared → Prop} {s : Shared} {l : Addr} {its : List Value} {ns : List Int} {Q : Value → Shared → Prop} (hh : A.handled = none) (hl : s.heap.IsTuple l its.toArray) (hi : Vals (ns.map V.int) its)
    (h : ∀ h' tk t', (∀ b o, s.heap.get? b = some o → h'.get? b = some o) → Q (.int ns.sum t') { s with heap := h', toks := tk }) : wpAny (model prog w) A (call (.builtin "sum") [.ref l]) Q E s := by
  have hlt : l < s.heap.objs.size := by obtain ⟨_, e, _⟩ := hl; exact Heap.lt_size e
  have hn : its.length = ns.length := by have := hi.length; rw [List.length_map] at this; exact this.symm
  refine call_sum_walkG (wpAny_pyIter_tuple hl ?_)
  refine ⟨s.heap.objs.size, [s.heap.objs.size, l], [s.heap.objs.size], its.toArray.size, _, _, fun i => ns.getD i 0, rfl, Walks.tuple (A := A.in1) hh _ l (Nat.ne_of_lt hlt) its.toArray, ⟨⟨_, Heap.get?_push_size _ rfl, rfl, rfl⟩, hl.push _⟩, fun b hb => ?_, fun i v e => ?_, fun h' tk t' hk => ?_⟩
  · show b < (s.heap.push _).objs.size
    rw [Heap.size_push]
    rcases List.mem_cons.mp hb with e | hb
    · subst e; exact Nat.lt_succ_self _
    · have e : b = l := by simpa using hb
      subst e
      exact Nat.lt_succ_of_lt hlt
  · have e' : its[i]? = some v := by simpa using e
    have hi' : i < its.length := by
      by_cases z : i < its.length
      · exact z
      · rw [List.getElem?_eq_none (by omega)] at e'; cases e'
    have e3 : (ns.map V.int)[i]? = some (.int (ns.getD i 0)) := by
      rw [List.getElem?_map, List.getElem?_eq_getElem (by omega)]
      simp [List.getD_eq_getElem?_getD, List.getElem?_eq_getElem (show i < ns.length by omega)]
    obtain ⟨u, h1, h2⟩ := hi.get e3
    rw [e'] at h1
    cases h1
    exact h2
  · rw [preSum_getD, List.take_of_length_le (by simp; omega)]
    exact h h' tk t' fun b o e => hk b o (by simp; exact Nat.ne_of_lt (Heap.lt_size e)) (Heap.get?_push_of_some _ e)
theorem pr_sum (hc : X.calm = true) : CallR X (.builtin "sum") (rPr X .sum) := by
  intro pins s σ H vs us Q I r h
  obtain ⟨f, c, S, ds, wf, rr, h⟩ := h
  match ds, h with
  | [.list ds], h =>
    obtain ⟨v, u, rfl, rfl, ru, a⟩ := one_of rr r rfl
    cases a with
    | lst e l q =>
      have h' : PostR X.prog X.w X.K f c S H (match intsOf ds with | some is => .ok (.int is.sum) | none => .bad) Q := h
      cases e2 : intsOf ds with
      | none => rw [e2] at h'; exact h'.elim
      | some bs =>
        rw [e2] at h'
        exact cr_sum hc pins s σ H _ _ Q I (.cons ru .nil) ⟨_, bs, rfl, by rw [← ints_vals q e2]; exact SqL.of (wf.inn _ _ e), PostR.now wf h' (.int _)⟩
  | [.tuple ds], h =>
    obtain ⟨v, u, rfl, rfl, ru, a⟩ := one_of rr r rfl
    cases a with
    | tup e l q =>
      have h' : PostR X.prog X.w X.K f c S H (match intsOf ds with | some is => .ok (.int is.sum) | none => .bad) Q := h
      cases e2 : intsOf ds with
      | none => rw [e2] at h'; exact h'.elim
      | some bs =>
        rw [e2] at h'
        obtain ⟨its, rv, p, hz⟩ := I.tuple (SqT.sub wf.inn e)
        cases (show u = Value.ref _ from ru)
        rw [ints_vals q e2] at rv
        exact sumT_raw (I.ok.hd hc) p rv fun h'' tk t' hk => ⟨.int _, H, I.kept hk, ⟨_, rfl⟩, PostR.now wf h' (.int _)⟩
  | [], h => exact (show False from h).elim
  | [.none], h => exact (show False from h).elim
  | [.bool _], h => exact (show False from h).elim
  | [.int _], h => exact (show False from h).elim
  | [.str _], h => exact (show False from h).elim
  | [.dict _], h => exact (show False from h).elim
  | a :: b :: t, h => cases a <;> exact (show False from h).elim
theorem minD_mem : ∀ (r : List D) (d : D), PySem.W.minD d r ∈ d :: r
  | [], d => List.mem_cons_self ..
  | x :: r, d => by
    have h := minD_mem r (if PySem.W.dataLt x d then x else d)
    have e : PySem.W.minD d (x :: r) = PySem.W.minD (if PySem.W.dataLt x d then x else d) r := rfl
    rw [e]
    rcases List.mem_cons.mp h with h | h
    · rw [h]
      split
      · exact List.mem_cons_of_mem _ (List.mem_cons_self ..)
      · exact List.mem_cons_self ..
    · exact List.mem_cons_of_mem _ (List.mem_cons_of_mem _ h)
theorem maxD_mem : ∀ (r : List D) (d : D), PySem.W.maxD d r ∈ d :: r
  | [], d => List.mem_cons_self ..
  | x :: r, d => by
    have h := maxD_mem r (if PySem.W.dataLt d x then x else d)
    have e : PySem.W.maxD d (x :: r) = PySem.W.maxD (if PySem.W.dataLt d x then x else d) r := rfl
    rw [e]
    rcases List.mem_cons.mp h with h | h
    · rw [h]
      split
      · exact List.mem_cons_of_mem _ (List.mem_cons_self ..)
      · exact List.mem_cons_self ..
    · exact List.mem_cons_of_mem _ (List.mem_cons_of_mem _ h)
theorem minD_ints : ∀ (is : List Int) (i : Int), PySem.W.minD (.int i) (is.map .int) = .int (minI i is)
  | [], i => rfl
  | j :: r, i => by
    have e : PySem.W.minD (.int i) ((j :: r).map .int) = PySem.W.minD (if PySem.W.dataLt (.int j) (.int i) then .int j else .int i) (r.map .int) := rfl
    rw [e, PySem.W.dataLt_int, minI]
    by_cases h : j < i
    · rw [decide_eq_true h, if_pos rfl, if_pos h, minD_ints r j]
    · rw [decide_eq_false h, if_neg Bool.false_ne_true, if_neg h, minD_ints r i]
theorem maxD_ints : ∀ (is : List Int) (i : Int), PySem.W.maxD (.int i) (is.map .int) = .int (maxI i is)
  | [], i => rfl
  | j :: r, i => by
    have e : PySem.W.maxD (.int i) ((j :: r).map .int) = PySem.W.maxD (if PySem.W.dataLt (.int i) (.int j) then .int j else .int i) (r.map .int) := rfl
    rw [e, PySem.W.dataLt_int, maxI]
    by_cases h : i < j
    · rw [decide_eq_true h, if_pos rfl, if_pos h, maxD_ints r j]
    · rw [decide_eq_false h, if_neg Bool.false_ne_true, if_neg h, maxD_ints r i]
theorem intsOf_map : ∀ {ds : List D} {is : List Int}, intsOf ds = some is → ds = is.map .int
  | [], is, e => by
    simp only [intsOf, Option.some.injEq] at e
    subst e
    rfl
  | d :: ds, is, e => by
    cases d with
    | int i =>
      simp only [intsOf] at e
      cases e2 : intsOf ds with
      | none => rw [e2] at e; cases e
      | some js =>
        rw [e2] at e
        cases e
        rw [intsOf_map e2]
        rfl
    | _ => simp [intsOf] at e
theorem alike_ints' (is : List Int) : PySem.W.AlikeAll (is.map PyData.int) := by
  refine ⟨fun x hx y hy => ?_, fun x hx => ?_⟩
  · obtain ⟨a, _, rfl⟩ := List.mem_map.mp hx
    obtain ⟨b, _, rfl⟩ := List.mem_map.mp hy
    simp only [PySem.W.alike]
  · obtain ⟨a, _, rfl⟩ := List.mem_map.mp hx
    exact fun z => by cases z
theorem lay_ints (is : List Int) : PyData.canLayAll0 (is.map PyData.int) = true := by
  induction is with
  | nil => rfl
  | cons a r ih => simp [PyData.canLayAll0, PyData.canLay0, ih]
theorem depth_all_le {n : Nat} : ∀ {ds : List D}, (∀ d ∈ ds, d.depth ≤ n) → PyData.depthAll ds ≤ n
  | [], _ => by simp [PyData.depthAll]
  | d :: r, h => by
    have h1 := h d (List.mem_cons_self ..)
    have h2 := depth_all_le (ds := r) fun x hx => h x (List.mem_cons_of_mem _ hx)
    simp only [PyData.depthAll]
    omega
theorem layAll_of : ∀ {ds : List D}, (∀ d ∈ ds, PyData.canLay0 d = true) → PyData.canLayAll0 ds = true
  | [], _ => rfl
  | d :: r, h => by
    simp only [PyData.canLayAll0, Bool.and_eq_true]
    exact ⟨h d (List.mem_cons_self ..), layAll_of fun x hx => h x (List.mem_cons_of_mem _ hx)⟩
/-- what min says of its items -/
theorem minsD_ok {ds : List D} {m : D} (h : minsD ds = .ok m) : ∃ d r, ds = d :: r ∧ m = PySem.W.minD d r ∧ PySem.W.AlikeAll ds ∧ PyData.canLayAll0 ds = true ∧ PyData.depthAll ds ≤ 40 := by
  cases ds with
  | nil => cases h
  | cons d r =>
    unfold minsD at h
    simp only at h
    refine ⟨d, r, rfl, ?_⟩
    cases e : intsOf (d :: r) with
    | some is =>
      cases is with
      | nil => have := intsOf_map e; cases this
      | cons i is =>
        rw [e] at h
        simp only at h
        cases h
        have em := intsOf_map e
        rw [List.map_cons] at em
        injection em with e1 e2
        subst e1
        subst e2
        refine ⟨(minD_ints is i).symm, ?_, ?_, ?_⟩
        · exact alike_ints' (i :: is)
        · exact lay_ints (i :: is)
        · refine Nat.le_trans (depth_all_le (n := 0) fun x hx => ?_) (Nat.zero_le _)
          rcases List.mem_cons.mp hx with rfl | hx
          · exact Nat.le_refl _
          · obtain ⟨a, _, rfl⟩ := List.mem_map.mp hx
            exact Nat.le_refl _
    | none =>
      rw [e] at h
      simp only at h
      split at h
      · rename_i hb
        cases h
        rw [Bool.and_eq_true] at hb
        obtain ⟨h1, h2⟩ := hb
        have so := sortable_of h1
        rw [List.map_id] at so
        rw [List.all_eq_true] at h2
        refine ⟨rfl, ⟨fun x hx y hy => so.1 x hx y hy, fun x hx z => ?_⟩, layAll_of fun x hx => (so.2.2 x hx).2, depth_all_le fun x hx => (so.2.2 x hx).1⟩
        have := h2 x hx
        rw [z] at this
        cases this
      · cases h
theorem maxsD_ok {ds : List D} {m : D} (h : maxsD ds = .ok m) : ∃ d r, ds = d :: r ∧ m = PySem.W.maxD d r ∧ PySem.W.AlikeAll ds ∧ PyData.canLayAll0 ds = true ∧ PyData.depthAll ds ≤ 40 := by
  unfold maxsD at h
  cases e : intsOf ds with
  | none => rw [e] at h; cases h
  | some is =>
    cases is with
    | nil => rw [e] at h; cases h
    | cons i is =>
      rw [e] at h
      cases h
      have em := intsOf_map e
      rw [List.map_cons] at em
      subst em
      refine ⟨_, _, rfl, (maxD_ints is i).symm, alike_ints' (i :: is), lay_ints (i :: is), ?_⟩
      refine Nat.le_trans (depth_all_le (n := 0) fun x hx => ?_) (Nat.zero_le _)
      rcases List.mem_cons.mp hx with rfl | hx
      · exact Nat.le_refl _
      · obtain ⟨a, _, rfl⟩ := List.mem_map.mp hx
        exact Nat.le_refl _
/-- the item that was found stands for the datum that was found -/
theorem found_item {pins : List (Addr × Obj)} {σ : L2.St} {S H : Hp} {s : Shared} (I : Inv X pins σ H s) (hS : Sub S H) {ds : List D} {vs : List V} {its : List Value} {i : Nat} {u : Value} {m : D} {h' : Heap} {bs : List Addr} (q : Reps X.prog X.w X.K S ds vs) (rv : Vals vs its)
    (hl : PyData.canLayAll0 ds = true) (ha : PySem.W.AlikeAll ds) (hm : m ∈ ds) (hi : its[i]? = some u) (hr : Reads h' u m bs) (hk : ∀ b o, s.heap.get? b = some o → h'.get? b = some o) : ∃ v, RelV v u ∧ Rep X.prog X.w X.K S m v := by
  have hlen : i < ds.length := by
    have e1 := q.length
    have e2 := rv.length
    by_cases z : i < its.length
    · omega
    · rw [List.getElem?_eq_none (by omega)] at hi; cases hi
  obtain ⟨v, hv, rp⟩ := q.get (List.getElem?_eq_getElem hlen)
  obtain ⟨u', hu', ru⟩ := rv.get hv
  rw [hi] at hu'
  cases hu'
  have hmem : ds[i] ∈ ds := List.getElem_mem hlen
  have lay : PyData.canLay0 ds[i] = true := by
    have all : ∀ {l : List D}, PyData.canLayAll0 l = true → ∀ x ∈ l, PyData.canLay0 x = true := by
      intro l
      induction l with
      | nil => intro _ x hx; cases hx
      | cons a r ih =>
        intro h x hx
        simp only [PyData.canLayAll0, Bool.and_eq_true] at h
        rcases List.mem_cons.mp hx with rfl | hx
        · exact h.1
        · exact ih h.2 x hx
    exact all hl _ hmem
  obtain ⟨as, r1⟩ := Dp.reads I _ _ _ ((rp.sub hS).dp lay) ru
  have e := PySem.W.alike_unique _ _ _ _ _ (ha.1 _ hmem _ hm) (PyProof.Rows.Reads.keeps hk r1) hr
  rw [← e]
  exact ⟨v, ru, rp⟩
theorem pr_min1 {k : Nat} (hr : Room k X.A) (hc : X.calm = true) : CallR X (.builtin "min") (rPr X .min1) := by
  intro pins s σ H vs us Q I r h
  obtain ⟨f, c, S, ds, wf, rr, h⟩ := h
  have hu : X.A.units + 200 < cLine := by have := hr.un; omega
  match ds, h with
  | [.list ds], h =>
    obtain ⟨v, u, rfl, rfl, ru, a⟩ := one_of rr r rfl
    cases a with
    | lst e l q =>
      have h' : PostR X.prog X.w X.K f c S H (minsD ds) Q := h
      cases e2 : minsD ds with
      | ok m =>
        rw [e2] at h'
        obtain ⟨d, r', rfl, rfl, ha, hl, hd⟩ := minsD_ok e2
        obtain ⟨its, rv, p, hz⟩ := I.list (SqL.of (wf.inn _ _ e))
        obtain ⟨as, hread⟩ := Dp.readsAll I _ _ its ((q.sub wf.inn).dp hl) rv
        cases (show u = Value.ref _ from ru)
        refine PySem.W.min_list_data (I.ok.hd hc) p.isList (by simpa using hread) ha (by omega) fun i v h'' tk bs hi hread' hk => ?_
        obtain ⟨vv, r1, r2⟩ := found_item I wf.inn q rv hl ha (minD_mem r' d) (by simpa using hi) hread' hk
        exact ⟨vv, H, I.kept hk, r1, PostR.now wf h' r2⟩
      | exn k c0 => rw [e2] at h'; exact h'.elim
      | bad => rw [e2] at h'; exact h'.elim
  | [.tuple ds], h =>
    obtain ⟨v, u, rfl, rfl, ru, a⟩ := one_of rr r rfl
    cases a with
    | tup e l q =>
      have h' : PostR X.prog X.w X.K f c S H (minsD ds) Q := h
      cases e2 : minsD ds with
      | ok m =>
        rw [e2] at h'
        obtain ⟨d, r', rfl, rfl, ha, hl, hd⟩ := minsD_ok e2
        obtain ⟨its, rv, p, hz⟩ := I.tuple (SqT.sub wf.inn e)
        obtain ⟨as, hread⟩ := Dp.readsAll I _ _ its ((q.sub wf.inn).dp hl) rv
        cases (show u = Value.ref _ from ru)
        refine PySem.W.min_tuple_data (I.ok.hd hc) p (by simpa using hread) ha (by omega) fun i v h'' tk bs hi hread' hk => ?_
        obtain ⟨vv, r1, r2⟩ := found_item I wf.inn q rv hl ha (minD_mem r' d) (by simpa using hi) hread' hk
        exact ⟨vv, H, I.kept hk, r1, PostR.now wf h' r2⟩
      | exn k c0 => rw [e2] at h'; exact h'.elim
      | bad => rw [e2] at h'; exact h'.elim
  | [], h => exact (show False from h).elim
  | [.none], h => exact (show False from h).elim
  | [.bool _], h => exact (show False from h).elim
  | [.int _], h => exact (show False from h).elim
  | [.str _], h => exact (show False from h).elim
  | [.dict _], h => exact (show False from h).elim
  | a :: b :: t, h => cases a <;> exact (show False from h).elim
theorem pr_max1 {k : Nat} (hr : Room k X.A) (hc : X.calm = true) : CallR X (.builtin "max") (rPr X .max1) := by
  intro pins s σ H vs us Q I r h
  obtain ⟨f, c, S, ds, wf, rr, h⟩ := h
  have hu : X.A.units + 200 < cLine := by have := hr.un; omega
  match ds, h with
  | [.list ds], h =>
    obtain ⟨v, u, rfl, rfl, ru, a⟩ := one_of rr r rfl
    cases a with
    | lst e l q =>
      have h' : PostR X.prog X.w X.K f c S H (maxsD ds) Q := h
      cases e2 : maxsD ds with
      | ok m =>
        rw [e2] at h'
        obtain ⟨d, r', rfl, rfl, ha, hl, hd⟩ := maxsD_ok e2
        obtain ⟨its, rv, p, hz⟩ := I.list (SqL.of (wf.inn _ _ e))
        obtain ⟨as, hread⟩ := Dp.readsAll I _ _ its ((q.sub wf.inn).dp hl) rv
        cases (show u = Value.ref _ from ru)
        refine PySem.W.max_list_data (I.ok.hd hc) p.isList (by simpa using hread) ha (by omega) fun i v h'' tk bs hi hread' hk => ?_
        obtain ⟨vv, r1, r2⟩ := found_item I wf.inn q rv hl ha (maxD_mem r' d) (by simpa using hi) hread' hk
        exact ⟨vv, H, I.kept hk, r1, PostR.now wf h' r2⟩
      | exn k c0 => rw [e2] at h'; exact h'.elim
      | bad => rw [e2] at h'; exact h'.elim
  | [.tuple ds], h =>
    obtain ⟨v, u, rfl, rfl, ru, a⟩ := one_of rr r rfl
    cases a with
    | tup e l q =>
      have h' : PostR X.prog X.w X.K f c S H (maxsD ds) Q := h
      cases e2 : maxsD ds with
      | ok m =>
        rw [e2] at h'
        obtain ⟨d, r', rfl, rfl, ha, hl, hd⟩ := maxsD_ok e2
        obtain ⟨its, rv, p, hz⟩ := I.tuple (SqT.sub wf.inn e)
        obtain ⟨as, hread⟩ := Dp.readsAll I _ _ its ((q.sub wf.inn).dp hl) rv
        cases (show u = Value.ref _ from ru)
        refine PySem.W.max_tuple_data (I.ok.hd hc) p (by simpa using hread) ha (by omega) fun i v h'' tk bs hi hread' hk => ?_
        obtain ⟨vv, r1, r2⟩ := found_item I wf.inn q rv hl ha (maxD_mem r' d) (by simpa using hi) hread' hk
        exact ⟨vv, H, I.kept hk, r1, PostR.now wf h' r2⟩
      | exn k c0 => rw [e2] at h'; exact h'.elim
      | bad => rw [e2] at h'; exact h'.elim
  | [], h => exact (show False from h).elim
  | [.none], h => exact (show False from h).elim
  | [.bool _], h => exact (show False from h).elim
  | [.int _], h => exact (show False from h).elim
  | [.str _], h => exact (show False from h).elim
  | [.dict _], h => exact (show False from h).elim
  | a :: b :: t, h => cases a <;> exact (show False from h).elim
end
end LG

/-! LgF: calls, targets, walks, comprehensions. -/
namespace LG
open PySem PySem.Spec PyProof.Rows L2

section
variable {X : Cx} {C : Cn}
/-! ### calls -/
theorem backTo_false {pos : Pos} {env : Env} : ∀ {es : List Expr}, (∀ e ∈ es, NoStar e) → (backTo pos (starEach es env)).any (·.1) = false
  | [], _ => rfl
  | e :: es, h => by
    rw [h e (List.mem_cons_self ..) es env]
    show (false || (backTo pos (starEach es env)).any (·.1)) = false
    rw [backTo_false fun x hx => h x (List.mem_cons_of_mem _ hx)]
    rfl
theorem tPr_of {p : Pr} {xs : Exs} {σ : L2.St} {H : Hp} {Q : VK} (h : tE X C (.prim p xs) σ H Q) : tCB (rPr X p) (tAs X C xs) σ H Q := by
  obtain ⟨f, c, S, env, rel, post⟩ := h
  rw [evE] at post
  exact ⟨f, c, S, env, rel, post.thn rel.wf fun ds c1 S1 H1 vs _ g1 r1 post1 => ⟨f, c1, S1, ds, (rel.gr g1).wf, r1, .of post1⟩⟩
theorem se_prB {p : Pr} {xs : Exs} {x : Str} {pp pos : Pos} {e : Expr} {es : List Expr} {id : String} (hc : CallR X (.builtin id) (rPr X p)) (hg : Gl X x) (hm : X.mg x = none) (hv : bootBuiltins x = some (.builtin id)) (ha : PA X (e :: es) (tAs X C xs))
    (hs : ∀ y ∈ e :: es, NoStar y) (hn : x ≠ "__name__") (hdb : (x == ("__debug__" : Str)) = false) : SE X C (.prim p xs) (.Call (.Name x pp) (e :: es) [] pos) :=
  se_val ((pe_callB hc hg hm hv ha hn hdb (hs e (List.mem_cons_self ..) _ _) (backTo_false fun y hy => hs y (List.mem_cons_of_mem _ hy))).lgi fun σ H Q q => tPr_of q)
theorem se_prT {p : Pr} {xs : Exs} {x : Str} {pp pos : Pos} {e : Expr} {es : List Expr} {T : String} (hc : CallR X (.type T) (rPr X p)) (hg : Gl X x) (hm : X.mg x = none) (hv : bootBuiltins x = some (.type T)) (ha : PA X (e :: es) (tAs X C xs))
    (hs : ∀ y ∈ e :: es, NoStar y) (hn : x ≠ "__name__") (hdb : (x == ("__debug__" : Str)) = false) : SE X C (.prim p xs) (.Call (.Name x pp) (e :: es) [] pos) :=
  se_val ((pe_callTy hc hg hm hv ha hn hdb (hs e (List.mem_cons_self ..) _ _) (backTo_false fun y hy => hs y (List.mem_cons_of_mem _ hy))).lgi fun σ H Q q => tPr_of q)
/-! isinstance -/
def tyName : Ty → String
  | .int => "int"
  | .bool => "bool"
  | .tuple => "tuple"
  | .str => "str"
def dName : D → String
  | .none => "NoneType"
  | .bool _ => "bool"
  | .int _ => "int"
  | .str _ => "str"
  | .list _ => "list"
  | .tuple _ => "tuple"
  | .dict _ => "dict"
theorem isi_kit {t : Ty} {d : D} {b : Bool} (h : isiD t d = .ok b) : kitB (dName d) (tyName t) = some b := by
  cases t <;> cases d <;> first
    | (cases h; show kitB _ _ = _; simp only [dName, tyName]; decide +kernel)
    | cases h
theorem rep_ty {S H : Hp} (hS : Sub S H) {d : D} {v : V} (r : Rep X.prog X.w X.K S d v) (hd : ∀ kvs, d ≠ .dict kvs) : TyX X.K H v (.type (dName d)) := by
  cases r with
  | non => exact .base .non
  | bl b => exact .base (.bl b)
  | int i => exact .base (.int i)
  | str x => exact .base (.str x)
  | lst e l q => exact .base (.lst (hS _ _ e))
  | tup e l q =>
    rcases e with (e | ⟨o, e⟩) | ⟨o, its, n, e1, e2, _⟩
    · exact .base (.tup (hS _ _ e))
    · exact .fTuple (hS _ _ e)
    · exact .kTuple e1 e2
  | dic => exact absurd rfl (hd _)
theorem boot_ty (t : Ty) : bootBuiltins (tyName t) = some (.type (tyName t)) := by
  cases t
  · exact PyProof.Rows.boot_int
  · exact PyProof.Rows.boot_bool
  · exact PyProof.Rows.boot_tuple
  · exact PyProof.Rows.boot_str
theorem tyName_ok (t : Ty) : ((tyName t : Str) ≠ "__name__") ∧ ((tyName t : Str) == ("__debug__" : Str)) = false := by
  cases t <;> exact ⟨by decide, by decide⟩
theorem se_isi {t : Ty} {a : Expr} {xa : Ex} {pp p2 pos : Pos} (ha : SE X C xa a) (hs : NoStar a) (hg : Gl X "isinstance") (hm : X.mg "isinstance" = none) (hg2 : Gl X (tyName t)) (hm2 : X.mg (tyName t) = none) :
    SE X C (.isi t xa) (.Call (.Name "isinstance" pp) [a, .Name (tyName t) p2] [] pos) := by
  have hb : PE X (.Name (tyName t) p2) (tC (.ty (tyName t))) := pe_bltn hg2 hm2 (boot_ty t) rfl (tyName_ok t).1 (tyName_ok t).2
  refine se_val ((pe_callB call_isi hg hm boot_isinstance (pa_cons ha.pe (pa_cons hb pa_nil) (hs _ _)) (by decide) (by decide) (hs _ _) rfl).lgi fun σ H Q q => ?_)
  obtain ⟨f, c, S, env, rel, post⟩ := q
  rw [evE] at post
  refine ⟨f, c, S, env, rel, post.thn rel.wf fun d c1 S1 H1 v _ g1 r1 post1 => ?_⟩
  cases e : isiD t d with
  | ok b =>
    rw [e] at post1
    have hd : ∀ kvs, d ≠ .dict kvs := fun kvs z => by subst z; cases t <;> cases e
    exact ⟨v, .ty (tyName t), .type (dName d), .type (tyName t), b, rfl, .ty _, rep_ty (rel.gr g1).wf.inn r1 hd, kit_ty (isi_kit e), post1 _ _ _ (rel.gr g1).wf.refl (.bl _)⟩
  | exn k c0 => rw [e] at post1; exact (show False from post1).elim
  | bad => rw [e] at post1; exact (show False from post1).elim

/-! ### what a def of the text promises -/
/-- the number of an exception's class, and its value -/
abbrev EV := Bool × (Nat → Value)
/-- tw: its first two arguments are the script and the list of draws -/
def spF (P : Program) (w : World) (K : PySem.W.Frag) (ex : EV) (tw : Bool) (n : Nat) (F : List Int → List D → Nat → R (D × Nat)) : Sp := fun vs H Q E => ∃ (f : Fm) (c : Nat) (S : Hp) (ds : List D) (us : List V), f.wf K c S H ∧ Reps P w K S ds us ∧ ds.length = n ∧
  vs = (if tw then [.ref f.scr, .ref f.T] else []) ++ us ∧ Post f (fun k H' => ex.1 = true ∧ E (ex.2 k) none H') (Rep P w K) S H (F f.ns ds c) Q
def ex0 : EV := (false, fun _ => .none)
/-- a def that a text may call -/
structure CalOk (X : Cx) (ex : EV) (k : Nat) (CX : CXT) (x : Str) (c : Callee) (n : Nat) : Prop where
  ok : ∃ f fd ps, X.mg x = some (.ref f) ∧ PySem.W.keepIn X.K (.ref f) = true ∧ Binds X.K fd ps [] ∧ FnOk X.prog X.w X.K X.mg X.base CX k f fd ps (spF X.prog X.w X.K ex c.tw n c.F)
theorem se_call {i n k : Nat} {xs : Exs} {x : Str} {pp pos : Pos} {e : Expr} {es : List Expr} {cl : Callee} {ex : EV} (hW : ∀ k σ H, ¬ C.W k σ H) (hf : C.Φ[i]? = some cl) (htw : cl.tw = false) (G : CalOk X ex k CX0 x cl n) (hn : ∀ ns ds c r, cl.F ns ds c = r → r ≠ .bad → ds.length = n)
    (hr : Room k X.A) (hg : Gl X x) (ha : PA X (e :: es) (tAs X C xs)) (hs : ∀ y ∈ e :: es, NoStar y) (hdb : (x == ("__debug__" : Str)) = false) : SE X C (.call i xs) (.Call (.Name x pp) (e :: es) [] pos) := by
  obtain ⟨f', fd, ps, hm, hk, hb, F⟩ := G.ok
  refine se_val ((pe_call (dvs := []) F hr hg hm hk hb .nil pass0 ha hdb (hs e (List.mem_cons_self ..) _ _) (backTo_false fun y hy => hs y (List.mem_cons_of_mem _ hy))).lgi fun σ H Q q => ?_)
  obtain ⟨f, c, S, env, rel, post⟩ := q
  rw [evE] at post
  refine ⟨f, c, S, env, rel, post.thn rel.wf fun ds c1 S1 H1 vs _ g1 r1 post1 => ?_⟩
  rw [hf] at post1
  simp only [htw] at post1
  have post2 : Post f (fun k H' => C.W k σ H') (Rep X.prog X.w X.K) S1 H1 (cl.F f.ns ds c1) Q := post1
  rw [List.append_nil]
  have hne : cl.F f.ns ds c1 ≠ .bad := fun z => by rw [z] at post2; exact post2
  refine ⟨f, c1, S1, ds, vs, (rel.gr g1).wf, r1, hn _ _ _ _ rfl hne, by rw [htw]; rfl, ?_⟩
  match hF : cl.F f.ns ds c1 with
  | .ok (d, c2) => rw [hF] at post2; exact post2
  | .exn k c0 => rw [hF] at post2; exact fun S' H' g => (hW _ _ _ (post2 S' H' g)).elim
  | .bad => rw [hF] at post2; exact post2
theorem se_callT {i n k : Nat} {xs : Exs} {x a0 a1 : Str} {pp p0 p1 pos : Pos} {es : List Expr} {cl : Callee} {ex : EV} (hW : ∀ k σ H, ¬ C.W k σ H) (hf : C.Φ[i]? = some cl) (htw : cl.tw = true) (G : CalOk X ex k CX0 x cl n) (hn : ∀ ns ds c r, cl.F ns ds c = r → r ≠ .bad → ds.length = n)
    (hr : Room k X.A) (hg : Gl X x) (h0 : PE X (.Name a0 p0) (tVar 0)) (h1 : PE X (.Name a1 p1) (tVar 1)) (ha : PA X es (tAs X C xs)) (hs : ∀ y ∈ es, NoStar y) (hdb : (x == ("__debug__" : Str)) = false) :
    SE X C (.callT i xs) (.Call (.Name x pp) (.Name a0 p0 :: .Name a1 p1 :: es) [] pos) := by
  obtain ⟨f', fd, ps, hm, hk, hb, F⟩ := G.ok
  have ns0 : NoStar (.Name a0 p0) := fun _ _ => rfl
  have ns1 : NoStar (.Name a1 p1) := fun _ _ => rfl
  refine se_val ((pe_call (dvs := []) F hr hg hm hk hb .nil pass0 (pa_cons h0 (pa_cons h1 ha (ns1 _ _)) (ns0 _ _)) hdb (ns0 _ _) (backTo_false fun y hy => ?_)).lgi fun σ H Q q => ?_)
  · rcases List.mem_cons.mp hy with rfl | hy
    · exact ns1
    · exact hs y hy
  obtain ⟨f, c, S, env, rel, post⟩ := q
  rw [evE] at post
  cases e0 : env[0]? with
  | none => rw [e0] at post; exact (show False from post).elim
  | some s0 =>
    rw [e0] at post
    cases s0 with
    | scr =>
      cases e1 : env[1]? with
      | none => rw [e1] at post; exact (show False from post).elim
      | some s1 =>
        rw [e1] at post
        cases s1 with
        | town =>
          refine ⟨_, rel.scr 0 e0, _, rel.twn 1 e1, f, c, S, env, rel, post.thn rel.wf fun ds c1 S1 H1 vs _ g1 r1 post1 => ?_⟩
          rw [hf] at post1
          simp only [htw] at post1
          have post2 : Post f (fun k H' => C.W k σ H') (Rep X.prog X.w X.K) S1 H1 (cl.F f.ns ds c1) Q := post1
          show spF X.prog X.w X.K ex cl.tw n cl.F ((V.ref f.scr :: V.ref f.T :: vs) ++ []) H1 Q E0
          rw [List.append_nil]
          have hne : cl.F f.ns ds c1 ≠ .bad := fun z => by rw [z] at post2; exact post2
          refine ⟨f, c1, S1, ds, vs, (rel.gr g1).wf, r1, hn _ _ _ _ rfl hne, by rw [htw]; rfl, ?_⟩
          match hF : cl.F f.ns ds c1 with
          | .ok (d, c2) => rw [hF] at post2; exact post2
          | .exn k c0 => rw [hF] at post2; exact fun S' H' g => (hW _ _ _ (post2 S' H' g)).elim
          | .bad => rw [hF] at post2; exact post2
        | _ => exact (show False from post).elim
    | _ => exact (show False from post).elim

/-! ### calls of defs that may raise -/
theorem se_callX {i n k : Nat} {xs : Exs} {x : Str} {pp pos : Pos} {e : Expr} {es : List Expr} {cl : Callee} {ex : EV} {W0 : WX} (tk : Takes X W0) (hW : ∀ k σ H, C.W k σ H → W0 (ex.2 k) none σ H) (hon : ex.1 = true) (hf : C.Φ[i]? = some cl) (htw : cl.tw = false) (G : CalOk X ex k (L2.CX X.prog X.w) x cl n) (hn : ∀ ns ds c r, cl.F ns ds c = r → r ≠ .bad → ds.length = n)
    (hr : Room k X.A) (hg : Gl X x) (ha : PA X (e :: es) (tAs X C xs)) (hs : ∀ y ∈ e :: es, NoStar y) (hdb : (x == ("__debug__" : Str)) = false) : SE X C (.call i xs) (.Call (.Name x pp) (e :: es) [] pos) := by
  obtain ⟨f', fd, ps, hm, hk, hb, F⟩ := G.ok
  refine se_val ((pe_callS F hr hg hm hk hb (fun σ => passAt tk σ) ha hdb (hs e (List.mem_cons_self ..) _ _) (backTo_false fun y hy => hs y (List.mem_cons_of_mem _ hy))).lgi fun σ H Q q => ?_)
  obtain ⟨f, c, S, env, rel, post⟩ := q
  rw [evE] at post
  refine ⟨f, c, S, env, rel, post.thn rel.wf fun ds c1 S1 H1 vs _ g1 r1 post1 => ?_⟩
  rw [hf] at post1
  simp only [htw] at post1
  have post2 : Post f (fun k H' => C.W k σ H') (Rep X.prog X.w X.K) S1 H1 (cl.F f.ns ds c1) Q := post1
  have hne : cl.F f.ns ds c1 ≠ .bad := fun z => by rw [z] at post2; exact post2
  refine ⟨f, c1, S1, ds, vs, (rel.gr g1).wf, r1, hn _ _ _ _ rfl hne, by rw [htw]; rfl, ?_⟩
  match hF : cl.F f.ns ds c1 with
  | .ok (d, c2) => rw [hF] at post2; exact post2
  | .exn k c2 => rw [hF] at post2; exact fun S' H' g => ⟨hon, hW _ _ _ (post2 S' H' g)⟩
  | .bad => rw [hF] at post2; exact post2
theorem se_callTX {i n k : Nat} {xs : Exs} {x a0 a1 : Str} {pp p0 p1 pos : Pos} {es : List Expr} {cl : Callee} {ex : EV} {W0 : WX} (tk : Takes X W0) (hW : ∀ k σ H, C.W k σ H → W0 (ex.2 k) none σ H) (hon : ex.1 = true) (hf : C.Φ[i]? = some cl) (htw : cl.tw = true) (G : CalOk X ex k (L2.CX X.prog X.w) x cl n) (hn : ∀ ns ds c r, cl.F ns ds c = r → r ≠ .bad → ds.length = n)
    (hr : Room k X.A) (hg : Gl X x) (h0 : PE X (.Name a0 p0) (tVar 0)) (h1 : PE X (.Name a1 p1) (tVar 1)) (ha : PA X es (tAs X C xs)) (hs : ∀ y ∈ es, NoStar y) (hdb : (x == ("__debug__" : Str)) = false) :
    SE X C (.callT i xs) (.Call (.Name x pp) (.Name a0 p0 :: .Name a1 p1 :: es) [] pos) := by
  obtain ⟨f', fd, ps, hm, hk, hb, F⟩ := G.ok
  have ns0 : NoStar (.Name a0 p0) := fun _ _ => rfl
  have ns1 : NoStar (.Name a1 p1) := fun _ _ => rfl
  refine se_val ((pe_callS F hr hg hm hk hb (fun σ => passAt tk σ) (pa_cons h0 (pa_cons h1 ha (ns1 _ _)) (ns0 _ _)) hdb (ns0 _ _) (backTo_false fun y hy => ?_)).lgi fun σ H Q q => ?_)
  · rcases List.mem_cons.mp hy with rfl | hy
    · exact ns1
    · exact hs y hy
  obtain ⟨f, c, S, env, rel, post⟩ := q
  rw [evE] at post
  cases e0 : env[0]? with
  | none => rw [e0] at post; exact (show False from post).elim
  | some s0 =>
    rw [e0] at post
    cases s0 with
    | scr =>
      cases e1 : env[1]? with
      | none => rw [e1] at post; exact (show False from post).elim
      | some s1 =>
        rw [e1] at post
        cases s1 with
        | town =>
          refine ⟨_, rel.scr 0 e0, _, rel.twn 1 e1, f, c, S, env, rel, post.thn rel.wf fun ds c1 S1 H1 vs _ g1 r1 post1 => ?_⟩
          rw [hf] at post1
          simp only [htw] at post1
          have post2 : Post f (fun k H' => C.W k σ H') (Rep X.prog X.w X.K) S1 H1 (cl.F f.ns ds c1) Q := post1
          show spF X.prog X.w X.K ex cl.tw n cl.F (V.ref f.scr :: V.ref f.T :: vs) H1 Q (WE W0 σ)
          have hne : cl.F f.ns ds c1 ≠ .bad := fun z => by rw [z] at post2; exact post2
          refine ⟨f, c1, S1, ds, vs, (rel.gr g1).wf, r1, hn _ _ _ _ rfl hne, by rw [htw]; rfl, ?_⟩
          match hF : cl.F f.ns ds c1 with
          | .ok (d, c2) => rw [hF] at post2; exact post2
          | .exn k c2 => rw [hF] at post2; exact fun S' H' g => ⟨hon, hW _ _ _ (post2 S' H' g)⟩
          | .bad => rw [hF] at post2; exact post2
        | _ => exact (show False from post).elim
    | _ => exact (show False from post).elim

/-! ### containers of the frame's own, read in place -/
theorem se_inO {neg : Bool} {i k : Nat} {a : Expr} {xa : Ex} {y : Str} {p pos : Pos} (hr : Room k X.A) (ha : SE X C xa a) (hy : PE X (.Name y p) (tVar i)) : SE X C (.inO neg xa i) (.Compare a [if neg then .NotIn else .In] [.Name y p] pos) := by
  have key : ∀ σ H Q, tE X C (.inO neg xa i) σ H Q → tOp (rB2 X (cmpB (if neg then .notin else .isin))) (tE X C xa) (tVar i) σ H Q := fun σ H Q q => by
    obtain ⟨f, c, S, env, rel, post⟩ := q
    rw [evE] at post
    refine ⟨f, c, S, env, rel, post.thn rel.wf fun u c1 S1 H1 v1 _ g1 r1 post1 => ?_⟩
    have rel1 := rel.gr g1
    cases e0 : env[i]? with
    | none => simp only [e0] at post1; exact (show False from post1).elim
    | some s0 =>
      cases s0 with
      | own d =>
          simp only [e0] at post1
          obtain ⟨b, h1, h2, h3, h4, h5⟩ := rel1.own i d e0
          refine ⟨_, h1, ?_⟩
          have pr := PostR.of (P := X.prog) (w := X.w) (K := X.K) post1
          cases e : cmpB (if neg then .notin else .isin) u d with
          | ok k =>
            rw [e] at pr
            exact ⟨u, d, k, r1.sub rel1.wf.inn, h5.rep rel1.wf.inn, e, pr.now rel1.wf (.bl k)⟩
          | exn k c0 => rw [e] at pr; exact (show False from pr).elim
          | bad => rw [e] at pr; exact (show False from pr).elim
      | val d =>
          simp only [e0] at post1
          obtain ⟨b, h1, h5⟩ := rel1.val i d e0
          refine ⟨_, h1, ?_⟩
          have pr := PostR.of (P := X.prog) (w := X.w) (K := X.K) post1
          cases e : cmpB (if neg then .notin else .isin) u d with
          | ok k =>
            rw [e] at pr
            exact ⟨u, d, k, r1.sub rel1.wf.inn, h5.sub rel1.wf.inn, e, pr.now rel1.wf (.bl k)⟩
          | exn k c0 => rw [e] at pr; exact (show False from pr).elim
          | bad => rw [e] at pr; exact (show False from pr).elim
      | _ => simp only [e0] at post1; exact (show False from post1).elim
  cases neg with
  | false => exact ⟨(pe_cmpR (opr_in hr) ha.pe hy rfl).lgi key, (pt_cmpR (opr_in hr) ha.pe hy rfl).lgi fun σ H Q q => key _ _ _ (tT_tE q)⟩
  | true => exact ⟨(pe_cmpR (opr_notin hr) ha.pe hy rfl).lgi key, (pt_cmpR (opr_notin hr) ha.pe hy rfl).lgi fun σ H Q q => key _ _ _ (tT_tE q)⟩
theorem se_eqO {neg : Bool} {i k : Nat} {b : Expr} {xb : Ex} {y : Str} {p pos : Pos} (hr : Room k X.A) (hb : SE X C xb b) (hy : PE X (.Name y p) (tVar i)) : SE X C (.eqO neg i xb) (.Compare (.Name y p) [if neg then .NotEq else .Eq] [b] pos) := by
  have hu : X.A.units + 64 < cLine := hr.units
  have key : ∀ σ H Q, tE X C (.eqO neg i xb) σ H Q → tOp (rB2 X (cmpB (if neg then .ne else .eq))) (tVar i) (tE X C xb) σ H Q := fun σ H Q q => by
    obtain ⟨f, c, S, env, rel, post⟩ := q
    rw [evE] at post
    cases e0 : env[i]? with
    | none => simp only [e0] at post; exact (show False from post).elim
    | some s0 =>
      cases s0 with
      | own d =>
          simp only [e0] at post
          obtain ⟨a', h1', _⟩ := rel.own i d e0
          refine ⟨_, h1', f, c, S, env, rel, post.thn rel.wf fun u c1 S1 H1 v1 _ g1 r1 post1 => ?_⟩
          have rel1 := rel.gr g1
          obtain ⟨b, h1, h2, h3, h4, h5⟩ := rel1.own i d e0
          rw [h1'] at h1
          have eb : a' = b := by simpa using h1
          subst eb
          have pr := PostR.of (P := X.prog) (w := X.w) (K := X.K) post1
          cases e : cmpB (if neg then .ne else .eq) d u with
          | ok k =>
            rw [e] at pr
            exact ⟨d, u, k, h5.rep rel1.wf.inn, r1.sub rel1.wf.inn, e, pr.now rel1.wf (.bl k)⟩
          | exn k c0 => rw [e] at pr; exact (show False from pr).elim
          | bad => rw [e] at pr; exact (show False from pr).elim
      | val d =>
          simp only [e0] at post
          obtain ⟨a', h1', h5⟩ := rel.val i d e0
          refine ⟨_, h1', f, c, S, env, rel, post.thn rel.wf fun u c1 S1 H1 v1 _ g1 r1 post1 => ?_⟩
          have rel1 := rel.gr g1
          have pr := PostR.of (P := X.prog) (w := X.w) (K := X.K) post1
          cases e : cmpB (if neg then .ne else .eq) d u with
          | ok k =>
            rw [e] at pr
            exact ⟨d, u, k, (h5.sub g1.sub).sub rel1.wf.inn, r1.sub rel1.wf.inn, e, pr.now rel1.wf (.bl k)⟩
          | exn k c0 => rw [e] at pr; exact (show False from pr).elim
          | bad => rw [e] at pr; exact (show False from pr).elim
      | _ => simp only [e0] at post; exact (show False from post).elim
  cases neg with
  | false => exact ⟨(pe_cmpR (opr_eq hu) hy hb.pe (nomark _)).lgi key, (pt_cmpR (opr_eq hu) hy hb.pe (nomark _)).lgi fun σ H Q q => key _ _ _ (tT_tE q)⟩
  | true => exact ⟨(pe_cmpR (opr_ne hu) hy hb.pe (nomark _)).lgi key, (pt_cmpR (opr_ne hu) hy hb.pe (nomark _)).lgi fun σ H Q q => key _ _ _ (tT_tE q)⟩
theorem se_idxO {i k : Nat} {b : Expr} {xb : Ex} {y : Str} {p pos : Pos} (hr : Room k X.A) (hb : SE X C xb b) (hy : PE X (.Name y p) (tVar i)) (hs : PlainIx b) : SE X C (.idxO i xb) (.Subscript (.Name y p) b pos) := by
  refine se_val ((pe_ix (ix_all hr) hy hb.pe hs).lgi fun σ H Q q => ?_)
  obtain ⟨f, c, S, env, rel, post⟩ := q
  rw [evE] at post
  cases e0 : env[i]? with
  | none => simp only [e0] at post; exact (show False from post).elim
  | some s0 =>
    cases s0 with
    | own d =>
        simp only [e0] at post
        obtain ⟨a', h1', _⟩ := rel.own i d e0
        refine ⟨_, h1', f, c, S, env, rel, post.thn rel.wf fun u c1 S1 H1 v1 _ g1 r1 post1 => ?_⟩
        have rel1 := rel.gr g1
        obtain ⟨b, h1, h2, h3, h4, h5⟩ := rel1.own i d e0
        rw [h1'] at h1
        have eb : a' = b := by simpa using h1
        subst eb
        exact ⟨f, c1, S1, d, u, rel1.wf, .inr ⟨a', rfl, h5⟩, r1, .of post1⟩
    | val d =>
        simp only [e0] at post
        obtain ⟨a', h1', h5⟩ := rel.val i d e0
        refine ⟨_, h1', f, c, S, env, rel, post.thn rel.wf fun u c1 S1 H1 v1 _ g1 r1 post1 => ?_⟩
        have rel1 := rel.gr g1
        exact ⟨f, c1, S1, d, u, rel1.wf, .inl (h5.sub g1.sub), r1, .of post1⟩
    | _ => simp only [e0] at post; exact (show False from post).elim
end
end LG

/-! LgG: targets, walks, containers that are made, comprehensions. -/
namespace LG
open PySem PySem.Spec PyProof.Rows L2

/-! ### names wiped -/
theorem wipe_get {σ : L2.St} {j : Nat} : ∀ {l : List Nat}, (wipe σ l)[j]? = if j ∈ l then σ[j]?.map (fun _ => none) else σ[j]?
  | [] => by simp [wipe]
  | v :: l => by
    unfold wipe
    have ih := wipe_get (σ := σ) (j := j) (l := l)
    by_cases hv : v = j
    · subst hv
      by_cases hl : v < (wipe σ l).length
      · rw [List.getElem?_set_self hl]
        rw [wipe_length] at hl
        simp [List.getElem?_eq_getElem hl]
      · rw [List.getElem?_eq_none (by simpa using hl)]
        rw [wipe_length] at hl
        simp [List.getElem?_eq_none (by omega : σ.length ≤ v)]
    · rw [List.getElem?_set_ne hv, ih]
      have e : j ∈ v :: l ↔ j ∈ l := by
        simp only [List.mem_cons]
        exact ⟨fun h => h.elim (fun z => absurd z.symm hv) id, .inr⟩
      simp only [e]
theorem wipe_set {σ : L2.St} {i : Nat} {x : Option V} {l : List Nat} (h : i ∈ l) : wipe (σ.set i x) l = wipe σ l := by
  refine List.ext_getElem? fun j => ?_
  rw [wipe_get, wipe_get]
  by_cases hj : j ∈ l
  · rw [if_pos hj, if_pos hj]
    by_cases hi : i = j
    · subst hi
      by_cases hl : i < σ.length
      · rw [List.getElem?_set_self hl, List.getElem?_eq_getElem hl]; rfl
      · rw [List.getElem?_eq_none (by simpa using hl), List.getElem?_eq_none (by omega)]
    · rw [List.getElem?_set_ne hi]
  · rw [if_neg hj, if_neg hj, List.getElem?_set_ne (show i ≠ j from fun z => hj (by rw [← z]; exact h))]
section
variable {X : Cx} {C : Cn}
theorem Rel.wiped {P : Program} {w : World} {K : PySem.W.Frag} {f : Fm} {c : Nat} {S H : Hp} {env : En} {σ : L2.St} (r : Rel P w K f c S H env σ) : ∀ l : List Nat, Rel P w K f c S H (wipeE env l) (wipe σ l)
  | [] => r
  | v :: l => (r.wiped l).unb

/-! ### targets -/
def tgN : Tg → List Nat
  | .nm i => [i]
  | .tp is => is
def tG (X : Cx) (tg : Tg) : TG := fun v σ H Q => ∃ f c S env d env', Rel X.prog X.w X.K f c S H env σ ∧ Rep X.prog X.w X.K S d v ∧ asgT tg d env = some env' ∧ ∀ σ', Rel X.prog X.w X.K f c S H env' σ' → (∀ l : List Nat, (∀ j ∈ tgN tg, j ∈ l) → wipe σ' l = wipe σ l) → Q σ' H
def tGs (X : Cx) (is : List Nat) : TGs := fun vs σ H Q => ∃ f c S env ds env', Rel X.prog X.w X.K f c S H env σ ∧ Reps X.prog X.w X.K S ds vs ∧ asgN is ds env = some env' ∧ ∀ σ', Rel X.prog X.w X.K f c S H env' σ' → (∀ l : List Nat, (∀ j ∈ is, j ∈ l) → wipe σ' l = wipe σ l) → Q σ' H
theorem _root_.L2.PG.lgi {X : Cx} {e : Expr} {t t' : TG} (h : PG X e t) (i : ∀ v σ H Q, t' v σ H Q → t v σ H Q) : PG X e t' := ⟨fun pins s σ H v u Q I r q => h.run pins s σ H v u Q I r (i v σ H Q q)⟩
theorem _root_.L2.PGs.lgi {X : Cx} {e : List Expr} {t t' : TGs} (h : PGs X e t) (i : ∀ v σ H Q, t' v σ H Q → t v σ H Q) : PGs X e t' := ⟨fun pins s σ H v u Q I r q => h.run pins s σ H v u Q I r (i v σ H Q q)⟩
theorem sg_name {i : Nat} {x : Str} {pos : Pos} (hN : X.N.Nodup) (hi : X.N[i]? = some x) (hx : Loc X.env.scope x) (hf : X.fn x = true ∨ X.env.scope.names.lookup x = some .local) : PG X (.Name x pos) (tG X (.nm i)) :=
  (pg_name hN hi hx hf).lgi fun v σ H Q q => by
    obtain ⟨f, c, S, env, d, env', rel, r, e, q⟩ := q
    cases e
    exact q _ (rel.set r) fun l hl => wipe_set (hl i (by simp [tgN]))
theorem sgs_nil : PGs X [] (tGs X []) := pgs_nil.lgi fun vs σ H Q q => by
  obtain ⟨f, c, S, env, ds, env', rel, r, e, q⟩ := q
  cases r with
  | nil => cases e; exact ⟨rfl, q _ rel fun _ _ => rfl⟩
  | cons => cases e
theorem sgs_cons {i : Nat} {is : List Nat} {e : Expr} {es : List Expr} (h1 : PG X e (tG X (.nm i))) (h2 : PGs X es (tGs X is)) (hs : (assignEach (e :: es) X.env).map (·.2) = assign e X.env :: (assignEach es X.env).map (·.2)) : PGs X (e :: es) (tGs X (i :: is)) :=
  (pgs_cons h1 h2 hs).lgi fun vs σ H Q q => by
    obtain ⟨f, c, S, env, ds, env', rel, r, e, q⟩ := q
    cases r with
    | nil => cases e
    | cons a t =>
      refine ⟨_, _, rfl, f, c, S, env, _, _, rel, a, rfl, fun σ1 rel1 w1 => ?_⟩
      refine ⟨f, c, S, _, _, env', rel1, t, e, fun σ2 rel2 w2 => q σ2 rel2 fun l hl => ?_⟩
      rw [w2 l fun j hj => hl j (List.mem_cons_of_mem _ hj)]
      exact w1 l fun j hj => by
        have e : j = i := by simpa [tgN] using hj
        subst e
        exact hl j (List.mem_cons_self ..)
theorem asgN_len : ∀ {is : List Nat} {ds : List D} {env env' : En}, asgN is ds env = some env' → is.length = ds.length
  | [], [], _, _, _ => rfl
  | i :: is, d :: ds, env, env', h => by simp [asgN_len (show asgN is ds (env.set i (.val d)) = some env' from h)]
  | [], _ :: _, _, _, h => by cases h
  | _ :: _, [], _, _, h => by cases h
theorem sg_tup {is : List Nat} {es : List Expr} {k : Nat} {pos : Pos} (hc : X.calm = true) (h : PGs X es (tGs X is)) (hn : (assignEach es X.env).length = is.length) (hst : (assignEach es X.env).findIdx? (·.1) = none) : PG X (.Tuple es k pos) (tG X (.tp is)) :=
  (pg_tup hc h hn hst).lgi fun v σ H Q q => by
    obtain ⟨f, c, S, env, d, env', rel, r, e, q⟩ := q
    cases r with
    | tup a l t =>
      have e' : asgN is _ env = some env' := e
      refine ⟨_, _, rfl, SqT.sub rel.wf.inn a, ?_, f, c, S, env, _, env', rel, t, e', q⟩
      rw [← t.length, asgN_len e']
    | _ => cases e

/-! ### walks -/
structure Ext (S H S' H' : Hp) : Prop where
  sub : Sub S S'
  inn : Sub S' H'
  same : ∀ a o, H a = some o → H' a = some o
  new : ∀ a o, S' a = some o → S a = some o ∨ H a = none
theorem Ext.gr {K : PySem.W.Frag} {f : Fm} {c : Nat} {S H S' H' : Hp} (e : Ext S H S' H') (wf : f.wf K c S H) : Gr f.T S H c S' H' := ⟨e.sub, e.inn, fun a o _ h => e.same a o h, e.new, e.same _ _ wf.tH⟩
theorem Ext.refl {S H : Hp} (h : Sub S H) : Ext S H S H := ⟨fun _ _ h => h, h, fun _ _ h => h, fun _ _ h => .inl h⟩
/-- J gives the items ds, whatever else has come since -/
structure Yields (X : Cx) (S : Hp) (ds : List D) (J : L2.It) : Prop where
  len : ds.length ≤ LIM
  go : ∀ (i : Nat) (d : D) (S1 H1 : Hp), ds[i]? = some d → Sub S S1 → Sub S1 H1 → J.go i H1 ∧ ∀ x H2, J.yld i H1 x H2 → ∃ S2, Ext S1 H1 S2 H2 ∧ Rep X.prog X.w X.K S2 d x
  stop : ∀ (i : Nat) (S1 H1 : Hp), ds.length ≤ i → Sub S S1 → Sub S1 H1 → J.stop i H1
def tI (X : Cx) (C : Cn) (it : Itx) : TI := fun σ H R => ∃ f c S env, Rel X.prog X.w X.K f c S H env σ ∧ Post f (fun k H' => C.W k σ H') (Yields X) S H (evI f.ns C.Φ C.gv it env c) R
theorem _root_.L2.PI.lgi {X : Cx} {tg iter : Expr} {t t' : TI} (h : PI X tg iter t) (i : ∀ σ H R, t' σ H R → t σ H R) : PI X tg iter t' := ⟨fun pins s σ H R I q => h.run pins s σ H R I (i σ H R q)⟩
theorem yields_list {S : Hp} {a : Addr} {vs : List V} {ds : List D} (h : S a = some (.lst vs)) (l : ds.length ≤ LIM) (r : Reps X.prog X.w X.K S ds vs) : Yields X S ds (Itl X.K a) where
  len := l
  go := fun i d S1 H1 e s1 s2 => by
    obtain ⟨v, hv, rv⟩ := r.get e
    have hq : SqL X.K H1 a vs := SqL.of (s2 _ _ (s1 _ _ h))
    refine ⟨⟨vs, v, hq, hv⟩, fun x H2 y => ?_⟩
    obtain ⟨rfl, y⟩ := y
    have := y vs hq
    rw [hv] at this
    cases this
    exact ⟨S1, Ext.refl s2, rv.sub s1⟩
  stop := fun i S1 H1 e s1 s2 => ⟨vs, SqL.of (s2 _ _ (s1 _ _ h)), by rw [← r.length]; exact e⟩
theorem yields_tup {S : Hp} {a : Addr} {vs : List V} {ds : List D} (h : SqT X.K S a vs) (l : ds.length ≤ LIM) (r : Reps X.prog X.w X.K S ds vs) : Yields X S ds (Itt X.K a) where
  len := l
  go := fun i d S1 H1 e s1 s2 => by
    obtain ⟨v, hv, rv⟩ := r.get e
    have hq : SqT X.K H1 a vs := SqT.sub s2 (SqT.sub s1 h)
    refine ⟨⟨vs, v, hq, hv⟩, fun x H2 y => ?_⟩
    obtain ⟨rfl, y⟩ := y
    have := y vs hq
    rw [hv] at this
    cases this
    exact ⟨S1, Ext.refl s2, rv.sub s1⟩
  stop := fun i S1 H1 e s1 s2 => ⟨vs, SqT.sub s2 (SqT.sub s1 h), by rw [← r.length]; exact e⟩
theorem yields_str {S : Hp} {z : Str} (l : z.length ≤ LIM) : Yields X S (z.cps.toList.map fun c => .str ⟨#[c]⟩) (Its z) where
  len := by rw [List.length_map, Array.length_toList]; exact l
  go := fun i d S1 H1 e s1 s2 => by
    rw [List.getElem?_map, Array.getElem?_toList] at e
    cases ec : z.cps[i]? with
    | none => rw [ec] at e; cases e
    | some c =>
      rw [ec] at e
      cases e
      have hl : i < z.cps.size := by
        by_cases q : i < z.cps.size
        · exact q
        · rw [Array.getElem?_eq_none (by omega)] at ec; cases ec
      refine ⟨hl, fun x H2 y => ?_⟩
      obtain ⟨rfl, c', e1, rfl⟩ := y
      rw [ec] at e1
      cases e1
      exact ⟨S1, Ext.refl s2, .str _⟩
  stop := fun i S1 H1 e s1 s2 => by
    rw [List.length_map, Array.length_toList] at e
    exact e
theorem yields_rng {S : Hp} {lo : Int} {n : Nat} (l : n ≤ LIM) : Yields X S ((List.range n).map fun i => .int (lo + (i : Nat))) (Itr lo n) where
  len := by rw [List.length_map, List.length_range]; exact l
  go := fun i d S1 H1 e s1 s2 => by
    rw [List.getElem?_map] at e
    by_cases hi : i < n
    · rw [List.getElem?_range hi] at e
      cases e
      refine ⟨hi, fun x H2 y => ?_⟩
      obtain ⟨rfl, rfl⟩ := y
      exact ⟨S1, Ext.refl s2, .int _⟩
    · rw [List.getElem?_eq_none (by simpa using hi)] at e; cases e
  stop := fun i S1 H1 e s1 s2 => by
    rw [List.length_map, List.length_range] at e
    exact e
theorem yields_dn {S : Hp} {lo : Int} {n : Nat} (l : n ≤ LIM) : Yields X S ((List.range n).map fun i => .int (lo - (i : Nat))) (Itc lo (-1) n) where
  len := by rw [List.length_map, List.length_range]; exact l
  go := fun i d S1 H1 e s1 s2 => by
    rw [List.getElem?_map] at e
    by_cases hi : i < n
    · rw [List.getElem?_range hi] at e
      cases e
      refine ⟨hi, fun x H2 y => ?_⟩
      obtain ⟨rfl, rfl⟩ := y
      refine ⟨S1, Ext.refl s2, ?_⟩
      rw [show lo + (i : Int) * -1 = lo - (i : Nat) by omega]
      exact .int _
    · rw [List.getElem?_eq_none (by simpa using hi)] at e; cases e
  stop := fun i S1 H1 e s1 s2 => by
    rw [List.length_map, List.length_range] at e
    exact e
theorem bounded_iff {i : Int} (h : bounded i = true) : -400000 ≤ i ∧ i ≤ 400000 := by
  unfold bounded at h
  simpa only [Bool.and_eq_true, decide_eq_true_eq] using h
variable {a b tg : Expr} {xa xb : Ex} {p pos : Pos}
theorem atR_ok {α β : Type} {K : PySem.W.Frag} {f : Fm} {W : Nat → Hp → Prop} {rel : Hp → α → β → Prop} {S H : Hp} {r : R α} {c : Nat} {Q : β → Hp → Prop} (h : Post f W rel S H (r.at c) Q) : ∃ d, r = .ok d ∧ ∀ S' H' b, Gr f.T S H c S' H' → rel S' d b → Q b H' := by
  cases r with
  | ok d => exact ⟨d, rfl, h⟩
  | exn k c0 => exact (show False from h).elim
  | bad => exact (show False from h).elim
theorem si_rng1 (hg : Gl X "range") (hm : X.mg "range" = none) (ha : SE X C xa a) (hs : NoStar a) : PI X tg (.Call (.Name "range" p) [a] [] pos) (tI X C (.rng1 xa)) :=
  (pi_range1 hg hm (pa_cons ha.pe pa_nil (hs _ _)) (hs _ _)).lgi fun σ H RR q => by
    obtain ⟨f, c, S, env, rel, post⟩ := q
    rw [evI] at post
    refine ⟨f, c, S, env, rel, post.thn rel.wf fun d c1 S1 H1 v _ g1 r1 post1 => ?_⟩
    have wf1 := (rel.gr g1).wf
    obtain ⟨ds, e, q⟩ := atR_ok (K := X.K) post1
    cases r1 with
    | int hi =>
      have e' : (if bounded hi then R.ok (rangeU 0 hi) else .bad) = .ok ds := e
      split at e'
      · rename_i hb
        have hb := bounded_iff hb
        cases e'
        refine ⟨hi, rfl, by omega, by omega, q _ _ _ wf1.refl ?_⟩
        have e0 : (hi - 0).toNat = hi.toNat := by omega
        unfold rangeU
        rw [e0]
        exact yields_rng (lo := 0) (by have : LIM = 1000000 := rfl; omega)
      · cases e'
    | _ => cases e
theorem si_rng2 (hg : Gl X "range") (hm : X.mg "range" = none) (ha : SE X C xa a) (hb : SE X C xb b) (hs : NoStar a) (hs2 : NoStar b) : PI X tg (.Call (.Name "range" p) [a, b] [] pos) (tI X C (.rng2 xa xb)) :=
  (pi_range2 hg hm (pa_cons ha.pe (pa_cons hb.pe pa_nil (hs2 _ _)) (hs _ _)) (by rw [hs, hs2] <;> rfl) (by rw [hs2] <;> rfl)).lgi fun σ H RR q => by
    obtain ⟨f, c, S, env, rel, post⟩ := q
    rw [evI] at post
    refine ⟨f, c, S, env, rel, post.thn rel.wf fun d c1 S1 H1 v _ g1 r1 post1 => ?_⟩
    have rel1 := rel.gr g1
    refine ⟨f, c1, S1, env, rel1, post1.thn rel1.wf fun d2 c2 S2 H2 v2 _ g2 r2 post2 => ?_⟩
    have wf2 := (rel1.gr g2).wf
    obtain ⟨ds, e, q⟩ := atR_ok (K := X.K) post2
    cases r1 with
    | int lo =>
      cases r2 with
      | int hi =>
        have e' : (if (bounded lo && bounded hi) = true then R.ok (rangeU lo hi) else .bad) = .ok ds := e
        split at e'
        · rename_i hb
          rw [Bool.and_eq_true] at hb
          have h1 := bounded_iff hb.1
          have h2 := bounded_iff hb.2
          cases e'
          exact ⟨lo, hi, rfl, ⟨by omega, by omega, by omega, by omega⟩, q _ _ _ wf2.refl (yields_rng (by have : LIM = 1000000 := rfl; omega))⟩
        · cases e'
      | _ => cases e
    | _ => cases r2 <;> cases e
theorem si_rng3 {p1 p2 : Pos} {j : Nat} (hg : Gl X "range") (hm : X.mg "range" = none) (ha : SE X C xa a) (hb : SE X C xb b) (hs : NoStar a) (hs2 : NoStar b) :
    PI X tg (.Call (.Name "range" p) [a, b, .UnaryOp .USub (.Constant (.int 1) j p1) p2] [] pos) (tI X C (.rng3 xa xb)) := by
  have h3 : NoStar (.UnaryOp .USub (.Constant (.int 1) j p1) p2) := fun _ _ => rfl
  refine (pi_range3 hg hm (pa_cons ha.pe (pa_cons hb.pe (pa_cons (pe_un un_neg pe_int) pa_nil (h3 _ _)) (hs2 _ _)) (hs _ _)) (by rw [hs, hs2] <;> rfl) (by rw [hs2] <;> rfl)).lgi fun σ H RR q => ?_
  obtain ⟨f, c, S, env, rel, post⟩ := q
  rw [evI] at post
  refine ⟨f, c, S, env, rel, post.thn rel.wf fun d c1 S1 H1 v _ g1 r1 post1 => ?_⟩
  have rel1 := rel.gr g1
  refine ⟨f, c1, S1, env, rel1, post1.thn rel1.wf fun d2 c2 S2 H2 v2 _ g2 r2 post2 => ?_⟩
  have wf2 := (rel1.gr g2).wf
  obtain ⟨ds, e, q⟩ := atR_ok (K := X.K) post2
  cases r1 with
  | int lo =>
    cases r2 with
    | int hi =>
      have e' : (if (bounded lo && bounded hi) = true then R.ok (rangeDn lo hi) else .bad) = .ok ds := e
      split at e'
      · rename_i hb
        rw [Bool.and_eq_true] at hb
        have h1 := bounded_iff hb.1
        have h2 := bounded_iff hb.2
        cases e'
        exact ⟨1, rfl, lo, hi, -1, (lo - hi).toNat, rfl, RgC.neg (by omega) (by omega) (by omega) (by omega), q _ _ _ wf2.refl (yields_dn (by have : LIM = 1000000 := rfl; omega))⟩
      · cases e'
    | _ => cases e
  | _ => cases r2 <;> cases e
/-- a list, a tuple or a text that is walked -/
theorem si_seq (he : SE X C xa a) (hd : ∀ (pins : List (Addr × Obj)) (s : Shared) (σ : L2.St) (H : Hp) (RR : L2.It → Hp → Prop), Inv X pins σ H s → ∀ (f : Fm) (c : Nat) (S : Hp) (env : En) (kvs : List (D × D)) (c' : Nat), Rel X.prog X.w X.K f c S H env σ → evE f.ns C.Φ C.gv xa env c = .ok (.dict kvs, c') →
    Post f (fun k H' => C.W k σ H') (Yields X) S H (.ok (keysOf kvs, c')) RR → wpAny (model X.prog X.w) X.A (eval a X.env) (fun v s1 => wpAny (model X.prog X.w) X.A (pyIter v) (PIE X pins σ tg RR) X.xe s1) X.xe s) : PI X tg a (tI X C (.seq xa)) := by
  refine ⟨fun pins s σ H RR I q => ?_⟩
  obtain ⟨f, c, S, env, rel, post⟩ := q
  rw [evI] at post
  have fall : ∀ (h : Post f (fun k H' => C.W k σ H') (Yields X) S H (evE f.ns C.Φ C.gv xa env c |>.thn fun x c => (itemsD x).at c) RR), ∀ r, evE f.ns C.Φ C.gv xa env c = r → (∀ d c', r = .ok (d, c') → ∀ ds, itemsD d ≠ .ok ds) →
      wpAny (model X.prog X.w) X.A (eval a X.env) (fun v s1 => wpAny (model X.prog X.w) X.A (pyIter v) (PIE X pins σ tg RR) X.xe s1) X.xe s := by
    intro h r er hno
    refine thn (he.pe.run pins s σ H (fun _ _ => False) I ⟨f, c, S, env, rel, ?_⟩) fun v s1 ⟨x, H1, I1, r1, q1⟩ => q1.elim
    rw [er] at h ⊢
    match r with
    | .ok (d, c') =>
      obtain ⟨ds, e, _⟩ := atR_ok (K := X.K) (show Post f (fun k H' => C.W k σ H') (Yields X) S H ((itemsD d).at c') RR from h)
      exact absurd e (hno d c' rfl ds)
    | .exn k c0 => exact h
    | .bad => exact h
  match hev : evE f.ns C.Φ C.gv xa env c with
  | .ok (.list ds, c') =>
    refine (pi_list he.pe).run pins s σ H RR I ⟨f, c, S, env, rel, ?_⟩
    rw [hev] at post ⊢
    intro S' H' v g r
    cases r with
    | lst e l t =>
      have wf1 := (rel.gr g).wf
      exact ⟨_, rfl, ⟨_, SqL.of (wf1.inn _ _ e)⟩, (show Post f (fun k H' => C.W k σ H') (Yields X) S H (.ok (ds, c')) RR from post) S' H' _ g (yields_list e l t)⟩
  | .ok (.tuple ds, c') =>
    refine (pi_tup he.pe).run pins s σ H RR I ⟨f, c, S, env, rel, ?_⟩
    rw [hev] at post ⊢
    intro S' H' v g r
    cases r with
    | tup e l t =>
      have wf1 := (rel.gr g).wf
      exact ⟨_, rfl, ⟨_, SqT.sub wf1.inn e⟩, (show Post f (fun k H' => C.W k σ H') (Yields X) S H (.ok (ds, c')) RR from post) S' H' _ g (yields_tup e l t)⟩
  | .ok (.str z, c') =>
    by_cases hl : z.length ≤ LIM
    · refine (pi_str he.pe).run pins s σ H RR I ⟨f, c, S, env, rel, ?_⟩
      rw [hev] at post ⊢
      intro S' H' v g r
      cases r
      have post' : Post f (fun k H' => C.W k σ H') (Yields X) S H (R.at (if z.length ≤ LIM then .ok (z.cps.toList.map fun c => .str ⟨#[c]⟩) else .bad) c') RR := post
      rw [if_pos hl] at post'
      exact ⟨z, rfl, post' S' H' _ g (yields_str hl)⟩
    · exact fall post _ hev fun d c'' e ds e2 => by
        cases e
        have e3 : (if z.length ≤ LIM then R.ok (z.cps.toList.map fun c => PyData.str ⟨#[c]⟩) else .bad) = .ok ds := e2
        rw [if_neg hl] at e3
        cases e3
  | .ok (.dict kvs, c') => exact hd pins s σ H RR I f c S env kvs c' rel hev (by rw [hev] at post; exact post)
  | .ok (.none, c') => exact fall post _ hev fun d c'' e ds e2 => by cases e; cases e2
  | .ok (.bool _, c') => exact fall post _ hev fun d c'' e ds e2 => by cases e; cases e2
  | .ok (.int _, c') => exact fall post _ hev fun d c'' e ds e2 => by cases e; cases e2
  | .exn k c0 => exact fall post _ hev fun d c'' e ds e2 => by cases e
  | .bad => exact fall post _ hev fun d c'' e ds e2 => by cases e
end
end LG

/-! LgH: containers that are made; comprehensions. -/
namespace LG
open PySem PySem.Spec PyProof.Rows L2

/-- a container comes, that nobody else reaches -/
def PostF (P : Program) (w : World) (K : PySem.W.Frag) (f : Fm) (W : Nat → Hp → Prop) (S H : Hp) (r : R (D × Nat)) (Q : VK) : Prop :=
  match r with
  | .ok (d, c') => ∀ S' H' p, Gr f.T S H c' S' H' → H p = none → S' p = none → OwnAt P w K S' H' p d → Q (.ref p) H'
  | .exn k c0 => ∀ S' H', Gr f.T S H c0 S' H' → W k H'
  | .bad => False
def tEF (X : Cx) (C : Cn) (x : Ex) : TE := fun σ H Q => ∃ f c S env, Rel X.prog X.w X.K f c S H env σ ∧ PostF X.prog X.w X.K f (fun k H' => C.W k σ H') S H (evE f.ns C.Φ C.gv x env c) Q
section
variable {P : Program} {w : World} {K : PySem.W.Frag} {f : Fm} {W : Nat → Hp → Prop} {c : Nat} {S H : Hp} {Q : VK}
theorem OwnAt.share {S' H' : Hp} {p : Addr} {d : D} (o : OwnAt P w K S' H' p d) (hs : S' p = none) (hi : Sub S' H') : ∃ S'', Sub S' S'' ∧ Sub S'' H' ∧ (∀ a u, S'' a = some u → S' a = some u ∨ a = p) ∧ Rep P w K S'' d (.ref p) := by
  obtain ⟨u, hu⟩ := o.there
  have sub : Sub S' (upd S' p u) := fun a v h => by
    have ne : a ≠ p := fun z => by rw [z, hs] at h; cases h
    rw [upd_ne ne]; exact h
  refine ⟨upd S' p u, sub, fun a v h => ?_, fun a v h => ?_, ?_⟩
  · by_cases e : a = p
    · subst e; rw [upd_same] at h; cases h; exact hu
    · rw [upd_ne e] at h; exact hi a v h
  · by_cases e : a = p
    · exact .inr e
    · rw [upd_ne e] at h; exact .inl h
  · cases o with
    | lst e l r => rw [e] at hu; cases hu; exact .lst upd_same l (Reps.sub sub r)
    | dic e a1 a2 a3 a4 a5 a6 r => rw [e] at hu; cases hu; exact .dic upd_same a1 a2 a3 a4 a5 a6 (KReps.sub sub r)
theorem PostF.of {r : R (D × Nat)} (h : Post f W (Rep P w K) S H r Q) : PostF P w K f W S H r Q := by
  match r with
  | .ok (d, c') =>
    intro S' H' p g hp hs o
    obtain ⟨S'', s1, s2, s3, rp⟩ := o.share hs g.inn
    refine h S'' H' _ ⟨fun a u q => s1 a u (g.sub a u q), s2, g.same, fun a u q => ?_, g.town⟩ rp
    rcases s3 a u q with z | z
    · exact g.new a u z
    · subst z; exact .inr hp
  | .exn k c0 => exact h
  | .bad => exact h
theorem PostF.mono {r : R (D × Nat)} {c1 : Nat} {S1 H1 : Hp} (wf : f.wf K c S H) (g : Gr f.T S H c1 S1 H1) (h : PostF P w K f W S H r Q) : PostF P w K f W S1 H1 r Q := by
  match r with
  | .ok (d, c') =>
    intro S' H' p g' hp hs o
    refine h S' H' p (g.trans wf g') ?_ hs o
    cases e : H p with
    | none => rfl
    | some u =>
      by_cases ht : p = f.T
      · subst ht; rw [g.town] at hp; cases hp
      · rw [g.same p u ht e] at hp; cases hp
  | .exn k c0 => exact fun S' H' g' => h S' H' (g.trans wf g')
  | .bad => exact h
theorem PostF.thn {α β : Type} {rel : Hp → α → β → Prop} {r : R (α × Nat)} {k : α → Nat → R (D × Nat)} {Q' : β → Hp → Prop} (wf : f.wf K c S H) (h : PostF P w K f W S H (r.thn k) Q)
    (hk : ∀ a c' S' H' b, r = .ok (a, c') → Gr f.T S H c' S' H' → rel S' a b → PostF P w K f W S' H' (k a c') Q → Q' b H') : Post f W rel S H r Q' := by
  match r with
  | .ok (a, c') => exact fun S' H' b g q => hk a c' S' H' b rfl g q (PostF.mono wf g h)
  | .exn k c0 => exact h
  | .bad => exact h
end
section
variable {X : Cx} {C : Cn} {pos : Pos}
theorem se_ofF {x : Ex} {e : Expr} (h : PE X e (tEF X C x)) (he : ∀ whole, isTrue e X.env whole = (do let v ← whole; standAt e.pos; holding [v] (truthy v)) := by intro _; rfl) : SE X C x e :=
  se_val (h.lgi fun σ H Q ⟨f, c, S, env, rel, post⟩ => ⟨f, c, S, env, rel, .of post⟩) he
theorem sf_lst {es : List Expr} {xs : Exs} (h : PA X es (tAs X C xs)) : PE X (.List es pos) (tEF X C (.lst xs)) := by
  refine (pe_lst h).lgi fun σ H Q q => ?_
  obtain ⟨f, c, S, env, rel, post⟩ := q
  rw [evE] at post
  refine ⟨f, c, S, env, rel, post.thn rel.wf fun ds c1 S1 H1 vs _ g1 r1 post1 => ?_⟩
  have wf1 := (rel.gr g1).wf
  have post2 : PostF X.prog X.w X.K f (fun k H' => C.W k σ H') S1 H1 (if ds.length ≤ LIM then .ok (.list ds, c1) else .bad) Q := post1
  split at post2
  · rename_i hl
    have e := r1.length
    refine ⟨by have := LIM_le; omega, fun p hp => post2 S1 _ p (wf1.laid hp _) hp ?_ (.lst upd_same hl r1)⟩
    cases e2 : S1 p with
    | none => rfl
    | some u => rw [wf1.inn _ _ e2] at hp; cases hp
  · exact post2.elim

/-! ### comprehensions -/
abbrev Cn.blk (C : Cn) : Cn := { C with W := fun _ _ _ => False }
def tIfs (X : Cx) (C : Cn) (x : Exo) : TT := fun σ H Q => ∃ f c S env, Rel X.prog X.w X.K f c S H env σ ∧ Post f (fun k H' => C.W k σ H') (fun _ (a b : Bool) => a = b) S H (((evO f.ns C.Φ C.gv x env c).thn fun t c => .ok (t.getD (.bool true), c)).thn bo) Q
theorem sts_nil : PTs X [] (tIfs X C .none) := ⟨fun pins s σ H Q I q => pts_nil.run pins s σ H Q I (by
  obtain ⟨f, c, S, env, rel, post⟩ := q
  rw [evO] at post
  exact post _ _ _ rel.wf.refl rfl)⟩
theorem sts_one {e : Expr} {x : Ex} (h : SE X C x e) : PTs X [e] (tIfs X C (.some x)) := ⟨fun pins s σ H Q I q => (pts_one h.pt).run pins s σ H Q I (by
  obtain ⟨f, c, S, env, rel, post⟩ := q
  rw [evO] at post
  refine ⟨f, c, S, env, rel, ?_⟩
  cases e : evE f.ns C.Φ C.gv x env c with
  | ok pr => obtain ⟨d, c'⟩ := pr; rw [e] at post; exact post
  | exn k c0 => rw [e] at post; exact post
  | bad => rw [e] at post; exact post)⟩
/-- the reading of a comprehension -/
theorem tLc_of {vs : List Nat} {tg : Tg} {it : Itx} {ifs : Exo} {elt : Ex} {σ : L2.St} {H : Hp} {Q : VK} (htg : ∀ j ∈ tgN tg, j ∈ vs) (h : tEF X C (.comp vs tg it ifs elt) σ H Q) :
    tLc (tI X C it) (tG X tg) (tIfs X C.blk ifs) (tE X C.blk elt) vs σ H Q := by
  obtain ⟨f, c, S, env, rel, post⟩ := h
  rw [evE] at post
  refine ⟨f, c, S, env, rel, post.thn rel.wf fun ds c1 S1 H1 J hev g1 Y post1 => ?_⟩
  have rel1 := rel.gr g1
  have wf1 := rel1.wf
  intro D hD
  have hDT : D ≠ f.T := fun z => by rw [z, wf1.tH] at hD; cases hD
  have hDS : S1 D = none := by
    cases e2 : S1 D with
    | none => rfl
    | some u => rw [wf1.inn _ _ e2] at hD; cases hD
  have hD0 : f.H0 D = none := by
    cases e2 : f.H0 D with
    | none => rfl
    | some u => rw [rel1.ent.same D u hDT e2] at hD; cases hD
  have hDH : H D = none := by
    cases e2 : H D with
    | none => rfl
    | some u => rw [g1.same D u hDT e2] at hD; cases hD
  -- the rest of the loop
  generalize hloop : (fun (xs acc : List LG.D) (c : Nat) => compL tg (wipeE env vs) (fun env c => (evO f.ns C.Φ C.gv ifs env c).thn fun t c => .ok (t.getD (.bool true), c)) (fun env c => evE f.ns C.Φ C.gv elt env c) xs acc c) = loop
  refine ⟨fun i m H2 => m = ds.length - i ∧ i ≤ ds.length ∧ ∃ c2 S2 acc vsD, Gr f.T S1 H1 c2 S2 H2 ∧ S2 D = none ∧ H2 D = some (.lst vsD) ∧ acc.length ≤ i ∧ Reps X.prog X.w X.K S2 acc vsD ∧
      PostF X.prog X.w X.K f (fun k H' => C.W k σ H') S1 H1 ((loop (ds.drop i) acc c2).thn fun ds c => .ok (.list ds, c)) Q, ⟨ds.length, rfl, Nat.zero_le _, c1, S1, [], [], wf1.laid hD _, hDS, upd_same, Nat.le_refl _, .nil, ?_⟩, ?_⟩
  · rw [List.drop_zero, ← hloop]
    exact post1
  · rintro i m H2 ⟨rfl, hi, c2, S2, acc, vsD, g2, k1, k2, k3, k4, k5⟩
    have wf2 := wf1.gr g2
    have rel2 : Rel X.prog X.w X.K f c2 S2 H2 env σ := rel1.gr g2
    by_cases hlt : i < ds.length
    · have hget : ds[i]? = some ds[i] := List.getElem?_eq_getElem hlt
      have hdrop : ds.drop i = ds[i] :: ds.drop (i + 1) := (List.drop_eq_getElem_cons hlt)
      obtain ⟨hgo, hy⟩ := Y.go i ds[i] S2 H2 hget g2.sub wf2.inn
      refine .inr ⟨hgo, fun H3 => ∃ c2 S2 acc vsD, Gr f.T S1 H1 c2 S2 H3 ∧ S2 D = none ∧ H3 D = some (.lst vsD) ∧ acc.length ≤ i + 1 ∧ Reps X.prog X.w X.K S2 acc vsD ∧
        PostF X.prog X.w X.K f (fun k H' => C.W k σ H') S1 H1 ((loop (ds.drop (i + 1)) acc c2).thn fun ds c => .ok (.list ds, c)) Q, fun H3 h3 => ⟨ds.length - (i + 1), by omega, rfl, hlt, h3⟩, fun x H3 y => ?_⟩
      obtain ⟨S3, e3, r3⟩ := hy x H3 y
      have g3 : Gr f.T S2 H2 c2 S3 H3 := e3.gr wf2
      have rel3 := (rel2.gr g3).wiped vs
      rw [hdrop, ← hloop] at k5
      simp only [compL] at k5
      -- the target
      cases eT : asgT tg ds[i] (wipeE env vs) with
      | none => simp only [eT] at k5; exact (show False from k5).elim
      | some env1 =>
        simp only [eT] at k5
        refine ⟨f, c2, S3, wipeE env vs, ds[i], env1, rel3, r3, eT, fun σ4 rel4 hw => ?_⟩
        refine ⟨?_, ?_⟩
        · rw [hw vs htg]
          refine List.ext_getElem? fun j => ?_
          rw [wipe_get, wipe_get]
          by_cases hj : j ∈ vs
          · rw [if_pos hj, if_pos hj]
            cases σ[j]? <;> rfl
          · rw [if_neg hj]
        · refine ⟨f, c2, S3, env1, rel4, ?_⟩
          have g13 : Gr f.T S1 H1 c2 S3 H3 := g2.trans wf1 g3
          -- the test
          cases eO : ((evO f.ns C.Φ C.gv ifs env1 c2).thn fun t c => R.ok (t.getD (.bool true), c)) with
          | exn k c0 => simp only [eO] at k5; exact (show False from k5).elim
          | bad => simp only [eO] at k5; exact (show False from k5).elim
          | ok pr =>
            obtain ⟨t, c4⟩ := pr
            simp only [eO] at k5
            cases t with
            | bool b =>
              intro S4 H4 b' g4 eb
              have eb : b = b' := eb
              subst eb
              have rel5 := rel4.gr g4
              have g14 : Gr f.T S1 H1 c4 S4 H4 := g13.trans wf1 g4
              have hD4 : H4 D = some (.lst vsD) := g4.same _ _ hDT (g3.same _ _ hDT k2)
              have hS4 : S4 D = none := by
                cases e5 : S4 D with
                | none => rfl
                | some u =>
                  rcases g4.new D u e5 with z | z
                  · rcases g3.new D u z with z | z
                    · rw [k1] at z; cases z
                    · rw [k2] at z; cases z
                  · rw [g3.same _ _ hDT k2] at z; cases z
              have kk4 : Reps X.prog X.w X.K S4 acc vsD := (k4.sub g3.sub).sub g4.sub
              cases b with
              | false =>
                simp only at k5
                rw [if_neg Bool.false_ne_true]
                refine ⟨c4, S4, acc, vsD, g14, hS4, hD4, by omega, kk4, ?_⟩
                rw [← hloop]
                exact k5
              | true =>
                simp only at k5
                rw [if_pos rfl]
                refine ⟨f, c4, S4, env1, rel5, ?_⟩
                cases eE : evE f.ns C.Φ C.gv elt env1 c4 with
                | exn k c0 => simp only [eE] at k5; exact (show False from k5).elim
                | bad => simp only [eE] at k5; exact (show False from k5).elim
                | ok pr =>
                  obtain ⟨yd, c5⟩ := pr
                  simp only [eE] at k5
                  intro S5 H5 yv g5 ry
                  have hD5 : H5 D = some (.lst vsD) := g5.same _ _ hDT hD4
                  have hS5 : S5 D = none := by
                    cases e5 : S5 D with
                    | none => rfl
                    | some u =>
                      rcases g5.new D u e5 with z | z
                      · rw [hS4] at z; cases z
                      · rw [hD4] at z; cases z
                  have kk5 : Reps X.prog X.w X.K S5 acc vsD := kk4.sub g5.sub
                  have hlen : vsD.length < LIM := by
                    have := kk5.length
                    have := Y.len
                    omega
                  refine ⟨vsD, hD5, Nat.lt_of_lt_of_le hlen LIM_le, c5, S5, acc ++ [yd], vsD ++ [yv], ?_, hS5, upd_same, by rw [List.length_append]; simp; omega, kk5.append (.cons ry .nil), ?_⟩
                  · have g15 : Gr f.T S1 H1 c5 S5 H5 := g14.trans wf1 g5
                    refine ⟨g15.sub, fun a u q => ?_, fun a u na q => ?_, g15.new, by rw [upd_ne hDT.symm]; exact g15.town⟩
                    · have ne : a ≠ D := fun z => by rw [z, hS5] at q; cases q
                      rw [upd_ne ne]; exact g15.inn a u q
                    · have ne : a ≠ D := fun z => by rw [z, hD] at q; cases q
                      rw [upd_ne ne]; exact g15.same a u na q
                  · rw [← hloop]
                    exact k5
            | _ => exact (show False from k5).elim
    · have e : i = ds.length := by omega
      subst e
      refine .inl ⟨Y.stop _ S2 H2 (Nat.le_refl _) g2.sub wf2.inn, ?_⟩
      rw [List.drop_length, ← hloop] at k5
      have k5' : PostF X.prog X.w X.K f (fun k H' => C.W k σ H') S1 H1 (.ok (.list acc, c2)) Q := k5
      have hl : acc.length ≤ LIM := Nat.le_trans k3 Y.len
      exact k5' S2 H2 D g2 hD k1 (.lst k2 hl k4)
end
end LG

/-! LgI: statements. -/
namespace LG
open PySem PySem.Spec PyProof.Rows L2

def PostS (P : Program) (w : World) (K : PySem.W.Frag) (f : Fm) (W : Nat → Sg → Hp → Prop) (r : R (Fl × Nat)) (D : Ends) : Prop :=
  match r with
  | .ok (.next env', c') => ∀ S' H' σ', Rel P w K f c' S' H' env' σ' → D.nx σ' H'
  | .ok (.ret d, c') => ∀ S' H' v, Gr f.T f.S0 f.H0 c' S' H' → Rep P w K S' d v → D.rt v H'
  | .exn k c0 => ∀ S' H' σ', Gr f.T f.S0 f.H0 c0 S' H' → W k σ' H'
  | .bad => False
def tSm (X : Cx) (C : Cn) (x : Sm) : TS := fun D σ H => ∃ f c S env, Rel X.prog X.w X.K f c S H env σ ∧ PostS X.prog X.w X.K f C.W (exS f.ns C.Φ C.gv x env c) D
def tSms (X : Cx) (C : Cn) (x : Sms) : TS := fun D σ H => ∃ f c S env, Rel X.prog X.w X.K f c S H env σ ∧ PostS X.prog X.w X.K f C.W (exSs f.ns C.Φ C.gv x env c) D
section
variable {X : Cx} {C : Cn} {pos : Pos}
/-- an expression, then a statement's rest -/
theorem PostS.ex {α β : Type} {P : Program} {w : World} {K : PySem.W.Frag} {f : Fm} {W : Nat → Sg → Hp → Prop} {rel : Hp → α → β → Prop} {c : Nat} {S H : Hp} {env : En} {σ : L2.St} {r : R (α × Nat)} {k : α → Nat → R (Fl × Nat)} {D : Ends} {Q : β → Hp → Prop}
    (rl : Rel P w K f c S H env σ) (h : PostS P w K f W (r.thn k) D) (hk : ∀ a c' S' H' b, r = .ok (a, c') → Gr f.T S H c' S' H' → rel S' a b → PostS P w K f W (k a c') D → Q b H') : Post f (fun k H' => W k σ H') rel S H r Q := by
  match r with
  | .ok (a, c') => exact fun S' H' b g q => hk a c' S' H' b rfl g q h
  | .exn k c0 => exact fun S' H' g => h S' H' σ (rl.gr g).ent
  | .bad => exact h
theorem PostS.exF {P : Program} {w : World} {K : PySem.W.Frag} {f : Fm} {W : Nat → Sg → Hp → Prop} {c : Nat} {S H : Hp} {env : En} {σ : L2.St} {r : R (D × Nat)} {k : D → Nat → R (Fl × Nat)} {E : Ends} {Q : VK}
    (rl : Rel P w K f c S H env σ) (h : PostS P w K f W (r.thn k) E) (hk : ∀ a c' S' H' p, r = .ok (a, c') → Gr f.T S H c' S' H' → H p = none → S' p = none → OwnAt P w K S' H' p a → PostS P w K f W (k a c') E → Q (.ref p) H') : PostF P w K f (fun k H' => W k σ H') S H r Q := by
  match r with
  | .ok (a, c') => exact fun S' H' p g h1 h2 o => hk a c' S' H' p rfl g h1 h2 o h
  | .exn k c0 => exact fun S' H' g => h S' H' σ (rl.gr g).ent
  | .bad => exact h
variable {i : Nat} {x : Str} {e : Expr} {xe : Ex} {p' : Pos}
theorem asg_key {te : TE} {σ : L2.St} {H : Hp} {D : Ends} (h : tSm X C (.asg i xe) D σ H) : tAsg (tE X C xe) (gName i) D σ H := by
  obtain ⟨f, c, S, env, rel, post⟩ := h
  rw [exS] at post
  exact ⟨f, c, S, env, rel, post.ex rel fun d c1 S1 H1 v _ g r post1 => post1 _ _ _ ((rel.gr g).set r)⟩
theorem new_key {te : TE} {σ : L2.St} {H : Hp} {D : Ends} (h : tSm X C (.new i xe) D σ H) : tAsg (tEF X C xe) (gName i) D σ H := by
  obtain ⟨f, c, S, env, rel, post⟩ := h
  rw [exS] at post
  refine ⟨f, c, S, env, rel, post.exF rel fun d c1 S1 H1 p _ g hp hs o post1 => post1 S1 H1 _ ?_⟩
  have rel1 := rel.gr g
  obtain ⟨u, hu⟩ := o.there
  have hpT : p ≠ f.T := fun z => by rw [z, rel.wf.tH] at hp; cases hp
  refine rel1.setOwn hs hpT ?_ o fun j e' hj he hσ => ?_
  · cases e0 : f.H0 p with
    | none => rfl
    | some u => rw [rel.ent.same p u hpT e0] at hp; cases hp
  · obtain ⟨a, h1, h2, h3, h4, h5⟩ := rel.own j e' he
    rw [h1] at hσ
    have ea : a = p := by simpa using hσ
    subst ea
    obtain ⟨u', hu'⟩ := h5.there
    rw [hu'] at hp
    cases hp
theorem ss_asg (hN : X.N.Nodup) (hi : X.N[i]? = some x) (hx : Loc X.env.scope x) (he : SE X C xe e) (hs : swapsWith e (some (.Name x p')) pos.line X.env = pure false) (hf : X.fn x = true ∨ X.env.scope.names.lookup x = some .local) : PS X (.Assign [.Name x p'] e pos) (tSm X C (.asg i xe)) :=
  (ps_set hN hi hx he.pe hs hf).lgi fun D σ H q => asg_key (te := tE X C xe) q
theorem ss_new (hN : X.N.Nodup) (hi : X.N[i]? = some x) (hx : Loc X.env.scope x) (he : PE X e (tEF X C xe)) (hs : swapsWith e (some (.Name x p')) pos.line X.env = pure false) (hf : X.fn x = true ∨ X.env.scope.names.lookup x = some .local) : PS X (.Assign [.Name x p'] e pos) (tSm X C (.new i xe)) :=
  (ps_set hN hi hx he hs hf).lgi fun D σ H q => new_key (te := tEF X C xe) q
theorem ss_ret (he : SE X C xe e) : PS X (.Return (some e) pos) (tSm X C (.ret xe)) := (ps_ret he.pe).lgi fun D σ H q => by
  obtain ⟨f, c, S, env, rel, post⟩ := q
  rw [exS] at post
  exact ⟨f, c, S, env, rel, post.ex rel fun d c1 S1 H1 v _ g r post1 => post1 S1 H1 v (rel.gr g).ent r⟩
theorem ss_exp (he : SE X C xe e) (hs : swapsWith e none pos.line X.env = pure false) : PS X (.Expr e pos) (tSm X C (.exp xe)) := (ps_expr he.pe hs).lgi fun D σ H q => by
  obtain ⟨f, c, S, env, rel, post⟩ := q
  rw [exS] at post
  exact ⟨f, c, S, env, rel, post.ex rel fun d c1 S1 H1 v _ g r post1 => post1 S1 H1 σ (rel.gr g)⟩
theorem ss_nop_pass : PS X (.Pass pos) (tSm X C .nop) := ps_pass.lgi fun D σ H q => by
  obtain ⟨f, c, S, env, rel, post⟩ := q
  rw [exS] at post
  exact post _ _ _ rel
theorem ss_nop_doc {s : Str} {j : Nat} {p1 : Pos} : PS X (.Expr (.Constant (.str s) j p1) pos) (tSm X C .nop) := ps_doc.lgi fun D σ H q => by
  obtain ⟨f, c, S, env, rel, post⟩ := q
  rw [exS] at post
  exact post _ _ _ rel
theorem ss_never {k : Nat} {st : Stmt} (hW : ∀ k σ H, ¬ C.W k σ H) : PS X st (tSm X C (.rse k)) := ps_never.lgi fun D σ H q => by
  obtain ⟨f, c, S, env, rel, post⟩ := q
  rw [exS] at post
  exact hW _ _ _ (post S H σ rel.ent)
theorem ss_if {t : Expr} {a b : List Stmt} {xt : Ex} {xa xb : Sms} (ht : SE X C xt t) (ha : PSs X a (tSms X C xa)) (hb : PSs X b (tSms X C xb)) : PS X (.If t a b pos) (tSm X C (.ife xt xa xb)) :=
  (ps_if ht.pt ha hb).lgi fun D σ H q => by
    obtain ⟨f, c, S, env, rel, post⟩ := q
    rw [exS] at post
    refine ⟨f, c, S, env, rel, ?_⟩
    cases ev : evE f.ns C.Φ C.gv xt env c with
    | exn k c0 => rw [ev] at post; exact fun S' H' g => post S' H' σ (rel.gr g).ent
    | bad => rw [ev] at post; exact post
    | ok pr =>
      obtain ⟨d, c1⟩ := pr
      rw [ev] at post
      cases d with
      | bool k =>
        intro S1 H1 k' g ek
        have ek : k = k' := ek
        subst ek
        cases k with
        | true => rw [if_pos rfl]; exact ⟨f, c1, S1, env, rel.gr g, post⟩
        | false => rw [if_neg Bool.false_ne_true]; exact ⟨f, c1, S1, env, rel.gr g, post⟩
      | _ => exact (show False from post).elim
/-! blocks -/
theorem sss_nil : PSs X [] (tSms X C .nil) := pss_nil.lgi fun D σ H q => by
  obtain ⟨f, c, S, env, rel, post⟩ := q
  rw [exSs] at post
  exact post _ _ _ rel
theorem sss_cons {st : Stmt} {r : List Stmt} {xs : Sm} {xr : Sms} (h1 : PS X st (tSm X C xs)) (h2 : PSs X r (tSms X C xr)) : PSs X (st :: r) (tSms X C (.cons xs xr)) := (pss_cons h1 h2).lgi fun D σ H q => by
  obtain ⟨f, c, S, env, rel, post⟩ := q
  rw [exSs] at post
  refine ⟨f, c, S, env, rel, ?_⟩
  match ev : exS f.ns C.Φ C.gv xs env c with
  | .ok (.next env', c') => rw [ev] at post; exact fun S' H' σ' rel' => ⟨f, c', S', env', rel', post⟩
  | .ok (.ret d, c') => rw [ev] at post; exact post
  | .exn k c0 => rw [ev] at post; exact post
  | .bad => rw [ev] at post; exact post
/-- a container is given away: no statement of the text -/
theorem sss_shr {r : List Stmt} {xr : Sms} (h : PSs X r (tSms X C xr)) : PSs X r (tSms X C (.cons (.shr i) xr)) := h.lgi fun D σ H q => by
  obtain ⟨f, c, S, env, rel, post⟩ := q
  rw [exSs, exS] at post
  cases e0 : env[i]? with
  | none => simp only [e0] at post; exact ⟨f, c, S, env, rel, post⟩
  | some sl =>
    cases sl with
    | own d =>
      simp only [e0] at post
      obtain ⟨S', rel'⟩ := rel.share e0
      exact ⟨f, c, S', _, rel', post⟩
    | _ => simp only [e0] at post; exact ⟨f, c, S, env, rel, post⟩
/-! loops -/
/-- the frame, with a mark: what is shared now stays shared -/
def Fm.mark (f : Fm) (S : Hp) : Fm := { f with lb := S }
theorem Rel.mark {P : Program} {w : World} {K : PySem.W.Frag} {f : Fm} {c : Nat} {S S1 H : Hp} {env : En} {σ : L2.St} (r : Rel P w K f c S H env σ) (h : Sub S1 S) : Rel P w K (f.mark S1) c S H env σ :=
  ⟨r.wf, r.wf0, r.ent, h, r.len, r.val, r.scr, r.twn, r.own, r.dist⟩
theorem Rel.unmark {P : Program} {w : World} {K : PySem.W.Frag} {f : Fm} {c : Nat} {S S1 H : Hp} {env : En} {σ : L2.St} (r : Rel P w K (f.mark S1) c S H env σ) (h : Sub f.lb S1) : Rel P w K f c S H env σ :=
  ⟨r.wf, r.wf0, r.ent, fun a o q => r.low a o (h a o q), r.len, r.val, r.scr, r.twn, r.own, r.dist⟩
/-- what a loop's body leaves -/
theorem PostS.turn {P : Program} {w : World} {K : PySem.W.Frag} {f : Fm} {W : Nat → Sg → Hp → Prop} {S1 : Hp} {r : R (Fl × Nat)} {k : En → Nat → R (Fl × Nat)} {D : Ends} {N : Sg → Hp → Prop} (hl : Sub f.lb S1)
    (h : PostS P w K f W (match r with | .ok (.next env2, c) => k env2 c | .ok (.ret d, c) => .ok (.ret d, c) | .exn k c0 => .exn k c0 | .bad => .bad) D)
    (hk : ∀ env2 c2 S2 H2 σ2, Rel P w K f c2 S2 H2 env2 σ2 → Sub S1 S2 → PostS P w K f W (k env2 c2) D → N σ2 H2) : PostS P w K (f.mark S1) W r { D with nx := N, ct := N, bk := D.nx } := by
  match r with
  | .ok (.next env2, c2) => exact fun S2 H2 σ2 r2 => hk env2 c2 S2 H2 σ2 (r2.unmark hl) r2.low h
  | .ok (.ret d, c2) => exact h
  | .exn k c0 => exact h
  | .bad => exact h
theorem ss_for {tg iter : Expr} {body : List Stmt} {xt : Tg} {it : Itx} {xb : Sms} (hp : PassesOwn (model X.prog X.w) X.A X.env X.xe) (hc : X.calm = true) (hi : PI X tg iter (tI X C it)) (hg : PG X tg (tG X xt)) (hb : PSs X body (tSms X C xb)) (hs : ∀ x, foldedSetIterable iter X.env x = pure x) :
    PS X (.For tg iter body [] pos) (tSm X C (.for' xt it xb)) := (ps_for hp hc hi hg hb hs).lgi fun D σ H q => by
  obtain ⟨f, c, S, env, rel, post⟩ := q
  rw [exS] at post
  refine ⟨f, c, S, env, rel, post.ex rel fun ds c1 S1 H1 J _ g1 Y post1 => ?_⟩
  have rel1 := rel.gr g1
  refine ⟨fun i m σ2 H2 => m = ds.length - i ∧ i ≤ ds.length ∧ ∃ c2 S2 env2, Rel X.prog X.w X.K f c2 S2 H2 env2 σ2 ∧ Sub S1 S2 ∧ PostS X.prog X.w X.K f C.W (forL xt (fun env c => exSs f.ns C.Φ C.gv xb env c) (ds.drop i) env2 c2) D,
    ⟨ds.length, rfl, Nat.zero_le _, c1, S1, env, rel1, fun _ _ h => h, by rw [List.drop_zero]; exact post1⟩, ?_⟩
  rintro i m σ2 H2 ⟨rfl, hi, c2, S2, env2, rel2, hsub, k5⟩
  by_cases hlt : i < ds.length
  · have hget : ds[i]? = some ds[i] := List.getElem?_eq_getElem hlt
    rw [List.drop_eq_getElem_cons hlt] at k5
    obtain ⟨hgo, hy⟩ := Y.go i ds[i] S2 H2 hget hsub rel2.wf.inn
    refine .inr ⟨hgo, fun σ3 H3 => ∃ c2 S2 env2, Rel X.prog X.w X.K f c2 S2 H3 env2 σ3 ∧ Sub S1 S2 ∧ PostS X.prog X.w X.K f C.W (forL xt (fun env c => exSs f.ns C.Φ C.gv xb env c) (ds.drop (i + 1)) env2 c2) D,
      fun σ3 H3 h3 => ⟨ds.length - (i + 1), by omega, rfl, hlt, h3⟩, fun v H3 y => ?_⟩
    obtain ⟨S3, e3, r3⟩ := hy v H3 y
    have rel3 := rel2.gr (e3.gr rel2.wf)
    simp only [forL] at k5
    cases eT : asgT xt ds[i] env2 with
    | none => simp only [eT] at k5; exact (show False from k5).elim
    | some env3 =>
      simp only [eT] at k5
      refine ⟨f, c2, S3, env2, ds[i], env3, rel3, r3, eT, fun σ4 rel4 _ => ⟨f.mark S1, c2, S3, env3, rel4.mark fun a o h => e3.sub a o (hsub a o h), ?_⟩⟩
      exact PostS.turn rel1.low k5 fun env5 c5 S5 H5 σ5 rel5 h5 k6 => ⟨c5, S5, env5, rel5, h5, k6⟩
  · have e : i = ds.length := by omega
    subst e
    rw [List.drop_length] at k5
    exact .inl ⟨Y.stop _ S2 H2 (Nat.le_refl _) hsub rel2.wf.inn, k5 S2 H2 σ2 rel2⟩
theorem ss_while {t : Expr} {body : List Stmt} {xt : Ex} {fuel : Nat} {xb : Sms} (hp : PassesOwn (model X.prog X.w) X.A X.env X.xe) (ht : SE X C xt t) (hb : PSs X body (tSms X C xb)) :
    PS X (.While t body [] pos) (tSm X C (.whl fuel xt xb)) := (ps_while hp ht.pt hb).lgi fun D σ H q => by
  obtain ⟨f, c, S, env, rel, post⟩ := q
  rw [exS] at post
  refine ⟨fun m σ2 H2 => ∃ c2 S2 env2, Rel X.prog X.w X.K f c2 S2 H2 env2 σ2 ∧ PostS X.prog X.w X.K f C.W (whlL (fun env c => evE f.ns C.Φ C.gv xt env c) (fun env c => exSs f.ns C.Φ C.gv xb env c) m env2 c2) D, ⟨fuel, c, S, env, rel, post⟩, ?_⟩
  rintro m σ2 H2 ⟨c2, S2, env2, rel2, k5⟩
  cases m with
  | zero => exact (show False from k5).elim
  | succ m =>
    simp only [whlL] at k5
    refine ⟨f, c2, S2, env2, rel2, ?_⟩
    cases ev : evE f.ns C.Φ C.gv xt env2 c2 with
    | exn k c0 => rw [ev] at k5; exact fun S' H' g => k5 S' H' σ2 (rel2.gr g).ent
    | bad => rw [ev] at k5; exact k5
    | ok pr =>
      obtain ⟨d, c3⟩ := pr
      rw [ev] at k5
      cases d with
      | bool k =>
        intro S1 H1 k' g ek
        have ek : k = k' := ek
        subst ek
        have rel3 := rel2.gr g
        cases k with
        | true =>
          rw [if_pos rfl]
          exact ⟨fun σ' H' => ∃ c2 S2 env2, Rel X.prog X.w X.K f c2 S2 H' env2 σ' ∧ PostS X.prog X.w X.K f C.W (whlL (fun env c => evE f.ns C.Φ C.gv xt env c) (fun env c => exSs f.ns C.Φ C.gv xb env c) m env2 c2) D,
            fun σ' H' h' => ⟨m, Nat.lt_succ_self m, h'⟩, f.mark S1, c3, S1, env2, rel3.mark fun _ _ h => h, PostS.turn rel3.low k5 fun env5 c5 S5 H5 σ5 rel5 _ k6 => ⟨c5, S5, env5, rel5, k6⟩⟩
        | false => rw [if_neg Bool.false_ne_true]; exact k5 _ _ _ rel3
      | _ => exact (show False from k5).elim
end
end LG

/-! LgJ: comprehensions as values, assignments of several names, changes of a container. -/
namespace LG
open PySem PySem.Spec PyProof.Rows L2

section
variable {X : Cx} {C : Cn} {pos : Pos}
/-! ### comprehensions -/
/-- all that is asked of a comprehension's parts -/
structure LcOk (X : Cx) (C : Cn) (vs : List Nat) (xt : Tg) (it : Itx) (xi : Exo) (xe : Ex) (elt tg iter : Expr) (ifs : List Expr) (scope : Scope) (own : List (Str × Nat)) : Prop where
  hv : own.map (·.2) = vs
  ht : ∀ j ∈ tgN xt, j ∈ vs
  hi : PI X tg iter (tI X C it)
  ok : BlkOk X.N X.env.scope scope own
  hg : ∀ (s : Shared) (H : Hp) (c : Addr) (cl : List (Str × Addr)) (fp : List Addr), PG (X.blk s H scope (compEnvC scope cl c X.env) fp) tg (tG X xt)
  hf : ∀ (s : Shared) (H : Hp) (c : Addr) (cl : List (Str × Addr)) (fp : List Addr), PTs (X.blk s H scope (compEnvC scope cl c X.env) fp) ifs (tIfs X C.blk xi)
  he : ∀ (s : Shared) (H : Hp) (c : Addr) (cl : List (Str × Addr)) (fp : List Addr), PE (X.blk s H scope (compEnvC scope cl c X.env) fp) elt (tE X C.blk xe)
  hs : ∀ x, foldedSetIterable iter X.env x = pure x
section
variable {vs : List Nat} {xt : Tg} {it : Itx} {xi : Exo} {xe : Ex} {elt tg iter : Expr} {ifs : List Expr} {scope : Scope} {own : List (Str × Nat)} {i : Nat} {y : Str} {py spos : Pos}
theorem sf_comp (hc : X.calm = true) (hN : X.N.Nodup) (o : LcOk X C vs xt it xi xe elt tg iter ifs scope own) : PE X (.ListComp elt [⟨tg, iter, ifs, 0⟩] scope pos) (tEF X C (.comp vs xt it xi xe)) :=
  (pe_lc hc hN o.hi o.ok o.hg o.hf o.he o.hs).lgi fun σ H Q q => by
    have e := o.hv
    have h := tLc_of o.ht q
    rw [e]
    exact h
theorem se_comp (hc : X.calm = true) (hN : X.N.Nodup) (o : LcOk X C vs xt it xi xe elt tg iter ifs scope own) : SE X C (.comp vs xt it xi xe) (.ListComp elt [⟨tg, iter, ifs, 0⟩] scope pos) := se_ofF (sf_comp hc hN o)
theorem asgF_key {x : Ex} {σ : L2.St} {H : Hp} {D : Ends} (h : tSm X C (.asg i x) D σ H) : tAsg (tEF X C x) (gName i) D σ H := by
  obtain ⟨f, c, S, env, rel, post⟩ := asg_key (te := tE X C x) h
  exact ⟨f, c, S, env, rel, .of post⟩
theorem ss_newLc (hc : X.calm = true) (hN : X.N.Nodup) (hy : X.N[i]? = some y) (hyl : X.env.scope.names.lookup y = some .local) (hsw : swapsWith (.ListComp elt [⟨tg, iter, ifs, 0⟩] scope pos) (some (.Name y py)) spos.line X.env = pure true)
    (o : LcOk X C vs xt it xi xe elt tg iter ifs scope own) : PS X (.Assign [.Name y py] (.ListComp elt [⟨tg, iter, ifs, 0⟩] scope pos) spos) (tSm X C (.new i (.comp vs xt it xi xe))) :=
  (ps_setLc hc hN hy hyl hsw o.hi o.ok o.hg o.hf o.he o.hs).lgi fun D σ H q => by
    have h := new_key (te := tE X C (.comp vs xt it xi xe)) q
    have h2 := tLc_of o.ht h
    show tLc _ _ _ _ (own.map (·.2)) _ _ _
    rw [o.hv]
    exact h2
theorem ss_asgLc (hc : X.calm = true) (hN : X.N.Nodup) (hy : X.N[i]? = some y) (hyl : X.env.scope.names.lookup y = some .local) (hsw : swapsWith (.ListComp elt [⟨tg, iter, ifs, 0⟩] scope pos) (some (.Name y py)) spos.line X.env = pure true)
    (o : LcOk X C vs xt it xi xe elt tg iter ifs scope own) : PS X (.Assign [.Name y py] (.ListComp elt [⟨tg, iter, ifs, 0⟩] scope pos) spos) (tSm X C (.asg i (.comp vs xt it xi xe))) :=
  (ps_setLc hc hN hy hyl hsw o.hi o.ok o.hg o.hf o.he o.hs).lgi fun D σ H q => by
    have h := asgF_key q
    have h2 := tLc_of o.ht h
    show tLc _ _ _ _ (own.map (·.2)) _ _ _
    rw [o.hv]
    exact h2
end
/-! ### several names at once -/
inductive RepF (P : Program) (w : World) (K : PySem.W.Frag) (S H : Hp) : Hp → List Bool → List D → List V → Prop where
  | nil {H0 : Hp} : RepF P w K S H H0 [] [] []
  | val {H0 : Hp} {bs : List Bool} {ds : List D} {vs : List V} {d : D} {v : V} : Rep P w K S d v → RepF P w K S H H0 bs ds vs → RepF P w K S H H0 (false :: bs) (d :: ds) (v :: vs)
  | own {H0 Hm : Hp} {bs : List Bool} {ds : List D} {vs : List V} {d : D} {p : Addr} : OwnAt P w K S H p d → S p = none → H0 p = none → Hm p ≠ none → (∀ a, H0 a ≠ none → Hm a ≠ none) → RepF P w K S H Hm bs ds vs → RepF P w K S H H0 (true :: bs) (d :: ds) (.ref p :: vs)
theorem RepF.weak {P : Program} {w : World} {K : PySem.W.Frag} {S H H1 : Hp} {bs : List Bool} {ds : List D} {vs : List V} (h : RepF P w K S H H1 bs ds vs) : ∀ {H0 : Hp}, (∀ a, H0 a ≠ none → H1 a ≠ none) → RepF P w K S H H0 bs ds vs := by
  induction h with
  | nil => exact fun _ => .nil
  | val r _ ih => exact fun q => .val r (ih q)
  | @own H1 Hm bs ds vs d p o s n m t r ih => exact fun {H0} q => .own o s (by
      cases e : H0 p with
      | none => rfl
      | some u => exact (q p (by rw [e]; exact fun z => by cases z) n).elim) m (fun a ha => t a (q a ha)) r
theorem RepF.length {P : Program} {w : World} {K : PySem.W.Frag} {S H H0 : Hp} {bs : List Bool} {ds : List D} {vs : List V} (h : RepF P w K S H H0 bs ds vs) : ds.length = vs.length := by
  induction h with
  | nil => rfl
  | val r _ ih => simp [ih]
  | own _ _ _ _ _ _ ih => simp [ih]
def PostA (P : Program) (w : World) (K : PySem.W.Frag) (f : Fm) (W : Nat → Hp → Prop) (bs : List Bool) (S H : Hp) (r : R (List D × Nat)) (Q : List V → Hp → Prop) : Prop :=
  match r with
  | .ok (ds, c') => ∀ S' H' vs, Gr f.T S H c' S' H' → RepF P w K S' H' H bs ds vs → Q vs H'
  | .exn k c0 => ∀ S' H', Gr f.T S H c0 S' H' → W k H'
  | .bad => False
def tAF (X : Cx) (C : Cn) (bs : List Bool) (x : Exs) : TA := fun σ H Q => ∃ f c S env, Rel X.prog X.w X.K f c S H env σ ∧ PostA X.prog X.w X.K f (fun k H' => C.W k σ H') bs S H (evA f.ns C.Φ C.gv x env c) Q
theorem Gr.kept {T : Addr} {S H S' H' : Hp} {c' : Nat} (g : Gr T S H c' S' H') : ∀ a, H a ≠ none → H' a ≠ none := fun a h => by
  cases e : H a with
  | none => exact (h e).elim
  | some u =>
    by_cases z : a = T
    · subst z; rw [g.town]; exact fun z => by cases z
    · rw [g.same a u z e]; exact fun z => by cases z
theorem saf_nil : PA X [] (tAF X C [] .nil) := pa_nil.lgi fun σ H Q q => by
  obtain ⟨f, c, S, env, rel, post⟩ := q
  rw [evA] at post
  exact post _ _ _ rel.wf.refl .nil
theorem saf_val {e : Expr} {es : List Expr} {x : Ex} {xs : Exs} {bs : List Bool} (he : SE X C x e) (hr : PA X es (tAF X C bs xs)) (hs : NoStar e) : PA X (e :: es) (tAF X C (false :: bs) (.cons x xs)) :=
  (pa_cons he.pe hr (hs _ _)).lgi fun σ H Q q => by
    obtain ⟨f, c, S, env, rel, post⟩ := q
    rw [evA] at post
    refine ⟨f, c, S, env, rel, ?_⟩
    match ev : evE f.ns C.Φ C.gv x env c with
    | .bad => rw [ev] at post; exact post
    | .exn k c0 => rw [ev] at post; exact post
    | .ok (u, c1) =>
      rw [ev] at post
      intro S1 H1 v1 g1 r1
      have rel1 := rel.gr g1
      refine ⟨f, c1, S1, env, rel1, ?_⟩
      have post : PostA X.prog X.w X.K f (fun k H' => C.W k σ H') (false :: bs) S H ((evA f.ns C.Φ C.gv xs env c1).thn fun xs c => .ok (u :: xs, c)) Q := post
      match ev2 : evA f.ns C.Φ C.gv xs env c1 with
      | .bad => rw [ev2] at post; exact post
      | .exn k c0 => rw [ev2] at post; exact fun S' H' g => post S' H' (g1.trans rel.wf g)
      | .ok (ds, c2) =>
        rw [ev2] at post
        exact fun S2 H2 vs g2 r2 => post S2 H2 _ (g1.trans rel.wf g2) (.val (r1.sub g2.sub) (r2.weak g1.kept))
theorem saf_own {e : Expr} {es : List Expr} {x : Ex} {xs : Exs} {bs : List Bool} (he : PE X e (tEF X C x)) (hr : PA X es (tAF X C bs xs)) (hs : NoStar e) : PA X (e :: es) (tAF X C (true :: bs) (.cons x xs)) :=
  (pa_cons he hr (hs _ _)).lgi fun σ H Q q => by
    obtain ⟨f, c, S, env, rel, post⟩ := q
    rw [evA] at post
    refine ⟨f, c, S, env, rel, ?_⟩
    match ev : evE f.ns C.Φ C.gv x env c with
    | .bad => rw [ev] at post; exact post
    | .exn k c0 => rw [ev] at post; exact post
    | .ok (u, c1) =>
      rw [ev] at post
      intro S1 H1 p g1 hp hs o1
      have rel1 := rel.gr g1
      refine ⟨f, c1, S1, env, rel1, ?_⟩
      have post : PostA X.prog X.w X.K f (fun k H' => C.W k σ H') (true :: bs) S H ((evA f.ns C.Φ C.gv xs env c1).thn fun xs c => .ok (u :: xs, c)) Q := post
      match ev2 : evA f.ns C.Φ C.gv xs env c1 with
      | .bad => rw [ev2] at post; exact post
      | .exn k c0 => rw [ev2] at post; exact fun S' H' g => post S' H' (g1.trans rel.wf g)
      | .ok (ds, c2) =>
        rw [ev2] at post
        intro S2 H2 vs g2 r2
        obtain ⟨u1, hu1⟩ := o1.there
        have pT : p ≠ f.T := fun z => by rw [z, rel.wf.tH] at hp; cases hp
        refine post S2 H2 _ (g1.trans rel.wf g2) (.own (o1.gr g2 pT) ?_ hp (by rw [hu1]; exact fun z => by cases z) g1.kept r2)
        cases q : S2 p with
        | none => rfl
        | some o =>
          rcases g2.new p o q with z | z
          · rw [hs] at z; cases z
          · rw [hu1] at z; cases z
def setV : List (Nat × Bool) → List V → L2.St → L2.St
  | (i, _) :: is, v :: vs, σ => setV is vs (σ.set i (some v))
  | _, _, σ => σ
theorem Rel.setAll {P : Program} {w : World} {K : PySem.W.Frag} {f : Fm} {c : Nat} {S H : Hp} : ∀ {is : List (Nat × Bool)} {ds : List D} {vs : List V} {H0 : Hp} {env env' : En} {σ : L2.St}, Rel P w K f c S H env σ → LG.setAll is ds env = some env' → RepF P w K S H H0 (is.map (·.2)) ds vs →
    (∀ a, f.H0 a ≠ none → H0 a ≠ none) → H0 f.T ≠ none → (∀ (j : Nat) (e : D) (a : Addr), env[j]? = some (.own e) → σ[j]? = some (some (.ref a)) → H0 a ≠ none) → Rel P w K f c S H env' (setV is vs σ) := by
  intro is
  induction is with
  | nil =>
    intro ds vs H0 env env' σ rel h r _ _ _
    cases r
    simp only [LG.setAll] at h
    cases h
    exact rel
  | cons ib is ih =>
    obtain ⟨i, b⟩ := ib
    intro ds vs H0 env env' σ rel h r k1 k2 k3
    cases r with
    | @val _ _ ds vs d v r1 rr =>
      simp only [LG.setAll] at h
      refine ih (rel.set (i := i) r1) h rr k1 k2 fun j e a hj ha => ?_
      by_cases hij : i = j
      · subst hij
        by_cases hl : i < env.length
        · rw [List.getElem?_set_self hl] at hj; cases hj
        · rw [List.getElem?_eq_none (by simpa using hl)] at hj; cases hj
      · rw [List.getElem?_set_ne hij] at hj ha
        exact k3 j e a hj ha
    | @own _ Hm _ ds vs d p o s n m t rr =>
      simp only [LG.setAll, if_true] at h
      refine ih (rel.setOwn (i := i) s (fun z => k2 (z ▸ n)) ?_ o fun j e hij hj ha => ?_) h rr (fun a ha => t a (k1 a ha)) (t _ k2) fun j e a hj ha => ?_
      · cases e : f.H0 p with
        | none => rfl
        | some u => exact (k1 p (by rw [e]; exact fun z => by cases z) n).elim
      · exact k3 j e p hj ha n
      · by_cases hij : i = j
        · subst hij
          by_cases hl : i < env.length
          · rw [List.getElem?_set_self (by rw [← rel.len]; exact hl)] at ha
            have z : p = a := by simpa using ha
            subst z
            exact m
          · rw [List.getElem?_eq_none (by simpa using hl)] at hj; cases hj
        · rw [List.getElem?_set_ne hij] at hj ha
          exact t a (k3 j e a hj ha)
/-- the key step: the values are there, the names take them -/
theorem par_key {is : List (Nat × Bool)} {xs : Exs} {D : Ends} {σ : L2.St} {H : Hp} (h : tSm X C (.par is xs) D σ H) :
    tAF X C (is.map (·.2)) xs σ H fun vs H1 => (vs.length = is.length ∧ D.nx (setV is vs σ) H1) ∧ ∀ p, H1 p = none → D.nx (setV is vs σ) (upd H1 p (.tup vs)) := by
  obtain ⟨f, c, S, env, rel, post⟩ := h
  rw [exS] at post
  refine ⟨f, c, S, env, rel, ?_⟩
  match ev : evA f.ns C.Φ C.gv xs env c with
  | .bad => rw [ev] at post; exact post
  | .exn k c0 => rw [ev] at post; exact fun S' H' g => post S' H' σ (rel.gr g).ent
  | .ok (ds, c1) =>
    rw [ev] at post
    intro S1 H1 vs g1 r1
    have rel1 := rel.gr g1
    simp only [R.thn_ok] at post
    cases e2 : LG.setAll is ds env with
    | none => rw [e2] at post; exact (show False from post).elim
    | some env' =>
      rw [e2] at post
      have fin : ∀ {S2 H2 : Hp}, Rel X.prog X.w X.K f c1 S2 H2 env σ → RepF X.prog X.w X.K S2 H2 H (is.map (·.2)) ds vs → D.nx (setV is vs σ) H2 := fun {S2 H2} rel2 r2 => by
        refine post S2 H2 _ (Rel.setAll rel2 e2 r2 ?_ ?_ ?_)
        · exact rel.ent.kept
        · rw [rel.wf.tH]; exact fun z => by cases z
        · intro j e a hj ha
          obtain ⟨a', q1, q2, q3, q4, q5⟩ := rel.own j e hj
          rw [q1] at ha
          have z : a' = a := by simpa using ha
          subst z
          obtain ⟨u, hu⟩ := q5.there
          rw [hu]; exact fun z => by cases z
      refine ⟨⟨?_, fin rel1 r1⟩, fun p hp => ?_⟩
      · have : ∀ {bs : List Bool} {ds : List LG.D} {vs : List V} {H0 : Hp}, RepF X.prog X.w X.K S1 H1 H0 bs ds vs → vs.length = bs.length := fun {bs ds vs H0} q => by
          induction q with
          | nil => rfl
          | val _ _ ih => simp [ih]
          | own _ _ _ _ _ _ ih => simp [ih]
        rw [this r1, List.length_map]
      · have g2 := rel1.wf.laid hp (.tup vs)
        have rel2 := rel1.gr g2
        refine fin rel2 ?_
        have : ∀ {bs : List Bool} {ds : List LG.D} {us : List V} {H0 : Hp}, RepF X.prog X.w X.K S1 H1 H0 bs ds us → H0 f.T ≠ none → RepF X.prog X.w X.K S1 (upd H1 p (.tup vs)) H0 bs ds us := fun {bs ds us H0} q => by
          induction q with
          | nil => exact fun _ => .nil
          | val a _ ih => exact fun z => .val a (ih z)
          | own o s n m t _ ih => exact fun z => .own (o.gr g2 (fun e => z (e ▸ n))) s n m t (ih (t _ z))
        exact this r1 (by rw [rel.wf.tH]; exact fun z => by cases z)
theorem ss_par2 {i j : Nat} {bi bj : Bool} {x y : Str} {a b : Expr} {xs : Exs} {px py pt : Pos} {kt k2 pt2} (hc : X.calm = true) (hN : X.N.Nodup) (hi : X.N[i]? = some x) (hj : X.N[j]? = some y) (hij : i ≠ j)
    (hx : X.env.scope.names.lookup x = some .local) (hy : X.env.scope.names.lookup y = some .local) (ha : PA X [a, b] (tAF X C [bi, bj] xs))
    (hw : swappedStores [.Tuple [.Name x px, .Name y py] kt pt] (.Tuple [a, b] k2 pt2) X.env = pure (some [x, y])) : PS X (.Assign [.Tuple [.Name x px, .Name y py] kt pt] (.Tuple [a, b] k2 pt2) pos) (tSm X C (.par [(i, bi), (j, bj)] xs)) :=
  (ps_par hc hN hi hj hij hx hy ha hw).lgi fun D σ H q => by
    obtain ⟨f, c, S, env, rel, post⟩ := par_key q
    refine ⟨f, c, S, env, rel, ?_⟩
    match ev : evA f.ns C.Φ C.gv xs env c with
    | .bad => rw [ev] at post; exact post
    | .exn k c0 => rw [ev] at post; exact post
    | .ok (ds, c1) =>
      rw [ev] at post
      intro S' H' vs g r
      obtain ⟨⟨l, n⟩, _⟩ := post S' H' vs g r
      match vs, l, n with
      | [v, w], _, n => exact ⟨v, w, rfl, n⟩
theorem ss_par3 {i j l : Nat} {bi bj bl : Bool} {x y z : Str} {a b c : Expr} {xs : Exs} {px py pz pt : Pos} {kt k2 pt2} (hc : X.calm = true) (hN : X.N.Nodup) (hi : X.N[i]? = some x) (hj : X.N[j]? = some y) (hl : X.N[l]? = some z) (hij : i ≠ j) (hil : i ≠ l) (hjl : j ≠ l)
    (hx : X.env.scope.names.lookup x = some .local) (hy : X.env.scope.names.lookup y = some .local) (hz : X.env.scope.names.lookup z = some .local) (ha : PA X [a, b, c] (tAF X C [bi, bj, bl] xs))
    (hw : swappedStores [.Tuple [.Name x px, .Name y py, .Name z pz] kt pt] (.Tuple [a, b, c] k2 pt2) X.env = pure (some [x, y, z])) : PS X (.Assign [.Tuple [.Name x px, .Name y py, .Name z pz] kt pt] (.Tuple [a, b, c] k2 pt2) pos) (tSm X C (.par [(i, bi), (j, bj), (l, bl)] xs)) :=
  (ps_par3 hc hN hi hj hl hij hil hjl hx hy hz ha hw).lgi fun D σ H q => by
    obtain ⟨f, c, S, env, rel, post⟩ := par_key q
    refine ⟨f, c, S, env, rel, ?_⟩
    match ev : evA f.ns C.Φ C.gv xs env c with
    | .bad => rw [ev] at post; exact post
    | .exn k c0 => rw [ev] at post; exact post
    | .ok (ds, c1) =>
      rw [ev] at post
      intro S' H' vs g r
      obtain ⟨⟨l, n⟩, _⟩ := post S' H' vs g r
      match vs, l, n with
      | [u, v, w], _, n => exact ⟨u, v, w, rfl, n⟩
/-- names, one by one -/
def gNames : List (Nat × Bool) → TGs
  | [] => gNil
  | (i, _) :: is => gCons (gName i) (gNames is)
theorem gNames_of : ∀ {is : List (Nat × Bool)} {vs : List V} {σ : L2.St} {H : Hp} {Q : L2.St → Hp → Prop}, vs.length = is.length → Q (setV is vs σ) H → gNames is vs σ H Q
  | [], [], _, _, _, _, q => ⟨rfl, q⟩
  | (i, b) :: is, v :: vs, σ, H, Q, l, q => ⟨v, vs, rfl, gNames_of (by simpa using l) q⟩
/-- when the tuple is made -/
theorem ss_parT {is : List (Nat × Bool)} {es ts : List Expr} {xs : Exs} {pt : Pos} {kt k2 pt2} (hc : X.calm = true) (ht : PGs X ts (gNames is)) (ha : PA X es (tAF X C (is.map (·.2)) xs)) (hl : is.length ≤ LIM)
    (hn : (assignEach ts X.env).length = is.length) (hst : (assignEach ts X.env).findIdx? (·.1) = none) (hw : swappedStores [.Tuple ts kt pt] (.Tuple es k2 pt2) X.env = pure none) :
    PS X (.Assign [.Tuple ts kt pt] (.Tuple es k2 pt2) pos) (tSm X C (.par is xs)) :=
  (ps_asg (pe_tup ha) (pg_tup hc ht hn hst) rfl hw rfl).lgi fun D σ H q => by
    obtain ⟨f, c, S, env, rel, post⟩ := par_key q
    refine ⟨f, c, S, env, rel, ?_⟩
    match ev : evA f.ns C.Φ C.gv xs env c with
    | .bad => rw [ev] at post; exact post
    | .exn k c0 => rw [ev] at post; exact post
    | .ok (ds, c1) =>
      rw [ev] at post
      intro S' H' vs g r
      obtain ⟨⟨l, _⟩, n⟩ := post S' H' vs g r
      exact ⟨by have := LIM_le; omega, fun p hp => ⟨p, vs, rfl, SqT.of upd_same, l, gNames_of l (n p hp)⟩⟩
/-- a tuple is taken apart -/
theorem ss_unp {is : List Nat} {e : Expr} {ts : List Expr} {xe : Ex} {pt : Pos} {kt : Nat} (hc : X.calm = true) (he : SE X C xe e) (ht : PGs X ts (tGs X is))
    (hn : (assignEach ts X.env).length = is.length) (hst : (assignEach ts X.env).findIdx? (·.1) = none) (hs : swapsWith e (some (.Tuple ts kt pt)) pos.line X.env = pure false) (hw : swappedStores [.Tuple ts kt pt] e X.env = pure none) :
    PS X (.Assign [.Tuple ts kt pt] e pos) (tSm X C (.unp is xe)) :=
  (ps_asg he.pe (sg_tup hc ht hn hst) hs hw rfl).lgi fun D σ H q => by
    obtain ⟨f, c, S, env, rel, post⟩ := q
    rw [exS] at post
    refine ⟨f, c, S, env, rel, post.ex rel fun d c1 S1 H1 v _ g r post1 => ?_⟩
    cases d with
    | tuple ds =>
      simp only at post1
      cases e2 : asgN is ds env with
      | none => rw [e2] at post1; exact (show False from post1).elim
      | some env' =>
        rw [e2] at post1
        exact ⟨f, c1, S1, env, .tuple ds, env', rel.gr g, r, e2, fun σ' rel' _ => post1 _ _ _ rel'⟩
    | _ => exact (show False from post1).elim
/-! ### changes of a container -/
/-- what is known of a frame's own list -/
theorem Rel.ownL {P : Program} {w : World} {K : PySem.W.Frag} {f : Fm} {c : Nat} {S H : Hp} {env : En} {σ : L2.St} (rel : Rel P w K f c S H env σ) {i : Nat} {ds : List D} (e : env[i]? = some (.own (.list ds))) :
    ∃ a vs, σ[i]? = some (some (.ref a)) ∧ S a = none ∧ a ≠ f.T ∧ f.H0 a = none ∧ H a = some (.lst vs) ∧ ds.length ≤ LIM ∧ Reps P w K S ds vs := by
  obtain ⟨a, h1, h2, h3, h4, h5⟩ := rel.own i _ e
  cases h5 with
  | lst q l r => exact ⟨a, _, h1, h2, h3, h4, q, l, r⟩
theorem Reps.app {P : Program} {w : World} {K : PySem.W.Frag} {S : Hp} : ∀ {ds es : List D} {vs us : List V}, Reps P w K S ds vs → Reps P w K S es us → Reps P w K S (ds ++ es) (vs ++ us)
  | [], _, _, _, h, q => by cases h; exact q
  | d :: ds, _, _, _, h, q => by
    cases h with
    | cons r t => exact .cons r (Reps.app t q)
theorem Reps.setAt {P : Program} {w : World} {K : PySem.W.Frag} {S : Hp} {d : D} {v : V} (r : Rep P w K S d v) : ∀ {ds : List D} {vs : List V} (j : Nat), Reps P w K S ds vs → Reps P w K S (ds.set j d) (vs.set j v)
  | [], _, _, h => by cases h; exact .nil
  | _ :: _, _, 0, h => by
    cases h with
    | cons _ t => exact .cons r t
  | _ :: _, _, j + 1, h => by
    cases h with
    | cons q t => exact .cons q (Reps.setAt r j t)
theorem ss_app {i : Nat} {y : Str} {e : Expr} {xe : Ex} {p apos cpos : Pos} (hy : PE X (.Name y p) (tVar i)) (he : SE X C xe e) (hs : NoStar e) (hl : (apos.endLine == cpos.line) = true) :
    PS X (.Expr (.Call (.Attribute (.Name y p) "append" apos) [e] [] cpos) pos) (tSm X C (.app i xe)) :=
  (ps_expr (pe_bm PySem.F.plainAttrs_list PySem.F.slot_list_append PySem.F.type_list_append mt_append hy (pa_cons he.pe pa_nil (hs _ _)) rfl (by rw [hs]; rfl) hl (hs _ _) rfl)).lgi fun D σ H q => by
    obtain ⟨f, c, S, env, rel, post⟩ := q
    rw [exS] at post
    cases e0 : env[i]? with
    | none => simp only [e0] at post; exact (show False from post).elim
    | some sl =>
      cases sl with
      | own dd =>
        cases dd with
        | list ds =>
          simp only [e0] at post
          obtain ⟨a, vs, h1, h2, h3, h4, h5, h6, h7⟩ := rel.ownL e0
          refine ⟨_, h1, .inl ⟨rfl, vs, SqL.of h5⟩, f, c, S, env, rel, post.ex rel fun d c1 S1 H1 v _ g r post1 => ?_⟩
          split at post1
          · rename_i hlt
            have rel1 := rel.gr g
            obtain ⟨a', vs', k1, k2, k3, k4, k5, k6, k7⟩ := rel1.ownL e0
            rw [h1] at k1
            have z : a = a' := by simpa using k1
            subst z
            refine ⟨a, vs', v, rfl, rfl, k5, by have := LIM_le; have := k7.length; omega, post1 S1 _ σ ?_⟩
            exact rel1.write e0 h1 (.lst upd_same (by simp; omega) (Reps.app k7 (.cons r .nil)))
          · exact (show False from post1).elim
        | _ => simp only [e0] at post; exact (show False from post).elim
      | _ => simp only [e0] at post; exact (show False from post).elim
theorem ext_key {i : Nat} {xe : Ex} {D : Ends} {σ : L2.St} {H : Hp} (q : tSm X C (.ext i xe) D σ H) : tDrop (tBM X.K "list" rExtend (tVar i) (tCons (tE X C xe) tNil)) D σ H := by
  obtain ⟨f, c, S, env, rel, post⟩ := q
  rw [exS] at post
  cases e0 : env[i]? with
  | none => simp only [e0] at post; exact (show False from post).elim
  | some sl =>
    cases sl with
    | own dd =>
      cases dd with
      | list ds =>
        simp only [e0] at post
        obtain ⟨a, vs, h1, h2, h3, h4, h5, h6, h7⟩ := rel.ownL e0
        refine ⟨_, h1, .inl ⟨rfl, vs, SqL.of h5⟩, f, c, S, env, rel, post.ex rel fun d c1 S1 H1 v _ g r post1 => ?_⟩
        cases d with
        | list zs =>
          simp only at post1
          split at post1
          · rename_i hlt
            have rel1 := rel.gr g
            obtain ⟨a', vs', k1, k2, k3, k4, k5, k6, k7⟩ := rel1.ownL e0
            rw [h1] at k1
            have z : a = a' := by simpa using k1
            subst z
            cases r with
            | lst hb hbl hbr =>
              refine ⟨a, _, vs', _, rfl, rfl, k5, rel1.wf.inn _ _ hb, by have := LIM_le; have := k7.length; have := hbr.length; omega, post1 S1 _ σ ?_⟩
              exact rel1.write e0 h1 (.lst upd_same (by simp; omega) (Reps.app k7 hbr))
          · exact (show False from post1).elim
        | _ => exact (show False from post1).elim
      | _ => simp only [e0] at post; exact (show False from post).elim
    | _ => simp only [e0] at post; exact (show False from post).elim
theorem ss_ext {i : Nat} {y : Str} {e : Expr} {xe : Ex} {p apos cpos : Pos} (hy : PE X (.Name y p) (tVar i)) (he : SE X C xe e) (hs : NoStar e) (hl : (apos.endLine == cpos.line) = true) :
    PS X (.Expr (.Call (.Attribute (.Name y p) "extend" apos) [e] [] cpos) pos) (tSm X C (.ext i xe)) :=
  (ps_expr (pe_bm PySem.F.plainAttrs_list PySem.F.slot_list_extend PySem.F.type_list_extend mt_extend hy (pa_cons he.pe pa_nil (hs _ _)) rfl (by rw [hs]; rfl) hl (hs _ _) rfl)).lgi fun D σ H q => ext_key q
/-! x op= e -/
theorem ss_aug {o : BinO} {op : Operator} {ti : TIp} {i : Nat} {x : Str} {e : Expr} {xe : Ex} {p' : Pos} (hN : X.N.Nodup) (hi : X.N[i]? = some x) (hx : Loc X.env.scope x) (he : SE X C xe e) (ho : PIp X op ti)
    (hk : ∀ (S H : Hp) (d e z : LG.D) (v u : V) (Q : VK), Rep X.prog X.w X.K S d v → Rep X.prog X.w X.K S e u → augD o d e = .ok z → (∀ t, (∀ S', Rep X.prog X.w X.K S' z t) → Q t H) → ti v u H Q)
    (hf : X.fn x = true ∨ X.env.scope.names.lookup x = some .local) : PS X (.AugAssign (.Name x p') op e pos) (tSm X C (.aug i o xe)) :=
  (ps_aug hN hi hx he.pe ho hf).lgi fun D σ H q => by
    obtain ⟨f, c, S, env, rel, post⟩ := q
    rw [exS] at post
    cases e0 : env[i]? with
    | none => simp only [e0] at post; exact (show False from post).elim
    | some sl =>
      cases sl with
      | val dd =>
        simp only [e0] at post
        obtain ⟨v, h1, h2⟩ := rel.val i dd e0
        refine ⟨v, h1, f, c, S, env, rel, post.ex rel fun d c1 S1 H1 u _ g r post1 => ?_⟩
        cases ez : augD o dd d with
        | ok z => rw [ez] at post1; exact hk S1 H1 dd d z v u _ (h2.sub g.sub) r ez fun t ht => post1 _ _ _ ((rel.gr g).set (ht _))
        | exn k c0 => rw [ez] at post1; exact (show False from post1).elim
        | bad => rw [ez] at post1; exact (show False from post1).elim
      | _ => simp only [e0] at post; exact (show False from post).elim
theorem aug_add (S H : Hp) (d e z : LG.D) (v u : V) (Q : VK) (r1 : Rep X.prog X.w X.K S d v) (r2 : Rep X.prog X.w X.K S e u) (h : augD .add d e = .ok z) (q : ∀ t, (∀ S', Rep X.prog X.w X.K S' z t) → Q t H) : ipI (fun i j => i + j) v u H Q := by
  have : ∃ a b, d = .int a ∧ e = .int b ∧ z = .int (a + b) := by
    cases d <;> cases e <;> simp [augD] at h ⊢ <;> exact h.symm
  obtain ⟨a, b, rfl, rfl, rfl⟩ := this
  cases r1; cases r2
  exact ⟨_, _, rfl, rfl, q _ fun _ => .int _⟩
theorem aug_mul (S H : Hp) (d e z : LG.D) (v u : V) (Q : VK) (r1 : Rep X.prog X.w X.K S d v) (r2 : Rep X.prog X.w X.K S e u) (h : augD .mul d e = .ok z) (q : ∀ t, (∀ S', Rep X.prog X.w X.K S' z t) → Q t H) : rI CMul (fun i j => .int (i * j)) v u H Q := by
  have : ∃ a b, d = .int a ∧ e = .int b ∧ z = .int (a * b) ∧ (small a || small b) = true := by
    cases d <;> cases e <;> simp [augD] at h ⊢
    rename_i a b
    split at h
    · rename_i hs
      cases h
      exact ⟨rfl, hs⟩
    · cases h
  obtain ⟨a, b, rfl, rfl, rfl, hl⟩ := this
  cases r1; cases r2
  have hm : CMul a b := by
    rw [Bool.or_eq_true] at hl
    rcases hl with z | z
    · exact .inl (small_iff z)
    · exact .inr (small_iff z)
  exact ⟨a, b, rfl, rfl, hm, q _ fun _ => .int _⟩
/-! ### min and max of two numbers -/
theorem pr_min2 (hc : X.calm = true) : CallR X (.builtin "min") (rPr X .min2) := by
  intro pins s σ H xs us Q I r h
  refine call_min2 hc pins s σ H xs us Q I r ?_
  obtain ⟨f, c, S, ds, wf, r1, post⟩ := h
  match ds, r1, post with
  | [.int a, .int b], r1, post =>
    cases r1 with
    | cons p q =>
      cases q with
      | cons p' q' =>
        cases q'; cases p; cases p'
        exact ⟨a, b, rfl, PostR.now wf post (.int _)⟩
end
end LG

/-! LgK: zip of two sequences, each a list or a tuple, whatever takes the pairs. -/
namespace LG
open PySem PySem.Spec PyProof.Rows L2

/-- a list's iterator (true) or a tuple's -/
def SIt (b : Bool) (h : Heap) (it l : Addr) (i : Nat) : Prop := match b with
  | true => h.IsListIter it l i
  | false => h.IsTupleIter it l i
def SAt (b : Bool) (h : Heap) (l : Addr) (xs : Array Value) : Prop := match b with
  | true => h.IsList l xs
  | false => h.IsTuple l xs
theorem SIt.at {b : Bool} {h h' : Heap} {it l : Addr} {i : Nat} (x : SIt b h it l i) (k : ∀ o, h.get? it = some o → h'.get? it = some o) : SIt b h' it l i := by
  cases b with
  | true => exact Heap.IsListIter.at (show h.IsListIter it l i from x) k
  | false => exact Heap.IsTupleIter.at (show h.IsTupleIter it l i from x) k
theorem SAt.at {b : Bool} {h h' : Heap} {l : Addr} {xs : Array Value} (x : SAt b h l xs) (k : ∀ o, h.get? l = some o → h'.get? l = some o) : SAt b h' l xs := by
  cases b with
  | true =>
    obtain ⟨o, e, r⟩ := (show h.IsList l xs from x)
    exact ⟨o, k o e, r⟩
  | false =>
    obtain ⟨o, e, r⟩ := (show h.IsTuple l xs from x)
    exact ⟨o, k o e, r⟩
theorem SIt.obj {b : Bool} {h : Heap} {it l : Addr} {i : Nat} (x : SIt b h it l i) : ∃ o, h.get? it = some o ∧ ∀ v, o.data ≠ .cell v := by
  cases b with
  | true =>
    obtain ⟨o, e, _, d⟩ := (show h.IsListIter it l i from x)
    exact ⟨o, e, fun v q => by rw [d] at q; cases q⟩
  | false =>
    obtain ⟨o, e, _, d⟩ := (show h.IsTupleIter it l i from x)
    exact ⟨o, e, fun v q => by rw [d] at q; cases q⟩
abbrev ZipAt (h : Heap) (z TI TO : Addr) (f0 : Value) (f : Bool) : Prop :=
  h.get? z = some { cls := .type "zip", dict := none, data := .fields #[f0, .bool f, .bool false, .ref TI, .ref TO], slots := #[] }
def Owns (f0 : Value) : Prop := f0 = .none ∨ ∃ T : Nat, f0 = rawInt (T : Nat)
section
variable {prog : Program} {w : World} {A : Around} {E : Value → Shared → Prop} {s : Shared}
theorem nextG_item {b : Bool} {it l : Addr} {i : Nat} {items : Array Value} {x : Value} {Q : Value → Shared → Prop} (hit : SIt b s.heap it l i) (hl : SAt b s.heap l items) (hx : items[i]? = some x)
    (hQ : ∀ h', SIt b h' it l (i + 1) → Heap.SameBut it s.heap h' → Q x { s with heap := h' }) : wpAny (model prog w) A (Builtin.SmallTypes.nextOf (.ref it)) Q E s := by
  cases b with
  | true => exact wpAny_nextOf_list_item hit hl hx hQ
  | false => exact RZ.nextOf_tuple_item hit hl hx hQ
theorem nextG_end {b : Bool} {it l : Addr} {i : Nat} {items : Array Value} {Q : Value → Shared → Prop} (hh : A.handled = none) (hit : SIt b s.heap it l i) (hl : SAt b s.heap l items) (hx : items[i]? = none)
    (hE : ∀ h' e, Heap.ExtBut it s.heap h' → (∃ o, h'.get? e = some o ∧ o.cls = .type "StopIteration") → E (.ref e) { s with heap := h' }) : wpAny (model prog w) A (Builtin.SmallTypes.nextOf (.ref it)) Q E s := by
  cases b with
  | true => exact wpAny_nextOf_list_end hh hit hl hx hE
  | false => exact RZ.nextOf_tuple_end hh hit hl hx hE
theorem alive_any {a : Addr} {Q : Option Obj → Shared → Prop} (h : Q (s.heap.get? a) s) : wpAny (model prog w) A (loadIfAlive a) Q E s := fun _ _ _ => h
theorem zip_free {z TI TO : Addr} {f0 : Value} {f : Bool} {Q : Bool → Shared → Prop} (hz : ZipAt s.heap z TI TO f0 f) (h0 : Owns f0) (hT : Q true s)
    (hF : ∀ h', ZipAt h' z TI TO f0 true → Heap.SameBut z s.heap h' → Q false { s with heap := h' }) : wpAny (model prog w) A (Builtin.SmallTypes.ownedTupleIsFree (.ref z)) Q E s := by
  unfold Builtin.SmallTypes.ownedTupleIsFree
  refine wpAny_bind (wpAny_field hz rfl (x := f0) rfl ?_)
  rcases h0 with rfl | ⟨T, rfl⟩
  · exact wpAny_pure hT
  · show wpAny _ _ (loadIfAlive ((T : Int).toNat) >>= _) _ _ _
    refine wpAny_bind (alive_any ?_)
    cases e : s.heap.get? ((T : Int).toNat) with
    | none =>
      simp only [Option.isNone_none, if_true]
      exact wpAny_pure hT
    | some o =>
      simp only [Option.isNone_some, Bool.false_eq_true, if_false]
      refine wpAny_bind (wpAny_field hz rfl (x := .bool f) rfl ?_)
      cases f with
      | true =>
        rw [if_neg (show ¬ ((Value.bool true != Value.bool true) = true) from Bool.false_ne_true)]
        exact wpAny_pure (hF s.heap hz (Heap.SameBut.refl _ _))
      | false =>
        rw [if_pos (show (Value.bool false != Value.bool true) = true from rfl)]
        exact wpAny_bind (wpAny_setField_rec hz (by simp) fun h₁ hz₁ hs₁ => wpAny_pure (hF h₁ hz₁ hs₁))
variable {b1 b2 : Bool} {z TI TO i1 i2 l1 l2 : Addr} {k1 k2 : Nat} {xs ys : Array Value} {f0 : Value} {f : Bool}
theorem zipG_item {x y a b : Value} {Q : Value → Shared → Prop} (D : ZipApart z TI TO i1 i2 l1 l2) (hz : ZipAt s.heap z TI TO f0 f) (h0 : Owns f0) (hTI : IsPair s.heap TI (.ref i1) (.ref i2)) (hTO : IsPair s.heap TO a b)
    (h1 : SIt b1 s.heap i1 l1 k1) (h2 : SIt b2 s.heap i2 l2 k2) (hl1 : SAt b1 s.heap l1 xs) (hl2 : SAt b2 s.heap l2 ys) (hx : xs[k1]? = some x) (hy : ys[k2]? = some y)
    (hQ : ∀ h' f0' f', ZipAt h' z TI TO f0' f' → Owns f0' → (∃ a b, IsPair h' TO a b) → SIt b1 h' i1 l1 (k1 + 1) → SIt b2 h' i2 l2 (k2 + 1) → IsPair h' s.heap.objs.size x y → h'.objs.size = s.heap.objs.size + 1 →
      (∀ c o, c ≠ z → c ≠ TO → c ≠ i1 → c ≠ i2 → s.heap.get? c = some o → h'.get? c = some o) → Q (.ref s.heap.objs.size) { s with heap := h' }) :
    wpAny (model prog w) A (Builtin.«zip.__next__» ⟨[.ref z], []⟩) (fun fin s' => ∃ v, fin = .done (.ret v) ∧ Q v s') E s := by
  show wpAny _ _ (field (.ref z) 2 >>= _) _ _ _
  refine wpAny_bind (wpAny_field hz rfl (x := .bool false) rfl ?_)
  show wpAny _ _ (field (.ref z) 3 >>= _) _ _ _
  refine wpAny_bind (wpAny_field hz rfl (x := .ref TI) rfl ?_)
  refine wpAny_bind (wpAny_seqItems hTI rfl ?_)
  show wpAny _ _ (Builtin.SmallTypes.ownedTupleIsFree (.ref z) >>= _) _ _ _
  refine wpAny_bind (zip_free hz h0 ?_ fun h₁ hz₁ hs₁ => ?_)
  · -- the tuple is taken again
    simp only [if_true]
    refine wpAny_bind (wpAny_rule ?_)
    refine wpAny_bind (wpAny_field hz rfl (x := .ref TO) rfl ?_)
    refine wpAny_bind (wpAny_setField_rec hz (by simp) fun h₁ hz₁ hs₁ => ?_)
    replace hz₁ : ZipAt h₁ z TI TO .ellipsis f := hz₁
    refine wpAny_bind ?_
    simp only [List.zipIdx_cons, List.zipIdx_nil, List.forIn_cons, List.forIn_nil]
    have k1' : ∀ {c o}, c ≠ z → s.heap.get? c = some o → h₁.get? c = some o := fun {c o} n e => hs₁.extBut _ _ n e
    refine wpAny_bind (wpAny_bind (wpAny_onRaise ?_))
    show wpAny _ _ (Builtin.SmallTypes.nextOf (.ref i1) >>= _) _ _ _
    refine wpAny_bind (nextG_item (h1.at fun o e => k1' D.i1z e) (hl1.at fun o e => k1' D.l1z e) hx fun h₂ h1₂ hs₂ => wpAny_pure ?_)
    have k2' : ∀ {c o}, c ≠ z → c ≠ i1 → s.heap.get? c = some o → h₂.get? c = some o := fun {c o} n n' e => hs₂.extBut _ _ n' (k1' n e)
    have hTO₂ : IsPair h₂ TO a b := k2' D.TOz D.TOi1 hTO
    refine wpAny_bind (wpAny_seqItems hTO₂ rfl ?_)
    refine wpAny_bind (wpAny_updateSeq_pair hTO₂ fun h₃ hTO₃ hs₃ => ?_)
    replace hTO₃ : IsPair h₃ TO x b := hTO₃
    refine wpAny_bind (wpAny_letGo (wpAny_pure ?_))
    have k3' : ∀ {c o}, c ≠ z → c ≠ i1 → c ≠ TO → s.heap.get? c = some o → h₃.get? c = some o := fun {c o} n n' n3 e => hs₃.extBut _ _ n3 (k2' n n' e)
    refine wpAny_bind (wpAny_bind (wpAny_onRaise ?_))
    show wpAny _ _ (Builtin.SmallTypes.nextOf (.ref i2) >>= _) _ _ _
    refine wpAny_bind (nextG_item (h2.at fun o e => k3' D.i2z D.i12.symm D.TOi2.symm e) (hl2.at fun o e => k3' D.l2z D.l2i1 D.l2TO e) hy fun h₄ h2₄ hs₄ => wpAny_pure ?_)
    have hTO₄ : IsPair h₄ TO x b := hs₄.extBut _ _ D.TOi2 hTO₃
    refine wpAny_bind (wpAny_seqItems hTO₄ rfl ?_)
    refine wpAny_bind (wpAny_updateSeq_pair hTO₄ fun h₅ hTO₅ hs₅ => ?_)
    replace hTO₅ : IsPair h₅ TO x y := hTO₅
    refine wpAny_bind (wpAny_letGo (wpAny_pure (wpAny_pure ?_)))
    refine wpAny_bind (wpAny_seqItems hTO₅ rfl ?_)
    refine wpAny_bind (wpAny_newTuple ?_)
    have hsz : h₅.objs.size = s.heap.objs.size := by rw [hs₅.1, hs₄.1, hs₃.1, hs₂.1, hs₁.1]
    have hz₅ : ZipAt h₅ z TI TO .ellipsis f := hs₅.extBut _ _ D.TOz.symm (hs₄.extBut _ _ D.i2z.symm (hs₃.extBut _ _ D.TOz.symm (hs₂.extBut _ _ D.i1z.symm hz₁)))
    have hk₅ : ∀ c o, c ≠ z → c ≠ TO → c ≠ i1 → c ≠ i2 → s.heap.get? c = some o → h₅.get? c = some o := fun c o c1 c2 c3 c4 e => hs₅.extBut _ _ c2 (hs₄.extBut _ _ c4 (k3' c1 c3 c2 e))
    have h1₅ : SIt b1 h₅ i1 l1 (k1 + 1) := h1₂.at fun o e => hs₅.extBut _ _ D.TOi1.symm (hs₄.extBut _ _ D.i12 (hs₃.extBut _ _ D.TOi1.symm e))
    have h2₅ : SIt b2 h₅ i2 l2 (k2 + 1) := h2₄.at fun o e => hs₅.extBut _ _ D.TOi2.symm e
    have hzlt : z < h₅.objs.size := Heap.lt_size hz₅
    show wpAny _ _ (Builtin.SmallTypes.ownedTupleHandOut (.ref z) (.ref h₅.objs.size) >>= _) _ _ _
    refine wpAny_bind ?_
    unfold Builtin.SmallTypes.ownedTupleHandOut
    have hz₆ : ZipAt (h₅.push { cls := .type "tuple", data := .seq #[x, y] }) z TI TO .ellipsis f := Heap.get?_push_of_some _ hz₅
    refine wpAny_bind (wpAny_setField_rec hz₆ (by simp) fun h₇ hz₇ hs₇ => ?_)
    replace hz₇ : ZipAt h₇ z TI TO (rawInt h₅.objs.size) f := hz₇
    refine wpAny_setField_rec hz₇ (by simp) fun h₈ hz₈ hs₈ => ?_
    replace hz₈ : ZipAt h₈ z TI TO (rawInt h₅.objs.size) false := hz₈
    have up : ∀ c o, c ≠ z → h₅.get? c = some o → h₈.get? c = some o := fun c o c1 e => hs₈.extBut _ _ c1 (hs₇.extBut _ _ c1 (Heap.get?_push_of_some _ e))
    have hT₈ : IsPair h₈ h₅.objs.size x y := hs₈.extBut _ _ (Nat.ne_of_gt hzlt) (hs₇.extBut _ _ (Nat.ne_of_gt hzlt) (Heap.get?_push_size _ rfl))
    have hz8 : h₈.objs.size = h₅.objs.size + 1 := by rw [hs₈.1, hs₇.1, Heap.size_push]
    rw [hsz] at hz₈ hT₈ hz8
    refine wpAny_pure ⟨_, rfl, ?_⟩
    show Q (.ref h₅.objs.size) _
    rw [hsz]
    exact hQ h₈ _ _ hz₈ (.inr ⟨_, rfl⟩) ⟨_, _, up _ _ D.TOz hTO₅⟩ (h1₅.at fun o e => up _ o D.i1z e) (h2₅.at fun o e => up _ o D.i2z e) hT₈ hz8 fun c o c1 c2 c3 c4 e => up c o c1 (hk₅ c o c1 c2 c3 c4 e)
  · -- the tuple is out
    simp only [Bool.false_eq_true, if_false]
    refine wpAny_bind ?_
    rw [← Array.forIn_toList]
    simp only [List.forIn_cons, List.forIn_nil]
    have k1' : ∀ {c o}, c ≠ z → s.heap.get? c = some o → h₁.get? c = some o := fun {c o} n e => hs₁.extBut _ _ n e
    refine wpAny_bind (wpAny_bind (wpAny_holding ?_))
    show wpAny _ _ (Builtin.SmallTypes.nextOf (.ref i1) >>= _) _ _ _
    refine wpAny_bind (nextG_item (s := { s with heap := h₁ }) (h1.at fun o e => k1' D.i1z e) (hl1.at fun o e => k1' D.l1z e) hx fun h₂ h1₂ hs₂ => wpAny_pure ?_)
    refine wpAny_pure ?_
    have k2' : ∀ {c o}, c ≠ z → c ≠ i1 → s.heap.get? c = some o → h₂.get? c = some o := fun {c o} n n' e => hs₂.extBut _ _ n' (k1' n e)
    refine wpAny_bind (wpAny_bind (wpAny_holding ?_))
    show wpAny _ _ (Builtin.SmallTypes.nextOf (.ref i2) >>= _) _ _ _
    refine wpAny_bind (nextG_item (s := { s with heap := h₂ }) (h2.at fun o e => k2' D.i2z D.i12.symm e) (hl2.at fun o e => k2' D.l2z D.l2i1 e) hy fun h₃ h2₃ hs₃ => wpAny_pure ?_)
    refine wpAny_pure (wpAny_pure ?_)
    show wpAny _ _ (newTuple [x, y] >>= _) _ _ _
    refine wpAny_bind (wpAny_newTuple ?_)
    have hsz : h₃.objs.size = s.heap.objs.size := by rw [hs₃.1, hs₂.1, hs₁.1]
    have hz₃ : ZipAt h₃ z TI TO f0 true := hs₃.extBut _ _ D.i2z.symm (hs₂.extBut _ _ D.i1z.symm hz₁)
    have hk : ∀ c o, c ≠ z → c ≠ i1 → c ≠ i2 → s.heap.get? c = some o → h₃.get? c = some o := fun c o c1 c2 c3 e => hs₃.extBut _ _ c3 (k2' c1 c2 e)
    refine wpAny_pure ⟨_, rfl, ?_⟩
    show Q (.ref h₃.objs.size) _
    have hp : IsPair (h₃.push { cls := .type "tuple", data := .seq #[x, y] }) h₃.objs.size x y := Heap.get?_push_size _ rfl
    have hz4 : (h₃.push { cls := .type "tuple", data := .seq #[x, y] }).objs.size = h₃.objs.size + 1 := Heap.size_push ..
    rw [hsz] at hp hz4 ⊢
    exact hQ _ _ _ (Heap.get?_push_of_some _ hz₃) h0 ⟨a, b, Heap.get?_push_of_some _ (hk _ _ D.TOz D.TOi1 D.TOi2 hTO)⟩ (h1₂.at fun o e => Heap.get?_push_of_some _ (hs₃.extBut _ _ D.i12 e)) (h2₃.at fun o e => Heap.get?_push_of_some _ e) hp hz4
      fun c o c1 c2 c3 c4 e => Heap.get?_push_of_some _ (hk c o c1 c3 c4 e)
theorem zipG_end {a b : Value} {Q : Fin → Shared → Prop} (hh : A.handled = none) (D : ZipApart z TI TO i1 i2 l1 l2) (hz : ZipAt s.heap z TI TO f0 f) (h0 : Owns f0) (hTI : IsPair s.heap TI (.ref i1) (.ref i2)) (hTO : IsPair s.heap TO a b)
    (h1 : SIt b1 s.heap i1 l1 k1) (h2 : SIt b2 s.heap i2 l2 k2) (hl1 : SAt b1 s.heap l1 xs) (hl2 : SAt b2 s.heap l2 ys) (hend : xs[k1]? = none ∨ ys[k2]? = none)
    (hE : ∀ h' e, (∀ c o, c ≠ z → c ≠ TO → c ≠ i1 → c ≠ i2 → s.heap.get? c = some o → h'.get? c = some o) → (∃ o, h'.get? e = some o ∧ o.cls = .type "StopIteration") → E (.ref e) { s with heap := h' }) :
    wpAny (model prog w) A (Builtin.«zip.__next__» ⟨[.ref z], []⟩) Q E s := by
  show wpAny _ _ (field (.ref z) 2 >>= _) _ _ _
  refine wpAny_bind (wpAny_field hz rfl (x := .bool false) rfl ?_)
  show wpAny _ _ (field (.ref z) 3 >>= _) _ _ _
  refine wpAny_bind (wpAny_field hz rfl (x := .ref TI) rfl ?_)
  refine wpAny_bind (wpAny_seqItems hTI rfl ?_)
  show wpAny _ _ (Builtin.SmallTypes.ownedTupleIsFree (.ref z) >>= _) _ _ _
  refine wpAny_bind (zip_free hz h0 ?_ fun h₁ hz₁ hs₁ => ?_)
  · simp only [if_true]
    refine wpAny_bind (wpAny_rule ?_)
    refine wpAny_bind (wpAny_field hz rfl (x := .ref TO) rfl ?_)
    refine wpAny_bind (wpAny_setField_rec hz (by simp) fun h₁ hz₁ hs₁ => ?_)
    replace hz₁ : ZipAt h₁ z TI TO .ellipsis f := hz₁
    refine wpAny_bind ?_
    simp only [List.zipIdx_cons, List.zipIdx_nil, List.forIn_cons, List.forIn_nil]
    have k1' : ∀ {c o}, c ≠ z → s.heap.get? c = some o → h₁.get? c = some o := fun {c o} n e => hs₁.extBut _ _ n e
    refine wpAny_bind (wpAny_bind (wpAny_onRaise ?_))
    show wpAny _ _ (Builtin.SmallTypes.nextOf (.ref i1) >>= _) _ _ _
    cases hx : xs[k1]? with
    | none =>
      refine wpAny_bind (nextG_end hh (h1.at fun o e => k1' D.i1z e) (hl1.at fun o e => k1' D.l1z e) hx fun h₂ e hs₂ he => ?_)
      obtain ⟨oe, hoe, hce⟩ := he
      have hz₂ : ZipAt h₂ z TI TO .ellipsis f := hs₂ _ _ D.i1z.symm hz₁
      have hez : e ≠ z := fun x => by subst x; rw [hz₂] at hoe; cases hoe; simp at hce
      refine wpAny_setField_rec hz₂ (by simp) fun h₃ _ hs₃ => hE h₃ e (fun c o c1 _ c3 _ x => hs₃.extBut _ _ c1 (hs₂ _ _ c3 (k1' c1 x))) ⟨oe, hs₃.extBut _ _ hez hoe, hce⟩
    | some x =>
      have hy : ys[k2]? = none := by rcases hend with h | h; rw [hx] at h; cases h; exact h
      refine wpAny_bind (nextG_item (h1.at fun o e => k1' D.i1z e) (hl1.at fun o e => k1' D.l1z e) hx fun h₂ h1₂ hs₂ => wpAny_pure ?_)
      have k2' : ∀ {c o}, c ≠ z → c ≠ i1 → s.heap.get? c = some o → h₂.get? c = some o := fun {c o} n n' e => hs₂.extBut _ _ n' (k1' n e)
      have hTO₂ : IsPair h₂ TO a b := k2' D.TOz D.TOi1 hTO
      refine wpAny_bind (wpAny_seqItems hTO₂ rfl ?_)
      refine wpAny_bind (wpAny_updateSeq_pair hTO₂ fun h₃ hTO₃ hs₃ => ?_)
      refine wpAny_bind (wpAny_letGo (wpAny_pure ?_))
      have k3' : ∀ {c o}, c ≠ z → c ≠ i1 → c ≠ TO → s.heap.get? c = some o → h₃.get? c = some o := fun {c o} n n' n3 e => hs₃.extBut _ _ n3 (k2' n n' e)
      refine wpAny_bind (wpAny_bind (wpAny_onRaise ?_))
      show wpAny _ _ (Builtin.SmallTypes.nextOf (.ref i2) >>= _) _ _ _
      refine wpAny_bind (nextG_end hh (h2.at fun o e => k3' D.i2z D.i12.symm D.TOi2.symm e) (hl2.at fun o e => k3' D.l2z D.l2i1 D.l2TO e) hy fun h₄ e hs₄ he => ?_)
      obtain ⟨oe, hoe, hce⟩ := he
      have hz₄ : ZipAt h₄ z TI TO .ellipsis f := hs₄ _ _ D.i2z.symm (hs₃.extBut _ _ D.TOz.symm (hs₂.extBut _ _ D.i1z.symm hz₁))
      have hez : e ≠ z := fun x => by subst x; rw [hz₄] at hoe; cases hoe; simp at hce
      refine wpAny_setField_rec hz₄ (by simp) fun h₅ _ hs₅ => hE h₅ e (fun c o c1 c2 c3 c4 x => hs₅.extBut _ _ c1 (hs₄ _ _ c4 (k3' c1 c3 c2 x))) ⟨oe, hs₅.extBut _ _ hez hoe, hce⟩
  · simp only [Bool.false_eq_true, if_false]
    refine wpAny_bind ?_
    rw [← Array.forIn_toList]
    simp only [List.forIn_cons, List.forIn_nil]
    have k1' : ∀ {c o}, c ≠ z → s.heap.get? c = some o → h₁.get? c = some o := fun {c o} n e => hs₁.extBut _ _ n e
    refine wpAny_bind (wpAny_bind (wpAny_holding ?_))
    show wpAny _ _ (Builtin.SmallTypes.nextOf (.ref i1) >>= _) _ _ _
    cases hx : xs[k1]? with
    | none =>
      refine wpAny_bind (nextG_end (s := { s with heap := h₁ }) hh (h1.at fun o e => k1' D.i1z e) (hl1.at fun o e => k1' D.l1z e) hx fun h₂ e hs₂ he => ?_)
      exact hE h₂ e (fun c o c1 _ c3 _ x => hs₂ _ _ c3 (k1' c1 x)) he
    | some x =>
      have hy : ys[k2]? = none := by rcases hend with h | h; rw [hx] at h; cases h; exact h
      refine wpAny_bind (nextG_item (s := { s with heap := h₁ }) (h1.at fun o e => k1' D.i1z e) (hl1.at fun o e => k1' D.l1z e) hx fun h₂ h1₂ hs₂ => wpAny_pure ?_)
      refine wpAny_pure ?_
      have k2' : ∀ {c o}, c ≠ z → c ≠ i1 → s.heap.get? c = some o → h₂.get? c = some o := fun {c o} n n' e => hs₂.extBut _ _ n' (k1' n e)
      refine wpAny_bind (wpAny_bind (wpAny_holding ?_))
      show wpAny _ _ (Builtin.SmallTypes.nextOf (.ref i2) >>= _) _ _ _
      refine wpAny_bind (nextG_end (s := { s with heap := h₂ }) hh (h2.at fun o e => k2' D.i2z D.i12.symm e) (hl2.at fun o e => k2' D.l2z D.l2i1 e) hy fun h₃ e hs₃ he => ?_)
      exact hE h₃ e (fun c o c1 _ c3 c4 x => hs₃ _ _ c4 (k2' c1 c3 x)) he
theorem pyNextG_item {x y a b : Value} {Q : Option Value → Shared → Prop} (D : ZipApart z TI TO i1 i2 l1 l2) (hz : ZipAt s.heap z TI TO f0 f) (h0 : Owns f0) (hTI : IsPair s.heap TI (.ref i1) (.ref i2)) (hTO : IsPair s.heap TO a b)
    (h1 : SIt b1 s.heap i1 l1 k1) (h2 : SIt b2 s.heap i2 l2 k2) (hl1 : SAt b1 s.heap l1 xs) (hl2 : SAt b2 s.heap l2 ys) (hx : xs[k1]? = some x) (hy : ys[k2]? = some y)
    (hQ : ∀ h' f0' f', ZipAt h' z TI TO f0' f' → Owns f0' → (∃ a b, IsPair h' TO a b) → SIt b1 h' i1 l1 (k1 + 1) → SIt b2 h' i2 l2 (k2 + 1) → IsPair h' s.heap.objs.size x y → h'.objs.size = s.heap.objs.size + 1 →
      (∀ c o, c ≠ z → c ≠ TO → c ≠ i1 → c ≠ i2 → s.heap.get? c = some o → h'.get? c = some o) → Q (some (.ref s.heap.objs.size)) { s with heap := h' }) : wpAny (model prog w) A (pyNext (.ref z)) Q E s := by
  have hTy : s.TypeIs (.ref z) "zip" := ⟨_, hz, rfl⟩
  unfold pyNext
  exact wpAny_bind (wpAny_attempt (wpAny_callSpecial?_slot (name := Str.ofString "__next__") hTy F.slot_zip_next
    (wpAny_call_entry F.slot_zip_next hTy F.entry_zip_next
      (zipG_item D hz h0 hTI hTO h1 h2 hl1 hl2 hx hy fun h' g0 g a1 a2 a3 a4 a5 a6 a7 a8 => wpAny_pure (hQ h' g0 g a1 a2 a3 a4 a5 a6 a7 a8)) (F.args_zip_next_1 _))))
theorem pyNextG_end {a b : Value} {Q : Option Value → Shared → Prop} (hh : A.handled = none) (D : ZipApart z TI TO i1 i2 l1 l2) (hz : ZipAt s.heap z TI TO f0 f) (h0 : Owns f0) (hTI : IsPair s.heap TI (.ref i1) (.ref i2)) (hTO : IsPair s.heap TO a b)
    (h1 : SIt b1 s.heap i1 l1 k1) (h2 : SIt b2 s.heap i2 l2 k2) (hl1 : SAt b1 s.heap l1 xs) (hl2 : SAt b2 s.heap l2 ys) (hend : xs[k1]? = none ∨ ys[k2]? = none)
    (hQ : ∀ h', (∀ c o, c ≠ z → c ≠ TO → c ≠ i1 → c ≠ i2 → s.heap.get? c = some o → h'.get? c = some o) → Q none { s with heap := h' }) : wpAny (model prog w) A (pyNext (.ref z)) Q E s := by
  have hTy : s.TypeIs (.ref z) "zip" := ⟨_, hz, rfl⟩
  unfold pyNext
  refine wpAny_bind (wpAny_attempt (wpAny_callSpecial?_slot (name := Str.ofString "__next__") hTy F.slot_zip_next
    (wpAny_call_entry F.slot_zip_next hTy F.entry_zip_next (zipG_end hh D hz h0 hTI hTO h1 h2 hl1 hl2 hend fun h' e hk he => ?_) (F.args_zip_next_1 _))))
  obtain ⟨o, ho, hc⟩ := he
  refine wpAny_bind (wpAny_isInstance (T := "StopIteration") (b := true) ⟨o, ho, hc⟩ isSubtype_stop ?_)
  exact wpAny_pure (hQ _ hk)
/-- what takes the pair: a tuple of names or one name -/
def tgOk : Expr → Bool
  | .Tuple .. => true
  | .Name .. => true
  | _ => false
theorem letGo_any {tg : Expr} (ht : tgOk tg = true) {T : Addr} {Q : Unit → Shared → Prop} (hz : ZipAt s.heap z TI TO f0 f) (h0 : Owns f0)
    (hQ : ∀ h' f0', ZipAt h' z TI TO f0' f → Owns f0' → Heap.SameBut z s.heap h' → Q () { s with heap := h' }) : wpAny (model prog w) A (letOwnedTupleGo tg (.ref z) (.ref T)) Q E s := by
  cases tg with
  | Tuple elts k p =>
    unfold letOwnedTupleGo
    refine wpAny_bind (wpAny_load hz ?_)
    show wpAny _ _ (if (["enumerate", "zip", "dict_itemiterator", "dict_reverseitemiterator", "odict_iterator", "itertools.zip_longest", "itertools.pairwise"].contains "zip" &&
        (#[f0, .bool f, .bool false, .ref TI, .ref TO] : Array Value)[0]? == some (rawInt T)) = true then _ else _) Q E s
    split
    · refine wpAny_bind (wpAny_rule ?_)
      show wpAny _ _ (setField (.ref z) 0 .none) Q E s
      exact wpAny_setField_rec hz (by simp) fun h' hz' hs' => hQ h' _ hz' (.inl rfl) hs'
    · exact wpAny_pure (hQ s.heap f0 hz h0 (Heap.SameBut.refl _ _))
  | Name x p => exact wpAny_pure (hQ s.heap f0 hz h0 (Heap.SameBut.refl _ _))
  | _ => cases ht
end
end LG

/-! LgL: zip as an iteration. -/
namespace LG
open PySem PySem.Spec PyProof.Rows L2

def itName (b : Bool) : String := if b then "list_iterator" else "tuple_iterator"
abbrev zg1 (b1 : Bool) (h : Heap) (l1 : Addr) : Heap := h.push { cls := .type (itName b1), data := .fields #[.ref l1, .int 0 0] }
abbrev zg2 (b1 b2 : Bool) (h : Heap) (l1 l2 : Addr) : Heap := (zg1 b1 h l1).push { cls := .type (itName b2), data := .fields #[.ref l2, .int 0 0] }
abbrev zg3 (b1 b2 : Bool) (h : Heap) (l1 l2 : Addr) : Heap := (zg2 b1 b2 h l1 l2).push { cls := .type "tuple", data := .seq #[.ref h.objs.size, .ref (zg1 b1 h l1).objs.size] }
abbrev zg4 (b1 b2 : Bool) (h : Heap) (l1 l2 : Addr) : Heap := (zg3 b1 b2 h l1 l2).push { cls := .type "tuple", data := .seq #[.none, .none] }
abbrev zg5 (b1 b2 : Bool) (h : Heap) (l1 l2 : Addr) : Heap := (zg4 b1 b2 h l1 l2).push { cls := .type "zip", data := .fields #[.none, .bool false, .bool false, .ref (zg2 b1 b2 h l1 l2).objs.size, .ref (zg3 b1 b2 h l1 l2).objs.size] }
theorem meets_zg_LT (l1 l2 : Addr) (xs ys : Array Value) :
    Meets (Builtin.«zip.__new__» ⟨[.type "zip", .ref l1, .ref l2], []⟩) (fun _ R s => s.heap.IsList l1 xs ∧ s.heap.IsTuple l2 ys ∧
      R (.ok (.ret (.ref (zg4 true false s.heap l1 l2).objs.size))) { s with heap := zg5 true false s.heap l1 l2 }) :=
  .of_wp fun prog w A R s h => by
    obtain ⟨hp, g, d, tk, os⟩ := s; obtain ⟨hl1, hl2, h⟩ := h
    have hsub := sub_zip
    have hL1 : Heap.IsList (Shared.heap ⟨hp, g, d, tk, os⟩) l1 xs := hl1
    have hL2 : Heap.IsTuple (Shared.heap ⟨hp.push { cls := .type "list_iterator", data := .fields #[.ref l1, .int 0 0] }, g, d, tk, os⟩) l2 ys := Heap.IsTuple.push hl2 _
    wp_walk using wpAny_pyIter_list hL1, wpAny_pyIter_tuple hL2
    exact ⟨_, rfl, h⟩
theorem meets_zg_TL (l1 l2 : Addr) (xs ys : Array Value) :
    Meets (Builtin.«zip.__new__» ⟨[.type "zip", .ref l1, .ref l2], []⟩) (fun _ R s => s.heap.IsTuple l1 xs ∧ s.heap.IsList l2 ys ∧
      R (.ok (.ret (.ref (zg4 false true s.heap l1 l2).objs.size))) { s with heap := zg5 false true s.heap l1 l2 }) :=
  .of_wp fun prog w A R s h => by
    obtain ⟨hp, g, d, tk, os⟩ := s; obtain ⟨hl1, hl2, h⟩ := h
    have hsub := sub_zip
    have hL1 : Heap.IsTuple (Shared.heap ⟨hp, g, d, tk, os⟩) l1 xs := hl1
    have hL2 : Heap.IsList (Shared.heap ⟨hp.push { cls := .type "tuple_iterator", data := .fields #[.ref l1, .int 0 0] }, g, d, tk, os⟩) l2 ys := Heap.IsList.push hl2 _
    wp_walk using wpAny_pyIter_tuple hL1, wpAny_pyIter_list hL2
    exact ⟨_, rfl, h⟩
theorem meets_zg (b1 b2 : Bool) (l1 l2 : Addr) (xs ys : Array Value) :
    Meets (Builtin.«zip.__new__» ⟨[.type "zip", .ref l1, .ref l2], []⟩) (fun _ R s => SAt b1 s.heap l1 xs ∧ SAt b2 s.heap l2 ys ∧
      R (.ok (.ret (.ref (zg4 b1 b2 s.heap l1 l2).objs.size))) { s with heap := zg5 b1 b2 s.heap l1 l2 }) := by
  cases b1 <;> cases b2
  · exact RZ.meets_zipT_new l1 l2 xs ys
  · exact meets_zg_TL l1 l2 xs ys
  · exact meets_zg_LT l1 l2 xs ys
  · exact meets_zip_new l1 l2 xs ys
theorem SIt.new {b : Bool} {h : Heap} {it l : Addr} (e : h.get? it = some { cls := .type (itName b), data := .fields #[.ref l, .int 0 0] }) : SIt b h it l 0 := by
  cases b with
  | true => exact ⟨_, e, rfl, rfl⟩
  | false => exact ⟨_, e, rfl, rfl⟩
section
variable {prog : Program} {w : World} {A : Around} {E : Value → Shared → Prop} {s : Shared} {b1 b2 : Bool}
theorem call_zg {l1 l2 : Addr} {xs ys : Array Value} {Q : Value → Shared → Prop} (hl1 : SAt b1 s.heap l1 xs) (hl2 : SAt b2 s.heap l2 ys)
    (h : ∀ h', ZipAt h' (s.heap.objs.size + 4) (s.heap.objs.size + 2) (s.heap.objs.size + 3) .none false → IsPair h' (s.heap.objs.size + 2) (.ref s.heap.objs.size) (.ref (s.heap.objs.size + 1)) →
      IsPair h' (s.heap.objs.size + 3) .none .none → SIt b1 h' s.heap.objs.size l1 0 → SIt b2 h' (s.heap.objs.size + 1) l2 0 → (∀ c o, s.heap.get? c = some o → h'.get? c = some o) → Q (.ref (s.heap.objs.size + 4)) { s with heap := h' }) :
    wpAny (model prog w) A (call (.type "zip") [.ref l1, .ref l2]) Q E s := by
  refine callType_new F.called_zip (by decide) (F.typeCall_zip_2 _ _) (F.newCall_zip_2 _ _) (fun obj => F.args_object_init_3 obj _ _) F.entry_zip_new (meets_zg b1 b2 l1 l2 xs ys) ⟨hl1, hl2, ?_⟩
  have z1 : (zg1 b1 s.heap l1).objs.size = s.heap.objs.size + 1 := Heap.size_push ..
  have z2 : (zg2 b1 b2 s.heap l1 l2).objs.size = s.heap.objs.size + 2 := by rw [Heap.size_push, z1]
  have z3 : (zg3 b1 b2 s.heap l1 l2).objs.size = s.heap.objs.size + 3 := by rw [Heap.size_push, z2]
  have z4 : (zg4 b1 b2 s.heap l1 l2).objs.size = s.heap.objs.size + 4 := by rw [Heap.size_push, z3]
  have g5 : (zg5 b1 b2 s.heap l1 l2).get? (zg4 b1 b2 s.heap l1 l2).objs.size = some _ := Heap.get?_push_size _ rfl
  have g4 : (zg5 b1 b2 s.heap l1 l2).get? (zg3 b1 b2 s.heap l1 l2).objs.size = some _ := Heap.get?_push_of_some _ (Heap.get?_push_size _ rfl)
  have g3 : (zg5 b1 b2 s.heap l1 l2).get? (zg2 b1 b2 s.heap l1 l2).objs.size = some _ := Heap.get?_push_of_some _ (Heap.get?_push_of_some _ (Heap.get?_push_size _ rfl))
  have g2 : (zg5 b1 b2 s.heap l1 l2).get? (zg1 b1 s.heap l1).objs.size = some _ := Heap.get?_push_of_some _ (Heap.get?_push_of_some _ (Heap.get?_push_of_some _ (Heap.get?_push_size _ rfl)))
  have g1 : (zg5 b1 b2 s.heap l1 l2).get? s.heap.objs.size = some _ := Heap.get?_push_of_some _ (Heap.get?_push_of_some _ (Heap.get?_push_of_some _ (Heap.get?_push_of_some _ (Heap.get?_push_size _ rfl))))
  show _ ∧ _
  rw [z2, z3, z4] at g5
  rw [z1, z2] at g3
  rw [z3] at g4
  rw [z1] at g2
  rw [z4]
  exact ⟨⟨_, g5, rfl⟩, h _ g5 g3 g4 (.new g1) (.new g2) fun c o x =>
    Heap.get?_push_of_some _ (Heap.get?_push_of_some _ (Heap.get?_push_of_some _ (Heap.get?_push_of_some _ (Heap.get?_push_of_some _ x))))⟩
end
/-- a list or a tuple of the heap -/
def Sq (b : Bool) (K : PySem.W.Frag) (H : Hp) (a : Addr) (xs : List V) : Prop := match b with
  | true => SqL K H a xs
  | false => SqT K H a xs
theorem Sq.sub {b : Bool} {K : PySem.W.Frag} {S H : Hp} {a : Addr} {xs : List V} (h : Sub S H) (q : Sq b K S a xs) : Sq b K H a xs := by
  cases b with
  | true => exact SqL.sub h q
  | false => exact SqT.sub h q
theorem Sq.at {X : Cx} {pins : List (Addr × Obj)} {σ : L2.St} {H : Hp} {s : Shared} {b : Bool} {a : Addr} {xs : List V} (I : Inv X pins σ H s) (q : Sq b X.K H a xs) : ∃ its, Vals xs its ∧ SAt b s.heap a its.toArray ∧ a < s.heap.objs.size := by
  cases b with
  | true =>
    obtain ⟨its, rv, p, _⟩ := I.list q
    exact ⟨its, rv, p.isList, p.lt⟩
  | false =>
    obtain ⟨its, rv, p, _⟩ := I.tuple q
    obtain ⟨o, ho, _⟩ := id p
    exact ⟨its, rv, p, Heap.lt_size ho⟩
theorem Sq.inj {X : Cx} {pins : List (Addr × Obj)} {σ : L2.St} {H : Hp} {s : Shared} {b : Bool} {a : Addr} {xs ys : List V} (I : Inv X pins σ H s) (q : Sq b X.K H a xs) (q' : Sq b X.K H a ys) : xs = ys := by
  cases b with
  | true => exact I.list_inj q q'
  | false => exact I.tuple_inj q q'
def ItzG (b1 b2 : Bool) (K : PySem.W.Frag) (a b : Addr) : L2.It :=
  ⟨fun i H => ∃ (xs ys : List V) (x y : V), Sq b1 K H a xs ∧ Sq b2 K H b ys ∧ xs[i]? = some x ∧ ys[i]? = some y,
    fun i H v H' => ∃ T x y, v = .ref T ∧ H T = none ∧ H' = upd H T (.tup [x, y]) ∧ (∀ xs, Sq b1 K H a xs → xs[i]? = some x) ∧ ∀ ys, Sq b2 K H b ys → ys[i]? = some y,
    fun i H => ∃ xs ys : List V, Sq b1 K H a xs ∧ Sq b2 K H b ys ∧ (xs.length ≤ i ∨ ys.length ≤ i)⟩
theorem turn_zg {P : Program} {w : World} {K : PySem.W.Frag} {tg : Expr} (htg : tgOk tg = true) {b1 b2 : Bool} {a b z TI TO i1 i2 : Addr} (D : ZipApart z TI TO i1 i2 a b) :
    Turn P w K tg (ItzG b1 b2 K a b) [z, TI, TO, i1, i2] z (fun i h => (∃ f0 f, ZipAt h z TI TO f0 f ∧ Owns f0) ∧ IsPair h TI (.ref i1) (.ref i2) ∧ (∃ x y, IsPair h TO x y) ∧ SIt b1 h i1 a i ∧ SIt b2 h i2 b i) where
  mem := by simp
  obj := fun i h st c hc => by
    obtain ⟨⟨f0, f, hz, _⟩, hTI, ⟨x, y, hTO⟩, h1, h2⟩ := st
    have e' : c = z ∨ c = TI ∨ c = TO ∨ c = i1 ∨ c = i2 := by simpa using hc
    rcases e' with q | q | q | q | q
    · rw [q]; exact ⟨_, hz, fun v q => nomatch q⟩
    · rw [q]; exact ⟨_, hTI, fun v q => nomatch q⟩
    · rw [q]; exact ⟨_, hTO, fun v q => nomatch q⟩
    · rw [q]; exact h1.obj
    · rw [q]; exact h2.obj
  keep := fun i h h' st k => by
    obtain ⟨⟨f0, f, hz, ho⟩, hTI, ⟨x, y, hTO⟩, h1, h2⟩ := st
    exact ⟨⟨f0, f, k z (by simp) _ hz, ho⟩, k TI (by simp) _ hTI, ⟨x, y, k TO (by simp) _ hTO⟩, h1.at fun o q => k i1 (by simp) o q, h2.at fun o q => k i2 (by simp) o q⟩
  item := by
    intro X hP hw hK hc i pins s σ H E I hf st hg
    subst hP hw hK
    obtain ⟨⟨f0, f, hz, ho⟩, hTI, ⟨x0, y0, hTO⟩, h1, h2⟩ := st
    obtain ⟨xs, ys, x, y, hqx, hqy, hx, hy⟩ := hg
    obtain ⟨its, rv, p, _⟩ := hqx.at I
    obtain ⟨its2, rv2, p2, _⟩ := hqy.at I
    obtain ⟨u, hu, ru⟩ := rv.get hx
    obtain ⟨u2, hu2, ru2⟩ := rv2.get hy
    have hzl : z < s.heap.objs.size := Heap.lt_size hz
    refine pyNextG_item D hz ho hTI hTO h1 h2 p p2 (x := u) (y := u2) (by simpa using hu) (by simpa using hu2) fun h' f0' f' z' o' TO' h1' h2' hT hsz hk => ?_
    refine ⟨_, rfl, letGo_any (s := { s with heap := h' }) htg z' o' fun h'' g0 z'' o'' sb => ?_⟩
    have hT2 : h''.get? s.heap.objs.size = some { cls := .type "tuple", data := .seq #[u, u2] } := (sb.2 _ (Nat.ne_of_gt hzl)).trans hT
    have new : ObjOk X.prog X.w (upd H s.heap.objs.size (.tup [x, y])) h'' s.heap.objs.size (.tup [x, y]) :=
      ⟨by show 2 ≤ sizeLine; decide, [u, u2], .cons ru (.cons ru2 .nil), ⟨_, hT2, rfl, _, rfl⟩⟩
    have I1 : Inv X pins σ (upd H s.heap.objs.size (.tup [x, y])) { s with heap := h'' } :=
      I.turnedNew (t' := s.toks) (ch := [z, TI, TO, i1, i2]) (fun c o hb q => (sb.2 c (fun q' => hb (by simp [q']))).trans (hk c o (fun q' => hb (by simp [q'])) (fun q' => hb (by simp [q'])) (fun q' => hb (by simp [q'])) (fun q' => hb (by simp [q'])) q)) hf (Nat.le_refl _) new
    refine ⟨.ref s.heap.objs.size, _, I1, rfl, ⟨_, x, y, rfl, I.hok.fresh (Nat.le_refl _), rfl, fun l hl => by rw [hl.inj I hqx]; exact hx, fun l hl => by rw [hl.inj I hqy]; exact hy⟩, ⟨⟨g0, f', z'', o''⟩, ?_, ?_, ?_, ?_⟩, fun c hcm => ?_⟩
    · exact (sb.2 _ D.TIz).trans (hk _ _ D.TIz D.TITO D.TIi1 D.TIi2 hTI)
    · obtain ⟨a', b', TO'⟩ := TO'
      exact ⟨a', b', (sb.2 _ D.TOz).trans TO'⟩
    · exact h1'.at fun o q => (sb.2 _ D.i1z).trans q
    · exact h2'.at fun o q => (sb.2 _ D.i2z).trans q
    · have hlt : c < s.heap.objs.size := by
        have e' : c = z ∨ c = TI ∨ c = TO ∨ c = i1 ∨ c = i2 := by simpa using hcm
        rcases e' with q | q | q | q | q
        · rw [q]; exact hzl
        · rw [q]; exact Heap.lt_size hTI
        · rw [q]; exact Heap.lt_size hTO
        · rw [q]; obtain ⟨_, e1, _⟩ := h1.obj; exact Heap.lt_size e1
        · rw [q]; obtain ⟨_, e2, _⟩ := h2.obj; exact Heap.lt_size e2
      rw [upd_ne (Nat.ne_of_lt hlt)]
      exact (hf c hcm).1
  done := by
    intro X hP hw hK hc i pins s σ H E I hf st hg
    subst hP hw hK
    obtain ⟨⟨f0, f, hz, ho⟩, hTI, ⟨x0, y0, hTO⟩, h1, h2⟩ := st
    obtain ⟨xs, ys, hqx, hqy, hend⟩ := hg
    obtain ⟨its, rv, p, _⟩ := hqx.at I
    obtain ⟨its2, rv2, p2, _⟩ := hqy.at I
    have l1 := rv.length
    have l2 := rv2.length
    have he : its.toArray[i]? = none ∨ its2.toArray[i]? = none := by
      rcases hend with q | q
      · exact .inl (by simp; omega)
      · exact .inr (by simp; omega)
    exact pyNextG_end (I.ok.hd hc) D hz ho hTI hTO h1 h2 p p2 he fun h' hk => ⟨rfl, I.turnedL (t' := s.toks) (ch := [z, TI, TO, i1, i2]) (fun c o hb q =>
      hk c o (fun q' => hb (by simp [q'])) (fun q' => hb (by simp [q'])) (fun q' => hb (by simp [q'])) (fun q' => hb (by simp [q'])) q) hf⟩
  self := fun A i s Q E st h => by
    obtain ⟨⟨f0, f, hz, _⟩, _⟩ := st
    have hT : s.TypeIs (.ref z) "zip" := ⟨_, hz, rfl⟩
    refine wpAny_pyIter_slot hT F.slot_zip_iter (wpAny_call_entry F.slot_zip_iter hT F.entry_zip_iter ?_ (F.args_zip_iter_1 _))
    show wpAny _ _ (ret (.ref z)) _ _ s
    exact wpAny_pure ⟨_, rfl, "zip", _, hT, F.slot_zip_next.lookup, h⟩
def iZg (K : PySem.W.Frag) (ta : TA) : TI := fun σ H R => ta σ H fun vs H1 => ∃ b1 b2 a b xs ys, vs = [.ref a, .ref b] ∧ Sq b1 K H1 a xs ∧ Sq b2 K H1 b ys ∧ R (ItzG b1 b2 K a b) H1
theorem pi_zg {X : Cx} {tg e e2 : Expr} {ta : TA} {p pos : Pos} (htg : tgOk tg = true) (hg : Gl X "zip") (hm : X.mg "zip" = none) (ha : PA X [e, e2] ta)
    (hs : starEach [e, e2] X.env = (false, eval e X.env) :: starEach [e2] X.env) (hpl : (backTo pos (starEach [e2] X.env)).any (·.1) = false) :
    PI X tg (.Call (.Name "zip" p) [e, e2] [] pos) (iZg X.K ta) := by
  refine ⟨fun pins s σ H R I h => ?_⟩
  refine Call_ (ld_blt I hg hm PyProof.Rows.boot_zip (PyProof.Rows.callWith_type1 (thn (ha.run pos pins s σ H _ I h) fun us s1 ⟨vs, H1, I1, r1, q1⟩ => ?_) hs hpl))
  obtain ⟨b1, b2, a, b, xs, ys, ex, hqx, hqy, q⟩ := q1
  subst ex
  cases r1 with
  | cons r rr =>
    cases rr with
    | cons r' rr =>
      cases rr
      cases r
      cases r'
      have fresh5 : ∀ c, c ∈ [s1.heap.objs.size + 4, s1.heap.objs.size + 2, s1.heap.objs.size + 3, s1.heap.objs.size, s1.heap.objs.size + 1] → FpOk X pins H1 c := fun c hcm => by
        have e' : c = s1.heap.objs.size + 4 ∨ c = s1.heap.objs.size + 2 ∨ c = s1.heap.objs.size + 3 ∨ c = s1.heap.objs.size ∨ c = s1.heap.objs.size + 1 := by simpa using hcm
        have hle : s1.heap.objs.size ≤ c := by
          rcases e' with z | z | z | z | z
          · rw [z]; exact Nat.le_add_right _ _
          · rw [z]; exact Nat.le_add_right _ _
          · rw [z]; exact Nat.le_add_right _ _
          · rw [z]; exact Nat.le_refl _
          · rw [z]; exact Nat.le_add_right _ _
        exact I1.fpOk hle (I1.hok.fresh hle)
      obtain ⟨its, rv, p1, lt1⟩ := hqx.at I1
      obtain ⟨its2, rv2, p2, lt2⟩ := hqy.at I1
      refine call_zg p1 p2 fun h' hz hTI hTO h1 h2 hk => wpAny_pyIter_zip hz ?_
      have I2 : Inv X pins σ H1 { s1 with heap := h' } := I1.kept (t' := s1.toks) hk
      exact ⟨s1.heap.objs.size + 4, [s1.heap.objs.size + 4, s1.heap.objs.size + 2, s1.heap.objs.size + 3, s1.heap.objs.size, s1.heap.objs.size + 1], _, _, H1, rfl, I2, turn_zg htg (PySem.W.ktu_apart s1.heap.objs.size a b lt1 lt2), ⟨⟨_, _, hz, .inl rfl⟩, hTI, ⟨_, _, hTO⟩, h1, h2⟩, fresh5, q⟩
theorem seq_rep {P : Program} {w : World} {K : PySem.W.Frag} {S : Hp} {d : D} {v : V} {ds : List D} (r : Rep P w K S d v) (h : seqOf d = some ds) : ∃ b a xs, v = .ref a ∧ Sq b K S a xs ∧ Reps P w K S ds xs ∧ ds.length ≤ LIM := by
  cases r with
  | lst e l r => cases h; exact ⟨true, _, _, rfl, SqL.of e, r, l⟩
  | tup e l r => cases h; exact ⟨false, _, _, rfl, e, r, l⟩
  | _ => cases h
section
variable {X : Cx} {C : Cn}
theorem yields_zip {S : Hp} {b1 b2 : Bool} {a b : Addr} {vs us : List V} {ds es : List D} (h1 : Sq b1 X.K S a vs) (h2 : Sq b2 X.K S b us) (l : ds.length ≤ LIM) (r1 : Reps X.prog X.w X.K S ds vs) (r2 : Reps X.prog X.w X.K S es us) :
    Yields X S ((ds.zip es).map fun p => .tuple [p.1, p.2]) (ItzG b1 b2 X.K a b) where
  len := by rw [List.length_map, List.length_zip]; omega
  go := fun i d S1 H1 e s1 s2 => by
    rw [List.getElem?_map] at e
    cases ez : (ds.zip es)[i]? with
    | none => rw [ez] at e; cases e
    | some pr =>
      rw [ez] at e
      cases e
      obtain ⟨x, y⟩ := pr
      rw [List.getElem?_zip_eq_some] at ez
      obtain ⟨e1, e2⟩ := ez
      obtain ⟨v, hv, rv⟩ := r1.get e1
      obtain ⟨u, hu, ru⟩ := r2.get e2
      have q1 : Sq b1 X.K H1 a vs := (h1.sub s1).sub s2
      have q2 : Sq b2 X.K H1 b us := (h2.sub s1).sub s2
      refine ⟨⟨vs, us, v, u, q1, q2, hv, hu⟩, fun t H2 y' => ?_⟩
      obtain ⟨T, x', y', rfl, hT, rfl, k1, k2⟩ := y'
      have z1 := k1 vs q1
      have z2 := k2 us q2
      rw [hv] at z1
      rw [hu] at z2
      cases z1
      cases z2
      have hTS : S1 T = none := by
        cases q : S1 T with
        | none => rfl
        | some o => rw [s2 _ _ q] at hT; cases hT
      have sub : Sub S1 (upd S1 T (.tup [v, u])) := fun c o q => by
        have ne : c ≠ T := fun z => by rw [z, hTS] at q; cases q
        rw [upd_ne ne]; exact q
      refine ⟨upd S1 T (.tup [v, u]), ⟨sub, fun c o q => ?_, fun c o q => ?_, fun c o q => ?_⟩, .tup (SqT.of upd_same) (by show 2 ≤ LIM; decide) (.cons ((rv.sub s1).sub sub) (.cons ((ru.sub s1).sub sub) .nil))⟩
      · by_cases ne : c = T
        · subst ne; rw [upd_same] at q ⊢; exact q
        · rw [upd_ne ne] at q ⊢; exact s2 _ _ q
      · have ne : c ≠ T := fun z => by rw [z, hT] at q; cases q
        rw [upd_ne ne]; exact q
      · by_cases ne : c = T
        · subst ne; exact .inr hT
        · rw [upd_ne ne] at q; exact .inl q
  stop := fun i S1 H1 e s1 s2 => by
    rw [List.length_map, List.length_zip] at e
    have := r1.length
    have := r2.length
    exact ⟨vs, us, (h1.sub s1).sub s2, (h2.sub s1).sub s2, by omega⟩
theorem si_zip {tg a b : Expr} {xa xb : Ex} {p pos : Pos} (htg : tgOk tg = true) (hg : Gl X "zip") (hm : X.mg "zip" = none) (ha : SE X C xa a) (hb : SE X C xb b) (hs : NoStar a) (hs2 : NoStar b) : PI X tg (.Call (.Name "zip" p) [a, b] [] pos) (tI X C (.zip xa xb)) :=
  (pi_zg htg hg hm (pa_cons ha.pe (pa_cons hb.pe pa_nil (hs2 _ _)) (hs _ _)) (hs _ _) (by rw [hs2] <;> rfl)).lgi fun σ H RR q => by
    obtain ⟨f, c, S, env, rel, post⟩ := q
    rw [evI] at post
    refine ⟨f, c, S, env, rel, post.thn rel.wf fun d c1 S1 H1 v _ g1 r1 post1 => ?_⟩
    have rel1 := rel.gr g1
    refine ⟨f, c1, S1, env, rel1, post1.thn rel1.wf fun d2 c2 S2 H2 v2 _ g2 r2 post2 => ?_⟩
    have wf2 := (rel1.gr g2).wf
    obtain ⟨ds, e, q⟩ := atR_ok (K := X.K) post2
    unfold zipD at e
    cases e1 : seqOf d with
    | none => rw [e1] at e; cases e
    | some as =>
      rw [e1] at e
      cases e2 : seqOf d2 with
      | none => rw [e2] at e; cases e
      | some bs =>
        rw [e2] at e
        cases e
        obtain ⟨b1, p1, xs, rfl, k1, k2, k3⟩ := seq_rep (r1.sub g2.sub) e1
        obtain ⟨b2, p2, ys, rfl, l1, l2, l3⟩ := seq_rep r2 e2
        exact ⟨b1, b2, p1, p2, xs, ys, rfl, k1.sub wf2.inn, l1.sub wf2.inn, q _ _ _ wf2.refl (yields_zip k1 l1 k3 k2 l2)⟩
end
end LG

/-! LgT: dicts that are made, changed, asked. -/
namespace LG
open PySem PySem.Spec PyProof.Rows L2

section
variable {P : Program} {w : World} {K : PySem.W.Frag} {S : Hp}
theorem KReps.map {κ : NestedKey} {vd : D} {v : V} {u : Value} (c : RelV v u) (d : Rep P w K S vd v) : ∀ {kvs : List (D × D)} {xs : List (NestedKey × Addr × Value)}, KReps P w K S kvs xs →
    KReps P w K S (kvs.map fun p => if kq p.1 κ = true then (p.1, vd) else p) (xs.map (putAt κ u))
  | _, _, .nil => .nil
  | _, _, .cons (kd := kd) (κ := κ') a b c' d' t => by
    rw [List.map_cons, List.map_cons]
    by_cases h : κ' = κ
    · subst h
      rw [if_pos (show kq kd κ' = true by rw [kq_nk a]; simp)]
      unfold putAt
      rw [if_pos rfl]
      exact .cons a b c d (KReps.map c d t)
    · rw [if_neg (show ¬ kq kd κ = true by rw [kq_nk a]; simpa using h)]
      unfold putAt
      rw [if_neg (show ¬ κ' = κ from h)]
      exact .cons a b c' d' (KReps.map c d t)
theorem KReps.app {kd vd : D} {κ : NestedKey} {ka : Addr} {v : V} {u : Value} (e : nk kd = some κ) (b : Rep P w K S kd (.ref ka)) (c : RelV v u) (d : Rep P w K S vd v) : ∀ {kvs : List (D × D)} {xs : List (NestedKey × Addr × Value)}, KReps P w K S kvs xs →
    KReps P w K S (kvs ++ [(kd, vd)]) (xs ++ [(κ, ka, u)])
  | _, _, .nil => .cons e b c d .nil
  | _, _, .cons a' b' c' d' t => .cons a' b' c' d' (KReps.app e b c d t)
theorem KReps.put {kvs : List (D × D)} {xs : List (NestedKey × Addr × Value)} {kd vd : D} {κ : NestedKey} {ka : Addr} {v : V} {u : Value} (h : KReps P w K S kvs xs) (e : nk kd = some κ) (b : Rep P w K S kd (.ref ka)) (c : RelV v u) (d : Rep P w K S vd v) :
    KReps P w K S (dPut kvs kd κ vd) (storedH xs κ ka u) := by
  unfold dPut storedH
  rcases h.get (κ := κ) with ⟨e1, e2⟩ | ⟨d', ka', u', v', e1, e2, _⟩
  · rw [e1, e2, if_neg (by decide), if_neg (by decide)]
    exact h.app e b c d
  · rw [e1, e2, if_pos (by rfl), if_pos (by rfl)]
    exact h.map c d
theorem dPut_len {kvs : List (D × D)} {kd vd : D} {κ : NestedKey} : (dPut kvs kd κ vd).length ≤ kvs.length + 1 := by
  unfold dPut
  split
  · rw [List.length_map]; omega
  · rw [List.length_append]; exact Nat.le_refl _
end
section
variable {X : Cx} {C : Cn} {pos : Pos}
theorem ext_ok {H : Hp} {h : Heap} {a : Addr} {o : Obj} (e : h.get? a = some o) : ObjOk X.prog X.w H h a (.ext (pinO a o)) := ⟨e, ⟨o, e⟩, fun _ _ p k => k o p⟩
theorem own_of {P : Program} {w : World} {K : PySem.W.Frag} {S H : Hp} {a : Addr} {o : Obj} {es : Array DictEntry} {ep : Nat} {kvs : List (D × D)} {xs : List (NestedKey × Addr × Value)} (h1 : o.ExactDict) (h2 : o.data = .dict es ep) (h3 : es.toList = xs.map (entryOfKey (nestedKind P w))) (h4 : (xs.map (·.1)).Nodup) (h5 : (a == sysModules) = false) (h6 : kvs.length ≤ LIM) (h7 : KReps P w K S kvs xs) :
    OwnAt P w K S (upd H a (.ext (pinO a o))) a (.dict kvs) := .dic upd_same h1 h2 h3 h4 h5 h6 h7
/-- d[k] = v, the dict the frame's own -/
def rSetD (X : Cx) : TSet := fun o i v H Q => ∃ S a kd κ ka kvs dv, o = .ref a ∧ i = .ref ka ∧ Sub S H ∧ OwnAt X.prog X.w X.K S H a (.dict kvs) ∧ nk kd = some κ ∧ Rep X.prog X.w X.K S kd (.ref ka) ∧ Rep X.prog X.w X.K S dv v ∧ kvs.length < LIM ∧
  ∀ ob, OwnAt X.prog X.w X.K S (upd H a (.ext (pinO a ob))) a (.dict (dPut kvs kd κ dv)) → Q (upd H a (.ext (pinO a ob)))
theorem set_dictD {k : Nat} (hr : Room k X.A) : PSet X (rSetD X) := by
  intro pins s σ H o i v ov iv u Q I ro ri rv h
  obtain ⟨S, a, kd, κ, ka, kvs, dv, rfl, rfl, sub, own, ek, rk, rd, hl, q⟩ := h
  cases ro
  cases ri
  cases own with
  | dic e1 e2 e3 e4 e5 e6 e7 e8 =>
    rename_i ob es ep xs
    have ho := (I.hok a _ e1).1
    have hd : s.heap.DictOfH (nestedKind X.prog X.w) a xs := ⟨ob, es, ep, ho, e2, e3, e4, (e8.sub sub).is I, e5⟩
    have hlen := e8.length
    refine wpAny_setItem_heap (hsz := by have := LIM_le; omega) (room8 (X := X) hr) (Rep.kindIs I (rk.sub sub) ek) hd fun h' hd' sb => ?_
    obtain ⟨ob', es', ep', g1, g2, g3, g4, g5, g6⟩ := hd'
    have I' : Inv X pins σ (upd H a (.ext (pinO a ob'))) { s with heap := h', toks := s.toks + (nestedKind X.prog X.w).draws κ } :=
      I.write (x := a) (e := a) (by rw [e1]; exact trivial) (.inl rfl) (fun b o' hb e => (sb.2 b hb).trans e) ⟨_, g1⟩ (ext_ok g1)
    exact ⟨_, I', q ob' (own_of g2 g3 g4 g6 e6 (Nat.le_trans dPut_len hl) (e8.put ek rk rv rd))⟩
def rSetA (X : Cx) : TSet := fun o i v H Q => rSetL o i v H Q ∨ rSetD X o i v H Q
theorem set_any {k : Nat} (hr : Room k X.A) : PSet X (rSetA X) := fun pins s σ H o i v ov iv u Q I ro ri rv h => h.elim (set_list pins s σ H o i v ov iv u Q I ro ri rv) (set_dictD hr pins s σ H o i v ov iv u Q I ro ri rv)
theorem sw_sub {e o i : Expr} {p : Pos} (l : Nat) (env : Env) : swapsWith e (some (.Subscript o i p)) l env = pure false := by
  cases e <;> rfl
theorem ss_put {i k : Nat} {y : Str} {e ke : Expr} {xe xk : Ex} {p p' : Pos} (hr : Room k X.A) (hy : PE X (.Name y p) (tVar i)) (he : SE X C xe e) (hk : SE X C xk ke)
    (ha : ∀ v, assign (.Subscript (.Name y p) ke p') X.env v = (do let ov ← holding [v] (eval (.Name y p) X.env); let iv ← holding [v, ov] (eval ke X.env); standAt p'; holding [v, ov, iv] (setItem ov iv v); release [v, ov, iv] [])) :
    PS X (.Assign [.Subscript (.Name y p) ke p'] e pos) (tSm X C (.put i xk xe)) :=
  (ps_asg he.pe (pg_sub hy hk.pe (set_any hr) ha) (sw_sub (o := .Name y p) (i := ke) (p := p') pos.line X.env) (by cases e <;> rfl) rfl).lgi fun D σ H q => by
    obtain ⟨f, c, S, env, rel, post⟩ := q
    rw [exS] at post
    cases e0 : env[i]? with
    | none => simp only [e0] at post; exact (show False from post).elim
    | some sl =>
      cases sl with
      | own dd =>
        simp only [e0] at post
        obtain ⟨a, h1, h2, h3, h4, h5⟩ := rel.own i dd e0
        refine ⟨f, c, S, env, rel, post.ex rel fun dv c1 S1 H1 v _ g1 r1 post1 => ?_⟩
        have rel1 := rel.gr g1
        refine ⟨.ref a, h1, f, c1, S1, env, rel1, post1.ex rel1 fun dk c2 S2 H2 vk _ g2 r2 post2 => ?_⟩
        have rel2 := rel1.gr g2
        obtain ⟨a', k1, k2, k3, k4, k5⟩ := rel2.own i dd e0
        rw [h1] at k1
        have z : a = a' := by simpa using k1
        subst z
        cases ep : putD dd dk dv with
        | exn k c0 => rw [ep] at post2; exact (show False from post2).elim
        | bad => rw [ep] at post2; exact (show False from post2).elim
        | ok d' =>
          rw [ep] at post2
          cases dd with
          | list ds =>
            cases dk with
            | int j =>
              have ep' : (match ixN ds.length j with | some j => R.ok (PyData.list (ds.set j dv)) | none => .bad) = .ok d' := ep
              cases ei : ixN ds.length j with
              | none => rw [ei] at ep'; cases ep'
              | some jj =>
                rw [ei] at ep'
                cases ep'
                cases r2
                cases k5 with
                | lst q l r =>
                  refine .inl ⟨a, _, j, jj, rfl, rfl, q, by rw [← r.length]; exact ei, post2 S2 _ σ (rel2.write e0 h1 (.lst upd_same (by rw [List.length_set]; exact l) (Reps.setAt (r1.sub g2.sub) jj r)))⟩
            | _ => cases ep
          | dict kvs =>
            have ep' : (match nk dk with | some κ => if kvs.length < LIM then R.ok (PyData.dict (dPut kvs dk κ dv)) else .bad | none => .bad) = .ok d' := ep
            cases en : nk dk with
            | none => rw [en] at ep'; cases ep'
            | some κ =>
              rw [en] at ep'
              simp only at ep'
              split at ep'
              · rename_i hl
                cases ep'
                obtain ⟨ka, rfl⟩ := nk_ref r2 en
                exact .inr ⟨S2, a, dk, κ, ka, kvs, dv, rfl, rfl, rel2.wf.inn, k5, en, r2, r1.sub g2.sub, hl, fun ob o => post2 S2 _ σ (rel2.write e0 h1 o)⟩
              · cases ep'
          | _ => cases ep
      | _ => simp only [e0] at post; exact (show False from post).elim
/-! ### {} -/
theorem sf_dct0 : PE X (.Dict [] [] pos) (tEF X C (.dct .nil .nil)) := ⟨fun pins s σ H Q I h => by
  obtain ⟨f, c, S, env, rel, post⟩ := h
  have post' : PostF X.prog X.w X.K f (fun k H' => C.W k σ H') S H (.ok (.dict [], c)) Q := by
    rw [evE] at post
    rw [evA] at post
    exact post
  refine wpAny_Dict_empty ?_
  have hp : H s.heap.objs.size = none := I.hok.fresh (Nat.le_refl _)
  have hg : (s.heap.push { cls := .type "dict", data := .dict #[] }).get? s.heap.objs.size = some { cls := .type "dict", data := .dict #[] } := Heap.get?_push_size _ rfl
  have I1 : Inv X pins σ (upd H s.heap.objs.size (.ext (pinO s.heap.objs.size { cls := .type "dict", data := .dict #[] }))) { s with heap := s.heap.push { cls := .type "dict", data := .dict #[] } } :=
    I.laid (t' := s.toks) (fun _ _ q => Heap.get?_push_of_some _ q) (Nat.le_refl _) (ext_ok hg)
  have hS : S s.heap.objs.size = none := by
    cases e : S s.heap.objs.size with
    | none => rfl
    | some o => rw [rel.wf.inn _ _ e] at hp; cases hp
  have hne : (s.heap.objs.size == sysModules) = false := by
    exact beq_false_of_ne (Nat.ne_of_gt I.big)
  exact ⟨.ref s.heap.objs.size, _, I1, rfl, post' S _ _ (rel.wf.laid hp _) hp hS (own_of ⟨rfl, rfl, rfl⟩ rfl (xs := []) rfl List.nodup_nil hne (Nat.zero_le _) .nil)⟩⟩
/-! ### dict(zip(..)) -/
theorem pair_zg {prog : Program} {w : World} (b1 b2 : Bool) (z TI TO i1 i2 l1 l2 : Addr) (D : ZipApart z TI TO i1 i2 l1 l2) (xs ys : Array Value) :
    PairArg prog w "zip" z [z, TI, TO, i1, i2, l1, l2] [z, TO, i1, i2] (min xs.size ys.size) (fun i k v => xs[i]? = some k ∧ ys[i]? = some v)
      (fun h => ZipAt h z TI TO .none false ∧ IsPair h TI (.ref i1) (.ref i2) ∧ (∃ a b, IsPair h TO a b) ∧ SIt b1 h i1 l1 0 ∧ SIt b2 h i2 l2 0 ∧ SAt b1 h l1 xs ∧ SAt b2 h l2 ys) where
  type := fun s ok => ⟨_, ok.1, rfl⟩
  notDict := by decide
  keep := fun h h' ok hk => by
    obtain ⟨hz, hTI, ⟨a, b, hTO⟩, h1, h2, hl1, hl2⟩ := ok
    exact ⟨hk _ _ hz, hk _ _ hTI, ⟨a, b, hk _ _ hTO⟩, h1.at fun o e => hk _ o e, h2.at fun o e => hk _ o e, hl1.at fun o e => hk _ o e, hl2.at fun o e => hk _ o e⟩
  there := fun h ok b hb => by
    obtain ⟨hz, hTI, ⟨a, c, hTO⟩, h1, h2, hl1, hl2⟩ := ok
    obtain ⟨o1, h1, _⟩ := h1.obj
    obtain ⟨o2, h2, _⟩ := h2.obj
    have there : ∀ {b : Bool} {l : Addr} {q : Array Value}, SAt b h l q → ∃ o, h.get? l = some o := fun {b l q} r => by
      cases b with
      | true => obtain ⟨o, e, _⟩ := (show h.IsList l q from r); exact ⟨o, e⟩
      | false => obtain ⟨o, e, _⟩ := (show h.IsTuple l q from r); exact ⟨o, e⟩
    simp only [List.mem_cons, List.not_mem_nil, or_false] at hb
    rcases hb with rfl | rfl | rfl | rfl | rfl | rfl | rfl
    · exact ⟨_, hz⟩
    · exact ⟨_, hTI⟩
    · exact ⟨_, hTO⟩
    · exact ⟨_, h1⟩
    · exact ⟨_, h2⟩
    · exact there hl1
    · exact there hl2
  sub := fun b hb => by simp at hb ⊢; rcases hb with rfl | rfl | rfl | rfl <;> simp
  noKeys := fun A s Q E hA ok h => PySem.getAttrOr_miss_zip ok.1 rfl rfl rfl PySem.zip_no_keys (by decide +kernel) hA h
  iter := fun A s d Q E hA ok hd hdf h => by
    obtain ⟨hz, hTI, ⟨a, b, hTO⟩, h1, h2, hl1, hl2⟩ := ok
    simp only [List.mem_cons, List.not_mem_nil, or_false, not_or] at hdf
    obtain ⟨dz, dTI, dTO, di1, di2, dl1, dl2⟩ := hdf
    refine wpAny_pyIter_zip hz (h z [z, TO, i1, i2] (fun i h => (∃ f0 f, ZipAt h z TI TO f0 f ∧ Owns f0) ∧ IsPair h TI (.ref i1) (.ref i2) ∧ (∃ a b, IsPair h TO a b) ∧ SIt b1 h i1 l1 i ∧ SIt b2 h i2 l2 i ∧ SAt b1 h l1 xs ∧ SAt b2 h l2 ys) s.heap s.toks ?_
      ⟨⟨_, _, hz, .inl rfl⟩, hTI, ⟨a, b, hTO⟩, h1, h2, hl1, hl2⟩ (fun _ _ e => e) fun b hb => .inl hb)
    refine { off := fun hm => ?_, frame := fun i h₁ h₂ st hk => ?_, item := fun i s₁ Q₁ E₁ hi st hds hQ => ?_, done := fun s₁ Q₁ E₁ st hQ => ?_ }
    · simp only [List.mem_cons, List.not_mem_nil, or_false] at hm
      rcases hm with e | e | e | e
      · exact dz e
      · exact dTO e
      · exact di1 e
      · exact di2 e
    · obtain ⟨⟨f0, f, hz, ho⟩, hTI, ⟨a, b, hTO⟩, h1, h2, hl1, hl2⟩ := st
      exact ⟨⟨f0, f, hk _ _ (Ne.symm dz) hz, ho⟩, hk _ _ (Ne.symm dTI) hTI, ⟨a, b, hk _ _ (Ne.symm dTO) hTO⟩, h1.at fun o e => hk _ o (Ne.symm di1) e, h2.at fun o e => hk _ o (Ne.symm di2) e, hl1.at fun o e => hk _ o (Ne.symm dl1) e, hl2.at fun o e => hk _ o (Ne.symm dl2) e⟩
    · obtain ⟨⟨f0, f, hz, ho⟩, hTI, ⟨a, b, hTO⟩, h1, h2, hl1, hl2⟩ := st
      have ex := Array.getElem?_eq_getElem (Nat.lt_of_lt_of_le hi (Nat.min_le_left ..))
      have ey := Array.getElem?_eq_getElem (Nat.lt_of_lt_of_le hi (Nat.min_le_right ..))
      refine pyNextG_item D hz ho hTI hTO h1 h2 hl1 hl2 ex ey fun h' f0' f' a1 a2 a3 a4 a5 a6 a7 hk => ?_
      exact hQ s₁.heap.objs.size _ _ h' s₁.toks ⟨ex, ey⟩ (.inl ⟨_, a6, rfl, _, rfl⟩)
        ⟨⟨f0', f', a1, a2⟩, hk _ _ D.TIz D.TITO D.TIi1 D.TIi2 hTI, a3, a4, a5, hl1.at fun o e => hk _ o D.l1z D.l1TO D.l1i1 D.l1i2 e, hl2.at fun o e => hk _ o D.l2z D.l2TO D.l2i1 D.l2i2 e⟩
        fun c o hc e => hk c o (fun x => hc (by simp [x])) (fun x => hc (by simp [x])) (fun x => hc (by simp [x])) (fun x => hc (by simp [x])) e
    · obtain ⟨⟨f0, f, hz, ho⟩, hTI, ⟨a, b, hTO⟩, h1, h2, hl1, hl2⟩ := st
      have hend : xs[min xs.size ys.size]? = none ∨ ys[min xs.size ys.size]? = none := by
        rcases Nat.le_total xs.size ys.size with h | h
        · exact .inl (Array.getElem?_eq_none (by rw [Nat.min_eq_left h]; exact Nat.le_refl _))
        · exact .inr (Array.getElem?_eq_none (by rw [Nat.min_eq_right h]; exact Nat.le_refl _))
      exact pyNextG_end hA D hz ho hTI hTO h1 h2 hl1 hl2 hend fun h' hk => hQ h' s₁.toks fun c o hc e => hk c o (fun x => hc (by simp [x])) (fun x => hc (by simp [x])) (fun x => hc (by simp [x])) (fun x => hc (by simp [x])) e
/-- the pairs, with the addresses of their keys -/
theorem zip_keys {P : Program} {w : World} {K : PySem.W.Frag} {S : Hp} : ∀ {ks vs : List D} {kv vv : List V} {ku vu : List Value}, Reps P w K S ks kv → Reps P w K S vs vv → Vals kv ku → Vals vv vu → ((ks.zip vs).all fun p => (nk p.1).isSome) = true →
    ∃ ps : List (NestedKey × Addr × Value), KReps P w K S (ks.zip vs) ps ∧ ps.length = min ku.length vu.length ∧ ∀ (i : Nat) key v, ku[i]? = some key → vu[i]? = some v → ∃ (k : NestedKey) (b : Addr), ps[i]? = some (k, b, v) ∧ key = Value.ref b
  | [], _, _, _, _, _, .nil, _, .nil, _, _ => ⟨[], .nil, by simp, fun i key v h _ => by simp at h⟩
  | _ :: _, [], _, _, _, _, .cons .., .nil, .cons .., .nil, _ => ⟨[], .nil, by simp, fun i key v _ h => by simp at h⟩
  | k :: ks, v :: vs, _, _, _, _, .cons (v := kv) rk tk, .cons rv tv, .cons (b := ku) uk wk, .cons (b := vu) uv wv, h => by
    rw [List.zip_cons_cons, List.all_cons, Bool.and_eq_true] at h
    obtain ⟨h1, h2⟩ := h
    obtain ⟨ps, q1, q2, q3⟩ := zip_keys tk tv wk wv h2
    obtain ⟨κ, ek⟩ := Option.isSome_iff_exists.mp h1
    obtain ⟨a, rfl⟩ := nk_ref rk ek
    have eu : ku = .ref a := uk
    subst eu
    refine ⟨(κ, a, vu) :: ps, .cons ek rk uv rv q1, by simp [q2], fun i key val e1 e2 => ?_⟩
    cases i with
    | zero => cases e1; cases e2; exact ⟨κ, a, rfl, rfl⟩
    | succ i =>
      rw [List.getElem?_cons_succ] at e1 e2 ⊢
      exact q3 i key val e1 e2
theorem KReps.putAll {P : Program} {w : World} {K : PySem.W.Frag} {S : Hp} : ∀ {kvs acc : List (D × D)} {ps xs : List (NestedKey × Addr × Value)}, KReps P w K S kvs ps → KReps P w K S acc xs → KReps P w K S (mergeD acc kvs) (storedAllH xs ps)
  | _, _, _, _, .nil, h => h
  | _, acc, _, xs, .cons (kd := kd) (vd := vd) (κ := κ) (ka := ka) (u := u) (r := r) a b c d t, h => by
    unfold mergeD
    rw [a]
    show KReps P w K S (mergeD (dPut acc kd κ vd) r) (storedAllH (storedH xs κ ka u) _)
    exact KReps.putAll t (h.put a b c d)
theorem mergeD_len : ∀ {kvs acc : List (D × D)}, (mergeD acc kvs).length ≤ acc.length + kvs.length
  | [], acc => Nat.le_refl _
  | (k, v) :: r, acc => by
    unfold mergeD
    split
    · rename_i κ _
      have h1 := mergeD_len (kvs := r) (acc := dPut acc k κ v)
      have h2 := dPut_len (kvs := acc) (kd := k) (vd := v) (κ := κ)
      rw [List.length_cons]
      omega
    · have h1 := mergeD_len (kvs := r) (acc := acc)
      rw [List.length_cons]
      omega
theorem SqT.lim {K : PySem.W.Frag} {S : Hp} {a : Addr} {vs : List V} (h : SqT K S a vs) : Sq false K S a vs := h
theorem sf_dictzip {k : Nat} {a b : Expr} {xa xb : Ex} {p p2 p3 pos : Pos} (hc : X.calm = true) (hr : Room k X.A) (hg : Gl X "dict") (hm : X.mg "dict" = none) (hgz : Gl X "zip") (hmz : X.mg "zip" = none) (ha : SE X C xa a) (hb : SE X C xb b) (hs : NoStar a) (hs2 : NoStar b) :
    PE X (.Call (.Name "dict" p) [.Call (.Name "zip" p2) [a, b] [] p3] [] pos) (tEF X C (.prim .dictzip (.cons xa (.cons xb .nil)))) := ⟨fun pins s σ H Q I h => by
  obtain ⟨f, c, S, env, rel, post⟩ := h
  rw [evE] at post
  have pa := sa_cons ha (sa_cons hb (sa_nil (X := X) (C := C)) hs2) hs
  refine Call_ (ld_blt I hg hm PyProof.Rows.boot_dict ?_)
  refine PyProof.Rows.callWith_type1 (PyProof.Rows.args_cons ?_ rfl) rfl rfl
  refine Call_ (ld_blt I hgz hmz PyProof.Rows.boot_zip ?_)
  refine PyProof.Rows.callWith_type1 (thn (pa.run p3 pins s σ H _ I ⟨f, c, S, env, rel, post.thn (Q' := fun vs H1 => ∃ c1 S1 ks vv kv uv la ra, f.wf X.K c1 S1 H1 ∧ Gr f.T S H c1 S1 H1 ∧ vs = [.ref la, .ref ra] ∧ S1 la = some (.lst kv) ∧ SqT X.K S1 ra uv ∧ Reps X.prog X.w X.K S1 ks kv ∧ Reps X.prog X.w X.K S1 vv uv ∧ ks.length ≤ LIM ∧
      ((ks.zip vv).all fun p => (nk p.1).isSome) = true ∧ PostF X.prog X.w X.K f (fun k H' => C.W k σ H') S1 H1 (.ok (.dict (mergeD [] (ks.zip vv)), c1)) Q) rel.wf fun ds c1 S1 H1 vs _ g1 r1 post1 => ?_⟩) fun us s1 ⟨vs, H1, I1, r1, q1⟩ => ?_) (hs _ _) (by rw [hs2] <;> rfl)
  · -- what the two are
    have post2 : PostF X.prog X.w X.K f (fun k H' => C.W k σ H') S1 H1 ((primD .dictzip ds).at c1) Q := post1
    match ds, r1, post2 with
    | [.list ks, .tuple vv], .cons (.lst e l r) (.cons (.tup e2 l2 r2) .nil), post2 =>
      have post3 : PostF X.prog X.w X.K f (fun k H' => C.W k σ H') S1 H1 (R.at (if ((ks.zip vv).all fun p => (nk p.1).isSome) = true then .ok (.dict (mergeD [] (ks.zip vv))) else .bad) c1) Q := post2
      split at post3
      · rename_i hk
        exact ⟨c1, S1, ks, vv, _, _, _, _, (rel.gr g1).wf, g1, rfl, e, e2, r, r2, l, hk, post3⟩
      · exact (show False from post3).elim
  · obtain ⟨c1, S1, ks, vv, kv, uv, la, ra, wf, g1, rfl, e1, e2, r3, r4, hl, hk, post2⟩ := q1
    cases r1 with
    | cons rA rr =>
      cases rr with
      | cons rB rr =>
        cases rr
        cases rA
        cases rB
        have q1 : Sq true X.K H1 la kv := SqL.of (wf.inn _ _ e1)
        have q2 : Sq false X.K H1 ra uv := SqT.sub wf.inn e2
        obtain ⟨its, rv, p1, lt1⟩ := q1.at I1
        obtain ⟨its2, rv2, p2', lt2⟩ := q2.at I1
        refine call_zg p1 p2' fun h' hz hTI hTO h1 h2 hkp => PyProof.Rows.args_nil ?_
        have D := PySem.W.ktu_apart s1.heap.objs.size la ra lt1 lt2
        have I2 : Inv X pins σ H1 { s1 with heap := h' } := I1.kept (t' := s1.toks) hkp
        obtain ⟨ps, kr, pl, pp⟩ := zip_keys r3 r4 rv rv2 hk
        have hsz : min its.toArray.size its2.toArray.size ≤ sizeLine := by
          have := rv.length
          have := r3.length
          have := LIM_le
          rw [List.size_toArray, List.size_toArray]
          omega
        have hz4 : s1.heap.objs.size + 4 < h'.objs.size := Heap.lt_size hz
        have hlt : ∀ {b : Addr} {o : Obj}, s1.heap.get? b = some o → b < s1.heap.objs.size := fun e => Heap.lt_size e
        have nwr : ∀ {b : Addr}, b < s1.heap.objs.size → b ∉ [s1.heap.objs.size + 4, s1.heap.objs.size + 3, s1.heap.objs.size, s1.heap.objs.size + 1] := fun {b} hb hm => by
          have e' : b = s1.heap.objs.size + 4 ∨ b = s1.heap.objs.size + 3 ∨ b = s1.heap.objs.size ∨ b = s1.heap.objs.size + 1 := by simpa using hm
          rcases e' with z | z | z | z <;> exact absurd hb (by rw [z]; exact Nat.not_lt.mpr (by omega))
        refine call_dict_pairsH (knd := nestedKind X.prog X.w) (ps := ps) (pair_zg (prog := X.prog) (w := X.w) true false _ _ _ _ _ la ra D its.toArray its2.toArray) (I.ok.hd hc) ?_ ⟨hz, hTI, ⟨_, _, hTO⟩, h1, h2, p1.at fun o e => hkp _ _ e, p2'.at fun o e => hkp _ _ e⟩ ⟨?_, fun i key v e => ?_⟩ (fun hh hkk x hx => ?_) hsz fun h'' tk hd'' hk'' => ?_
        · show X.A.in1.in1.units + 8 < cLine
          have := hr.un
          show X.A.units + 1 + 1 + 8 < cLine
          omega
        · rw [pl, List.size_toArray, List.size_toArray]
        · exact pp i key v (by simpa using e.1) (by simpa using e.2)
        · have Ih : Inv X pins σ H1 { s1 with heap := hh } := I1.kept (t' := s1.toks) fun b o e => hkk b o (Nat.ne_of_lt (Nat.lt_trans (hlt e) (show s1.heap.objs.size < h'.objs.size by omega))) (nwr (hlt e)) (hkp _ _ e)
          exact (kr.sub wf.inn).is Ih x hx
        · obtain ⟨ob, es, ep, k1, k2, k3, k4, k5, k6⟩ := hd''
          have I3 : Inv X pins σ (upd H1 h'.objs.size (.ext (pinO h'.objs.size ob))) { s1 with heap := h'', toks := tk } :=
            I1.laid (fun b o e => hk'' b o (nwr (hlt e)) (hkp _ _ e)) (by show s1.heap.objs.size ≤ h'.objs.size; omega) (ext_ok k1)
          have hp : H1 h'.objs.size = none := I1.hok.fresh (by show s1.heap.objs.size ≤ h'.objs.size; omega)
          have hS : S1 h'.objs.size = none := by
            cases e : S1 h'.objs.size with
            | none => rfl
            | some o => rw [wf.inn _ _ e] at hp; cases hp
          have hne : (h'.objs.size == sysModules) = false := beq_false_of_ne (Nat.ne_of_gt I2.big)
          have hml : (mergeD [] (ks.zip vv)).length ≤ LIM := by
            have := mergeD_len (kvs := ks.zip vv) (acc := [])
            rw [List.length_zip] at this
            simp at this
            omega
          exact ⟨.ref h'.objs.size, _, I3, rfl, post2 S1 _ _ (wf.laid hp _) hp hS (own_of k2 k3 k4 k6 hne hml (kr.putAll .nil))⟩⟩
/-! ### d.get(k, v) -/
theorem se_getO {i k : Nat} {y : Str} {ke ve : Expr} {xk xv : Ex} {p apos cpos : Pos} (hr : Room k X.A) (hy : PE X (.Name y p) (tVar i)) (hk : SE X C xk ke) (hv : SE X C xv ve) (hs : NoStar ke) (hs2 : NoStar ve) (hl : (apos.endLine == cpos.line) = true) :
    SE X C (.getO i xk xv) (.Call (.Attribute (.Name y p) "get" apos) [ke, ve] [] cpos) := by
  refine se_val ⟨fun pins s σ H Q I h => ?_⟩
  obtain ⟨f, c, S, env, rel, post⟩ := h
  rw [evE] at post
  cases e0 : env[i]? with
  | none => simp only [e0] at post; exact (show False from post).elim
  | some sl =>
    cases sl with
    | own dd =>
      cases dd with
      | dict kvs =>
        simp only [e0] at post
        obtain ⟨a, h1, h2, h3, h4, h5⟩ := rel.own i _ e0
        refine wpAny_Call_method_late rfl (by rw [hs, hs2]; rfl) hl rfl (thn (hy.run pins s σ H (fun x H1 => x = .ref a ∧ H1 = H) I ⟨_, h1, rfl, rfl⟩) fun v s1 ⟨x, H1, I1, r1, ex, eH⟩ => ?_)
        subst ex
        subst eH
        cases r1
        cases h5 with
        | dic e1 e2 e3 e4 e5 e6 e7 e8 =>
          have ho := (I1.hok a _ e1).1
          refine ⟨"dict", "dict.get", PySem.F.plainAttrs_dict, PySem.F.slot_dict_get, PySem.F.type_dict_get, ⟨_, ho, e2.1⟩, fun b eb => by cases eb; exact ⟨_, ho, e2.2.1⟩, ?_⟩
          have pa : PA X [ke, ve] (tCons (tE X C xk) (tCons (tE X C xv) tNil)) := pa_cons hk.pe (pa_cons hv.pe pa_nil (hs2 _ _)) (hs _ _)
          have hA := pa.run cpos pins s1 σ H1 (fun vs H3 => ∃ c2 S2 dk dv κ kv vv, Rel X.prog X.w X.K f c2 S2 H3 env σ ∧ vs = [kv, vv] ∧ Rep X.prog X.w X.K S2 dk kv ∧ Rep X.prog X.w X.K S2 dv vv ∧ nk dk = some κ ∧ Post f (fun k H' => C.W k σ H') (Rep X.prog X.w X.K) S2 H3 (.ok ((dGet kvs κ).getD dv, c2)) Q) I1
            ⟨f, c, S, env, rel, post.thn rel.wf fun dk c1 S1 H2 kv _ g1 r1 post1 => ⟨f, c1, S1, env, rel.gr g1, post1.thn (rel.gr g1).wf fun dv c2 S2 H3 vv _ g2 r2 post2 => by
              cases en : nk dk with
              | none => simp only [en] at post2; exact (show False from post2).elim
              | some κ =>
                simp only [en] at post2
                exact ⟨c2, S2, dk, dv, κ, kv, vv, (rel.gr g1).gr g2, rfl, r1.sub g2.sub, r2, en, post2⟩⟩⟩
          rw [hs] at hA ⊢
          refine Calls.callWith_builtin (by show (false || (backTo cpos (starEach [ve] X.env)).any (·.1)) = false; rw [hs2] <;> rfl) (Calls.evalArgs_plain ?_)
          refine thn hA fun us s2 ⟨vs, H3, I3, r3, c2, S2, dk, dv, κ, kv, vv, rel3, ev, rk, rd, en, post3⟩ => ?_
          subst ev
          cases r3 with
          | cons ra rr =>
            cases rr with
            | cons rb rr =>
              cases rr
              obtain ⟨ka, rfl⟩ := nk_ref rk en
              cases ra
              obtain ⟨a', k1, k2, k3, k4, k5⟩ := rel3.own i _ e0
              rw [h1] at k1
              have z : a = a' := by simpa using k1
              subst z
              cases k5 with
              | dic f1 f2 f3 f4 f5 f6 f7 f8 =>
                rename_i ob es ep xs
                have hd : s2.heap.DictOfH (nestedKind X.prog X.w) a xs := ⟨ob, es, ep, (I3.hok a _ f1).1, f2, f3, f4, (f8.sub rel3.wf.inn).is I3, f5⟩
                refine PySem.getOr_keyed (room8 (X := X) hr) (Rep.kindIs I3 (rk.sub rel3.wf.inn) en) f6 ⟨xs, hd, rfl⟩ ?_
                rw [PySem.valueAt_pairsH]
                rcases f8.get (κ := κ) with ⟨g1, g2⟩ | ⟨d', ka', u', v', g1, g2, g3, g4⟩
                · rw [g2]
                  rw [g1] at post3
                  exact ⟨vv, H3, I3.tok _, rb, post3 _ _ _ rel3.wf.refl rd⟩
                · rw [g2]
                  rw [g1] at post3
                  exact ⟨v', H3, I3.tok _, g3, post3 _ _ _ rel3.wf.refl g4⟩
      | _ => simp only [e0] at post; exact (show False from post).elim
    | _ => simp only [e0] at post; exact (show False from post).elim
/-! ### for k in d -/
def ItD (d : Addr) (ob : Obj) (xs : List (NestedKey × Addr × Value)) : L2.It :=
  ⟨fun i H => H d = some (.ext (pinO d ob)) ∧ i < xs.length, fun i H x H' => H' = H ∧ ∃ y, xs[i]? = some y ∧ x = .ref y.2.1, fun i H => H d = some (.ext (pinO d ob)) ∧ xs.length ≤ i⟩
theorem turn_kd {P : Program} {w : World} {K : PySem.W.Frag} {tg : Expr} {d it : Addr} {ob : Obj} {es : Array DictEntry} {ep : Nat} {xs : List (NestedKey × Addr × Value)} (hc : ob.ExactDict) (hd : ob.data = .dict es ep) (he : es.toList = xs.map (entryOfKey (nestedKind P w))) :
    Turn P w K tg (ItD d ob xs) [it] it (fun i h => h.IsKeyIter it d i xs.length ep) where
  mem := by simp
  obj := fun i h st b hb => by
    have e : b = it := by simpa using hb
    subst e
    obtain ⟨oi, e, c, dd⟩ := st
    exact ⟨oi, e, fun v z => by rw [dd] at z; cases z⟩
  keep := fun i h h' st k => st.at fun oi e => k it (by simp) oi e
  item := by
    intro X hP hw hK hcalm i pins s σ H E I hf st hg
    subst hP hw hK
    obtain ⟨hH, hi⟩ := hg
    obtain ⟨f0, f1, f2, f3, f4, f5⟩ := hf it (by simp)
    have hgd : s.heap.get? d = some ob := (I.hok d _ hH).1
    have hsz : es.size = xs.length := by rw [← Array.length_toList, he, List.length_map]
    have hx : xs[i]? = some xs[i] := List.getElem?_eq_getElem hi
    have hen : es[i]? = some (entryOfKey (nestedKind X.prog X.w) xs[i]) := by rw [PySem.entry_at he, hx]; rfl
    refine next_key_item st hgd hd hsz hen fun h' st' sb => ?_
    have I1 : Inv X pins σ H { s with heap := h' } := I.turned (t' := s.toks) (fun b o hb e => (sb.2 b hb).trans e) f0 f1 f3 f4 f5
    obtain ⟨oi, e, c, dd⟩ := id st'
    exact ⟨_, rfl, go_of (s := { s with heap := h' }) e c dd (by decide) ⟨.ref xs[i].2.1, H, I1, rfl, ⟨rfl, xs[i], hx, rfl⟩, st', fun b hb => (hf b hb).1⟩⟩
  done := by
    intro X hP hw hK hcalm i pins s σ H E I hf st hg
    subst hP hw hK
    obtain ⟨hH, hi⟩ := hg
    obtain ⟨f0, f1, f2, f3, f4, f5⟩ := hf it (by simp)
    have hgd : s.heap.get? d = some ob := (I.hok d _ hH).1
    have hsz : es.size = xs.length := by rw [← Array.length_toList, he, List.length_map]
    exact next_key_end (I.ok.hd hcalm) st hgd hd hsz hi fun h' eb => ⟨rfl, I.turned (t' := s.toks) (fun b o hb e => eb b o hb e) f0 f1 f3 f4 f5⟩
  self := fun A i s Q E st h => by
    refine wpAny_pyIter_slot st.typeIs F.slot_dict_keyiterator_iter (wpAny_call_entry F.slot_dict_keyiterator_iter st.typeIs F.entry_dict_keyiterator_iter ?_ (F.args_dict_keyiterator_iter_1 _))
    show wpAny _ _ (ret (.ref it)) _ _ s
    exact wpAny_pure ⟨_, rfl, "dict_keyiterator", _, st.typeIs, F.slot_dict_keyiterator_next.lookup, h⟩
theorem KReps.nth {P : Program} {w : World} {K : PySem.W.Frag} {S : Hp} : ∀ {kvs : List (D × D)} {xs : List (NestedKey × Addr × Value)}, KReps P w K S kvs xs → ∀ (i : Nat) (d : D), (keysOf kvs)[i]? = some d → ∃ y, xs[i]? = some y ∧ Rep P w K S d (.ref y.2.1)
  | _, _, .nil, i, d, h => by simp [keysOf] at h
  | _, _, .cons a b c d t, 0, d', h => by
    cases h
    exact ⟨_, rfl, b⟩
  | _, _, .cons a b c d t, i + 1, d', h => by
    obtain ⟨y, h1, h2⟩ := KReps.nth t i d' h
    exact ⟨y, h1, h2⟩
theorem yields_keys {S : Hp} {d : Addr} {ob : Obj} {kvs : List (D × D)} {xs : List (NestedKey × Addr × Value)} (h : S d = some (.ext (pinO d ob))) (l : kvs.length ≤ LIM) (r : KReps X.prog X.w X.K S kvs xs) : Yields X S (keysOf kvs) (ItD d ob xs) where
  len := by unfold keysOf; rw [List.length_map]; exact l
  go := fun i dd S1 H1 e s1 s2 => by
    obtain ⟨y, h1, h2⟩ := r.nth i dd e
    refine ⟨⟨s2 _ _ (s1 _ _ h), ?_⟩, fun x H2 yy => ?_⟩
    · obtain ⟨hi, _⟩ := List.getElem?_eq_some_iff.mp h1
      exact hi
    · obtain ⟨rfl, y', e', rfl⟩ := yy
      rw [h1] at e'
      cases e'
      exact ⟨S1, Ext.refl s2, h2.sub s1⟩
  stop := fun i S1 H1 e s1 s2 => ⟨s2 _ _ (s1 _ _ h), by
    unfold keysOf at e
    rw [List.length_map] at e
    rw [← r.length]
    exact e⟩
theorem si_seqD {a tg : Expr} {xa : Ex} (he : SE X C xa a) : PI X tg a (tI X C (.seq xa)) := si_seq he fun pins s σ H RR I f c S env kvs c' rel hev post => by
  refine thn (he.pe.run pins s σ H (fun v H1 => ∃ S1, Gr f.T S H c' S1 H1 ∧ Rep X.prog X.w X.K S1 (.dict kvs) v ∧ Post f (fun k H' => C.W k σ H') (Yields X) S H (.ok (keysOf kvs, c')) RR) I ⟨f, c, S, env, rel, ?_⟩) fun v s1 ⟨x, H1, I1, r1, S1, g1, rp, post1⟩ => ?_
  · rw [hev]
    exact fun S1 H1 v g r => ⟨S1, g, r, post⟩
  · have wf1 := (rel.gr g1).wf
    cases rp with
    | dic e1 e2 e3 e4 e5 e6 e7 e8 =>
      rename_i d ob es ep xs
      cases r1
      have hH := wf1.inn _ _ e1
      have ho := (I1.hok d _ hH).1
      have hsz : es.size = xs.length := by rw [← Array.length_toList, e4, List.length_map]
      refine iter_keys e6 ho e2 e3 ?_
      have hfr : H1 s1.heap.objs.size = none := I1.hok.fresh (Nat.le_refl _)
      have I2 : Inv X pins σ H1 { s1 with heap := s1.heap.push { cls := .type "dict_keyiterator", data := .fields #[.ref d, .int 0 0, .int es.size 0, .int ep 0] } } := I1.kept (t' := s1.toks) fun b o e => Heap.get?_push_of_some _ e
      refine ⟨s1.heap.objs.size, [s1.heap.objs.size], _, _, H1, rfl, I2, turn_kd e2 e3 e4, ⟨_, Heap.get?_push_size _ rfl, rfl, by rw [hsz] <;> rfl⟩, fun b hb => ?_, post1 S1 H1 _ g1 (yields_keys e1 e7 e8)⟩
      have eb : b = s1.heap.objs.size := by simpa using hb
      rw [eb]
      exact I1.fpOk (Nat.le_refl _) hfr
end
section
variable {X : Cx} {C : Cn} {pos : Pos}
/-- {k: v} -/
theorem sf_dct1 {k : Nat} {ke ve : Expr} {xk xv : Ex} (hr : Room k X.A) (hk : SE X C xk ke) (hv : SE X C xv ve) : PE X (.Dict [some ke] [ve] pos) (tEF X C (.dct (.cons xk .nil) (.cons xv .nil))) := ⟨fun pins s σ H Q I h => by
  obtain ⟨f, c, S, env, rel, post⟩ := h
  generalize hob : ({ cls := .type "dict", data := .dict #[] } : Obj) = ob
  have hp : H s.heap.objs.size = none := I.hok.fresh (Nat.le_refl _)
  have hg : (s.heap.push ob).get? s.heap.objs.size = some ob := by subst hob; exact Heap.get?_push_size _ rfl
  have g0 := rel.wf.laid hp (.ext (pinO s.heap.objs.size ob))
  have rel0 := rel.gr g0
  have I0 : Inv X pins σ (upd H s.heap.objs.size (.ext (pinO s.heap.objs.size ob))) { s with heap := s.heap.push ob } := I.laid (t' := s.toks) (fun _ _ q => Heap.get?_push_of_some _ q) (Nat.le_refl _) (ext_ok hg)
  have aT : s.heap.objs.size ≠ f.T := fun z => by rw [z, rel.wf.tH] at hp; cases hp
  have hne : (s.heap.objs.size == sysModules) = false := beq_false_of_ne (Nat.ne_of_gt I.big)
  rw [arm_eval_Dict]
  refine wpAny_bind (wpAny_standAt ?_)
  rw [show (evalEachOpt [some ke] X.env).zip ((evalEach [ve] X.env).map fun v => do let x ← v; standAt pos; pure x) = ([(eval ke X.env, do let x ← eval ve X.env; standAt pos; pure x)] : List (Sem Value × Sem Value)).map fun p => (some p.1, p.2) from rfl, dictDisplay_pairs _ (by simp) (by simp)]
  refine wpAny_bind (wpAny_subDictH (knd := nestedKind X.prog X.w) ?_ (by simp) ?_)
  · show X.A.units + 8 < cLine
    have := hr.un
    omega
  rw [hob]
  show wpAny _ _ (do let kv ← eval ke X.env; let vv ← holding [kv] (do let x ← eval ve X.env; standAt pos; pure x); let r ← holding [kv, vv] (pure []); pure ((kv, vv) :: r)) _ _ { s with heap := s.heap.push ob }
  -- the key
  refine wpAny_bind (thn (hk.pe.run pins _ σ _ (fun x1 H1 => ∃ dk c1 S1, Gr f.T S (upd H s.heap.objs.size (.ext (pinO s.heap.objs.size ob))) c1 S1 H1 ∧ Rep X.prog X.w X.K S1 dk x1 ∧
      PostF X.prog X.w X.K f (fun k H' => C.W k σ H') S H ((evE f.ns C.Φ C.gv xv env c1).thn fun y c => match dictD [dk] [y] with | some kvs => .ok (.dict (mergeD [] kvs), c) | none => .bad) Q) I0 ⟨f, c, S, env, rel0, ?_⟩) fun kv s1 ⟨x1, H1, I1, r1, dk, c1, S1, g1, rk, post1⟩ => ?_)
  · rw [evE, evA] at post
    match ev : evE f.ns C.Φ C.gv xk env c with
    | .bad => rw [ev] at post; exact post
    | .exn k c0 => rw [ev] at post; exact fun S' H' g => post S' H' (g0.trans rel.wf g)
    | .ok (dk, c1) =>
      rw [ev] at post
      intro S1 H1 v1 g1 r1
      refine ⟨dk, c1, S1, g1, r1, ?_⟩
      simp only [R.thn_ok, evA] at post
      match ev2 : evE f.ns C.Φ C.gv xv env c1 with
      | .bad => rw [ev2] at post; exact post
      | .exn k c0 => rw [ev2] at post; exact post
      | .ok (dv, c2) => rw [ev2] at post; exact post
  have rel1 := rel0.gr g1
  -- the value
  refine wpAny_bind (wpAny_holding (wpAny_bind (thn (hv.pe.run pins s1 σ H1 (fun x2 H2 => ∃ dv c2 S2, Gr f.T S1 H1 c2 S2 H2 ∧ Rep X.prog X.w X.K S2 dv x2 ∧
      PostF X.prog X.w X.K f (fun k H' => C.W k σ H') S H (match dictD [dk] [dv] with | some kvs => .ok (.dict (mergeD [] kvs), c2) | none => .bad) Q) I1 ⟨f, c1, S1, env, rel1, ?_⟩) fun vv s2 ⟨x2, H2, I2, r2, dv, c2, S2, g2, rv, post2⟩ => ?_)))
  · match ev : evE f.ns C.Φ C.gv xv env c1 with
    | .bad => rw [ev] at post1; exact post1
    | .exn k c0 => rw [ev] at post1; exact fun S' H' g => post1 S' H' (g0.trans rel.wf (g1.trans rel0.wf g))
    | .ok (dv, c2) =>
      rw [ev] at post1
      exact fun S2 H2 v2 g2 r2 => ⟨dv, c2, S2, g2, r2, post1⟩
  have rel2 := rel1.gr g2
  refine wpAny_bind (wpAny_standAt (wpAny_pure ?_))
  refine wpAny_bind (wpAny_holding (wpAny_pure (wpAny_pure ?_)))
  have g02 := g0.trans rel.wf (g1.trans rel0.wf g2)
  simp only [dictD] at post2
  cases en : nk dk with
  | none => rw [en] at post2; exact (show False from post2).elim
  | some κ =>
    rw [en] at post2
    have post3 : PostF X.prog X.w X.K f (fun k H' => C.W k σ H') S H (.ok (.dict (mergeD [] [(dk, dv)]), c2)) Q := post2
    obtain ⟨ka, rfl⟩ := nk_ref rk en
    cases r1
    have hH2 : H2 s.heap.objs.size = some (.ext (pinO s.heap.objs.size ob)) := g2.same _ _ aT (g1.same _ _ aT upd_same)
    have h2g : s2.heap.get? s.heap.objs.size = some ob := (I2.hok _ _ hH2).1
    refine ⟨[(κ, ka, vv)], ⟨rfl, rfl, Rep.kindIs I2 ((rk.sub g2.sub).sub rel2.wf.inn) en, trivial⟩, ⟨ob, #[], 0, h2g, by subst hob; exact ⟨rfl, rfl, rfl⟩, by subst hob; rfl, rfl, (fun _ z => absurd z (List.not_mem_nil)), List.nodup_nil⟩, fun h' tk hd sb => ?_⟩
    obtain ⟨ob', es', ep', k1, k2, k3, k4, k5, k6⟩ := hd
    have I3 : Inv X pins σ (upd H2 s.heap.objs.size (.ext (pinO s.heap.objs.size ob'))) { s2 with heap := h', toks := tk } :=
      I2.write (x := s.heap.objs.size) (e := s.heap.objs.size) (by rw [hH2]; exact trivial) (.inl rfl) (fun b o' hb e => (sb.2 b hb).trans e) ⟨_, k1⟩ (ext_ok k1)
    have hS2 : S2 s.heap.objs.size = none := by
      cases e : S2 s.heap.objs.size with
      | none => rfl
      | some o =>
        rcases g2.new _ o e with z | z
        · rcases g1.new _ o z with z | z
          · rw [rel.wf.inn _ _ z] at hp; cases hp
          · rw [upd_same] at z; cases z
        · rw [g1.same _ _ aT upd_same] at z; cases z
    have em : mergeD [] [(dk, dv)] = [(dk, dv)] := by simp only [mergeD, en]; rfl
    rw [em] at post3
    refine wpAny_pure ⟨.ref s.heap.objs.size, _, I3, rfl, post3 S2 _ _ ⟨g02.sub, fun b u q => ?_, fun b u nb q => ?_, g02.new, ?_⟩ hp hS2 (own_of k2 k3 k4 k6 hne (show 1 ≤ LIM by decide) (.cons en (rk.sub g2.sub) r2 rv .nil))⟩
    · have ne : b ≠ s.heap.objs.size := fun z => by rw [z, hS2] at q; cases q
      rw [upd_ne ne]; exact g02.inn b u q
    · have ne : b ≠ s.heap.objs.size := fun z => by rw [z, hp] at q; cases q
      rw [upd_ne ne]; exact g02.same b u nb q
    · rw [upd_ne aT.symm]; exact g02.town⟩
end
end LG

/-! LgU: methods of values (count, index), enumerate, max of two. -/
namespace LG
open PySem PySem.Spec PyProof.Rows L2
section
variable {X : Cx}
def rMt (X : Cx) (p : Pr) : V → List V → Hp → VK → Prop := fun x xs H Q => rPr X p (x :: xs) H Q
theorem shaped_two {ds : List D} {d : D} (h : (shp (.list ds) && shp d) = true) : PyData.canLayAll0 ds = true ∧ PyData.canLay0 d = true ∧ PyData.depth d ≤ 64 := by
  rw [Bool.and_eq_true] at h
  obtain ⟨h1, h2⟩ := h
  unfold shp SeqAt.shaped at h1 h2
  rw [Bool.and_eq_true] at h1 h2
  exact ⟨by simpa [PyData.canLay0] using h1.1, h2.1, of_decide_eq_true h2.2⟩
theorem two_of {P : Program} {w : World} {K : PySem.W.Frag} {S : Hp} {d e : D} {x : V} {xs : List V} {us : List Value} (r : Reps P w K S [d, e] (x :: xs)) (rv : Vals xs us) : ∃ y u, xs = [y] ∧ us = [u] ∧ RelV y u ∧ Rep P w K S d x ∧ Rep P w K S e y := by
  cases r with
  | cons a t =>
    cases t with
    | cons b t =>
      cases t
      cases rv with
      | cons q t => cases t; exact ⟨_, _, rfl, rfl, q, a, b⟩
theorem mt_countD {k : Nat} (hr : Room k X.A) : MtR X "list.count" (rMt X .count) := by
  intro pins s σ H x xs v us Q I rx rxs h
  obtain ⟨f, c, S, ds, wf, rr, h⟩ := h
  have hu : X.A.units + 200 < cLine := by have := hr.un; omega
  match ds, h with
  | [.list es, d], h =>
    obtain ⟨y, u, rfl, rfl, ru, ra, ry⟩ := two_of rr rxs
    cases ra with
    | lst e l q =>
      have h' : PostR X.prog X.w X.K f c S H (if (shp (.list es) && shp d) = true then .ok (.int (es.countP fun y => PyData.eqv y d : Nat)) else .bad) Q := h
      by_cases hs : (shp (.list es) && shp d) = true
      · rw [if_pos hs] at h'
        obtain ⟨h1, h2, h3⟩ := shaped_two hs
        cases rx
        obtain ⟨its, rvs, p, hz⟩ := I.list (SqL.of (wf.inn _ _ e))
        obtain ⟨as, hread⟩ := Dp.readsAll I _ _ its ((q.sub wf.inn).dp h1) rvs
        obtain ⟨bs, hy⟩ := Dp.reads I d y _ ((ry.sub wf.inn).dp h2) ru
        refine PySem.SeqAt.count_list_data (vs := its.toArray) p.isList (by simpa using hread) hy (PyData.plainAll_of_canLay0 _ h1) (PyData.plain_of_canLay0 _ h2) (by omega) ?_
        exact ⟨.int _, H, I.tok _, ⟨_, rfl⟩, h'.now wf (.int _)⟩
      · rw [if_neg hs] at h'
        exact h'.elim
theorem mt_indexL {k : Nat} (hr : Room k X.A) : MtR X "list.index" (rMt X .index) := by
  intro pins s σ H x xs v us Q I rx rxs h
  obtain ⟨f, c, S, ds, wf, rr, h⟩ := h
  have hu : X.A.units + 200 < cLine := by have := hr.un; omega
  match ds, h with
  | [.list es, d], h =>
    obtain ⟨y, u, rfl, rfl, ru, ra, ry⟩ := two_of rr rxs
    cases ra with
    | lst e l q =>
      have h' : PostR X.prog X.w X.K f c S H (if (shp (.list es) && shp d) = true then (match es.findIdx? fun y => PyData.eqv y d with | some j => .ok (.int (j : Nat)) | none => .bad) else .bad) Q := h
      by_cases hs : (shp (.list es) && shp d) = true
      · rw [if_pos hs] at h'
        obtain ⟨h1, h2, h3⟩ := shaped_two hs
        cases ej : es.findIdx? fun y => PyData.eqv y d with
        | none => rw [ej] at h'; exact h'.elim
        | some j =>
          rw [ej] at h'
          rw [Bool.and_eq_true] at hs
          obtain ⟨g1, g2, g3⟩ := List.findIdx?_eq_some_iff_getElem.mp ej
          refine mt_indexD (by omega) pins s σ H _ _ _ _ Q I rx (.cons ru .nil) ⟨_, y, d, es, j, es[j], rfl, rfl, .lst (SqL.of (wf.inn _ _ e)) ((q.sub wf.inn).dp h1), (ry.sub wf.inn).dp h2, hs.1, hs.2, List.getElem?_eq_getElem g1, g2, fun m z' hm hz => ?_, h'.now wf (.int _)⟩
          obtain ⟨hml, rfl⟩ := List.getElem?_eq_some_iff.mp hz
          simpa using g3 m hm
      · rw [if_neg hs] at h'
        exact h'.elim
variable {C : Cn} {pos : Pos}
/-- a method of a value -/
theorem se_mth {p : Pr} {T id : String} {name : Str} {xo : Ex} {xs : Exs} {o e : Expr} {es : List Expr} {apos cpos : Pos} (pa : PlainAttrs T) (slot : PySem.Slot T name id) (hty : typeOf (.builtin id) = pure (.type "method_descriptor")) (hm : MtR X id (rMt X p))
    (hT : ∀ S H d v, Sub S H → Rep X.prog X.w X.K S d v → recvOk p d = true → tyV X.K T v H)
    (ho : SE X C xo o) (ha : PA X (e :: es) (tAs X C xs)) (hs : ∀ y ∈ e :: es, NoStar y) (hb : attributeBase o name X.env (eval o X.env) = eval o X.env) (hlen : (e :: es).length < 29) (hl : (apos.endLine == cpos.line) = true) :
    SE X C (.mth p xo xs) (.Call (.Attribute o name apos) (e :: es) [] cpos) := by
  refine se_val ((pe_bm pa slot hty hm ho.pe ha hb ?_ hl (hs e List.mem_cons_self _ _) (backTo_false fun y hy => hs y (List.mem_cons_of_mem _ hy))).lgi fun σ H Q q => ?_)
  · have h1 := backTo_false (pos := cpos) (env := X.env) hs
    have h2 : (backTo cpos (starEach (e :: es) X.env)).all (fun x => !x.1) = true := by
      rw [List.all_eq_true]
      intro y hy
      have := List.any_eq_false.mp h1 y hy
      simpa using this
    rw [h2]
    show (true && true && decide ((e :: es).length + 0 + 0 < 30)) = true
    rw [decide_eq_true (by omega)]
    rfl
  · obtain ⟨f, c, S, env, rel, post⟩ := q
    rw [evE] at post
    refine ⟨f, c, S, env, rel, post.thn rel.wf fun d c1 S1 H1 v _ g1 r1 post1 => ?_⟩
    by_cases hk : recvOk p d = true
    · rw [if_pos hk] at post1
      have rel1 := rel.gr g1
      refine ⟨hT _ _ _ _ rel1.wf.inn r1 hk, f, c1, S1, env, rel1, post1.thn rel1.wf fun ds c2 S2 H2 vs _ g2 r2 post2 => ?_⟩
      have rel2 := rel1.gr g2
      exact ⟨f, c2, S2, d :: ds, rel2.wf, .cons (r1.sub g2.sub) r2, .of post2⟩
    · rw [if_neg hk] at post1
      exact (show False from post1).elim
/-! ### enumerate -/
theorem yields_enum {S : Hp} {a : Addr} {vs : List V} {ds : List D} (h : S a = some (.lst vs)) (l : ds.length ≤ LIM) (r : Reps X.prog X.w X.K S ds vs) :
    Yields X S (ds.zipIdx.map fun p => .tuple [.int (p.2 : Nat), p.1]) (Ite X.K a) where
  len := by rw [List.length_map, List.length_zipIdx]; exact l
  go := fun i d S1 H1 e s1 s2 => by
    rw [List.getElem?_map, List.getElem?_zipIdx] at e
    cases ez : ds[i]? with
    | none => rw [ez] at e; cases e
    | some x =>
      rw [ez] at e
      have e : PyData.tuple [.int ((0 + i : Nat) : Int), x] = d := by simpa using e
      rw [Nat.zero_add] at e
      subst e
      obtain ⟨v, hv, rv⟩ := r.get ez
      have q1 : SqL X.K H1 a vs := SqL.of (s2 _ _ (s1 _ _ h))
      refine ⟨⟨vs, v, q1, hv⟩, fun t H2 y' => ?_⟩
      obtain ⟨T, x', rfl, hT, rfl, k1⟩ := y'
      have z1 := k1 vs q1
      rw [hv] at z1
      cases z1
      have hTS : S1 T = none := by
        cases q : S1 T with
        | none => rfl
        | some o => rw [s2 _ _ q] at hT; cases hT
      have sub : Sub S1 (upd S1 T (.tup [.int (i : Nat), v])) := fun c o q => by
        have ne : c ≠ T := fun z => by rw [z, hTS] at q; cases q
        rw [upd_ne ne]; exact q
      refine ⟨upd S1 T (.tup [.int (i : Nat), v]), ⟨sub, fun c o q => ?_, fun c o q => ?_, fun c o q => ?_⟩, .tup (SqT.of upd_same) (by show 2 ≤ LIM; decide) (.cons (.int _) (.cons ((rv.sub s1).sub sub) .nil))⟩
      · by_cases ne : c = T
        · subst ne; rw [upd_same] at q ⊢; exact q
        · rw [upd_ne ne] at q ⊢; exact s2 _ _ q
      · have ne : c ≠ T := fun z => by rw [z, hT] at q; cases q
        rw [upd_ne ne]; exact q
      · by_cases ne : c = T
        · subst ne; exact .inr hT
        · rw [upd_ne ne] at q; exact .inl q
  stop := fun i S1 H1 e s1 s2 => by
    rw [List.length_map, List.length_zipIdx] at e
    exact ⟨vs, SqL.of (s2 _ _ (s1 _ _ h)), by rw [← r.length]; exact e⟩
theorem si_enm {a : Expr} {xa : Ex} {p pos tpos : Pos} {elts : List Expr} {kk : Nat} (hg : Gl X "enumerate") (hm : X.mg "enumerate" = none) (ha : SE X C xa a) (hs : NoStar a) : PI X (.Tuple elts kk tpos) (.Call (.Name "enumerate" p) [a] [] pos) (tI X C (.enm xa)) :=
  (pi_enum hg hm (pa_cons ha.pe pa_nil (hs _ _)) (hs _ _)).lgi fun σ H RR q => by
    obtain ⟨f, c, S, env, rel, post⟩ := q
    rw [evI] at post
    refine ⟨f, c, S, env, rel, post.thn rel.wf fun d c1 S1 H1 v _ g1 r1 post1 => ?_⟩
    have wf1 := (rel.gr g1).wf
    obtain ⟨ds, e, q⟩ := atR_ok (K := X.K) post1
    cases r1 with
    | lst e1 l r =>
      cases e
      exact ⟨_, _, rfl, SqL.of (wf1.inn _ _ e1), q _ _ _ wf1.refl (yields_enum e1 l r)⟩
    | _ => cases e
theorem pr_max2 (hc : X.calm = true) : CallR X (.builtin "max") (rPr X .max2) := by
  intro pins s σ H xs us Q I r h
  refine call_max2 hc pins s σ H xs us Q I r ?_
  obtain ⟨f, c, S, ds, wf, r1, post⟩ := h
  match ds, r1, post with
  | [.int a, .int b], r1, post =>
    cases r1 with
    | cons p q =>
      cases q with
      | cons p' q' =>
        cases q'; cases p; cases p'
        exact ⟨a, b, rfl, PostR.now wf post (.int _)⟩
end
end LG

/-! LgV: try .. except GridError as e: return _law_which(e). -/
namespace LG
open PySem PySem.Spec PyProof.Rows L2
def raisedS : Str := Str.ofString "raised"
/-- what a try wants of its surroundings -/
structure TryX (X : Cx) (ex : EV) (xs : List Nat) : Prop where
  st : X.stack = X.env :: X.outer
  fr : X.env.frame = some X.env.locals
  ge : ∃ G, X.mg "GridError" = some (.ref G) ∧ ∀ k, k < 16 → PySem.W.exmOne X.K (ex.2 k) (.ref G) = some true
  il : xs.contains 3 = true → ∃ L, X.mg "InvalidLabel" = some (.ref L) ∧ ∀ k, k < 16 → PySem.W.exmOne X.K (ex.2 k) (.ref L) = some (decide (k = 3))
  wh : ∀ (a : Addr) (oe : Obj) (k : Nat) (pn : List (Addr × Obj)) (n : Str) (i : Nat) (p q pos : Pos), k < 16 → Zc (ex.2 k) none oe → (∃ vs, oe.data = .fields vs) → X.N[i]? = some n → X.env.kindOf n = some .local → (n == ("__debug__" : Str)) = false → (n == ("__classdict__" : Str)) = false → Gl X "_law_which" →
    PE (X.suite a ((a, oe) :: pn)) (.Call (.Name "_law_which" p) [.Name n q] [] pos) (fun σ H Q => ∃ σ0 : L2.St, σ = σ0.set i (some (.ref a)) ∧ ∀ H' t, Sub H H' → H t = none → H' t = some (.tup [.str raisedS, .int (whichI k)]) → Q (.ref t) H')
def Cn.withW (C : Cn) (W : Nat → Sg → Hp → Prop) : Cn := { C with W := W }
/-- a new thing, whatever else has come -/
theorem Gr.more {K : PySem.W.Frag} {scr : Addr} {ns : List Int} {T : Addr} {c c0 : Nat} {S H S' H' H2 : Hp} {t : Addr} {o : HO} (g : Gr T S H c S' H') (w0 : Wf K scr ns T c0 S H) (hs : Sub H' H2) (ht : H' t = none) (ht2 : H2 t = some o) : Gr T S H c (upd S' t o) H2 where
  sub := fun a u q => by
    have q1 := g.sub a u q
    rw [upd_ne (ne_of_none (g.inn a u q1) ht)]
    exact q1
  inn := fun a u q => by
    by_cases e : a = t
    · subst e; rw [upd_same] at q; cases q; exact ht2
    · rw [upd_ne e] at q; exact hs a u (g.inn a u q)
  same := fun a u hn q => hs a u (g.same a u hn q)
  new := fun a u q => by
    by_cases e : a = t
    · subst e
      cases e2 : H a with
      | none => exact .inr rfl
      | some z =>
        by_cases hT : a = T
        · subst hT; rw [g.town] at ht; cases ht
        · rw [g.same a z hT e2] at ht; cases ht
    · rw [upd_ne e] at q; exact g.new a u q
  town := hs _ _ g.town
section
variable {X : Cx} {C : Cn} {ex : EV}
theorem ss_try {i : Nat} {n : Str} {body : List Stmt} {xb : Sms} {np p q pos pos2 pos3 pos' : Pos} {xc : List Nat} (T : TryX X ex xc) (hN : X.N.Nodup) (hi : X.N[i]? = some n) (hl : X.env.kindOf n = some .local) (hd1 : (n == ("__debug__" : Str)) = false) (hd2 : (n == ("__classdict__" : Str)) = false) (hgG : Gl X "GridError") (hgw : Gl X "_law_which")
    (hb : ∀ (W : WX) (pn : List (Addr × Obj)) (xe : Value → Shared → Prop), Takes (X.tr pn xe) W → PassesOwn (model X.prog X.w) X.A X.env xe → PSs (X.tr pn xe) body (tSms X (C.withW fun k σ H => k < 16 ∧ W (ex.2 k) none σ H) xb)) :
    PS X (.Try body [.ExceptHandler (some (.Name "GridError" np)) (some n) [.Return (some (.Call (.Name "_law_which" p) [.Name n q] [] pos2)) pos3] pos'] [] [] pos) (tSm X C (.tryW i [] xb)) := by
  obtain ⟨G, hG, hex⟩ := T.ge
  let ts : Addr → Value → Option Addr → TS := fun a cls d D σ H => ∃ k, cls = ex.2 k ∧ d = none ∧ k < 16 ∧ ∃ σ0 : L2.St, σ = σ0.set i (some (.ref a)) ∧ ∀ H' t, Sub H H' → H t = none → H' t = some (.tup [.str raisedS, .int (whichI k)]) → D.rt (.ref t) H'
  refine (ps_try_as (ts := ts) (tb := fun W => tSms X (C.withW fun k σ H => k < 16 ∧ W (ex.2 k) none σ H) xb) T.st T.fr hN hi hl ⟨hgG, by decide, .inl hG⟩ takes0 hb (fun a oe cls d pn hz hf => ⟨fun pins s σ H D I h => ?_⟩)).lgi fun D σ H h => ?_
  · obtain ⟨k, rfl, rfl, hk, σ0, e, qq⟩ := h
    exact (pss_one (ps_ret (T.wh a oe k pn n i p q pos2 hk hz hf hi hl hd1 hd2 hgw))).run pins s σ H D I ⟨σ0, e, qq⟩
  · obtain ⟨f, c, S, env, rel, post⟩ := h
    rw [exS] at post
    refine ⟨f, c, S, env, rel, ?_⟩
    show PostS X.prog X.w X.K f _ (exSs f.ns C.Φ C.gv xb env c) D
    match ev : exSs f.ns C.Φ C.gv xb env c with
    | .ok (.next env', c') => rw [ev] at post; exact post
    | .ok (.ret d, c') => rw [ev] at post; exact post
    | .bad => rw [ev] at post; exact post
    | .exn k c0 =>
      rw [ev] at post
      by_cases hk : k < 16
      · simp only [if_pos hk] at post
        intro S' H' σ' g
        refine ⟨hk, true, hex k hk, fun _ a ha => ⟨k, rfl, rfl, hk, σ', rfl, fun H2 t hs ht ht2 => ?_⟩, fun z => nomatch z⟩
        obtain ⟨c00, w0⟩ := rel.wf0
        have w1 := w0.gr g
        refine post (upd S' t (.tup [.str raisedS, .int (whichI k)])) H2 (.ref t) (g.more w0 hs ht ht2) ?_
        exact .tup (SqT.of upd_same) (by show 2 ≤ LIM; decide) (.cons (.str _) (.cons (.int _) .nil))
      · simp only [if_neg hk] at post
        exact (show False from post).elim
theorem ss_rse {k : Nat} {x m : Str} {j : Nat} {p p2 pos pos2 : Pos} {W0 : WX} {A : Addr} (hc : X.calm = true) (tk : Takes X W0) (hW : ∀ k σ H, C.W k σ H → W0 (ex.2 k) none σ H) (he : ex.2 k = .ref A) (g : X.mg x = some (.ref A)) (xi : PySem.W.excIn X.K A [.type "ValueError", .type "Exception", .type "BaseException", .type "object"] "ValueError.__new__" = true)
    (kp : PySem.W.keepIn X.K (.ref A) = true) (sb : PySem.W.subIn X.K (.ref A) (.type "BaseException") = some true) (ty : PySem.W.typeIn X.K (.ref A) = some (.type "type")) (hg : Gl X x) (hdb : (x == ("__debug__" : Str)) = false) :
    PS X (.Raise (some (.Call (.Name x p) [.Constant (.str m) j p2] [] pos2)) none pos) (tSm X C (.rse k)) :=
  (ps_raise hc tk (pmk_own PySem.F.excBase_ValueError xi g kp (raises_own sb ty) hg hdb)).lgi fun D σ H h => by
    obtain ⟨f, c, S, env, rel, post⟩ := h
    rw [exS] at post
    have := hW k σ H (post S H σ rel.ent)
    rw [he] at this
    exact this
end
end LG

/-! LgVB: try .. except InvalidLabel: return ("raised", 14) / except GridError as e: return _law_which(e). -/
namespace LG
open PySem PySem.Spec PyProof.Rows L2
/-- what two clauses wish: the first without a name, the second with one -/
def wTwo (K : PySem.W.Frag) (c1 : Value) (t1 : Addr → Value → Option Addr → TS) (W2 : WX) (D : Ends) : WX := fun cls d σ H =>
  ∃ b, PySem.W.exmOne K cls c1 = some b ∧ (b = true → ∀ a, H a = none → t1 a cls d D σ H) ∧ (b = false → W2 cls d σ H)
section
variable {X : Cx} {x1 x n : Str} {c1 c : Value} {i : Nat} {body suite suite1 : List Stmt} {b₀ b1 : Stmt} {np np1 pos pos' pos1 : Pos} {tb : WX → TS} {t1 ts : Addr → Value → Option Addr → TS} {Wout : WX}
theorem ps_try_two (hs : X.stack = X.env :: X.outer) (hf : X.env.frame = some X.env.locals) (hN : X.N.Nodup) (hi : X.N[i]? = some n) (hln : X.env.kindOf n = some .local) (hc1 : Names X x1 c1) (hc : Names X x c) (tk : Takes X Wout)
    (hb : ∀ (W : WX) (pn : List (Addr × Obj)) (xe : Value → Shared → Prop), Takes (X.tr pn xe) W → PassesOwn (model X.prog X.w) X.A X.env xe → PSs (X.tr pn xe) body (tb W))
    (hsu1 : ∀ (a : Addr) (oe : Obj) (cls : Value) (d : Option Addr) (pn : List (Addr × Obj)), Zc cls d oe → (∃ vs, oe.data = .fields vs) → PSs (X.suite a ((a, oe) :: pn)) (b1 :: suite1) (t1 a cls d))
    (hsu : ∀ (a : Addr) (oe : Obj) (cls : Value) (d : Option Addr) (pn : List (Addr × Obj)), Zc cls d oe → (∃ vs, oe.data = .fields vs) → PSs (X.suite a ((a, oe) :: pn)) (b₀ :: suite) (ts a cls d)) :
    PS X (.Try body [.ExceptHandler (some (.Name x1 np1)) none (b1 :: suite1) pos1, .ExceptHandler (some (.Name x np)) (some n) (b₀ :: suite) pos'] [] [] pos) (fun D σ H => tb (wTwo X.K c1 t1 (wAs X.K c i ts Wout D) D) D σ H) := by
  refine ⟨fun pins s σ H D I h => ?_⟩
  have ok := I.ok
  have hfr : X.A.frames = some (X.env :: X.outer) := by rw [ok.frames, hs]
  refine wpAny_Try_except (wpAny_mono ((hb (wTwo X.K c1 t1 (wAs X.K c i ts Wout D) D) (X.pn ++ pins) _ (fun u s' xx => ?_) PassesOwn.looking).run [] s σ H D (I.toTry _) h) (fun f s1 hsp => ?_) (fun e s1 he => he))
  · obtain ⟨a, B, sI, pins', σ', H', cls, d, rfl, J', nb, up, sky, na, os, ag, g1, g2, g3, g4⟩ := xx
    have J : Inv X pins σ' H' sI := J'.ofTry ok
    have sk : Sky B (X.env :: X.outer) a (Zc cls d) X.env.locals s'.heap := hs ▸ sky
    show wpAny (model X.prog X.w) X.A (noteFrame (.ref a) X.env) _ _ _
    refine Sky.land Zc.steady hfr hf sk fun h3 fl3 up3 => ?_
    have J3 : Inv X pins σ' H' { s' with heap := h3 } := J.landed nb fl3.1 (up.trans up3) os ag
    obtain ⟨oe3, vs3, he3, hz3, hd3⟩ := fl3.there
    have nfr : a ∉ frs (X.env :: X.outer) := fun hm => by
      obtain ⟨_, o', e', hnf⟩ := fl3.2.2.1.mem hm
      rw [he3] at e'; cases e'
      exact hnf _ hd3
    have nL : a ≠ X.env.locals := fun z => nfr (List.mem_filterMap.mpr ⟨X.env, List.mem_cons_self, by rw [hf, z]⟩)
    have nF : a ∉ X.fs := fun hm => by
      obtain ⟨e, he, q⟩ := List.mem_filterMap.mp hm
      exact nfr (List.mem_filterMap.mpr ⟨e, List.mem_cons_of_mem _ he, q⟩)
    have S3 := J3.suite he3 hd3 na nL nF
    have LT : PySem.W.Looks (model X.prog X.w) h3 (typeOf (.ref a)) cls := fun A Q E s k q => wpAny_typeOf_ref (k _ _ he3) (by rw [hz3.1]; exact q)
    have name : ∀ {x : Str} {c : Value} {np : Pos} {Q E : Value → Shared → Prop}, Names X x c → Q c { s' with heap := h3 } → wpAny (model X.prog X.w) (X.A.mark (some (.ref a))) (eval (.Name x np) X.env) Q E { s' with heap := h3 } := fun {x c np Q E} hc q => by
      obtain ⟨hg, hdbg, hm | ⟨hm, hv, hnn⟩⟩ := hc
      · exact ld_glob (X := X.suite a ((a, oe3) :: (X.pn ++ pins))) S3 hg hm q hdbg
      · exact ld_blt (X := X.suite a ((a, oe3) :: (X.pn ++ pins))) S3 hg hm hv q hnn hdbg
    -- the first clause
    refine wpAny_handleBy_cons (codeAny_handlers_test (name hc1 ((PySem.W.exm_one (M := model X.prog X.w) J3.kIn LT g2).here ?_))) (by intro q; cases q)
    cases g1 with
    | true =>
      refine codeAny_handlers_suite (HandSPX.lands_againZ fl3 fun h4 fl4 up4 => ?_)
      have J4 : Inv X pins σ' H' { s' with heap := h4 } := J.landed nb fl4.1 ((up.trans up3).trans up4) os ag
      obtain ⟨oe4, vs4, he4, hz4, hd4⟩ := fl4.there
      refine wpAny_mono ((hsu1 a oe4 cls d (X.pn ++ pins) hz4 ⟨_, hd4⟩).run [] _ _ H' _ (J4.suite he4 hd4 na nL nF) (g3 rfl a na)) (fun f s6 hsp => ?_) (fun _ _ z => False.elim z)
      cases f with
      | ret u =>
        obtain ⟨v6, σ6, H6, S6, r6, q6⟩ := hsp
        exact ⟨_, _, _, S6.unsuite ok, r6, q6⟩
      | next => obtain ⟨σ6, H6, S6, q6⟩ := hsp; exact ⟨_, _, S6.unsuite ok, q6⟩
      | brk => obtain ⟨σ6, H6, S6, q6⟩ := hsp; exact ⟨_, _, S6.unsuite ok, q6⟩
      | cont => obtain ⟨σ6, H6, S6, q6⟩ := hsp; exact ⟨_, _, S6.unsuite ok, q6⟩
    | false =>
      obtain ⟨b, hb1, hyes, hno⟩ := g4 rfl
      show wpAny _ X.A (handleBy (.ref a) X.env [.ExceptHandler (some (.Name x np)) (some n) (b₀ :: suite) pos']) _ _ _
      -- the second clause
      refine wpAny_handleBy_cons (codeAny_handlers_test (name hc ((PySem.W.exm_one (M := model X.prog X.w) J3.kIn LT hb1).here ?_))) (by intro q; cases q)
      cases b with
      | true =>
        refine codeAny_handlers_suite_as (HandSPX.lands_againZ fl3 fun h4 fl4 up4 => ?_)
        have J4 : Inv X pins σ' H' { s' with heap := h4 } := J.landed nb fl4.1 ((up.trans up3).trans up4) os ag
        obtain ⟨oe4, vs4, he4, hz4, hd4⟩ := fl4.there
        refine store_ok (X := X.suite a ((a, oe4) :: (X.pn ++ pins))) (v := .ref a) (J4.suite he4 hd4 na nL nF) hN hi (.inl hln) rfl (fun s5 S5 => ?_) (.inr hln)
        refine wpAny_mono ((hsu a oe4 cls d (X.pn ++ pins) hz4 ⟨_, hd4⟩).run [] s5 _ H' _ S5 (hyes rfl a na)) (fun f s6 hsp => ?_) (fun _ _ z => False.elim z)
        have end_ : ∀ {σ6 : L2.St} {H6 : Hp} {Q : Shared → Prop}, Inv (X.suite a ((a, oe4) :: (X.pn ++ pins))) [] σ6 H6 s6 → (∀ s7, Inv X pins (σ6.set i none) H6 s7 → Q s7) →
            wpAny (model X.prog X.w) X.A (do bindName X.env n .none; unbindBehindTheSuite X.env n pos') (fun _ s7 => Q s7) X.xe s6 := fun S6 hq => gone_ok (S6.unsuite ok) hN hi hln hq
        cases f with
        | ret u =>
          obtain ⟨v6, σ6, H6, S6, r6, q6⟩ := hsp
          exact end_ S6 fun s7 J7 => ⟨_, _, _, J7, r6, q6⟩
        | next => obtain ⟨σ6, H6, S6, q6⟩ := hsp; exact end_ S6 fun s7 J7 => ⟨_, _, J7, q6⟩
        | brk => obtain ⟨σ6, H6, S6, q6⟩ := hsp; exact end_ S6 fun s7 J7 => ⟨_, _, J7, q6⟩
        | cont => obtain ⟨σ6, H6, S6, q6⟩ := hsp; exact end_ S6 fun s7 J7 => ⟨_, _, J7, q6⟩
      | false =>
        show wpAny _ X.A (handleBy (.ref a) X.env []) _ _ _
        refine wpAny_handleBy_nil ?_
        obtain ⟨k1, k2, k3, oe, vs, T, oT, ts', he, hz, hd, h1, hr⟩ := id fl3
        unfold PySem.passOn
        refine wpAny_bind (wpAny_field he hd h1 ?_)
        rw [if_neg (show ¬ ((Value.ref T == Value.none) = true) from by simp)]
        have fin : wpAny (model X.prog X.w) X.A (setFlight (.ref a) X.env.frame) (fun _ s4 => wpAny (model X.prog X.w) X.A (throw (.ref a) : Sem Flow) (SP X pins D) X.xe s4) X.xe { s' with heap := h3 } := by
          rw [hf]
          refine HandSPX.setFlight_upZ fl3 fun h4 hh4 up4 => wpAny_throw (tk _ _ ?_)
          exact ⟨a, B, sI, pins, σ', H', cls, d, rfl, J, nb, (up.trans up3).trans up4, .inr (.inr (by rw [hs]; exact hh4)), na, os, ag, hno rfl⟩
        first
          | exact wpAny_bind (wpAny_pure (wpAny_bind fin))
          | exact wpAny_bind fin
  · cases f with
    | ret u =>
      obtain ⟨v, σ', H', J', r, q⟩ := hsp
      exact ⟨v, σ', H', J'.ofTry ok, r, q⟩
    | next =>
      obtain ⟨σ', H', J', q⟩ := hsp
      exact wpAny_execs_nil ⟨σ', H', J'.ofTry ok, q⟩
    | brk => obtain ⟨σ', H', J', q⟩ := hsp; exact ⟨σ', H', J'.ofTry ok, q⟩
    | cont => obtain ⟨σ', H', J', q⟩ := hsp; exact ⟨σ', H', J'.ofTry ok, q⟩
end
theorem sub_upd' {H : Hp} {p : Addr} {o : HO} (h : H p = none) : Sub H (upd H p o) := fun b u q => by rw [upd_ne (ne_of_none q h)]; exact q
section
variable {X : Cx} {C : Cn} {ex : EV}
theorem ss_try2 {i : Nat} {n r : Str} {z : Int} {k1 k2 k3 : Nat} {body : List Stmt} {xb : Sms} {np np1 p q p1 p2 p3 p4 pos pos1 pos2 pos3 pos' : Pos} {xc : List Nat} (T : TryX X ex xc) (h3 : xc.contains 3 = true) (hN : X.N.Nodup) (hi : X.N[i]? = some n) (hl : X.env.kindOf n = some .local) (hd1 : (n == ("__debug__" : Str)) = false) (hd2 : (n == ("__classdict__" : Str)) = false) (hgL : Gl X "InvalidLabel") (hgG : Gl X "GridError") (hgw : Gl X "_law_which")
    (hb : ∀ (W : WX) (pn : List (Addr × Obj)) (xe : Value → Shared → Prop), Takes (X.tr pn xe) W → PassesOwn (model X.prog X.w) X.A X.env xe → PSs (X.tr pn xe) body (tSms X (C.withW fun k σ H => k < 16 ∧ W (ex.2 k) none σ H) xb)) :
    PS X (.Try body [.ExceptHandler (some (.Name "InvalidLabel" np1)) none [.Return (some (.Tuple [.Constant (.str r) k1 p1, .Constant (.int z) k2 p2] k3 p3)) p4] pos1, .ExceptHandler (some (.Name "GridError" np)) (some n) [.Return (some (.Call (.Name "_law_which" p) [.Name n q] [] pos2)) pos3] pos'] [] [] pos) (tSm X C (.tryW i [(3, .tuple [.str r, .int z])] xb)) := by
  obtain ⟨G, hG, hex⟩ := T.ge
  obtain ⟨L, hL, hil⟩ := T.il h3
  let ts : Addr → Value → Option Addr → TS := fun a cls d D σ H => ∃ k, cls = ex.2 k ∧ d = none ∧ k < 16 ∧ ∃ σ0 : L2.St, σ = σ0.set i (some (.ref a)) ∧ ∀ H' t, Sub H H' → H t = none → H' t = some (.tup [.str raisedS, .int (whichI k)]) → D.rt (.ref t) H'
  let t1 : Addr → Value → Option Addr → TS := fun a cls d D σ H => ∀ H' t, Sub H H' → H t = none → H' t = some (.tup [.str r, .int z]) → D.rt (.ref t) H'
  refine (ps_try_two (t1 := t1) (ts := ts) (tb := fun W => tSms X (C.withW fun k σ H => k < 16 ∧ W (ex.2 k) none σ H) xb) T.st T.fr hN hi hl ⟨hgL, by decide, .inl hL⟩ ⟨hgG, by decide, .inl hG⟩ takes0 hb (fun a oe cls d pn hz hf => ?_) (fun a oe cls d pn hz hf => ⟨fun pins s σ H D I h => ?_⟩)).lgi fun D σ H h => ?_
  · exact (pss_one (ps_ret (pe_tup (pa_cons pe_str (pa_cons pe_int pa_nil))))).lgi fun D σ H q => ⟨by show 2 ≤ sizeLine; decide, fun p hp => q _ p (sub_upd' hp) hp upd_same⟩
  · obtain ⟨k, rfl, rfl, hk, σ0, e, qq⟩ := h
    exact (pss_one (ps_ret (T.wh a oe k pn n i p q pos2 hk hz hf hi hl hd1 hd2 hgw))).run pins s σ H D I ⟨σ0, e, qq⟩
  · obtain ⟨f, c, S, env, rel, post⟩ := h
    rw [exS] at post
    refine ⟨f, c, S, env, rel, ?_⟩
    show PostS X.prog X.w X.K f _ (exSs f.ns C.Φ C.gv xb env c) D
    match ev : exSs f.ns C.Φ C.gv xb env c with
    | .ok (.next env', c') => rw [ev] at post; exact post
    | .ok (.ret d, c') => rw [ev] at post; exact post
    | .bad => rw [ev] at post; exact post
    | .exn k c0 =>
      rw [ev] at post
      by_cases hk : k < 16
      · simp only [if_pos hk] at post
        intro S' H' σ' g
        obtain ⟨c00, w0⟩ := rel.wf0
        refine ⟨hk, decide (k = 3), hil k hk, fun b3 a ha H2 t hs ht ht2 => ?_, fun bF => ⟨true, hex k hk, fun _ a ha => ⟨k, rfl, rfl, hk, σ', rfl, fun H2 t hs ht ht2 => ?_⟩, fun z => nomatch z⟩⟩
        · have e3 : k = 3 := of_decide_eq_true b3
          subst e3
          refine post (upd S' t (.tup [.str r, .int z])) H2 (.ref t) (g.more w0 hs ht ht2) ?_
          exact .tup (SqT.of upd_same) (by show 2 ≤ LIM; decide) (.cons (.str _) (.cons (.int _) .nil))
        · have n3 : k ≠ 3 := of_decide_eq_false bF
          have ew : whichD [(3, .tuple [.str r, .int z])] k = .tuple [.str (Str.ofString "raised"), .int (whichI k)] := by
            unfold whichD
            rw [show ([(3, PyData.tuple [.str r, .int z])] : List (Nat × PyData)).lookup k = none by
              rw [List.lookup_cons, show (k == 3) = false from beq_false_of_ne n3]
              rfl]
          rw [ew] at post
          refine post (upd S' t (.tup [.str raisedS, .int (whichI k)])) H2 (.ref t) (g.more w0 hs ht ht2) ?_
          exact .tup (SqT.of upd_same) (by show 2 ≤ LIM; decide) (.cons (.str _) (.cons (.int _) .nil))
      · simp only [if_neg hk] at post
        exact (show False from post).elim
end
end LG

/-! LgFL: calls through lists of defs. -/
namespace LG
open PySem PySem.Spec PyProof.Rows L2
section
variable {X : Cx} {C : Cn} {pos : Pos}
/-- a list of defs, whatever is new -/
def tFL (cond : L2.St → Hp → Prop) (vs : List V) : TE := fun σ H Q => cond σ H ∧ ∀ p H', Sub H H' → H' p = some (.lst vs) → Q (.ref p) H'
inductive FnNames (X : Cx) : List Expr → List Addr → Prop
  | nil : FnNames X [] []
  | cons {x : Str} {p : Pos} {es : List Expr} {a : Addr} {as : List Addr} (hg : Gl X x) (hm : X.mg x = some (.ref a)) (hd : (x == ("__debug__" : Str)) = false) (t : FnNames X es as) : FnNames X (.Name x p :: es) (a :: as)
theorem FnNames.pa : ∀ {es : List Expr} {as : List Addr}, FnNames X es as → PA X es (fun σ H Q => Q (as.map V.ref) H)
  | _, _, .nil => pa_nil
  | _, _, .cons (a := a) hg hm hd t => pa_cons (pe_glob (v := V.ref a) hg hm rfl hd) t.pa rfl
theorem sub_upd {H : Hp} {p : Addr} {o : HO} (h : H p = none) : Sub H (upd H p o) := fun b u q => by rw [upd_ne (ne_of_none q h)]; exact q
theorem pe_fl {es : List Expr} {as : List Addr} (h : FnNames X es as) (hl : as.length ≤ 100) : PE X (.List es pos) (tFL (fun _ _ => True) (as.map V.ref)) :=
  (pe_lst h.pa).lgi fun σ H Q q => ⟨by rw [List.length_map]; have := LIM_le; have : LIM = 1000000 := rfl; omega, fun p hp => q.2 p _ (sub_upd hp) upd_same⟩
theorem pe_fl2 {i : Nat} {x : Str} {p p2 : Pos} {es : List Expr} {as bs : List Addr} (hv : PE X (.Name x p) (tVar i)) (h : FnNames X es bs) (hl : as.length + bs.length ≤ 100) :
    PE X (.BinOp (.Name x p) .Add (.List es p2) pos) (tFL (fun σ H => ∃ q, σ[i]? = some (some (.ref q)) ∧ H q = some (.lst (as.map V.ref))) ((as ++ bs).map V.ref)) :=
  (pe_op op_cat hv (pe_fl h (by omega))).lgi fun σ H Q ⟨⟨q, h1, h2⟩, hQ⟩ => ⟨_, h1, trivial, fun p2 H2 hs hp2 => ⟨q, p2, _, _, rfl, rfl, hs _ _ h2, hp2, by
    have := LIM_le
    have : LIM = 1000000 := rfl
    rw [List.length_map, List.length_map]
    omega, fun p3 hp3 => by
      refine hQ p3 _ (fun b u hb => sub_upd hp3 b u (hs b u hb)) ?_
      rw [upd_same, List.map_append]⟩⟩
theorem pe_fl1 {i : Nat} {x : Str} {p : Pos} {as : List Addr} (hv : PE X (.Name x p) (tVar i)) : PE X (.Name x p) (tFL (fun σ H => ∃ q, σ[i]? = some (some (.ref q)) ∧ H q = some (.lst (as.map V.ref))) (as.map V.ref)) :=
  hv.lgi fun σ H Q ⟨⟨q, h1, h2⟩, hQ⟩ => ⟨_, h1, hQ q H (fun _ _ z => z) h2⟩
/-- the defs of a list, by their places in the table -/
inductive FnRow (X : Cx) (C : Cn) (ex : EV) (k : Nat) (CX : CXT) : List Expr → List Nat → List Addr → Prop
  | nil : FnRow X C ex k CX [] [] []
  | cons {x : Str} {p : Pos} {es : List Expr} {i : Nat} {is : List Nat} {a : Addr} {as : List Addr} {cl : Callee} {n : Nat} {fd : FuncData} {ps : List Str} (hf : C.Φ[i]? = some cl) (htw : cl.tw = false) (hg : Gl X x) (hm : X.mg x = some (.ref a)) (hk : PySem.W.keepIn X.K (.ref a) = true) (hb : Binds X.K fd ps [])
      (F : FnOk X.prog X.w X.K X.mg X.base CX k a fd ps (spF X.prog X.w X.K ex cl.tw n cl.F)) (hn : ∀ ns ds c r, cl.F ns ds c = r → r ≠ .bad → ds.length = n) (hd : (x == ("__debug__" : Str)) = false) (t : FnRow X C ex k CX es is as) : FnRow X C ex k CX (.Name x p :: es) (i :: is) (a :: as)
theorem FnRow.names {ex : EV} {k : Nat} {CX : CXT} : ∀ {es : List Expr} {is : List Nat} {as : List Addr}, FnRow X C ex k CX es is as → FnNames X es as
  | _, _, _, .nil => .nil
  | _, _, _, .cons _ _ hg hm _ _ _ _ hd t => .cons hg hm hd t.names
theorem FnRow.len {ex : EV} {k : Nat} {CX : CXT} : ∀ {es : List Expr} {is : List Nat} {as : List Addr}, FnRow X C ex k CX es is as → is.length = as.length ∧ es.length = as.length
  | _, _, _, .nil => ⟨rfl, rfl⟩
  | _, _, _, .cons _ _ _ _ _ _ _ _ _ t => ⟨congrArg (· + 1) t.len.1, congrArg (· + 1) t.len.2⟩
theorem FnRow.append {ex : EV} {k : Nat} {CX : CXT} {es' : List Expr} {is' : List Nat} {as' : List Addr} : ∀ {es : List Expr} {is : List Nat} {as : List Addr}, FnRow X C ex k CX es is as → FnRow X C ex k CX es' is' as' → FnRow X C ex k CX (es ++ es') (is ++ is') (as ++ as')
  | _, _, _, .nil, h => h
  | _, _, _, .cons a b c d e f g h i t, h' => .cons a b c d e f g h i (t.append h')
/-- one of them -/
structure FnAt (X : Cx) (C : Cn) (ex : EV) (k : Nat) (CX : CXT) (i : Nat) (a : Addr) : Prop where
  ok : ∃ (cl : Callee) (n : Nat) (fd : FuncData) (ps : List Str), C.Φ[i]? = some cl ∧ cl.tw = false ∧ PySem.W.keepIn X.K (.ref a) = true ∧ Binds X.K fd ps [] ∧ FnOk X.prog X.w X.K X.mg X.base CX k a fd ps (spF X.prog X.w X.K ex cl.tw n cl.F) ∧ ∀ ns ds c r, cl.F ns ds c = r → r ≠ .bad → ds.length = n
theorem FnRow.at_ {ex : EV} {k : Nat} {CX : CXT} : ∀ {es : List Expr} {is : List Nat} {as : List Addr}, FnRow X C ex k CX es is as → ∀ {m i : Nat}, is[m]? = some i → ∃ a, as[m]? = some a ∧ FnAt X C ex k CX i a
  | _, _, _, .nil, m, i, h => by simp at h
  | _, _, _, .cons (a := a) hf htw hg hm hk hb F hn hd t, 0, i, h => by cases h; exact ⟨a, rfl, _, _, _, _, hf, htw, hk, hb, F, hn⟩
  | _, _, _, .cons hf htw hg hm hk hb F hn hd t, m + 1, i, h => by
    rw [List.getElem?_cons_succ] at h
    obtain ⟨a, h1, h2⟩ := t.at_ h
    exact ⟨a, by rw [List.getElem?_cons_succ]; exact h1, h2⟩
theorem FnRow.atI {ex : EV} {k : Nat} {CX : CXT} {es : List Expr} {is : List Nat} {as : List Addr} (h : FnRow X C ex k CX es is as) {j : Int} {i : Nat} (e : L2.atI is j = some i) : ∃ a, L2.atI (as.map V.ref) j = some (V.ref a) ∧ FnAt X C ex k CX i a := by
  unfold L2.atI at e ⊢
  rw [List.length_map, ← h.len.1]
  cases e1 : L2.ixN is.length j with
  | none => rw [e1] at e; cases e
  | some m =>
    rw [e1] at e
    obtain ⟨a, h1, h2⟩ := h.at_ (show is[m]? = some i from e)
    exact ⟨a, by show (as.map V.ref)[m]? = _; rw [List.getElem?_map, h1]; rfl, h2⟩
theorem pe_callE {ex : EV} {k : Nat} {CX : CXT} {E : L2.St → XK} {cond : L2.St → Hp → Prop} {le ie e : Expr} {es nms : List Expr} {is : List Nat} {as : List Addr} {xi : Ex} {xs : Exs} {p2 : Pos} (hle : PE X le (tFL cond (as.map V.ref))) (hi : SE X C xi ie) (hs : PlainIx ie) (row : FnRow X C ex k CX nms is as)
    (hx : ∀ σ, PassesAt CX X σ (E σ)) (hr : Room k X.A) (ha : PA X (e :: es) (tAs X C xs)) (hns : ∀ y ∈ e :: es, NoStar y) (hW : ∀ kk σ H, C.W kk σ H → ex.1 = true ∧ E σ (ex.2 kk) none H) :
    PE X (.Call (.Subscript le ie p2) (e :: es) [] pos) (fun σ H Q => cond σ H ∧ tE X C (.callL is xi xs) σ H Q) := by
  refine ⟨fun pins s σ H Q I h => ?_⟩
  obtain ⟨hc, f, c, S, env, rel, post⟩ := h
  rw [evE] at post
  refine Call_ (thn ((pe_ix (pos := p2) ix_list hle hi.pe hs).run pins s σ H (fun v H2 => ∃ i a c1 S1, v = .ref a ∧ FnAt X C ex k CX i a ∧ Rel X.prog X.w X.K f c1 S1 H2 env σ ∧ Post f (fun k H' => C.W k σ H') (Rep X.prog X.w X.K) S1 H2 ((evA f.ns C.Φ C.gv xs env c1).thn fun ds c => match C.Φ[i]? with | some k => if k.tw then .bad else k.F f.ns ds c | none => .bad) Q) I ⟨hc, fun p H' hsub hp => ?_⟩) fun u s1 ⟨y, H1, I1, ry, i, a, c1, S1, ey, fa, rel1, post1⟩ => ?_) rfl
  · have g0 : Gr f.T S H c S H' := ⟨fun _ _ q => q, fun b u q => hsub b u (rel.wf.inn b u q), fun b u _ q => hsub b u q, fun _ _ q => .inl q, hsub _ _ rel.wf.tH⟩
    refine ⟨f, c, S, env, rel.gr g0, (post.mono rel.wf g0).thn (rel.gr g0).wf fun d c1 S1 H1 v _ g1 r1 post1 => ?_⟩
    cases r1 with
    | int j =>
      simp only at post1
      cases e0 : L2.atI is j with
      | none => rw [e0] at post1; exact (show False from post1).elim
      | some i =>
        rw [e0] at post1
        obtain ⟨a, h1, h2⟩ := row.atI e0
        have hpT : p ≠ f.T := fun z => by
          rw [z, hsub _ _ rel.wf.tH] at hp
          have e9 : zeros c = as.map V.ref := by simpa using hp
          rw [← e9] at h1
          unfold L2.atI at h1
          cases e8 : L2.ixN (zeros c).length j with
          | none => rw [e8] at h1; cases h1
          | some m =>
            rw [e8] at h1
            exact absurd (List.eq_of_mem_replicate (List.mem_of_getElem? (show (zeros c)[m]? = some (V.ref a) from h1))) (fun z => nomatch z)
        exact ⟨p, _, j, _, rfl, rfl, SqL.of (g1.same p _ hpT hp), h1, i, a, c1, S1, rfl, h2, (rel.gr g0).gr g1, post1⟩
    | _ => exact (show False from post1).elim
  · subst ey
    obtain rfl : u = Value.ref a := ry
    obtain ⟨cl, n, fd, ps, hf, htw, hk, hb, F, hn⟩ := fa.ok
    refine PySem.W.callWith_K (h₀ := X.base) I.ok.mod.kin hk (thn (ha.run pos pins s1 σ H1 (fun vs H2 => spF X.prog X.w X.K ex cl.tw n cl.F vs H2 Q (E σ)) I1 ⟨f, c1, S1, env, rel1, post1.thn rel1.wf fun ds c2 S2 H2 vs _ g2 r2 post2 => ?_⟩) fun us s2 ⟨vs, H2, I2, r, q⟩ => ⟨I2.kIn, ?_⟩) (hns e (List.mem_cons_self ..) _ _) (backTo_false fun y hy => hns y (List.mem_cons_of_mem _ hy))
    · rw [hf] at post2
      simp only [htw] at post2
      have post3 : Post f (fun k H' => C.W k σ H') (Rep X.prog X.w X.K) S2 H2 (cl.F f.ns ds c2) Q := post2
      have hne : cl.F f.ns ds c2 ≠ .bad := fun z => by rw [z] at post3; exact post3
      refine ⟨f, c2, S2, ds, vs, (rel1.gr g2).wf, r2, hn _ _ _ _ rfl hne, by rw [htw]; rfl, ?_⟩
      match hF : cl.F f.ns ds c2 with
      | .ok (d, c3) => rw [hF] at post3; exact post3
      | .exn kk c3 => rw [hF] at post3; exact fun S' H' g => hW _ _ _ (post3 S' H' g)
      | .bad => rw [hF] at post3; exact post3
    · exact run_fnS F hr hb (hx σ) I2 r q
end
end LG

/-! LgFM: t[::-1]; dict(d). -/
namespace LG
open PySem PySem.Spec PyProof.Rows L2 HT
theorem fm_congr {α β : Type} {f g : α → Option β} : ∀ {l : List α}, (∀ x ∈ l, f x = g x) → l.filterMap f = l.filterMap g
  | [], _ => rfl
  | x :: l, h => by rw [List.filterMap_cons, List.filterMap_cons, h x List.mem_cons_self, fm_congr fun y hy => h y (List.mem_cons_of_mem _ hy)]
section
variable {prog : Program} {w : World} {A : Around} {E : Value → Shared → Prop} {s : Shared}
theorem sliceApplied_rev {sl : Addr} {vs : Value} {n : Nat} {Q : Int × Int × Nat → Shared → Prop} (hs : s.heap.IsSliceOf sl .none .none vs) (ps : IsPart vs (some (-1)))
    (h : Q ((n : Int) - 1, -1, n) s) : wpAny (model prog w) A (Builtin.Slice.sliceApplied (.ref sl) (pure (n : Int))) Q E s := by
  obtain ⟨os, hos, hcs, hds⟩ := id hs
  unfold Builtin.Slice.sliceApplied Builtin.Slice.sliceFields
  refine wpAny_bind (wpAny_bind (wpAny_field hos hds (x := .none) rfl (wpAny_bind (wpAny_field hos hds (x := .none) rfl (wpAny_bind (wpAny_field hos hds (x := vs) rfl (wpAny_pure ?_)))))))
  refine wpAny_bind (slicePart_ ps ?_)
  show wpAny _ _ (if ((-1 : Int) == 0) = true then _ else _) _ _ s
  rw [if_neg (by decide)]
  refine wpAny_bind (slicePart_none (wpAny_bind (slicePart_none (wpAny_bind (wpAny_pure ?_)))))
  show wpAny _ _ (pure (((n : Int) - 1), (-1 : Int), Builtin.Slice.slicePlaces ((n : Int) - 1) (-1) (-1))) _ _ s
  have e : Builtin.Slice.slicePlaces ((n : Int) - 1) (-1) (-1) = n := by
    unfold Builtin.Slice.slicePlaces
    rw [if_neg (by decide)]
    by_cases hn : (n : Int) - 1 > -1
    · rw [if_pos hn, show (- -1 : Int) = 1 by decide, Int.ediv_one]
      omega
    · rw [if_neg hn]
      omega
  rw [e]
  exact wpAny_pure h
theorem pick_rev (xs : Array Value) : ((List.range xs.size).filterMap fun (k : Nat) => xs[(((xs.size : Int) - 1) + (k : Int) * -1).toNat]?).toArray = xs.toList.reverse.toArray := by
  have e : (List.range xs.size).filterMap (fun (k : Nat) => xs[(((xs.size : Int) - 1) + (k : Int) * -1).toNat]?) = ((List.range xs.size).map fun k => xs.size - 1 - k).filterMap (xs[·]?) := by
    rw [List.filterMap_map]
    refine fm_congr fun k hk => ?_
    have := List.mem_range.mp hk
    show _ = xs[xs.size - 1 - k]?
    congr 1
    omega
  rw [e, PySem.W.krv_range, List.filterMap_reverse, PySem.W.krv_all]
theorem getItem_tuple_rev {t sl : Addr} {items : Array Value} {vs : Value} {Q : Value → Shared → Prop} (ht : IsTup s.heap t items) (hs : s.heap.IsSliceOf sl .none .none vs) (ps : IsPart vs (some (-1)))
    (h : Q (.ref s.heap.objs.size) { s with heap := s.heap.push { cls := .type "tuple", data := .seq items.toList.reverse.toArray } }) (hsz : items.size ≤ sizeLine) : wpAny (model prog w) A (getItem (.ref t) (.ref sl)) Q E s := by
  have htake : sizeOk (.seq items.toList.reverse.toArray) := by
    show items.toList.reverse.toArray.size ≤ sizeLine
    rw [List.size_toArray, List.length_reverse, Array.length_toList]
    exact hsz
  obtain ⟨os, hos, hcs, hds⟩ := id hs
  have hTs : s.TypeIs (.ref sl) "slice" := ⟨os, hos, hcs⟩
  unfold getItem
  try with_reducible refine wpAny_holding ?_
  first | refine wpAny_bind (wpAny_pure ?_) | skip
  refine wpAny_bind (wpAny_sequenceKey ht.typeIs (by decide) ?_)
  refine wpAny_bind (wpAny_callSpecial?_slot (name := Str.ofString "__getitem__") ht.typeIs PyProof.Rows.slot_tuple_getitem
    (wpAny_call_entry PyProof.Rows.slot_tuple_getitem ht.typeIs entry_tuple_getitem ?_ (args_tuple_getitem _ _)))
  show wpAny _ _ (Builtin.Tuple.tupleItemsOf (.ref t) >>= _) _ _ s
  refine wpAny_bind (tupleItemsOf_ ht ?_)
  refine wpAny_bind (wpAny_typeOf hTs ?_)
  rw [if_pos (by decide)]
  refine wpAny_bind (sliceApplied_rev hs ps ?_)
  have hno : ¬ ((((items.size : Int) - 1) == 0 && (-1 : Int) == 1 && items.size == items.size) = true) := by
    intro q
    rw [Bool.and_eq_true, Bool.and_eq_true] at q
    exact absurd q.1.2 (by decide)
  show wpAny _ _ (if (((items.size : Int) - 1) == 0 && (-1 : Int) == 1 && items.size == items.size) = true then _ else _) _ _ s
  rw [if_neg hno, pick_rev]
  first
    | exact wpAny_bind (m := Builtin.Tuple.tupleExact _) (wpAny_newObj_type (wpAny_pure ⟨_, rfl, wpAny_pure h⟩) htake)
    | exact wpAny_bind (m := Builtin.Tuple.tupleExact _) (wpAny_newObj_type (wpAny_bind (wpAny_pure (wpAny_pure ⟨_, rfl, wpAny_pure h⟩))) htake)
    | exact wpAny_bind (wpAny_bind (m := Builtin.Tuple.tupleExact _) (wpAny_newObj_type (wpAny_pure (wpAny_pure ⟨_, rfl, wpAny_pure h⟩)) htake))
    | exact wpAny_bind (wpAny_bind (m := Builtin.Tuple.tupleExact _) (wpAny_newObj_type (wpAny_pure ⟨_, rfl, wpAny_pure h⟩) htake))
end
section
variable {X : Cx} {C : Cn} {pos : Pos}
def tRevT (K : PySem.W.Frag) (te : TE) : TE := fun σ H Q => te σ H fun x H1 => ∃ a xs, x = .ref a ∧ SqT K H1 a xs ∧ ∀ p, H1 p = none → Q (.ref p) (upd H1 p (.tup xs.reverse))
theorem pe_revT {e : Expr} {te : TE} {k : Nat} {p1 p2 p3 : Pos} (he : PE X e te) : PE X (.Subscript e (.Slice none none (some (.UnaryOp .USub (.Constant (.int 1) k p1) p2)) p3) pos) (tRevT X.K te) := by
  refine ⟨fun pins s σ H Q I h => ?_⟩
  refine Subscript_ (thn (he.run pins s σ H _ I h) fun v s1 ⟨x, H1, I1, r1, q1⟩ => ?_)
  obtain ⟨a, xs, ex, hx, q⟩ := q1
  subst ex
  cases r1
  have hst : PO X (some (.UnaryOp .USub (.Constant (.int 1) k p1) p2)) (tPart (tUn (rU fun i => .int (-i)) (tC (.int 1)))) := po_some (pe_un un_neg pe_int)
  refine wpAny_Slice (thn (po_none.run pins s1 σ H1 (fun o H2 => o = none ∧ H2 = H1) I1 ⟨rfl, rfl⟩) fun vl s2 ⟨l, H2, I2, pl, el, e2⟩ => ?_)
  subst el e2
  refine thn (po_none.run pins s2 σ H2 (fun o H3 => o = none ∧ H3 = H2) I2 ⟨rfl, rfl⟩) fun vu s3 ⟨u, H3, I3, pu, eu, e3⟩ => ?_
  subst eu e3
  refine thn (hst.run pins s3 σ H3 (fun o H4 => o = some (-1) ∧ H4 = H3) I3 ⟨1, rfl, -1, rfl, rfl, rfl⟩) fun vs s4 ⟨o, H4, I4, ps, eo, e4⟩ => ?_
  subst eo e4
  cases pl
  cases pu
  have I5 : Inv X pins σ H4 { s4 with heap := s4.heap.push { cls := .type "slice", data := .fields #[.none, .none, vs] } } := I4.kept (t' := s4.toks) fun b ob q => Heap.get?_push_of_some _ q
  obtain ⟨its, r, ht, hz⟩ := I5.tuple hx
  have hlen := r.length
  show wpAny (model X.prog X.w) X.A (subscriptTail e (.Slice none none (some (.UnaryOp .USub (.Constant (.int 1) k p1) p2)) p3) (.ref a) (.ref s4.heap.objs.size)) (EP X pins σ Q) X.xe { s4 with heap := s4.heap.push { cls := .type "slice", data := .fields #[.none, .none, vs] } }
  refine tail_any (ops := [.ref a, .ref s4.heap.objs.size]) ht.typeIs (PyProof.Rows.slot_tuple_getitem.lookup) ?_ (by with_unfolding_all rfl)
  refine getItem_tuple_rev ht (Heap.IsSliceOf.new _ .none .none vs) ps ?_ (by rw [List.size_toArray]; omega)
  refine ⟨.ref _, _, I5.laid (t' := s4.toks) (o := .tup xs.reverse) (fun b ob q => Heap.get?_push_of_some _ q) (Nat.le_refl _) ?_, rfl, q _ (I5.hok.fresh (Nat.le_refl _))⟩
  exact ⟨by rw [List.length_reverse]; exact hz, _, r.reverse, IsTup.new _ _⟩
/-- a tuple or a list, turned round -/
def tRevA (K : PySem.W.Frag) (te : TE) : TE := fun σ H Q => te σ H fun x H1 => ∃ a xs, x = .ref a ∧ ((SqT K H1 a xs ∧ ∀ p, H1 p = none → Q (.ref p) (upd H1 p (.tup xs.reverse))) ∨ (SqL K H1 a xs ∧ ∀ p, H1 p = none → Q (.ref p) (upd H1 p (.lst xs.reverse))))
theorem pe_revA {e : Expr} {te : TE} {k : Nat} {p1 p2 p3 : Pos} (he : PE X e te) : PE X (.Subscript e (.Slice none none (some (.UnaryOp .USub (.Constant (.int 1) k p1) p2)) p3) pos) (tRevA X.K te) := by
  refine ⟨fun pins s σ H Q I h => ?_⟩
  refine Subscript_ (thn (he.run pins s σ H _ I h) fun v s1 ⟨x, H1, I1, r1, q1⟩ => ?_)
  obtain ⟨a, xs, ex, q⟩ := q1
  subst ex
  cases r1
  have hst : PO X (some (.UnaryOp .USub (.Constant (.int 1) k p1) p2)) (tPart (tUn (rU fun i => .int (-i)) (tC (.int 1)))) := po_some (pe_un un_neg pe_int)
  refine wpAny_Slice (thn (po_none.run pins s1 σ H1 (fun o H2 => o = none ∧ H2 = H1) I1 ⟨rfl, rfl⟩) fun vl s2 ⟨l, H2, I2, pl, el, e2⟩ => ?_)
  subst el e2
  refine thn (po_none.run pins s2 σ H2 (fun o H3 => o = none ∧ H3 = H2) I2 ⟨rfl, rfl⟩) fun vu s3 ⟨u, H3, I3, pu, eu, e3⟩ => ?_
  subst eu e3
  refine thn (hst.run pins s3 σ H3 (fun o H4 => o = some (-1) ∧ H4 = H3) I3 ⟨1, rfl, -1, rfl, rfl, rfl⟩) fun vs s4 ⟨o, H4, I4, ps, eo, e4⟩ => ?_
  subst eo e4
  cases pl
  cases pu
  have I5 : Inv X pins σ H4 { s4 with heap := s4.heap.push { cls := .type "slice", data := .fields #[.none, .none, vs] } } := I4.kept (t' := s4.toks) fun b ob q => Heap.get?_push_of_some _ q
  show wpAny (model X.prog X.w) X.A (subscriptTail e (.Slice none none (some (.UnaryOp .USub (.Constant (.int 1) k p1) p2)) p3) (.ref a) (.ref s4.heap.objs.size)) (EP X pins σ Q) X.xe { s4 with heap := s4.heap.push { cls := .type "slice", data := .fields #[.none, .none, vs] } }
  rcases q with ⟨hx, q⟩ | ⟨hx, q⟩
  · obtain ⟨its, r, ht, hz⟩ := I5.tuple hx
    have hlen := r.length
    refine tail_any (ops := [.ref a, .ref s4.heap.objs.size]) ht.typeIs (PyProof.Rows.slot_tuple_getitem.lookup) ?_ (by with_unfolding_all rfl)
    refine getItem_tuple_rev ht (Heap.IsSliceOf.new _ .none .none vs) ps ?_ (by rw [List.size_toArray]; omega)
    refine ⟨.ref _, _, I5.laid (t' := s4.toks) (o := .tup xs.reverse) (fun b ob q => Heap.get?_push_of_some _ q) (Nat.le_refl _) ?_, rfl, q _ (I5.hok.fresh (Nat.le_refl _))⟩
    exact ⟨by rw [List.length_reverse]; exact hz, _, r.reverse, IsTup.new _ _⟩
  · obtain ⟨its, r, ht, hz⟩ := I5.list hx
    have hlen := r.length
    refine tail_any (ops := [.ref a, .ref s4.heap.objs.size]) ht.isList.typeIs (PySem.slot_list_getitem.lookup) ?_ (by with_unfolding_all rfl)
    refine wpAny_getItem_list_slice ht.isList (Heap.IsSliceOf.new _ .none .none vs) .none .none ps (by decide) ?_ (by rw [List.size_toArray]; omega)
    rw [PySem.W.krv_pick]
    refine ⟨.ref _, _, I5.laid (t' := s4.toks) (o := .lst xs.reverse) (fun b ob q => Heap.get?_push_of_some _ q) (Nat.le_refl _) ?_, rfl, q _ (I5.hok.fresh (Nat.le_refl _))⟩
    exact ⟨by rw [List.length_reverse]; exact hz, _, 0, r.reverse, Heap.get?_push_size _ rfl⟩
theorem se_rev {a : Expr} {xa : Ex} {k : Nat} {p1 p2 p3 : Pos} (ha : SE X C xa a) : SE X C (.rev xa) (.Subscript a (.Slice none none (some (.UnaryOp .USub (.Constant (.int 1) k p1) p2)) p3) pos) := by
  refine se_val ((pe_revA ha.pe).lgi fun σ H Q q => ?_)
  obtain ⟨f, c, S, env, rel, post⟩ := q
  rw [evE] at post
  refine ⟨f, c, S, env, rel, post.thn rel.wf fun d c1 S1 H1 v _ g1 r1 post1 => ?_⟩
  cases r1 with
  | tup a l rr => exact ⟨_, _, rfl, .inl ⟨SqT.sub g1.inn a, PostR.newT (rel.gr g1).wf (PostR.of post1) (by rw [List.length_reverse]; exact l) rr.reverse⟩⟩
  | lst a l rr => exact ⟨_, _, rfl, .inr ⟨SqL.of (g1.inn _ _ a), PostR.newL (rel.gr g1).wf (PostR.of post1) (by rw [List.length_reverse]; exact l) rr.reverse⟩⟩
  | _ => exact (show False from post1).elim
end
/-! ### dict(d) -/
section
variable {prog : Program} {w : World} {A : Around} {E : Value → Shared → Prop} {s : Shared} {K : Type} [DecidableEq K] {knd : HeapKind prog w K}
theorem call_dictH {o : Addr} {more : List (K × Addr × Value)} {Q : Value → Shared → Prop} (hu : knd.room A.in1.in1) (hoS : (o == sysModules) = false) (ho : s.heap.DictOfH knd o more) (hkeep : (s.heap.push { cls := .type "dict", data := .dict #[] }).DictOfH knd o more) (hty : ∀ x ∈ more, ({ s with heap := s.heap.push { cls := .type "dict", data := .dict #[] } } : Shared).TypeIs (.ref x.2.1) "tuple") (hap : (more.map fun x => knd.hash x.1).Nodup) (hsz : more.length ≤ sizeLine)
    (h : ∀ h', h'.DictOfH knd s.heap.objs.size more → Heap.SameBut s.heap.objs.size (s.heap.push { cls := .type "dict", data := .dict #[] }) h' → Q (.ref s.heap.objs.size) { s with heap := h' }) :
    wpAny (model prog w) A (call (.type "dict") [.ref o]) Q E s := by
  refine callType_codes (Q₁ := fun obj s₁ => obj = .ref s.heap.objs.size ∧ s₁ = { s with heap := s.heap.push { cls := .type "dict", data := .dict #[] } }) F.kt_called_dict (F.kt_typeCall_dict_1 _) F.entry_dict_init (kt_code_dict_new _ ⟨rfl, rfl⟩) ?_
  rintro obj s₁ ⟨rfl, rfl⟩
  have hnew : (s.heap.push { cls := .type "dict", data := .dict #[] }).DictOfH knd s.heap.objs.size [] := ⟨_, _, _, Heap.get?_push_size _ rfl, ⟨rfl, rfl, rfl⟩, rfl, rfl, fun _ z => absurd z List.not_mem_nil, List.nodup_nil⟩
  have hdo : s.heap.objs.size ≠ o := by
    obtain ⟨_, _, _, hg, _⟩ := ho
    exact fun e => absurd (Heap.lt_size hg) (by rw [e]; exact Nat.lt_irrefl _)
  refine ⟨hnew.typeIs, F.args_dict_init_2 _ _, ?_⟩
  unfold Builtin.«dict.__init__»
  refine wpAny_bind ?_
  unfold Builtin.Dict.selfAndRest
  refine wpAny_bind (wpAny_notOrdered_dict hnew.typeIs ?_)
  show wpAny _ _ (pure (s.heap.objs.size, [Value.ref o])) _ _ _
  refine wpAny_pure ?_
  show wpAny _ _ (Builtin.Dict.updateFrom "dict.__init__" s.heap.objs.size (.ref o) [] .none) _ _ _
  unfold Builtin.Dict.updateFrom
  refine wpAny_bind (wpAny_typeOf hkeep.typeIs ?_)
  rw [if_neg (by decide)]
  refine wpAny_bind ?_
  unfold Builtin.Dict.merge
  refine wpAny_bind ?_
  unfold Builtin.Dict.readDirectly
  refine wpAny_bind (wpAny_isInstance hkeep.typeIs isSubtype_dict_dict ?_)
  simp only [Bool.not_true, Bool.false_eq_true, if_false]
  refine wpAny_bind (wpAny_specialOf hkeep.typeIs F.slot_dict_iter.lookup (wpAny_pure ?_))
  simp only [beq_self_eq_true, if_true]
  refine wpAny_bind (wpAny_pure ?_)
  refine wpAny_mergeDict_heap (knd := knd) (hsz := by simpa using hsz) hu hdo hoS hnew hkeep (.inr ⟨hty, hap⟩) fun h' hd' _ hs' => ?_
  show wpAny _ _ (Builtin.Dict.addKeywords s.heap.objs.size [] >>= _) _ _ _
  rw [storedAllH_nil_of_nodup more hkeep.nodup] at hd'
  exact wpAny_bind (wpAny_pure (wpAny_pure ⟨rfl, h h' hd' hs'⟩))
end
/-! hashes of keys without texts are the same in every world -/
mutual
theorem hz_hash {w : World} : ∀ {k : NestedKey} {h : Int}, hzK k = some h → k.hash w = h
  | .none, _, e => by cases e
  | .num i, _, e => by cases e; rfl
  | .text _, _, e => by cases e
  | .tup ks, _, e => by
    unfold hzK at e
    cases e1 : hzA ks with
    | none => rw [e1] at e; cases e
    | some hs =>
      rw [e1] at e
      cases e
      rw [NestedKey.hash, hz_hashes e1]
theorem hz_hashes {w : World} : ∀ {ks : List NestedKey} {hs : List Int}, hzA ks = some hs → NestedKey.hashes w ks = hs
  | [], _, e => by cases e; rfl
  | k :: ks, _, e => by
    unfold hzA at e
    cases e1 : hzK k with
    | none => rw [e1] at e; cases e
    | some h =>
      cases e2 : hzA ks with
      | none => rw [e1, e2] at e; cases e
      | some hs =>
        rw [e1, e2] at e
        cases e
        rw [NestedKey.hashes, hz_hash e1, hz_hashes e2]
end
theorem KReps.hz {P : Program} {w : World} {K : PySem.W.Frag} {S : Hp} : ∀ {kvs : List (D × D)} {xs : List (NestedKey × Addr × Value)}, KReps P w K S kvs xs → ∀ {hs : List Int}, hzKs (keysOf kvs) = some hs → (xs.map fun x => x.1.hash w) = hs
  | _, _, .nil, hs, e => by cases e; rfl
  | _, _, .cons (kd := kd) (κ := κ) (r := r) a b c d t, hs, e => by
    have e' : (match nk kd with | some κ => (match hzK κ, hzKs (keysOf r) with | some h, some hs => some (h :: hs) | _, _ => none) | none => none) = some hs := e
    rw [a] at e'
    simp only at e'
    cases e1 : hzK κ with
    | none => rw [e1] at e'; cases e'
    | some h =>
      cases e2 : hzKs (keysOf r) with
      | none => rw [e1, e2] at e'; cases e'
      | some hs' =>
        rw [e1, e2] at e'
        cases e'
        rw [List.map_cons, KReps.hz t e2]
        show NestedKey.hash w κ :: _ = _
        rw [hz_hash e1]
section
variable {X : Cx} {C : Cn} {pos : Pos}
theorem sf_dict {k : Nat} {a : Expr} {xa : Ex} {p : Pos} (hr : Room k X.A) (hg : Gl X "dict") (hm : X.mg "dict" = none) (ha : SE X C xa a) (hs : NoStar a) : PE X (.Call (.Name "dict" p) [a] [] pos) (tEF X C (.prim .dict (.cons xa .nil))) := ⟨fun pins s σ H Q I h => by
  obtain ⟨f, c, S, env, rel, post⟩ := h
  rw [evE] at post
  have pa := sa_cons ha (sa_nil (X := X) (C := C)) hs
  refine Call_ (ld_blt I hg hm PyProof.Rows.boot_dict ?_)
  refine PyProof.Rows.callWith_type1 (thn (pa.run pos pins s σ H _ I ⟨f, c, S, env, rel, post.thn (Q' := fun vs H1 => ∃ c1 S1 kvs v, f.wf X.K c1 S1 H1 ∧ vs = [v] ∧ Rep X.prog X.w X.K S1 (.dict kvs) v ∧ (∃ hs, hzKs (keysOf kvs) = some hs ∧ hs.Nodup) ∧ PostF X.prog X.w X.K f (fun k H' => C.W k σ H') S1 H1 (.ok (.dict kvs, c1)) Q) rel.wf fun ds c1 S1 H1 vs _ g1 r1 post1 => ?_⟩) fun us s1 ⟨vs, H1, I1, r1, q1⟩ => ?_) (hs _ _) rfl
  · have post2 : PostF X.prog X.w X.K f (fun k H' => C.W k σ H') S1 H1 ((primD .dict ds).at c1) Q := post1
    match ds, r1, post2 with
    | [.dict kvs], .cons r .nil, post2 =>
      have post3 : PostF X.prog X.w X.K f (fun k H' => C.W k σ H') S1 H1 (R.at (if hzOk kvs then .ok (.dict kvs) else .bad) c1) Q := post2
      split at post3
      · rename_i hk
        unfold hzOk at hk
        cases e : hzKs (keysOf kvs) with
        | none => rw [e] at hk; cases hk
        | some hs => rw [e] at hk; exact ⟨c1, S1, kvs, _, (rel.gr g1).wf, rfl, r, ⟨hs, e, of_decide_eq_true hk⟩, post3⟩
      · exact (show False from post3).elim
  · obtain ⟨c1, S1, kvs, v, wf, rfl, rr, ⟨hs, hz1, hz2⟩, post2⟩ := q1
    cases rr with
    | dic e1 e2 e3 e4 e5 e6 e7 e8 =>
      rename_i ad ob es ep xs
      cases r1 with
      | cons ra rn =>
        cases rn
        cases ra
        have ho := (I1.hok ad _ (wf.inn _ _ e1)).1
        have kr := e8.sub wf.inn
        have I2 : Inv X pins σ H1 { s1 with heap := s1.heap.push { cls := .type "dict", data := .dict #[] } } := I1.kept (t' := s1.toks) fun b o e => Heap.get?_push_of_some _ e
        have d1 : s1.heap.DictOfH (nestedKind X.prog X.w) ad xs := ⟨ob, es, ep, ho, e2, e3, e4, kr.is I1, e5⟩
        have d2 : (s1.heap.push { cls := .type "dict", data := .dict #[] }).DictOfH (nestedKind X.prog X.w) ad xs := ⟨ob, es, ep, Heap.get?_push_of_some _ ho, e2, e3, e4, kr.is I2, e5⟩
        have hlen : xs.length ≤ sizeLine := by
          have := e8.length
          have := LIM_le
          omega
        refine call_dictH (knd := nestedKind X.prog X.w) ?_ e6 d1 d2 (keyed_apart nestedKind_stays (s := { s1 with heap := s1.heap.push { cls := .type "dict", data := .dict #[] } }) d2) (by rw [show (xs.map fun x => (nestedKind X.prog X.w).hash x.1) = hs from KReps.hz e8 hz1]; exact hz2) hlen fun h' hd' hs' => ?_
        · show X.A.in1.in1.units + 8 < cLine
          have := hr.un
          show X.A.units + 1 + 1 + 8 < cLine
          omega
        · obtain ⟨ob', es', ep', k1, k2, k3, k4, k5, k6⟩ := hd'
          have hlt : ∀ {b : Addr} {o : Obj}, s1.heap.get? b = some o → b < s1.heap.objs.size := fun e => Heap.lt_size e
          have I3 : Inv X pins σ (upd H1 s1.heap.objs.size (.ext (pinO s1.heap.objs.size ob'))) { s1 with heap := h' } :=
            I1.laid (t' := s1.toks) (fun b o e => (hs'.2 b (Nat.ne_of_lt (hlt e))).trans (Heap.get?_push_of_some _ e)) (Nat.le_refl _) (ext_ok k1)
          have hp : H1 s1.heap.objs.size = none := I1.hok.fresh (Nat.le_refl _)
          have hS : S1 s1.heap.objs.size = none := by
            cases e : S1 s1.heap.objs.size with
            | none => rfl
            | some o => rw [wf.inn _ _ e] at hp; cases hp
          have hne : (s1.heap.objs.size == sysModules) = false := beq_false_of_ne (Nat.ne_of_gt I1.big)
          exact ⟨.ref s1.heap.objs.size, _, I3, rfl, post2 S1 _ _ (wf.laid hp _) hp hS (own_of k2 k3 k4 k6 hne e7 e8)⟩⟩
end
end LG

/-! LgFN: a list of defs with a name, then a call through it; a hole. -/
namespace LG
open PySem PySem.Spec PyProof.Rows L2
section
variable {X : Cx} {C : Cn}
theorem sss_hole {ss : List Stmt} {r : Sms} : PSs X ss (tSms X C (.cons .hole r)) := ⟨fun pins s σ H D I h => by
  obtain ⟨f, c, S, env, rel, post⟩ := h
  rw [exSs, exS] at post
  exact (show False from post).elim⟩
theorem sss_retL {ex : EV} {k : Nat} {CX : CXT} {E : L2.St → XK} {j : Nat} {y : Str} {le ie e : Expr} {es nms nms' : List Expr} {is is' : List Nat} {as as' : List Addr} {xi : Ex} {xs : Exs} {r : Sms} {p1 p2 p3 p7 p8 p9 : Pos}
    (hN : X.N.Nodup) (hj : X.N[j]? = some y) (hx' : Loc X.env.scope y) (hsw : swapsWith (.List nms p2) (some (.Name y p1)) p3.line X.env = pure false) (hf : X.fn y = true ∨ X.env.scope.names.lookup y = some .local)
    (hi : SE X C xi ie) (hs : PlainIx ie) (row : FnRow X C ex k CX nms is as) (hl : nms.length ≤ 100) (hle : PE X le (tFL (fun σ H => ∃ q, σ[j]? = some (some (.ref q)) ∧ H q = some (.lst (as.map V.ref))) (as'.map V.ref))) (row' : FnRow X C ex k CX nms' is' as')
    (hx : ∀ σ, PassesAt CX X σ (E σ)) (hr : Room k X.A) (ha : PA X (e :: es) (tAs X C xs)) (hns : ∀ y ∈ e :: es, NoStar y) (hW : ∀ kk σ H, C.W kk σ H → ex.1 = true ∧ E σ (ex.2 kk) none H) :
    PSs X [.Assign [.Name y p1] (.List nms p2) p3, .Return (some (.Call (.Subscript le ie p7) (e :: es) [] p8)) p9] (tSms X C (.cons (.retL j is' xi xs) r)) := by
  have l1 := row.len
  have h1 := ps_set (pos := p3) hN hj hx' (pe_fl (pos := p2) row.names (by omega)) hsw hf
  have h2 := pss_one (ps_ret (pos := p9) (pe_callE (pos := p8) (p2 := p7) hle hi hs row' hx hr ha hns hW))
  refine ⟨fun pins s σ H D I h => (pss_cons h1 h2).run pins s σ H D I ?_⟩
  obtain ⟨f, c, S, env, rel, post⟩ := h
  rw [exSs, exS] at post
  cases e0 : env[j]? with
  | none => rw [e0] at post; exact (show False from post).elim
  | some sl =>
    cases sl with
    | unb =>
      rw [e0] at post
      simp only at post
      have hjl : j < env.length := (List.getElem?_eq_some_iff.mp e0).1
      refine ⟨trivial, fun p H' hsub hp => ?_⟩
      have g0 : Gr f.T S H c S H' := ⟨fun _ _ q => q, fun b u q => hsub b u (rel.wf.inn b u q), fun b u _ q => hsub b u q, fun _ _ q => .inl q, hsub _ _ rel.wf.tH⟩
      have rel1 := rel.gr g0
      refine ⟨⟨p, List.getElem?_set_self (by rw [← rel.len]; exact hjl), hp⟩, f, c, S, env.set j .unb, rel1.unb, ?_⟩
      match ev : evE f.ns C.Φ C.gv (.callL is' xi xs) (env.set j .unb) c with
      | .ok (d, c1) =>
        rw [ev] at post
        exact fun S' H2 v g q => post S' H2 v (rel1.gr g).ent q
      | .exn kk c1 =>
        rw [ev] at post
        exact fun S' H2 g => post S' H2 _ (rel1.gr g).ent
      | .bad => rw [ev] at post; exact (show False from post).elim
    | _ => rw [e0] at post; exact (show False from post).elim
end
end LG

/-! LgFP: defs that give a container of their own away. -/
namespace LG
open PySem PySem.Spec PyProof.Rows L2
theorem execs_app {M : Model} {env : Env} {Γ : PySem.Ctx} {A : Around} (hΓ : Γ.In A) {b : List Stmt} {Q : Flow → Shared → Prop} {E : Value → Shared → Prop} : ∀ (a : List Stmt) (p : Pos) (s : Shared), Sem.wp M Γ (execs a env) (fun f _ s' => match f with | .next => wpAny M A (execs b env) Q E s' | f => Q f s') (fun e _ s' => E e s') p s → Sem.wp M Γ (execs (a ++ b) env) (fun f _ s' => Q f s') (fun e _ s' => E e s') p s
  | [], p, s, h => h Γ p hΓ
  | st :: a, p, s, h => by
    rw [execs_cons, Sem.wp_bind'] at h
    rw [List.cons_append, execs_cons, Sem.wp_bind']
    refine Sem.wp_mono M Γ _ (fun f p' s' h' => ?_) (fun _ _ _ h' => h') _ _ h
    cases f <;> first | exact execs_app hΓ a p' s' h' | exact h'
section
variable {X : Cx} {C : Cn} {pos : Pos}
theorem pss_app {a b : List Stmt} {t u : TS} (h1 : PSs X a t) (h2 : PSs X b u) : PSs X (a ++ b) (tSeq t u) := by
  refine ⟨fun pins s σ H D I h => ?_⟩
  have r := h1.run pins s σ H { D with nx := u D } I h
  refine fun Γ p hΓ => execs_app hΓ a p s (Sem.wp_mono _ Γ _ (fun f p' s1 q => ?_) (fun _ _ _ q => q) p s (r Γ p hΓ))
  cases f with
  | next =>
    obtain ⟨σ', H', I', q⟩ := q
    exact h2.run pins s1 σ' H' D I' q
  | ret v => exact q
  | brk => exact q
  | cont => exact q
/-- a def whose answer is new -/
def spFF (P : Program) (w : World) (K : PySem.W.Frag) (tw : Bool) (n : Nat) (F : List Int → List D → Nat → R (D × Nat)) : Sp := fun vs H Q E => ∃ (f : Fm) (c : Nat) (S : Hp) (ds : List D) (us : List V), f.wf K c S H ∧ Reps P w K S ds us ∧ ds.length = n ∧
  vs = (if tw then [.ref f.scr, .ref f.T] else []) ++ us ∧ PostF P w K f (fun _ _ => False) S H (F f.ns ds c) Q
structure CalOkF (X : Cx) (k : Nat) (x : Str) (c : Callee) (n : Nat) : Prop where
  ok : ∃ f fd ps, X.mg x = some (.ref f) ∧ PySem.W.keepIn X.K (.ref f) = true ∧ Binds X.K fd ps [] ∧ FnOk X.prog X.w X.K X.mg X.base CX0 k f fd ps (spFF X.prog X.w X.K c.tw n c.F)
theorem sf_callF {i n k : Nat} {xs : Exs} {x : Str} {pp : Pos} {e : Expr} {es : List Expr} {cl : Callee} (hW : ∀ k σ H, ¬ C.W k σ H) (hf : C.Φ[i]? = some cl) (htw : cl.tw = false) (G : CalOkF X k x cl n) (hn : ∀ ns ds c r, cl.F ns ds c = r → r ≠ .bad → ds.length = n)
    (hr : Room k X.A) (hg : Gl X x) (ha : PA X (e :: es) (tAs X C xs)) (hs : ∀ y ∈ e :: es, NoStar y) (hdb : (x == ("__debug__" : Str)) = false) : PE X (.Call (.Name x pp) (e :: es) [] pos) (tEF X C (.call i xs)) := by
  obtain ⟨f', fd, ps, hm, hk, hb, F⟩ := G.ok
  refine (pe_call (dvs := []) F hr hg hm hk hb .nil pass0 ha hdb (hs e (List.mem_cons_self ..) _ _) (backTo_false fun y hy => hs y (List.mem_cons_of_mem _ hy))).lgi fun σ H Q q => ?_
  obtain ⟨f, c, S, env, rel, post⟩ := q
  rw [evE] at post
  refine ⟨f, c, S, env, rel, post.thn rel.wf fun ds c1 S1 H1 vs _ g1 r1 post1 => ?_⟩
  rw [hf] at post1
  simp only [htw] at post1
  have post2 : PostF X.prog X.w X.K f (fun k H' => C.W k σ H') S1 H1 (cl.F f.ns ds c1) Q := post1
  rw [List.append_nil]
  have hne : cl.F f.ns ds c1 ≠ .bad := fun z => by rw [z] at post2; exact post2
  refine ⟨f, c1, S1, ds, vs, (rel.gr g1).wf, r1, hn _ _ _ _ rfl hne, by rw [htw]; rfl, ?_⟩
  match hF : cl.F f.ns ds c1 with
  | .ok (d, c2) => rw [hF] at post2; exact post2
  | .exn k c0 => rw [hF] at post2; exact fun S' H' g => hW _ _ _ (post2 S' H' g)
  | .bad => rw [hF] at post2; exact post2
end
section
variable {X : Cx} {C : Cn} {pos : Pos}
/-- a container of the frame's own is lent to a def that answers yes or no -/
theorem se_callB {i j n k : Nat} {xs : Exs} {x y : Str} {pp py : Pos} {es : List Expr} {cl : Callee} (hf : C.Φ[i]? = some cl) (htw : cl.tw = false) (G : CalOk X ex0 k CX0 x cl n) (hn : ∀ ns ds c r, cl.F ns ds c = r → r ≠ .bad → ds.length = n)
    (hr : Room k X.A) (hg : Gl X x) (hy : PE X (.Name y py) (tVar j)) (ha : PA X es (tAs X C xs)) (hs : ∀ z ∈ es, NoStar z) (hdb : (x == ("__debug__" : Str)) = false) : SE X C (.callB i j xs) (.Call (.Name x pp) (.Name y py :: es) [] pos) := by
  obtain ⟨f', fd, ps, hm, hk, hb, F⟩ := G.ok
  have ns0 : NoStar (.Name y py) := fun _ _ => rfl
  refine se_val ((pe_call (dvs := []) F hr hg hm hk hb .nil pass0 (pa_cons hy ha (ns0 _ _)) hdb (ns0 _ _) (backTo_false hs)).lgi fun σ H Q q => ?_)
  obtain ⟨f, c, S, env, rel, post⟩ := q
  rw [evE] at post
  cases e0 : env[j]? with
  | none => simp only [e0] at post; exact (show False from post).elim
  | some sl =>
    cases sl with
    | own d =>
      simp only [e0] at post
      obtain ⟨a, h1, _⟩ := rel.own j d e0
      refine ⟨.ref a, h1, f, c, S, env, rel, post.thn rel.wf fun ds c1 S1 H1 vs _ g1 r1 post1 => ?_⟩
      rw [hf] at post1
      simp only [htw] at post1
      have rel1 := rel.gr g1
      obtain ⟨a', k1, k2, k3, k4, k5⟩ := rel1.own j d e0
      rw [h1] at k1
      have z : a = a' := by simpa using k1
      subst z
      obtain ⟨S2, s1, s2, s3, rp⟩ := k5.share k2 rel1.wf.inn
      have wf2 : f.wf X.K c1 S2 H1 := ⟨s2, by
        cases e : S2 f.T with
        | none => rfl
        | some u =>
          rcases s3 _ _ e with z | z
          · rw [rel1.wf.tS] at z; cases z
          · exact absurd z.symm k3, rel1.wf.tH, SqL.sub s1 rel1.wf.sc, rel1.wf.ln⟩
      have post2 : Post f (fun k H' => C.W k σ H') (Rep X.prog X.w X.K) S1 H1 (match cl.F f.ns (d :: ds) c1 with | .ok (.bool b, c) => .ok (.bool b, c) | _ => .bad) Q := post1
      have hne : cl.F f.ns (d :: ds) c1 ≠ .bad := fun z => by rw [z] at post2; exact post2
      show spF X.prog X.w X.K ex0 cl.tw n cl.F ((V.ref a :: vs) ++ []) H1 Q E0
      rw [List.append_nil]
      refine ⟨f, c1, S2, d :: ds, .ref a :: vs, wf2, .cons rp (Reps.sub s1 r1), hn _ _ _ _ rfl hne, by rw [htw]; rfl, ?_⟩
      match hF : cl.F f.ns (d :: ds) c1 with
      | .ok (.bool b, c2) =>
        rw [hF] at post2
        intro S' H' v g q
        cases q
        exact post2 S1 H' _ ⟨fun _ _ q => q, fun b u q => g.inn b u (g.sub b u (s1 b u q)), g.same, fun _ _ q => .inl q, g.town⟩ (.bl _)
      | .exn k c0 => rw [hF] at post2; exact (show False from post2).elim
      | .bad => rw [hF] at post2; exact (show False from post2).elim
      | .ok (.none, c2) => rw [hF] at post2; exact (show False from post2).elim
      | .ok (.int _, c2) => rw [hF] at post2; exact (show False from post2).elim
      | .ok (.str _, c2) => rw [hF] at post2; exact (show False from post2).elim
      | .ok (.list _, c2) => rw [hF] at post2; exact (show False from post2).elim
      | .ok (.tuple _, c2) => rw [hF] at post2; exact (show False from post2).elim
      | .ok (.dict _, c2) => rw [hF] at post2; exact (show False from post2).elim
    | _ => simp only [e0] at post; exact (show False from post).elim
end
/-- what such a def computes: the container of slot i, after its text but the last statement -/
def runF (Φ : List Callee) (gv : List D) (tw : Bool) (n N : Nat) (pre : Sms) (i : Nat) : List Int → List D → Nat → R (D × Nat) := fun ns ds c =>
  if ds.length = n then
    match exSs ns Φ gv pre (startE tw N ds) c with
    | .ok (.next env, c) => (match env[i]? with
      | some (.own d) => .ok (d, c)
      | _ => .bad)
    | _ => .bad
  else .bad
/-- but the last two statements -/
def Sms.but2 : Sms → Sms
  | .cons _ (.cons _ .nil) => .nil
  | .cons a r => .cons a (Sms.but2 r)
  | .nil => .nil
theorem runF_len {Φ : List Callee} {gv : List D} {tw : Bool} {n N i : Nat} {pre : Sms} (ns : List Int) (ds : List D) (c : Nat) (r : R (D × Nat)) (h : runF Φ gv tw n N pre i ns ds c = r) (hb : r ≠ .bad) : ds.length = n := by
  unfold runF at h
  split at h
  · assumption
  · exact absurd h.symm hb
end LG

/-! LgFQ: making an object whose __init__ raises. -/
namespace LG
open PySem PySem.Spec PyProof.Rows L2
/-- an __init__ that raises as F does -/
def spI (P : Program) (w : World) (K : PySem.W.Frag) (ex : EV) (n : Nat) (F : List Int → List D → Nat → R (D × Nat)) : Sp := fun vs H Q E => ∃ (f : Fm) (c : Nat) (S : Hp) (ds : List D) (us : List V) (x : Addr), f.wf K c S H ∧ Reps P w K S ds us ∧ ds.length = n ∧ vs = .ref x :: us ∧
  match F f.ns ds c with
  | .exn k c0 => ∀ S' H', Gr f.T S H c0 S' H' → ex.1 = true ∧ E (ex.2 k) none H'
  | _ => False
/-- a class that may be made, of which only raising is known -/
structure MkOk (X : Cx) (ex : EV) (k : Nat) (x : Str) (c : Callee) (n : Nat) : Prop where
  ok : ∃ C fI fd ps j, X.mg x = some (.ref C) ∧ Mk X.K C fI ∧ Binds X.K fd ps [] ∧ j + 1 ≤ k ∧ FnOk X.prog X.w X.K X.mg X.base (L2.CX X.prog X.w) j fI fd ps (spI X.prog X.w X.K ex n c.F)
section
variable {X : Cx} {C : Cn} {pos : Pos}
theorem run_makeS {CX : CXT} {E : XK} {k : Nat} {Cl fI : Addr} {fd : FuncData} {ps : List Str} {sp : Sp} {pins : List (Addr × Obj)} {σ : L2.St} {H : Hp} {s : Shared} {Q : VK} {us : List Value} {vs : List V} (M : Mk X.K Cl fI) (F : FnOk X.prog X.w X.K X.mg X.base CX k fI fd ps sp) (hr : Room (k + 1) X.A) (hb : Binds X.K fd ps []) (hx : PassesAt CX X σ E) (I : Inv X pins σ H s) (r : Vals vs us)
    (h : ∀ x dx, H x = none → H dx = none → dx ≠ x → sp (.ref x :: vs) (upd (upd H dx (.own x)) x (.ins Cl dx [])) (fun v H2 => v = .non ∧ Q (.ref x) H2) E) : wpAny (model X.prog X.w) X.A (call (.ref Cl) us) (EP X pins σ Q) X.xe s := by
  have hq := h (s.heap.objs.size + 1) s.heap.objs.size (I.hok.fresh (Nat.le_succ _)) (I.hok.fresh (Nat.le_refl _)) (Nat.ne_of_lt (Nat.lt_succ_self _))
  have I2 := Inv.made (C := Cl) I
  have r2 : Vals (V.ref (s.heap.objs.size + 1) :: vs) (Value.ref (s.heap.objs.size + 1) :: us) := .cons rfl r
  have hl : (Value.ref (s.heap.objs.size + 1) :: us).length = ps.length := by rw [← r2.length]; exact F.len _ _ _ _ hq
  have b := hb { s with heap := (s.heap.push PySem.W.emptyDict).push (PySem.W.instObj Cl s.heap.objs.size) } (Value.ref (s.heap.objs.size + 1) :: us) I2.kIn (by rw [List.append_nil]; exact hl)
  rw [List.append_nil] at b
  refine wpAny_call (make_map (f := fI) I.kIn M.makes M.init (beq_iff_eq.mp M.fn) (codeAny_mono (F.run _ X.stack _ _ ⟨Value.ref (s.heap.objs.size + 1) :: us, []⟩ (Value.ref (s.heap.objs.size + 1) :: us) _ _ E (hr.make Cl us []) (I2.env0.make Cl us []) b r2 hq) fun r s' hq' => ?_))
  cases r with
  | error e => exact hx pins _ _ e s' I2 hq'
  | ok fl =>
    cases fl with
    | ret u =>
      obtain ⟨v, H', I3, rv, ev, q3⟩ := I2.after hq'
      subst ev
      exact ⟨rv, ⟨V.ref (s.heap.objs.size + 1), H', I3, rfl, q3⟩⟩
    | next => exact False.elim hq'
    | brk => exact False.elim hq'
    | cont => exact False.elim hq'
theorem se_mk {i n k : Nat} {xs : Exs} {x : Str} {pp : Pos} {e : Expr} {es : List Expr} {cl : Callee} {ex : EV} {W0 : WX} (tk : Takes X W0) (hW : ∀ k σ H, C.W k σ H → W0 (ex.2 k) none σ H) (hon : ex.1 = true) (hf : C.Φ[i]? = some cl) (htw : cl.tw = false) (G : MkOk X ex k x cl n) (hn : ∀ ns ds c r, cl.F ns ds c = r → r ≠ .bad → ds.length = n)
    (hr : Room k X.A) (hg : Gl X x) (ha : PA X (e :: es) (tAs X C xs)) (hs : ∀ y ∈ e :: es, NoStar y) (hdb : (x == ("__debug__" : Str)) = false) : SE X C (.mk i xs) (.Call (.Name x pp) (e :: es) [] pos) := by
  obtain ⟨Cl, fI, fd, ps, j, hm, M, hb, hj, F⟩ := G.ok
  refine se_val ⟨fun pins s σ H Q I q => ?_⟩
  obtain ⟨f, c, S, env, rel, post⟩ := q
  rw [evE] at post
  refine wpAny_Call_Name_kw (ld_glob I hg hm ?_ hdb)
  refine PySem.W.callWith_K (h₀ := X.base) I.ok.mod.kin M.kp (thn (ha.run pos pins s σ H (fun vs H1 => ∃ c1 S1 ds, f.wf X.K c1 S1 H1 ∧ Reps X.prog X.w X.K S1 ds vs ∧ ds.length = n ∧ ∃ k c0, cl.F f.ns ds c1 = .exn k c0 ∧ ∀ S' H', Gr f.T S1 H1 c0 S' H' → C.W k σ H') I ⟨f, c, S, env, rel, post.thn rel.wf fun ds c1 S1 H1 vs _ g1 r1 post1 => ?_⟩) fun us s1 ⟨vs, H1, I1, r, c1, S1, ds, wf1, r1, l1, kk, c0, eF, hw⟩ => ⟨I1.kIn, ?_⟩) (hs e (List.mem_cons_self ..) _ _) (backTo_false fun y hy => hs y (List.mem_cons_of_mem _ hy))
  · rw [hf] at post1
    simp only [htw] at post1
    match hF : cl.F f.ns ds c1 with
    | .exn kk c0 =>
      have post2 : Post f (fun k H' => C.W k σ H') (Rep X.prog X.w X.K) S1 H1 (match cl.F f.ns ds c1 with | .exn k c0 => .exn k c0 | _ => .bad) Q := post1
      rw [hF] at post2
      exact ⟨c1, S1, ds, (rel.gr g1).wf, r1, hn _ _ _ _ hF (fun z => nomatch z), kk, c0, hF, post2⟩
    | .ok _ =>
      have post2 : Post f (fun k H' => C.W k σ H') (Rep X.prog X.w X.K) S1 H1 (match cl.F f.ns ds c1 with | .exn k c0 => .exn k c0 | _ => .bad) Q := post1
      rw [hF] at post2
      exact (show False from post2).elim
    | .bad =>
      have post2 : Post f (fun k H' => C.W k σ H') (Rep X.prog X.w X.K) S1 H1 (match cl.F f.ns ds c1 with | .exn k c0 => .exn k c0 | _ => .bad) Q := post1
      rw [hF] at post2
      exact (show False from post2).elim
  · refine run_makeS (E := WE W0 σ) M F (hr.mono hj) hb (passAt tk σ) I1 r fun xa dx hx hdx hne => ?_
    have sub : Sub H1 (upd (upd H1 dx (.own xa)) xa (.ins Cl dx [])) := fun b u q => by
      rw [upd_ne (ne_of_none q hx), upd_ne (ne_of_none q hdx)]
      exact q
    have g0 : Gr f.T S1 H1 c1 S1 (upd (upd H1 dx (.own xa)) xa (.ins Cl dx [])) := ⟨fun _ _ q => q, fun b u q => sub b u (wf1.inn b u q), fun b u _ q => sub b u q, fun _ _ q => .inl q, sub _ _ wf1.tH⟩
    refine ⟨f, c1, S1, ds, vs, xa, wf1.gr g0, r1, l1, rfl, ?_⟩
    rw [eF]
    exact fun S' H' g => ⟨hon, hW _ _ _ (hw S' H' (g0.trans wf1 g))⟩
end
end LG

/-! LgFR: for x in f(l.pop()); numbers counted in a dict, sorted(d.items()). -/
namespace LG
open PySem PySem.Spec PyProof.Rows L2
section
variable {X : Cx} {C : Cn} {pos : Pos}
/-- a loop whose items come as they come -/
theorem ss_forG {tg iter : Expr} {body : List Stmt} {xt : Tg} {xb : Sms} {ti : TI} {t' : TS} (hp : PassesOwn (model X.prog X.w) X.A X.env X.xe) (hc : X.calm = true) (hi : PI X tg iter ti) (hg : PG X tg (tG X xt)) (hb : PSs X body (tSms X C xb)) (hs : ∀ x, foldedSetIterable iter X.env x = pure x)
    (key : ∀ D σ H, t' D σ H → ti σ H fun J H1 => ∃ f ds c1 S1 env1, Rel X.prog X.w X.K f c1 S1 H1 env1 σ ∧ Yields X S1 ds J ∧ PostS X.prog X.w X.K f C.W (forL xt (fun env c => exSs f.ns C.Φ C.gv xb env c) ds env1 c1) D) (mono : ∀ σ H {R R' : L2.It → Hp → Prop}, (∀ J H1, R J H1 → R' J H1) → ti σ H R → ti σ H R') :
    PS X (.For tg iter body [] pos) t' := (ps_for hp hc hi hg hb hs).lgi fun D σ H q => by
  refine mono σ H (fun J H1 q1 => ?_) (key D σ H q)
  obtain ⟨f, ds, c1, S1, env, rel1, Y, post1⟩ := q1
  refine ⟨fun i m σ2 H2 => m = ds.length - i ∧ i ≤ ds.length ∧ ∃ c2 S2 env2, Rel X.prog X.w X.K f c2 S2 H2 env2 σ2 ∧ Sub S1 S2 ∧ PostS X.prog X.w X.K f C.W (forL xt (fun env c => exSs f.ns C.Φ C.gv xb env c) (ds.drop i) env2 c2) D,
    ⟨ds.length, rfl, Nat.zero_le _, c1, S1, env, rel1, fun _ _ h => h, by rw [List.drop_zero]; exact post1⟩, ?_⟩
  rintro i m σ2 H2 ⟨rfl, hi, c2, S2, env2, rel2, hsub, k5⟩
  by_cases hlt : i < ds.length
  · have hget : ds[i]? = some ds[i] := List.getElem?_eq_getElem hlt
    rw [List.drop_eq_getElem_cons hlt] at k5
    obtain ⟨hgo, hy⟩ := Y.go i ds[i] S2 H2 hget hsub rel2.wf.inn
    refine .inr ⟨hgo, fun σ3 H3 => ∃ c2 S2 env2, Rel X.prog X.w X.K f c2 S2 H3 env2 σ3 ∧ Sub S1 S2 ∧ PostS X.prog X.w X.K f C.W (forL xt (fun env c => exSs f.ns C.Φ C.gv xb env c) (ds.drop (i + 1)) env2 c2) D,
      fun σ3 H3 h3 => ⟨ds.length - (i + 1), by omega, rfl, hlt, h3⟩, fun v H3 y => ?_⟩
    obtain ⟨S3, e3, r3⟩ := hy v H3 y
    have rel3 := rel2.gr (e3.gr rel2.wf)
    simp only [forL] at k5
    cases eT : asgT xt ds[i] env2 with
    | none => simp only [eT] at k5; exact (show False from k5).elim
    | some env3 =>
      simp only [eT] at k5
      refine ⟨f, c2, S3, env2, ds[i], env3, rel3, r3, eT, fun σ4 rel4 _ => ⟨f.mark S1, c2, S3, env3, rel4.mark fun a o h => e3.sub a o (hsub a o h), ?_⟩⟩
      exact PostS.turn rel1.low k5 fun env5 c5 S5 H5 σ5 rel5 h5 k6 => ⟨c5, S5, env5, rel5, h5, k6⟩
  · have e : i = ds.length := by omega
    subst e
    rw [List.drop_length] at k5
    exact .inl ⟨Y.stop _ S2 H2 (Nat.le_refl _) hsub rel2.wf.inn, k5 S2 H2 σ2 rel2⟩
theorem Reps.dropLast {P : Program} {w : World} {K : PySem.W.Frag} {S : Hp} {ds : List D} {vs : List V} (r : Reps P w K S ds vs) : Reps P w K S ds.dropLast vs.dropLast := by
  have h := r.take (ds.length - 1)
  rw [List.dropLast_eq_take, List.dropLast_eq_take, ← r.length]
  exact h
theorem ss_forP {i j n k : Nat} {x y : Str} {tg : Expr} {body : List Stmt} {xt : Tg} {xb : Sms} {cl : Callee} {p pp apos cpos cp2 : Pos} {t' : TS} (hp : PassesOwn (model X.prog X.w) X.A X.env X.xe) (hc : X.calm = true) (hf : C.Φ[j]? = some cl) (htw : cl.tw = false) (G : CalOk X ex0 k CX0 x cl n) (hn : ∀ ns ds c r, cl.F ns ds c = r → r ≠ .bad → ds.length = n) (hr : Room k X.A) (hg : Gl X x) (hdb : (x == ("__debug__" : Str)) = false)
    (hy : PE X (.Name y p) (tVar i)) (hl : (apos.endLine == cpos.line) = true) (hgt : PG X tg (tG X xt)) (hb : PSs X body (tSms X C xb))
    (ht : ∀ D σ H, t' D σ H → ∃ f c S env, Rel X.prog X.w X.K f c S H env σ ∧ PostS X.prog X.w X.K f C.W (forPR f.ns C.Φ C.gv xt j i (fun env c => exSs f.ns C.Φ C.gv xb env c) env c) D) :
    PS X (.For tg (.Call (.Name x pp) [.Call (.Attribute (.Name y p) "pop" apos) [] [] cpos] [] cp2) body [] pos) t' := by
  obtain ⟨f', fd, ps, hm, hk, hbn, F⟩ := G.ok
  have hpop := pe_bm0 (X := X) (cpos := cpos) PySem.F.plainAttrs_list PySem.F.slot_list_pop PySem.F.type_list_pop mt_pop hy rfl hl
  have hcall := pe_call (p := pp) (pos := cp2) (dvs := []) F hr hg hm hk hbn .nil pass0 (pa_cons hpop pa_nil rfl) hdb rfl rfl
  refine ss_forG hp hc (pi_list hcall) hgt hb (fun _ => rfl) (fun D σ H q => ?_) (fun σ H R R' hR => ?_)
  · obtain ⟨f, c, S, env, rel, post⟩ := ht D σ H q
    unfold forPR at post
    cases e0 : env[i]? with
    | none => simp only [e0] at post; exact (show False from post).elim
    | some sl =>
      cases sl with
      | own dd =>
        cases dd with
        | list ds =>
          simp only [e0] at post
          obtain ⟨a, vs, h1, h2, h3, h4, h5, h6, h7⟩ := rel.ownL e0
          cases el : ds.getLast? with
          | none => rw [el] at post; exact (show False from post).elim
          | some d =>
            rw [el, hf] at post
            simp only [htw] at post
            have hlast : ds[ds.length - 1]? = some d := by rw [← List.getLast?_eq_getElem?]; exact el
            obtain ⟨v, hv, rv⟩ := h7.get hlast
            refine ⟨.ref a, h1, .inl ⟨rfl, vs, SqL.of h5⟩, a, vs, v, rfl, rfl, h5, by rw [← h7.length]; exact hv, ?_⟩
            have rel1 : Rel X.prog X.w X.K f c S (upd H a (.lst vs.dropLast)) (env.set i (.own (.list ds.dropLast))) σ := rel.write e0 h1 (.lst upd_same (by rw [List.length_dropLast]; omega) h7.dropLast)
            match eF : cl.F f.ns [d] c with
            | .bad => rw [eF] at post; exact (show False from post).elim
            | .exn k c0 => rw [eF] at post; exact (show False from post).elim
            | .ok (r, c1) =>
              rw [eF] at post
              cases r with
              | list xs =>
                refine ⟨f, c, S, [d], [v], rel1.wf, .cons rv .nil, hn _ _ _ _ eF (fun z => nomatch z), by rw [htw]; rfl, ?_⟩
                rw [eF]
                intro S1 H1 w1 g1 r1
                cases r1 with
                | lst e l t =>
                  have rel2 := rel1.gr g1
                  exact ⟨_, rfl, ⟨_, SqL.of (rel2.wf.inn _ _ e)⟩, f, xs, c1, S1, _, rel2, yields_list e l t, post⟩
              | _ => exact (show False from post).elim
        | _ => simp only [e0] at post; exact (show False from post).elim
      | _ => simp only [e0] at post; exact (show False from post).elim
  · rintro ⟨v, h1, h2, l, xs, y, e1, e2, e3, e4, hq⟩
    refine ⟨v, h1, h2, l, xs, y, e1, e2, e3, e4, ?_⟩
    obtain ⟨f, c, S, ds, us, k1, k2, k3, k4, k5⟩ := hq
    refine ⟨f, c, S, ds, us, k1, k2, k3, k4, ?_⟩
    exact k5.imp fun v H1 ⟨a, z1, z2, z3⟩ => ⟨a, z1, z2, hR _ _ z3⟩
end
/-! ### sorted(d.items()) of a dict of numbers -/
abbrev entK (p : Int × Int) : L2.Key × V := (.inl p.1, .int p.2)
section
variable {X : Cx}
def rItemsK : V → List V → Hp → VK → Prop := fun x xs H Q => ∃ a kvs, x = .ref a ∧ xs = [] ∧ H a = some (.dK kvs) ∧ ∀ p, H p = none → Q (.ref p) (upd H p (L2.DX.itemsO p a))
theorem mt_itemsK : MtR X "dict.items" rItemsK := by
  intro pins s σ H x xs v us Q I rx rs h
  obtain ⟨a, kvs, rfl, rfl, ha, q⟩ := h
  cases rx
  cases rs
  obtain ⟨_, hd, vs, _, ob, es, ep, e1, e2, e3, e4⟩ := I.hok a _ ha
  refine DT.callItems (es := es) (ep := ep) hd ⟨ob, e1, e2, e3⟩ ?_
  have hp : H s.heap.objs.size = none := I.hok.fresh (Nat.le_refl _)
  exact ⟨.ref s.heap.objs.size, _, I.laid (t' := s.toks) (fun _ _ q => Heap.get?_push_of_some _ q) (Nat.le_refl _) (L2.DX.itemsO_ok (Heap.get?_push_size _ rfl)), rfl, q _ hp⟩

theorem pairs_at {P : Program} {w : World} : ∀ {es : List DictEntry} {ps : List (Int × Int)} {vs : List (L2.Key × Value)}, PySem.Pairs (mixKind P w) es vs → L2.KV (ps.map entK) vs → es.length = ps.length ∧ ∀ (j : Nat) (e : DictEntry) (p : Int × Int), es[j]? = some e → ps[j]? = some p → ∃ t u, e.key = Value.int p.1 t ∧ e.val = Value.int p.2 u
  | _, ps, _, .nil, h2 => by
    cases ps with
    | nil => exact ⟨rfl, fun j e p h => by simp at h⟩
    | cons p ps => cases h2
  | _, ps, _, .cons hk hv h1, h2 => by
    cases ps with
    | nil => cases h2
    | cons p ps =>
      cases h2 with
      | cons f h2 =>
        obtain ⟨l, ih⟩ := pairs_at h1 h2
        refine ⟨by simp [l], fun j e q he hq => ?_⟩
        cases j with
        | zero =>
          simp only [List.getElem?_cons_zero, Option.some.injEq] at he hq
          subst he
          subst hq
          obtain ⟨f1, u, f2⟩ := f
          rw [← f1] at hk
          have hk' : Value.isInt p.1 _ = true := hk
          rename_i e0 kv0 _ _
          have : ∃ t, e0.key = Value.int p.1 t := by
            revert hk'
            cases e0.key <;> intro hk' <;> simp [Value.isInt] at hk'
            exact ⟨_, by rw [hk']⟩
          obtain ⟨t, ht⟩ := this
          exact ⟨t, u, ht, by rw [hv]; exact f2⟩
        | succ j =>
          simp only [List.getElem?_cons_succ] at he hq
          exact ih j e q he hq
def isPairAt (H H2 : Hp) (u : Value) (d : D) : Prop := ∃ (a : Addr) (q : Int × Int), u = .ref a ∧ H a = none ∧ d = pairI q ∧ H2 a = some (.tup [.int q.1, .int q.2])
theorem pairs_reps {P : Program} {w : World} {K : PySem.W.Frag} {H H2 : Hp} : ∀ {us : List Value} {ds : List D}, PySem.W.EachIs (isPairAt H H2) us ds → ∃ ts : List Addr, Vals (ts.map V.ref) us ∧ (∀ t ∈ ts, H t = none ∧ H2 t ≠ none) ∧ ∀ S' : Hp, (∀ t ∈ ts, S' t = H2 t) → Reps P w K S' ds (ts.map V.ref)
  | _, _, .nil => ⟨[], .nil, fun t ht => absurd ht (List.not_mem_nil), fun _ _ => .nil⟩
  | _, _, .cons ⟨a, q, e1, e2, e3, e4⟩ t => by
    obtain ⟨ts, h1, h2, h3⟩ := pairs_reps (P := P) (w := w) (K := K) t
    refine ⟨a :: ts, .cons (by subst e1; rfl) h1, fun t ht => ?_, fun S' hS => ?_⟩
    · rcases List.mem_cons.mp ht with rfl | ht
      · exact ⟨e2, by rw [e4]; exact fun z => nomatch z⟩
      · exact h2 t ht
    · subst e3
      exact .cons (.tup (.inl (.inl (by rw [hS a (List.mem_cons_self ..)]; exact e4))) (show 2 ≤ LIM by decide) (.cons (.int _) (.cons (.int _) .nil))) (h3 S' fun t ht => hS t (List.mem_cons_of_mem _ ht))
theorem each_made {H H2 : Hp} : ∀ {as : List Addr} {ps : List (Int × Int)}, as.length = ps.length → (∀ (j : Nat) (a : Addr) (q : Int × Int), as[j]? = some a → ps[j]? = some q → H a = none ∧ H2 a = some (.tup [.int q.1, .int q.2])) → PySem.W.EachIs (isPairAt H H2) (as.map Value.ref) (ps.map pairI)
  | [], [], _, _ => .nil
  | a :: as, p :: ps, hl, h => .cons ⟨a, p, rfl, (h 0 a p rfl rfl).1, rfl, (h 0 a p rfl rfl).2⟩ (each_made (by simpa using hl) fun j b q hb hq => h (j + 1) b q (by simpa using hb) (by simpa using hq))
theorem each_reads {pins : List (Addr × Obj)} {σ : L2.St} {H H2 : Hp} {s : Shared} (I : Inv X pins σ H2 s) {us : List Value} {ds : List D} (h : PySem.W.EachIs (isPairAt H H2) us ds) : PySem.W.EachIs (fun u d => ∃ as, Reads s.heap u (id d) as) us ds := by
  obtain ⟨ts, h1, h2, h3⟩ := pairs_reps (P := X.prog) (w := X.w) (K := X.K) h
  refine each_of I (h3 H2 fun _ _ => rfl) h1 fun d hd => ?_
  have : ∀ {us : List Value} {ds : List D}, PySem.W.EachIs (isPairAt H H2) us ds → ∀ d ∈ ds, PyData.canLay0 d = true := by
    intro us ds h
    induction h with
    | nil => exact fun d hd => absurd hd (List.not_mem_nil)
    | cons a t ih =>
      intro d hd
      rcases List.mem_cons.mp hd with rfl | hd
      · obtain ⟨_, q, _, _, e, _⟩ := a
        rw [e]
        rfl
      · exact ih d hd
  exact this h d hd
def rSortIK (X : Cx) : List V → Hp → VK → Prop := fun vs H Q => ∃ (p a : Addr) (ps : List (Int × Int)), vs = [.ref p] ∧ H p = some (L2.DX.itemsO p a) ∧ H a = some (.dK (ps.map entK)) ∧ ps.length ≤ LIM ∧ sortableD (ps.map pairI) = true ∧
  ∀ (H' : Hp) (l : Addr) (ts : List Addr), (∀ b o, H b = some o → H' b = some o) → H l = none → (∀ t ∈ ts, H t = none) → H' l = some (.lst (ts.map V.ref)) → (∀ S' : Hp, (∀ t ∈ ts, S' t = H' t) → Reps X.prog X.w X.K S' (isortD (ps.map pairI)) (ts.map V.ref)) → Q (.ref l) H'
theorem cr_sortIK (hc : X.calm = true) (hu : X.A.units + 200 < cLine) : CallR X (.builtin "sorted") (rSortIK X) := by
  intro pins s σ H vs us Q I r h
  obtain ⟨p, a, ps, rfl, hp, ha, hl, hso, q⟩ := h
  obtain rfl := Vals.ref1 r
  have view : s.heap.IsItemsView p a := (show ObjOk X.prog X.w H s.heap p (L2.DX.itemsO p a) from I.hok p _ hp).1
  obtain ⟨_, hd, vs, rel, ob, es, ep, e1, e2, e3, e4, e5, e6⟩ := (show ObjOk X.prog X.w H s.heap a (.dK (ps.map entK)) from I.hok a _ ha)
  obtain ⟨hlen, hat⟩ := pairs_at e5 rel
  rw [Array.length_toList] at hlen
  have so := sortable_of hso
  refine sorted_from (enc := id) (β := D) fun E' => ?_
  refine DT.collectI (A := X.A.in1) (es := es) (ep := ep) (I.ok.hd hc) view ⟨ob, e1, e2, e3⟩ (by have := LIM_le; omega) fun h1 tk as hk hlt hl1 hG => ?_
  have nd : as.Nodup := List.Pairwise.imp (fun h => Nat.ne_of_lt h) hG.rise
  have I1 : Inv X pins σ H { s with heap := h1, toks := tk } := I.kept hk
  have la : as.length = ps.length := by omega
  have base : ∀ a ∈ as, s.heap.objs.size ≤ a := fun a h => Nat.le_of_lt (hG.above a h)
  obtain ⟨H2, I2, old, tups⟩ := L2.DX.takeT (P := fun a vs => ∀ (j : Nat) (q : Int × Int), as[j]? = some a → ps[j]? = some q → vs = [.int q.1, .int q.2]) I as H I1 nd fun a h => by
    obtain ⟨j, hj⟩ := List.mem_iff_getElem?.mp h
    have hjl : j < as.length := (List.getElem?_eq_some_iff.mp hj).1
    obtain ⟨e, he, hg⟩ := hG.pairs j a hj
    have hq : ps[j]? = some (ps[j]'(by omega)) := List.getElem?_eq_getElem (by omega)
    obtain ⟨t, u, k1, k2⟩ := hat j e _ (by rw [Array.getElem?_toList]; exact he) hq
    refine ⟨base a h, I.hok.fresh (base a h), [.int (ps[j]'(by omega)).1, .int (ps[j]'(by omega)).2], fun j' q hj' hq' => ?_, fun H3 => ⟨show 2 ≤ sizeLine by decide, [Value.int _ t, Value.int _ u], .cons ⟨t, rfl⟩ (.cons ⟨u, rfl⟩ .nil), _, hg, rfl, 0, by rw [k1, k2]⟩⟩
    have ej : j' = j := by
      have := (List.getElem?_inj hjl nd).mp (hj.trans hj'.symm)
      exact this.symm
    subst ej
    rw [hq] at hq'
    cases hq'
    rfl
  have made := each_made (H := H) (H2 := H2) la fun j a q hj hq => by
    have hm := List.mem_of_getElem? hj
    obtain ⟨vs, hv, hH⟩ := tups a hm
    rw [hv j q hj hq] at hH
    exact ⟨I.hok.fresh (base a hm), hH⟩
  refine ⟨isPairAt H H2, h1, tk, ps.map pairI, rfl, by have := LIM_le; rw [List.length_map]; omega, made, each_reads I2 made, so.1, so.2.1, fun d hd => by have := (so.2.2 d hd).1; show X.A.units + 2 + d.depth < cLine; omega, fun out h2 ep' ho he hk2 hep => ?_⟩
  rw [← isortD_eq] at he
  obtain ⟨ts, t1, t2, t3⟩ := pairs_reps (P := X.prog) (w := X.w) (K := X.K) he
  have hlo : (ts.map V.ref).length ≤ sizeLine := by
    have := t1.length
    have := LIM_le
    rw [List.length_map] at ho
    omega
  have hfr : H2 h1.objs.size = none := I2.hok.fresh (Nat.le_refl _)
  have I3 : Inv X pins σ (upd H2 h1.objs.size (.lst (ts.map V.ref))) { s with heap := h2, toks := tk } := I2.laid (t' := tk) hk2 (Nat.le_refl _) ⟨hlo, out, ep', t1, hep⟩
  refine ⟨.ref h1.objs.size, _, I3, rfl, q _ _ ts (fun b o e => ?_) (I.hok.fresh (Nat.le_of_lt hlt)) (fun t ht => (t2 t ht).1) upd_same fun S' hS => t3 S' fun t ht => ?_⟩
  · rw [upd_ne (ne_of_none (old b o e) hfr)]; exact old b o e
  · rw [hS t ht, upd_ne (fun z => (t2 t ht).2 (by rw [z]; exact hfr))]
end
theorem valV_ent (k : Int) : ∀ acc : List (Int × Int), valV (acc.map entK) (Sum.inl k : L2.Key) = (valI acc k).map V.int
  | [] => rfl
  | p :: r => by
    have ih := valV_ent k r
    unfold valV valI at ih ⊢
    simp only [List.map_cons, List.find?_cons]
    by_cases h : p.1 = k
    · rw [decide_eq_true h, decide_eq_true (show (entK p).1 = Sum.inl k from by rw [← h])]
      rfl
    · rw [decide_eq_false h, decide_eq_false (show ¬ (entK p).1 = Sum.inl k from fun z => h (Sum.inl.inj z))]
      exact ih
theorem putK_ent (k v : Int) (acc : List (Int × Int)) : putK (acc.map entK) (Sum.inl k : L2.Key) (V.int v) = (if (acc.any fun p => decide (p.1 = k)) = true then acc.map (fun p => if p.1 = k then (p.1, v) else p) else acc ++ [(k, v)]).map entK := by
  unfold putK
  have ha : ((acc.map entK).any fun kv => decide (kv.1 = (Sum.inl k : L2.Key))) = acc.any fun p => decide (p.1 = k) := by
    rw [List.any_map]
    congr 1
    funext p
    by_cases h : p.1 = k
    · rw [decide_eq_true h]
      exact decide_eq_true (show (entK p).1 = Sum.inl k from by rw [← h])
    · rw [decide_eq_false h]
      exact decide_eq_false (show ¬ (entK p).1 = Sum.inl k from fun z => h (Sum.inl.inj z))
  rw [ha]
  split
  · rw [List.map_map, List.map_map]
    refine List.map_congr_left fun p _ => ?_
    show (if (entK p).1 = Sum.inl k then ((entK p).1, V.int v) else entK p) = entK (if p.1 = k then (p.1, v) else p)
    by_cases h : p.1 = k
    · rw [if_pos h, if_pos (show (entK p).1 = Sum.inl k from by rw [← h])]
    · rw [if_neg h, if_neg (show ¬ (entK p).1 = Sum.inl k from fun z => h (Sum.inl.inj z))]
  · rw [List.map_append]
    rfl
theorem put_bump (k : Int) (acc : List (Int × Int)) : putK (acc.map entK) (Sum.inl k : L2.Key) (V.int ((valI acc k).getD 0 + 1)) = (bumpI acc k).map entK := putK_ent k _ acc
theorem bump_len (acc : List (Int × Int)) (k : Int) : (bumpI acc k).length ≤ acc.length + 1 := by
  unfold bumpI
  split
  · rw [List.length_map]; omega
  · rw [List.length_append]; exact Nat.le_refl _
theorem noOwn_at {env : En} (h : noOwn env = true) (j : Nat) (d : D) : env[j]? ≠ some (.own d) := fun e => by
  have := List.all_eq_true.mp h _ (List.mem_of_getElem? e)
  cases this
/-- a thing that only this frame knows is changed -/
theorem Rel.poke {P : Program} {w : World} {K : PySem.W.Frag} {f : Fm} {c : Nat} {S H : Hp} {env : En} {σ : Sg} (x : Rel P w K f c S H env σ) (hn : noOwn env = true) {a : Addr} {o : HO} (h2 : S a = none) (h3 : a ≠ f.T) (h4 : f.H0 a = none) : Rel P w K f c S (upd H a o) env σ := by
  have inn : Sub S (upd H a o) := fun b u q => by
    have ne : b ≠ a := fun z => by rw [z, h2] at q; cases q
    rw [upd_ne ne]; exact x.wf.inn b u q
  exact ⟨⟨inn, x.wf.tS, by rw [upd_ne h3.symm]; exact x.wf.tH, x.wf.sc, x.wf.ln⟩, x.wf0, ⟨x.ent.sub, inn, fun b u nb q => by
      have ne : b ≠ a := fun z => by rw [z, h4] at q; cases q
      rw [upd_ne ne]; exact x.ent.same b u nb q, x.ent.new, by rw [upd_ne h3.symm]; exact x.wf.tH⟩, x.low, x.len, x.val, x.scr, x.twn, fun j d e => (noOwn_at hn j d e).elim, x.dist⟩
structure Lone (f : Fm) (S H : Hp) (a : Addr) (acc : List (Int × Int)) : Prop where
  s : S a = none
  t : a ≠ f.T
  h0 : f.H0 a = none
  h : H a = some (.dK (acc.map entK))
theorem Lone.gr {f : Fm} {S H S' H' : Hp} {c' : Nat} {a : Addr} {acc : List (Int × Int)} (l : Lone f S H a acc) (g : Gr f.T S H c' S' H') : Lone f S' H' a acc where
  s := by
    cases q : S' a with
    | none => rfl
    | some o =>
      rcases g.new a o q with z | z
      · rw [l.s] at z; cases z
      · rw [l.h] at z; cases z
  t := l.t
  h0 := l.h0
  h := g.same _ _ l.t l.h
section
variable {X : Cx} {C : Cn} {pos : Pos}
theorem sss_spr {i j : Nat} {y z : Str} {tg iter e : Expr} {xt : Tg} {it : Itx} {xe : Ex} {m1 m2 : Nat} {p1 p2 p3 q1 q2 r1 r2 r3 r4 r5 r6 r7 r8 r9 r10 r11 pf s1 s2 s3 s4 s5 s6 : Pos} {t' : TS}
    (hu : X.A.units + 200 < cLine) (hp : PassesOwn (model X.prog X.w) X.A X.env X.xe) (hc : X.calm = true) (hN : X.N.Nodup) (hi : X.N[i]? = some y) (hj : X.N[j]? = some z) (hij : i ≠ j) (hit : i ∉ tgN xt) (hyl : Loc X.env.scope y) (hyf : X.fn y = true ∨ X.env.scope.names.lookup y = some .local)
    (hzl : Loc X.env.scope z) (hzf : X.fn z = true ∨ X.env.scope.names.lookup z = some .local) (hy : ∀ p, PE X (.Name y p) (tVar i)) (hz : ∀ p, PE X (.Name z p) (tVar j)) (hI : PI X tg iter (tI X C it)) (hgt : PG X tg (tG X xt)) (hs : ∀ x, foldedSetIterable iter X.env x = pure x) (he : SE X C xe e)
    (hse : swapsWith e (some (.Name z q1)) q2.line X.env = pure false) (hl1 : (r5.endLine == r8.line) = true) (hl2 : (s3.endLine == s4.line) = true) (hgs : Gl X "sorted") (hms : X.mg "sorted" = none)
    (ht : ∀ D σ H, t' D σ H → ∃ f c S env, Rel X.prog X.w X.K f c S H env σ ∧ PostS X.prog X.w X.K f C.W (sprR xt i j (fun env c => evI f.ns C.Φ C.gv it env c) (fun env c => evE f.ns C.Φ C.gv xe env c) env c) D) :
    PSs X [.Assign [.Name y p1] (.Dict [] [] p2) p3, .For tg iter [.Assign [.Name z q1] e q2, .Assign [.Subscript (.Name y r1) (.Name z r2) r3] (.BinOp (.Call (.Attribute (.Name y r4) "get" r5) [.Name z r6, .Constant (.int 0) m1 r7] [] r8) .Add (.Constant (.int 1) m2 r9) r10) r11] [] pf,
      .Return (some (.Call (.Name "sorted" s1) [.Call (.Attribute (.Name y s2) "items" s3) [] [] s4] [] s5)) s6] t' := by
  have h1 := ps_set (pos := p3) (pos' := p1) hN hi hyl (pe_dnewK (pos := p2)) rfl hyf
  have b1 := ps_set (pos := q2) (pos' := q1) hN hj hzl he.pe hse hzf
  have hget := pe_dget2 (cpos := r8) (by omega) (hy r4) (hz r6) (pe_int (i := 0) (j := m1) (pos := r7)) ⟨rfl, rfl, hl1, rfl⟩
  have b2 := ps_asg (pos := r11) (pe_op (pos := r10) op_add hget (pe_int (i := 1) (j := m2) (pos := r9))) (pg_sub (pos := r3) (hy r1) (hz r2) (set_dict (by omega)) (fun _ => rfl)) rfl rfl rfl
  have h2 := ps_for (pos := pf) hp hc hI hgt (pss_cons b1 (pss_cons b2 pss_nil)) hs
  have hitm := pe_bm0 (X := X) (cpos := s4) PySem.F.plainAttrs_dict PySem.F.slot_dict_items PySem.F.type_dict_items mt_itemsK (hy s2) rfl hl2
  have h3 := ps_ret (pos := s6) (pe_callB (p := s1) (pos := s5) (cr_sortIK hc hu) hgs hms PyProof.Rows.boot_sorted (pa_cons hitm pa_nil rfl) (by decide) (by decide) rfl rfl)
  refine (pss_cons h1 (pss_cons h2 (pss_cons h3 pss_nil))).lgi fun D σ H q => ?_
  obtain ⟨f, c, S, env, rel, post⟩ := ht D σ H q
  unfold sprR at post
  split at post
  case isFalse => exact (show False from post).elim
  rename_i hno
  rw [Bool.and_eq_true, decide_eq_true_eq] at hno
  obtain ⟨hno, hie⟩ := hno
  intro a hp0
  have g0 := rel.wf.laid hp0 (.dK [])
  have aT : a ≠ f.T := fun z => by rw [z, rel.wf.tH] at hp0; cases hp0
  have rel0 : Rel X.prog X.w X.K f c S (upd H a (.dK [])) (env.set i .unb) (σ.set i (some (.ref a))) := (rel.gr g0).unb
  have hσ0 : (σ.set i (some (V.ref a)))[i]? = some (some (.ref a)) := List.getElem?_set_self (by rw [← rel.len]; exact hie)
  have lone0 : Lone f S (upd H a (.dK [])) a [] := by
    refine ⟨?_, aT, ?_, upd_same⟩
    · cases e : S a with
      | none => rfl
      | some o => rw [rel.wf.inn _ _ e] at hp0; cases hp0
    · cases e : f.H0 a with
      | none => rfl
      | some o => rw [rel.ent.same _ _ aT e] at hp0; cases hp0
  have no0 : noOwn (env.set i .unb) = true := by
    refine List.all_eq_true.mpr fun x hx => ?_
    rcases List.mem_or_eq_of_mem_set hx with h | h
    · exact List.all_eq_true.mp hno x h
    · subst h; rfl
  refine ⟨f, c, S, env.set i .unb, rel0, PostS.ex rel0 post fun ds c1 S1 H1 J _ gI Y post1 => ?_⟩
  have rel1 := rel0.gr gI
  have lone1 := lone0.gr gI
  refine ⟨fun n m σ2 H2 => m = ds.length - n ∧ n ≤ ds.length ∧ ∃ c2 S2 env2 acc, Rel X.prog X.w X.K f c2 S2 H2 env2 σ2 ∧ Sub S1 S2 ∧ σ2[i]? = some (some (.ref a)) ∧ Lone f S2 H2 a acc ∧ acc.length ≤ LIM ∧
      PostS X.prog X.w X.K f C.W ((sprL xt j (fun env c => evE f.ns C.Φ C.gv xe env c) (ds.drop n) env2 acc c2).thn fun acc c => (sortD (acc.map pairI)).at c |>.thn fun d c => .ok (.ret d, c)) D,
    ⟨ds.length, rfl, Nat.zero_le _, c1, S1, _, [], rel1, fun _ _ h => h, hσ0, lone1, Nat.zero_le _, by rw [List.drop_zero]; exact post1⟩, ?_⟩
  rintro n m σ2 H2 ⟨rfl, hn, c2, S2, env2, acc, rel2, hsub, hσ2, lone2, hal, k5⟩
  by_cases hlt : n < ds.length
  · have hget' : ds[n]? = some ds[n] := List.getElem?_eq_getElem hlt
    rw [List.drop_eq_getElem_cons hlt] at k5
    obtain ⟨hgo, hyl2⟩ := Y.go n ds[n] S2 H2 hget' hsub rel2.wf.inn
    refine .inr ⟨hgo, fun σ3 H3 => ∃ c2 S2 env2 acc, Rel X.prog X.w X.K f c2 S2 H3 env2 σ3 ∧ Sub S1 S2 ∧ σ3[i]? = some (some (.ref a)) ∧ Lone f S2 H3 a acc ∧ acc.length ≤ LIM ∧
      PostS X.prog X.w X.K f C.W ((sprL xt j (fun env c => evE f.ns C.Φ C.gv xe env c) (ds.drop (n + 1)) env2 acc c2).thn fun acc c => (sortD (acc.map pairI)).at c |>.thn fun d c => .ok (.ret d, c)) D,
      fun σ3 H3 h3 => ⟨ds.length - (n + 1), by omega, rfl, hlt, h3⟩, fun v H3 y => ?_⟩
    obtain ⟨S3, e3, r3⟩ := hyl2 v H3 y
    have g3 := e3.gr rel2.wf
    have rel3 := rel2.gr g3
    have lone3 := lone2.gr g3
    simp only [sprL] at k5
    cases eT : asgT xt ds[n] env2 with
    | none => simp only [eT] at k5; exact (show False from k5).elim
    | some env3 =>
      simp only [eT] at k5
      refine ⟨f, c2, S3, env2, ds[n], env3, rel3, r3, eT, fun σ4 rel4 hw => ?_⟩
      have hσ4 : σ4[i]? = some (some (.ref a)) := by
        have h := congrArg (fun l => l[i]?) (hw (tgN xt) fun _ h => h)
        simp only [wipe_get, if_neg hit] at h
        rw [h]; exact hσ2
      refine ⟨f, c2, S3, env3, rel4, ?_⟩
      cases ev : evE f.ns C.Φ C.gv xe env3 c2 with
      | bad => simp only [ev] at k5; exact (show False from k5).elim
      | exn k c0 => simp only [ev] at k5; exact fun S' H' g => k5 S' H' σ4 (rel4.gr g).ent
      | ok pr =>
        obtain ⟨d, c4⟩ := pr
        simp only [ev] at k5
        cases d with
        | int k =>
          simp only at k5
          split at k5
          case isFalse => exact (show False from k5).elim
          rename_i hchk
          simp only [Bool.and_eq_true, decide_eq_true_eq] at hchk
          obtain ⟨⟨hno3, hal3⟩, hje⟩ := hchk
          intro S5 H5 v5 g5 r5
          cases r5
          have rel5 := rel4.gr g5
          have lone5 := lone3.gr g5
          have hσ5 : (σ4.set j (some (V.int k)))[i]? = some (some (.ref a)) := by rw [List.getElem?_set_ne (Ne.symm hij)]; exact hσ4
          have hσj : (σ4.set j (some (V.int k)))[j]? = some (some (.int k)) := List.getElem?_set_self (by rw [← rel4.len]; exact hje)
          have rel6 : Rel X.prog X.w X.K f c4 S5 H5 (env3.set j (.val (.int k))) (σ4.set j (some (.int k))) := rel5.set (.int k)
          have no6 : noOwn (env3.set j (.val (.int k))) = true := by
            refine List.all_eq_true.mpr fun x hx => ?_
            rcases List.mem_or_eq_of_mem_set hx with h | h
            · exact List.all_eq_true.mp hno3 x h
            · subst h; rfl
          refine ⟨.ref a, hσ5, a, rfl, .inl ⟨_, .inl lone5.h⟩, .int k, hσj, valV (acc.map entK) (Sum.inl k), .inl ⟨_, .inl k, .inl lone5.h, rfl, rfl⟩, ?_⟩
          rw [valV_ent]
          have hv : ((valI acc k).map V.int).getD (V.int 0) = V.int ((valI acc k).getD 0) := by cases valI acc k <;> rfl
          refine ⟨(valI acc k).getD 0, 1, hv, rfl, .ref a, hσ5, .int k, hσj, a, _, rfl, .inl ⟨_, .inl k, lone5.h, rfl, by have := LIM_le; rw [List.length_map]; omega, rfl⟩, ?_⟩
          rw [put_bump]
          exact ⟨c4, S5, _, bumpI acc k, rel6.poke no6 lone5.s lone5.t lone5.h0, fun b o h => g5.sub b o (e3.sub b o (hsub b o h)), hσ5, ⟨lone5.s, lone5.t, lone5.h0, upd_same⟩, Nat.le_trans (bump_len acc k) hal3, k5⟩
        | _ => exact (show False from k5).elim
  · have en : n = ds.length := by omega
    subst en
    rw [List.drop_length] at k5
    refine .inl ⟨Y.stop _ S2 H2 (Nat.le_refl _) hsub rel2.wf.inn, ?_⟩
    have k6 : PostS X.prog X.w X.K f C.W ((sortD (acc.map pairI)).at c2 |>.thn fun d c => .ok (.ret d, c)) D := k5
    unfold sortD at k6
    split at k6
    case isFalse => exact (show False from k6).elim
    rename_i hso
    have k7 : ∀ S' H' v, Gr f.T f.S0 f.H0 c2 S' H' → Rep X.prog X.w X.K S' (.list (isortD (acc.map pairI))) v → D.rt v H' := k6
    refine ⟨.ref a, hσ2, .inr (.inr (.inl ⟨rfl, .inl ⟨_, lone2.h⟩⟩)), a, _, rfl, rfl, lone2.h, fun p hpn => ?_⟩
    have hap : a ≠ p := ne_of_none lone2.h hpn
    refine ⟨p, a, acc, rfl, upd_same, by rw [upd_ne hap]; exact lone2.h, hal, hso, fun H' l ts z1 z2 z3 z4 z5 => ?_⟩
    have old : ∀ b o, H2 b = some o → H' b = some o := fun b o e => z1 b o (by rw [upd_ne (ne_of_none e hpn)]; exact e)
    have non : ∀ b, upd H2 p (L2.DX.itemsO p a) b = none → H2 b = none := fun b e => by
      by_cases hb : b = p
      · subst hb; exact hpn
      · rw [upd_ne hb] at e; exact e
    have mem : ∀ b, b ∈ l :: ts → H2 b = none := fun b hb => by
      rcases List.mem_cons.mp hb with rfl | hb
      · exact non _ z2
      · exact non _ (z3 b hb)
    have hgr : Gr f.T S2 H2 c2 (fun b => if b ∈ l :: ts then H' b else S2 b) H' := by
      refine ⟨fun b o e => ?_, fun b o e => ?_, fun b o _ e => old b o e, fun b o e => ?_, old _ _ rel2.wf.tH⟩
      · have hb : b ∉ l :: ts := fun hb => by have h0 := mem b hb; rw [rel2.wf.inn _ _ e] at h0; cases h0
        simp only [if_neg hb]; exact e
      · split at e
        · exact e
        · exact old b o (rel2.wf.inn b o e)
      · split at e
        · rename_i hb; exact .inr (mem b hb)
        · exact .inl e
    refine k7 _ _ _ (rel2.gr hgr).ent (.lst (by simp only [List.mem_cons_self, if_true]; exact z4) (by rw [isortD_length, List.length_map]; exact hal) (z5 _ fun t ht => by simp only [List.mem_cons_of_mem _ ht, if_true]))
end
theorem sprR_ret {tg : Tg} {i j : Nat} {items : En → Nat → R (List D × Nat)} {num : En → Nat → R (D × Nat)} {env env' : En} {c c' : Nat} : sprR tg i j items num env c ≠ .ok (.next env', c') := by
  unfold sprR
  split
  · cases items (env.set i .unb) c with
    | ok p =>
      obtain ⟨xs, c1⟩ := p
      simp only [R.thn_ok]
      cases sprL tg j num xs (env.set i .unb) [] c1 with
      | ok q =>
        obtain ⟨acc, c2⟩ := q
        simp only [R.thn_ok]
        cases sortD (acc.map pairI) with
        | ok d => exact fun h => by cases h
        | exn k c0 => exact fun h => by cases h
        | bad => exact fun h => by cases h
      | exn k c0 => exact fun h => by cases h
      | bad => exact fun h => by cases h
    | exn k c0 => exact fun h => by cases h
    | bad => exact fun h => by cases h
  · exact fun h => by cases h
theorem spr_key {X : Cx} {C : Cn} {i j : Nat} {xt : Tg} {it : Itx} {xe : Ex} {r : Sms} {D : Ends} {σ : L2.St} {H : Hp} (h : tSms X C (.cons (.spr i j xt it xe) r) D σ H) :
    ∃ f c S env, Rel X.prog X.w X.K f c S H env σ ∧ PostS X.prog X.w X.K f C.W (sprR xt i j (fun env c => evI f.ns C.Φ C.gv it env c) (fun env c => evE f.ns C.Φ C.gv xe env c) env c) D := by
  obtain ⟨f, c, S, env, rel, post⟩ := h
  refine ⟨f, c, S, env, rel, ?_⟩
  rw [exSs, exS] at post
  match ev : sprR xt i j (fun env c => evI f.ns C.Φ C.gv it env c) (fun env c => evE f.ns C.Φ C.gv xe env c) env c with
  | .ok (.next env', c') => exact (sprR_ret ev).elim
  | .ok (.ret d, c') => rw [ev] at post; exact post
  | .exn k c0 => rw [ev] at post; exact post
  | .bad => rw [ev] at post; exact post
end LG

/-! LgFS: set(list), by what its loop does; sorted(set(list of ints)). -/
namespace LG
open PySem PySem.Spec PyProof.Rows L2
/-- a set as it is made -/
abbrev mtSet (w : World) : Obj := { cls := .type "set", dict := none, data := .set #[] 0 (.fresh 0 0 (!w.params.followText "set-order")) }
abbrev itrO (l : Addr) : Obj := { cls := .type "list_iterator", data := .fields #[.ref l, .int 0 0] }
section
variable {P : Program} {w : World} {A : Around} {E : Value → Shared → Prop} {s : Shared}
theorem set_of_list {l : Addr} {items : Array Value} {Q : Value → Shared → Prop} (Z : Heap → Prop) (hl : s.heap.IsList l items)
    (hloop : ∀ R : Result → Shared → Prop, (∀ s' : Shared, s'.gens = s.gens → s'.drawn = s.drawn → s'.os = s.os → Z s'.heap → R (.ok (.ret .none)) s') → codeAny (model P w) A.in1.in1 (.builtin "set.update.loop" ⟨[.ref s.heap.objs.size, .ref (s.heap.objs.size + 1)], []⟩) R { s with heap := (s.heap.push (mtSet w)).push (itrO l) })
    (h : ∀ (h2 : Heap) (tk : Nat), Z h2 → Q (.ref s.heap.objs.size) { s with heap := h2, toks := tk }) :
    wpAny (model P w) A (call (.type "set") [.ref l]) Q E s := by
  obtain ⟨k0, k1, kmro⟩ := F.called_set.mro
  have kmade := F.called_set.made
  have ksub := F.called_set.sub
  refine wpAny_call (codeAny_of_tree ?_)
  show wpAny _ _ (callAny (.type "set") ⟨[.ref l], []⟩) _ _ _
  refine wpAny_pure ⟨Code.quiet_builtin _ (by decide +kernel), codeAny_builtin F.entry_type_call ?_⟩
  rw [Around.under_plain (weight_type_call_type "set" [.ref l] []) rfl]
  have e1 := F.called_set.notType
  have e2 := F.called_set.canCreate
  have e3 := F.typeCall_set_1 (.ref l)
  repeat (any_goals (first | assumption | wp_step))
  refine codeAny_mono (code_set_led1 (.ref l) (E := E) (Q₁ := fun x s1 => x = .ref s.heap.objs.size ∧ s1 = { s with heap := s.heap.push (mtSet w) }) ⟨rfl, rfl⟩) fun r s1 hr => ?_
  cases r with
  | error e => exact hr
  | ok fl =>
    cases fl with
    | ret obj =>
      obtain ⟨rfl, rfl⟩ := hr
      have hS : (s.heap.push (mtSet w)).get? s.heap.objs.size = some (mtSet w) := Heap.get?_push_size _ rfl
      have hT : Shared.TypeIs { s with heap := s.heap.push (mtSet w) } (.ref s.heap.objs.size) "set" := ⟨_, hS, rfl⟩
      have e4 := F.called_set.init.lookup
      have e5 := F.called_set.init.bind (.ref s.heap.objs.size)
      repeat (any_goals (first | assumption | wp_step))
      refine codeAny_mono (codeAny_call_builtin (R := wants (fun r s2 => r = .none ∧ ∃ h2 tk, s2 = { s with heap := h2, toks := tk } ∧ Z h2) E) F.called_set.init.plain F.entry_set_init (check_set_init_1 hT ?_)) fun r2 s2 hr2 => ?_
      · obtain ⟨ol, hol, hcl, nl, hdl⟩ := hl
        obtain ⟨ocls, odict, odata, oslots⟩ := ol
        simp only at hcl hdl
        subst hcl; subst hdl
        have hol2 : (s.heap.push (mtSet w)).get? l = some { cls := .type "list", dict := odict, data := .seq items nl, slots := oslots } := Heap.get?_push_of_some _ hol
        have e6 := F.sub_list_set
        have e7 := F.sub_list_frozenset
        have e8 : (Value.type "list" == Value.type "dict") = false := by decide
        have hl2 : (s.heap.push (mtSet w)).IsList l items := ⟨_, hol2, rfl, nl, rfl⟩
        unfold Builtin.«set.__init__» noKeywords Builtin.Frozenset.updateFrom
        generalize ePI : pyIter = PI
        wp_walk
        subst ePI
        refine wpAny_pyIter_list hl2 ?_
        refine wpAny_bind (wpAny_runValue ?_)
        have hz : (s.heap.push (mtSet w)).objs.size = s.heap.objs.size + 1 := Heap.size_push ..
        rw [hz]
        refine hloop _ fun s3 g3 d3 o3 hZ => ?_
        obtain ⟨h3, x1, x2, tk3, x3⟩ := s3
        cases g3
        cases d3
        cases o3
        show wpAny _ _ _ _ _ _
        refine wpAny_pure ?_
        show wpAny _ _ (ret _) _ _ _
        exact wpAny_pure ⟨rfl, h3, tk3, rfl, hZ⟩
      · cases r2 with
        | error e => exact hr2
        | ok fl2 =>
          cases fl2 with
          | ret r =>
            obtain ⟨rfl, h2, tk, rfl, hZ⟩ := hr2
            repeat (any_goals (first | assumption | wp_step))
            exact h _ _ hZ
          | _ => exact hr2.elim
    | _ => exact hr.elim
end
end LG

/-! LgFT: sorted(set(list of ints)). -/
namespace LG
open PySem PySem.Spec PyProof.Rows L2
section
variable {P : Program} {w : World} {A : Around} {E : Value → Shared → Prop} {s : Shared}
/-- set(xs) of ints -/
theorem set_of_ints {l : Addr} {items : Array Value} (is : List Int) {Q : Value → Shared → Prop} (hh : A.handled = none) (hl : s.heap.IsList l items) (hi : IntsAre items.toList is) (hb : is.length + 1 < scanBound)
    (h : ∀ (h2 : Heap) (tk n : Nat), SetR w h2 s.heap.objs.size (fun j => decide (j ∈ is)) n → n ≤ is.length → (∀ b o, s.heap.get? b = some o → h2.get? b = some o) → Q (.ref s.heap.objs.size) { s with heap := h2, toks := tk }) :
    wpAny (model P w) A (call (.type "set") [.ref l]) Q E s := by
  have hsz : items.size = is.length := by
    have := IntsAre.length hi
    rwa [Array.length_toList] at this
  refine set_of_list (fun h2 => ∃ n, SetR w h2 s.heap.objs.size (fun j => decide (j ∈ is)) n ∧ n ≤ is.length ∧ ∀ b o, s.heap.get? b = some o → h2.get? b = some o) hl (fun R hR => ?_) fun h2 tk ⟨n, z1, z2, z3⟩ => h h2 tk n z1 z2 z3
  have hlS : l < s.heap.objs.size := by
    obtain ⟨ol, hol, _⟩ := hl
    exact Heap.lt_size hol
  have hz : (s.heap.push (mtSet w)).objs.size = s.heap.objs.size + 1 := Heap.size_push ..
  have hI : l ≠ s.heap.objs.size + 1 := Nat.ne_of_lt (Nat.lt_succ_of_lt hlS)
  have hf : s.heap.objs.size ∉ [s.heap.objs.size + 1, l] := by
    intro z
    rcases List.mem_cons.mp z with z | z
    · exact Nat.ne_of_lt (Nat.lt_succ_self _) z
    · exact Nat.ne_of_gt hlS (List.mem_singleton.mp z)
  have hv : ∀ (i : Nat) (v : Value), items[i]? = some v → ∃ k t, is[i]? = some k ∧ v = .int k t := fun i v hv => by
    have hlt : i < is.length := by rw [← hsz]; exact (Array.getElem?_eq_some_iff.mp hv).1
    obtain ⟨t, e⟩ := PyProof.Rows.IntsAre.int_at hi i v (by rw [Array.getElem?_toList]; exact hv)
    exact ⟨is[i], t, List.getElem?_eq_getElem hlt, by rw [e, List.getD_eq_getElem?_getD, List.getElem?_eq_getElem hlt]; rfl⟩
  have hl2 : (s.heap.push (mtSet w)).IsList l items := hl.push _
  have hit : ((s.heap.push (mtSet w)).push (itrO l)).get? (s.heap.objs.size + 1) = some (itrO l) := by rw [← hz]; exact Heap.get?_push_size _ rfl
  have hset : ((s.heap.push (mtSet w)).push (itrO l)).get? s.heap.objs.size = some (mtSet w) := Heap.get?_push_of_some _ (Heap.get?_push_size _ rfl)
  refine set_update_ints ((Walks.list (by simp [hh]) _ l hI items).toS) s.heap.objs.size hf is hsz hb hv (items.size - 0) 0 _ (by omega) (Nat.zero_le _) ⟨⟨_, hit, rfl, rfl⟩, hl2.push _⟩ ⟨0, Nat.le_refl 0, setR_new_at hset⟩ fun s3 n hm hn hS => ?_
  refine hR s3 hm.gens hm.drawn hm.os ⟨n, hS, by omega, fun b o e => ?_⟩
  have hb0 : b < s.heap.objs.size := Heap.lt_size e
  refine hm.heap b o (fun z => ?_) (Heap.get?_push_of_some _ (Heap.get?_push_of_some _ e))
  rcases List.mem_cons.mp z with z | z
  · exact Nat.ne_of_lt hb0 z
  · exact Nat.ne_of_lt (Nat.lt_succ_of_lt hb0) (List.mem_singleton.mp z)
end
/-! ### the members, ascending -/
theorem dedI_mem {z : Int} : ∀ {l : List Int}, z ∈ dedI l ↔ z ∈ l
  | [] => Iff.rfl
  | x :: r => by
    unfold dedI
    split
    · rename_i hx
      rw [dedI_mem, List.mem_cons]
      exact ⟨.inr, fun h => h.elim (fun e => e ▸ hx) id⟩
    · rw [List.mem_cons, dedI_mem, List.mem_cons]
theorem dedI_nd : ∀ l : List Int, (dedI l).Nodup
  | [] => List.nodup_nil
  | x :: r => by
    unfold dedI
    split
    · exact dedI_nd r
    · rename_i hx
      exact List.nodup_cons.mpr ⟨fun h => hx (dedI_mem.mp h), dedI_nd r⟩
theorem insI_mem {x z : Int} : ∀ {l : List Int}, z ∈ insI x l ↔ z = x ∨ z ∈ l
  | [] => by simp [insI]
  | y :: r => by
    unfold insI
    split
    · simp
    · rw [List.mem_cons, insI_mem, List.mem_cons]
      constructor
      · rintro (h | h | h)
        · exact .inr (.inl h)
        · exact .inl h
        · exact .inr (.inr h)
      · rintro (h | h | h)
        · exact .inr (.inl h)
        · exact .inl h
        · exact .inr (.inr h)
theorem isI_mem {z : Int} : ∀ {l : List Int}, z ∈ isI l ↔ z ∈ l
  | [] => Iff.rfl
  | x :: r => by rw [isI, insI_mem, isI_mem, List.mem_cons]
theorem insI_lt {x : Int} : ∀ {l : List Int}, l.Pairwise (· < ·) → x ∉ l → (insI x l).Pairwise (· < ·)
  | [], _, _ => by simp [insI]
  | y :: r, h, hx => by
    rw [List.pairwise_cons] at h
    unfold insI
    split
    · rename_i hle
      rw [List.pairwise_cons, List.pairwise_cons]
      have hlt : x < y := by
        have : x ≠ y := fun e => hx (e ▸ List.mem_cons_self)
        omega
      exact ⟨fun z hz => by
        rcases List.mem_cons.mp hz with rfl | hz
        · exact hlt
        · exact Int.lt_trans hlt (h.1 z hz), h.1, h.2⟩
    · rename_i hle
      rw [List.pairwise_cons]
      refine ⟨fun z hz => ?_, insI_lt h.2 fun hz => hx (List.mem_cons_of_mem _ hz)⟩
      rcases insI_mem.mp hz with rfl | hz
      · omega
      · exact h.1 z hz
theorem isI_lt : ∀ {l : List Int}, l.Nodup → (isI l).Pairwise (· < ·)
  | [], _ => .nil
  | x :: r, h => by
    rw [List.nodup_cons] at h
    exact insI_lt (isI_lt h.2) fun hz => h.1 (isI_mem.mp hz)
theorem ltI_ext : ∀ {l m : List Int}, l.Pairwise (· < ·) → m.Pairwise (· < ·) → (∀ x, x ∈ l ↔ x ∈ m) → l = m
  | [], [], _, _, _ => rfl
  | [], y :: m, _, _, h => absurd ((h y).mpr List.mem_cons_self) (List.not_mem_nil)
  | x :: l, [], _, _, h => absurd ((h x).mp List.mem_cons_self) (List.not_mem_nil)
  | x :: l, y :: m, hl, hm, h => by
    rw [List.pairwise_cons] at hl hm
    have e : x = y := by
      have h1 := (h x).mp List.mem_cons_self
      have h2 := (h y).mpr List.mem_cons_self
      rcases List.mem_cons.mp h1 with e | h1
      · exact e
      · rcases List.mem_cons.mp h2 with e | h2
        · exact e.symm
        · have := hm.1 x h1
          have := hl.1 y h2
          omega
    subst e
    rw [ltI_ext hl.2 hm.2 fun z => ?_]
    constructor
    · intro hz
      have hxz := hl.1 z hz
      rcases List.mem_cons.mp ((h z).mp (List.mem_cons_of_mem _ hz)) with e | hz'
      · omega
      · exact hz'
    · intro hz
      have hxz := hm.1 z hz
      rcases List.mem_cons.mp ((h z).mpr (List.mem_cons_of_mem _ hz)) with e | hz'
      · omega
      · exact hz'
theorem nd_le : ∀ (l m : List Int), l.Nodup → (∀ x ∈ l, x ∈ m) → l.length ≤ m.length
  | [], _, _, _ => Nat.zero_le _
  | x :: l, m, nd, h => by
    rw [List.nodup_cons] at nd
    have hx : x ∈ m := h x List.mem_cons_self
    have ih := nd_le l (m.erase x) nd.2 fun y hy => (List.mem_erase_of_ne (fun e : y = x => nd.1 (e ▸ hy))).mpr (h y (List.mem_cons_of_mem _ hy))
    rw [List.length_erase_of_mem hx] at ih
    have := List.length_pos_of_mem hx
    rw [List.length_cons]
    omega
section
variable {X : Cx} {C : Cn}
def rSetI (X : Cx) : List V → Hp → VK → Prop := fun vs H Q => ∃ (a : Addr) (is : List Int), vs = [.ref a] ∧ SqL X.K H a (is.map V.int) ∧ is.length ≤ 4000 ∧ ∀ p, H p = none → Q (.ref p) (upd H p (SetO X.w p (fun j => decide (j ∈ is)) (dedI is).length))
theorem cr_setI (hc : X.calm = true) : CallR X (.type "set") (rSetI X) := by
  intro pins s σ H vs us Q I r h
  obtain ⟨a, is, rfl, hq, hl, q⟩ := h
  rw [Vals.ref1 r]
  obtain ⟨its, rv, pl, hz⟩ := I.list hq
  refine set_of_ints is (I.ok.hd hc) pl.isList (by simpa using RZ.intsAre_vals rv) (by unfold scanBound; omega) fun h2 tk n hS hn hk => ?_
  have en : n = (dedI is).length := by
    obtain ⟨o, es, ep, t, _, _, _, _, nd, hm, _, _, hn, _⟩ := hS
    have e1 : (es.toList.map keyOf).length = n := by rw [List.length_map, Array.length_toList, hn]
    have h1 := nd_le _ (dedI is) nd fun x hx => dedI_mem.mpr (of_decide_eq_true ((hm x).mpr hx))
    have h2 := nd_le _ (es.toList.map keyOf) (dedI_nd is) fun x hx => (hm x).mp (decide_eq_true (dedI_mem.mp hx))
    omega
  subst en
  exact ⟨.ref _, upd H s.heap.objs.size (SetO X.w s.heap.objs.size (fun j => decide (j ∈ is)) (dedI is).length), I.laid (t' := tk) (fun b o e => hk b o e) (Nat.le_refl _) (setO_new hS), rfl, q _ (I.hok.fresh (Nat.le_refl _))⟩
theorem ints_V {P : Program} {w : World} {K : PySem.W.Frag} {S : Hp} : ∀ {ds : List D} {vs : List V} {is : List Int}, Reps P w K S ds vs → intsOf ds = some is → vs = is.map V.int
  | _, _, _, .nil, e => by cases e; rfl
  | _, _, is, .cons (d := d) r t, e => by
    cases r with
    | int i =>
      simp only [intsOf, Option.map_eq_some_iff] at e
      obtain ⟨js, e1, e2⟩ := e
      rw [← e2, List.map_cons, ints_V t e1]
    | _ => cases e
theorem ints_R {P : Program} {w : World} {K : PySem.W.Frag} {S : Hp} : ∀ (is : List Int), Reps P w K S (is.map .int) (is.map V.int)
  | [] => .nil
  | i :: is => .cons (.int i) (ints_R is)
theorem dedI_len : ∀ l : List Int, (dedI l).length ≤ l.length
  | [] => Nat.le_refl _
  | x :: r => by
    have := dedI_len r
    unfold dedI
    split <;> simp <;> omega
theorem se_sortedset {x1 : Ex} {e1 : Expr} {pp p2 p3 pos : Pos} (hc : X.calm = true) (hg : Gl X "sorted") (hm : X.mg "sorted" = none) (hg2 : Gl X "set") (hm2 : X.mg "set" = none) (h1 : SE X C x1 e1) (hs : NoStar e1) :
    SE X C (.prim .sortedset (.cons x1 .nil)) (.Call (.Name "sorted" pp) [.Call (.Name "set" p2) [e1] [] p3] [] pos) := by
  refine se_val ((pe_callB (cr_sortedSet hc) hg hm boot_sorted (pa_cons (pe_callTy (cr_setI hc) hg2 hm2 boot_set (pa_cons h1.pe pa_nil (hs _ _)) (by decide) (by decide) (hs _ _) rfl) pa_nil rfl) (by decide) (by decide) rfl rfl).lgi fun σ H Q q => ?_)
  obtain ⟨f, c, S, env, rel, post⟩ := q
  rw [evE, evA] at post
  have post' : Post f (fun k H' => C.W k σ H') (Rep X.prog X.w X.K) S H ((evE f.ns C.Φ C.gv x1 env c).thn fun d c => (primD .sortedset [d]).at c) Q := by
    cases hx : evE f.ns C.Φ C.gv x1 env c with
    | ok p =>
      obtain ⟨d, c1⟩ := p
      rw [hx] at post
      simp only [R.thn_ok, evA] at post
      exact post
    | exn k c0 => rw [hx] at post; exact post
    | bad => rw [hx] at post; exact post
  refine ⟨f, c, S, env, rel, post'.thn rel.wf fun d c1 S1 H1 v hev g1 r1 post1 => ?_⟩
  have wf1 := (rel.gr g1).wf
  clear hev
  cases r1 with
  | lst e l rr =>
    rename_i a vs ds
    have post2 : Post f (fun k H' => C.W k σ H') (Rep X.prog X.w X.K) S1 H1 (R.at (match intsOf ds with | some is => if is.length ≤ 4000 ∧ (dedI is).length < 64 then R.ok (.list ((isI (dedI is)).map .int)) else .bad | none => .bad) c1) Q := post1
    cases hi : intsOf ds with
    | none => rw [hi] at post2; exact (show False from post2).elim
    | some is =>
      rw [hi] at post2
      simp only at post2
      split at post2
      · rename_i hl
        have ev := ints_V rr hi
        subst ev
        refine ⟨a, is, rfl, SqL.of (wf1.inn _ _ e), hl.1, fun p hp => ⟨p, _, _, rfl, upd_same, hl.2, fun js q hlt hmem hlen hq => ?_⟩⟩
        have ej : js = isI (dedI is) := ltI_ext hlt (isI_lt (dedI_nd is)) fun z => by rw [hmem, decide_eq_true_iff, isI_mem, dedI_mem]
        subst ej
        have g2 := wf1.laid hp (SetO X.w p (fun j => decide (j ∈ is)) (dedI is).length)
        have wf2 := wf1.gr g2
        have g3 := wf2.fresh hq (.lst ((isI (dedI is)).map V.int))
        refine post2 _ _ _ (g2.trans wf1 g3) (.lst upd_same ?_ (ints_R _))
        rw [List.length_map, hlen]
        have := hl.2
        have hLIM : LIM = 1000000 := rfl
        omega
      · exact (show False from post2).elim
  | _ => exact (show False from post1).elim
end
end LG

/-! LgFU: texts: str, int, join, split; list(range(..)). -/
namespace LG
open PySem PySem.Spec PyProof.Rows L2
section
variable {X : Cx} {C : Cn}
theorem pr_str : CallR X (.type "str") (rPr X .str) := by
  intro pins s σ H vs us Q I r h
  obtain ⟨f, c, S, ds, wf, rr, h⟩ := h
  match ds, h with
  | [.int i], h =>
    obtain ⟨v, u, rfl, rfl, ru, a⟩ := one_of rr r rfl
    cases a
    have h' : PostR X.prog X.w X.K f c S H (if i.natAbs.log2 < 1920 then R.ok (.str (toString i)) else .bad) Q := h
    split at h'
    · rename_i hl
      exact call_str_int pins s σ H _ _ Q I (.cons ru .nil) ⟨i, rfl, hl, h'.now wf (.str _)⟩
    · exact h'.elim
  | [], h => exact (show False from h).elim
  | [.none], h => exact (show False from h).elim
  | [.bool _], h => exact (show False from h).elim
  | [.list _], h => exact (show False from h).elim
  | [.tuple _], h => exact (show False from h).elim
  | [.str _], h => exact (show False from h).elim
  | [.dict _], h => exact (show False from h).elim
  | a :: b :: t, h => cases a <;> exact (show False from h).elim
theorem pr_int : CallR X (.type "int") (rPr X .int) := by
  intro pins s σ H vs us Q I r h
  obtain ⟨f, c, S, ds, wf, rr, h⟩ := h
  match ds, h with
  | [.str z], h =>
    obtain ⟨v, u, rfl, rfl, ru, a⟩ := one_of rr r rfl
    cases a
    have h' : PostR X.prog X.w X.K f c S H (match intText? z with | some n => if z.length ≤ 640 then R.ok (.int n) else .bad | none => .bad) Q := h
    cases hz : intText? z with
    | none => rw [hz] at h'; exact (show False from h').elim
    | some n =>
      rw [hz] at h'
      simp only at h'
      split at h'
      · rename_i hl
        exact call_int_str pins s σ H _ _ Q I (.cons ru .nil) ⟨z, n, rfl, hz, hl, h'.now wf (.int _)⟩
      · exact h'.elim
  | [], h => exact (show False from h).elim
  | [.none], h => exact (show False from h).elim
  | [.bool _], h => exact (show False from h).elim
  | [.list _], h => exact (show False from h).elim
  | [.tuple _], h => exact (show False from h).elim
  | [.int _], h => exact (show False from h).elim
  | [.dict _], h => exact (show False from h).elim
  | a :: b :: t, h => cases a <;> exact (show False from h).elim
theorem strs_V {P : Program} {w : World} {K : PySem.W.Frag} {S : Hp} : ∀ {ds : List D} {vs : List V} {ys : List Str}, Reps P w K S ds vs → strsOf ds = some ys → vs = ys.map V.str
  | _, _, _, .nil, e => by cases e; rfl
  | _, _, ys, .cons (d := d) r t, e => by
    cases r with
    | str z =>
      simp only [strsOf, Option.map_eq_some_iff] at e
      obtain ⟨js, e1, e2⟩ := e
      rw [← e2, List.map_cons, strs_V t e1]
    | _ => cases e
theorem strs_R {P : Program} {w : World} {K : PySem.W.Frag} {S : Hp} : ∀ (ys : List Str), Reps P w K S (ys.map .str) (ys.map V.str)
  | [] => .nil
  | y :: ys => .cons (.str y) (strs_R ys)
theorem mt_joinD : MtR X "str.join" (rMt X .join) := by
  intro pins s σ H x xs v us Q I rx rxs h
  obtain ⟨f, c, S, ds, wf, rr, h⟩ := h
  match ds, h with
  | [.str a, .list es], h =>
    obtain ⟨y, u, rfl, rfl, ru, ra, ry⟩ := two_of rr rxs
    cases ra
    cases ry with
    | lst e l q =>
      have h' : PostR X.prog X.w X.K f c S H (match strsOf es with | some ys => if (ys.map (·.length)).sum + ys.length * a.length ≤ LIM then R.ok (.str (Txt.join a ys)) else .bad | none => .bad) Q := h
      cases hz : strsOf es with
      | none => rw [hz] at h'; exact (show False from h').elim
      | some ys =>
        rw [hz] at h'
        simp only at h'
        split at h'
        · rename_i hl
          have ev := strs_V q hz
          subst ev
          have hLIM : LIM = 1000000 := rfl
          exact mt_join pins s σ H _ _ v _ Q I rx (.cons ru .nil) ⟨a, _, ys, rfl, rfl, .inl (SqL.of (wf.inn _ _ e)), by omega, h'.now wf (.str _)⟩
        · exact h'.elim
  | [], h => exact (show False from h).elim
  | [_], h => rename_i d; cases d <;> exact (show False from h).elim
  | [.str a, .none], h => exact (show False from h).elim
  | [.str a, .bool _], h => exact (show False from h).elim
  | [.str a, .int _], h => exact (show False from h).elim
  | [.str a, .str _], h => exact (show False from h).elim
  | [.str a, .tuple _], h => exact (show False from h).elim
  | [.str a, .dict _], h => exact (show False from h).elim
  | .none :: _ :: _, h => exact (show False from h).elim
  | .bool _ :: _ :: _, h => exact (show False from h).elim
  | .int _ :: _ :: _, h => exact (show False from h).elim
  | .list _ :: _ :: _, h => exact (show False from h).elim
  | .tuple _ :: _ :: _, h => exact (show False from h).elim
  | .dict _ :: _ :: _, h => exact (show False from h).elim
  | .str _ :: d :: _ :: _, h => cases d <;> exact (show False from h).elim
theorem mt_splitD : MtR X "str.split" (rMt X .split) := by
  intro pins s σ H x xs v us Q I rx rxs h
  obtain ⟨f, c, S, ds, wf, rr, h⟩ := h
  match ds, h with
  | [.str a, .str b], h =>
    obtain ⟨y, u, rfl, rfl, ru, ra, ry⟩ := two_of rr rxs
    cases ra
    cases ry
    have h' : PostR X.prog X.w X.K f c S H (if (b.length == 0) = false ∧ a.length + 2 ≤ LIM ∧ (Txt.split a b).length ≤ LIM then R.ok (.list ((Txt.split a b).map .str)) else .bad) Q := h
    split at h'
    · rename_i hl
      refine mt_split pins s σ H _ _ v _ Q I rx (.cons ru .nil) ⟨a, b, rfl, rfl, hl.1, Nat.le_trans hl.2.1 LIM_le, ?_⟩
      exact h'.newL wf (by rw [List.length_map]; exact hl.2.2) (strs_R _)
    · exact h'.elim
  | [], h => exact (show False from h).elim
  | [_], h => rename_i d; cases d <;> exact (show False from h).elim
  | [.str a, .none], h => exact (show False from h).elim
  | [.str a, .bool _], h => exact (show False from h).elim
  | [.str a, .int _], h => exact (show False from h).elim
  | [.str a, .list _], h => exact (show False from h).elim
  | [.str a, .tuple _], h => exact (show False from h).elim
  | [.str a, .dict _], h => exact (show False from h).elim
  | .none :: _ :: _, h => exact (show False from h).elim
  | .bool _ :: _ :: _, h => exact (show False from h).elim
  | .int _ :: _ :: _, h => exact (show False from h).elim
  | .list _ :: _ :: _, h => exact (show False from h).elim
  | .tuple _ :: _ :: _, h => exact (show False from h).elim
  | .dict _ :: _ :: _, h => exact (show False from h).elim
  | .str _ :: d :: _ :: _, h => cases d <;> exact (show False from h).elim
theorem ty_str {S H : Hp} {d : D} {v : V} (r : Rep X.prog X.w X.K S d v) (h : ∃ z, d = .str z) : tyV X.K "str" v H := by
  obtain ⟨z, rfl⟩ := h
  cases r
  exact rfl
theorem rgV_R {P : Program} {w : World} {K : PySem.W.Frag} {S : Hp} (lo hi : Int) : Reps P w K S (rangeU lo hi) (rgV lo hi) := by
  unfold rangeU rgV
  generalize List.range (hi - lo).toNat = l
  induction l with
  | nil => exact .nil
  | cons i l ih => exact .cons (.int _) ih
theorem se_listr {x1 x2 : Ex} {e1 e2 : Expr} {pp p2 p3 pos : Pos} (hc : X.calm = true) (hg : Gl X "list") (hm : X.mg "list" = none) (hg2 : Gl X "range") (hm2 : X.mg "range" = none) (h1 : SE X C x1 e1) (h2 : SE X C x2 e2) (hs : NoStar e1) (hs2 : NoStar e2) :
    SE X C (.prim .listr (.cons x1 (.cons x2 .nil))) (.Call (.Name "list" pp) [.Call (.Name "range" p2) [e1, e2] [] p3] [] pos) := by
  refine se_val ((pe_listRg hc hg hm (prg_2 hg2 hm2 h1.pe h2.pe (hs _ _) (hs2 _ _) (by rw [hs2]; rfl)) rfl).lgi fun σ H Q q => ?_)
  obtain ⟨f, c, S, env, rel, post⟩ := q
  have e : ∀ {ns : List Int} {env : En} {c : Nat}, evE ns C.Φ C.gv (.prim .listr (.cons x1 (.cons x2 .nil))) env c = (evE ns C.Φ C.gv x1 env c).thn fun d c => (evE ns C.Φ C.gv x2 env c).thn fun d2 c => (primD .listr [d, d2]).at c := fun {ns env c} => by
    rw [evE, evA]
    cases evE ns C.Φ C.gv x1 env c with
    | ok p =>
      obtain ⟨d, c1⟩ := p
      simp only [R.thn_ok]
      rw [evA]
      cases evE ns C.Φ C.gv x2 env c1 with
      | ok p =>
        obtain ⟨d2, c2⟩ := p
        simp only [R.thn_ok]
        rw [evA]
        rfl
      | exn k c0 => rfl
      | bad => rfl
    | exn k c0 => rfl
    | bad => rfl
  rw [e] at post
  refine ⟨f, c, S, env, rel, post.thn rel.wf fun d c1 S1 H1 v _ g1 r1 post1 => ?_⟩
  have rel1 := rel.gr g1
  refine ⟨f, c1, S1, env, rel1, post1.thn rel1.wf fun d2 c2 S2 H2 v2 _ g2 r2 post2 => ?_⟩
  have wf2 := (rel1.gr g2).wf
  cases r1 with
  | int i =>
    cases r2 with
    | int j =>
      have post3 : Post f (fun k H' => C.W k σ H') (Rep X.prog X.w X.K) S2 H2 (R.at (if (bounded i && bounded j) = true then R.ok (.list (rangeU i j)) else .bad) c2) Q := post2
      split at post3
      · rename_i hl
        unfold bounded at hl
        simp only [Bool.and_eq_true, decide_eq_true_eq] at hl
        have hn : (rangeU i j).length ≤ LIM := by
          unfold rangeU
          have hLIM : LIM = 1000000 := rfl
          rw [List.length_map, List.length_range]
          omega
        exact ⟨i, j, rfl, rfl, ⟨by omega, by omega, by omega, by omega, by omega⟩, fun p hp => post3 _ _ _ (wf2.fresh hp _) (.lst upd_same hn (rgV_R _ _))⟩
      · exact (show False from post3).elim
    | _ => exact (show False from post2).elim
  | _ => cases r2 <;> exact (show False from post2).elim
end
end LG

/-! LgZ: _law_which(e), called while e is handled. -/
namespace LG
open PySem PySem.Spec PyProof.Rows L2
/-- isinstance(e, c), e a pinned exception -/
theorem call_isP {X : Cx} {a D : Addr} {oe : Obj} (hp : (a, oe) ∈ X.pn) (C : ExcC X.K D) (hz : Zc (.ref D) none oe) (hf : ∃ vs, oe.data = .fields vs) : CallR X (.builtin "isinstance") (rIsE X.K D a) := by
  intro pins s σ H xs us Q I r h
  obtain ⟨c, cv, b, rfl, hcv, e, q⟩ := h
  cases r with
  | cons rx rr =>
    cases rr with
    | cons rt rr =>
      cases rr
      cases rx
      have ec := hcv _ rt
      subst ec
      obtain ⟨hget, _⟩ := I.pin (a, oe) (List.mem_append.mpr (.inl hp))
      obtain ⟨vs, hv⟩ := hf
      have J : PySem.W.InstAt s.heap a oe D none := by
        obtain ⟨oc, od, oda, osl⟩ := oe
        obtain ⟨h1, h2⟩ := hz
        dsimp only at h1 h2 hv
        subst h1 h2 hv
        exact ⟨hget, rfl, rfl, trivial⟩
      exact PySem.W.kia_one (PySem.W.handS_kitx_exc C.hg C.hk C.hs C.hd C.ha C.hn C.ht C.hm) I.kIn J e (fun z => nomatch z) fun tk => ⟨.bl b, H, I.kept (t' := tk) fun _ _ z => z, rfl, q⟩
/-! ### the text -/
def isiM (sc : Scope) (x : Str) (e : Expr) : Bool := match e with
  | .Call (.Name f _) [.Name v _, .Name y _] [] _ => decide (f = ("isinstance" : Str)) && decide (v = ("e" : Str)) && decide (y = x) && decide (sc.names.lookup x = some .globalImplicit)
  | _ => false
def isisM (sc : Scope) : List Str → List Expr → Bool
  | [], [] => true
  | x :: xs, e :: es => isiM sc x e && isisM sc xs es
  | _, _ => false
def extM (sc : Scope) (xs : List Str) (s : Stmt) : Bool := match s with
  | .Expr (.Call (.Attribute (.Name o _) a ap) [.List es _] [] cp) _ => decide (o = ("own" : Str)) && decide (a = ("extend" : Str)) && (ap.endLine == cp.line) && isisM sc xs es
  | _ => false
def whM (sc : Scope) (ss : List Stmt) : Bool := match ss with
  | [.Assign [.Name o _] (.List es _) _, s2, s3, s4, s5,
     .If (.BoolOp .Or [.Compare (.Call (.Attribute (.Name o2 _) a2 ap2) [.Constant (.bool true) _ _] [] cp2) [.NotEq] [.Constant (.int 1) _ _] _, .UnaryOp .Not ve _] _) [.Return (some (.Tuple [.Constant (.str r1) _ _, .UnaryOp .USub (.Constant (.int 1) _ _) _] _ _)) _] [] _,
     .Return (some (.Tuple [.Constant (.str r2) _ _, .Call (.Attribute (.Name o3 _) a3 ap3) [.Constant (.bool true) _ _] [] cp3] _ _)) _] =>
    decide (o = ("own" : Str)) && isisM sc ["InvalidSize", "InvalidPoint", "InvalidLabels"] es && extM sc ["InvalidTriangle", "InvalidPair", "InvalidEdge"] s2 && extM sc ["InvalidColours", "InvalidPreferences", "InvalidImages"] s3 && extM sc ["NotFull", "NotProper", "AlreadyAsked"] s4 && extM sc ["NothingToUndo", "ParseError"] s5 &&
    decide (o2 = ("own" : Str)) && decide (a2 = ("count" : Str)) && (ap2.endLine == cp2.line) && isiM sc "ValueError" ve && decide (r1 = raisedS) && decide (r2 = raisedS) && decide (o3 = ("own" : Str)) && decide (a3 = ("index" : Str)) && (ap3.endLine == cp3.line)
  | _ => false
/-- facts of the classes: of an exception of number k -/
structure WhK (K : PySem.W.Frag) (mg : Str → Option Value) (ex : EV) (k : Nat) : Prop where
  ok : ∃ D, ex.2 k = .ref D ∧ ExcC K D ∧ PySem.W.kitOne K (.ref D) (.type "ValueError") = some true ∧
    ∀ j x, (j, x) ∈ [(1, "InvalidSize"), (2, "InvalidPoint"), (4, "InvalidLabels"), (5, "InvalidTriangle"), (6, "InvalidPair"), (7, "InvalidEdge"), (8, "InvalidColours"), (9, "InvalidPreferences"), (10, "InvalidImages"), (11, "NotFull"), (12, "NotProper"), (13, "AlreadyAsked"), (14, "NothingToUndo"), (15, "ParseError")] → ∃ A, mg (Str.ofString x) = some (.ref A) ∧ PySem.W.kitOne K (.ref D) (.ref A) = some (decide (k = j))
section
variable {X : Cx} {a D : Addr} {oe : Obj} {ex : EV} {k : Nat}
def tE0 (a : Addr) (v : V) : TE := fun σ H Q => σ[0]? = some (some (.ref a)) ∧ Q v H
theorem pe_isi {x : Str} {b : Bool} {e : Expr} {cv : Value} {c : V} (hp : (a, oe) ∈ X.pn) (C : ExcC X.K D) (hz : Zc (.ref D) none oe) (hf : ∃ vs, oe.data = .fields vs) (hN : X.N[0]? = some ("e" : Str)) (hv : Vis X.env.scope "e") (hm : X.mg "isinstance" = none) (hgi : Gl X "isinstance")
    (hc : ∀ p, PE X (.Name x p) (tC c)) (hr : ∀ u, RelV c u → u = cv) (hk : PySem.W.kitOne X.K (.ref D) cv = some b) (h : isiM X.env.scope x e = true) : PE X e (tE0 a (.bl b)) := by
  unfold isiM at h
  split at h
  · rename_i f p v q y r pos
    simp only [Bool.and_eq_true, decide_eq_true_eq] at h
    obtain ⟨⟨⟨rfl, rfl⟩, rfl⟩, _⟩ := h
    refine (pe_callB (call_isP hp C hz hf) hgi hm boot_isinstance (pa_cons (pe_var (i := 0) hN hv) (pa_cons (hc r) pa_nil))).lgi fun σ H Q q => ?_
    exact ⟨_, q.1, c, cv, b, rfl, hr, hk, q.2⟩
  · cases h
theorem pa_isis : ∀ {es : List Expr} {bs : List Bool}, es.length = bs.length → (∀ (i : Nat) e b, es[i]? = some e → bs[i]? = some b → PE X e (tE0 a (.bl b)) ∧ NoStar e) → PA X es (fun σ H Q => σ[0]? = some (some (.ref a)) ∧ Q (bs.map V.bl) H)
  | [], [], _, _ => pa_nil.lgi fun σ H Q q => q.2
  | e :: es, b :: bs, hl, h => by
    have h0 := h 0 e b rfl rfl
    have ih := pa_isis (bs := bs) (es := es) (by simpa using hl) fun i e b h1 h2 => h (i + 1) e b (by simpa using h1) (by simpa using h2)
    exact (pa_cons h0.1 ih (h0.2 _ _)).lgi fun σ H Q q => ⟨q.1, q.1, q.2⟩
/-! ### lists of bools -/
theorem dpAll_bools {K : PySem.W.Frag} {H : Hp} : ∀ bs : List Bool, DpAll K H (bs.map V.bl) (bs.map PyData.bool)
  | [] => .nil
  | b :: bs => .cons (.bl b) (dpAll_bools bs)
theorem lay_bools : ∀ bs : List Bool, PyData.canLayAll0 (bs.map PyData.bool) = true
  | [] => rfl
  | b :: bs => by
    show (PyData.canLay0 (.bool b) && PyData.canLayAll0 (bs.map PyData.bool)) = true
    rw [lay_bools bs]
    rfl
def rCntB (K : PySem.W.Frag) : V → List V → Hp → VK → Prop := fun x xs H Q => ∃ (l : Addr) (bs : List Bool) (b : Bool), x = .ref l ∧ xs = [.bl b] ∧ SqL K H l (bs.map V.bl) ∧ Q (.int (((bs.map PyData.bool).countP fun y => PyData.eqv y (.bool b) : Nat) : Int)) H
theorem mt_countB (hu : X.A.units + 1 < cLine) : MtR X "list.count" (rCntB X.K) := by
  intro pins s σ H x xs v us Q I rx rxs h
  obtain ⟨l, bs, b, rfl, rfl, hs, q⟩ := h
  cases rx
  obtain ⟨u, rfl, ru⟩ := rxs.one
  obtain ⟨its, rvs, p, hz⟩ := I.list hs
  obtain ⟨as, hread⟩ := Dp.readsAll I _ _ its (dpAll_bools bs) rvs
  obtain ⟨bs', hy⟩ := Dp.reads I (.bool b) (.bl b) _ (.bl b) ru
  refine PySem.SeqAt.count_list_data (vs := its.toArray) p.isList (by simpa using hread) hy (PyData.plainAll_of_canLay0 _ (lay_bools bs)) rfl (by
    have : PyData.depth (.bool b) = 0 := rfl
    omega) ?_
  exact ⟨.int _, H, I.tok _, ⟨_, rfl⟩, q⟩
/-- own.extend([isinstance(e, ..), ..]) -/
def tExt (a : Addr) (zs : List Bool) : TS := fun D σ H => ∃ (l : Addr) (xs : List V), σ = [some (.ref a), some (.ref l)] ∧ H l = some (.lst xs) ∧ xs.length ≤ 100 ∧ zs.length ≤ 100 ∧ ∀ t, H t = none → D.nx σ (upd (upd H t (.lst (zs.map V.bl))) l (.lst (xs ++ zs.map V.bl)))
theorem ps_extM {xs : List Str} {st : Stmt} {zs : List Bool} (hN : X.N[1]? = some ("own" : Str)) (hv : Vis X.env.scope "own") (h : extM X.env.scope xs st = true) (ha : ∀ es, isisM X.env.scope xs es = true → PA X es (fun σ H Q => σ[0]? = some (some (.ref a)) ∧ Q (zs.map V.bl) H)) : PS X st (tExt a zs) := by
  unfold extM at h
  split at h
  · rename_i o p n ap es q cp pos
    simp only [Bool.and_eq_true, decide_eq_true_eq] at h
    obtain ⟨⟨⟨rfl, rfl⟩, hl⟩, hes⟩ := h
    refine (ps_expr (pe_bm PySem.F.plainAttrs_list PySem.F.slot_list_extend PySem.F.type_list_extend mt_extend (pe_var (i := 1) hN hv) (pa_cons (pe_lst (ha es hes)) pa_nil) rfl rfl hl)).lgi fun D σ H q => ?_
    obtain ⟨l, xs, rfl, hH, h1, h2, k⟩ := q
    have hsz : sizeLine = 2 ^ 24 := rfl
    refine ⟨_, rfl, .inl ⟨rfl, xs, SqL.of hH⟩, rfl, by rw [List.length_map]; omega, fun t ht => ?_⟩
    have ne : l ≠ t := ne_of_none hH ht
    exact ⟨l, t, xs, zs.map V.bl, rfl, rfl, by rw [upd_ne ne]; exact hH, upd_same, by rw [List.length_map]; omega, k t ht⟩
  · cases h
/-! ### the body -/
def whPairs : List (Nat × String) := [(1, "InvalidSize"), (2, "InvalidPoint"), (4, "InvalidLabels"), (5, "InvalidTriangle"), (6, "InvalidPair"), (7, "InvalidEdge"), (8, "InvalidColours"), (9, "InvalidPreferences"), (10, "InvalidImages"), (11, "NotFull"), (12, "NotProper"), (13, "AlreadyAsked"), (14, "NothingToUndo"), (15, "ParseError")]
/-- where the body stands -/
structure WhX (X : Cx) (ex : EV) (k : Nat) (a : Addr) (oe : Obj) : Prop where
  pn : (a, oe) ∈ X.pn
  wk : WhK X.K X.mg ex k
  zc : Zc (ex.2 k) none oe
  fl : ∃ vs, oe.data = .fields vs
  N : X.N = [("e" : Str), "own"]
  ve : Vis X.env.scope "e"
  vo : X.env.scope.names.lookup ("own" : Str) = some .local
  gi : Gl X "isinstance"
  mi : X.mg "isinstance" = none
  mv : X.mg "ValueError" = none
  un : X.A.units + 200 < cLine
theorem isi_glob {sc : Scope} {x : Str} {e : Expr} (h : isiM sc x e = true) : sc.names.lookup x = some .globalImplicit ∧ NoStar e ∧ ∀ env whole, isTrue e env whole = (do let v ← whole; standAt e.pos; holding [v] (truthy v)) := by
  unfold isiM at h
  split at h
  · simp only [Bool.and_eq_true, decide_eq_true_eq] at h
    exact ⟨h.2, fun _ _ => rfl, fun _ _ => rfl⟩
  · cases h
theorem WhX.one (h : WhX X ex k a oe) {j : Nat} {x : String} (hj : (j, x) ∈ whPairs) (hd : ((Str.ofString x) == ("__debug__" : Str)) = false) {e : Expr} (he : isiM X.env.scope (Str.ofString x) e = true) : PE X e (tE0 a (.bl (decide (k = j)))) ∧ NoStar e := by
  obtain ⟨D, e1, C, _, hp⟩ := h.wk.ok
  obtain ⟨A, m1, m2⟩ := hp j x hj
  have hz := h.zc
  rw [e1] at hz
  obtain ⟨g1, g2, _⟩ := isi_glob he
  exact ⟨pe_isi (c := .ref A) (cv := .ref A) h.pn C hz h.fl (by rw [h.N]; rfl) h.ve h.mi h.gi (fun p => pe_glob (by unfold Gl Env.kindOf; exact g1) m1 rfl hd) (fun u r => r) m2 he, g2⟩
theorem WhX.many (h : WhX X ex k a oe) : ∀ (ps : List (Nat × String)), (∀ p ∈ ps, p ∈ whPairs) → ∀ es, isisM X.env.scope (ps.map fun p => Str.ofString p.2) es = true → PA X es (fun σ H Q => σ[0]? = some (some (.ref a)) ∧ Q ((ps.map fun p => decide (k = p.1)).map V.bl) H)
  | [], _, [], _ => pa_nil.lgi fun σ H Q q => q.2
  | [], _, _ :: _, z => by cases z
  | _ :: _, _, [], z => by cases z
  | p :: ps, hm, e :: es, he => by
    have he : (isiM X.env.scope (Str.ofString p.2) e && isisM X.env.scope (ps.map fun p => Str.ofString p.2) es) = true := he
    rw [Bool.and_eq_true] at he
    have hd : ∀ q ∈ whPairs, ((Str.ofString q.2) == ("__debug__" : Str)) = false := by decide +kernel
    obtain ⟨o1, o2⟩ := h.one (hm p List.mem_cons_self) (hd p (hm p List.mem_cons_self)) he.1
    have ih := h.many ps (fun q hq => hm q (List.mem_cons_of_mem _ hq)) es he.2
    exact (pa_cons o1 ih (o2 _ _)).lgi fun σ H Q q => ⟨q.1, q.1, q.2⟩
def whB (k : Nat) : List Bool := whPairs.map fun p => decide (k = p.1)
theorem wh_all : ∀ k, k < 16 → (((whB k).map PyData.bool).countP (fun y => PyData.eqv y (.bool true)) = 1 ∧ ∃ j : Nat, (whB k)[j]? = some true ∧ (∀ m : Nat, m < j → (whB k)[m]? = some false) ∧ whichI k = (j : Int)) ∨ (((whB k).map PyData.bool).countP (fun y => PyData.eqv y (.bool true)) ≠ 1 ∧ whichI k = -1) := by
  intro k hk
  have : k = 0 ∨ k = 1 ∨ k = 2 ∨ k = 3 ∨ k = 4 ∨ k = 5 ∨ k = 6 ∨ k = 7 ∨ k = 8 ∨ k = 9 ∨ k = 10 ∨ k = 11 ∨ k = 12 ∨ k = 13 ∨ k = 14 ∨ k = 15 := by omega
  rcases this with rfl | rfl | rfl | rfl | rfl | rfl | rfl | rfl | rfl | rfl | rfl | rfl | rfl | rfl | rfl | rfl
  · exact .inr ⟨by decide +kernel, rfl⟩
  · exact .inl ⟨by decide +kernel, 0, rfl, by decide +kernel, rfl⟩
  · exact .inl ⟨by decide +kernel, 1, rfl, by decide +kernel, rfl⟩
  · exact .inr ⟨by decide +kernel, rfl⟩
  · exact .inl ⟨by decide +kernel, 2, rfl, by decide +kernel, rfl⟩
  · exact .inl ⟨by decide +kernel, 3, rfl, by decide +kernel, rfl⟩
  · exact .inl ⟨by decide +kernel, 4, rfl, by decide +kernel, rfl⟩
  · exact .inl ⟨by decide +kernel, 5, rfl, by decide +kernel, rfl⟩
  · exact .inl ⟨by decide +kernel, 6, rfl, by decide +kernel, rfl⟩
  · exact .inl ⟨by decide +kernel, 7, rfl, by decide +kernel, rfl⟩
  · exact .inl ⟨by decide +kernel, 8, rfl, by decide +kernel, rfl⟩
  · exact .inl ⟨by decide +kernel, 9, rfl, by decide +kernel, rfl⟩
  · exact .inl ⟨by decide +kernel, 10, rfl, by decide +kernel, rfl⟩
  · exact .inl ⟨by decide +kernel, 11, rfl, by decide +kernel, rfl⟩
  · exact .inl ⟨by decide +kernel, 12, rfl, by decide +kernel, rfl⟩
  · exact .inl ⟨by decide +kernel, 13, rfl, by decide +kernel, rfl⟩
theorem which_body (h : WhX X ex k a oe) (hk : k < 16) {ss : List Stmt} (hm : whM X.env.scope ss = true) {H : Hp} {Q : VK} (hq : ∀ H' t, Sub H H' → H t = none → H' t = some (.tup [.str raisedS, .int (whichI k)]) → Q (.ref t) H') :
    ∃ t, PSs X ss t ∧ t { nx := fun _ H' => Q .non H', rt := Q } [some (.ref a), none] H := by
  unfold whM at hm
  split at hm
  · rename_i o _ es _ _ s2 s3 s4 s5 o2 _ a2 ap2 _ _ cp2 _ _ _ ve _ _ r1 _ _ _ _ _ _ _ _ _ r2 _ _ o3 _ a3 ap3 _ _ cp3 _ _ _
    simp only [Bool.and_eq_true, decide_eq_true_eq] at hm
    obtain ⟨⟨⟨⟨⟨⟨⟨⟨⟨⟨⟨⟨⟨⟨rfl, m1⟩, m2⟩, m3⟩, m4⟩, m5⟩, rfl⟩, rfl⟩, l2⟩, mv⟩, rfl⟩, rfl⟩, rfl⟩, rfl⟩, l3⟩ := hm
    have nd : X.N.Nodup := by rw [h.N]; decide
    have n1 : X.N[1]? = some ("own" : Str) := by rw [h.N]; rfl
    have vo : Vis X.env.scope "own" := .inl h.vo
    have hsz : sizeLine = 2 ^ 24 := rfl
    -- the text's parts
    have A1 := h.many [(1, "InvalidSize"), (2, "InvalidPoint"), (4, "InvalidLabels")] (by decide +kernel) es m1
    have P2 := ps_extM (a := a) n1 vo m2 (h.many [(5, "InvalidTriangle"), (6, "InvalidPair"), (7, "InvalidEdge")] (by decide +kernel))
    have P3 := ps_extM (a := a) n1 vo m3 (h.many [(8, "InvalidColours"), (9, "InvalidPreferences"), (10, "InvalidImages")] (by decide +kernel))
    have P4 := ps_extM (a := a) n1 vo m4 (h.many [(11, "NotFull"), (12, "NotProper"), (13, "AlreadyAsked")] (by decide +kernel))
    have P5 := ps_extM (a := a) n1 vo m5 (h.many [(14, "NothingToUndo"), (15, "ParseError")] (by decide +kernel))
    obtain ⟨D, e1, C, kv, _⟩ := h.wk.ok
    have hz := h.zc
    rw [e1] at hz
    obtain ⟨g1, g2, g3⟩ := isi_glob mv
    have PV := pe_isi (c := .ty "ValueError") (cv := .type "ValueError") h.pn C hz h.fl (by rw [h.N]; rfl) h.ve h.mi h.gi (fun p => pe_bltn (by unfold Gl Env.kindOf; exact g1) h.mv (by decide +kernel) rfl) (fun u r => r) kv mv
    refine ⟨_, pss_cons (ps_set (i := 1) nd n1 (.inl h.vo) (pe_lst A1) rfl (.inr h.vo)) (pss_cons P2 (pss_cons P3 (pss_cons P4 (pss_cons P5 (pss_cons
      (ps_if (PW.pt (pw_or (pt_cmpR op_ne (pe_bm PySem.F.plainAttrs_list PySem.F.slot_list_count PySem.F.type_list_count (mt_countB (by have := h.un; omega)) (pe_var (i := 1) n1 vo) (pa_cons pe_bl pa_nil) rfl rfl l2) pe_int (nomark _)) (pw_or1 (pt_not (pt_val PV (g3 _)))))) (pss_one (ps_ret (pe_tup (pa_cons pe_str (pa_cons (pe_un un_neg pe_int) pa_nil))))) pss_nil)
      (pss_one (ps_ret (pe_tup (pa_cons pe_str (pa_cons (pe_bm PySem.F.plainAttrs_list PySem.F.slot_list_index PySem.F.type_list_index mt_index (pe_var (i := 1) n1 vo) (pa_cons pe_bl pa_nil) rfl rfl l3) pa_nil)))))))))), ?_⟩
    have st : ∀ {H1 : Hp} {t l : Addr} {o o' : HO}, Sub H H1 → H1 t = none → H l = none → Sub H (upd (upd H1 t o) l o') := fun {H1 t l o o'} s1 ht hl b u q => by
      have n1 : b ≠ l := fun z => by rw [z, hl] at q; cases q
      have n2 : b ≠ t := fun z => by have := s1 b u q; rw [z, ht] at this; cases this
      rw [upd_ne n1, upd_ne n2]
      exact s1 b u q
    refine ⟨rfl, by show 3 ≤ sizeLine; omega, fun l hl => ?_⟩
    have s1 : Sub H (upd H l (.lst (([(1, "InvalidSize"), (2, "InvalidPoint"), (4, "InvalidLabels")].map fun p => decide (k = p.1)).map V.bl))) := fun b u q => by
      have n1 : b ≠ l := fun z => by rw [z, hl] at q; cases q
      rw [upd_ne n1]
      exact q
    refine ⟨l, _, rfl, upd_same, by show 3 ≤ 100; decide, by show 3 ≤ 100; decide, fun t2 h2 => ?_⟩
    have s2 := st (o := .lst (([(5, "InvalidTriangle"), (6, "InvalidPair"), (7, "InvalidEdge")].map fun p => decide (k = p.1)).map V.bl)) (o' := .lst ((([(1, "InvalidSize"), (2, "InvalidPoint"), (4, "InvalidLabels")].map fun p => decide (k = p.1)).map V.bl) ++ (([(5, "InvalidTriangle"), (6, "InvalidPair"), (7, "InvalidEdge")].map fun p => decide (k = p.1)).map V.bl))) s1 h2 hl
    refine ⟨l, _, rfl, upd_same, by show 6 ≤ 100; decide, by show 3 ≤ 100; decide, fun t3 h3 => ?_⟩
    have s3 := st (o := .lst (([(8, "InvalidColours"), (9, "InvalidPreferences"), (10, "InvalidImages")].map fun p => decide (k = p.1)).map V.bl)) (o' := .lst (((([(1, "InvalidSize"), (2, "InvalidPoint"), (4, "InvalidLabels")].map fun p => decide (k = p.1)).map V.bl) ++ (([(5, "InvalidTriangle"), (6, "InvalidPair"), (7, "InvalidEdge")].map fun p => decide (k = p.1)).map V.bl)) ++ (([(8, "InvalidColours"), (9, "InvalidPreferences"), (10, "InvalidImages")].map fun p => decide (k = p.1)).map V.bl))) s2 h3 hl
    refine ⟨l, _, rfl, upd_same, by show 9 ≤ 100; decide, by show 3 ≤ 100; decide, fun t4 h4 => ?_⟩
    have s4 := st (o := .lst (([(11, "NotFull"), (12, "NotProper"), (13, "AlreadyAsked")].map fun p => decide (k = p.1)).map V.bl)) (o' := .lst ((((([(1, "InvalidSize"), (2, "InvalidPoint"), (4, "InvalidLabels")].map fun p => decide (k = p.1)).map V.bl) ++ (([(5, "InvalidTriangle"), (6, "InvalidPair"), (7, "InvalidEdge")].map fun p => decide (k = p.1)).map V.bl)) ++ (([(8, "InvalidColours"), (9, "InvalidPreferences"), (10, "InvalidImages")].map fun p => decide (k = p.1)).map V.bl)) ++ (([(11, "NotFull"), (12, "NotProper"), (13, "AlreadyAsked")].map fun p => decide (k = p.1)).map V.bl))) s3 h4 hl
    refine ⟨l, _, rfl, upd_same, by show 12 ≤ 100; decide, by show 2 ≤ 100; decide, fun t5 h5 => ?_⟩
    have s5 := st (o := .lst (([(14, "NothingToUndo"), (15, "ParseError")].map fun p => decide (k = p.1)).map V.bl)) (o' := .lst ((whB k).map V.bl)) s4 h5 hl
    have up : ∀ {H5 : Hp}, Sub H H5 → ∀ p, H5 p = none → ∀ n, n = whichI k → Q (.ref p) (upd H5 p (.tup [.str raisedS, .int n])) := fun {H5} s p hp n hn => by
      subst hn
      have hn : H p = none := by
        cases e : H p with
        | none => rfl
        | some u => rw [s p u e] at hp; cases hp
      exact hq _ p (fun b u q => by
        have ne : b ≠ p := fun z => by rw [z, hn] at q; cases q
        rw [upd_ne ne]
        exact s b u q) hn upd_same
    refine ⟨_, rfl, .inl ⟨rfl, _, SqL.of upd_same⟩, l, whB k, true, rfl, rfl, SqL.of upd_same, rfl, _, rfl, ?_⟩
    rcases wh_all k hk with ⟨c1, j, j1, j2, j3⟩ | ⟨c1, j3⟩
    · rw [c1]
      show if (!decide (V.int 1 = V.int 1)) = true then _ else _
      rw [if_neg (by decide)]
      refine ⟨rfl, _, rfl, ?_⟩
      show if (!true) = true then _ else _
      rw [if_neg (by decide)]
      refine ⟨_, rfl, .inl ⟨rfl, _, SqL.of upd_same⟩, l, (whB k).map V.bl, .bl true, j, .bl true, rfl, rfl, SqL.of upd_same, rfl, ?_, by rw [List.getElem?_map, j1]; rfl, rfl, fun m z' hm hz' => ?_, by show 2 ≤ sizeLine; omega, fun p hp => up s5 p hp _ j3.symm⟩
      · rw [List.all_map]
        exact List.all_eq_true.mpr fun _ _ => rfl
      · rw [List.getElem?_map, j2 m hm] at hz'
        cases hz'
        rfl
    · have : (!decide (V.int (((whB k).map PyData.bool).countP fun y => PyData.eqv y (.bool true) : Nat) = V.int 1)) = true := by
        rw [Bool.not_eq_true', decide_eq_false_iff_not]
        intro z
        have z : ((((whB k).map PyData.bool).countP fun y => PyData.eqv y (.bool true) : Nat) : Int) = 1 := V.int.inj z
        exact c1 (by omega)
      rw [this, if_pos rfl]
      show if true = true then _ else _
      rw [if_pos rfl]
      exact ⟨1, rfl, by show 2 ≤ sizeLine; omega, fun p hp => up s5 p hp _ j3.symm⟩
  · cases hm
end
end LG

/-! LgM: the text of a def against the small language, by a yes or no; that a yes is enough. -/
namespace LG
open PySem PySem.Spec PyProof.Rows L2

/-- what is known where a text stands: its names, its scope, its callees, its constants -/
structure MC where
  N : List Str
  sc : Scope
  fn : Str → Bool
  cal : List (Str × Bool × Nat)
  gn : List Str
  tr : Bool
  xs : List Nat
  fr : List Nat
  mks : Bool × List (Nat × Str × Nat)
def visM (sc : Scope) (x : Str) : Bool := match sc.names.lookup x with
  | some .local => true
  | some .cell => true
  | some .free => true
  | _ => false
def locM (M : MC) (x : Str) : Bool := match M.sc.names.lookup x with
  | some .local => true
  | some .cell => M.fn x
  | _ => false
def glM (sc : Scope) (x : Str) : Bool := decide (sc.names.lookup x = some .globalImplicit)
def plainNm (x : Str) : Bool := !(x == ("__debug__" : Str)) && !(x == ("__classdict__" : Str))
def varM (M : MC) (i : Nat) (e : Expr) : Bool := match e with
  | .Name x _ => decide (M.N[i]? = some x) && visM M.sc x && plainNm x
  | _ => false
def noStarM : Expr → Bool
  | .Starred .. => false
  | _ => true
def noSetM : Expr → Bool
  | .Set .. => false
  | _ => true
def noCompM : Expr → Bool
  | .ListComp .. => false
  | .SetComp .. => false
  | .DictComp .. => false
  | _ => true
def conM : D → Expr → Bool
  | .int i, .Constant (.int j) _ _ => decide (i = j)
  | .str x, .Constant (.str y) _ _ => decide (x = y)
  | .bool a, .Constant (.bool b) _ _ => decide (a = b)
  | .none, .Constant .none _ _ => true
  | _, _ => false
def binM : BinO → Operator → Bool
  | .add, .Add => true
  | .sub, .Sub => true
  | .mul, .Mult => true
  | .fdiv, .FloorDiv => true
  | .mod, .Mod => true
  | _, _ => false
def cmpM : CmpO → CmpOp → Bool
  | .eq, .Eq => true
  | .ne, .NotEq => true
  | .lt, .Lt => true
  | .le, .LtE => true
  | .gt, .Gt => true
  | .ge, .GtE => true
  | .isin, .In => true
  | .notin, .NotIn => true
  | _, _ => false
/-- the built-in functions that are met as such -/
def prM : Pr → Option Str
  | .len => some "len"
  | .sorted => some "sorted"
  | .min1 => some "min"
  | .max1 => some "max"
  | .min2 => some "min"
  | .max2 => some "max"
  | .sum => some "sum"
  | .all => some "all"
  | .any => some "any"
  | .tuple => some "tuple"
  | .list => some "list"
  | .str => some "str"
  | .int => some "int"
  | _ => none
/-- f(g(..)): one built-in for two calls -/
def nsM : Pr → Option (Str × Str × Nat)
  | .sortedset => some ("sorted", "set", 1)
  | .listr => some ("list", "range", 2)
  | _ => none
/-- methods of values -/
def mtM : Pr → Option Str
  | .count => some "count"
  | .index => some "index"
  | .join => some "join"
  | .split => some "split"
  | _ => none
def noCallM : Expr → Bool
  | .Call (.Name _ _) [] [] _ => false
  | _ => true
/-- the program's exceptions, by number -/
def excNm : List Str := ["GridError", "InvalidSize", "InvalidPoint", "InvalidLabel", "InvalidLabels", "InvalidTriangle", "InvalidPair", "InvalidEdge", "InvalidColours", "InvalidPreferences", "InvalidImages", "NotFull", "NotProper", "AlreadyAsked", "NothingToUndo", "ParseError"]
def bltNames : List Str := ["len", "sorted", "min", "max", "sum", "all", "any", "tuple", "list", "range", "zip", "isinstance", "int", "bool", "str", "dict", "enumerate", "set"]
def rl (scope sc : Scope) : Scope :=
  { scope with names := scope.names.map fun (n, k) => if (k == .free && sc.kind == .function && sc.names.lookup n == some .cell) then (n, .cell) else (n, k) }
def MC.blk (M : MC) (scope : Scope) : MC := { M with sc := rl scope M.sc, fn := fun x => scope.names.lookup x == some .cell, tr := false, fr := [], mks := (false, []) }
def ownM (N : List Str) (vs : List Nat) : List (Str × Nat) := vs.map fun v => (N.getD v "", v)
def tgM (M : MC) : Tg → Expr → Bool
  | .nm i, .Name x _ => decide (M.N[i]? = some x) && locM M x
  | .tp is, .Tuple es _ _ => decide (es.length = is.length) && ((is.zip es).all fun p => match p.2 with
    | .Name x _ => decide (M.N[p.1]? = some x) && locM M x
    | _ => false)
  | _, _ => false
def plainIxM : Expr → Bool
  | .Constant .. => true
  | .Name .. => true
  | .BinOp .. => true
  | .UnaryOp .. => true
  | .Call .. => true
  | .Subscript .. => true
  | _ => false
def isDC : Pr → Bool
  | .dict => true
  | _ => false
def isDZ : Pr → Bool
  | .dictzip => true
  | _ => false
def calM (M : MC) (f : Nat) (x : Str) (t : Bool) : Bool := match M.cal[f]? with
  | some (y, tw, _) => decide (y = x) && (tw == t)
  | none => false
/-- the names of a list are defs -/
def fnsM (M : MC) : List Nat → List Expr → Bool
  | [], [] => true
  | f :: fs, .Name x _ :: es => calM M f x false && glM M.sc x && plainNm x && fnsM M fs es
  | _, _ => false
def lcM (M : MC) (vs : List Nat) (tg : Tg) (iter : Expr) (scope : Scope) : Bool := blkC M.N M.sc scope (ownM M.N vs) && (tgN tg).all (fun j => vs.contains j) && noSetM iter
mutual
def mE (M : MC) : Ex → Expr → Bool
  | .var i, e => varM M i e
  | .con d, e => conM d e
  | .glb g, e => (match e with
    | .Name x _ => decide (M.gn[g]? = some x) && glM M.sc x && plainNm x
    | _ => false)
  | .bin o a b, e => (match e with
    | .BinOp l op r _ => binM o op && mE M a l && mE M b r
    | _ => false)
  | .neg a, e => (match e with
    | .UnaryOp .USub e _ => mE M a e
    | _ => false)
  | .not a, e => (match e with
    | .UnaryOp .Not e _ => mE M a e
    | _ => false)
  | .cmp o a b, e => (match e with
    | .Compare l [op] [r] _ => cmpM o op && !behindInMarks op r && mE M a l && mE M b r
    | _ => false)
  | .isc neg a d, e => (match e with
    | .Compare l [op] [.Constant k _ _] _ => decide (op = if neg then .IsNot else .Is) && (match d, k with | .none, .none => true | .bool i, .bool j => decide (i = j) | _, _ => false) && mE M a l
    | _ => false)
  | .chn a b c, e => (match e with
    | .Compare l [.LtE, .LtE] [m, r] _ => !lastMarks [.LtE, .LtE] [m, r] && mE M a l && mE M b m && mE M c r
    | _ => false)
  | .and a b, e => (match e with
    | .BoolOp .And (e :: e2 :: rest) pos => mE M a e && mE M b (if rest.isEmpty then e2 else .BoolOp .And (e2 :: rest) pos)
    | _ => false)
  | .or a b, e => (match e with
    | .BoolOp .Or (e :: e2 :: rest) pos => mE M a e && mE M b (if rest.isEmpty then e2 else .BoolOp .Or (e2 :: rest) pos)
    | _ => false)
  | .ite t a b, e => (match e with
    | .IfExp c x y _ => mE M t c && mE M a x && mE M b y
    | _ => false)
  | .tup xs, e => (match e with
    | .Tuple es _ _ => mA M xs es
    | _ => false)
  | .lst xs, e => (match e with
    | .List es _ => mA M xs es
    | _ => false)
  | .dct .nil .nil, e => (match e with
    | .Dict [] [] _ => true
    | _ => false)
  | .dct (.cons xk .nil) (.cons xv .nil), e => (match e with
    | .Dict [some ke] [ve] _ => mE M xk ke && mE M xv ve
    | _ => false)
  | .dct _ _, _ => false
  | .idx a i, e => (match e with
    | .Subscript o e _ => plainIxM e && mE M a o && mE M i e
    | _ => false)
  | .slc a lo hi, e => (match e with
    | .Subscript o (.Slice l h none _) _ => mE M a o && mO M lo l && mO M hi h
    | _ => false)
  | .rev a, e => (match e with
    | .Subscript o (.Slice none none (some (.UnaryOp .USub (.Constant (.int 1) _ _) _)) _) _ => mE M a o
    | _ => false)
  | .call f xs, e => (match e with
    | .Call (.Name x _) (e :: es) [] _ => calM M f x false && glM M.sc x && plainNm x && mA M xs (e :: es)
    | _ => false)
  | .callT f xs, e => (match e with
    | .Call (.Name x _) (.Name a0 p0 :: .Name a1 p1 :: es) [] _ => calM M f x true && glM M.sc x && plainNm x && varM M 0 (.Name a0 p0) && varM M 1 (.Name a1 p1) && mA M xs es
    | _ => false)
  | .mk f xs, e => (match e with
    | .Call (.Name x _) (e :: es) [] _ => M.mks.1 && M.mks.2.contains (f, x, es.length + 1) && glM M.sc x && plainNm x && mA M xs (e :: es)
    | _ => false)
  | .callB f j xs, e => (match e with
    | .Call (.Name x _) (.Name y py :: es) [] _ => calM M f x false && glM M.sc x && plainNm x && varM M j (.Name y py) && mA M xs es
    | _ => false)
  | .callL fs i xs, e => (match e with
    | .Call (.Subscript (.List nms _) ie _) (e :: es) [] _ => decide (nms.length ≤ 100) && fnsM M fs nms && plainIxM ie && mE M i ie && mA M xs (e :: es)
    | _ => false)
  | .prim p xs, e => (match e with
    | .Call (.Name x _) (e :: es) [] _ => decide (prM p = some x) && glM M.sc x && mA M xs (e :: es) || (isDZ p && (match es, e with
      | [], .Call (.Name y _) [e1, e2] [] _ => decide (x = ("dict" : Str)) && decide (y = ("zip" : Str)) && glM M.sc x && glM M.sc y && mA M xs [e1, e2]
      | _, _ => false)) || (isDC p && es.isEmpty && decide (x = ("dict" : Str)) && glM M.sc x && mA M xs [e]) || (match nsM p, es, e with
      | some (a, b, n), [], .Call (.Name y _) es1 [] _ => decide (es1.length = n) && decide (x = a) && decide (y = b) && glM M.sc x && glM M.sc y && mA M xs es1
      | _, _, _ => false)
    | _ => false)
  | .mth p a xs, e => (match e with
    | .Call (.Attribute o n ap) (e :: es) [] cp => decide (mtM p = some n) && (ap.endLine == cp.line) && noCallM o && decide (es.length < 20) && mE M a o && mA M xs (e :: es)
    | _ => false)
  | .isi t a, e => (match e with
    | .Call (.Name x _) [e, .Name y _] [] _ => decide (x = ("isinstance" : Str)) && decide (y = (tyName t : Str)) && glM M.sc x && glM M.sc y && noStarM e && mE M a e
    | _ => false)
  | .inO neg a i, e => (match e with
    | .Compare l [op] [.Name y p] _ => decide (op = if neg then .NotIn else .In) && mE M a l && varM M i (.Name y p)
    | _ => false)
  | .eqO neg i b, e => (match e with
    | .Compare (.Name y p) [op] [r] _ => decide (op = if neg then .NotEq else .Eq) && mE M b r && varM M i (.Name y p)
    | _ => false)
  | .idxO i b, e => (match e with
    | .Subscript (.Name y p) e _ => plainIxM e && mE M b e && varM M i (.Name y p)
    | _ => false)
  | .getO i a b, e => (match e with
    | .Call (.Attribute (.Name y p) n ap) [e1, e2] [] cp => decide (n = ("get" : Str)) && (ap.endLine == cp.line) && varM M i (.Name y p) && noStarM e1 && noStarM e2 && mE M a e1 && mE M b e2
    | _ => false)
  | .comp vs tg it ifs elt, e => (match e with
    | .ListComp e [⟨t, iter, fs, 0⟩] scope _ => lcM M vs tg iter scope && mI M t it iter && tgM (M.blk scope) tg t && mF (M.blk scope) ifs fs && mE (M.blk scope) elt e
    | _ => false)
def mA (M : MC) : Exs → List Expr → Bool
  | .nil, es => es.isEmpty
  | .cons x xs, es => (match es with
    | e :: es => noStarM e && mE M x e && mA M xs es
    | [] => false)
def mO (M : MC) : Exo → Option Expr → Bool
  | .none, e => e.isNone
  | .some x, e => (match e with
    | some e => mE M x e
    | none => false)
/-- the tests of a comprehension: none or one -/
def mF (M : MC) : Exo → List Expr → Bool
  | .none, fs => fs.isEmpty
  | .some x, fs => (match fs with
    | [f] => mE M x f
    | _ => false)
def mI (M : MC) (t : Expr) : Itx → Expr → Bool
  | .seq x, e => mE M x e
  | .rng1 a, e => (match e with
    | .Call (.Name x _) [e] [] _ => decide (x = ("range" : Str)) && glM M.sc x && noStarM e && mE M a e
    | _ => false)
  | .rng2 a b, e => (match e with
    | .Call (.Name x _) [e, e2] [] _ => decide (x = ("range" : Str)) && glM M.sc x && noStarM e && noStarM e2 && mE M a e && mE M b e2
    | _ => false)
  | .rng3 a b, e => (match e with
    | .Call (.Name x _) [e, e2, .UnaryOp .USub (.Constant (.int 1) _ _) _] [] _ => decide (x = ("range" : Str)) && glM M.sc x && noStarM e && noStarM e2 && mE M a e && mE M b e2
    | _ => false)
  | .zip a b, e => (match e with
    | .Call (.Name x _) [e, e2] [] _ => decide (x = ("zip" : Str)) && glM M.sc x && tgOk t && noStarM e && noStarM e2 && mE M a e && mE M b e2
    | _ => false)
  | .enm a, e => (match t, e with
    | .Tuple _ _ _, .Call (.Name x _) [e] [] _ => decide (x = ("enumerate" : Str)) && glM M.sc x && noStarM e && mE M a e
    | _, _ => false)
end
/-- two or three plain local names of one line -/
def parM (M : MC) : List (Nat × Bool) → List Expr → List Expr → Bool
  | [(i, _), (j, _)], [.Name x p, .Name y q], es => decide (M.N[i]? = some x) && decide (M.N[j]? = some y) && decide (i ≠ j) && decide (M.sc.names.lookup x = some .local) && decide (M.sc.names.lookup y = some .local) && (q.line == p.line) && decide (es.length = 2) && !(es.all (foldedForSure 8)) && !(es.all (constantsAlone 8))
  | [(i, _), (j, _), (l, _)], [.Name x p, .Name y q, .Name z r], es => decide (M.N[i]? = some x) && decide (M.N[j]? = some y) && decide (M.N[l]? = some z) && decide (i ≠ j) && decide (i ≠ l) && decide (j ≠ l) && decide (M.sc.names.lookup x = some .local) && decide (M.sc.names.lookup y = some .local) &&
      decide (M.sc.names.lookup z = some .local) && (q.line == p.line) && (r.line == p.line) && decide (es.length = 3) && !(es.all (foldedForSure 8)) && !(es.all (constantsAlone 8))
  | _, _, _ => false
/-- names of which one at least is captured -/
def parC (M : MC) (is : List (Nat × Bool)) (ts : List Expr) : Bool := decide (ts.length = is.length) && decide (is.length ≤ 3) && ((is.zip ts).all fun p => match p.2 with | .Name x _ => decide (M.N[p.1.1]? = some x) && locM M x | _ => false) &&
  ts.any fun t => match t with | .Name x _ => !decide (M.sc.names.lookup x = some .local) | _ => false
def noTupM : Expr → Bool
  | .Tuple .. => false
  | _ => true
def isShr : Sm → Bool
  | .shr _ => true
  | _ => false
/-- the right side: which are containers of the frame's own -/
def freshM (fr : List Nat) : Ex → Bool
  | .lst _ => true
  | .comp .. => true
  | .dct .. => true
  | .prim .dictzip _ => true
  | .prim .dict _ => true
  | .call f _ => fr.contains f
  | _ => false
def mAF (M : MC) : List (Nat × Bool) → Exs → List Expr → Bool
  | [], .nil, [] => true
  | (_, false) :: is, .cons x xs, e :: es => noStarM e && mE M x e && mAF M is xs es
  | (_, true) :: is, .cons x xs, e :: es => noStarM e && freshM M.fr x && mE M x e && mAF M is xs es
  | _, _, _ => false
def isHole : Sm → Bool
  | .hole => true
  | _ => false
/-- a list of defs with a name; a call through it and one more list -/
def retLM (M : MC) (s : Sm) (ss : List Stmt) : Bool := match s, ss with
  | .retL j fs i xs, [.Assign [.Name y _] (.List nms _) _, .Return (some (.Call (.Subscript (.BinOp (.Name y2 p4) .Add (.List nms2 _) _) ie _) (e :: es) [] _)) _] =>
    decide (y2 = y) && decide (M.N[j]? = some y) && locM M y && varM M j (.Name y2 p4) && decide (nms.length + nms2.length ≤ 100) && fnsM M (fs.take nms.length) nms && fnsM M (fs.drop nms.length) nms2 && plainIxM ie && mE M i ie && mA M xs (e :: es)
  | .retL j fs i xs, [.Assign [.Name y _] (.List nms _) _, .Return (some (.Call (.Subscript (.Name y2 p4) ie _) (e :: es) [] _)) _] =>
    decide (y2 = y) && decide (M.N[j]? = some y) && locM M y && varM M j (.Name y2 p4) && decide (nms.length ≤ 100) && fnsM M fs nms && plainIxM ie && mE M i ie && mA M xs (e :: es)
  | _, _ => false
/-- counting in a dict of numbers -/
def sprM (M : MC) (s : Sm) (ss : List Stmt) : Bool := match s, ss with
  | .spr i j tg it x, [.Assign [.Name y1 _] (.Dict [] [] _) _, .For t iter [.Assign [.Name z1 _] e _, .Assign [.Subscript (.Name y2 _) (.Name z2 _) _] (.BinOp (.Call (.Attribute (.Name y3 _) g r5) [.Name z3 _, .Constant (.int n0) _ _] [] r8) .Add (.Constant (.int n1) _ _) _) _] [] _,
      .Return (some (.Call (.Name so _) [.Call (.Attribute (.Name y4 _) itm s3) [] [] s4] [] _)) _] =>
    decide (y2 = y1) && decide (y3 = y1) && decide (y4 = y1) && decide (z2 = z1) && decide (z3 = z1) && decide (g = ("get" : Str)) && decide (n0 = 0) && decide (n1 = 1) && decide (so = ("sorted" : Str)) && decide (itm = ("items" : Str)) && (r5.endLine == r8.line) && (s3.endLine == s4.line) &&
    decide (M.N[i]? = some y1) && decide (M.N[j]? = some z1) && decide (i ≠ j) && !((tgN tg).contains i) && locM M y1 && locM M z1 && visM M.sc y1 && visM M.sc z1 && plainNm y1 && plainNm z1 && glM M.sc so && noSetM iter && noCompM e && mI M t it iter && tgM M tg t && mE M x e
  | _, _ => false
mutual
def mS (M : MC) : Sm → Stmt → Bool
  | .asg i x, s => (match s with
    | .Assign [.Name y _] e _ => decide (M.N[i]? = some y) && locM M y && mE M x e
    | _ => false)
  | .new i x, s => (match s with
    | .Assign [.Name y _] e _ => decide (M.N[i]? = some y) && locM M y && freshM M.fr x && mE M x e
    | _ => false)
  | .shr _, _ => false
  | .app i x, s => (match s with
    | .Expr (.Call (.Attribute (.Name y p) a ap) [e] [] cp) _ => decide (a = ("append" : Str)) && (ap.endLine == cp.line) && varM M i (.Name y p) && noStarM e && mE M x e
    | _ => false)
  | .ext i x, s => (match s with
    | .Expr (.Call (.Attribute (.Name y p) a ap) [e] [] cp) _ => decide (a = ("extend" : Str)) && (ap.endLine == cp.line) && varM M i (.Name y p) && noStarM e && mE M x e
    | _ => false)
  | .put i k v, s => (match s with
    | .Assign [.Subscript (.Name y p) ke _] e _ => plainIxM ke && varM M i (.Name y p) && mE M k ke && mE M v e
    | _ => false)
  | .unp is x, s => (match s with
    | .Assign [.Tuple ts _ _] e _ => noCompM e && noTupM e && tgM M (.tp is) (.Tuple ts 0 ⟨0, 0, 0, 0⟩) && mE M x e
    | _ => false)
  | .par is xs, s => (match s with
    | .Assign [.Tuple ts _ _] (.Tuple es _ _) _ => mAF M is xs es && (parM M is ts es || parC M is ts)
    | _ => false)
  | .aug i o x, s => (match s with
    | .AugAssign (.Name y _) op e _ => decide (M.N[i]? = some y) && locM M y && (match o, op with | .add, .Add => true | .mul, .Mult => true | _, _ => false) && mE M x e
    | _ => false)
  | .ife t a b, s => (match s with
    | .If e x y _ => mE M t e && mSs M a x && mSs M b y
    | _ => false)
  | .for' tg it b, s => (match s with
    | .For t iter body [] _ => noSetM iter && mI M t it iter && tgM M tg t && mSs M b body
    | _ => false)
  | .whl _ t b, s => (match s with
    | .While e body [] _ => mE M t e && mSs M b body
    | _ => false)
  | .ret x, s => (match s with
    | .Return (some e) _ => mE M x e
    | _ => false)
  | .exp x, s => (match s with
    | .Expr e _ => noCompM e && mE M x e
    | _ => false)
  | .rse k, s => (match s with
    | .Raise (some (.Call (.Name x _) [.Constant (.str _) _ _] [] _)) none _ => decide (excNm[k]? = some x) && M.xs.contains k && glM M.sc x && plainNm x
    | _ => false)
  | .nop, s => (match s with
    | .Pass _ => true
    | .Expr (.Constant (.str _) _ _) _ => true
    | _ => false)
  | .tryW i ov b, s => M.tr && (match ov, s with
    | [], .Try body [.ExceptHandler (some (.Name g _)) (some n) [.Return (some (.Call (.Name w _) [.Name n2 _] [] _)) _] _] [] [] _ =>
      decide (g = ("GridError" : Str)) && decide (w = ("_law_which" : Str)) && decide (n2 = n) && decide (M.N[i]? = some n) && decide (M.sc.names.lookup n = some .local) && glM M.sc g && glM M.sc w && plainNm n && mSs { M with tr := false, fr := [], mks := (true, M.mks.2) } b body
    | [(3, .tuple [.str r, .int z])], .Try body [.ExceptHandler (some (.Name l _)) none [.Return (some (.Tuple [.Constant (.str r2) _ _, .Constant (.int z2) _ _] _ _)) _] _, .ExceptHandler (some (.Name g _)) (some n) [.Return (some (.Call (.Name w _) [.Name n2 _] [] _)) _] _] [] [] _ =>
      decide (r2 = r) && decide (z2 = z) && decide (l = ("InvalidLabel" : Str)) && glM M.sc l && M.xs.contains 3 && decide (g = ("GridError" : Str)) && decide (w = ("_law_which" : Str)) && decide (n2 = n) && decide (M.N[i]? = some n) && decide (M.sc.names.lookup n = some .local) && glM M.sc g && glM M.sc w && plainNm n && mSs { M with tr := false, fr := [], mks := (true, M.mks.2) } b body
    | _, _ => false)
  | .retL _ _ _ _, _ => false
  | .hole, _ => false
  | .forP tg f i b, s => (match s with
    | .For t (.Call (.Name x _) [.Call (.Attribute (.Name y p) a ap) [] [] cp] [] _) body [] _ => decide (a = ("pop" : Str)) && (ap.endLine == cp.line) && calM M f x false && glM M.sc x && plainNm x && varM M i (.Name y p) && tgM M tg t && mSs M b body
    | _ => false)
  | .spr _ _ _ _ _, _ => false
def mSs (M : MC) : Sms → List Stmt → Bool
  | .nil, ss => ss.isEmpty
  | .cons s r, ss => isShr s && mSs M r ss || (isHole s || retLM M s ss) || sprM M s ss || (match ss with
    | st :: ss => mS M s st && mSs M r ss
    | [] => false)
end
end LG

/-! LgN: a yes of the matcher is enough: expressions. -/
namespace LG
open PySem PySem.Spec PyProof.Rows L2

/-- an exception may leave -/
structure ExcX (M : MC) (X : Cx) (C : Cn) (ex : EV) (k : Nat) (W0 : WX) : Prop where
  tk : Takes X W0
  W : ∀ k σ H, C.W k σ H → W0 (ex.2 k) none σ H
  on : ex.1 = true
  cal : ∀ (i : Nat) x tw n, M.cal[i]? = some (x, tw, n) → ∃ cl, C.Φ[i]? = some cl ∧ cl.tw = tw ∧ CalOk X ex k (L2.CX X.prog X.w) x cl n ∧ ∀ ns ds c r, cl.F ns ds c = r → r ≠ .bad → ds.length = n
  cls : ∀ (j : Nat) x, excNm[j]? = some x → M.xs.contains j = true → ∃ A, ex.2 j = .ref A ∧ X.mg x = some (.ref A) ∧ PySem.W.excIn X.K A [.type "ValueError", .type "Exception", .type "BaseException", .type "object"] "ValueError.__new__" = true ∧ PySem.W.keepIn X.K (.ref A) = true ∧ PySem.W.subIn X.K (.ref A) (.type "BaseException") = some true ∧ PySem.W.typeIn X.K (.ref A) = some (.type "type")
structure MX (M : MC) (X : Cx) (C : Cn) (ex : EV) (k : Nat) : Prop where
  hN : X.N = M.N
  sc : X.env.scope = M.sc
  kd : M.sc.kind = .function
  fn : X.fn = M.fn
  nd : M.N.Nodup
  calm : X.calm = true
  room : Room k X.A
  own : PassesOwn (model X.prog X.w) X.A X.env X.xe
  blt : ∀ x ∈ bltNames, X.mg x = none
  cal : ∀ (i : Nat) x tw n, M.cal[i]? = some (x, tw, n) → ∃ cl, C.Φ[i]? = some cl ∧ cl.tw = tw ∧ CalOk X ex0 k CX0 x cl n ∧ ∀ ns ds c r, cl.F ns ds c = r → r ≠ .bad → ds.length = n
  gv : ∀ (g : Nat) x, M.gn[g]? = some x → ∃ d v u, C.gv[g]? = some d ∧ X.mg x = some u ∧ RelV v u ∧ ∀ S, Rep X.prog X.w X.K S d v
  exc : (∀ k σ H, ¬ C.W k σ H) ∨ ∃ W0, ExcX M X C ex k W0
  mkc : M.mks.1 = true → ∃ W0, Takes X W0 ∧ (∀ k σ H, C.W k σ H → W0 (ex.2 k) none σ H) ∧ ex.1 = true ∧ ∀ f x n, M.mks.2.contains (f, x, n) = true → ∃ cl, C.Φ[f]? = some cl ∧ cl.tw = false ∧ MkOk X ex k x cl n ∧ ∀ ns ds c r, cl.F ns ds c = r → r ≠ .bad → ds.length = n
  calF : ∀ i, M.fr.contains i = true → (∀ k σ H, ¬ C.W k σ H) ∧ ∀ x tw n, M.cal[i]? = some (x, tw, n) → ∃ cl, C.Φ[i]? = some cl ∧ cl.tw = tw ∧ CalOkF X k x cl n ∧ ∀ ns ds c r, cl.F ns ds c = r → r ≠ .bad → ds.length = n
  tx : M.tr = true → TryX X ex M.xs ∧ ex.1 = true ∧ (∀ f x n, M.mks.2.contains (f, x, n) = true → ∃ cl, C.Φ[f]? = some cl ∧ cl.tw = false ∧ MkOk X ex k x cl n ∧ ∀ ns ds c r, cl.F ns ds c = r → r ≠ .bad → ds.length = n) ∧ (∀ (i : Nat) x tw n, M.cal[i]? = some (x, tw, n) → ∃ cl, C.Φ[i]? = some cl ∧ cl.tw = tw ∧ CalOk X ex k (L2.CX X.prog X.w) x cl n ∧ ∀ ns ds c r, cl.F ns ds c = r → r ≠ .bad → ds.length = n) ∧
    ∀ (j : Nat) x, excNm[j]? = some x → M.xs.contains j = true → ∃ A, ex.2 j = .ref A ∧ X.mg x = some (.ref A) ∧ PySem.W.excIn X.K A [.type "ValueError", .type "Exception", .type "BaseException", .type "object"] "ValueError.__new__" = true ∧ PySem.W.keepIn X.K (.ref A) = true ∧ PySem.W.subIn X.K (.ref A) (.type "BaseException") = some true ∧ PySem.W.typeIn X.K (.ref A) = some (.type "type")
section
variable {M : MC} {X : Cx} {C : Cn} {ex : EV} {k : Nat} {pos : Pos}
theorem MX.blk (h : MX M X C ex k) {scope : Scope} {own : List (Str × Nat)} (ok : BlkOk X.N X.env.scope scope own) (s : Shared) (H : Hp) (c : Addr) (cl : List (Str × Addr)) (fp : List Addr) :
    MX (M.blk scope) (X.blk s H scope (compEnvC scope cl c X.env) fp) C.blk ex k where
  hN := h.hN
  sc := by
    show relabel scope X.env = rl scope M.sc
    unfold relabel rl Env.kindOf
    rw [h.sc]
  kd := ok.kind
  fn := rfl
  nd := h.nd
  calm := h.calm
  room := h.room
  own := PassesOwn.never
  blt := h.blt
  cal := fun i x tw n e => by
    obtain ⟨cl, h1, h2, h3, h4⟩ := h.cal i x tw n e
    exact ⟨cl, h1, h2, ⟨h3.ok⟩, h4⟩
  gv := h.gv
  exc := .inl fun _ _ _ z => z
  mkc := fun z => nomatch z
  calF := fun _ z => nomatch z
  tx := fun z => nomatch z
theorem MX.units (h : MX M X C ex k) : X.A.units + 64 < cLine := h.room.units
theorem noStar_of {e : Expr} (h : noStarM e = true) : NoStar e := by
  cases e <;> first | exact fun _ _ => rfl | cases h
theorem noSet_of {e : Expr} (h : noSetM e = true) (env : Env) : ∀ x, foldedSetIterable e env x = pure x := by
  cases e <;> first | exact fun _ => rfl | cases h
theorem plainIx_of {e : Expr} (h : plainIxM e = true) : PlainIx e := by
  cases e <;> first | exact fun _ _ => rfl | cases h
theorem MX.vis (h : MX M X C ex k) {x : Str} (q : visM M.sc x = true) : Vis X.env.scope x := by
  unfold Vis
  rw [h.sc]
  unfold visM at q
  split at q
  · rename_i e; exact .inl e
  · rename_i e; exact .inr (.inl e)
  · rename_i e; exact .inr (.inr e)
  · cases q
theorem MX.loc (h : MX M X C ex k) {x : Str} (q : locM M x = true) : L2.Loc X.env.scope x ∧ (X.fn x = true ∨ X.env.scope.names.lookup x = some .local) := by
  unfold L2.Loc
  rw [h.sc, h.fn]
  unfold locM at q
  split at q
  · rename_i e; exact ⟨.inl e, .inr e⟩
  · rename_i e; exact ⟨.inr e, .inl q⟩
  · cases q
theorem MX.gl (h : MX M X C ex k) {x : Str} (q : glM M.sc x = true) : Gl X x := by
  unfold Gl Env.kindOf
  rw [h.sc]
  exact of_decide_eq_true q
theorem plain_of {x : Str} (h : plainNm x = true) : (x == ("__debug__" : Str)) = false ∧ (x == ("__classdict__" : Str)) = false := by
  unfold plainNm at h
  simpa only [Bool.and_eq_true, Bool.not_eq_true'] using h
theorem MX.var (h : MX M X C ex k) {i : Nat} {e : Expr} (q : varM M i e = true) : SE X C (.var i) e ∧ PE X e (tVar i) := by
  unfold varM at q
  split at q
  · rename_i x p
    simp only [Bool.and_eq_true, decide_eq_true_eq] at q
    obtain ⟨⟨q1, q2⟩, q3⟩ := q
    obtain ⟨d1, d2⟩ := plain_of q3
    have hi : X.N[i]? = some x := by rw [h.hN]; exact q1
    exact ⟨se_var hi (h.vis q2) d1 d2, pe_var hi (h.vis q2) d1 d2⟩
  · cases q
theorem con_ok {d : D} {e : Expr} (q : conM d e = true) : SE X C (.con d) e := by
  unfold conM at q
  split at q
  · cases of_decide_eq_true q; exact se_con pe_int fun _ => .int _
  · cases of_decide_eq_true q; exact se_con pe_str fun _ => .str _
  · cases of_decide_eq_true q; exact se_con pe_bl fun _ => .bl _
  · exact se_con pe_non fun _ => .non
  · cases q
theorem MX.bin (h : MX M X C ex k) {o : BinO} {op : Operator} (q : binM o op = true) : OpR X (binaryOp op) (rV2 X (binD o)) := by
  cases o <;> cases op <;> try exact (Bool.false_ne_true q).elim
  · exact opr_add
  · exact opr_sub
  · exact opr_mul
  · exact opr_fdiv
  · exact opr_mod
theorem MX.cmp (h : MX M X C ex k) {o : CmpO} {op : CmpOp} (q : cmpM o op = true) : OpR X (compareOp op) (rB2 X (cmpB o)) := by
  cases o <;> cases op <;> try exact (Bool.false_ne_true q).elim
  · exact opr_eq h.units
  · exact opr_ne h.units
  · exact opr_lt
  · exact opr_le
  · exact opr_gt
  · exact opr_ge
  · exact opr_in h.room
  · exact opr_notin h.room
theorem MX.prim (h : MX M X C ex k) {p : Pr} {x : Str} {pp : Pos} {e : Expr} {es : List Expr} {xs : Exs} (q : prM p = some x) (hg : glM M.sc x = true) (ha : PA X (e :: es) (tAs X C xs)) (hs : ∀ y ∈ e :: es, NoStar y) : SE X C (.prim p xs) (.Call (.Name x pp) (e :: es) [] pos) := by
  have hg := h.gl hg
  cases p
  case len => cases q; exact se_prB pr_len hg (h.blt _ (by decide)) PySem.boot_len ha hs (by decide) (by decide)
  case sorted => cases q; exact se_prB (pr_sorted h.room h.calm) hg (h.blt _ (by decide)) boot_sorted ha hs (by decide) (by decide)
  case min1 => cases q; exact se_prB (pr_min1 h.room h.calm) hg (h.blt _ (by decide)) boot_min ha hs (by decide) (by decide)
  case max1 => cases q; exact se_prB (pr_max1 h.room h.calm) hg (h.blt _ (by decide)) boot_max ha hs (by decide) (by decide)
  case min2 => cases q; exact se_prB (pr_min2 h.calm) hg (h.blt _ (by decide)) boot_min ha hs (by decide) (by decide)
  case max2 => cases q; exact se_prB (pr_max2 h.calm) hg (h.blt _ (by decide)) boot_max ha hs (by decide) (by decide)
  case sum => cases q; exact se_prB (pr_sum h.calm) hg (h.blt _ (by decide)) boot_sum ha hs (by decide) (by decide)
  case all => cases q; exact se_prB (pr_all h.calm) hg (h.blt _ (by decide)) boot_all ha hs (by decide) (by decide)
  case any => cases q; exact se_prB (pr_any h.calm) hg (h.blt _ (by decide)) boot_any ha hs (by decide) (by decide)
  case tuple => cases q; exact se_prT pr_tuple hg (h.blt _ (by decide)) (by decide +kernel) ha hs (by decide) (by decide)
  case list => cases q; exact se_prT pr_list hg (h.blt _ (by decide)) (by decide +kernel) ha hs (by decide) (by decide)
  case str => cases q; exact se_prT pr_str hg (h.blt _ (by decide)) PyProof.Rows.boot_str ha hs (by decide) (by decide)
  case int => cases q; exact se_prT pr_int hg (h.blt _ (by decide)) PyProof.Rows.boot_int ha hs (by decide) (by decide)
  all_goals cases q
theorem noCall_of {o : Expr} (h : noCallM o = true) (name : Str) (env : Env) (w : Sem Value) : attributeBase o name env w = w := by
  unfold attributeBase
  split
  · cases h
  · rfl
theorem ty_list {S H : Hp} {d : D} {v : V} (hs : Sub S H) (r : Rep X.prog X.w X.K S d v) (h : ∃ ds, d = .list ds) : tyV X.K "list" v H := by
  obtain ⟨ds, rfl⟩ := h
  cases r with
  | lst e l q => exact .inl ⟨rfl, _, SqL.of (hs _ _ e)⟩
theorem MX.mth (h : MX M X C ex k) {p : Pr} {n : Str} {ap cp : Pos} {xo : Ex} {o e : Expr} {es : List Expr} {xs : Exs} (q : mtM p = some n) (hl : (ap.endLine == cp.line) = true) (hn : noCallM o = true) (hz : es.length < 20) (ho : SE X C xo o) (ha : PA X (e :: es) (tAs X C xs)) (hs : ∀ y ∈ e :: es, NoStar y) : SE X C (.mth p xo xs) (.Call (.Attribute o n ap) (e :: es) [] cp) := by
  have hz' : (e :: es).length < 29 := by simp; omega
  cases p
  case count =>
    cases q
    exact se_mth PySem.F.plainAttrs_list PySem.F.slot_list_count PySem.F.type_list_count (mt_countD h.room) (fun S H d v hS r hk => ty_list hS r (by cases d <;> first | exact ⟨_, rfl⟩ | cases hk)) ho ha hs (noCall_of hn _ _ _) hz' hl
  case index =>
    cases q
    exact se_mth PySem.F.plainAttrs_list PySem.F.slot_list_index PySem.F.type_list_index (mt_indexL h.room) (fun S H d v hS r hk => ty_list hS r (by cases d <;> first | exact ⟨_, rfl⟩ | cases hk)) ho ha hs (noCall_of hn _ _ _) hz' hl
  case join =>
    cases q
    exact se_mth PySem.F.plainAttrs_str PySem.F.slot_str_join PySem.F.type_str_join mt_joinD (fun S H d v hS r hk => ty_str r (by cases d <;> first | exact ⟨_, rfl⟩ | cases hk)) ho ha hs (noCall_of hn _ _ _) hz' hl
  case split =>
    cases q
    exact se_mth PySem.F.plainAttrs_str PySem.F.slot_str_split PySem.F.type_str_split mt_splitD (fun S H d v hS r hk => ty_str r (by cases d <;> first | exact ⟨_, rfl⟩ | cases hk)) ho ha hs (noCall_of hn _ _ _) hz' hl
  all_goals cases q
theorem ty_blt (t : Ty) : (tyName t : Str) ∈ bltNames := by cases t <;> decide
/-! targets -/
theorem MX.tg (h : MX M X C ex k) {i : Nat} {e : Expr} (q : tgM M (.nm i) e = true) : PG X e (tG X (.nm i)) := by
  unfold tgM at q
  split at q
  · rename_i j x p he
    cases he
    rw [Bool.and_eq_true] at q
    obtain ⟨l1, l2⟩ := h.loc q.2
    exact sg_name (by rw [h.hN]; exact h.nd) (by rw [h.hN]; exact of_decide_eq_true q.1) l1 l2
  · rename_i he; cases he
  · cases q
theorem MX.tgs (h : MX M X C ex k) : ∀ {is : List Nat} {es : List Expr}, es.length = is.length → ((is.zip es).all fun p => match p.2 with | .Name x _ => decide (M.N[p.1]? = some x) && locM M x | _ => false) = true →
    PGs X es (tGs X is) ∧ (assignEach es X.env).length = is.length ∧ (assignEach es X.env).findIdx? (·.1) = none
  | [], [], _, _ => ⟨sgs_nil, rfl, rfl⟩
  | i :: is, e :: es, l, q => by
    rw [List.zip_cons_cons, List.all_cons, Bool.and_eq_true] at q
    obtain ⟨q1, q2⟩ := q
    obtain ⟨r1, r2, r3⟩ := MX.tgs h (by simpa using l) q2
    cases e with
    | Name x p =>
      have g : PG X (.Name x p) (tG X (.nm i)) := h.tg (by unfold tgM; exact q1)
      refine ⟨sgs_cons g r1 rfl, ?_, ?_⟩
      · show (assignEach es X.env).length + 1 = is.length + 1
        rw [r2]
      · show List.findIdx? (·.1) ((false, assign (.Name x p) X.env) :: assignEach es X.env) = none
        rw [List.findIdx?_cons]
        show (match false with | true => some 0 | false => (List.findIdx? (·.1) (assignEach es X.env)).map (· + 1)) = none
        rw [r3]
        rfl
    | _ => cases q1
theorem MX.tga (h : MX M X C ex k) {t : Tg} {e : Expr} (q : tgM M t e = true) : PG X e (tG X t) := by
  cases t with
  | nm i => exact h.tg q
  | tp is =>
    cases e with
    | Tuple es kk p =>
      have q : (decide (es.length = is.length) && _) = true := q
      rw [Bool.and_eq_true] at q
      obtain ⟨r1, r2, r3⟩ := h.tgs (of_decide_eq_true q.1) q.2
      exact sg_tup h.calm r1 r2 r3
    | _ => cases q
end
end LG

/-! LgO: a yes of the matcher is enough: expressions and statements. -/
namespace LG
open PySem PySem.Spec PyProof.Rows L2

def OkE (X : Cx) (C : Cn) (x : Ex) (e : Expr) : Prop := SE X C x e ∧ ∀ op es pos, e = .BoolOp op es pos → SB X C x op es pos
theorem OkE.of {X : Cx} {C : Cn} {x : Ex} {e : Expr} (h : SE X C x e) (hb : ∀ op es pos, e ≠ .BoolOp op es pos) : OkE X C x e := ⟨h, fun op es pos q => absurd q (hb op es pos)⟩
theorem and3 {a b c : Bool} (h : (a && b && c) = true) : a = true ∧ b = true ∧ c = true := by
  rw [Bool.and_eq_true, Bool.and_eq_true] at h; exact ⟨h.1.1, h.1.2, h.2⟩
theorem and2 {a b : Bool} (h : (a && b) = true) : a = true ∧ b = true := by rw [Bool.and_eq_true] at h; exact h
theorem not1 {a : Bool} (h : (!a) = true) : a = false := by rw [Bool.not_eq_true'] at h; exact h
theorem calM_of {M : MC} {f : Nat} {x : Str} {t : Bool} (h : calM M f x t = true) : ∃ n, M.cal[f]? = some (x, t, n) := by
  unfold calM at h
  split at h
  · rename_i y tw n e
    obtain ⟨h1, h2⟩ := and2 h
    have h1 := of_decide_eq_true h1
    have h2 : tw = t := eq_of_beq h2
    subst h1 h2
    exact ⟨n, e⟩
  · cases h
theorem sDZ {p : Pr} (xs : Exs) {M : MC} {X : Cx} {C : Cn} {ex : EV} {k : Nat} {x : Str} {e : Expr} {es : List Expr} {pp pos : Pos} (m : MX M X C ex k)
    (h : (isDZ p && (match es, e with | [], .Call (.Name y _) [e1, e2] [] _ => decide (x = ("dict" : Str)) && decide (y = ("zip" : Str)) && glM M.sc x && glM M.sc y && mA M xs [e1, e2] | _, _ => false)) = true)
    (ih : ∀ {e1 e2 : Expr}, mA M xs [e1, e2] = true → ∃ x1 x2, xs = .cons x1 (.cons x2 .nil) ∧ SE X C x1 e1 ∧ SE X C x2 e2 ∧ NoStar e1 ∧ NoStar e2) : PE X (.Call (.Name x pp) (e :: es) [] pos) (tEF X C (.prim p xs)) := by
  obtain ⟨hp, h⟩ := and2 h
  cases p with
  | dictzip =>
    split at h
    · obtain ⟨h0, h4, h5⟩ := and3 h
      obtain ⟨h1, h2, h3⟩ := and3 h0
      cases of_decide_eq_true h1
      cases of_decide_eq_true h2
      obtain ⟨x1, x2, rfl, s1, s2, n1, n2⟩ := ih h5
      exact sf_dictzip m.calm m.room (m.gl h3) (m.blt _ (by decide)) (m.gl h4) (m.blt _ (by decide)) s1 s2 n1 n2
    · cases h
  | _ => cases hp
theorem sDC {p : Pr} (xs : Exs) {M : MC} {X : Cx} {C : Cn} {ex : EV} {k : Nat} {x : Str} {e : Expr} {es : List Expr} {pp pos : Pos} (m : MX M X C ex k)
    (h : (isDC p && es.isEmpty && decide (x = ("dict" : Str)) && glM M.sc x && mA M xs [e]) = true)
    (ih : mA M xs [e] = true → ∃ x1, xs = .cons x1 .nil ∧ SE X C x1 e ∧ NoStar e) : PE X (.Call (.Name x pp) (e :: es) [] pos) (tEF X C (.prim p xs)) := by
  obtain ⟨h0, h4, h5⟩ := and3 h
  obtain ⟨h1, h2, h3⟩ := and3 h0
  cases p with
  | dict =>
    cases of_decide_eq_true h3
    cases es with
    | cons _ _ => cases h2
    | nil =>
      obtain ⟨x1, rfl, s1, n1⟩ := ih h5
      exact sf_dict m.room (m.gl h4) (m.blt _ (by decide)) s1 n1
  | _ => cases h1
theorem sNS {p : Pr} (xs : Exs) {M : MC} {X : Cx} {C : Cn} {ex : EV} {k : Nat} {x : Str} {e : Expr} {es : List Expr} {pp pos : Pos} (m : MX M X C ex k)
    (h : (match nsM p, es, e with | some (a, b, n), [], .Call (.Name y _) es1 [] _ => decide (es1.length = n) && decide (x = a) && decide (y = b) && glM M.sc x && glM M.sc y && mA M xs es1 | _, _, _ => false) = true)
    (ih1 : ∀ {e1 : Expr}, mA M xs [e1] = true → ∃ x1, xs = .cons x1 .nil ∧ SE X C x1 e1 ∧ NoStar e1)
    (ih2 : ∀ {e1 e2 : Expr}, mA M xs [e1, e2] = true → ∃ x1 x2, xs = .cons x1 (.cons x2 .nil) ∧ SE X C x1 e1 ∧ SE X C x2 e2 ∧ NoStar e1 ∧ NoStar e2) : SE X C (.prim p xs) (.Call (.Name x pp) (e :: es) [] pos) := by
  split at h
  · rename_i a b n y p2 es1 p3 hns
    obtain ⟨h0, h4, h5⟩ := and3 h
    obtain ⟨h0, h2, h3⟩ := and3 h0
    obtain ⟨hl, h1⟩ := and2 h0
    have e1 := of_decide_eq_true h1
    have e2 := of_decide_eq_true h2
    have hl := of_decide_eq_true hl
    subst e1 e2
    cases p with
    | sortedset =>
      cases hns
      match es1, hl with
      | [e1], _ =>
        obtain ⟨x1, rfl, s1, n1⟩ := ih1 h5
        exact se_sortedset m.calm (m.gl h3) (m.blt _ (by decide)) (m.gl h4) (m.blt _ (by decide)) s1 n1
    | listr =>
      cases hns
      match es1, hl with
      | [e1, e2], _ =>
        obtain ⟨x1, x2, rfl, s1, s2, n1, n2⟩ := ih2 h5
        exact se_listr m.calm (m.gl h3) (m.blt _ (by decide)) (m.gl h4) (m.blt _ (by decide)) s1 s2 n1 n2
    | _ => cases hns
  · cases h
theorem passAt0 {X : Cx} (E : L2.St → XK) (σ : L2.St) : PassesAt CX0 X σ (E σ) := fun _ _ _ _ _ _ h => h.elim
theorem row0 {M : MC} {X : Cx} {C : Cn} {ex : EV} {k : Nat} (m : MX M X C ex k) : ∀ {fs : List Nat} {es : List Expr}, fnsM M fs es = true → ∃ as, FnRow X C ex0 k CX0 es fs as
  | [], [], _ => ⟨[], .nil⟩
  | f :: fs, .Name x p :: es, h => by
    unfold fnsM at h
    obtain ⟨h0, h3, h4⟩ := and3 h
    obtain ⟨h1, h2⟩ := and2 h0
    obtain ⟨n, hc⟩ := calM_of h1
    obtain ⟨cl, c1, c2, c3, c4⟩ := m.cal _ _ _ _ hc
    obtain ⟨a, fd, ps, hm, hk, hb, F⟩ := c3.ok
    obtain ⟨as, t⟩ := row0 m h4
    exact ⟨a :: as, .cons c1 c2 (m.gl h2) hm hk hb F c4 (plain_of h3).1 t⟩
theorem rowX {M : MC} {X : Cx} {C : Cn} {ex : EV} {k : Nat} {W0 : WX} (m : MX M X C ex k) (E : ExcX M X C ex k W0) : ∀ {fs : List Nat} {es : List Expr}, fnsM M fs es = true → ∃ as, FnRow X C ex k (L2.CX X.prog X.w) es fs as
  | [], [], _ => ⟨[], .nil⟩
  | f :: fs, .Name x p :: es, h => by
    unfold fnsM at h
    obtain ⟨h0, h3, h4⟩ := and3 h
    obtain ⟨h1, h2⟩ := and2 h0
    obtain ⟨n, hc⟩ := calM_of h1
    obtain ⟨cl, c1, c2, c3, c4⟩ := E.cal _ _ _ _ hc
    obtain ⟨a, fd, ps, hm, hk, hb, F⟩ := c3.ok
    obtain ⟨as, t⟩ := rowX m E h4
    exact ⟨a :: as, .cons c1 c2 (m.gl h2) hm hk hb F c4 (plain_of h3).1 t⟩
theorem own_vs {N : List Str} {vs : List Nat} : (ownM N vs).map (·.2) = vs := by
  unfold ownM
  rw [List.map_map]
  exact List.map_id _
mutual
theorem sE : ∀ (x : Ex) {M : MC} {X : Cx} {C : Cn} {ex : EV} {k : Nat} {e : Expr}, MX M X C ex k → mE M x e = true → OkE X C x e
  | .var i, M, X, C, ex, k, e, m, h => by
    unfold mE at h
    refine .of (m.var h).1 fun op es pos z => ?_
    subst z
    cases h
  | .con d, M, X, C, ex, k, e, m, h => by
    unfold mE at h
    refine .of (con_ok h) fun op es pos z => ?_
    subst z
    cases d <;> cases h
  | .glb g, M, X, C, ex, k, e, m, h => by
    unfold mE at h
    split at h
    · rename_i x p
      obtain ⟨h1, h2, h3⟩ := and3 h
      obtain ⟨d, v, u, g1, g2, g3, g4⟩ := m.gv g x (of_decide_eq_true h1)
      exact .of (se_glb g1 (pe_glob (m.gl h2) g2 g3 (plain_of h3).1) g4) fun _ _ _ z => nomatch z
    · cases h
  | .bin o a b, M, X, C, ex, k, e, m, h => by
    unfold mE at h
    split at h
    · obtain ⟨h1, h2, h3⟩ := and3 h
      exact .of (se_bin (m.bin h1) (sE a m h2).1 (sE b m h3).1) fun _ _ _ z => nomatch z
    · cases h
  | .neg a, M, X, C, ex, k, e, m, h => by
    unfold mE at h
    split at h
    · exact .of (se_neg (sE a m h).1) fun _ _ _ z => nomatch z
    · cases h
  | .not a, M, X, C, ex, k, e, m, h => by
    unfold mE at h
    split at h
    · exact .of (se_not (sE a m h).1) fun _ _ _ z => nomatch z
    · cases h
  | .cmp o a b, M, X, C, ex, k, e, m, h => by
    unfold mE at h
    split at h
    · obtain ⟨h0, h3, h4⟩ := and3 h
      obtain ⟨h1, h2⟩ := and2 h0
      exact .of (se_cmp (m.cmp h1) (sE a m h3).1 (sE b m h4).1 (not1 h2)) fun _ _ _ z => nomatch z
    · cases h
  | .isc neg a d, M, X, C, ex, k, e, m, h => by
    unfold mE at h
    split at h
    · rename_i l op kk j p pos
      obtain ⟨h1, h2, h3⟩ := and3 h
      have h1 := of_decide_eq_true h1
      have ih := (sE a m h3).1
      refine .of ?_ fun _ _ _ z => nomatch z
      split at h2
      · subst h1
        cases neg
        · exact se_isN ih
        · exact se_notN ih
      · cases of_decide_eq_true h2
        subst h1
        cases neg
        · exact se_isB ih
        · exact se_notB ih
      · cases h2
    · cases h
  | .chn a b c, M, X, C, ex, k, e, m, h => by
    unfold mE at h
    split at h
    · obtain ⟨h0, h3, h4⟩ := and3 h
      obtain ⟨h1, h2⟩ := and2 h0
      exact .of (se_chn (sE a m h2).1 (sE b m h3).1 (sE c m h4).1 (not1 h1)) fun _ _ _ z => nomatch z
    · cases h
  | .and a b, M, X, C, ex, k, e, m, h => by
    unfold mE at h
    split at h
    · rename_i e1 e2 rest pos
      obtain ⟨h1, h2⟩ := and2 h
      have sb : SB X C (.and a b) .And (e1 :: e2 :: rest) pos := by
        have ib := sE b m h2
        cases rest with
        | nil => exact sb_and (sE a m h1).1 (sb_and1 ib.1)
        | cons e3 r => exact sb_and (sE a m h1).1 (ib.2 _ _ _ rfl)
      exact ⟨sb.se, fun op es p z => by cases z; exact sb⟩
    · cases h
  | .or a b, M, X, C, ex, k, e, m, h => by
    unfold mE at h
    split at h
    · rename_i e1 e2 rest pos
      obtain ⟨h1, h2⟩ := and2 h
      have sb : SB X C (.or a b) .Or (e1 :: e2 :: rest) pos := by
        have ib := sE b m h2
        cases rest with
        | nil => exact sb_or (sE a m h1).1 (sb_or1 ib.1)
        | cons e3 r => exact sb_or (sE a m h1).1 (ib.2 _ _ _ rfl)
      exact ⟨sb.se, fun op es p z => by cases z; exact sb⟩
    · cases h
  | .ite t a b, M, X, C, ex, k, e, m, h => by
    unfold mE at h
    split at h
    · obtain ⟨h1, h2, h3⟩ := and3 h
      exact .of (se_ite (sE t m h1).1 (sE a m h2).1 (sE b m h3).1) fun _ _ _ z => nomatch z
    · cases h
  | .tup xs, M, X, C, ex, k, e, m, h => by
    unfold mE at h
    split at h
    · exact .of (se_tup (sA xs m h).1) fun _ _ _ z => nomatch z
    · cases h
  | .lst xs, M, X, C, ex, k, e, m, h => by
    unfold mE at h
    split at h
    · exact .of (se_lst (sA xs m h).1) fun _ _ _ z => nomatch z
    · cases h
  | .dct .nil .nil, M, X, C, ex, k, e, m, h => by
    unfold mE at h
    split at h
    · exact .of (se_ofF sf_dct0) fun _ _ _ z => nomatch z
    · cases h
  | .dct (.cons xk .nil) (.cons xv .nil), M, X, C, ex, k, e, m, h => by
    unfold mE at h
    split at h
    · obtain ⟨h1, h2⟩ := and2 h
      exact .of (se_ofF (sf_dct1 m.room (sE xk m h1).1 (sE xv m h2).1)) fun _ _ _ z => nomatch z
    · cases h
  | .dct .nil (.cons _ _), M, X, C, ex, k, e, m, h => by unfold mE at h; cases h
  | .dct (.cons _ (.cons _ _)) _, M, X, C, ex, k, e, m, h => by unfold mE at h; cases h
  | .dct (.cons _ .nil) .nil, M, X, C, ex, k, e, m, h => by unfold mE at h; cases h
  | .dct (.cons _ .nil) (.cons _ (.cons _ _)), M, X, C, ex, k, e, m, h => by unfold mE at h; cases h
  | .rev a, M, X, C, ex, k, e, m, h => by
    unfold mE at h
    split at h
    · exact .of (se_rev (sE a m h).1) fun _ _ _ z => nomatch z
    · cases h
  | .getO i a b, M, X, C, ex, k, e, m, h => by
    unfold mE at h
    split at h
    · obtain ⟨h0, h6, h7⟩ := and3 h
      obtain ⟨h0, h4, h5⟩ := and3 h0
      obtain ⟨h1, h2, h3⟩ := and3 h0
      cases of_decide_eq_true h1
      exact .of (se_getO m.room (m.var h3).2 (sE a m h6).1 (sE b m h7).1 (noStar_of h4) (noStar_of h5) h2) fun _ _ _ z => nomatch z
    · cases h
  | .idx a i, M, X, C, ex, k, e, m, h => by
    unfold mE at h
    split at h
    · obtain ⟨h1, h2, h3⟩ := and3 h
      exact .of (se_idx m.room (sE a m h2).1 (sE i m h3).1 (plainIx_of h1)) fun _ _ _ z => nomatch z
    · cases h
  | .slc a lo hi, M, X, C, ex, k, e, m, h => by
    unfold mE at h
    split at h
    · obtain ⟨h1, h2, h3⟩ := and3 h
      exact .of (se_slc (sE a m h1).1 (sO lo m h2) (sO hi m h3)) fun _ _ _ z => nomatch z
    · cases h
  | .call f xs, M, X, C, ex, k, e, m, h => by
    unfold mE at h
    split at h
    · obtain ⟨h0, h3, h4⟩ := and3 h
      obtain ⟨h1, h2⟩ := and2 h0
      obtain ⟨n, hc⟩ := calM_of h1
      obtain ⟨cl, c1, c2, c3, c4⟩ := m.cal _ _ _ _ hc
      have ia := sA xs m h4
      rcases m.exc with hW | ⟨W0, E⟩
      · exact .of (se_call hW c1 c2 c3 c4 m.room (m.gl h2) ia.1 ia.2 (plain_of h3).1) fun _ _ _ z => nomatch z
      · obtain ⟨cl, c1, c2, c3, c4⟩ := E.cal _ _ _ _ hc
        exact .of (se_callX E.tk E.W E.on c1 c2 c3 c4 m.room (m.gl h2) ia.1 ia.2 (plain_of h3).1) fun _ _ _ z => nomatch z
    · cases h
  | .callT f xs, M, X, C, ex, k, e, m, h => by
    unfold mE at h
    split at h
    · obtain ⟨h0, h5, h6⟩ := and3 h
      obtain ⟨h0, h3, h4⟩ := and3 h0
      obtain ⟨h1, h2⟩ := and2 h0
      obtain ⟨n, hc⟩ := calM_of h1
      obtain ⟨cl, c1, c2, c3, c4⟩ := m.cal _ _ _ _ hc
      have ia := sA xs m h6
      rcases m.exc with hW | ⟨W0, E⟩
      · exact .of (se_callT hW c1 c2 c3 c4 m.room (m.gl h2) (m.var h4).2 (m.var h5).2 ia.1 ia.2 (plain_of h3).1) fun _ _ _ z => nomatch z
      · obtain ⟨cl, c1, c2, c3, c4⟩ := E.cal _ _ _ _ hc
        exact .of (se_callTX E.tk E.W E.on c1 c2 c3 c4 m.room (m.gl h2) (m.var h4).2 (m.var h5).2 ia.1 ia.2 (plain_of h3).1) fun _ _ _ z => nomatch z
    · cases h
  | .mk f xs, M, X, C, ex, k, e, m, h => by
    unfold mE at h
    split at h
    · obtain ⟨h0, h4, h5⟩ := and3 h
      obtain ⟨h1, h2, h3⟩ := and3 h0
      obtain ⟨W0, tk, hW, hon, hall⟩ := m.mkc h1
      obtain ⟨cl, c1, c2, c3, c4⟩ := hall _ _ _ h2
      have ia := sA xs m h5
      exact .of (se_mk tk hW hon c1 c2 c3 c4 m.room (m.gl h3) ia.1 ia.2 (plain_of h4).1) fun _ _ _ z => nomatch z
    · cases h
  | .callB f j xs, M, X, C, ex, k, e, m, h => by
    unfold mE at h
    split at h
    · obtain ⟨h0, h4, h5⟩ := and3 h
      obtain ⟨h1, h2, h3⟩ := and3 h0
      obtain ⟨n, hc⟩ := calM_of h1
      obtain ⟨cl, c1, c2, c3, c4⟩ := m.cal _ _ _ _ hc
      have ia := sA xs m h5
      exact .of (se_callB c1 c2 c3 c4 m.room (m.gl h2) (m.var h4).2 ia.1 ia.2 (plain_of h3).1) fun _ _ _ z => nomatch z
    · cases h
  | .callL fs i xs, M, X, C, ex, k, e, m, h => by
    unfold mE at h
    split at h
    · obtain ⟨h0, h4, h5⟩ := and3 h
      obtain ⟨h1, h2, h3⟩ := and3 h0
      have ia := sA xs m h5
      have h1 := of_decide_eq_true h1
      rcases m.exc with hW | ⟨W0, E⟩
      · obtain ⟨as, row⟩ := row0 m h2
        exact .of (se_val ((pe_callE (E := fun _ => E0) (pe_fl row.names (by rw [← row.len.2]; exact h1)) (sE i m h4).1 (plainIx_of h3) row (fun σ => passAt0 (fun _ => E0) σ) m.room ia.1 ia.2 fun kk σ H z => (hW _ _ _ z).elim).lgi fun σ H Q q => ⟨trivial, q⟩)) fun _ _ _ z => nomatch z
      · obtain ⟨as, row⟩ := rowX m E h2
        exact .of (se_val ((pe_callE (E := WE W0) (pe_fl row.names (by rw [← row.len.2]; exact h1)) (sE i m h4).1 (plainIx_of h3) row (fun σ => passAt E.tk σ) m.room ia.1 ia.2 fun kk σ H z => ⟨E.on, E.W _ _ _ z⟩).lgi fun σ H Q q => ⟨trivial, q⟩)) fun _ _ _ z => nomatch z
    · cases h
  | .prim p xs, M, X, C, ex, k, e, m, h => by
    unfold mE at h
    split at h
    · rw [Bool.or_eq_true, Bool.or_eq_true, Bool.or_eq_true] at h
      rcases h with ((h | h) | h) | h
      · obtain ⟨h1, h2, h3⟩ := and3 h
        have ia := sA xs m h3
        exact .of (m.prim (of_decide_eq_true h1) h2 ia.1 ia.2) fun _ _ _ z => nomatch z
      · exact .of (se_ofF (sDZ xs m h fun {e1 e2} hm => sA2 xs m hm)) fun _ _ _ z => nomatch z
      · exact .of (se_ofF (sDC xs m h fun hm => sA1 xs m hm)) fun _ _ _ z => nomatch z
      · exact .of (sNS xs m h (fun {e1} hm => sA1 xs m hm) fun {e1 e2} hm => sA2 xs m hm) fun _ _ _ z => nomatch z
    · cases h
  | .mth p a xs, M, X, C, ex, k, e, m, h => by
    unfold mE at h
    split at h
    · obtain ⟨h0, h5, h6⟩ := and3 h
      obtain ⟨h0, h3, h4⟩ := and3 h0
      obtain ⟨h1, h2⟩ := and2 h0
      have ia := sA xs m h6
      exact .of (m.mth (of_decide_eq_true h1) h2 h3 (of_decide_eq_true h4) (sE a m h5).1 ia.1 ia.2) fun _ _ _ z => nomatch z
    · cases h
  | .isi t a, M, X, C, ex, k, e, m, h => by
    unfold mE at h
    split at h
    · obtain ⟨h0, h5, h6⟩ := and3 h
      obtain ⟨h0, h3, h4⟩ := and3 h0
      obtain ⟨h1, h2⟩ := and2 h0
      cases of_decide_eq_true h1
      cases of_decide_eq_true h2
      exact .of (se_isi (sE a m h6).1 (noStar_of h5) (m.gl h3) (m.blt _ (by decide)) (m.gl h4) (m.blt _ (ty_blt t))) fun _ _ _ z => nomatch z
    · cases h
  | .inO neg a i, M, X, C, ex, k, e, m, h => by
    unfold mE at h
    split at h
    · obtain ⟨h1, h2, h3⟩ := and3 h
      cases of_decide_eq_true h1
      exact .of (se_inO m.room (sE a m h2).1 (m.var h3).2) fun _ _ _ z => nomatch z
    · cases h
  | .eqO neg i b, M, X, C, ex, k, e, m, h => by
    unfold mE at h
    split at h
    · obtain ⟨h1, h2, h3⟩ := and3 h
      cases of_decide_eq_true h1
      exact .of (se_eqO m.room (sE b m h2).1 (m.var h3).2) fun _ _ _ z => nomatch z
    · cases h
  | .idxO i b, M, X, C, ex, k, e, m, h => by
    unfold mE at h
    split at h
    · obtain ⟨h1, h2, h3⟩ := and3 h
      exact .of (se_idxO m.room (sE b m h2).1 (m.var h3).2 (plainIx_of h1)) fun _ _ _ z => nomatch z
    · cases h
  | .comp vs tg it ifs elt, M, X, C, ex, k, e, m, h => by
    unfold mE at h
    split at h
    · rename_i el t iter fs scope pos
      obtain ⟨h0, h4, h5⟩ := and3 h
      obtain ⟨h1, h2, h3⟩ := and3 h0
      obtain ⟨l1, l2, l3⟩ := and3 h1
      have ok : BlkOk X.N X.env.scope scope (ownM M.N vs) := by rw [m.hN, m.sc]; exact blkOk_by l1
      refine .of (se_comp m.calm (by rw [m.hN]; exact m.nd) (own := ownM M.N vs) ⟨own_vs, fun j hj => ?_, sI it m h2, ok, fun s H c cl fp => (m.blk ok s H c cl fp).tga h3, fun s H c cl fp => sF ifs (m.blk ok s H c cl fp) h4, fun s H c cl fp => (sE elt (m.blk ok s H c cl fp) h5).1.pe, noSet_of l3 _⟩) fun _ _ _ z => nomatch z
      have := List.all_eq_true.mp l2 j hj
      simpa using this
    · cases h
theorem sA : ∀ (xs : Exs) {M : MC} {X : Cx} {C : Cn} {ex : EV} {k : Nat} {es : List Expr}, MX M X C ex k → mA M xs es = true → PA X es (tAs X C xs) ∧ ∀ y ∈ es, NoStar y
  | .nil, M, X, C, ex, k, es, m, h => by
    unfold mA at h
    cases es with
    | nil => exact ⟨sa_nil, fun y hy => nomatch hy⟩
    | cons _ _ => cases h
  | .cons x xs, M, X, C, ex, k, es, m, h => by
    unfold mA at h
    split at h
    · obtain ⟨h1, h2, h3⟩ := and3 h
      have ia := sA xs m h3
      refine ⟨sa_cons (sE x m h2).1 ia.1 (noStar_of h1), fun y hy => ?_⟩
      rcases List.mem_cons.mp hy with rfl | hy
      · exact noStar_of h1
      · exact ia.2 y hy
    · cases h
theorem sA1 : ∀ (xs : Exs) {M : MC} {X : Cx} {C : Cn} {ex : EV} {k : Nat} {e1 : Expr}, MX M X C ex k → mA M xs [e1] = true → ∃ x1, xs = .cons x1 .nil ∧ SE X C x1 e1 ∧ NoStar e1
  | .nil, M, X, C, ex, k, e1, m, h => by unfold mA at h; cases h
  | .cons x .nil, M, X, C, ex, k, e1, m, h => by
    unfold mA at h
    obtain ⟨h1, h2, h3⟩ := and3 h
    exact ⟨x, rfl, (sE x m h2).1, noStar_of h1⟩
  | .cons x (.cons y r), M, X, C, ex, k, e1, m, h => by
    unfold mA at h
    obtain ⟨h1, h2, h3⟩ := and3 h
    unfold mA at h3
    cases h3
theorem sA2 : ∀ (xs : Exs) {M : MC} {X : Cx} {C : Cn} {ex : EV} {k : Nat} {e1 e2 : Expr}, MX M X C ex k → mA M xs [e1, e2] = true → ∃ x1 x2, xs = .cons x1 (.cons x2 .nil) ∧ SE X C x1 e1 ∧ SE X C x2 e2 ∧ NoStar e1 ∧ NoStar e2
  | .nil, M, X, C, ex, k, e1, e2, m, h => by unfold mA at h; cases h
  | .cons x .nil, M, X, C, ex, k, e1, e2, m, h => by
    unfold mA at h
    obtain ⟨h1, h2, h3⟩ := and3 h
    unfold mA at h3
    cases h3
  | .cons x (.cons y .nil), M, X, C, ex, k, e1, e2, m, h => by
    unfold mA at h
    obtain ⟨h1, h2, h3⟩ := and3 h
    unfold mA at h3
    obtain ⟨h4, h5, h6⟩ := and3 h3
    exact ⟨x, y, rfl, (sE x m h2).1, (sE y m h5).1, noStar_of h1, noStar_of h4⟩
  | .cons x (.cons y (.cons _ _)), M, X, C, ex, k, e1, e2, m, h => by
    unfold mA at h
    obtain ⟨h1, h2, h3⟩ := and3 h
    unfold mA at h3
    obtain ⟨h4, h5, h6⟩ := and3 h3
    unfold mA at h6
    cases h6
theorem sO : ∀ (x : Exo) {M : MC} {X : Cx} {C : Cn} {ex : EV} {k : Nat} {e : Option Expr}, MX M X C ex k → mO M x e = true → PO X e (tOi X C x)
  | .none, M, X, C, ex, k, e, m, h => by
    unfold mO at h
    cases e with
    | none => exact so_none
    | some _ => cases h
  | .some x, M, X, C, ex, k, e, m, h => by
    unfold mO at h
    split at h
    · exact so_some (sE x m h).1
    · cases h
theorem sF : ∀ (x : Exo) {M : MC} {X : Cx} {C : Cn} {ex : EV} {k : Nat} {fs : List Expr}, MX M X C ex k → mF M x fs = true → PTs X fs (tIfs X C x)
  | .none, M, X, C, ex, k, fs, m, h => by
    unfold mF at h
    cases fs with
    | nil => exact sts_nil
    | cons _ _ => cases h
  | .some x, M, X, C, ex, k, fs, m, h => by
    unfold mF at h
    split at h
    · exact sts_one (sE x m h).1
    · cases h
theorem sI : ∀ (x : Itx) {M : MC} {X : Cx} {C : Cn} {ex : EV} {k : Nat} {t e : Expr}, MX M X C ex k → mI M t x e = true → PI X t e (tI X C x)
  | .seq x, M, X, C, ex, k, t, e, m, h => by
    unfold mI at h
    exact si_seqD (sE x m h).1
  | .rng1 a, M, X, C, ex, k, t, e, m, h => by
    unfold mI at h
    split at h
    · obtain ⟨h0, h3, h4⟩ := and3 h
      obtain ⟨h1, h2⟩ := and2 h0
      cases of_decide_eq_true h1
      exact si_rng1 (m.gl h2) (m.blt _ (by decide)) (sE a m h4).1 (noStar_of h3)
    · cases h
  | .rng2 a b, M, X, C, ex, k, t, e, m, h => by
    unfold mI at h
    split at h
    · obtain ⟨h0, h5, h6⟩ := and3 h
      obtain ⟨h0, h3, h4⟩ := and3 h0
      obtain ⟨h1, h2⟩ := and2 h0
      cases of_decide_eq_true h1
      exact si_rng2 (m.gl h2) (m.blt _ (by decide)) (sE a m h5).1 (sE b m h6).1 (noStar_of h3) (noStar_of h4)
    · cases h
  | .rng3 a b, M, X, C, ex, k, t, e, m, h => by
    unfold mI at h
    split at h
    · obtain ⟨h0, h5, h6⟩ := and3 h
      obtain ⟨h0, h3, h4⟩ := and3 h0
      obtain ⟨h1, h2⟩ := and2 h0
      cases of_decide_eq_true h1
      exact si_rng3 (m.gl h2) (m.blt _ (by decide)) (sE a m h5).1 (sE b m h6).1 (noStar_of h3) (noStar_of h4)
    · cases h
  | .zip a b, M, X, C, ex, k, t, e, m, h => by
    unfold mI at h
    split at h
    · obtain ⟨h0, h6, h7⟩ := and3 h
      obtain ⟨h0, h4, h5⟩ := and3 h0
      obtain ⟨h1, h2, h3⟩ := and3 h0
      cases of_decide_eq_true h1
      exact si_zip h3 (m.gl h2) (m.blt _ (by decide)) (sE a m h6).1 (sE b m h7).1 (noStar_of h4) (noStar_of h5)
    · cases h
  | .enm a, M, X, C, ex, k, t, e, m, h => by
    unfold mI at h
    split at h
    · obtain ⟨h0, h3, h4⟩ := and3 h
      obtain ⟨h1, h2⟩ := and2 h0
      cases of_decide_eq_true h1
      exact si_enm (m.gl h2) (m.blt _ (by decide)) (sE a m h4).1 (noStar_of h3)
    · cases h
end
/-- a comprehension's parts -/
theorem sLc : ∀ (vs : List Nat) (tg : Tg) (it : Itx) (ifs : Exo) (elt : Ex) {M : MC} {X : Cx} {C : Cn} {ex : EV} {k : Nat} {e : Expr}, MX M X C ex k → mE M (.comp vs tg it ifs elt) e = true →
    ∃ el t iter fs scope pos own, e = .ListComp el [⟨t, iter, fs, 0⟩] scope pos ∧ LcOk X C vs tg it ifs elt el t iter fs scope own
  | vs, tg, it, ifs, elt, M, X, C, ex, k, e, m, h => by
    unfold mE at h
    split at h
    · rename_i el t iter fs scope pos
      obtain ⟨h0, h4, h5⟩ := and3 h
      obtain ⟨h1, h2, h3⟩ := and3 h0
      obtain ⟨l1, l2, l3⟩ := and3 h1
      have ok : BlkOk X.N X.env.scope scope (ownM M.N vs) := by rw [m.hN, m.sc]; exact blkOk_by l1
      refine ⟨el, t, iter, fs, scope, pos, ownM M.N vs, rfl, ⟨?_, fun j hj => ?_, sI it m h2, ok, fun s H c cl fp => (m.blk ok s H c cl fp).tga h3, fun s H c cl fp => sF ifs (m.blk ok s H c cl fp) h4, fun s H c cl fp => (sE elt (m.blk ok s H c cl fp) h5).1.pe, noSet_of l3 _⟩⟩
      · exact own_vs
      · have := List.all_eq_true.mp l2 j hj
        simpa using this
    · cases h
end LG

/-! LgP: a yes of the matcher is enough: statements, defs. -/
namespace LG
open PySem PySem.Spec PyProof.Rows L2

theorem sw_plain {e : Expr} (h : noCompM e = true) (t : Option Expr) (l : Nat) (env : Env) : swapsWith e t l env = pure false := by
  cases e <;> first | rfl | cases h
def swB (sc : Scope) (y : Str) (scope : Scope) (py pos : Pos) : Bool := decide (sc.names.lookup y = some .local) && (py.line == pos.line) && !(scope.names.any fun (n, k) => n == y && (k == .local || k == .cell))
theorem sw_lc {elt : Expr} {gs : List Comprehension} {scope : Scope} {pos py : Pos} {y : Str} {l : Nat} {env : Env} (hk : env.scope.kind = .function) :
    swapsWith (.ListComp elt gs scope pos) (some (.Name y py)) l env = pure (swB env.scope y scope py pos) := by
  have hb : env.blockKind = .function := by unfold Env.blockKind; rw [hk]; rfl
  unfold swapsWith swB
  simp only [hb, Expr.pos, Env.kindOf]
  by_cases e : env.scope.names.lookup y = some .local
  · simp only [e]; rfl
  · have : (List.lookup y env.scope.names == some NameKind.local) = false := by simpa using e
    simp only [this, e]; rfl
theorem not_comp {M : MC} {x : Ex} {e : Expr} (h : mE M x e = true) (hc : noCompM e = false) : ∃ vs tg it ifs elt, x = .comp vs tg it ifs elt := by
  cases x with
  | comp vs tg it ifs elt => exact ⟨vs, tg, it, ifs, elt, rfl⟩
  | con d =>
    unfold mE at h
    cases e <;> first | (cases hc; done) | (cases d <;> cases h)
  | dct ks vs =>
    cases ks with
    | nil =>
      cases vs with
      | nil => unfold mE at h; cases e <;> first | (cases hc; done) | cases h
      | cons _ _ => unfold mE at h; cases h
    | cons xk ks =>
      cases ks with
      | nil =>
        cases vs with
        | nil => unfold mE at h; cases h
        | cons xv vs =>
          cases vs with
          | nil => unfold mE at h; cases e <;> first | (cases hc; done) | cases h
          | cons _ _ => unfold mE at h; cases h
      | cons _ _ => unfold mE at h; cases h
  | _ =>
    unfold mE at h
    cases e <;> first | (cases hc; done) | cases h
section
variable {M : MC} {X : Cx} {C : Cn} {ex : EV} {k : Nat} {pos : Pos}
theorem MX.nd' (m : MX M X C ex k) : X.N.Nodup := by rw [m.hN]; exact m.nd
theorem MX.kind (m : MX M X C ex k) : X.env.scope.kind = .function := by rw [m.sc]; exact m.kd
theorem sFresh (m : MX M X C ex k) {x : Ex} {e : Expr} (hf : freshM M.fr x = true) (h : mE M x e = true) : PE X e (tEF X C x) := by
  cases x with
  | lst xs =>
    unfold mE at h
    split at h
    · exact sf_lst (sA xs m h).1
    · cases h
  | comp vs tg it ifs elt =>
    obtain ⟨el, t, iter, fs, scope, pos, own, rfl, o⟩ := sLc vs tg it ifs elt m h
    exact sf_comp m.calm m.nd' o
  | dct ks vs =>
    cases ks with
    | nil =>
      cases vs with
      | nil =>
        unfold mE at h
        split at h
        · exact sf_dct0
        · cases h
      | cons _ _ => unfold mE at h; cases h
    | cons xk ks =>
      cases ks with
      | nil =>
        cases vs with
        | nil => unfold mE at h; cases h
        | cons xv vs =>
          cases vs with
          | nil =>
            unfold mE at h
            split at h
            · obtain ⟨h1, h2⟩ := and2 h
              exact sf_dct1 m.room (sE xk m h1).1 (sE xv m h2).1
            · cases h
          | cons _ _ => unfold mE at h; cases h
      | cons _ _ => unfold mE at h; cases h
  | prim p xs =>
    cases p with
    | dictzip =>
      unfold mE at h
      split at h
      · rw [Bool.or_eq_true, Bool.or_eq_true, Bool.or_eq_true] at h
        rcases h with ((h | h) | h) | h
        · obtain ⟨h1, _⟩ := and3 h
          exact nomatch of_decide_eq_true h1
        · exact sDZ xs m h fun {e1 e2} hm => sA2 xs m hm
        · exact sDC xs m h fun hm => sA1 xs m hm
        · cases h
      · cases h
    | dict =>
      unfold mE at h
      split at h
      · rw [Bool.or_eq_true, Bool.or_eq_true, Bool.or_eq_true] at h
        rcases h with ((h | h) | h) | h
        · obtain ⟨h1, _⟩ := and3 h
          exact nomatch of_decide_eq_true h1
        · exact sDZ xs m h fun {e1 e2} hm => sA2 xs m hm
        · exact sDC xs m h fun hm => sA1 xs m hm
        · cases h
      · cases h
    | _ => cases hf
  | call f xs =>
    unfold mE at h
    split at h
    · obtain ⟨h0, h3, h4⟩ := and3 h
      obtain ⟨h1, h2⟩ := and2 h0
      obtain ⟨n, hc⟩ := calM_of h1
      obtain ⟨hW, cf⟩ := m.calF f hf
      obtain ⟨cl, c1, c2, c3, c4⟩ := cf _ _ _ hc
      have ia := sA xs m h4
      exact sf_callF hW c1 c2 c3 c4 m.room (m.gl h2) ia.1 ia.2 (plain_of h3).1
    · cases h
  | _ => cases hf
theorem sAsg (m : MX M X C ex k) {i : Nat} {y : Str} {py : Pos} {x : Ex} {e : Expr} (hy : M.N[i]? = some y) (hl : locM M y = true) (h : mE M x e = true) : PS X (.Assign [.Name y py] e pos) (tSm X C (.asg i x)) := by
  have hi : X.N[i]? = some y := by rw [m.hN]; exact hy
  obtain ⟨l1, l2⟩ := m.loc hl
  cases hc : noCompM e with
  | true => exact ss_asg m.nd' hi l1 (sE x m h).1 (sw_plain hc _ _ _) l2
  | false =>
    obtain ⟨vs, tg, it, ifs, elt, rfl⟩ := not_comp h hc
    obtain ⟨el, t, iter, fs, scope, pos', own, rfl, o⟩ := sLc vs tg it ifs elt m h
    cases hs : swB X.env.scope y scope py pos' with
    | false => exact ss_asg m.nd' hi l1 (se_comp m.calm m.nd' o) (by rw [sw_lc m.kind, hs]) l2
    | true =>
      have hyl : X.env.scope.names.lookup y = some .local := of_decide_eq_true (and3 hs).1
      exact ss_asgLc m.calm m.nd' hi hyl (by rw [sw_lc m.kind, hs]) o
theorem sNew (m : MX M X C ex k) {i : Nat} {y : Str} {py : Pos} {x : Ex} {e : Expr} (hy : M.N[i]? = some y) (hl : locM M y = true) (hf : freshM M.fr x = true) (h : mE M x e = true) : PS X (.Assign [.Name y py] e pos) (tSm X C (.new i x)) := by
  have hi : X.N[i]? = some y := by rw [m.hN]; exact hy
  obtain ⟨l1, l2⟩ := m.loc hl
  cases hc : noCompM e with
  | true => exact ss_new m.nd' hi l1 (sFresh m hf h) (sw_plain hc _ _ _) l2
  | false =>
    obtain ⟨vs, tg, it, ifs, elt, rfl⟩ := not_comp h hc
    obtain ⟨el, t, iter, fs, scope, pos', own, rfl, o⟩ := sLc vs tg it ifs elt m h
    cases hs : swB X.env.scope y scope py pos' with
    | false => exact ss_new m.nd' hi l1 (sf_comp m.calm m.nd' o) (by rw [sw_lc m.kind, hs]) l2
    | true =>
      have hyl : X.env.scope.names.lookup y = some .local := of_decide_eq_true (and3 hs).1
      exact ss_newLc m.calm m.nd' hi hyl (by rw [sw_lc m.kind, hs]) o
theorem sAF (m : MX M X C ex k) : ∀ (is : List (Nat × Bool)) (xs : Exs) (es : List Expr), mAF M is xs es = true → PA X es (tAF X C (is.map (·.2)) xs) ∧ ∀ y ∈ es, noStarM y = true
  | [], xs, es, h => by
    unfold mAF at h
    split at h
    · exact ⟨saf_nil, fun y hy => nomatch hy⟩
    · rename_i e; cases e
    · rename_i e; cases e
    · cases h
  | (i, b) :: is, xs, es, h => by
    cases xs with
    | nil => cases b <;> (unfold mAF at h; cases h)
    | cons x xs =>
      cases es with
      | nil => cases b <;> (unfold mAF at h; cases h)
      | cons e es =>
        cases b with
        | false =>
          unfold mAF at h
          obtain ⟨h1, h2, h3⟩ := and3 h
          have ia := sAF m is xs es h3
          refine ⟨saf_val (sE x m h2).1 ia.1 (noStar_of h1), fun y hy => ?_⟩
          rcases List.mem_cons.mp hy with rfl | hy
          · exact h1
          · exact ia.2 y hy
        | true =>
          unfold mAF at h
          obtain ⟨h0, h2, h3⟩ := and3 h
          obtain ⟨h1, hf⟩ := and2 h0
          have ia := sAF m is xs es h3
          refine ⟨saf_own (sFresh m hf h2) ia.1 (noStar_of h1), fun y hy => ?_⟩
          rcases List.mem_cons.mp hy with rfl | hy
          · exact h1
          · exact ia.2 y hy
theorem noStar_any {es : List Expr} (h : ∀ y ∈ es, noStarM y = true) : (es.any fun | .Starred .. => true | _ => false) = false := by
  rw [List.any_eq_false]
  intro y hy
  have := h y hy
  cases y <;> first | (cases this; done) | exact fun z => by cases z
theorem sw2 {env : Env} {x y : Str} {p q pt pt2 : Pos} {es : List Expr} {kt k2 : Nat} (hk : env.scope.kind = .function) (hx : env.scope.names.lookup x = some .local) (hy : env.scope.names.lookup y = some .local) (hl : (q.line == p.line) = true) (hne : x ≠ y) (hes : es.length = 2)
    (hst : ∀ e ∈ es, noStarM e = true) (hf : es.all (foldedForSure 8) = false) (hcn : es.all (constantsAlone 8) = false) : swappedStores [.Tuple [.Name x p, .Name y q] kt pt] (.Tuple es k2 pt2) env = pure (some [x, y]) := by
  have hb : env.blockKind = .function := by unfold Env.blockKind; rw [hk]; rfl
  have hd : ([x, y].eraseDups).length = 2 := by
    have : (y == x) = false := by simpa using (Ne.symm hne)
    simp [List.eraseDups_cons, this]
  unfold swappedStores
  simp only [List.length_cons, List.length_nil, hes, hb, hf, hcn, Env.kindOf, hx, hy, List.head?_cons, Option.map_some, Option.getD_some, Expr.pos, List.filterMap_cons, List.filterMap_nil, hl, beq_self_eq_true, Bool.and_true, Bool.and_self, if_true, hd]
  rw [if_neg (by decide), if_neg (by
    rw [Bool.not_eq_true, List.any_eq_false]
    intro y hy
    have := hst y hy
    cases y <;> first | (cases this; done) | exact fun z => by cases z)]
  rfl
theorem sw3 {env : Env} {x y z : Str} {p q r pt pt2 : Pos} {es : List Expr} {kt k2 : Nat} (hk : env.scope.kind = .function) (hx : env.scope.names.lookup x = some .local) (hy : env.scope.names.lookup y = some .local) (hz : env.scope.names.lookup z = some .local) (hl : (q.line == p.line) = true) (hl2 : (r.line == p.line) = true)
    (hne : x ≠ y) (hxz : x ≠ z) (hyz : y ≠ z) (hes : es.length = 3) (hst : ∀ e ∈ es, noStarM e = true) (hf : es.all (foldedForSure 8) = false) (hcn : es.all (constantsAlone 8) = false) : swappedStores [.Tuple [.Name x p, .Name y q, .Name z r] kt pt] (.Tuple es k2 pt2) env = pure (some [x, y, z]) := by
  have hb : env.blockKind = .function := by unfold Env.blockKind; rw [hk]; rfl
  have hd : ([x, y, z].eraseDups).length = 3 := by
    have h1 : (y == x) = false := by simpa using (Ne.symm hne)
    have h2 : (z == x) = false := by simpa using (Ne.symm hxz)
    have h3 : (z == y) = false := by simpa using (Ne.symm hyz)
    simp [List.eraseDups_cons, h1, h2, h3]
  unfold swappedStores
  simp only [List.length_cons, List.length_nil, hes, hb, hf, hcn, Env.kindOf, hx, hy, hz, List.head?_cons, Option.map_some, Option.getD_some, Expr.pos, List.filterMap_cons, List.filterMap_nil, hl, hl2, beq_self_eq_true, Bool.and_true, Bool.and_self, if_true, hd]
  rw [if_neg (by decide), if_neg (by
    rw [Bool.not_eq_true, List.any_eq_false]
    intro y hy
    have := hst y hy
    cases y <;> first | (cases this; done) | exact fun z => by cases z)]
  rfl
theorem nodup_ne {N : List Str} (hN : N.Nodup) {i j : Nat} {x y : Str} (hi : N[i]? = some x) (hj : N[j]? = some y) (h : i ≠ j) : x ≠ y := fun e => by
  subst e
  obtain ⟨li, ei⟩ := List.getElem?_eq_some_iff.mp hi
  obtain ⟨lj, ej⟩ := List.getElem?_eq_some_iff.mp hj
  rcases Nat.lt_or_gt_of_ne h with q | q
  · exact (List.pairwise_iff_getElem.mp hN i j li lj q) (ei.trans ej.symm)
  · exact (List.pairwise_iff_getElem.mp hN j i lj li q) (ej.trans ei.symm)
theorem sPar (m : MX M X C ex k) {is : List (Nat × Bool)} {xs : Exs} {ts es : List Expr} {kt k2 : Nat} {pt pt2 : Pos} (h1 : mAF M is xs es = true) (h2 : parM M is ts es = true) : PS X (.Assign [.Tuple ts kt pt] (.Tuple es k2 pt2) pos) (tSm X C (.par is xs)) := by
  obtain ⟨ia, st⟩ := sAF m is xs es h1
  unfold parM at h2
  split at h2
  · rename_i i bi j bj x p y q
    obtain ⟨h2, f1, f2⟩ := and3 h2
    obtain ⟨h2, f3, f4⟩ := and3 h2
    obtain ⟨h2, f5, f6⟩ := and3 h2
    obtain ⟨f7, f8, f9⟩ := and3 h2
    have f5 := of_decide_eq_true f5
    have f6 := of_decide_eq_true f6
    have f7 := of_decide_eq_true f7
    have f8 := of_decide_eq_true f8
    have f9 := of_decide_eq_true f9
    have f4 := of_decide_eq_true f4
    match es, f4 with
    | [a, b], f4 =>
      exact ss_par2 m.calm m.nd' (by rw [m.hN]; exact f7) (by rw [m.hN]; exact f8) f9 (by rw [m.sc]; exact f5) (by rw [m.sc]; exact f6) ia
        (sw2 m.kind (by rw [m.sc]; exact f5) (by rw [m.sc]; exact f6) f3 (nodup_ne m.nd f7 f8 f9) f4 st (not1 f1) (not1 f2))
  · rename_i i bi j bj l bl x p y q z r
    obtain ⟨h2, f1, f2⟩ := and3 h2
    obtain ⟨h2, g1, f4⟩ := and3 h2
    obtain ⟨h2, g3, g4⟩ := and3 h2
    obtain ⟨h2, g5, g6⟩ := and3 h2
    obtain ⟨h2, g7, g8⟩ := and3 h2
    obtain ⟨h2, g9, g10⟩ := and3 h2
    obtain ⟨g11, g12⟩ := and2 h2
    have f4 := of_decide_eq_true f4
    have g3 := of_decide_eq_true g3
    have g5 := of_decide_eq_true g5
    have g6 := of_decide_eq_true g6
    have g7 := of_decide_eq_true g7
    have g8 := of_decide_eq_true g8
    have g9 := of_decide_eq_true g9
    have g10 := of_decide_eq_true g10
    have g11 := of_decide_eq_true g11
    have g12 := of_decide_eq_true g12
    match es, f4 with
    | [a, b, c], f4 =>
      exact ss_par3 m.calm m.nd' (by rw [m.hN]; exact g11) (by rw [m.hN]; exact g12) (by rw [m.hN]; exact g9) g10 g7 g8 (by rw [m.sc]; exact g5) (by rw [m.sc]; exact g6) (by rw [m.sc]; exact g3) ia
        (sw3 m.kind (by rw [m.sc]; exact g5) (by rw [m.sc]; exact g6) (by rw [m.sc]; exact g3) g4 g1 (nodup_ne m.nd g11 g12 g10) (nodup_ne m.nd g11 g9 g7) (nodup_ne m.nd g12 g9 g8) f4 st (not1 f1) (not1 f2))
  · cases h2
theorem swC {env : Env} {ts es : List Expr} {pt pt2 : Pos} {kt k2 : Nat} (h : ∃ t ∈ ts, ∃ x p, t = .Name x p ∧ env.scope.names.lookup x ≠ some .local) : swappedStores [.Tuple ts kt pt] (.Tuple es k2 pt2) env = pure none := by
  obtain ⟨t, ht, x, p, rfl, hx⟩ := h
  unfold swappedStores
  simp only
  split
  · rfl
  · split
    · rfl
    · rw [if_pos (by
        rw [Bool.or_eq_true]
        refine .inl ?_
        rw [bne_iff_ne]
        intro z
        have := List.filterMap_length_eq_length.mp z _ ht
        simp [Env.kindOf, hx] at this)]
theorem gNames_ok (m : MX M X C ex k) : ∀ {is : List (Nat × Bool)} {ts : List Expr}, ts.length = is.length → ((is.zip ts).all fun p => match p.2 with | .Name x _ => decide (M.N[p.1.1]? = some x) && locM M x | _ => false) = true →
    PGs X ts (gNames is) ∧ (assignEach ts X.env).length = is.length ∧ (assignEach ts X.env).findIdx? (·.1) = none
  | [], [], _, _ => ⟨pgs_nil, rfl, rfl⟩
  | (i, b) :: is, e :: es, l, q => by
    rw [List.zip_cons_cons, List.all_cons, Bool.and_eq_true] at q
    obtain ⟨q1, q2⟩ := q
    obtain ⟨r1, r2, r3⟩ := gNames_ok m (by simpa using l) q2
    cases e with
    | Name x p =>
      obtain ⟨g1, g2⟩ := and2 q1
      obtain ⟨l1, l2⟩ := m.loc g2
      refine ⟨pgs_cons (pg_name (i := i) m.nd' (by rw [m.hN]; exact of_decide_eq_true g1) l1 l2) r1 rfl, ?_, ?_⟩
      · show (assignEach es X.env).length + 1 = is.length + 1
        rw [r2]
      · show List.findIdx? (·.1) ((false, assign (.Name x p) X.env) :: assignEach es X.env) = none
        rw [List.findIdx?_cons]
        show (match false with | true => some 0 | false => (List.findIdx? (·.1) (assignEach es X.env)).map (· + 1)) = none
        rw [r3]
        rfl
    | _ => cases q1
theorem sParC (m : MX M X C ex k) {is : List (Nat × Bool)} {xs : Exs} {ts es : List Expr} {kt k2 : Nat} {pt pt2 : Pos} (h1 : mAF M is xs es = true) (h2 : parC M is ts = true) : PS X (.Assign [.Tuple ts kt pt] (.Tuple es k2 pt2) pos) (tSm X C (.par is xs)) := by
  obtain ⟨ia, st⟩ := sAF m is xs es h1
  unfold parC at h2
  obtain ⟨h2, f3, f4⟩ := and3 h2
  obtain ⟨f1, f2⟩ := and2 h2
  have f1 := of_decide_eq_true f1
  have f2 := of_decide_eq_true f2
  obtain ⟨r1, r2, r3⟩ := gNames_ok m f1 f3
  refine ss_parT m.calm r1 ia (by have : LIM = 1000000 := rfl; omega) r2 r3 (swC ?_)
  obtain ⟨t, ht, hp⟩ := List.any_eq_true.mp f4
  cases t with
  | Name x p => exact ⟨_, ht, x, p, rfl, by rw [m.sc]; simpa using hp⟩
  | _ => cases hp
theorem sRetL (m : MX M X C ex k) {s : Sm} {r : Sms} {ss : List Stmt} (h : retLM M s ss = true) : PSs X ss (tSms X C (.cons s r)) := by
  unfold retLM at h
  split at h
  · rename_i j fs i xs y py nms p2 p3 y2 p4 nms2 p5 p6 ie p7 e es p8 p9
    obtain ⟨h0, h9, h10⟩ := and3 h
    obtain ⟨h0, h7, h8⟩ := and3 h0
    obtain ⟨h0, h5, h6⟩ := and3 h0
    obtain ⟨h0, h3, h4⟩ := and3 h0
    obtain ⟨h1, h2⟩ := and2 h0
    cases of_decide_eq_true h1
    have hj : X.N[j]? = some y := by rw [m.hN]; exact of_decide_eq_true h2
    obtain ⟨l1, l2⟩ := m.loc h3
    have h5 := of_decide_eq_true h5
    have ia := sA xs m h10
    have e0 : fs = fs.take nms.length ++ fs.drop nms.length := (List.take_append_drop _ _).symm
    rw [e0]
    rcases m.exc with hW | ⟨W0, E⟩
    · obtain ⟨as, row⟩ := row0 m h6
      obtain ⟨as2, row2⟩ := row0 m h7
      have q1 := row.len
      have q2 := row2.len
      exact sss_retL (E := fun _ => E0) m.nd' hj l1 (sw_plain rfl _ _ _) l2 (sE i m h9).1 (plainIx_of h8) row (by omega) (pe_fl2 (m.var h4).2 row2.names (by omega)) (row.append row2) (fun σ => passAt0 (fun _ => E0) σ) m.room ia.1 ia.2 fun kk σ H z => (hW _ _ _ z).elim
    · obtain ⟨as, row⟩ := rowX m E h6
      obtain ⟨as2, row2⟩ := rowX m E h7
      have q1 := row.len
      have q2 := row2.len
      exact sss_retL (E := WE W0) m.nd' hj l1 (sw_plain rfl _ _ _) l2 (sE i m h9).1 (plainIx_of h8) row (by omega) (pe_fl2 (m.var h4).2 row2.names (by omega)) (row.append row2) (fun σ => passAt E.tk σ) m.room ia.1 ia.2 fun kk σ H z => ⟨E.on, E.W _ _ _ z⟩
  · rename_i j fs i xs y py nms p2 p3 y2 p4 ie p7 e es p8 p9
    obtain ⟨h0, h9, h10⟩ := and3 h
    obtain ⟨h0, h6, h8⟩ := and3 h0
    obtain ⟨h0, h4, h5⟩ := and3 h0
    obtain ⟨h1, h2, h3⟩ := and3 h0
    cases of_decide_eq_true h1
    have hj : X.N[j]? = some y := by rw [m.hN]; exact of_decide_eq_true h2
    obtain ⟨l1, l2⟩ := m.loc h3
    have h5 := of_decide_eq_true h5
    have ia := sA xs m h10
    rcases m.exc with hW | ⟨W0, E⟩
    · obtain ⟨as, row⟩ := row0 m h6
      exact sss_retL (E := fun _ => E0) m.nd' hj l1 (sw_plain rfl _ _ _) l2 (sE i m h9).1 (plainIx_of h8) row h5 (pe_fl1 (m.var h4).2) row (fun σ => passAt0 (fun _ => E0) σ) m.room ia.1 ia.2 fun kk σ H z => (hW _ _ _ z).elim
    · obtain ⟨as, row⟩ := rowX m E h6
      exact sss_retL (E := WE W0) m.nd' hj l1 (sw_plain rfl _ _ _) l2 (sE i m h9).1 (plainIx_of h8) row h5 (pe_fl1 (m.var h4).2) row (fun σ => passAt E.tk σ) m.room ia.1 ia.2 fun kk σ H z => ⟨E.on, E.W _ _ _ z⟩
  · cases h
theorem sSpr (m : MX M X C ex k) {s : Sm} {r : Sms} {ss : List Stmt} (h : sprM M s ss = true) : PSs X ss (tSms X C (.cons s r)) := by
  unfold sprM at h
  split at h
  · simp only [Bool.and_eq_true, decide_eq_true_eq, Bool.not_eq_true'] at h
    obtain ⟨⟨⟨⟨⟨⟨⟨⟨⟨⟨⟨⟨⟨⟨⟨⟨⟨⟨⟨⟨⟨⟨⟨⟨⟨⟨⟨a1, a2⟩, a3⟩, a4⟩, a5⟩, a6⟩, a7⟩, a8⟩, a9⟩, a10⟩, a11⟩, a12⟩, a13⟩, a14⟩, a15⟩, a16⟩, a17⟩, a18⟩, a19⟩, a20⟩, a21⟩, a22⟩, a23⟩, a24⟩, a25⟩, a26⟩, a27⟩, a28⟩ := h
    subst a1 a2 a3 a4 a5 a6 a7 a8 a9 a10
    obtain ⟨l1, l2⟩ := m.loc a17
    obtain ⟨l3, l4⟩ := m.loc a18
    have hi := a13
    have hj := a14
    rw [← m.hN] at hi hj
    have hy : ∀ p, varM M _ (.Name _ p) = true := fun p => by
      show (decide _ && visM M.sc _ && plainNm _) = true
      rw [decide_eq_true a13, a19, a21]; rfl
    have hz : ∀ p, varM M _ (.Name _ p) = true := fun p => by
      show (decide _ && visM M.sc _ && plainNm _) = true
      rw [decide_eq_true a14, a20, a22]; rfl
    exact sss_spr (by have := m.room.un; omega) m.own m.calm m.nd' hi hj a15 (fun z => by rw [List.contains_iff_mem.mpr z] at a16; cases a16) l1 l2 l3 l4 (fun p => (m.var (hy p)).2) (fun p => (m.var (hz p)).2) (sI _ m a26) (m.tga a27) (noSet_of a24 _) (sE _ m a28).1 (sw_plain a25 _ _ _) a11 a12 (m.gl a23) (m.blt _ (by decide)) fun D σ H q => spr_key q
  · cases h
mutual
theorem sS : ∀ (x : Sm) {M : MC} {X : Cx} {C : Cn} {ex : EV} {k : Nat} {st : Stmt}, MX M X C ex k → mS M x st = true → PS X st (tSm X C x)
  | .asg i x, M, X, C, ex, k, st, m, h => by
    unfold mS at h
    split at h
    · obtain ⟨h1, h2, h3⟩ := and3 h
      exact sAsg m (of_decide_eq_true h1) h2 h3
    · cases h
  | .new i x, M, X, C, ex, k, st, m, h => by
    unfold mS at h
    split at h
    · obtain ⟨h0, h3, h4⟩ := and3 h
      obtain ⟨h1, h2⟩ := and2 h0
      exact sNew m (of_decide_eq_true h1) h2 h3 h4
    · cases h
  | .shr _, M, X, C, ex, k, st, m, h => by unfold mS at h; cases h
  | .app i x, M, X, C, ex, k, st, m, h => by
    unfold mS at h
    split at h
    · obtain ⟨h0, h4, h5⟩ := and3 h
      obtain ⟨h1, h2, h3⟩ := and3 h0
      cases of_decide_eq_true h1
      exact ss_app (m.var h3).2 (sE x m h5).1 (noStar_of h4) h2
    · cases h
  | .ext i x, M, X, C, ex, k, st, m, h => by
    unfold mS at h
    split at h
    · obtain ⟨h0, h4, h5⟩ := and3 h
      obtain ⟨h1, h2, h3⟩ := and3 h0
      cases of_decide_eq_true h1
      exact ss_ext (m.var h3).2 (sE x m h5).1 (noStar_of h4) h2
    · cases h
  | .put i a b, M, X, C, ex, k, st, m, h => by
    unfold mS at h
    split at h
    · rename_i y p ke p' e pos
      obtain ⟨h0, h3, h4⟩ := and3 h
      obtain ⟨h1, h2⟩ := and2 h0
      refine ss_put m.room (m.var h2).2 (sE b m h4).1 (sE a m h3).1 fun v => ?_
      cases ke <;> first | rfl | cases h1
    · cases h
  | .unp is x, M, X, C, ex, k, st, m, h => by
    unfold mS at h
    split at h
    · rename_i ts kk pt e pos
      obtain ⟨h0, h3, h4⟩ := and3 h
      obtain ⟨h1, h2⟩ := and2 h0
      have h3 : (decide (ts.length = is.length) && _) = true := h3
      rw [Bool.and_eq_true] at h3
      obtain ⟨r1, r2, r3⟩ := m.tgs (of_decide_eq_true h3.1) h3.2
      refine ss_unp m.calm (sE x m h4).1 r1 r2 r3 (sw_plain h1 _ _ _) ?_
      cases e <;> first | rfl | cases h2
    · cases h
  | .par is xs, M, X, C, ex, k, st, m, h => by
    unfold mS at h
    split at h
    · obtain ⟨h1, h2⟩ := and2 h
      rw [Bool.or_eq_true] at h2
      rcases h2 with h2 | h2
      · exact sPar m h1 h2
      · exact sParC m h1 h2
    · cases h
  | .aug i o x, M, X, C, ex, k, st, m, h => by
    unfold mS at h
    split at h
    · obtain ⟨h0, h3, h4⟩ := and3 h
      obtain ⟨h1, h2⟩ := and2 h0
      obtain ⟨l1, l2⟩ := m.loc h2
      have hi := of_decide_eq_true h1
      rw [← m.hN] at hi
      split at h3
      · exact ss_aug m.nd' hi l1 (sE x m h4).1 ip_add aug_add l2
      · exact ss_aug m.nd' hi l1 (sE x m h4).1 iop_mul aug_mul l2
      · cases h3
    · cases h
  | .ife t a b, M, X, C, ex, k, st, m, h => by
    unfold mS at h
    split at h
    · obtain ⟨h1, h2, h3⟩ := and3 h
      exact ss_if (sE t m h1).1 (sSs a m h2) (sSs b m h3)
    · cases h
  | .for' tg it b, M, X, C, ex, k, st, m, h => by
    unfold mS at h
    split at h
    · obtain ⟨h0, h3, h4⟩ := and3 h
      obtain ⟨h1, h2⟩ := and2 h0
      exact ss_for m.own m.calm (sI it m h2) (m.tga h3) (sSs b m h4) (noSet_of h1 _)
    · cases h
  | .whl fuel t b, M, X, C, ex, k, st, m, h => by
    unfold mS at h
    split at h
    · obtain ⟨h1, h2⟩ := and2 h
      exact ss_while m.own (sE t m h1).1 (sSs b m h2)
    · cases h
  | .ret x, M, X, C, ex, k, st, m, h => by
    unfold mS at h
    split at h
    · exact ss_ret (sE x m h).1
    · cases h
  | .exp x, M, X, C, ex, k, st, m, h => by
    unfold mS at h
    split at h
    · obtain ⟨h1, h2⟩ := and2 h
      exact ss_exp (sE x m h2).1 (sw_plain h1 _ _ _)
    · cases h
  | .rse k', M, X, C, ex, k, st, m, h => by
    unfold mS at h
    split at h
    · obtain ⟨h0, h2, h3⟩ := and3 h
      obtain ⟨h1, hx⟩ := and2 h0
      rcases m.exc with hW | ⟨W0, E⟩
      · exact ss_never hW
      · obtain ⟨A, a1, a2, a3, a4, a5, a6⟩ := E.cls _ _ (of_decide_eq_true h1) hx
        exact ss_rse m.calm E.tk E.W a1 a2 a3 a4 a5 a6 (m.gl h2) (plain_of h3).1
    · cases h
  | .tryW i ov b, M, X, C, ex, k, st, m, h => by
    unfold mS at h
    obtain ⟨ht, h⟩ := and2 h
    split at h
    · obtain ⟨h0, hp, h9⟩ := and3 h
      obtain ⟨h0, h7, h8⟩ := and3 h0
      obtain ⟨h0, h5, h6⟩ := and3 h0
      obtain ⟨h2, h3, h4⟩ := and3 h0
      cases of_decide_eq_true h2
      cases of_decide_eq_true h3
      cases of_decide_eq_true h4
      have h5 := of_decide_eq_true h5
      have h6 := of_decide_eq_true h6
      obtain ⟨T, on, mkt, cal, cls⟩ := m.tx ht
      refine ss_try T m.nd' (by rw [m.hN]; exact h5) (by show X.env.scope.names.lookup _ = _; rw [m.sc]; exact h6) (plain_of hp).1 (plain_of hp).2 (m.gl h7) (m.gl h8) fun W pn xe tk po => ?_
      have m' : MX { M with tr := false, fr := [], mks := (true, M.mks.2) } (X.tr pn xe) (C.withW fun k σ H => k < 16 ∧ W (ex.2 k) none σ H) ex k :=
        { hN := m.hN, sc := m.sc, kd := m.kd, fn := m.fn, nd := m.nd, calm := m.calm, room := m.room, own := po, blt := m.blt
          cal := fun i x tw n e => by
            obtain ⟨cl, k1, k2, k3, k4⟩ := m.cal i x tw n e
            exact ⟨cl, k1, k2, ⟨k3.ok⟩, k4⟩
          gv := m.gv
          exc := .inr ⟨W, tk, fun _ _ _ z => z.2, on, fun i x tw n e => by
            obtain ⟨cl, k1, k2, k3, k4⟩ := cal i x tw n e
            exact ⟨cl, k1, k2, ⟨k3.ok⟩, k4⟩, cls⟩
          mkc := fun _ => ⟨W, tk, fun _ _ _ z => z.2, on, fun f x n hc => by
            obtain ⟨cl, k1, k2, k3, k4⟩ := mkt f x n hc
            exact ⟨cl, k1, k2, ⟨k3.ok⟩, k4⟩⟩
          calF := fun _ z => nomatch z
          tx := fun z => nomatch z }
      exact sSs b m' h9
    · obtain ⟨h0, hp, h9⟩ := and3 h
      obtain ⟨h0, h7, h8⟩ := and3 h0
      obtain ⟨h0, h5, h6⟩ := and3 h0
      obtain ⟨h0, h3, h4⟩ := and3 h0
      obtain ⟨h0, hx3, h2⟩ := and3 h0
      obtain ⟨h0, hl, hgl⟩ := and3 h0
      obtain ⟨hr, hz⟩ := and2 h0
      cases of_decide_eq_true hr
      cases of_decide_eq_true hz
      cases of_decide_eq_true hl
      cases of_decide_eq_true h2
      cases of_decide_eq_true h3
      cases of_decide_eq_true h4
      have h5 := of_decide_eq_true h5
      have h6 := of_decide_eq_true h6
      obtain ⟨T, on, mkt, cal, cls⟩ := m.tx ht
      refine ss_try2 T hx3 m.nd' (by rw [m.hN]; exact h5) (by show X.env.scope.names.lookup _ = _; rw [m.sc]; exact h6) (plain_of hp).1 (plain_of hp).2 (m.gl hgl) (m.gl h7) (m.gl h8) fun W pn xe tk po => ?_
      have m' : MX { M with tr := false, fr := [], mks := (true, M.mks.2) } (X.tr pn xe) (C.withW fun k σ H => k < 16 ∧ W (ex.2 k) none σ H) ex k :=
        { hN := m.hN, sc := m.sc, kd := m.kd, fn := m.fn, nd := m.nd, calm := m.calm, room := m.room, own := po, blt := m.blt
          cal := fun i x tw n e => by
            obtain ⟨cl, k1, k2, k3, k4⟩ := m.cal i x tw n e
            exact ⟨cl, k1, k2, ⟨k3.ok⟩, k4⟩
          gv := m.gv
          exc := .inr ⟨W, tk, fun _ _ _ z => z.2, on, fun i x tw n e => by
            obtain ⟨cl, k1, k2, k3, k4⟩ := cal i x tw n e
            exact ⟨cl, k1, k2, ⟨k3.ok⟩, k4⟩, cls⟩
          mkc := fun _ => ⟨W, tk, fun _ _ _ z => z.2, on, fun f x n hc => by
            obtain ⟨cl, k1, k2, k3, k4⟩ := mkt f x n hc
            exact ⟨cl, k1, k2, ⟨k3.ok⟩, k4⟩⟩
          calF := fun _ z => nomatch z
          tx := fun z => nomatch z }
      exact sSs b m' h9
    · cases h
  | .retL _ _ _ _, M, X, C, ex, k, st, m, h => by unfold mS at h; cases h
  | .hole, M, X, C, ex, k, st, m, h => by unfold mS at h; cases h
  | .spr _ _ _ _ _, M, X, C, ex, k, st, m, h => by unfold mS at h; cases h
  | .forP tg f i b, M, X, C, ex, k, st, m, h => by
    unfold mS at h
    split at h
    · obtain ⟨h0, h7, h8⟩ := and3 h
      obtain ⟨h0, h5, h6⟩ := and3 h0
      obtain ⟨h0, h3, h4⟩ := and3 h0
      obtain ⟨h1, h2⟩ := and2 h0
      cases of_decide_eq_true h1
      obtain ⟨n, hc⟩ := calM_of h3
      obtain ⟨cl, c1, c2, c3, c4⟩ := m.cal _ _ _ _ hc
      exact ss_forP m.own m.calm c1 c2 c3 c4 m.room (m.gl h4) (plain_of h5).1 (m.var h6).2 h2 (m.tga h7) (sSs b m h8) fun D σ H q => by
        obtain ⟨f', c, S, env, rel, post⟩ := q
        rw [exS] at post
        exact ⟨f', c, S, env, rel, post⟩
    · cases h
  | .nop, M, X, C, ex, k, st, m, h => by
    unfold mS at h
    split at h
    · exact ss_nop_pass
    · exact ss_nop_doc
    · cases h
theorem sSs : ∀ (x : Sms) {M : MC} {X : Cx} {C : Cn} {ex : EV} {k : Nat} {ss : List Stmt}, MX M X C ex k → mSs M x ss = true → PSs X ss (tSms X C x)
  | .nil, M, X, C, ex, k, ss, m, h => by
    unfold mSs at h
    cases ss with
    | nil => exact sss_nil
    | cons _ _ => cases h
  | .cons s r, M, X, C, ex, k, ss, m, h => by
    unfold mSs at h
    rw [Bool.or_eq_true, Bool.or_eq_true, Bool.or_eq_true, Bool.or_eq_true] at h
    rcases h with ((h | h | h) | h) | h
    · obtain ⟨h1, h2⟩ := and2 h
      cases s with
      | shr i => exact sss_shr (sSs r m h2)
      | _ => cases h1
    · cases s with
      | hole => exact sss_hole
      | _ => cases h
    · exact sRetL m h
    · exact sSpr m h
    · split at h
      · obtain ⟨h1, h2⟩ := and2 h
        exact sss_cons (sS s m h1) (sSs r m h2)
      · cases h
end
end
end LG

/-! LgQ: a def keeps what its small form computes; the law. -/
namespace LG
open PySem PySem.Spec PyProof.Rows L2

/-- the scope of a def, by a yes or no -/
def scB (N ps : List Str) (sc : Scope) : Bool := decide (sc.kind = .function) && !sc.isCoroutine && !sc.isGenerator && decide N.Nodup && decide (N.take ps.length = ps) && (ps.all fun x => decide (sc.names.lookup x = some .local) || decide (sc.names.lookup x = some .cell)) && sc.names.all fun y => decide (y.2 ≠ .free)
theorem scB_ok {N ps : List Str} {sc : Scope} (h : scB N ps sc = true) : FnScope N ps sc := by
  unfold scB at h
  simp only [Bool.and_eq_true, Bool.not_eq_true', decide_eq_true_eq, List.all_eq_true, Bool.or_eq_true] at h
  obtain ⟨⟨⟨⟨⟨⟨h1, h2⟩, h3⟩, h4⟩, h5⟩, h6⟩, h7⟩ := h
  exact ⟨h1, h2, h3, h4, h5, h6, h7⟩
/-- a tuple that the module's top has left -/
theorem rep_tupK {P : Program} {w : World} {K : PySem.W.Frag} {S : Hp} {a : Addr} {od : Option Addr} {its : Array Value} {n : Nat} {sl : Array (Option Value)} {vs : List V} {ds : List D} (h : K.lookup a = some ⟨.type "tuple", od, .seq its n, sl⟩) (hs : its.size ≤ 1000) (hv : Vals vs its.toList) (r : Reps P w K S ds vs) : Rep P w K S (.tuple ds) (.ref a) := by
  have hl := r.length
  have hl2 := hv.length
  have e : its.toList.length = its.size := Array.length_toList
  refine .tup (.inr ⟨_, its, n, h, rfl, rfl, by have : sizeLine = 2 ^ 24 := rfl; omega, hv⟩) ?_ r
  have : LIM = 1000000 := rfl
  omega
/-- a def of the module, callable -/
structure Dfn (P : Program) (w : World) (K : PySem.W.Frag) (mg : Str → Option Value) (base : Heap) (k : Nat) (x : Str) (c : Callee) (n : Nat) : Prop where
  ok : ∃ f fd ps, mg x = some (.ref f) ∧ PySem.W.keepIn K (.ref f) = true ∧ Binds K fd ps [] ∧ FnOk P w K mg base CX0 k f fd ps (spF P w K ex0 c.tw n c.F)
  len : ∀ ns ds cc r, c.F ns ds cc = r → r ≠ .bad → ds.length = n
inductive Cals (P : Program) (w : World) (K : PySem.W.Frag) (mg : Str → Option Value) (base : Heap) (k : Nat) : List (Str × Bool × Nat) → List Callee → Prop
  | nil : Cals P w K mg base k [] []
  | cons {j : Nat} {x : Str} {c : Callee} {n : Nat} {l : List (Str × Bool × Nat)} {Φ : List Callee} (d : Dfn P w K mg base j x c n) (h : j ≤ k) (r : Cals P w K mg base k l Φ) : Cals P w K mg base k ((x, c.tw, n) :: l) (c :: Φ)
inductive Gvs (P : Program) (w : World) (K : PySem.W.Frag) (mg : Str → Option Value) : List Str → List D → Prop
  | nil : Gvs P w K mg [] []
  | cons {x : Str} {d : D} {v : V} {u : Value} {l : List Str} {ds : List D} (h : mg x = some u) (r : RelV v u) (q : ∀ S, Rep P w K S d v) (t : Gvs P w K mg l ds) : Gvs P w K mg (x :: l) (d :: ds)
section
variable {P : Program} {w : World} {K : PySem.W.Frag} {mg : Str → Option Value} {base : Heap}
theorem Cals.get {k : Nat} : ∀ {l : List (Str × Bool × Nat)} {Φ : List Callee}, Cals P w K mg base k l Φ → ∀ (i : Nat) x tw n, l[i]? = some (x, tw, n) → ∃ cl, Φ[i]? = some cl ∧ cl.tw = tw ∧ Dfn P w K mg base k x cl n
  | _, _, .nil, i, x, tw, n, h => by simp at h
  | _, _, .cons d h r, 0, x, tw, n, e => by
    rw [List.getElem?_cons_zero] at e
    cases e
    obtain ⟨f, fd, ps, a, b, c, F⟩ := d.ok
    exact ⟨_, rfl, rfl, ⟨f, fd, ps, a, b, c, F.mono h⟩, d.len⟩
  | _, _, .cons d h r, i + 1, x, tw, n, e => by
    rw [List.getElem?_cons_succ] at e
    obtain ⟨cl, h1, h2⟩ := Cals.get r i x tw n e
    exact ⟨cl, by rw [List.getElem?_cons_succ]; exact h1, h2⟩
theorem Gvs.get : ∀ {l : List Str} {ds : List D}, Gvs P w K mg l ds → ∀ (g : Nat) x, l[g]? = some x → ∃ d v u, ds[g]? = some d ∧ mg x = some u ∧ RelV v u ∧ ∀ S, Rep P w K S d v
  | _, _, .nil, i, x, h => by simp at h
  | _, _, .cons h r q t, 0, x, e => by
    rw [List.getElem?_cons_zero] at e
    cases e
    exact ⟨_, _, _, rfl, h, r, q⟩
  | _, _, .cons h r q t, i + 1, x, e => by
    rw [List.getElem?_cons_succ] at e
    obtain ⟨d, h1⟩ := Gvs.get t i x e
    exact ⟨d, by rw [List.getElem?_cons_succ]; exact h1⟩
theorem runD_len {Φ : List Callee} {gv : List D} {tw : Bool} {n N : Nat} {body : Sms} (ns : List Int) (ds : List D) (c : Nat) (r : R (D × Nat)) (h : runD Φ gv tw n N body ns ds c = r) (hb : r ≠ .bad) : ds.length = n := by
  unfold runD at h
  split at h
  · assumption
  · exact absurd h.symm hb
theorem start_get {N : List Str} {vs : List V} {i : Nat} {v : V} (h : vs[i]? = some v) : (start N vs)[i]? = some (some v) := by
  unfold L2.start
  have hl : i < vs.length := by
    by_cases z : i < vs.length
    · exact z
    · rw [List.getElem?_eq_none (by omega)] at h; cases h
  rw [List.getElem?_append_left (by simpa using hl), List.getElem?_map, h]
  rfl
/-- how a frame begins -/
theorem rel_start {f : Fm} {c : Nat} {S H : Hp} {tw : Bool} {N : List Str} {ds : List D} {us : List V} (wf : f.wf K c S H) (r : Reps P w K S ds us) (hl : (if tw then 2 else 0) + ds.length ≤ N.length) :
    Rel P w K ⟨f.scr, f.ns, f.T, S, H, S⟩ c S H (startE tw N.length ds) (start N ((if tw then [.ref f.scr, .ref f.T] else []) ++ us)) := by
  have len := r.length
  have key : ∀ (i : Nat) (s : Slot), (startE tw N.length ds)[i]? = some s → s = .unb ∨ (tw = true ∧ i = 0 ∧ s = .scr) ∨ (tw = true ∧ i = 1 ∧ s = .town) ∨ ∃ j d, i = (if tw then 2 else 0) + j ∧ ds[j]? = some d ∧ s = .val d := by
    intro i s h
    unfold startE at h
    cases tw with
    | true =>
      match i with
      | 0 => simp at h; exact .inr (.inl ⟨rfl, rfl, h.symm⟩)
      | 1 => simp at h; exact .inr (.inr (.inl ⟨rfl, rfl, h.symm⟩))
      | j + 2 =>
        simp only [if_true, List.cons_append, List.nil_append, List.getElem?_cons_succ] at h
        by_cases hj : j < ds.length
        · rw [List.getElem?_append_left (by simpa using hj), List.getElem?_map, List.getElem?_eq_getElem hj] at h
          cases h
          exact .inr (.inr (.inr ⟨j, _, by simp; omega, List.getElem?_eq_getElem hj, rfl⟩))
        · rw [List.getElem?_append_right (by simpa using hj)] at h
          exact .inl (List.eq_of_mem_replicate (List.mem_of_getElem? h))
    | false =>
      simp only [Bool.false_eq_true, if_false, List.nil_append] at h
      by_cases hj : i < ds.length
      · rw [List.getElem?_append_left (by simpa using hj), List.getElem?_map, List.getElem?_eq_getElem hj] at h
        cases h
        exact .inr (.inr (.inr ⟨i, _, by simp, List.getElem?_eq_getElem hj, rfl⟩))
      · rw [List.getElem?_append_right (by simpa using hj)] at h
        exact .inl (List.eq_of_mem_replicate (List.mem_of_getElem? h))
  refine ⟨wf, ⟨c, wf⟩, wf.refl, fun _ _ h => h, ?_, fun i d h => ?_, fun i h => ?_, fun i h => ?_, fun i d h => ?_, fun i j d e a hij h => ?_⟩
  · unfold startE L2.start
    cases tw <;> simp <;> omega
  · rcases key i _ h with z | ⟨_, _, z⟩ | ⟨_, _, z⟩ | ⟨j, d', e1, e2, e3⟩
    · cases z
    · cases z
    · cases z
    · cases e3
      obtain ⟨v, hv, rv⟩ := r.get e2
      refine ⟨v, ?_, rv⟩
      subst e1
      apply start_get
      cases tw
      · simpa using hv
      · show (V.ref f.scr :: V.ref f.T :: us)[2 + j]? = some v
        rw [Nat.add_comm 2 j]
        exact hv
  · rcases key i _ h with z | ⟨t, e, z⟩ | ⟨_, _, z⟩ | ⟨j, d', e1, e2, e3⟩
    · cases z
    · subst t e; exact start_get rfl
    · cases z
    · cases e3
  · rcases key i _ h with z | ⟨_, _, z⟩ | ⟨t, e, z⟩ | ⟨j, d', e1, e2, e3⟩
    · cases z
    · cases z
    · subst t e; exact start_get rfl
    · cases e3
  · rcases key i _ h with z | ⟨_, _, z⟩ | ⟨_, _, z⟩ | ⟨j, d', e1, e2, e3⟩
    · cases z
    · cases z
    · cases z
    · cases e3
  · rcases key i _ h with z | ⟨_, _, z⟩ | ⟨_, _, z⟩ | ⟨j, d', e1, e2, e3⟩
    · cases z
    · cases z
    · cases z
    · cases e3
/-- THE RULE: a def whose text matches -/
theorem fn_ok {x : Str} {st : Stmt} {f : Addr} {fd : FuncData} {N ps : List Str} {k n : Nat} {Φ : List Callee} {gv : List D} {tw : Bool} {body : Sms} {cal : List (Str × Bool × Nat)} {gn : List Str} {xs : List Nat} (F : L2.Fun K x x st f fd) (S : FnScope N ps (defScope st))
    (hps : ps.length = (if tw then 2 else 0) + n) (hm : mSs ⟨N, defScope st, fun _ => true, cal, gn, false, xs, [], (false, [])⟩ body (defBody st) = true) (hb : ∀ x ∈ bltNames, mg x = none) (hc : Cals P w K mg base k cal Φ) (hg : Gvs P w K mg gn gv)
    (hx : mg x = some (.ref f)) (bd : Binds K fd ps []) : Dfn P w K mg base (k + 1) x ⟨tw, runD Φ gv tw n N.length body⟩ n := by
  refine ⟨⟨f, fd, ps, hx, F.kp, bd, ?_⟩, runD_len⟩
  refine F.ok S (fun vs H Q E h => ?_) (fun cdv A outer s H vs Q E hr h => ?_)
  · obtain ⟨fm, c, S', ds, us, wf, r, l, rfl, _⟩ := h
    rw [hps, List.length_append, ← r.length, l]
    cases tw <;> rfl
  · obtain ⟨fm, c, S', ds, us, wf, r, l, rfl, post⟩ := h
    have mx : MX ⟨N, defScope st, fun _ => true, cal, gn, false, xs, [], (false, [])⟩ (cxOf CX0 P w K mg base N x (defScope st) f cdv A outer s H E).nox ⟨Φ, gv, fun _ _ _ => False⟩ ex0 k :=
      { hN := rfl, sc := rfl, kd := S.kind, fn := rfl, nd := S.nd, calm := rfl, room := hr, own := PassesOwn.never, blt := hb
        cal := fun i x tw n e => by
          obtain ⟨cl, h1, h2, h3⟩ := hc.get i x tw n e
          exact ⟨cl, h1, h2, ⟨h3.ok⟩, h3.len⟩
        gv := hg.get, exc := .inl fun _ _ _ z => z, mkc := (fun z => nomatch z), calF := (fun _ z => nomatch z), tx := fun z => nomatch z }
    have hl : (if tw then 2 else 0) + ds.length ≤ N.length := by
      have := congrArg List.length S.pre
      rw [List.length_take] at this
      rw [l, ← hps]
      omega
    refine ⟨_, sSs body mx hm, ⟨fm.scr, fm.ns, fm.T, S', H, S'⟩, c, S', startE tw N.length ds, rel_start wf r hl, ?_⟩
    have post : Post fm (fun k H' => false = true ∧ E ((fun _ => Value.none) k) none H') (Rep P w K) S' H (runD Φ gv tw n N.length body fm.ns ds c) Q := post
    unfold runD at post
    rw [if_pos l] at post
    match ev : exSs fm.ns Φ gv body (startE tw N.length ds) c with
    | .ok (.next env', c') => rw [ev] at post; exact fun S2 H2 σ2 rel2 => post S2 H2 _ rel2.ent .non
    | .ok (.ret d, c') => rw [ev] at post; exact post
    | .exn e c0 => rw [ev] at post; exact fun S2 H2 σ2 g => Bool.false_ne_true (post S2 H2 g).1
    | .bad => rw [ev] at post; exact post
/-- a def of the module whose answer is new -/
structure DfnF (P : Program) (w : World) (K : PySem.W.Frag) (mg : Str → Option Value) (base : Heap) (k : Nat) (x : Str) (c : Callee) (n : Nat) : Prop where
  ok : ∃ f fd ps, mg x = some (.ref f) ∧ PySem.W.keepIn K (.ref f) = true ∧ Binds K fd ps [] ∧ FnOk P w K mg base CX0 k f fd ps (spFF P w K c.tw n c.F)
  len : ∀ ns ds cc r, c.F ns ds cc = r → r ≠ .bad → ds.length = n
/-- nothing is lost if the answer is taken as shared -/
theorem DfnF.dfn {k : Nat} {x : Str} {c : Callee} {n : Nat} (d : DfnF P w K mg base k x c n) : Dfn P w K mg base k x c n := by
  obtain ⟨f, fd, ps, h1, h2, h3, F⟩ := d.ok
  refine ⟨⟨f, fd, ps, h1, h2, h3, F.imp fun vs H Q E h => ?_⟩, d.len⟩
  obtain ⟨fm, c', S, ds, us, wf, r, l, e, post⟩ := h
  refine ⟨fm, c', S, ds, us, wf, r, l, e, ?_⟩
  have p2 := PostF.of post
  match hF : c.F fm.ns ds c' with
  | .ok (d, c2) => rw [hF] at p2; exact p2
  | .exn k c0 => rw [hF] at p2; exact fun S' H' g => absurd (p2 S' H' g).1 (by decide)
  | .bad => rw [hF] at p2; exact p2
theorem DfnF.mono {j k : Nat} {x : Str} {c : Callee} {n : Nat} (d : DfnF P w K mg base j x c n) (h : j ≤ k) : DfnF P w K mg base k x c n := by
  obtain ⟨f, fd, ps, h1, h2, h3, F⟩ := d.ok
  exact ⟨⟨f, fd, ps, h1, h2, h3, F.mono h⟩, d.len⟩
theorem fn_okF {x y : Str} {st : Stmt} {f : Addr} {fd : FuncData} {N ps : List Str} {k n i : Nat} {Φ : List Callee} {gv : List D} {tw : Bool} {pre : Sms} {ss0 : List Stmt} {p9 pos9 : Pos} {cal : List (Str × Bool × Nat)} {gn : List Str} {xs : List Nat} (F : L2.Fun K x x st f fd) (S : FnScope N ps (defScope st))
    (hps : ps.length = (if tw then 2 else 0) + n) (hst : defBody st = ss0 ++ [.Return (some (.Name y p9)) pos9]) (hm : mSs ⟨N, defScope st, fun _ => true, cal, gn, false, xs, [], (false, [])⟩ pre ss0 = true) (hv : varM ⟨N, defScope st, fun _ => true, cal, gn, false, xs, [], (false, [])⟩ i (.Name y p9) = true) (hb : ∀ x ∈ bltNames, mg x = none) (hc : Cals P w K mg base k cal Φ) (hg : Gvs P w K mg gn gv)
    (hx : mg x = some (.ref f)) (bd : Binds K fd ps []) : DfnF P w K mg base (k + 1) x ⟨tw, runF Φ gv tw n N.length pre i⟩ n := by
  refine ⟨⟨f, fd, ps, hx, F.kp, bd, ?_⟩, runF_len⟩
  refine F.ok S (fun vs H Q E h => ?_) (fun cdv A outer s H vs Q E hr h => ?_)
  · obtain ⟨fm, c, S', ds, us, wf, r, l, rfl, _⟩ := h
    rw [hps, List.length_append, ← r.length, l]
    cases tw <;> rfl
  · obtain ⟨fm, c, S', ds, us, wf, r, l, rfl, post⟩ := h
    have mx : MX ⟨N, defScope st, fun _ => true, cal, gn, false, xs, [], (false, [])⟩ (cxOf CX0 P w K mg base N x (defScope st) f cdv A outer s H E).nox ⟨Φ, gv, fun _ _ _ => False⟩ ex0 k :=
      { hN := rfl, sc := rfl, kd := S.kind, fn := rfl, nd := S.nd, calm := rfl, room := hr, own := PassesOwn.never, blt := hb
        cal := fun i x tw n e => by
          obtain ⟨cl, h1, h2, h3⟩ := hc.get i x tw n e
          exact ⟨cl, h1, h2, ⟨h3.ok⟩, h3.len⟩
        gv := hg.get, exc := .inl fun _ _ _ z => z, mkc := (fun z => nomatch z), calF := (fun _ z => nomatch z), tx := fun z => nomatch z }
    have hl : (if tw then 2 else 0) + ds.length ≤ N.length := by
      have := congrArg List.length S.pre
      rw [List.length_take] at this
      rw [l, ← hps]
      omega
    rw [hst]
    refine ⟨_, pss_app (sSs pre mx hm) (pss_one (ps_ret (mx.var hv).2)), ⟨fm.scr, fm.ns, fm.T, S', H, S'⟩, c, S', startE tw N.length ds, rel_start wf r hl, ?_⟩
    have post : PostF P w K fm (fun _ _ => False) S' H (runF Φ gv tw n N.length pre i fm.ns ds c) Q := post
    unfold runF at post
    rw [if_pos l] at post
    match ev : exSs fm.ns Φ gv pre (startE tw N.length ds) c with
    | .ok (.next env', c') =>
      rw [ev] at post
      simp only at post
      intro S2 H2 σ2 rel2
      cases e0 : env'[i]? with
      | none => rw [e0] at post; exact (show False from post).elim
      | some sl =>
        cases sl with
        | own d =>
          rw [e0] at post
          obtain ⟨a, h1, h2, h3, h4, h5⟩ := rel2.own i d e0
          exact ⟨_, h1, post S2 H2 a rel2.ent h4 h2 h5⟩
        | _ => rw [e0] at post; exact (show False from post).elim
    | .ok (.ret d, c') => rw [ev] at post; exact (show False from post).elim
    | .exn e c0 => rw [ev] at post; exact (show False from post).elim
    | .bad => rw [ev] at post; exact (show False from post).elim
/-! ### the law -/
def spLaw (K : PySem.W.Frag) : Sp := fun vs H Q _ => ∃ (a : Addr) (ns : List Int), vs = [.ref a] ∧ SqL K H a (ns.map V.int) ∧ ns.length ≤ 63 ∧ ∀ H', Q (.bl true) H'
/-- town = [], and then the rest -/
def townS (y : Str) (p q pos : Pos) : Stmt := .Assign [.Name y p] (.List [] q) pos
theorem law_okF {fr : List Nat} {st : Stmt} {f : Addr} {fd : FuncData} {N : List Str} {k : Nat} {Φ : List Callee} {gv : List D} {body : Sms} {cal : List (Str × Bool × Nat)} {gn : List Str} {xs : List Nat} {p q pos : Pos} {rest : List Stmt} (F : L2.Fun K "law" "law" st f fd) (S : FnScope ("script" :: "town" :: N) ["script"] (defScope st))
    (hst : defBody st = townS "town" p q pos :: rest) (hm : mSs ⟨"script" :: "town" :: N, defScope st, fun _ => true, cal, gn, false, xs, fr, (false, [])⟩ body rest = true) (ht : (defScope st).names.lookup ("town" : Str) = some .local ∨ (defScope st).names.lookup ("town" : Str) = some .cell)
    (hb : ∀ x ∈ bltNames, mg x = none) (hc : Cals P w K mg base k cal Φ) (hg : Gvs P w K mg gn gv) (hF : ∀ i, fr.contains i = true → ∀ x tw n, cal[i]? = some (x, tw, n) → ∃ cl, Φ[i]? = some cl ∧ cl.tw = tw ∧ DfnF P w K mg base k x cl n)
    (hlaw : ∀ ns : List Int, ns.length ≤ 63 → ∃ c, runD Φ gv true 0 (N.length + 2) body ns [] 0 = .ok (.bool true, c)) : FnOk P w K mg base CX0 (k + 1) f fd ["script"] (spLaw K) := by
  refine F.ok S (fun vs H Q E h => ?_) (fun cdv A outer s H vs Q E hr h => ?_)
  · obtain ⟨a, ns, rfl, _⟩ := h
    rfl
  · obtain ⟨a, ns, rfl, hS, hlen, hq⟩ := h
    have mx : MX ⟨"script" :: "town" :: N, defScope st, fun _ => true, cal, gn, false, xs, fr, (false, [])⟩ (cxOf CX0 P w K mg base ("script" :: "town" :: N) "law" (defScope st) f cdv A outer s H E).nox ⟨Φ, gv, fun _ _ _ => False⟩ ex0 k :=
      { hN := rfl, sc := rfl, kd := S.kind, fn := rfl, nd := S.nd, calm := rfl, room := hr, own := PassesOwn.never, blt := hb
        cal := fun i x tw n e => by
          obtain ⟨cl, h1, h2, h3⟩ := hc.get i x tw n e
          exact ⟨cl, h1, h2, ⟨h3.ok⟩, h3.len⟩
        gv := hg.get, exc := .inl fun _ _ _ z => z
        mkc := (fun z => nomatch z)
        calF := fun i hi => ⟨fun _ _ _ z => z, fun x tw n e => by
          obtain ⟨cl, h1, h2, h3⟩ := hF i hi x tw n e
          exact ⟨cl, h1, h2, ⟨h3.ok⟩, h3.len⟩⟩
        tx := fun z => nomatch z }
    rw [hst]
    refine ⟨_, pss_cons (ps_set (i := 1) mx.nd' rfl ht (pe_lst pa_nil) rfl (.inl rfl)) (sSs body mx hm), ?_⟩
    refine ⟨Nat.zero_le _, fun T hT => ?_⟩
    have sub : Sub H (upd H T (.lst [])) := fun b o e => by
      have ne : b ≠ T := fun z => by rw [z, hT] at e; cases e
      rw [upd_ne ne]; exact e
    have wf : (⟨a, ns, T, H, upd H T (.lst []), H⟩ : Fm).wf K 0 H (upd H T (.lst [])) := ⟨sub, hT, upd_same, hS, hlen⟩
    have rel := rel_start (P := P) (w := w) (tw := true) (N := "script" :: "town" :: N) (ds := []) (us := []) wf .nil (by simp)
    refine ⟨⟨a, ns, T, H, upd H T (.lst []), H⟩, 0, H, _, rel, ?_⟩
    obtain ⟨c, ev⟩ := hlaw ns hlen
    unfold runD at ev
    rw [if_pos (show ([] : List D).length = 0 from rfl)] at ev
    show PostS P w K _ (fun _ _ _ => False) (exSs ns Φ gv body (startE true (N.length + 2) []) 0) _
    match e2 : exSs ns Φ gv body (startE true (N.length + 2) []) 0 with
    | .ok (.next env', c') => rw [e2] at ev; cases ev
    | .ok (.ret d, c') =>
      rw [e2] at ev
      cases ev
      intro S2 H2 v g r
      cases r
      exact hq H2
    | .exn e c0 => rw [e2] at ev; cases ev
    | .bad => rw [e2] at ev; cases ev
theorem law_ok {st : Stmt} {f : Addr} {fd : FuncData} {N : List Str} {k : Nat} {Φ : List Callee} {gv : List D} {body : Sms} {cal : List (Str × Bool × Nat)} {gn : List Str} {xs : List Nat} {p q pos : Pos} {rest : List Stmt} (F : L2.Fun K "law" "law" st f fd) (S : FnScope ("script" :: "town" :: N) ["script"] (defScope st))
    (hst : defBody st = townS "town" p q pos :: rest) (hm : mSs ⟨"script" :: "town" :: N, defScope st, fun _ => true, cal, gn, false, xs, [], (false, [])⟩ body rest = true) (ht : (defScope st).names.lookup ("town" : Str) = some .local ∨ (defScope st).names.lookup ("town" : Str) = some .cell)
    (hb : ∀ x ∈ bltNames, mg x = none) (hc : Cals P w K mg base k cal Φ) (hg : Gvs P w K mg gn gv)
    (hlaw : ∀ ns : List Int, ns.length ≤ 63 → ∃ c, runD Φ gv true 0 (N.length + 2) body ns [] 0 = .ok (.bool true, c)) : FnOk P w K mg base CX0 (k + 1) f fd ["script"] (spLaw K) := law_okF F S hst hm ht hb hc hg (fun _ z => nomatch z) hlaw
end
end LG

/-! LgFV: texts replaced (a token must be out): a law whose first statement gives one out, and lists with e.replace(.., ..) behind it. -/
namespace LG
open PySem PySem.Spec PyProof.Rows L2
def Sms.app : Sms → Sms → Sms
  | .nil, b => b
  | .cons s r, b => .cons s (r.app b)
theorem exSs_app {ns : List Int} {Φ : List Callee} {gv : List D} {b : Sms} : ∀ {a : Sms} {env : En} {c : Nat}, exSs ns Φ gv (a.app b) env c = match exSs ns Φ gv a env c with | .ok (.next e, c) => exSs ns Φ gv b e c | .ok (.ret d, c) => .ok (.ret d, c) | .exn k c0 => .exn k c0 | .bad => .bad
  | .nil, env, c => by rw [exSs]; rfl
  | .cons s r, env, c => by
    show exSs ns Φ gv (.cons s (r.app b)) env c = _
    rw [exSs, exSs]
    cases exS ns Φ gv s env c with
    | ok p =>
      obtain ⟨fl, c1⟩ := p
      cases fl with
      | next e => exact exSs_app
      | ret d => rfl
    | exn k c0 => rfl
    | bad => rfl
section
variable {X : Cx} {C : Cn} {pos : Pos}
theorem tSms_app {a b : Sms} {D : Ends} {σ : L2.St} {H : Hp} (h : tSms X C (a.app b) D σ H) : tSeq (tSms X C a) (tSms X C b) D σ H := by
  obtain ⟨f, c, S, env, rel, post⟩ := h
  refine ⟨f, c, S, env, rel, ?_⟩
  rw [exSs_app] at post
  cases he : exSs f.ns C.Φ C.gv a env c with
  | ok p =>
    obtain ⟨fl, c1⟩ := p
    rw [he] at post
    cases fl with
    | next e => exact fun S2 H2 σ2 rel2 => ⟨f, c1, S2, e, rel2, post⟩
    | ret d => exact post
  | exn k c0 => rw [he] at post; exact post
  | bad => rw [he] at post; exact post
theorem tSms_cons {s : Sm} {r : Sms} {D : Ends} {σ : L2.St} {H : Hp} (h : tSms X C (.cons s r) D σ H) : tSeq (tSm X C s) (tSms X C r) D σ H := by
  obtain ⟨f, c, S, env, rel, post⟩ := h
  refine ⟨f, c, S, env, rel, ?_⟩
  rw [exSs] at post
  cases he : exS f.ns C.Φ C.gv s env c with
  | ok p =>
    obtain ⟨fl, c1⟩ := p
    rw [he] at post
    cases fl with
    | next e => exact fun S2 H2 σ2 rel2 => ⟨f, c1, S2, e, rel2, post⟩
    | ret d => exact post
  | exn k c0 => rw [he] at post; exact post
  | bad => rw [he] at post; exact post
theorem psst_app {a b : List Stmt} {t u : TS} (h1 : PSsT X a t) (h2 : PSsT X b u) : PSsT X (a ++ b) (tSeq t u) := by
  intro pins s σ H D h0 I h
  have r := PySem.wpAny_toks (h1 pins s σ H { D with nx := u D } h0 I h)
  refine fun Γ p hΓ => execs_app hΓ a p s (Sem.wp_mono _ Γ _ (fun f p' s1 q => ?_) (fun _ _ _ q => q.2) p s (r Γ p hΓ))
  obtain ⟨hk, q⟩ := q
  cases f with
  | next =>
    obtain ⟨σ', H', I', q⟩ := q
    exact h2 pins s1 σ' H' D (Nat.le_trans h0 hk) I' q
  | ret v => exact q
  | brk => exact q
  | cont => exact q
theorem PSsT.lgi {ss : List Stmt} {t t' : TS} (h : PSsT X ss t) (i : ∀ D σ H, t' D σ H → t D σ H) : PSsT X ss t' := fun pins s σ H D h0 I q => h pins s σ H D h0 I (i D σ H q)
theorem PST.lgi {st : Stmt} {t t' : TS} (h : PST X st t) (i : ∀ D σ H, t' D σ H → t D σ H) : PST X st t' := fun pins s σ H D h0 I q => h pins s σ H D h0 I (i D σ H q)
theorem PET.lgi {e : Expr} {t t' : TE} (h : PET X e t) (i : ∀ σ H Q, t' σ H Q → t σ H Q) : PET X e t' := fun pins s σ H Q h0 I q => h pins s σ H Q h0 I (i σ H Q q)
/-- x = 1 + e: behind it a token is out -/
theorem pss_tok {i j : Nat} {x : Str} {k : Int} {op : Operator} {e2 : Expr} {r : R2} {t2 : TE} {u : TS} {rest : List Stmt} {cpos bpos pos' pos : Pos} (hN : X.N.Nodup) (hi : X.N[i]? = some x) (hx : Loc X.env.scope x) (ho : OpR X (binaryOp op) r) (h2 : PE X e2 t2) (hr : PSsT X rest u)
    (hs : swapsWith (.BinOp (.Constant (.int k) j cpos) op e2 bpos) (some (.Name x pos')) pos.line X.env = pure false) (hf : X.fn x = true ∨ X.env.scope.names.lookup x = some .local) :
    PSs X (.Assign [.Name x pos'] (.BinOp (.Constant (.int k) j cpos) op e2 bpos) pos :: rest) (tSeq (tAsg (tOp r (tC (.int k)) t2) (gName i)) u) := by
  refine ⟨fun pins s σ H D I h => ?_⟩
  refine wpAny_execs_cons (wpAny_Assign_Name (wpAny_BinOp (wpAny_Constant_int ?_)) hs)
  refine wpAny_mono (PySem.wpAny_toks (h2.run pins { s with toks := s.toks + 1 } σ H _ (I.tok _) h)) (fun v s2 q => ?_) fun _ _ z => z.2
  obtain ⟨hk, y, H2, I2, r2, q2⟩ := q
  refine wpAny_mono (PySem.wpAny_toks (ho pins s2 σ H2 (.int k) y (.int k s.toks) v _ I2 ⟨s.toks, rfl⟩ r2 q2)) (fun w s3 q => ?_) fun _ _ z => z.2
  obtain ⟨hk3, z, H3, I3, r3, q3⟩ := q
  refine wpAny_mono (PySem.wpAny_toks (store_ok (v := z) (u := w) (Q := fun _ s2 => Inv X pins (σ.set i (some z)) H3 s2) I3 hN hi hx r3 (fun _ I2 => I2) hf)) (fun _ s4 q => ?_) fun _ _ z => z.2
  have hk2 : s.toks + 1 ≤ s2.toks := hk
  exact hr pins s4 _ H3 D (by have := q.1; omega) q.2 q3
/-- o.m(e, ..), a token out -/
theorem pet_bm {T id : String} {name : Str} {o e : Expr} {es : List Expr} {to : TE} {t : TA} {r : V → List V → Hp → VK → Prop} {apos cpos : Pos} (pa : PlainAttrs T) (slot : PySem.Slot T name id) (hty : typeOf (.builtin id) = pure (.type "method_descriptor")) (hm : MtR X id r) (ho : PE X o to) (ha : PAT X (e :: es) t)
    (hbase : attributeBase o name X.env (eval o X.env) = eval o X.env)
    (hfew : ((backTo cpos (starEach (e :: es) X.env)).all (fun x => !x.1) && (backToKw cpos (keywordEach [] X.env)).all (fun x => x.1.isSome) && decide ((e :: es).length + ([] : List Keyword).length + (if ([] : List Keyword).isEmpty then 0 else 1) < 30)) = true)
    (hline : (apos.endLine == cpos.line) = true) (hs : starEach (e :: es) X.env = (false, eval e X.env) :: starEach es X.env) (hplain : (backTo cpos (starEach es X.env)).any (·.1) = false) :
    PET X (.Call (.Attribute o name apos) (e :: es) [] cpos) (tBM X.K T r to t) := by
  intro pins s σ H Q h0 I h
  refine wpAny_Call_method_late hbase hfew hline rfl (wpAny_mono (PySem.wpAny_toks (ho.run pins s σ H _ I h)) (fun v s1 q => ?_) fun _ _ z => z.2)
  obtain ⟨hk, x, H1, I1, r1, ty, q1⟩ := q
  obtain ⟨h1, h2⟩ := tyV_is I1 r1 ty
  refine ⟨T, id, pa, slot, hty, h1, h2, ?_⟩
  have hA := ha cpos pins s1 σ H1 _ (Nat.le_trans h0 hk) I1 q1
  rw [hs] at hA ⊢
  refine Calls.callWith_builtin (by show (false || (backTo cpos (starEach es X.env)).any (·.1)) = false; rw [hplain] <;> rfl) (Calls.evalArgs_plain ?_)
  exact thn hA fun us s2 ⟨vs, H2, I2, r2, q2⟩ => hm pins s2 σ H2 x vs v us Q I2 r1 r2 q2
theorem pst_expr {e : Expr} {te : TE} (he : PET X e te) (hs : swapsWith e none pos.line X.env = pure false) : PST X (.Expr e pos) (tDrop te) := by
  intro pins s σ H D h0 I h
  exact wpAny_Expr_any (thn (he pins s σ H _ h0 I h) fun v s1 ⟨x, H1, I1, r1, q1⟩ => ⟨σ, H1, I1, q1⟩) I.quiet hs
/-- e.replace(y, z), two written texts -/
theorem pet_repl {o : Expr} {xo : Ex} {y z : Str} {j k : Nat} {c0 c1 apos cpos : Pos} (ho : PET X o (tE X C xo)) (hyz : (y == z) = false) (hb : attributeBase o "replace" X.env (eval o X.env) = eval o X.env) (hl : (apos.endLine == cpos.line) = true) :
    PET X (.Call (.Attribute o "replace" apos) [.Constant (.str y) j c0, .Constant (.str z) k c1] [] cpos) (tE X C (.mth .replace xo (.cons (.con (.str y)) (.cons (.con (.str z)) .nil)))) := by
  refine PET.lgi (CwR.pet_replT ho hyz rfl hb hl) fun σ H Q q => ?_
  obtain ⟨f, c, S, env, rel, post⟩ := q
  rw [evE] at post
  refine ⟨f, c, S, env, rel, post.thn rel.wf fun d c1 S1 H1 v _ g1 r1 post1 => ?_⟩
  cases r1 with
  | str x =>
    have ea : evA f.ns C.Φ C.gv (.cons (.con (.str y)) (.cons (.con (.str z)) .nil)) env c1 = .ok ([.str y, .str z], c1) := by simp only [evA, evE, R.thn_ok]
    rw [if_pos (show recvOk .replace (.str x) = true from rfl), ea] at post1
    have post2 : Post f (fun k H' => C.W k σ H') (Rep X.prog X.w X.K) S1 H1 (R.at (if (y == z) = false ∧ x.length + (x.length + 1) * z.length ≤ LIM then R.ok (.str (Txt.replace x y z)) else .bad) c1) Q := post1
    split at post2
    · rename_i h
      have hLIM : LIM = 1000000 := rfl
      exact ⟨x, rfl, by omega, post2 _ _ _ (rel.gr g1).wf.refl (.str _)⟩
    · exact (show False from post2).elim
  | _ => exact (show False from post1).elim
end
/-! ### the matcher of such lists -/
def mRE (M : MC) : Ex → Expr → Bool
  | .mth .replace xo (.cons (.con (.str y)) (.cons (.con (.str z)) .nil)), .Call (.Attribute o n ap) [.Constant (.str y') _ _, .Constant (.str z') _ _] [] cp => decide (n = ("replace" : Str)) && decide (y = y') && decide (z = z') && !(y == z) && (ap.endLine == cp.line) && noCallM o && mRE M xo o
  | x, e => mE M x e
def mRA (M : MC) : Exs → List Expr → Bool
  | .nil, [] => true
  | .cons x xs, e :: es => noStarM e && mRE M x e && mRA M xs es
  | _, _ => false
section
variable {M : MC} {X : Cx} {C : Cn} {ex : EV} {k : Nat}
theorem sRE (m : MX M X C ex k) : ∀ {x : Ex} {e : Expr}, mRE M x e = true → PET X e (tE X C x) := by
  intro x e h
  induction x, e using mRE.induct with
  | case1 xo y z o n ap y' j0 p0 z' j1 p1 cp ih =>
    unfold mRE at h
    obtain ⟨h0, h6, h7⟩ := and3 h
    obtain ⟨h0, h4, h5⟩ := and3 h0
    obtain ⟨h1, h2, h3⟩ := and3 h0
    cases of_decide_eq_true h1
    cases of_decide_eq_true h2
    cases of_decide_eq_true h3
    exact pet_repl (ih h7) (by simpa using h4) (noCall_of h6 _ _ _) h5
  | case2 x e hn =>
    unfold mRE at h
    split at h
    · rename_i a b d e f g i j k' l m' n' o' p'
      exact (hn _ _ _ _ _ _ _ _ _ _ _ _ _ rfl rfl).elim
    · exact fun pins s σ H Q _ I q => (sE _ m h).1.pe.run pins s σ H Q I q
theorem sRA (m : MX M X C ex k) : ∀ {xs : Exs} {es : List Expr}, mRA M xs es = true → PAT X es (tAs X C xs) ∧ ∀ y ∈ es, NoStar y
  | .nil, [], _ => ⟨fun p pins s σ H Q h0 I h => pat_nil p pins s σ H Q h0 I (by
      obtain ⟨f, c, S, env, rel, post⟩ := h
      rw [evA] at post
      exact post _ _ _ rel.wf.refl .nil), fun y hy => absurd hy List.not_mem_nil⟩
  | .cons x xs, e :: es, h => by
    unfold mRA at h
    obtain ⟨h1, h2, h3⟩ := and3 h
    obtain ⟨r1, r2⟩ := sRA m h3
    have hs := noStar_of h1
    refine ⟨fun p pins s σ H Q h0 I q => pat_cons (sRE m h2) r1 (hs _ _) p pins s σ H Q h0 I ?_, fun y hy => (List.mem_cons.mp hy).elim (fun e => e ▸ hs) (r2 y)⟩
    obtain ⟨f, c, S, env, rel, post⟩ := q
    rw [evA] at post
    refine ⟨f, c, S, env, rel, post.thn rel.wf fun d c1 S1 H1 v _ g1 r1 post1 => ?_⟩
    have rel1 := rel.gr g1
    exact ⟨f, c1, S1, env, rel1, post1.thn rel1.wf fun ds c2 S2 H2 vs _ g2 r2 post2 => post2 _ _ _ (rel1.gr g2).wf.refl (.cons (r1.sub g2.sub) r2)⟩
end
section
variable {X : Cx} {C : Cn} {pos : Pos}
theorem pet_lstE {es : List Expr} {xs : Exs} (h : PAT X es (tAs X C xs)) : PET X (.List es pos) (tE X C (.lst xs)) := by
  refine PET.lgi (pet_lst h) fun σ H Q q => ?_
  obtain ⟨f, c, S, env, rel, post⟩ := q
  rw [evE] at post
  refine ⟨f, c, S, env, rel, post.thn rel.wf fun ds c1 S1 H1 vs _ g1 r1 post1 => ?_⟩
  have rel1 := rel.gr g1
  have post2 : Post f (fun k H' => C.W k σ H') (Rep X.prog X.w X.K) S1 H1 (if ds.length ≤ LIM then .ok (.list ds, c1) else .bad) Q := post1
  split at post2
  · rename_i hl
    refine ⟨by have := LIM_le; have := r1.length; omega, fun p hp => post2 _ _ _ (rel1.wf.fresh hp _) (.lst upd_same hl (Reps.sub (rel1.wf.fresh hp _).sub r1))⟩
  · exact (show False from post2).elim
theorem pst_ext {i : Nat} {y : Str} {es : List Expr} {xs : Exs} {p apos cpos lp : Pos} (hy : PE X (.Name y p) (tVar i)) (he : PAT X es (tAs X C xs)) (hl : (apos.endLine == cpos.line) = true) :
    PST X (.Expr (.Call (.Attribute (.Name y p) "extend" apos) [.List es lp] [] cpos) pos) (tSm X C (.ext i (.lst xs))) :=
  PST.lgi (pst_expr (pet_bm PySem.F.plainAttrs_list PySem.F.slot_list_extend PySem.F.type_list_extend mt_extend hy (pat_cons (pet_lstE he) pat_nil rfl) rfl rfl hl rfl rfl) rfl) fun D σ H q => ext_key q
end
/-! ### a law's text, a token out -/
def mXT (M : MC) (s : Sm) (st : Stmt) : Bool := match s, st with
  | .ext i (.lst xs), .Expr (.Call (.Attribute (.Name y p) n ap) [.List es lp] [] cp) q => decide (n = ("extend" : Str)) && (ap.endLine == cp.line) && varM M i (.Name y p) && mRA M xs es
  | _, _ => false
def mTS (M : MC) : Sms → List Stmt → Bool
  | .nil, ss => ss.isEmpty
  | .cons s r, ss => (isShr s && mTS M r ss) || (match ss with
    | st :: ss => (mXT M s st || mS M s st) && mTS M r ss
    | [] => false)
def mLT (M : MC) (x : Sms) (ss : List Stmt) : Bool := match x, ss with
  | .cons (.asg i (.bin .add (.con (.int k)) x2)) r, .Assign [.Name y py] (.BinOp (.Constant (.int k') j cp) .Add e2 bp) q :: ss => decide (k = k') && decide (M.N[i]? = some y) && locM M y && mE M x2 e2 && mTS M r ss
  | _, _ => false
section
variable {M : MC} {X : Cx} {C : Cn} {ex : EV} {k : Nat}
theorem sXT (m : MX M X C ex k) {s : Sm} {st : Stmt} (h : mXT M s st = true) : PST X st (tSm X C s) := by
  unfold mXT at h
  split at h
  · obtain ⟨h0, h3, h4⟩ := and3 h
    obtain ⟨h1, h2⟩ := and2 h0
    cases of_decide_eq_true h1
    exact pst_ext (m.var h3).2 (sRA m h4).1 h2
  · cases h
theorem sTS (m : MX M X C ex k) : ∀ {x : Sms} {ss : List Stmt}, mTS M x ss = true → PSsT X ss (tSms X C x)
  | .nil, [], _ => PSsT.of sss_nil
  | .nil, _ :: _, h => by cases h
  | .cons s r, ss, h => by
    unfold mTS at h
    rw [Bool.or_eq_true] at h
    rcases h with h | h
    · obtain ⟨h1, h2⟩ := and2 h
      cases s with
      | shr i =>
        refine PSsT.lgi (sTS m h2) fun D σ H q => ?_
        obtain ⟨f, c, S, env, rel, post⟩ := q
        rw [exSs, exS] at post
        cases e0 : env[i]? with
        | none => simp only [e0] at post; exact ⟨f, c, S, env, rel, post⟩
        | some sl =>
          cases sl with
          | own d =>
            simp only [e0] at post
            obtain ⟨S', rel'⟩ := rel.share e0
            exact ⟨f, c, S', _, rel', post⟩
          | _ => simp only [e0] at post; exact ⟨f, c, S, env, rel, post⟩
      | _ => cases h1
    · cases ss with
      | nil => cases h
      | cons st ss =>
        obtain ⟨h1, h2⟩ := and2 h
        rw [Bool.or_eq_true] at h1
        refine PSsT.lgi (psst_cons ?_ (sTS m h2)) fun D σ H q => tSms_cons q
        rcases h1 with h1 | h1
        · exact sXT m h1
        · exact PST.of (sS _ m h1)
theorem sLT (m : MX M X C ex k) {x : Sms} {ss : List Stmt} (h : mLT M x ss = true) : PSs X ss (tSms X C x) := by
  unfold mLT at h
  split at h
  · rename_i i kk x2 r y py k' j cp e2 bp q ss
    obtain ⟨h0, h4, h5⟩ := and3 h
    obtain ⟨h1, h2, h3⟩ := and3 h0
    cases of_decide_eq_true h1
    have hi : X.N[i]? = some y := by rw [m.hN]; exact of_decide_eq_true h2
    obtain ⟨l1, l2⟩ := m.loc h3
    refine (pss_tok m.nd' hi l1 opr_add (sE x2 m h4).1.pe (sTS m h5) (sw_plain rfl _ _ _) l2).lgi fun D σ H q => ?_
    obtain ⟨f, c, S, env, rel, post⟩ := asg_key (te := tE X C x2) (tSms_cons q)
    rw [evE, evE] at post
    simp only [R.thn_ok] at post
    exact ⟨f, c, S, env, rel, post.thn rel.wf fun d c1 S1 H1 v _ g1 r1 post1 => ⟨f, c1, S1, .int kk, d, (rel.gr g1).wf, .int _, r1, .of post1⟩⟩
  · cases h
end
section
variable {P : Program} {w : World} {K : PySem.W.Frag} {mg : Str → Option Value} {base : Heap}
theorem law_okT {st : Stmt} {f : Addr} {fd : FuncData} {N : List Str} {k : Nat} {Φ : List Callee} {gv : List D} {body : Sms} {cal : List (Str × Bool × Nat)} {gn : List Str} {xs : List Nat} {p q pos : Pos} {rest : List Stmt} (F : L2.Fun K "law" "law" st f fd) (S : FnScope ("script" :: "town" :: N) ["script"] (defScope st))
    (hst : defBody st = townS "town" p q pos :: rest) (hm : mLT ⟨"script" :: "town" :: N, defScope st, fun _ => true, cal, gn, false, xs, [], (false, [])⟩ body rest = true) (ht : (defScope st).names.lookup ("town" : Str) = some .local ∨ (defScope st).names.lookup ("town" : Str) = some .cell)
    (hb : ∀ x ∈ bltNames, mg x = none) (hc : Cals P w K mg base k cal Φ) (hg : Gvs P w K mg gn gv)
    (hlaw : ∀ ns : List Int, ns.length ≤ 63 → ∃ c, runD Φ gv true 0 (N.length + 2) body ns [] 0 = .ok (.bool true, c)) : FnOk P w K mg base CX0 (k + 1) f fd ["script"] (spLaw K) := by
  refine F.ok S (fun vs H Q E h => ?_) (fun cdv A outer s H vs Q E hr h => ?_)
  · obtain ⟨a, ns, rfl, _⟩ := h
    rfl
  · obtain ⟨a, ns, rfl, hS, hlen, hq⟩ := h
    have mx : MX ⟨"script" :: "town" :: N, defScope st, fun _ => true, cal, gn, false, xs, [], (false, [])⟩ (cxOf CX0 P w K mg base ("script" :: "town" :: N) "law" (defScope st) f cdv A outer s H E).nox ⟨Φ, gv, fun _ _ _ => False⟩ ex0 k :=
      { hN := rfl, sc := rfl, kd := S.kind, fn := rfl, nd := S.nd, calm := rfl, room := hr, own := PassesOwn.never, blt := hb
        cal := fun i x tw n e => by
          obtain ⟨cl, h1, h2, h3⟩ := hc.get i x tw n e
          exact ⟨cl, h1, h2, ⟨h3.ok⟩, h3.len⟩
        gv := hg.get, exc := .inl fun _ _ _ z => z, mkc := (fun z => nomatch z), calF := (fun _ z => nomatch z), tx := fun z => nomatch z }
    rw [hst]
    refine ⟨_, pss_cons (ps_set (i := 1) mx.nd' rfl ht (pe_lst pa_nil) rfl (.inl rfl)) (sLT mx hm), ?_⟩
    refine ⟨Nat.zero_le _, fun T hT => ?_⟩
    have sub : Sub H (upd H T (.lst [])) := fun b o e => by
      have ne : b ≠ T := fun z => by rw [z, hT] at e; cases e
      rw [upd_ne ne]; exact e
    have wf : (⟨a, ns, T, H, upd H T (.lst []), H⟩ : Fm).wf K 0 H (upd H T (.lst [])) := ⟨sub, hT, upd_same, hS, hlen⟩
    have rel := rel_start (P := P) (w := w) (tw := true) (N := "script" :: "town" :: N) (ds := []) (us := []) wf .nil (by simp)
    refine ⟨⟨a, ns, T, H, upd H T (.lst []), H⟩, 0, H, _, rel, ?_⟩
    obtain ⟨c, ev⟩ := hlaw ns hlen
    unfold runD at ev
    rw [if_pos (show ([] : List D).length = 0 from rfl)] at ev
    show PostS P w K _ (fun _ _ _ => False) (exSs ns Φ gv body (startE true (N.length + 2) []) 0) _
    match e2 : exSs ns Φ gv body (startE true (N.length + 2) []) 0 with
    | .ok (.next env', c') => rw [e2] at ev; cases ev
    | .ok (.ret d, c') =>
      rw [e2] at ev
      cases ev
      intro S2 H2 v g r
      cases r
      exact hq H2
    | .exn e c0 => rw [e2] at ev; cases ev
    | .bad => rw [e2] at ev; cases ev
end
end LG

/-! LgQX: defs that raise, defs that catch. -/
namespace LG
open PySem PySem.Spec PyProof.Rows L2 L2H
section
variable {P : Program} {w : World} {K : PySem.W.Frag} {mg : Str → Option Value} {base : Heap}
/-- _law_which, called while the exception is handled -/
theorem wh_ok {f : Addr} {fd : FuncData} {st : Stmt} {ex : EV} (F : L2.Fun K "_law_which" "_law_which" st f fd) (S : FnScope [("e" : Str), "own"] [("e" : Str)] (defScope st)) (hown : (defScope st).names.lookup ("own" : Str) = some .local) (hgi : (defScope st).names.lookup ("isinstance" : Str) = some .globalImplicit)
    (hm : whM (defScope st) (defBody st) = true) (mi : mg "isinstance" = none) (mv : mg "ValueError" = none) {k j : Nat} (hk : k < 16) (wk : WhK K mg ex k) {A : Around} {outer : List Env} {s : Shared} {H : Hp} {args : Args} {us : List Value} {Q : VK} {p : Addr × Obj}
    (hr : RoomH (j + 1) A) (hpin : PinOk outer H s p) (hz : Zc (ex.2 k) none p.2) (hf : ∃ vs, p.2.data = .fields vs) (e0 : Env0 P w K mg base A outer s H) (hb : BindsTo s fd args ([("e" : Str)].zip us)) (r : Vals [.ref p.1] us)
    (hq : ∀ H' t, Sub H H' → H t = none → H' t = some (.tup [.str raisedS, .int (whichI k)]) → Q (.ref t) H') : codeAny (model P w) A (.call (.ref f) args) (CR CX0 outer P w H s Q E0) s := by
  obtain ⟨oc, od, kV, doc, pm, an, cdv, ct, osl, rfl, lk, hcd⟩ := F.ex
  have KX : K.In s.heap := e0.mod.kin.keeps fun b o e => (e0.bs b o e).1
  have lim : s.heap.NoLimit := e0.mod.nolimit.keeps fun b o e => (e0.bs b o e).1
  have hkind : ∀ y ∈ [("e" : Str)].zip us, (defScope st).names.lookup y.1 = some .local ∨ ((defScope st).names.lookup y.1 = some .cell ∧ ((cellsFrom (s.heap.objs.size + 1) (defScope st).names []).lookup y.1).isSome = true) := fun ⟨n, v⟩ hy => by
    rcases S.par n (List.of_mem_zip hy).1 with q | q
    · exact .inl q
    · exact .inr ⟨q, PySem.W.cellsFrom_some _ _ _ (.inl q)⟩
  refine codeAny_call_function hr.depth (KX _ _ lk) rfl S.co S.gen rfl (PySem.W.codeRec_of KX hcd) (hb _ _ _ _ ?_)
  refine wpAny_newFunctionEnv_cells S.kind hkind fun env he s1 x => ?_
  subst he
  refine ⟨lim.keeps x.toInCall.keep, codeAny_func ?_⟩
  have wx : WhX (cxH CX0 P w K mg base [("e" : Str), "own"] "_law_which" (defScope st) f cdv A outer s H E0 p) ex k p.1 p.2 :=
    { pn := List.mem_cons_self, wk := wk, zc := hz, fl := hf, N := rfl, ve := (S.par "e" List.mem_cons_self).elim .inl fun z => .inr (.inl z), vo := hown, gi := hgi, mi := mi, mv := mv
      un := by have := (hr.deeper (envOfC "_law_which" (defScope st) s.heap.objs.size f cdv)).un; show (A.deeper _).units + 200 < cLine; omega }
  obtain ⟨t, ht, hq'⟩ := which_body wx hk (show whM (defScope st) (defBody st) = true from hm) hq
  have I : Inv (cxH CX0 P w K mg base [("e" : Str), "own"] "_law_which" (defScope st) f cdv A outer s H E0 p) [] (L2.start [("e" : Str), "own"] [.ref p.1]) H s1 := inv_startH S hpin e0 rfl r x
  refine wpAny_mono (ht.run [] s1 (L2.start [("e" : Str), "own"] [.ref p.1]) H _ I hq') (fun fl s' hs => ?_) fun e s' hs => hs
  have fin : ∀ {σ' : L2.St} {H' : Hp} {v : V} {u : Value}, Inv (cxH CX0 P w K mg base [("e" : Str), "own"] "_law_which" (defScope st) f cdv A outer s H E0 p) [] σ' H' s' → RelV v u → Q v H' → CE outer P w H s Q u s' :=
    fun {σ' H' v u} J rv q => ⟨v, H', J.os, J.bare, J.base, J.hok, rv, q⟩
  cases fl with
  | ret u =>
    obtain ⟨v, σ', H', J, rv, q⟩ := hs
    exact fin J rv q
  | next =>
    obtain ⟨σ', H', J, q⟩ := hs
    exact fin (v := V.non) (u := Value.none) J rfl q
  | brk =>
    obtain ⟨_, _, _, q⟩ := hs
    exact False.elim q
  | cont =>
    obtain ⟨_, _, _, q⟩ := hs
    exact False.elim q
/-- what is known of the classes, and of _law_which -/
structure Errs (P : Program) (w : World) (K : PySem.W.Frag) (mg : Str → Option Value) (base : Heap) (ex : EV) (xs : List Nat) : Prop where
  on : ex.1 = true
  cls : ∀ (j : Nat) x, excNm[j]? = some x → xs.contains j = true → ∃ A, ex.2 j = .ref A ∧ mg x = some (.ref A) ∧ PySem.W.excIn K A [.type "ValueError", .type "Exception", .type "BaseException", .type "object"] "ValueError.__new__" = true ∧ PySem.W.keepIn K (.ref A) = true ∧ PySem.W.subIn K (.ref A) (.type "BaseException") = some true ∧ PySem.W.typeIn K (.ref A) = some (.type "type")
  ge : ∃ G, mg "GridError" = some (.ref G) ∧ ∀ k, k < 16 → PySem.W.exmOne K (ex.2 k) (.ref G) = some true
  il : xs.contains 3 = true → ∃ L, mg "InvalidLabel" = some (.ref L) ∧ ∀ k, k < 16 → PySem.W.exmOne K (ex.2 k) (.ref L) = some (decide (k = 3))
  wk : ∀ k, k < 16 → WhK K mg ex k
  wh : ∃ f fd st, L2.Fun K "_law_which" "_law_which" st f fd ∧ FnScope [("e" : Str), "own"] [("e" : Str)] (defScope st) ∧ (defScope st).names.lookup ("own" : Str) = some .local ∧ (defScope st).names.lookup ("isinstance" : Str) = some .globalImplicit ∧ whM (defScope st) (defBody st) = true ∧ mg "_law_which" = some (.ref f) ∧ Binds K fd [("e" : Str)] []
  mi : mg "isinstance" = none
  mv : mg "ValueError" = none
theorem Errs.tryX {ex : EV} {xs : List Nat} (h : Errs P w K mg base ex xs) {X : Cx} (eP : X.prog = P) (ew : X.w = w) (eK : X.K = K) (em : X.mg = mg) (hr : Room 1 X.A) (st : X.stack = X.env :: X.outer) (fr : X.env.frame = some X.env.locals) : TryX X ex xs where
  st := st
  fr := fr
  ge := by rw [em, eK]; exact h.ge
  il := by rw [em, eK]; exact h.il
  wh := fun a oe k pn n i p q pos hk hz hf hN hl hd1 hd2 hg => by
    obtain ⟨f, fd, st', F, S, ho, hgi, hm, mw, bd⟩ := h.wh
    subst eP ew eK em
    refine ⟨fun pins s σ H Q I hh => ?_⟩
    obtain ⟨σ0, rfl, hq⟩ := hh
    have hlen : i < σ0.length := by
      have := I.len
      rw [List.length_set] at this
      rw [this]
      exact (List.getElem?_eq_some_iff.mp hN).1
    refine wpAny_Call_Name_kw (ld_glob I hg mw ?_ (by decide))
    have ha : PA (X.suite a ((a, oe) :: pn)) [.Name n q] (tCons (tVar i) tNil) := pa_cons (pe_var (X := X.suite a ((a, oe) :: pn)) (i := i) hN (.inl hl) hd1 hd2) pa_nil
    refine PySem.W.callWith_K (h₀ := X.base) I.ok.mod.kin F.kp (thn (ha.run pos pins s (σ0.set i (some (.ref a))) H (fun vs H1 => vs = [.ref a] ∧ H1 = H) I ⟨_, List.getElem?_set_self hlen, rfl, rfl⟩) fun us s1 ⟨vs, H1, I1, r, ev, eH⟩ => ⟨I1.kIn, ?_⟩)
    subst ev eH
    have hl1 : us.length = 1 := by rw [← r.length]; rfl
    have b := bd s1 us I1.kIn (by rw [List.append_nil]; exact hl1)
    rw [List.append_nil] at b
    have P1 := I1.pin (a, oe) (List.mem_append_left _ List.mem_cons_self)
    have hpin : PinOk X.stack H1 s1 (a, oe) := ⟨P1.1, P1.2.1, fun hm => (List.mem_cons.mp (I1.stkSub a hm)).elim P1.2.2.1 P1.2.2.2.1, P1.2.2.2.2⟩
    refine wpAny_call (codeAny_mono (wh_ok (j := 0) (p := (a, oe)) F S ho hgi hm h.mi h.mv hk (h.wk k hk) (show RoomH 1 (X.suite a ((a, oe) :: pn)).A from ⟨hr.dp, hr.un⟩) hpin hz hf I1.env0 b r hq) fun r s' hq => ?_)
    cases r with
    | error e => exact False.elim hq
    | ok fl =>
      cases fl with
      | ret u => exact I1.after hq
      | next => exact False.elim hq
      | brk => exact False.elim hq
      | cont => exact False.elim hq
/-- a def of the module that may raise -/
structure DfnX (P : Program) (w : World) (K : PySem.W.Frag) (mg : Str → Option Value) (base : Heap) (ex : EV) (k : Nat) (x : Str) (c : Callee) (n : Nat) : Prop where
  ok : ∃ f fd ps, mg x = some (.ref f) ∧ PySem.W.keepIn K (.ref f) = true ∧ Binds K fd ps [] ∧ FnOk P w K mg base (L2.CX P w) k f fd ps (spF P w K ex c.tw n c.F)
  len : ∀ ns ds cc r, c.F ns ds cc = r → r ≠ .bad → ds.length = n
inductive CalsX (P : Program) (w : World) (K : PySem.W.Frag) (mg : Str → Option Value) (base : Heap) (ex : EV) (k : Nat) : List (Str × Bool × Nat) → List Callee → Prop
  | nil : CalsX P w K mg base ex k [] []
  | cons {j : Nat} {x : Str} {c : Callee} {n : Nat} {l : List (Str × Bool × Nat)} {Φ : List Callee} (d : DfnX P w K mg base ex j x c n) (h : j ≤ k) (r : CalsX P w K mg base ex k l Φ) : CalsX P w K mg base ex k ((x, c.tw, n) :: l) (c :: Φ)
theorem CalsX.get {ex : EV} {k : Nat} : ∀ {l : List (Str × Bool × Nat)} {Φ : List Callee}, CalsX P w K mg base ex k l Φ → ∀ (i : Nat) x tw n, l[i]? = some (x, tw, n) → ∃ cl, Φ[i]? = some cl ∧ cl.tw = tw ∧ DfnX P w K mg base ex k x cl n
  | _, _, .nil, i, x, tw, n, h => by simp at h
  | _, _, .cons d h r, 0, x, tw, n, e => by
    rw [List.getElem?_cons_zero] at e
    cases e
    obtain ⟨f, fd, ps, a, b, c, F⟩ := d.ok
    exact ⟨_, rfl, rfl, ⟨f, fd, ps, a, b, c, F.mono h⟩, d.len⟩
  | _, _, .cons d h r, i + 1, x, tw, n, e => by
    rw [List.getElem?_cons_succ] at e
    obtain ⟨cl, h1, h2⟩ := CalsX.get r i x tw n e
    exact ⟨cl, by rw [List.getElem?_cons_succ]; exact h1, h2⟩
theorem fn_okX {x : Str} {st : Stmt} {f : Addr} {fd : FuncData} {N ps : List Str} {k n : Nat} {Φ : List Callee} {gv : List D} {tw : Bool} {body : Sms} {cal : List (Str × Bool × Nat)} {gn : List Str} {xs : List Nat} {ex : EV} (F : L2.Fun K x x st f fd) (S : FnScope N ps (defScope st))
    (hps : ps.length = (if tw then 2 else 0) + n) (hm : mSs ⟨N, defScope st, fun _ => true, cal, gn, false, xs, [], (false, [])⟩ body (defBody st) = true) (hb : ∀ x ∈ bltNames, mg x = none) (hc : Cals P w K mg base k cal Φ) (hcx : CalsX P w K mg base ex k cal Φ) (hE : Errs P w K mg base ex xs) (hg : Gvs P w K mg gn gv)
    (hx : mg x = some (.ref f)) (bd : Binds K fd ps []) : DfnX P w K mg base ex (k + 1) x ⟨tw, runD Φ gv tw n N.length body⟩ n := by
  refine ⟨⟨f, fd, ps, hx, F.kp, bd, ?_⟩, runD_len⟩
  refine F.okX S (fun vs H Q E h => ?_) (fun cdv A outer s H vs Q E hr h => ?_)
  · obtain ⟨fm, c, S', ds, us, wf, r, l, rfl, _⟩ := h
    rw [hps, List.length_append, ← r.length, l]
    cases tw <;> rfl
  · obtain ⟨fm, c, S', ds, us, wf, r, l, rfl, post⟩ := h
    have mx : MX ⟨N, defScope st, fun _ => true, cal, gn, false, xs, [], (false, [])⟩ (cxOf (L2.CX P w) P w K mg base N x (defScope st) f cdv A outer s H E) ⟨Φ, gv, fun k _ H => E (ex.2 k) none H⟩ ex k :=
      { hN := rfl, sc := rfl, kd := S.kind, fn := rfl, nd := S.nd, calm := rfl, room := hr, own := passes_of rfl, blt := hb
        cal := fun i x tw n e => by
          obtain ⟨cl, h1, h2, h3⟩ := hc.get i x tw n e
          exact ⟨cl, h1, h2, ⟨h3.ok⟩, h3.len⟩
        gv := hg.get
        mkc := (fun z => nomatch z)
        calF := (fun _ z => nomatch z)
        exc := .inr ⟨fun cls d _ H => E cls d H, takes_of rfl rfl rfl rfl, fun _ _ _ z => z, hE.on, (fun i x tw n e => let ⟨cl, h1, h2, h3⟩ := hcx.get i x tw n e; ⟨cl, h1, h2, ⟨h3.ok⟩, h3.len⟩), hE.cls⟩
        tx := fun z => nomatch z }
    have hl : (if tw then 2 else 0) + ds.length ≤ N.length := by
      have := congrArg List.length S.pre
      rw [List.length_take] at this
      rw [l, ← hps]
      omega
    refine ⟨_, sSs body mx hm, ⟨fm.scr, fm.ns, fm.T, S', H, S'⟩, c, S', startE tw N.length ds, rel_start wf r hl, ?_⟩
    have post : Post fm (fun k H' => ex.1 = true ∧ E (ex.2 k) none H') (Rep P w K) S' H (runD Φ gv tw n N.length body fm.ns ds c) Q := post
    unfold runD at post
    rw [if_pos l] at post
    show PostS P w K _ (fun k _ H => E (ex.2 k) none H) (exSs fm.ns Φ gv body (startE tw N.length ds) c) _
    match ev : exSs fm.ns Φ gv body (startE tw N.length ds) c with
    | .ok (.next env', c') => rw [ev] at post; exact fun S2 H2 σ2 rel2 => post S2 H2 _ rel2.ent .non
    | .ok (.ret d, c') => rw [ev] at post; exact post
    | .exn e c0 => rw [ev] at post; exact fun S2 H2 σ2 g => (post S2 H2 g).2
    | .bad => rw [ev] at post; exact post
/-- a class of the module, of which only raising is known -/
structure DfnM (P : Program) (w : World) (K : PySem.W.Frag) (mg : Str → Option Value) (base : Heap) (ex : EV) (k : Nat) (x : Str) (c : Callee) (n : Nat) : Prop where
  ok : ∃ C fI fd ps j, mg x = some (.ref C) ∧ Mk K C fI ∧ Binds K fd ps [] ∧ j + 1 ≤ k ∧ FnOk P w K mg base (L2.CX P w) j fI fd ps (spI P w K ex n c.F)
  len : ∀ ns ds cc r, c.F ns ds cc = r → r ≠ .bad → ds.length = n
theorem DfnM.mono {ex : EV} {j k : Nat} {x : Str} {c : Callee} {n : Nat} (d : DfnM P w K mg base ex j x c n) (h : j ≤ k) : DfnM P w K mg base ex k x c n := by
  obtain ⟨C, fI, fd, ps, i, h1, h2, h3, h4, F⟩ := d.ok
  exact ⟨⟨C, fI, fd, ps, i, h1, h2, h3, Nat.le_trans h4 h, F⟩, d.len⟩
def initIR : Sms := .cons (.exp (.call 0 (.cons (.var 1) (.cons (.var 2) .nil)))) (.cons .hole .nil)
theorem fn_okI {x qual cn : Str} {st : Stmt} {C fI : Addr} {fd : FuncData} {n1 n2 n3 : Str} {k : Nat} {F0 : List Int → List D → Nat → R (D × Nat)} {xs : List Nat} {ex : EV} (M : Mk K C fI) (F : L2.Fun K "__init__" qual st fI fd) (S : FnScope [n1, n2, n3] [n1, n2, n3] (defScope st))
    (hm : mSs ⟨[n1, n2, n3], defScope st, fun _ => true, [(cn, false, 2)], [], false, xs, [], (false, [])⟩ initIR (defBody st) = true) (hb : ∀ x ∈ bltNames, mg x = none) (hc : Cals P w K mg base k [(cn, false, 2)] [⟨false, F0⟩]) (hcx : CalsX P w K mg base ex k [(cn, false, 2)] [⟨false, F0⟩]) (hE : Errs P w K mg base ex xs)
    (hx : mg x = some (.ref C)) (bd : Binds K fd [n1, n2, n3] []) : DfnM P w K mg base ex (k + 2) x ⟨false, F0⟩ 2 := by
  have hlen : ∀ ns ds cc r, F0 ns ds cc = r → r ≠ .bad → ds.length = 2 := by
    obtain ⟨cl, e1, _, d⟩ := hc.get 0 cn false 2 rfl
    cases e1
    exact d.len
  refine ⟨⟨C, fI, fd, [n1, n2, n3], k + 1, hx, M, bd, Nat.le_refl _, ?_⟩, hlen⟩
  refine F.okX S (fun vs H Q E h => ?_) (fun cdv A outer s H vs Q E hr h => ?_)
  · obtain ⟨fm, c, S', ds, us, xa, wf, r, l, rfl, _⟩ := h
    rw [List.length_cons, ← r.length, l]
    rfl
  · obtain ⟨fm, c, S', ds, us, xa, wf, r, l, rfl, post⟩ := h
    have mx : MX ⟨[n1, n2, n3], defScope st, fun _ => true, [(cn, false, 2)], [], false, xs, [], (false, [])⟩ (cxOf (L2.CX P w) P w K mg base [n1, n2, n3] qual (defScope st) fI cdv A outer s H E) ⟨[⟨false, F0⟩], [], fun k _ H => E (ex.2 k) none H⟩ ex k :=
      { hN := rfl, sc := rfl, kd := S.kind, fn := rfl, nd := S.nd, calm := rfl, room := hr, own := passes_of rfl, blt := hb
        cal := fun i x tw n e => by
          obtain ⟨cl, h1, h2, h3⟩ := hc.get i x tw n e
          exact ⟨cl, h1, h2, ⟨h3.ok⟩, h3.len⟩
        gv := fun _ _ z => by simp at z
        mkc := (fun z => nomatch z)
        calF := (fun _ z => nomatch z)
        exc := .inr ⟨fun cls d _ H => E cls d H, takes_of rfl rfl rfl rfl, fun _ _ _ z => z, hE.on, (fun i x tw n e => let ⟨cl, h1, h2, h3⟩ := hcx.get i x tw n e; ⟨cl, h1, h2, ⟨h3.ok⟩, h3.len⟩), hE.cls⟩
        tx := fun z => nomatch z }
    obtain ⟨d1, d2, rfl⟩ : ∃ d1 d2, ds = [d1, d2] := by
      match ds, l with
      | [a, b], _ => exact ⟨a, b, rfl⟩
    have rel0 := rel_start (P := P) (w := w) (tw := false) (N := [n1, n2, n3]) (ds := [.none, d1, d2]) (us := .non :: us) wf (.cons .non r) (Nat.le_refl 3)
    have rel1 := rel0.unb (i := 0) (v := some (.ref xa))
    refine ⟨_, sSs initIR mx hm, ⟨fm.scr, fm.ns, fm.T, S', H, S'⟩, c, S', [.unb, .val d1, .val d2], rel1, ?_⟩
    show PostS P w K _ (fun k _ H => E (ex.2 k) none H) (exSs fm.ns [⟨false, F0⟩] [] initIR [.unb, .val d1, .val d2] c) _
    have ee : exSs fm.ns [⟨false, F0⟩] [] initIR [.unb, .val d1, .val d2] c = match F0 fm.ns [d1, d2] c with | .exn e c0 => .exn e c0 | _ => .bad := by
      have e1 : evE fm.ns [⟨false, F0⟩] [] (.call 0 (.cons (.var 1) (.cons (.var 2) .nil))) [.unb, .val d1, .val d2] c = F0 fm.ns [d1, d2] c := by
        simp [evE, evA, R.thn]
      unfold initIR
      rw [exSs, exS, e1]
      cases F0 fm.ns [d1, d2] c with
      | ok z => show exSs fm.ns [⟨false, F0⟩] [] (.cons .hole .nil) _ z.2 = _; rw [exSs, exS]
      | exn e c0 => rfl
      | bad => rfl
    rw [ee]
    have post : (match F0 fm.ns [d1, d2] c with | .exn k c0 => ∀ S'' H', Gr fm.T S' H c0 S'' H' → ex.1 = true ∧ E (ex.2 k) none H' | _ => False) := post
    match hF : F0 fm.ns [d1, d2] c with
    | .exn e c0 => rw [hF] at post; exact fun S2 H2 σ2 g => (post S2 H2 g).2
    | .ok z => rw [hF] at post; exact (show False from post).elim
    | .bad => rw [hF] at post; exact (show False from post).elim
/-- a def that catches -/
theorem fn_okTM {mkl : List (Nat × Str × Nat)} {x : Str} {st : Stmt} {f : Addr} {fd : FuncData} {N ps : List Str} {k n : Nat} {Φ : List Callee} {gv : List D} {tw : Bool} {body : Sms} {cal : List (Str × Bool × Nat)} {gn : List Str} {xs : List Nat} {ex : EV} (F : L2.Fun K x x st f fd) (S : FnScope N ps (defScope st))
    (hps : ps.length = (if tw then 2 else 0) + n) (hm : mSs ⟨N, defScope st, fun _ => true, cal, gn, true, xs, [], (false, mkl)⟩ body (defBody st) = true) (hk : 1 ≤ k) (hb : ∀ x ∈ bltNames, mg x = none) (hc : Cals P w K mg base k cal Φ) (hcx : CalsX P w K mg base ex k cal Φ) (hE : Errs P w K mg base ex xs) (hg : Gvs P w K mg gn gv) (hmk : ∀ f x n, mkl.contains (f, x, n) = true → ∃ cl, Φ[f]? = some cl ∧ cl.tw = false ∧ DfnM P w K mg base ex k x cl n)
    (hx : mg x = some (.ref f)) (bd : Binds K fd ps []) : Dfn P w K mg base (k + 1) x ⟨tw, runD Φ gv tw n N.length body⟩ n := by
  refine ⟨⟨f, fd, ps, hx, F.kp, bd, ?_⟩, runD_len⟩
  refine F.ok S (fun vs H Q E h => ?_) (fun cdv A outer s H vs Q E hr h => ?_)
  · obtain ⟨fm, c, S', ds, us, wf, r, l, rfl, _⟩ := h
    rw [hps, List.length_append, ← r.length, l]
    cases tw <;> rfl
  · obtain ⟨fm, c, S', ds, us, wf, r, l, rfl, post⟩ := h
    have mx : MX ⟨N, defScope st, fun _ => true, cal, gn, true, xs, [], (false, mkl)⟩ (cxOf CX0 P w K mg base N x (defScope st) f cdv A outer s H E).nox ⟨Φ, gv, fun _ _ _ => False⟩ ex k :=
      { hN := rfl, sc := rfl, kd := S.kind, fn := rfl, nd := S.nd, calm := rfl, room := hr, own := PassesOwn.never, blt := hb
        cal := fun i x tw n e => by
          obtain ⟨cl, h1, h2, h3⟩ := hc.get i x tw n e
          exact ⟨cl, h1, h2, ⟨h3.ok⟩, h3.len⟩
        gv := hg.get, exc := .inl fun _ _ _ z => z
        mkc := (fun z => nomatch z)
        calF := (fun _ z => nomatch z)
        tx := fun _ => ⟨hE.tryX rfl rfl rfl rfl (hr.mono hk) rfl rfl, hE.on, (fun f x n hc => let ⟨cl, h1, h2, h3⟩ := hmk f x n hc; ⟨cl, h1, h2, ⟨h3.ok⟩, h3.len⟩), (fun i x tw n e => let ⟨cl, h1, h2, h3⟩ := hcx.get i x tw n e; ⟨cl, h1, h2, ⟨h3.ok⟩, h3.len⟩), hE.cls⟩ }
    have hl : (if tw then 2 else 0) + ds.length ≤ N.length := by
      have := congrArg List.length S.pre
      rw [List.length_take] at this
      rw [l, ← hps]
      omega
    refine ⟨_, sSs body mx hm, ⟨fm.scr, fm.ns, fm.T, S', H, S'⟩, c, S', startE tw N.length ds, rel_start wf r hl, ?_⟩
    have post : Post fm (fun k H' => false = true ∧ E ((fun _ => Value.none) k) none H') (Rep P w K) S' H (runD Φ gv tw n N.length body fm.ns ds c) Q := post
    unfold runD at post
    rw [if_pos l] at post
    show PostS P w K _ (fun _ _ _ => False) (exSs fm.ns Φ gv body (startE tw N.length ds) c) _
    match ev : exSs fm.ns Φ gv body (startE tw N.length ds) c with
    | .ok (.next env', c') => rw [ev] at post; exact fun S2 H2 σ2 rel2 => post S2 H2 _ rel2.ent .non
    | .ok (.ret d, c') => rw [ev] at post; exact post
    | .exn e c0 => rw [ev] at post; exact fun S2 H2 σ2 g => Bool.false_ne_true (post S2 H2 g).1
    | .bad => rw [ev] at post; exact post
theorem fn_okT {x : Str} {st : Stmt} {f : Addr} {fd : FuncData} {N ps : List Str} {k n : Nat} {Φ : List Callee} {gv : List D} {tw : Bool} {body : Sms} {cal : List (Str × Bool × Nat)} {gn : List Str} {xs : List Nat} {ex : EV} (F : L2.Fun K x x st f fd) (S : FnScope N ps (defScope st))
    (hps : ps.length = (if tw then 2 else 0) + n) (hm : mSs ⟨N, defScope st, fun _ => true, cal, gn, true, xs, [], (false, [])⟩ body (defBody st) = true) (hk : 1 ≤ k) (hb : ∀ x ∈ bltNames, mg x = none) (hc : Cals P w K mg base k cal Φ) (hcx : CalsX P w K mg base ex k cal Φ) (hE : Errs P w K mg base ex xs) (hg : Gvs P w K mg gn gv)
    (hx : mg x = some (.ref f)) (bd : Binds K fd ps []) : Dfn P w K mg base (k + 1) x ⟨tw, runD Φ gv tw n N.length body⟩ n := fn_okTM F S hps hm hk hb hc hcx hE hg (fun _ _ _ z => nomatch z) hx bd
end
end LG
namespace LG
open PySem PySem.Spec PyProof.Rows L2 L2H
/-! ### the classes of the exceptions -/
def tailVE : List Value := [.type "ValueError", .type "Exception", .type "BaseException", .type "object"]
structure Cf (K : PySem.W.Frag) (mg : Str → Option Value) (x : Str) (C : Addr) (ms : List Value) : Prop where
  m : mg x = some (.ref C)
  cl : ∃ cd, PySem.W.clsIn K C = some cd ∧ cd.mro = ms
  ty : PySem.W.typeIn K (.ref C) = some (.type "type")
  kp : PySem.W.keepIn K (.ref C) = true
  xi : PySem.W.excIn K C [.type "ValueError", .type "Exception", .type "BaseException", .type "object"] "ValueError.__new__" = true
  g1 : PySem.W.findIn K (.ref C) "__getattribute__" = some (some (.builtin "BaseException.__getattribute__"))
  g2 : PySem.W.findIn K (.ref C) "__getattr__" = some none
  hd : PySem.W.hasDictIn K C = true
  g3 : PySem.W.findIn K (.ref C) "__class__" = some (some (.builtin "object.__class__"))
def mroOf (G C : Addr) (j : Nat) : List Value := if j = 0 then .ref G :: tailVE else .ref C :: .ref G :: tailVE
theorem Cf.sub {K : PySem.W.Frag} {mg : Str → Option Value} {x : Str} {C : Addr} {ms : List Value} (h : Cf K mg x C ms) (hne : ms ≠ []) (v : Value) : PySem.W.subIn K (.ref C) v = some (ms.contains v) := by
  obtain ⟨cd, h1, h2⟩ := h.cl
  show (PySem.W.clsIn K C).bind (fun cd => if cd.mro.isEmpty then none else some (cd.mro.contains v)) = _
  rw [h1]
  show (if cd.mro.isEmpty then none else some (cd.mro.contains v)) = _
  rw [h2]
  cases ms with
  | nil => exact absurd rfl hne
  | cons a r => rfl
theorem Cf.cls {K : PySem.W.Frag} {mg : Str → Option Value} {x : Str} {C : Addr} {ms : List Value} (h : Cf K mg x C ms) (t : Value) : PySem.W.kitCls K t (.ref C) = PySem.W.subIn K t (.ref C) := by
  obtain ⟨cd, h1, h2⟩ := h.cl
  unfold PySem.W.kitCls
  simp only
  rw [if_pos]
  rw [h1, h.ty]
  rfl
section
variable {P : Program} {w : World} {K : PySem.W.Frag} {mg : Str → Option Value} {base : Heap}
theorem mroOf_ne (G C : Addr) (j : Nat) : mroOf G C j ≠ [] := by unfold mroOf; split <;> simp
theorem mro_type {G C : Addr} {j : Nat} {T : String} : (mroOf G C j).contains (.type T) = tailVE.contains (.type T) := by
  unfold mroOf
  split
  · rfl
  · rfl
theorem mro_ref {G C A : Addr} {j : Nat} : (mroOf G C j).contains (.ref A) = (if j = 0 then A == G else (A == C || A == G)) := by
  have t : tailVE.contains (Value.ref A) = false := rfl
  have e : ∀ B : Addr, (Value.ref A == Value.ref B) = (A == B) := fun B => by
    rw [Bool.eq_iff_iff]; simp
  unfold mroOf
  split
  · rw [List.contains_cons, t, e, Bool.or_false]
  · rw [List.contains_cons, List.contains_cons, t, e, e, Bool.or_false]
theorem errs_mk {xs : List Nat} {Cs : Nat → Addr} (h0 : xs.contains 0 = true) (hxs : ∀ k, k < 16 → xs.contains k = false → k = 3) (h3 : xs.contains 3 = false → Cs 3 = Cs 0) (all : ∀ j, xs.contains j = true → Cf K mg (excNm.getD j "") (Cs j) (mroOf (Cs 0) (Cs j) j)) (nd : ∀ i j, xs.contains i = true → xs.contains j = true → Cs i = Cs j → i = j)
    (s1 : PySem.W.specialIn K (.builtin "object.__class__") "__get__" = some (some (.builtin "getset_descriptor.__get__"))) (s2 : PySem.W.takesIn K (.builtin "object.__class__") = some true) (km : PySem.W.kitMeta "ValueError" = true)
    (wh : ∃ f fd st, L2.Fun K "_law_which" "_law_which" st f fd ∧ FnScope [("e" : Str), "own"] [("e" : Str)] (defScope st) ∧ (defScope st).names.lookup ("own" : Str) = some .local ∧ (defScope st).names.lookup ("isinstance" : Str) = some .globalImplicit ∧ whM (defScope st) (defBody st) = true ∧ mg "_law_which" = some (.ref f) ∧ Binds K fd [("e" : Str)] [])
    (mi : mg "isinstance" = none) (mv : mg "ValueError" = none) : Errs P w K mg base (true, fun k => .ref (Cs k)) xs := by
  -- a class that stands for number k
  have rep : ∀ k, k < 16 → ∃ j, xs.contains j = true ∧ Cs k = Cs j ∧ (xs.contains k = true → j = k) ∧ (xs.contains k = false → j = 0 ∧ k = 3) := fun k hk => by
    cases e : xs.contains k with
    | true => exact ⟨k, e, rfl, fun _ => rfl, fun z => nomatch z⟩
    | false =>
      have := hxs k hk e
      subst this
      exact ⟨0, h0, h3 e, (fun z => nomatch z), fun _ => ⟨rfl, rfl⟩⟩
  have sb : ∀ j, xs.contains j = true → ∀ v, PySem.W.subIn K (.ref (Cs j)) v = some ((mroOf (Cs 0) (Cs j) j).contains v) := fun j hj v => (all j hj).sub (mroOf_ne _ _ _) v
  have G := all 0 h0
  refine ⟨rfl, fun j x hx hc => ?_, ⟨Cs 0, G.m, fun k hk => ?_⟩, fun hx3 => ⟨Cs 3, (all 3 hx3).m, fun k hk => ?_⟩, fun k hk => ?_, wh, mi, mv⟩
  · have c := all j hc
    have ex : excNm.getD j "" = x := by rw [List.getD_eq_getElem?_getD, hx]; rfl
    rw [ex] at c
    exact ⟨Cs j, rfl, c.m, c.xi, c.kp, by rw [sb j hc, mro_type]; rfl, c.ty⟩
  · obtain ⟨j, j1, j2, _, _⟩ := rep k hk
    show PySem.W.exmOne K (.ref (Cs k)) (.ref (Cs 0)) = some true
    unfold PySem.W.exmOne
    rw [if_pos (by rw [sb 0 h0, mro_type]; rfl), G.cls, j2, sb j j1, mro_ref]
    split
    · simp
    · simp
  · obtain ⟨j, j1, j2, j3, j4⟩ := rep k hk
    have kc : xs.contains k = true := by
      cases e : xs.contains k with
      | true => rfl
      | false => have := hxs k hk e; subst this; rw [hx3] at e; cases e
    have jk := j3 kc
    subst jk
    show PySem.W.exmOne K (.ref (Cs j)) (.ref (Cs 3)) = some (decide (j = 3))
    have n0 : Cs 3 ≠ Cs 0 := fun z => absurd (nd 3 0 hx3 h0 z) (by decide)
    unfold PySem.W.exmOne
    rw [if_pos (by rw [sb 3 hx3, mro_type]; rfl), (all 3 hx3).cls, sb j kc, mro_ref]
    congr 1
    by_cases e3 : j = 3
    · subst e3
      simp
    · have ne : Cs 3 ≠ Cs j := fun z => e3 (nd 3 j hx3 kc z).symm
      rw [decide_eq_false e3]
      split
      · simp [n0]
      · simp [n0, ne]
  · obtain ⟨j, j1, j2, j3, j4⟩ := rep k hk
    have c := all j j1
    refine ⟨Cs k, rfl, ?_, ?_, fun i x hi => ?_⟩
    · rw [j2]
      exact ⟨c.g1, c.g2, by rw [sb j j1, mro_type]; rfl, c.hd, c.g3, s1, s2, (by have := sb j j1 (.type "object"); rw [mro_type] at this; exact this)⟩
    · rw [j2]
      unfold PySem.W.kitOne
      rw [if_neg (by simp)]
      unfold PySem.W.kitCls
      simp only
      rw [if_pos km, sb j j1, mro_type]
      rfl
    · have hi2 : i < 16 ∧ i ≠ 0 ∧ i ≠ 3 ∧ excNm[i]? = some (Str.ofString x) := by
        simp only [List.mem_cons, Prod.mk.injEq, List.not_mem_nil, or_false] at hi
        rcases hi with ⟨rfl, rfl⟩ | ⟨rfl, rfl⟩ | ⟨rfl, rfl⟩ | ⟨rfl, rfl⟩ | ⟨rfl, rfl⟩ | ⟨rfl, rfl⟩ | ⟨rfl, rfl⟩ | ⟨rfl, rfl⟩ | ⟨rfl, rfl⟩ | ⟨rfl, rfl⟩ | ⟨rfl, rfl⟩ | ⟨rfl, rfl⟩ | ⟨rfl, rfl⟩ | ⟨rfl, rfl⟩ <;> exact ⟨by decide, by decide, by decide, rfl⟩
      obtain ⟨i1, i2, i3, i4⟩ := hi2
      have ic : xs.contains i = true := by
        cases e : xs.contains i with
        | true => rfl
        | false => exact absurd (hxs i i1 e) i3
      have ci := all i ic
      have ex : excNm.getD i "" = Str.ofString x := by rw [List.getD_eq_getElem?_getD, i4]; rfl
      rw [ex] at ci
      refine ⟨Cs i, ci.m, ?_⟩
      unfold PySem.W.kitOne
      by_cases hki : k = i
      · subst hki
        rw [if_pos (by simp)]
        simp
      · have ne : Cs i ≠ Cs j := fun z => by
          have := nd i j ic j1 z
          subst this
          cases e : xs.contains k with
          | true => exact hki (j3 e).symm
          | false => exact i2 (j4 e).1
        have neG : Cs i ≠ Cs 0 := fun z => i2 (nd i 0 ic h0 z)
        rw [decide_eq_false hki, j2, if_neg (by simp; exact Ne.symm ne), ci.cls, sb j j1, mro_ref]
        split
        · simp [neG]
        · simp [neG, ne]
end
end LG
namespace LG
theorem nd_of {xs : List Nat} {Cs : Nat → PySem.Addr} (h : (xs.map Cs).Nodup) : ∀ i j, xs.contains i = true → xs.contains j = true → Cs i = Cs j → i = j := by
  intro i j hi hj e
  have hi : i ∈ xs := by simpa using hi
  have hj : j ∈ xs := by simpa using hj
  induction xs with
  | nil => cases hi
  | cons a r ih =>
    rw [List.map_cons, List.nodup_cons] at h
    rcases List.mem_cons.mp hi with rfl | hi'
    · rcases List.mem_cons.mp hj with rfl | hj'
      · rfl
      · exact absurd (List.mem_map.mpr ⟨j, hj', e.symm⟩) h.1
    · rcases List.mem_cons.mp hj with rfl | hj'
      · exact absurd (List.mem_map.mpr ⟨i, hi', e⟩) h.1
      · exact ih h.2 (by simpa using hi') (by simpa using hj') hi' hj'
end LG

/-! LgR: the draws of a law: _law_cell_at, _law_mixed, _law_draw, over any row. -/
namespace LG
open PySem PySem.Spec PyProof.Rows L2

abbrev cellB (q1 q2 q3 q4 q5 q6 q7 q8 q9 q10 q11 q12 q13 q14 q15 q16 q17 q18 q19 q20 q21 q22 q23 q24 q25 q26 q27 q28 q29 q30 q31 q32 q33 q34 q35 q36 q37 q38 q39 q40 q41 q42 q43 q44 q45 q46 q47 q48 q49 q50 q51 q52 q53 q54 q55 q56 q57 q58 : Pos) (k1 k2 k3 k4 k5 : Nat) : List Stmt :=
  [.If (.Compare (.Name "k" q1) [.Lt] [.Call (.Name "len" q2) [.Name "script" q3] [] q4] q5) [.Return (some (.Subscript (.Name "script" q6) (.Name "k" q7) q8)) q9] [] q10,
   .If (.Compare (.Name "script" q11) [.Eq] [.List [] q12] q13) [.Return (some (.Constant (.int 0) k1 q14)) q15] [] q16,
   .Assign [.Name "spare" q17] (.Subscript (.Name "script" q18) (.BinOp (.Name "k" q19) .Mod (.Call (.Name "len" q20) [.Name "script" q21] [] q22) q23) q24) q25,
   .For (.Name "again" q26) (.Call (.Name "range" q27) [.Call (.Name "min" q28) [.BinOp (.Name "k" q29) .FloorDiv (.Call (.Name "len" q30) [.Name "script" q31] [] q32) q33, .Constant (.int 60) k2 q34] [] q35] [] q36)
     [.Assign [.Name "spare" q37] (.BinOp (.Name "spare" q38) .FloorDiv (.Constant (.int 1000003) k3 q39) q40) q41] [] q42,
   .Return (some (.BinOp (.BinOp (.BinOp (.Subscript (.Name "script" q43) (.BinOp (.Name "k" q44) .Mod (.Call (.Name "len" q45) [.Name "script" q46] [] q47) q48) q49) .Mult (.Constant (.int 31) k4 q50) q51) .Add (.Name "k" q52) q53) .Add (.BinOp (.Name "spare" q54) .Mult (.Constant (.int 101) k5 q55) q56) q57)) q58]
abbrev mixedB (q1 q2 q3 q4 q5 q6 q7 q8 q9 q10 q11 q12 q13 q14 q15 q16 q17 q18 q19 q20 q21 q22 q23 q24 q25 q26 : Pos) (k1 k2 k3 k4 k5 k6 k7 : Nat) : List Stmt :=
  [.Assign [.Name "spun" q1] (.BinOp (.BinOp (.BinOp (.BinOp (.Call (.Name "_law_cell_at" q2) [.Name "script" q3, .Name "k" q4] [] q5) .Mult (.Constant (.int 1103515245) k1 q6) q7) .Add (.BinOp (.Constant (.int 7919) k2 q8) .Mult (.Name "k" q9) q10) q11) .Add (.Constant (.int 12345) k3 q12) q13) .Mod (.Constant (.int 2147483647) k4 q14) q15) q16,
   .Return (some (.BinOp (.BinOp (.BinOp (.BinOp (.Name "spun" q17) .Pow (.Constant (.int 5) k5 q18) q19) .Mod (.Constant (.int 2147483647) k6 q20) q21) .Mod (.Constant (.int 999983) k7 q22) q23) .Mod (.Name "many" q24) q25)) q26]
abbrev drawB (q1 q2 q3 q4 q5 q6 q7 q8 q9 q10 q11 q12 q13 : Pos) (k1 : Nat) : List Stmt :=
  [.Expr (.Call (.Attribute (.Name "town" q1) "append" q2) [.Constant (.int 0) k1 q3] [] q4) q5,
   .Return (some (.Call (.Name "_law_mixed" q6) [.Name "script" q7, .Call (.Name "len" q8) [.Name "town" q9] [] q10, .Name "many" q11] [] q12)) q13]
def Kept (H H' : Hp) : Prop := ∀ a o, H a = some o → H' a = some o
theorem Kept.sq {K : PySem.W.Frag} {H H' : Hp} {a : Addr} {xs : List V} (h : Kept H H') (q : SqL K H a xs) : SqL K H' a xs := SqL.sub h q
def spCellAt (K : PySem.W.Frag) : Sp := fun vs H Q _ => ∃ (l : Addr) (ns : List Int) (j : Nat), vs = [.ref l, .int (j : Nat)] ∧ SqL K H l (ns.map V.int) ∧ ns.length ≤ 63 ∧ j ≤ 2000000 ∧ ∀ H', Kept H H' → Q (.int (cellAt ns j)) H'
def spMixed (K : PySem.W.Frag) : Sp := fun vs H Q _ => ∃ (l : Addr) (ns : List Int) (j : Nat) (m : Int), vs = [.ref l, .int (j : Nat), .int m] ∧ SqL K H l (ns.map V.int) ∧ ns.length ≤ 63 ∧ j ≤ 2000000 ∧ 0 < m ∧ ∀ H', Kept H H' → Q (.int (mixedAt ns j m)) H'
theorem atI_ns {ns : List Int} {j : Nat} (h : j < ns.length) : atI (ns.map V.int) ((j : Nat) : Int) = some (.int (ns.getD j 0)) := by
  have e : (ns.map V.int)[j]? = some (.int (ns.getD j 0)) := by
    rw [List.getElem?_map, List.getElem?_eq_getElem h, List.getD_eq_getElem?_getD, List.getElem?_eq_getElem h]
    rfl
  exact atI_nat e
theorem vis_p {N ps : List Str} {sc : Scope} (S : FnScope N ps sc) {x : Str} (h : x ∈ ps) : Vis sc x := (S.par x h).elim .inl fun e => .inr (.inl e)
theorem shp_ints (ns : List Int) : SeqAt.shaped (.list (ns.map .int)) = true := by
  have h1 : ∀ ns : List Int, PyData.canLayAll0 (ns.map .int) = true := fun ns => by
    induction ns with
    | nil => rfl
    | cons a r ih =>
      show (PyData.canLay0 (.int a) && PyData.canLayAll0 (r.map .int)) = true
      rw [ih]; rfl
  have h2 : ∀ ns : List Int, PyData.depthAll (ns.map .int) ≤ 1 := fun ns => by
    induction ns with
    | nil => exact Nat.zero_le _
    | cons a r ih =>
      show max (PyData.depth (.int a)) (PyData.depthAll (r.map .int)) ≤ 1
      have : PyData.depth (.int a) ≤ 1 := by show 0 ≤ 1; decide
      omega
  unfold SeqAt.shaped
  rw [Bool.and_eq_true]
  refine ⟨h1 ns, decide_eq_true ?_⟩
  have := h2 ns
  show PyData.depthAll (ns.map .int) + 1 ≤ 64
  omega
theorem dpAll_ints {K : PySem.W.Frag} {H : Hp} : ∀ ns : List Int, DpAll K H (ns.map V.int) (ns.map PyData.int)
  | [] => .nil
  | n :: ns => .cons (.int n) (dpAll_ints ns)
section
variable {P : Program} {w : World} {K : PySem.W.Frag} {mg : Str → Option Value} {base : Heap} {f : Addr} {fd : FuncData} {st : Stmt}
theorem cell_ok {q1 q2 q3 q4 q5 q6 q7 q8 q9 q10 q11 q12 q13 q14 q15 q16 q17 q18 q19 q20 q21 q22 q23 q24 q25 q26 q27 q28 q29 q30 q31 q32 q33 q34 q35 q36 q37 q38 q39 q40 q41 q42 q43 q44 q45 q46 q47 q48 q49 q50 q51 q52 q53 q54 q55 q56 q57 q58 : Pos} {k1 k2 k3 k4 k5 : Nat}
    (F : L2.Fun K "_law_cell_at" "_law_cell_at" st f fd) (S : FnScope ["script", "k", "spare", "again"] ["script", "k"] (defScope st)) (ls : (defScope st).names.lookup ("spare" : Str) = some .local) (la : (defScope st).names.lookup ("again" : Str) = some .local)
    (hl : (defScope st).names.lookup ("len" : Str) = some .globalImplicit) (hr0 : (defScope st).names.lookup ("range" : Str) = some .globalImplicit) (hm0 : (defScope st).names.lookup ("min" : Str) = some .globalImplicit)
    (hb : defBody st = cellB q1 q2 q3 q4 q5 q6 q7 q8 q9 q10 q11 q12 q13 q14 q15 q16 q17 q18 q19 q20 q21 q22 q23 q24 q25 q26 q27 q28 q29 q30 q31 q32 q33 q34 q35 q36 q37 q38 q39 q40 q41 q42 q43 q44 q45 q46 q47 q48 q49 q50 q51 q52 q53 q54 q55 q56 q57 q58 k1 k2 k3 k4 k5) (hbl : ∀ x ∈ bltNames, mg x = none) :
    FnOk P w K mg base CX0 1 f fd ["script", "k"] (spCellAt K) := by
  have mL : mg "len" = none := hbl _ (by decide)
  have mR : mg "range" = none := hbl _ (by decide)
  have mM : mg "min" = none := hbl _ (by decide)
  refine F.ok S (fun vs H Q E h => ?_) (fun cdv A outer s H vs Q E hr h => ?_)
  · obtain ⟨l, ns, j, rfl, _⟩ := h
    rfl
  · obtain ⟨l, ns, j, rfl, hS, hlen, hj, q⟩ := h
    rw [hb]
    have v0 := vis_p S (x := "script") List.mem_cons_self
    have v1 := vis_p S (x := "k") (List.mem_cons_of_mem _ List.mem_cons_self)
    refine ⟨_, pss_cons (ps_if (pt_cmpR op_lt (pe_var (i := 1) rfl v1) (pe_callB call_len_seq hl mL PySem.boot_len (pa_cons (pe_var (i := 0) rfl v0) pa_nil)) (nomark _)) (pss_one (ps_ret (pe_ix ix_list (pe_var (i := 0) rfl v0) (pe_var (i := 1) rfl v1) fun _ _ => rfl))) pss_nil)
      (pss_cons (ps_if (pt_cmpR (op_eqD hr.units) (pe_var (i := 0) rfl v0) (pe_lst pa_nil) (nomark _)) (pss_one (ps_ret pe_int)) pss_nil)
      (pss_cons (ps_set (i := 2) S.nd rfl (.inl ls) (pe_ix ix_list (pe_var (i := 0) rfl v0) (pe_op op_mod (pe_var (i := 1) rfl v1) (pe_callB call_len_seq hl mL PySem.boot_len (pa_cons (pe_var (i := 0) rfl v0) pa_nil))) fun _ _ => rfl))
      (pss_cons (ps_for PassesOwn.never rfl (pi_range1 hr0 mR (pa_cons (pe_callB (call_min2 rfl) hm0 mM boot_min (pa_cons (pe_op op_fdiv (pe_var (i := 1) rfl v1) (pe_callB call_len_seq hl mL PySem.boot_len (pa_cons (pe_var (i := 0) rfl v0) pa_nil))) (pa_cons pe_int pa_nil))) pa_nil))
          (pg_name (i := 3) S.nd rfl (.inl la)) (pss_one (ps_set (i := 2) S.nd rfl (.inl ls) (pe_op op_fdiv (pe_var (i := 2) rfl (.inl ls)) pe_int))))
      (pss_one (ps_ret (pe_op op_add (pe_op op_add (pe_op op_mul (pe_ix ix_list (pe_var (i := 0) rfl v0) (pe_op op_mod (pe_var (i := 1) rfl v1) (pe_callB call_len_seq hl mL PySem.boot_len (pa_cons (pe_var (i := 0) rfl v0) pa_nil))) fun _ _ => rfl) pe_int) (pe_var (i := 1) rfl v1)) (pe_op op_mul (pe_var (i := 2) rfl (.inl ls)) pe_int))))))), ?_⟩
    have ll : (ns.map V.int).length = ns.length := List.length_map ..
    -- k < len(script)
    refine ⟨_, rfl, _, rfl, l, _, rfl, .inl hS, (j : Nat), ((ns.map V.int).length : Nat), rfl, rfl, _, rfl, ite2 (fun e => ?_) (fun e => ?_)⟩
    · have hlt : j < ns.length := by have := of_decide_eq_true e; rw [ll] at this; omega
      refine ⟨_, rfl, _, rfl, l, _, _, _, rfl, rfl, hS, atI_ns hlt, ?_⟩
      have := q H fun _ _ z => z
      unfold cellAt at this
      rw [if_pos hlt] at this
      exact this
    · have hge : ¬ j < ns.length := fun z => e (decide_eq_true (by rw [ll]; omega))
      -- script == []
      refine ⟨_, rfl, Nat.zero_le _, fun p hp => ?_⟩
      have kp : Kept H (upd H p (.lst [])) := fun b o z => by
        have ne : b ≠ p := fun y => by rw [y, hp] at z; cases z
        rw [upd_ne ne]; exact z
      have hS1 : SqL K (upd H p (.lst [])) l (ns.map V.int) := kp.sq hS
      refine ⟨.list (ns.map .int), .list [], .lst hS1 (dpAll_ints ns), .lst (SqL.of upd_same) .nil, ?_, rfl, _, rfl, ite2 (fun e2 => ?_) (fun e2 => ?_)⟩
      · exact shp_ints ns
      · have hn : ns = [] := by
          cases ns with
          | nil => rfl
          | cons a r => exact absurd e2 (by simp [PyData.eqv, PyData.eqvAll])
        have := q _ kp
        unfold cellAt at this
        rw [if_neg hge, if_pos hn] at this
        exact this
      · have hn : ns ≠ [] := fun z => e2 (by subst z; rfl)
        have hpos : 0 < ns.length := List.length_pos_iff.mpr hn
        have hmod : j % ns.length < ns.length := Nat.mod_lt _ hpos
        have cm : ((j : Nat) : Int) % (((ns.map V.int).length : Nat) : Int) = ((j % ns.length : Nat) : Int) := by rw [ll]; omega
        have cd : ((j : Nat) : Int) / (((ns.map V.int).length : Nat) : Int) = ((j / ns.length : Nat) : Int) := by rw [ll]; omega
        have bd : ∀ t : Nat, -(2 ^ 62) ≤ (if (60 : Int) < (t : Int) then (60 : Int) else (t : Int)) ∧ (if (60 : Int) < (t : Int) then (60 : Int) else (t : Int)) < 2 ^ 62 := fun t => by split <;> omega
        have em : ∀ t : Nat, (if (60 : Int) < (t : Int) then (60 : Int) else (t : Int)).toNat = min t 60 := fun t => by split <;> omega
        have hp0 : (0 : Int) < (((ns.map V.int).length : Nat) : Int) := by rw [ll]; omega
        refine ⟨_, rfl, _, rfl, _, rfl, l, _, rfl, .inl hS1, _, _, rfl, rfl, hp0, l, _, _, _, rfl, rfl, hS1, by rw [cm]; exact atI_ns hmod, ?_⟩
        refine ⟨_, rfl, _, rfl, l, _, rfl, .inl hS1, _, _, rfl, rfl, ⟨hp0, by rw [ll]; omega⟩, _, _, rfl, _, rfl, ?_, ?_, ?_⟩
        · rw [cd]; exact (bd _).1
        · rw [cd]; exact (bd _).2
        rw [cd, em]
        refine for_range (fun i σ H' => H' = upd H p (.lst []) ∧ ∃ z, σ = [some (.ref l), some (.int (j : Nat)), some (.int (Nat.repeat (fun (x : Int) => x / 1000003) i (ns.getD (j % ns.length) 0))), z]) ⟨rfl, _, rfl⟩ (fun i σ H' hi hp' => ?_) fun σ H' hp' => ?_
        · obtain ⟨rfl, z, rfl⟩ := hp'
          exact ⟨_, rfl, _, _, rfl, rfl, ⟨by decide, by decide⟩, rfl, _, rfl⟩
        · obtain ⟨rfl, z, rfl⟩ := hp'
          refine ⟨_, rfl, _, rfl, _, rfl, l, _, rfl, .inl hS1, _, _, rfl, rfl, hp0, l, _, _, _, rfl, rfl, hS1, by rw [cm]; exact atI_ns hmod, ?_⟩
          refine ⟨_, _, rfl, rfl, .inr ⟨by decide, by decide⟩, _, rfl, _, _, rfl, rfl, _, rfl, _, _, rfl, rfl, .inr ⟨by decide, by decide⟩, _, _, rfl, rfl, ?_⟩
          have := q _ kp
          unfold cellAt at this
          rw [if_neg hge, if_neg hn] at this
          exact this
theorem mixed_ok {q1 q2 q3 q4 q5 q6 q7 q8 q9 q10 q11 q12 q13 q14 q15 q16 q17 q18 q19 q20 q21 q22 q23 q24 q25 q26 : Pos} {k1 k2 k3 k4 k5 k6 k7 : Nat} {fC : Addr} {fdC : FuncData}
    (F : L2.Fun K "_law_mixed" "_law_mixed" st f fd) (S : FnScope ["script", "k", "many", "spun"] ["script", "k", "many"] (defScope st)) (ls : (defScope st).names.lookup ("spun" : Str) = some .local) (hc0 : (defScope st).names.lookup ("_law_cell_at" : Str) = some .globalImplicit)
    (hb : defBody st = mixedB q1 q2 q3 q4 q5 q6 q7 q8 q9 q10 q11 q12 q13 q14 q15 q16 q17 q18 q19 q20 q21 q22 q23 q24 q25 q26 k1 k2 k3 k4 k5 k6 k7)
    (FC : FnOk P w K mg base CX0 1 fC fdC ["script", "k"] (spCellAt K)) (mC : mg "_law_cell_at" = some (.ref fC)) (kC : PySem.W.keepIn K (.ref fC) = true) (bC : Binds K fdC ["script", "k"] []) :
    FnOk P w K mg base CX0 2 f fd ["script", "k", "many"] (spMixed K) := by
  refine F.ok S (fun vs H Q E h => ?_) (fun cdv A outer s H vs Q E hr h => ?_)
  · obtain ⟨l, ns, j, m, rfl, _⟩ := h
    rfl
  · obtain ⟨l, ns, j, m, rfl, hS, hlen, hj, hm, q⟩ := h
    rw [hb]
    have v0 := vis_p S (x := "script") List.mem_cons_self
    have v1 := vis_p S (x := "k") (List.mem_cons_of_mem _ List.mem_cons_self)
    have v2 := vis_p S (x := "many") (List.mem_cons_of_mem _ (List.mem_cons_of_mem _ List.mem_cons_self))
    refine ⟨_, pss_cons (ps_set (i := 3) S.nd rfl (.inl ls) (pe_op op_mod (pe_op op_add (pe_op op_add (pe_op op_mul (pe_call FC hr hc0 mC kC bC .nil pass0 (pa_cons (pe_var (i := 0) rfl v0) (pa_cons (pe_var (i := 1) rfl v1) pa_nil))) pe_int) (pe_op op_mul pe_int (pe_var (i := 1) rfl v1))) pe_int) pe_int))
      (pss_one (ps_ret (pe_op op_mod (pe_op op_mod (pe_op op_mod (pe_op op_pow (pe_var (i := 3) rfl (.inl ls)) pe_int) pe_int) pe_int) (pe_var (i := 2) rfl v2)))), ?_⟩
    refine ⟨_, rfl, _, rfl, l, ns, j, rfl, hS, hlen, hj, fun H' kp => ?_⟩
    refine ⟨_, _, rfl, rfl, .inr ⟨by decide, by decide⟩, _, rfl, _, _, rfl, rfl, .inl ⟨by decide, by decide⟩, _, _, rfl, rfl, _, _, rfl, rfl, _, _, rfl, rfl, (by show (0 : Int) < 2147483647; decide), ?_⟩
    have b1 : 0 ≤ (cellAt ns j * 1103515245 + 7919 * ((j : Nat) : Int) + 12345) % 2147483647 := Int.emod_nonneg _ (by decide)
    have b2 : (cellAt ns j * 1103515245 + 7919 * ((j : Nat) : Int) + 12345) % 2147483647 < 2147483647 := Int.emod_lt_of_pos _ (by decide)
    refine ⟨_, rfl, _, _, rfl, rfl, ⟨by decide, by decide, by omega⟩, _, _, rfl, rfl, (by show (0 : Int) < 2147483647; decide), _, _, rfl, rfl, (by show (0 : Int) < 999983; decide), _, rfl, _, _, rfl, rfl, hm, ?_⟩
    exact q H' kp
theorem draw_ok {q1 q2 q3 q4 q5 q6 q7 q8 q9 q10 q11 q12 q13 : Pos} {k1 : Nat} {fC : Addr} {fdC : FuncData}
    (F : L2.Fun K "_law_draw" "_law_draw" st f fd) (S : FnScope ["script", "town", "many"] ["script", "town", "many"] (defScope st)) (hl : (defScope st).names.lookup ("len" : Str) = some .globalImplicit) (hc0 : (defScope st).names.lookup ("_law_mixed" : Str) = some .globalImplicit)
    (hb : defBody st = drawB q1 q2 q3 q4 q5 q6 q7 q8 q9 q10 q11 q12 q13 k1) (hln : (q2.endLine == q4.line) = true) (hbl : ∀ x ∈ bltNames, mg x = none)
    (FC : FnOk P w K mg base CX0 2 fC fdC ["script", "k", "many"] (spMixed K)) (mC : mg "_law_mixed" = some (.ref fC)) (kC : PySem.W.keepIn K (.ref fC) = true) (bC : Binds K fdC ["script", "k", "many"] []) (hx : mg "_law_draw" = some (.ref f)) (bd : Binds K fd ["script", "town", "many"] []) :
    Dfn P w K mg base 3 "_law_draw" ⟨true, drawF⟩ 1 := by
  have mL : mg "len" = none := hbl _ (by decide)
  refine ⟨⟨f, fd, _, hx, F.kp, bd, ?_⟩, fun ns ds c r h hb => ?_⟩
  · refine F.ok S (fun vs H Q E h => ?_) (fun cdv A outer s H vs Q E hr h => ?_)
    · obtain ⟨fm, c, S', ds, us, wf, r, l, rfl, _⟩ := h
      have := r.length
      show us.length + 2 = 3
      omega
    · obtain ⟨fm, c, S', ds, us, wf, r, l, rfl, post⟩ := h
      rw [hb]
      have v0 := vis_p S (x := "script") List.mem_cons_self
      have v1 := vis_p S (x := "town") (List.mem_cons_of_mem _ List.mem_cons_self)
      have v2 := vis_p S (x := "many") (List.mem_cons_of_mem _ (List.mem_cons_of_mem _ List.mem_cons_self))
      refine ⟨_, pss_cons (ps_expr (pe_bm PySem.F.plainAttrs_list PySem.F.slot_list_append PySem.F.type_list_append mt_append (pe_var (i := 1) rfl v1) (pa_cons pe_int pa_nil) rfl rfl hln rfl rfl))
        (pss_one (ps_ret (pe_call FC hr hc0 mC kC bC .nil pass0 (pa_cons (pe_var (i := 0) rfl v0) (pa_cons (pe_callB call_len_seq hl mL PySem.boot_len (pa_cons (pe_var (i := 1) rfl v1) pa_nil)) (pa_cons (pe_var (i := 2) rfl v2) pa_nil)))))), ?_⟩
      match ds, r, l, post with
      | [d], r, l, post =>
        cases r with
        | cons r1 r2 =>
          cases r2
          cases d with
          | int m =>
            cases r1
            have post : Post fm (fun k H' => false = true ∧ E ((fun _ => Value.none) k) none H') (Rep P w K) S' H (if 0 < m ∧ c < LIM then .ok (.int (mixedAt fm.ns (c + 1) m), c + 1) else .bad) Q := post
            split at post
            · rename_i hm
              obtain ⟨hm, hcl⟩ := hm
              have hc2 : c < 1000000 := hcl
              have ez : (zeros c).length = c := List.length_replicate ..
              have en : zeros c ++ [V.int 0] = zeros (c + 1) := by unfold zeros; rw [List.replicate_succ']
              refine ⟨_, rfl, .inl ⟨rfl, _, SqL.of wf.tH⟩, fm.T, zeros c, _, rfl, rfl, wf.tH, by have : sizeLine = 2 ^ 24 := rfl; omega, ?_⟩
              rw [en]
              have ne : ∀ {a : Addr} {o : HO}, S' a = some o → a ≠ fm.T := fun {a o} e z => by rw [z, wf.tS] at e; cases e
              have sub : Sub S' (upd H fm.T (.lst (zeros (c + 1)))) := fun a o e => by rw [upd_ne (ne e)]; exact wf.inn a o e
              refine ⟨_, rfl, _, rfl, fm.T, _, rfl, .inl (SqL.of upd_same), _, rfl, ?_⟩
              refine ⟨fm.scr, fm.ns, c + 1, m, ?_, SqL.sub sub wf.sc, wf.ln, by omega, hm, fun H2 kp => ?_⟩
              · have : (zeros (c + 1)).length = c + 1 := List.length_replicate ..
                rw [this]
                rfl
              · refine post S' H2 _ ⟨fun _ _ e => e, fun a o e => kp a o (sub a o e), fun a o na e => kp a o (by rw [upd_ne na]; exact e), fun a o e => .inl e, kp _ _ upd_same⟩ (.int _)
            · exact post.elim
          | _ => exact (show False from post).elim
  · have hb' : drawF ns ds c = r := h
    unfold drawF at hb'
    split at hb'
    · rfl
    · exact absurd hb'.symm hb
end
end LG

/-! LgS: what a run with fewer known draws computes, the full run computes. -/
namespace LG
open PySem PySem.Spec PyProof.Rows L2

def R.le {α : Type} (a b : R α) : Prop := a = .bad ∨ a = b
theorem R.le.refl {α : Type} {a : R α} : R.le a a := .inr rfl
theorem R.le.bad {α : Type} {a : R α} : R.le .bad a := .inl rfl
theorem R.le.ok {α : Type} {a : α} {b : R α} (h : R.le (.ok a) b) : b = .ok a := by
  rcases h with h | h
  · cases h
  · exact h.symm
theorem thn_le {α β : Type} {r1 r2 : R (α × Nat)} {k1 k2 : α → Nat → R (β × Nat)} (h : R.le r1 r2) (hk : ∀ a c, R.le (k1 a c) (k2 a c)) : R.le (r1.thn k1) (r2.thn k2) := by
  rcases h with rfl | rfl
  · exact .bad
  · cases r1 with
    | ok p => exact hk p.1 p.2
    | exn k c0 => exact .refl
    | bad => exact .refl
def CalLe (ns1 ns2 : List Int) (c1 c2 : Callee) : Prop := c1.tw = c2.tw ∧ ∀ ds c, R.le (c1.F ns1 ds c) (c2.F ns2 ds c)
inductive CalsLe (ns1 ns2 : List Int) : List Callee → List Callee → Prop
  | nil : CalsLe ns1 ns2 [] []
  | cons {c1 c2 : Callee} {l1 l2 : List Callee} : CalLe ns1 ns2 c1 c2 → CalsLe ns1 ns2 l1 l2 → CalsLe ns1 ns2 (c1 :: l1) (c2 :: l2)
theorem CalsLe.get {ns1 ns2 : List Int} : ∀ {l1 l2 : List Callee}, CalsLe ns1 ns2 l1 l2 → ∀ i : Nat, (l1[i]? = none ∧ l2[i]? = none) ∨ ∃ c1 c2, l1[i]? = some c1 ∧ l2[i]? = some c2 ∧ CalLe ns1 ns2 c1 c2
  | _, _, .nil, i => .inl ⟨by simp, by simp⟩
  | _, _, .cons h t, 0 => .inr ⟨_, _, rfl, rfl, h⟩
  | _, _, .cons h t, i + 1 => by
    rw [List.getElem?_cons_succ, List.getElem?_cons_succ]
    exact t.get i
theorem compL_le {tg : Tg} {env : En} {tt1 tt2 te1 te2 : En → Nat → R (D × Nat)} (ht : ∀ env c, R.le (tt1 env c) (tt2 env c)) (he : ∀ env c, R.le (te1 env c) (te2 env c)) : ∀ (xs acc : List D) (c : Nat), R.le (compL tg env tt1 te1 xs acc c) (compL tg env tt2 te2 xs acc c)
  | [], acc, c => .refl
  | x :: xs, acc, c => by
    simp only [compL]
    cases asgT tg x env with
    | none => exact .refl
    | some env1 =>
      simp only
      rcases ht env1 c with h | h
      · rw [h]; exact .bad
      · rw [h]
        cases tt2 env1 c with
        | exn k c0 => exact .refl
        | bad => exact .refl
        | ok p =>
          obtain ⟨d, c1⟩ := p
          cases d with
          | bool b =>
            cases b with
            | false => exact compL_le ht he xs acc c1
            | true =>
              simp only
              rcases he env1 c1 with h | h
              · rw [h]; exact .bad
              · rw [h]
                cases te2 env1 c1 with
                | ok p => exact compL_le ht he xs _ _
                | exn k c0 => exact .refl
                | bad => exact .refl
          | _ => exact .refl
section
variable {ns1 ns2 : List Int} {Φ1 Φ2 : List Callee} {gv : List D}
mutual
theorem evE_le (hΦ : CalsLe ns1 ns2 Φ1 Φ2) : ∀ (x : Ex) (env : En) (c : Nat), R.le (evE ns1 Φ1 gv x env c) (evE ns2 Φ2 gv x env c)
  | .var i, env, c => by rw [evE, evE]; exact .refl
  | .con d, env, c => by rw [evE, evE]; exact .refl
  | .glb g, env, c => by rw [evE, evE]; exact .refl
  | .bin o a b, env, c => by rw [evE, evE]; exact thn_le (evE_le hΦ a env c) fun _ c => thn_le (evE_le hΦ b env c) fun _ _ => .refl
  | .neg a, env, c => by rw [evE, evE]; exact thn_le (evE_le hΦ a env c) fun _ c => .refl
  | .cmp o a b, env, c => by rw [evE, evE]; exact thn_le (evE_le hΦ a env c) fun _ c => thn_le (evE_le hΦ b env c) fun _ _ => .refl
  | .isc n a d, env, c => by rw [evE, evE]; exact thn_le (evE_le hΦ a env c) fun _ c => .refl
  | .chn a b e, env, c => by
    rw [evE, evE]
    refine thn_le (evE_le hΦ a env c) fun x c => thn_le (evE_le hΦ b env c) fun y c => ?_
    cases x <;> cases y <;> first
      | exact .refl
      | (simp only; split <;> first | exact .refl | exact thn_le (evE_le hΦ e env c) fun _ _ => .refl)
  | .and a b, env, c => by
    rw [evE, evE]
    refine thn_le (evE_le hΦ a env c) fun x c => ?_
    cases x with
    | bool k => cases k with
      | true => exact evE_le hΦ b env c
      | false => exact .refl
    | _ => exact .refl
  | .or a b, env, c => by
    rw [evE, evE]
    refine thn_le (evE_le hΦ a env c) fun x c => ?_
    cases x with
    | bool k => cases k with
      | false => exact evE_le hΦ b env c
      | true => exact .refl
    | _ => exact .refl
  | .not a, env, c => by rw [evE, evE]; exact thn_le (evE_le hΦ a env c) fun _ c => .refl
  | .ite t a b, env, c => by
    rw [evE, evE]
    refine thn_le (evE_le hΦ t env c) fun x c => ?_
    cases x with
    | bool k => cases k with
      | true => exact evE_le hΦ a env c
      | false => exact evE_le hΦ b env c
    | _ => exact .refl
  | .tup es, env, c => by rw [evE, evE]; exact thn_le (evA_le hΦ es env c) fun _ c => .refl
  | .lst es, env, c => by rw [evE, evE]; exact thn_le (evA_le hΦ es env c) fun _ c => .refl
  | .dct ks vs, env, c => by rw [evE, evE]; exact thn_le (evA_le hΦ ks env c) fun _ c => thn_le (evA_le hΦ vs env c) fun _ _ => .refl
  | .idx a i, env, c => by rw [evE, evE]; exact thn_le (evE_le hΦ a env c) fun _ c => thn_le (evE_le hΦ i env c) fun _ _ => .refl
  | .slc a lo hi, env, c => by
    rw [evE, evE]
    refine thn_le (evE_le hΦ a env c) fun x c => thn_le (evO_le hΦ lo env c) fun l c => ?_
    cases oiD l with
    | none => exact .refl
    | some l => exact thn_le (evO_le hΦ hi env c) fun _ _ => .refl
  | .rev a, env, c => by rw [evE, evE]; exact thn_le (evE_le hΦ a env c) fun _ c => .refl
  | .call f es, env, c => by
    rw [evE, evE]
    refine thn_le (evA_le hΦ es env c) fun ds c => ?_
    rcases hΦ.get f with ⟨h1, h2⟩ | ⟨c1, c2, h1, h2, h3, h4⟩
    · rw [h1, h2]; exact .refl
    · rw [h1, h2]
      simp only [h3]
      split
      · exact .refl
      · exact h4 ds c
  | .callT f es, env, c => by
    rw [evE, evE]
    split
    · refine thn_le (evA_le hΦ es env c) fun ds c => ?_
      rcases hΦ.get f with ⟨h1, h2⟩ | ⟨c1, c2, h1, h2, h3, h4⟩
      · rw [h1, h2]; exact .refl
      · rw [h1, h2]
        simp only [h3]
        split
        · exact h4 ds c
        · exact .refl
    · exact .refl
  | .prim p es, env, c => by rw [evE, evE]; exact thn_le (evA_le hΦ es env c) fun _ c => .refl
  | .mk f es, env, c => by
    rw [evE, evE]
    refine thn_le (evA_le hΦ es env c) fun ds c => ?_
    rcases hΦ.get f with ⟨h1, h2⟩ | ⟨c1, c2, h1, h2, h3, h4⟩
    · rw [h1, h2]; exact .refl
    · rw [h1, h2]
      simp only [h3]
      split
      · exact .refl
      · rcases h4 ds c with z | z
        · rw [z]; exact .bad
        · rw [z]; exact .refl
  | .callB f i es, env, c => by
    rw [evE, evE]
    split
    · refine thn_le (evA_le hΦ es env c) fun ds c => ?_
      rcases hΦ.get f with ⟨h1, h2⟩ | ⟨c1, c2, h1, h2, h3, h4⟩
      · rw [h1, h2]; exact .refl
      · rw [h1, h2]
        simp only [h3]
        split
        · exact .refl
        · rcases h4 (_ :: ds) c with z | z
          · rw [z]; exact .bad
          · rw [z]; exact .refl
    · exact .refl
  | .callL fs i es, env, c => by
    rw [evE, evE]
    refine thn_le (evE_le hΦ i env c) fun x c => ?_
    cases x with
    | int j =>
      simp only
      cases atI fs j with
      | none => exact .refl
      | some f =>
        refine thn_le (evA_le hΦ es env c) fun ds c => ?_
        rcases hΦ.get f with ⟨h1, h2⟩ | ⟨c1, c2, h1, h2, h3, h4⟩
        · rw [h1, h2]; exact .refl
        · rw [h1, h2]
          simp only [h3]
          split
          · exact .refl
          · exact h4 ds c
    | _ => exact .refl
  | .mth p a es, env, c => by
    rw [evE, evE]
    refine thn_le (evE_le hΦ a env c) fun x c => ?_
    split
    · exact thn_le (evA_le hΦ es env c) fun _ _ => .refl
    · exact .refl
  | .isi t a, env, c => by rw [evE, evE]; exact thn_le (evE_le hΦ a env c) fun _ c => .refl
  | .inO n a i, env, c => by rw [evE, evE]; exact thn_le (evE_le hΦ a env c) fun _ c => .refl
  | .eqO n i b, env, c => by
    rw [evE, evE]
    split
    · exact thn_le (evE_le hΦ b env c) fun _ c => .refl
    · exact thn_le (evE_le hΦ b env c) fun _ c => .refl
    · exact .refl
  | .idxO i e, env, c => by
    rw [evE, evE]
    split
    · exact thn_le (evE_le hΦ e env c) fun _ c => .refl
    · exact thn_le (evE_le hΦ e env c) fun _ c => .refl
    · exact .refl
  | .getO i k v, env, c => by
    rw [evE, evE]
    split
    · exact thn_le (evE_le hΦ k env c) fun _ c => thn_le (evE_le hΦ v env c) fun _ _ => .refl
    · exact .refl
  | .comp vs tg it ifs elt, env, c => by
    rw [evE, evE]
    exact thn_le (evI_le hΦ it env c) fun xs c => thn_le (compL_le (fun env c => thn_le (evO_le hΦ ifs env c) fun _ _ => .refl) (fun env c => evE_le hΦ elt env c) xs [] c) fun _ _ => .refl
theorem evA_le (hΦ : CalsLe ns1 ns2 Φ1 Φ2) : ∀ (x : Exs) (env : En) (c : Nat), R.le (evA ns1 Φ1 gv x env c) (evA ns2 Φ2 gv x env c)
  | .nil, env, c => by rw [evA, evA]; exact .refl
  | .cons e es, env, c => by rw [evA, evA]; exact thn_le (evE_le hΦ e env c) fun _ c => thn_le (evA_le hΦ es env c) fun _ _ => .refl
theorem evO_le (hΦ : CalsLe ns1 ns2 Φ1 Φ2) : ∀ (x : Exo) (env : En) (c : Nat), R.le (evO ns1 Φ1 gv x env c) (evO ns2 Φ2 gv x env c)
  | .none, env, c => by rw [evO, evO]; exact .refl
  | .some e, env, c => by rw [evO, evO]; exact thn_le (evE_le hΦ e env c) fun _ c => .refl
theorem evI_le (hΦ : CalsLe ns1 ns2 Φ1 Φ2) : ∀ (x : Itx) (env : En) (c : Nat), R.le (evI ns1 Φ1 gv x env c) (evI ns2 Φ2 gv x env c)
  | .seq e, env, c => by rw [evI, evI]; exact thn_le (evE_le hΦ e env c) fun _ c => .refl
  | .rng1 e, env, c => by rw [evI, evI]; exact thn_le (evE_le hΦ e env c) fun _ c => .refl
  | .rng2 a b, env, c => by rw [evI, evI]; exact thn_le (evE_le hΦ a env c) fun _ c => thn_le (evE_le hΦ b env c) fun _ _ => .refl
  | .rng3 a b, env, c => by rw [evI, evI]; exact thn_le (evE_le hΦ a env c) fun _ c => thn_le (evE_le hΦ b env c) fun _ _ => .refl
  | .zip a b, env, c => by rw [evI, evI]; exact thn_le (evE_le hΦ a env c) fun _ c => thn_le (evE_le hΦ b env c) fun _ _ => .refl
  | .enm e, env, c => by rw [evI, evI]; exact thn_le (evE_le hΦ e env c) fun _ c => .refl
end
theorem forL_le {tg : Tg} {b1 b2 : En → Nat → R (Fl × Nat)} (hb : ∀ env c, R.le (b1 env c) (b2 env c)) : ∀ (xs : List D) (env : En) (c : Nat), R.le (forL tg b1 xs env c) (forL tg b2 xs env c)
  | [], env, c => .refl
  | x :: xs, env, c => by
    simp only [forL]
    cases asgT tg x env with
    | none => exact .refl
    | some env1 =>
      simp only
      rcases hb env1 c with h | h
      · rw [h]; exact .bad
      · rw [h]
        match b2 env1 c with
        | .ok (.next env2, c2) => exact forL_le hb xs env2 c2
        | .ok (.ret d, c2) => exact .refl
        | .exn k c0 => exact .refl
        | .bad => exact .refl
theorem whlL_le {t1 t2 : En → Nat → R (D × Nat)} {b1 b2 : En → Nat → R (Fl × Nat)} (ht : ∀ env c, R.le (t1 env c) (t2 env c)) (hb : ∀ env c, R.le (b1 env c) (b2 env c)) : ∀ (n : Nat) (env : En) (c : Nat), R.le (whlL t1 b1 n env c) (whlL t2 b2 n env c)
  | 0, env, c => .refl
  | n + 1, env, c => by
    simp only [whlL]
    rcases ht env c with h | h
    · rw [h]; exact .bad
    · rw [h]
      cases t2 env c with
      | exn k c0 => exact .refl
      | bad => exact .refl
      | ok p =>
        obtain ⟨d, c1⟩ := p
        cases d with
        | bool k =>
          cases k with
          | false => exact .refl
          | true =>
            simp only
            rcases hb env c1 with h | h
            · rw [h]; exact .bad
            · rw [h]
              match b2 env c1 with
              | .ok (.next env2, c2) => exact whlL_le ht hb n env2 c2
              | .ok (.ret d, c2) => exact .refl
              | .exn k c0 => exact .refl
              | .bad => exact .refl
        | _ => exact .refl
theorem sprL_le {tg : Tg} {j : Nat} {b1 b2 : En → Nat → R (D × Nat)} (hb : ∀ env c, R.le (b1 env c) (b2 env c)) : ∀ (xs : List D) (env : En) (acc : List (Int × Int)) (c : Nat), R.le (sprL tg j b1 xs env acc c) (sprL tg j b2 xs env acc c)
  | [], env, acc, c => .refl
  | x :: xs, env, acc, c => by
    simp only [sprL]
    cases asgT tg x env with
    | none => exact .refl
    | some env1 =>
      simp only
      rcases hb env1 c with h | h
      · rw [h]; exact .bad
      · rw [h]
        cases b2 env1 c with
        | exn k c0 => exact .refl
        | bad => exact .refl
        | ok p =>
          obtain ⟨d, c1⟩ := p
          cases d with
          | int k =>
            simp only
            split
            · exact sprL_le hb xs _ _ _
            · exact .refl
          | _ => exact .refl
mutual
theorem exS_le (hΦ : CalsLe ns1 ns2 Φ1 Φ2) : ∀ (x : Sm) (env : En) (c : Nat), R.le (exS ns1 Φ1 gv x env c) (exS ns2 Φ2 gv x env c)
  | .asg i e, env, c => by rw [exS, exS]; exact thn_le (evE_le hΦ e env c) fun _ _ => .refl
  | .new i e, env, c => by rw [exS, exS]; exact thn_le (evE_le hΦ e env c) fun _ _ => .refl
  | .shr i, env, c => by rw [exS, exS]; exact .refl
  | .app i e, env, c => by
    rw [exS, exS]
    split
    · exact thn_le (evE_le hΦ e env c) fun _ _ => .refl
    · exact .refl
  | .ext i e, env, c => by
    rw [exS, exS]
    split
    · exact thn_le (evE_le hΦ e env c) fun _ _ => .refl
    · exact .refl
  | .put i k v, env, c => by
    rw [exS, exS]
    split
    · exact thn_le (evE_le hΦ v env c) fun _ c => thn_le (evE_le hΦ k env c) fun _ _ => .refl
    · exact .refl
  | .unp is e, env, c => by rw [exS, exS]; exact thn_le (evE_le hΦ e env c) fun _ _ => .refl
  | .par is es, env, c => by rw [exS, exS]; exact thn_le (evA_le hΦ es env c) fun _ _ => .refl
  | .aug i o e, env, c => by
    rw [exS, exS]
    split
    · exact thn_le (evE_le hΦ e env c) fun _ _ => .refl
    · exact .refl
  | .ife t a b, env, c => by
    rw [exS, exS]
    refine thn_le (evE_le hΦ t env c) fun x c => ?_
    cases x with
    | bool k => cases k with
      | true => exact exSs_le hΦ a env c
      | false => exact exSs_le hΦ b env c
    | _ => exact .refl
  | .for' tg it b, env, c => by rw [exS, exS]; exact thn_le (evI_le hΦ it env c) fun xs c => forL_le (fun env c => exSs_le hΦ b env c) xs env c
  | .whl n t b, env, c => by rw [exS, exS]; exact whlL_le (fun env c => evE_le hΦ t env c) (fun env c => exSs_le hΦ b env c) n env c
  | .ret e, env, c => by rw [exS, exS]; exact thn_le (evE_le hΦ e env c) fun _ _ => .refl
  | .exp e, env, c => by rw [exS, exS]; exact thn_le (evE_le hΦ e env c) fun _ _ => .refl
  | .rse k, env, c => by rw [exS, exS]; exact .refl
  | .nop, env, c => by rw [exS, exS]; exact .refl
  | .tryW i ov b, env, c => by
    rw [exS, exS]
    rcases exSs_le hΦ b env c with h | h
    · rw [h]; exact .bad
    · rw [h]; exact .refl
  | .retL j fs i es, env, c => by
    rw [exS, exS]
    split
    · exact thn_le (evE_le hΦ (.callL fs i es) _ c) fun _ _ => .refl
    · exact .refl
  | .hole, env, c => by rw [exS, exS]; exact .refl
  | .forP tg f i b, env, c => by
    rw [exS, exS]
    unfold forPR
    split
    · rename_i ds _
      cases ds.getLast? with
      | none => exact .refl
      | some x =>
        rcases hΦ.get f with ⟨h1, h2⟩ | ⟨c1, c2, h1, h2, h3, h4⟩
        · rw [h1, h2]; exact .refl
        · rw [h1, h2]
          simp only [h3]
          split
          · exact .refl
          · rcases h4 [x] c with z | z
            · rw [z]; exact .bad
            · rw [z]
              match c2.F ns2 [x] c with
              | .ok (d, c5) =>
                cases d with
                | list xs => exact forL_le (fun env c => exSs_le hΦ b env c) xs _ _
                | _ => exact .refl
              | .exn k c0 => exact .refl
              | .bad => exact .refl
    · exact .refl
  | .spr i j tg it e, env, c => by
    rw [exS, exS]
    unfold sprR
    split
    · exact thn_le (evI_le hΦ it _ c) fun xs c => thn_le (sprL_le (fun env c => evE_le hΦ e env c) xs _ _ c) fun _ _ => .refl
    · exact .refl
theorem exSs_le (hΦ : CalsLe ns1 ns2 Φ1 Φ2) : ∀ (x : Sms) (env : En) (c : Nat), R.le (exSs ns1 Φ1 gv x env c) (exSs ns2 Φ2 gv x env c)
  | .nil, env, c => by rw [exSs, exSs]; exact .refl
  | .cons s r, env, c => by
    rw [exSs, exSs]
    rcases exS_le hΦ s env c with h | h
    · rw [h]; exact .bad
    · rw [h]
      match exS ns2 Φ2 gv s env c with
      | .ok (.next env2, c2) => exact exSs_le hΦ r env2 c2
      | .ok (.ret d, c2) => exact .refl
      | .exn k c0 => exact .refl
      | .bad => exact .refl
end
theorem runD_le {tw : Bool} {n N : Nat} {body : Sms} (hΦ : CalsLe ns1 ns2 Φ1 Φ2) : CalLe ns1 ns2 ⟨tw, runD Φ1 gv tw n N body⟩ ⟨tw, runD Φ2 gv tw n N body⟩ := by
  refine ⟨rfl, fun ds c => ?_⟩
  show R.le (runD Φ1 gv tw n N body ns1 ds c) (runD Φ2 gv tw n N body ns2 ds c)
  unfold runD
  split
  · rcases exSs_le (gv := gv) hΦ body (startE tw N ds) c with h | h
    · rw [h]; exact .bad
    · rw [h]; exact .refl
  · exact .refl
end
/-- draws that are known: of how many, which -/
def drawG : List Int → List D → Nat → R (D × Nat) := fun ks ds c => match ds with
  | [.int m] => (match ks[2 * c]?, ks[2 * c + 1]? with
    | some a, some v => if a = m then .ok (.int v, c + 1) else .bad
    | _, _ => .bad)
  | _ => .bad
/-- the draws of the script are these, from the first on -/
def Drawn (ns : List Int) : Nat → List Int → Prop
  | c, m :: v :: r => 0 < m ∧ c < LIM ∧ mixedAt ns (c + 1) m = v ∧ Drawn ns (c + 1) r
  | _, _ => True
theorem Drawn.get {ns : List Int} : ∀ {c : Nat} {ks : List Int} (j : Nat) {m v : Int}, Drawn ns c ks → ks[2 * j]? = some m → ks[2 * j + 1]? = some v → 0 < m ∧ c + j < LIM ∧ mixedAt ns (c + j + 1) m = v
  | c, [], j, m, v, _, h, _ => by simp at h
  | c, [_], 0, m, v, _, _, h => by simp at h
  | c, [_], j + 1, m, v, _, h, _ => by simp [Nat.mul_add] at h
  | c, a :: b :: r, 0, m, v, d, h, h' => by
    cases h
    cases h'
    exact ⟨d.1, d.2.1, d.2.2.1⟩
  | c, a :: b :: r, j + 1, m, v, d, h, h' => by
    have e1 : 2 * (j + 1) = 2 * j + 1 + 1 := by omega
    have e2 : 2 * (j + 1) + 1 = 2 * j + 1 + 1 + 1 := by omega
    rw [e1, List.getElem?_cons_succ, List.getElem?_cons_succ] at h
    rw [e2, List.getElem?_cons_succ, List.getElem?_cons_succ] at h'
    have := Drawn.get j d.2.2.2 h h'
    rw [show c + 1 + j = c + (j + 1) by omega] at this
    exact this
theorem drawG_le {ns ks : List Int} (h : Drawn ns 0 ks) : CalLe ks ns ⟨true, drawG⟩ ⟨true, drawF⟩ := by
  refine ⟨rfl, fun ds c => ?_⟩
  show R.le (drawG ks ds c) (drawF ns ds c)
  unfold drawG drawF
  split
  · rename_i m
    split
    · rename_i a v h1 h2
      split
      · rename_i e
        subst e
        obtain ⟨g1, g2, g3⟩ := h.get c h1 h2
        rw [Nat.zero_add] at g2 g3
        show R.le _ (if 0 < a ∧ c < LIM then R.ok (PyData.int (mixedAt ns (c + 1) a), c + 1) else R.bad)
        rw [if_pos ⟨g1, g2⟩, g3]
        exact .refl
      · exact .bad
    · exact .bad
  · exact .bad
theorem mixed_bound {ns : List Int} {c : Nat} {m : Int} (h : 0 < m) : 0 ≤ mixedAt ns c m ∧ mixedAt ns c m < m := by
  unfold mixedAt
  exact ⟨Int.emod_nonneg _ (by omega), Int.emod_lt_of_pos _ h⟩
/-! ### a block in two parts -/
def Sms.take : Nat → Sms → Sms
  | 0, _ => .nil
  | _, .nil => .nil
  | k + 1, .cons s r => .cons s (r.take k)
def Sms.drop : Nat → Sms → Sms
  | 0, x => x
  | _, .nil => .nil
  | k + 1, .cons _ r => r.drop k
theorem exSs_split {ns : List Int} {Φ : List Callee} {gv : List D} : ∀ (k : Nat) (x : Sms) (env : En) (c : Nat) {env1 : En} {c1 : Nat}, exSs ns Φ gv (x.take k) env c = .ok (.next env1, c1) → exSs ns Φ gv x env c = exSs ns Φ gv (x.drop k) env1 c1
  | 0, x, env, c, env1, c1, h => by
    unfold Sms.take at h
    rw [exSs] at h
    cases h
    cases x <;> rfl
  | k + 1, .nil, env, c, env1, c1, h => by
    unfold Sms.take at h
    rw [exSs] at h
    cases h
    rfl
  | k + 1, .cons s r, env, c, env1, c1, h => by
    rw [show (Sms.cons s r).take (k + 1) = .cons s (r.take k) from rfl, exSs] at h
    rw [show (Sms.cons s r).drop (k + 1) = r.drop k from rfl, exSs]
    match e : exS ns Φ gv s env c with
    | .ok (.next env2, c2) => rw [e] at h; exact exSs_split k r env2 c2 h
    | .ok (.ret d, c2) => rw [e] at h; cases h
    | .exn q c0 => rw [e] at h; cases h
    | .bad => rw [e] at h; cases h
def yes : R (Fl × Nat) → Bool
  | .ok (.ret (.bool true), _) => true
  | _ => false
theorem yes_ok {r : R (Fl × Nat)} (h : yes r = true) : ∃ c, r = .ok (.ret (.bool true), c) := by
  match r, h with
  | .ok (.ret (.bool true), c), _ => exact ⟨c, rfl⟩
/-- the rest of a law, over the script -/
def Ends1 (ns : List Int) (Φ : List Callee) (gv : List D) (x : Sms) (env : En) (c : Nat) : Prop := ∃ c', exSs ns Φ gv x env c = .ok (.ret (.bool true), c')
theorem Ends1.yes {ns ks : List Int} {Φ1 Φ2 : List Callee} {gv : List D} {x : Sms} {env : En} {c : Nat} (hle : CalsLe ks ns Φ1 Φ2) (h : LG.yes (exSs ks Φ1 gv x env c) = true) : Ends1 ns Φ2 gv x env c := by
  obtain ⟨c', e⟩ := yes_ok h
  have := exSs_le (gv := gv) hle x env c
  rw [e] at this
  exact ⟨c', this.ok⟩
theorem Ends1.step {ns ks : List Int} {Φ1 Φ2 : List Callee} {gv : List D} {x : Sms} {env env1 : En} {c c1 : Nat} (k : Nat) (hle : CalsLe ks ns Φ1 Φ2) (h : exSs ks Φ1 gv (x.take k) env c = .ok (.next env1, c1)) (r : Ends1 ns Φ2 gv (x.drop k) env1 c1) : Ends1 ns Φ2 gv x env c := by
  have := exSs_le (gv := gv) hle (x.take k) env c
  rw [h] at this
  obtain ⟨c', e⟩ := r
  exact ⟨c', (exSs_split k x env c this.ok).trans e⟩
theorem Ends1.law {ns : List Int} {Φ : List Callee} {gv : List D} {x : Sms} {N : Nat} (h : Ends1 ns Φ gv x (startE true N []) 0) : ∃ c, runD Φ gv true 0 N x ns [] 0 = .ok (.bool true, c) := by
  obtain ⟨c, e⟩ := h
  refine ⟨c, ?_⟩
  unfold runD
  rw [if_pos (show ([] : List D).length = 0 from rfl), e]
end LG

/-! LgW: points, triangles, tables: plain facts. -/
namespace LG
open PySem PySem.Spec PyProof.Rows L2

def ptD (q : Int × Int × Int) : D := .tuple [.int q.1, .int q.2.1, .int q.2.2]
def ptsI (n : Nat) : List (Int × Int × Int) := (List.range (n + 1)).flatMap fun (i : Nat) => (List.range (n - i + 1)).map fun (j : Nat) => ((i : Int), (j : Int), ((n - i - j : Nat) : Int))
def ptsD (n : Nat) : List D := (ptsI n).map ptD
def cellsI : Nat → List (Nat × Nat × Nat)
  | 1 => [(0, 1, 2)]
  | 2 => [(0, 1, 3), (1, 2, 4), (1, 3, 4), (3, 4, 5)]
  | 3 => [(0, 1, 4), (1, 2, 5), (1, 4, 5), (2, 3, 6), (2, 5, 6), (4, 5, 7), (5, 6, 8), (5, 7, 8), (7, 8, 9)]
  | 4 => [(0, 1, 5), (1, 2, 6), (1, 5, 6), (2, 3, 7), (2, 6, 7), (3, 4, 8), (3, 7, 8), (5, 6, 9), (6, 7, 10), (6, 9, 10), (7, 8, 11), (7, 10, 11), (9, 10, 12), (10, 11, 13), (10, 12, 13), (12, 13, 14)]
  | 5 => [(0, 1, 6), (1, 2, 7), (1, 6, 7), (2, 3, 8), (2, 7, 8), (3, 4, 9), (3, 8, 9), (4, 5, 10), (4, 9, 10), (6, 7, 11), (7, 8, 12), (7, 11, 12), (8, 9, 13), (8, 12, 13), (9, 10, 14), (9, 13, 14), (11, 12, 15), (12, 13, 16), (12, 15, 16), (13, 14, 17), (13, 16, 17), (15, 16, 18), (16, 17, 19), (16, 18, 19), (18, 19, 20)]
  | 6 => [(0, 1, 7), (1, 2, 8), (1, 7, 8), (2, 3, 9), (2, 8, 9), (3, 4, 10), (3, 9, 10), (4, 5, 11), (4, 10, 11), (5, 6, 12), (5, 11, 12), (7, 8, 13), (8, 9, 14), (8, 13, 14), (9, 10, 15), (9, 14, 15), (10, 11, 16), (10, 15, 16), (11, 12, 17), (11, 16, 17), (13, 14, 18), (14, 15, 19), (14, 18, 19), (15, 16, 20), (15, 19, 20), (16, 17, 21), (16, 20, 21), (18, 19, 22), (19, 20, 23), (19, 22, 23), (20, 21, 24), (20, 23, 24), (22, 23, 25), (23, 24, 26), (23, 25, 26), (25, 26, 27)]
  | _ => []
def roundI : Nat → List Nat
  | 1 => [2, 1, 0]
  | 2 => [5, 4, 2, 1, 0, 3]
  | 3 => [9, 8, 6, 3, 2, 1, 0, 4, 7]
  | 4 => [14, 13, 11, 8, 4, 3, 2, 1, 0, 5, 9, 12]
  | 5 => [20, 19, 17, 14, 10, 5, 4, 3, 2, 1, 0, 6, 11, 15, 18]
  | 6 => [27, 26, 24, 21, 17, 12, 6, 5, 4, 3, 2, 1, 0, 7, 13, 18, 22, 25]
  | _ => []
def pD (n j : Nat) : D := (ptsD n).getD j .none
def cellD (n : Nat) (t : Nat × Nat × Nat) : D := .tuple [pD n t.1, pD n t.2.1, pD n t.2.2]
def cellsD (n : Nat) : List D := (cellsI n).map (cellD n)
def roundD (n : Nat) : List D := (roundI n).map (pD n)
/-! ### tables -/
def keyI (q : Int × Int × Int) : NestedKey := .tup [.num q.1, .num q.2.1, .num q.2.2]
theorem nk_pt (q : Int × Int × Int) : nk (ptD q) = some (keyI q) := by
  simp [nk, ptD, nkE, nkA, keyI, NestedKey.depth, NestedKey.depthAll]
theorem kq_pt (q r : Int × Int × Int) : kq (ptD q) (keyI r) = decide (q = r) := by
  rw [kq_nk (nk_pt q)]
  obtain ⟨a, b, c⟩ := q
  obtain ⟨x, y, z⟩ := r
  simp [keyI]
def tabD (n : Nat) (vs : List D) : List (D × D) := (ptsD n).zip vs
theorem dGet_zip : ∀ {ps : List (Int × Int × Int)} {vs : List D}, ps.Nodup → ∀ {j : Nat} {q : Int × Int × Int} {v : D}, ps[j]? = some q → vs[j]? = some v → dGet ((ps.map ptD).zip vs) (keyI q) = some v
  | [], _, _, j, q, v, h, _ => by simp at h
  | p :: ps, [], _, j, q, v, _, h => by simp at h
  | p :: ps, u :: vs, nd, 0, q, v, h, h' => by
    cases h
    cases h'
    unfold dGet
    rw [List.map_cons, List.zip_cons_cons, List.find?_cons_of_pos (by simp [kq_pt])]
    rfl
  | p :: ps, u :: vs, nd, j + 1, q, v, h, h' => by
    rw [List.getElem?_cons_succ] at h h'
    rw [List.nodup_cons] at nd
    have ne : p ≠ q := fun z => nd.1 (z ▸ List.mem_of_getElem? h)
    have ih := dGet_zip nd.2 h h'
    unfold dGet at ih ⊢
    rw [List.map_cons, List.zip_cons_cons, List.find?_cons_of_neg (by simp [kq_pt, ne])]
    exact ih
theorem dGet_none : ∀ {ps : List (Int × Int × Int)} {vs : List D} {q : Int × Int × Int}, q ∉ ps → dGet ((ps.map ptD).zip vs) (keyI q) = none
  | [], _, q, h => rfl
  | p :: ps, [], q, h => rfl
  | p :: ps, u :: vs, q, h => by
    rw [List.mem_cons, not_or] at h
    have ih := dGet_none (vs := vs) h.2
    unfold dGet at ih ⊢
    rw [List.map_cons, List.zip_cons_cons, List.find?_cons_of_neg (by simp [kq_pt, Ne.symm h.1])]
    exact ih
theorem zip_snoc {α β : Type} : ∀ {xs : List α} {ys : List β} {x : α} {y : β}, xs.length = ys.length → (xs ++ [x]).zip (ys ++ [y]) = xs.zip ys ++ [(x, y)]
  | [], [], _, _, _ => rfl
  | a :: xs, b :: ys, x, y, h => by
    have h' : xs.length = ys.length := by simpa using h
    rw [List.cons_append, List.cons_append, List.zip_cons_cons, List.zip_cons_cons, zip_snoc h', List.cons_append]
/-- one more pair -/
theorem dPut_snoc {ps : List (Int × Int × Int)} {vs : List D} {q : Int × Int × Int} {v : D} (h : q ∉ ps) (hl : ps.length = vs.length) : dPut ((ps.map ptD).zip vs) (ptD q) (keyI q) v = ((ps ++ [q]).map ptD).zip (vs ++ [v]) := by
  unfold dPut
  rw [dGet_none h]
  rw [if_neg (by decide), List.map_append, List.map_cons, List.map_nil, zip_snoc (by rw [List.length_map]; exact hl)]
theorem merge_zip : ∀ (qs : List (Int × Int × Int)) (us : List D) (ps : List (Int × Int × Int)) (vs : List D), (ps ++ qs).Nodup → ps.length = vs.length → qs.length = us.length →
    mergeD ((ps.map ptD).zip vs) ((qs.map ptD).zip us) = ((ps ++ qs).map ptD).zip (vs ++ us)
  | [], [], ps, vs, _, _, _ => by simp [mergeD]
  | q :: qs, u :: us, ps, vs, nd, hl, hl' => by
    rw [List.map_cons, List.zip_cons_cons]
    unfold mergeD
    rw [nk_pt]
    simp only
    have hq : q ∉ ps := fun z => by
      rw [List.nodup_append] at nd
      exact nd.2.2 q z q List.mem_cons_self rfl
    rw [dPut_snoc hq hl, merge_zip qs us (ps ++ [q]) (vs ++ [u]) (by simpa using nd) (by simp [hl]) (by simpa using hl')]
    simp
/-! ### the sizes 1 to 6 -/
def okN (n : Nat) : Bool := decide (ptsI n).Nodup && decide ((ptsI n).length = (n + 1) * (n + 2) / 2) && (cellsI n).all fun t => decide (t.1 < t.2.1) && decide (t.2.1 < t.2.2) && decide (t.2.2 < (ptsI n).length)
theorem okN_all : [1, 2, 3, 4, 5, 6].all okN = true := by decide +kernel
theorem okN_of {n : Nat} (h : 1 ≤ n) (h' : n ≤ 6) : okN n = true := by
  have := List.all_eq_true.mp okN_all n
  refine this ?_
  have : n = 1 ∨ n = 2 ∨ n = 3 ∨ n = 4 ∨ n = 5 ∨ n = 6 := by omega
  rcases this with rfl | rfl | rfl | rfl | rfl | rfl <;> simp
theorem pts_nodup {n : Nat} (h : 1 ≤ n) (h' : n ≤ 6) : (ptsI n).Nodup := by
  have := okN_of h h'
  unfold okN at this
  simp only [Bool.and_eq_true, decide_eq_true_eq] at this
  exact this.1.1
/-- the table of a row -/
theorem tab_merge {n : Nat} (h : 1 ≤ n) (h' : n ≤ 6) {vs : List D} (hl : vs.length = (ptsI n).length) : mergeD [] ((ptsD n).zip vs) = tabD n vs := by
  have := merge_zip (ptsI n) vs [] [] (by simpa using pts_nodup h h') rfl hl.symm
  simpa [tabD, ptsD] using this
theorem tab_get {n : Nat} (h : 1 ≤ n) (h' : n ≤ 6) {vs : List D} {j : Nat} {v : D} (hj : j < (ptsI n).length) (hv : vs[j]? = some v) : idxD (.dict (tabD n vs)) (pD n j) = .ok v := by
  have e : (ptsI n)[j]? = some (ptsI n)[j] := List.getElem?_eq_getElem hj
  have ep : pD n j = ptD (ptsI n)[j] := by
    unfold pD ptsD
    rw [List.getD_eq_getElem?_getD, List.getElem?_map, e]
    rfl
  rw [ep]
  show (match nk (ptD (ptsI n)[j]) with | some κ => (match dGet (tabD n vs) κ with | some v => R.ok v | none => .bad) | none => .bad) = .ok v
  rw [nk_pt]
  simp only
  unfold tabD ptsD
  rw [dGet_zip (pts_nodup h h') e hv]
/-! ### loops of a comprehension -/
theorem compL_spec {tg : Tg} {env : En} {tt te : En → Nat → R (D × Nat)} {c : Nat} (p : D → Bool) (g : D → D) : ∀ (xs acc : List D), (∀ x ∈ xs, ∃ env1, asgT tg x env = some env1 ∧ tt env1 c = .ok (.bool (p x), c) ∧ (p x = true → te env1 c = .ok (g x, c))) →
    compL tg env tt te xs acc c = .ok (acc ++ (xs.filter p).map g, c)
  | [], acc, _ => by simp [compL]
  | x :: xs, acc, h => by
    obtain ⟨env1, h1, h2, h3⟩ := h x List.mem_cons_self
    have ih := fun acc => compL_spec p g xs acc fun y hy => h y (List.mem_cons_of_mem _ hy)
    simp only [compL, h1, h2]
    cases hp : p x with
    | true =>
      simp only [h3 hp]
      rw [ih, List.filter_cons_of_pos hp]
      simp
    | false =>
      simp only
      rw [ih, List.filter_cons_of_neg (by simp [hp])]
theorem compL_map {tg : Tg} {env : En} {tt te : En → Nat → R (D × Nat)} {c : Nat} (g : D → D) (xs : List D) (h : ∀ x ∈ xs, ∃ env1, asgT tg x env = some env1 ∧ tt env1 c = .ok (.bool true, c) ∧ te env1 c = .ok (g x, c)) :
    compL tg env tt te xs [] c = .ok (xs.map g, c) := by
  have := compL_spec (fun _ => true) g xs [] fun x hx => by
    obtain ⟨env1, h1, h2, h3⟩ := h x hx
    exact ⟨env1, h1, h2, fun _ => h3⟩
  rw [this, List.filter_eq_self.mpr fun _ _ => rfl]
  rfl
end LG

/-! LgX: the evaluator, one construct at a time (comprehensions and loops apart). -/
namespace LG
open PySem PySem.Spec PyProof.Rows L2
section
variable {ns : List Int} {Φ : List Callee} {gv : List D} {env : En} {c : Nat}
theorem ev_var {i : Nat} {d : D} (h : env[i]? = some (.val d)) : evE ns Φ gv (.var i) env c = .ok (d, c) := by rw [evE, h]
theorem ev_con {d : D} : evE ns Φ gv (.con d) env c = .ok (d, c) := by rw [evE]
theorem ev_bin {o : BinO} {a b : Ex} : evE ns Φ gv (.bin o a b) env c = (evE ns Φ gv a env c).thn fun x c => (evE ns Φ gv b env c).thn fun y c => (binD o x y).at c := by rw [evE]
theorem ev_neg {a : Ex} {i : Int} {c' : Nat} (h : evE ns Φ gv a env c = .ok (.int i, c')) : evE ns Φ gv (.neg a) env c = .ok (.int (-i), c') := by rw [evE, h]; rfl
theorem ev_cmp {o : CmpO} {a b : Ex} : evE ns Φ gv (.cmp o a b) env c = (evE ns Φ gv a env c).thn fun x c => (evE ns Φ gv b env c).thn fun y c => (boolR (cmpB o x y)).at c := by rw [evE]
theorem ev_and {a b : Ex} {k : Bool} {c' : Nat} (h : evE ns Φ gv a env c = .ok (.bool k, c')) : evE ns Φ gv (.and a b) env c = if k = true then evE ns Φ gv b env c' else .ok (.bool false, c') := by
  rw [evE, h]; cases k <;> rfl
theorem ev_or {a b : Ex} {k : Bool} {c' : Nat} (h : evE ns Φ gv a env c = .ok (.bool k, c')) : evE ns Φ gv (.or a b) env c = if k = true then .ok (.bool true, c') else evE ns Φ gv b env c' := by
  rw [evE, h]; cases k <;> rfl
theorem ev_not {a : Ex} {k : Bool} {c' : Nat} (h : evE ns Φ gv a env c = .ok (.bool k, c')) : evE ns Φ gv (.not a) env c = .ok (.bool !k, c') := by rw [evE, h]; rfl
theorem ev_ite {t a b : Ex} {k : Bool} {c' : Nat} (h : evE ns Φ gv t env c = .ok (.bool k, c')) : evE ns Φ gv (.ite t a b) env c = if k = true then evE ns Φ gv a env c' else evE ns Φ gv b env c' := by
  rw [evE, h]; cases k <;> rfl
theorem ev_call {f : Nat} {es : Exs} {ds : List D} {c' : Nat} {k : Callee} (h : evA ns Φ gv es env c = .ok (ds, c')) (hf : Φ[f]? = some k) (ht : k.tw = false) : evE ns Φ gv (.call f es) env c = k.F ns ds c' := by
  rw [evE, h]
  simp [hf, ht]
theorem ev_callT {f : Nat} {es : Exs} {ds : List D} {c' : Nat} {k : Callee} (h0 : env[0]? = some .scr) (h1 : env[1]? = some .town) (h : evA ns Φ gv es env c = .ok (ds, c')) (hf : Φ[f]? = some k) (ht : k.tw = true) : evE ns Φ gv (.callT f es) env c = k.F ns ds c' := by
  rw [evE, h0, h1, h]
  simp [hf, ht]
theorem ev_prim {p : Pr} {es : Exs} {ds : List D} {c' : Nat} (h : evA ns Φ gv es env c = .ok (ds, c')) : evE ns Φ gv (.prim p es) env c = (primD p ds).at c' := by rw [evE, h]; rfl
theorem ev_idx {a i : Ex} {x y : D} {c1 c2 : Nat} (h : evE ns Φ gv a env c = .ok (x, c1)) (h' : evE ns Φ gv i env c1 = .ok (y, c2)) : evE ns Φ gv (.idx a i) env c = (idxD x y).at c2 := by rw [evE, h]; show (evE ns Φ gv i env c1).thn _ = _; rw [h']; rfl
theorem ev_tup {es : Exs} {ds : List D} {c' : Nat} (h : evA ns Φ gv es env c = .ok (ds, c')) (hl : ds.length ≤ LIM) : evE ns Φ gv (.tup es) env c = .ok (.tuple ds, c') := by rw [evE, h]; show (if ds.length ≤ LIM then _ else _) = _; rw [if_pos hl]
theorem ev_lst {es : Exs} {ds : List D} {c' : Nat} (h : evA ns Φ gv es env c = .ok (ds, c')) (hl : ds.length ≤ LIM) : evE ns Φ gv (.lst es) env c = .ok (.list ds, c') := by rw [evE, h]; show (if ds.length ≤ LIM then _ else _) = _; rw [if_pos hl]
theorem ev_binV {o : BinO} {a b : Ex} {x y z : D} {c1 c2 : Nat} (h : evE ns Φ gv a env c = .ok (x, c1)) (h' : evE ns Φ gv b env c1 = .ok (y, c2)) (hz : binD o x y = .ok z) : evE ns Φ gv (.bin o a b) env c = .ok (z, c2) := by
  rw [ev_bin, h]; show (evE ns Φ gv b env c1).thn _ = _; rw [h']; show (binD o x y).at c2 = _; rw [hz]; rfl
theorem ev_cmpV {o : CmpO} {a b : Ex} {x y : D} {k : Bool} {c1 c2 : Nat} (h : evE ns Φ gv a env c = .ok (x, c1)) (h' : evE ns Φ gv b env c1 = .ok (y, c2)) (hz : cmpB o x y = .ok k) : evE ns Φ gv (.cmp o a b) env c = .ok (.bool k, c2) := by
  rw [ev_cmp, h]; show (evE ns Φ gv b env c1).thn _ = _; rw [h']; show (boolR (cmpB o x y)).at c2 = _; rw [hz]; rfl
theorem ev_primV {p : Pr} {es : Exs} {ds : List D} {d : D} {c' : Nat} (h : evA ns Φ gv es env c = .ok (ds, c')) (hp : primD p ds = .ok d) : evE ns Φ gv (.prim p es) env c = .ok (d, c') := by rw [ev_prim h, hp]; rfl
theorem ev_idxV {a i : Ex} {x y z : D} {c1 c2 : Nat} (h : evE ns Φ gv a env c = .ok (x, c1)) (h' : evE ns Φ gv i env c1 = .ok (y, c2)) (hz : idxD x y = .ok z) : evE ns Φ gv (.idx a i) env c = .ok (z, c2) := by rw [ev_idx h h', hz]; rfl
theorem ev_isi {t : Ty} {a : Ex} {x : D} {k : Bool} {c1 : Nat} (h : evE ns Φ gv a env c = .ok (x, c1)) (hz : isiD t x = .ok k) : evE ns Φ gv (.isi t a) env c = .ok (.bool k, c1) := by rw [evE, h]; show (boolR (isiD t x)).at c1 = _; rw [hz]; rfl
theorem ev_isc {neg : Bool} {a : Ex} {d x : D} {k : Bool} {c1 : Nat} (h : evE ns Φ gv a env c = .ok (x, c1)) (hz : isConst d x = .ok k) : evE ns Φ gv (.isc neg a d) env c = .ok (.bool (if neg then !k else k), c1) := by
  rw [evE, h]; simp [hz]
theorem ev_slc {a : Ex} {lo hi : Exo} {x z : D} {l h : Option D} {l' h' : Option Int} {c1 c2 c3 : Nat} (q : evE ns Φ gv a env c = .ok (x, c1)) (q1 : evO ns Φ gv lo env c1 = .ok (l, c2)) (e1 : oiD l = some l') (q2 : evO ns Φ gv hi env c2 = .ok (h, c3)) (e2 : oiD h = some h') (hz : slcD x l' h' = .ok z) : evE ns Φ gv (.slc a lo hi) env c = .ok (z, c3) := by
  rw [evE, q]; show (evO ns Φ gv lo env c1).thn _ = _; rw [q1]; simp only [R.thn_ok, e1]; rw [q2]; simp only [R.thn_ok, e2, hz]; rfl
theorem eo_none : evO ns Φ gv .none env c = .ok (none, c) := by rw [evO]
theorem eo_some {e : Ex} {d : D} {c1 : Nat} (h : evE ns Φ gv e env c = .ok (d, c1)) : evO ns Φ gv (.some e) env c = .ok (some d, c1) := by rw [evO, h]; rfl
theorem ev_callV {f : Nat} {es : Exs} {ds : List D} {c' : Nat} {k : Callee} {d : D} {c2 : Nat} (h : evA ns Φ gv es env c = .ok (ds, c')) (hf : Φ[f]? = some k) (ht : k.tw = false) (hF : k.F ns ds c' = .ok (d, c2)) : evE ns Φ gv (.call f es) env c = .ok (d, c2) := (ev_call h hf ht).trans hF
/-- the form to use: the callee's function is told -/
theorem ev_callF (F : List Int → List D → Nat → R (D × Nat)) {f : Nat} {es : Exs} {ds : List D} {c' : Nat} {d : D} {c2 : Nat} (h : evA ns Φ gv es env c = .ok (ds, c')) (hf : Φ[f]? = some ⟨false, F⟩) (hF : F ns ds c' = .ok (d, c2)) : evE ns Φ gv (.call f es) env c = .ok (d, c2) := (ev_call h hf rfl).trans hF
theorem ev_callTF (F : List Int → List D → Nat → R (D × Nat)) {f : Nat} {es : Exs} {ds : List D} {c' : Nat} {d : D} {c2 : Nat} (h0 : env[0]? = some .scr) (h1 : env[1]? = some .town) (h : evA ns Φ gv es env c = .ok (ds, c')) (hf : Φ[f]? = some ⟨true, F⟩) (hF : F ns ds c' = .ok (d, c2)) : evE ns Φ gv (.callT f es) env c = .ok (d, c2) := (ev_callT h0 h1 h hf rfl).trans hF
theorem ea_nil : evA ns Φ gv .nil env c = .ok ([], c) := by rw [evA]
theorem ea_cons {e : Ex} {es : Exs} {d : D} {ds : List D} {c1 c2 : Nat} (h : evE ns Φ gv e env c = .ok (d, c1)) (h' : evA ns Φ gv es env c1 = .ok (ds, c2)) : evA ns Φ gv (.cons e es) env c = .ok (d :: ds, c2) := by
  rw [evA, h]; show (evA ns Φ gv es env c1).thn _ = _; rw [h']; rfl
/-- a comprehension: filter, map -/
theorem ev_comp {vs : List Nat} {tg : Tg} {it : Itx} {ifs elt : Ex} {xs : List D} {c1 : Nat} (p : D → Bool) (g : D → D) (h : evI ns Φ gv it env c = .ok (xs, c1))
    (hx : ∀ x ∈ xs, ∃ env1, asgT tg x (wipeE env vs) = some env1 ∧ evE ns Φ gv ifs env1 c1 = .ok (.bool (p x), c1) ∧ (p x = true → evE ns Φ gv elt env1 c1 = .ok (g x, c1))) :
    evE ns Φ gv (.comp vs tg it (.some ifs) elt) env c = .ok (.list ((xs.filter p).map g), c1) := by
  rw [evE, h]
  show (compL tg (wipeE env vs) _ _ xs [] c1).thn _ = _
  rw [compL_spec p g xs [] fun x hx' => by
    obtain ⟨env1, h1, h2, h3⟩ := hx x hx'
    exact ⟨env1, h1, by rw [evO, h2]; rfl, h3⟩]
  simp
theorem ev_compM {vs : List Nat} {tg : Tg} {it : Itx} {elt : Ex} {xs : List D} {c1 : Nat} (g : D → D) (h : evI ns Φ gv it env c = .ok (xs, c1))
    (hx : ∀ x ∈ xs, ∃ env1, asgT tg x (wipeE env vs) = some env1 ∧ evE ns Φ gv elt env1 c1 = .ok (g x, c1)) :
    evE ns Φ gv (.comp vs tg it .none elt) env c = .ok (.list (xs.map g), c1) := by
  rw [evE, h]
  show (compL tg (wipeE env vs) _ _ xs [] c1).thn _ = _
  rw [compL_map g xs fun x hx' => by
    obtain ⟨env1, h1, h2⟩ := hx x hx'
    exact ⟨env1, h1, by rw [evO]; rfl, h2⟩]
  rfl
theorem ei_seq {e : Ex} {d : D} {ds : List D} {c' : Nat} (h : evE ns Φ gv e env c = .ok (d, c')) (hi : itemsD d = .ok ds) : evI ns Φ gv (.seq e) env c = .ok (ds, c') := by rw [evI, h]; show (itemsD d).at c' = _; rw [hi]; rfl
theorem ei_zip {a b : Ex} {x y : D} {ds : List D} {c1 c2 : Nat} (h : evE ns Φ gv a env c = .ok (x, c1)) (h' : evE ns Φ gv b env c1 = .ok (y, c2)) (hz : zipD x y = .ok ds) : evI ns Φ gv (.zip a b) env c = .ok (ds, c2) := by
  rw [evI, h]; show (evE ns Φ gv b env c1).thn _ = _; rw [h']; show (zipD x y).at c2 = _; rw [hz]; rfl
/-! statements -/
theorem xs_nil : exSs ns Φ gv .nil env c = .ok (.next env, c) := by rw [exSs]
theorem xs_next {s : Sm} {r : Sms} {env1 : En} {c1 : Nat} (h : exS ns Φ gv s env c = .ok (.next env1, c1)) : exSs ns Φ gv (.cons s r) env c = exSs ns Φ gv r env1 c1 := by rw [exSs, h]
theorem xs_ret {s : Sm} {r : Sms} {d : D} {c1 : Nat} (h : exS ns Φ gv s env c = .ok (.ret d, c1)) : exSs ns Φ gv (.cons s r) env c = .ok (.ret d, c1) := by rw [exSs, h]
theorem xs_asg {i : Nat} {e : Ex} {r : Sms} {d : D} {c1 : Nat} (h : evE ns Φ gv e env c = .ok (d, c1)) : exSs ns Φ gv (.cons (.asg i e) r) env c = exSs ns Φ gv r (env.set i (.val d)) c1 := xs_next (by rw [exS, h]; rfl)
theorem xs_new {i : Nat} {e : Ex} {r : Sms} {d : D} {c1 : Nat} (h : evE ns Φ gv e env c = .ok (d, c1)) : exSs ns Φ gv (.cons (.new i e) r) env c = exSs ns Φ gv r (env.set i (.own d)) c1 := xs_next (by rw [exS, h]; rfl)
theorem xs_exp {e : Ex} {r : Sms} {d : D} {c1 : Nat} (h : evE ns Φ gv e env c = .ok (d, c1)) : exSs ns Φ gv (.cons (.exp e) r) env c = exSs ns Φ gv r env c1 := xs_next (by rw [exS, h]; rfl)
theorem xs_retE {e : Ex} {r : Sms} {d : D} {c1 : Nat} (h : evE ns Φ gv e env c = .ok (d, c1)) : exSs ns Φ gv (.cons (.ret e) r) env c = .ok (.ret d, c1) := xs_ret (by rw [exS, h]; rfl)
theorem xs_ifF {t : Ex} {a r : Sms} {c1 : Nat} (h : evE ns Φ gv t env c = .ok (.bool false, c1)) : exSs ns Φ gv (.cons (.ife t a .nil) r) env c = exSs ns Φ gv r env c1 := xs_next (by rw [exS, h]; show exSs ns Φ gv .nil env c1 = _; rw [exSs])
theorem xs_ifT {t : Ex} {a b r : Sms} {d : D} {c1 c2 : Nat} (h : evE ns Φ gv t env c = .ok (.bool true, c1)) (h' : exSs ns Φ gv a env c1 = .ok (.ret d, c2)) : exSs ns Φ gv (.cons (.ife t a b) r) env c = .ok (.ret d, c2) := xs_ret (by rw [exS, h]; exact h')
theorem xs_shr {i : Nat} {r : Sms} {d : D} (h : env[i]? = some (.own d)) : exSs ns Φ gv (.cons (.shr i) r) env c = exSs ns Φ gv r (env.set i (.val d)) c := xs_next (by rw [exS, h])
theorem xs_put {i : Nat} {k v : Ex} {r : Sms} {d x y d' : D} {c1 c2 : Nat} (hi : env[i]? = some (.own d)) (hv : evE ns Φ gv v env c = .ok (y, c1)) (hk : evE ns Φ gv k env c1 = .ok (x, c2)) (hp : putD d x y = .ok d') : exSs ns Φ gv (.cons (.put i k v) r) env c = exSs ns Φ gv r (env.set i (.own d')) c2 :=
  xs_next (by rw [exS]; simp only [hi, hv, R.thn_ok, hk, hp])
theorem xs_app {i : Nat} {e : Ex} {r : Sms} {ds : List D} {d : D} {c1 : Nat} (hi : env[i]? = some (.own (.list ds))) (h : evE ns Φ gv e env c = .ok (d, c1)) (hl : ds.length < LIM) : exSs ns Φ gv (.cons (.app i e) r) env c = exSs ns Φ gv r (env.set i (.own (.list (ds ++ [d])))) c1 :=
  xs_next (by rw [exS]; simp only [hi, h, R.thn_ok]; rw [if_pos hl])
theorem xs_ifN {t : Ex} {a b r : Sms} {env1 : En} {c1 c2 : Nat} (h : evE ns Φ gv t env c = .ok (.bool true, c1)) (h' : exSs ns Φ gv a env c1 = .ok (.next env1, c2)) : exSs ns Φ gv (.cons (.ife t a b) r) env c = exSs ns Φ gv r env1 c2 := xs_next (by rw [exS, h]; exact h')
/-- a loop: an invariant -/
theorem xs_for {tg : Tg} {it : Itx} {b r : Sms} {xs : List D} {c1 : Nat} (I : Nat → En → Nat → Prop) (h : evI ns Φ gv it env c = .ok (xs, c1)) (h0 : I 0 env c1)
    (hs : ∀ (i : Nat) (x : D) (env1 : En) (c2 : Nat), xs[i]? = some x → I i env1 c2 → ∃ env2 env3 c3, asgT tg x env1 = some env2 ∧ exSs ns Φ gv b env2 c2 = .ok (.next env3, c3) ∧ I (i + 1) env3 c3) :
    ∃ env' c', I xs.length env' c' ∧ exSs ns Φ gv (.cons (.for' tg it b) r) env c = exSs ns Φ gv r env' c' := by
  have key : ∀ (ys : List D) (k : Nat) (env1 : En) (c2 : Nat), xs.drop k = ys → k ≤ xs.length → I k env1 c2 → ∃ env' c', I xs.length env' c' ∧ forL tg (fun env c => exSs ns Φ gv b env c) ys env1 c2 = .ok (.next env', c') := by
    intro ys
    induction ys with
    | nil =>
      intro k env1 c2 e hle i
      have hk : xs.length ≤ k := by
        have := congrArg List.length e
        rw [List.length_drop] at this
        simp at this
        omega
      have hkk : k = xs.length := by omega
      subst hkk
      exact ⟨env1, c2, i, rfl⟩
    | cons y ys ih =>
      intro k env1 c2 e hle i
      have hk : xs[k]? = some y := by
        have := congrArg List.head? e
        rw [List.head?_drop] at this
        exact this
      obtain ⟨env2, env3, c3, q1, q2, q3⟩ := hs k y env1 c2 hk i
      have e' : xs.drop (k + 1) = ys := by rw [← List.tail_drop, e]; rfl
      obtain ⟨env', c', q4, q5⟩ := ih (k + 1) env3 c3 e' (List.getElem?_eq_some_iff.mp hk).1 q3
      refine ⟨env', c', q4, ?_⟩
      simp only [forL, q1, q2]
      exact q5
  obtain ⟨env', c', q1, q2⟩ := key xs 0 env c1 rfl (Nat.zero_le _) h0
  exact ⟨env', c', q1, xs_next (by rw [exS, h]; exact q2)⟩
end
end LG

/-! LgY: plain facts of the operations; how a run ends. -/
namespace LG
open PySem PySem.Spec PyProof.Rows L2
abbrev DrT := List Int → List D → Nat → R (D × Nat)
/-! plain facts about the evaluator's operations -/
theorem eqD_int (a b : Int) : eqD (.int a) (.int b) = .ok (decide (a = b)) := by
  unfold eqD
  rw [if_pos (by rfl)]
  have : PyData.eqv (.int a) (.int b) = (a == b) := by simp [PyData.eqv]
  rw [this]
  congr 1
theorem small_of {i : Int} (h : -1000 ≤ i) (h' : i ≤ 1000) : small i = true := by
  unfold small
  simp only [Bool.and_eq_true, decide_eq_true_eq]
  omega
def intIn (lo hi : Int) : D → Bool
  | .int v => decide (lo ≤ v) && decide (v ≤ hi)
  | _ => false
def noDict : D → Bool
  | .dict _ => false
  | _ => true
theorem boolsOf_map {α : Type} (p : α → Bool) : ∀ xs : List α, boolsOf (xs.map fun x => .bool (p x)) = some (xs.map p)
  | [] => rfl
  | x :: xs => by simp [boolsOf, boolsOf_map p xs]
theorem run_ret {Φ : List Callee} {gv : List D} {tw : Bool} {n N : Nat} {body : Sms} {ns : List Int} {ds : List D} {c c' : Nat} {d : D} (hl : ds.length = n) (h : exSs ns Φ gv body (startE tw N ds) c = .ok (.ret d, c')) : runD Φ gv tw n N body ns ds c = .ok (d, c') := by
  unfold runD
  rw [if_pos hl, h]
theorem run_end {Φ : List Callee} {gv : List D} {tw : Bool} {n N : Nat} {body : Sms} {ns : List Int} {ds : List D} {c c' : Nat} {env : En} (hl : ds.length = n) (h : exSs ns Φ gv body (startE tw N ds) c = .ok (.next env, c')) : runD Φ gv tw n N body ns ds c = .ok (.none, c') := by
  unfold runD
  rw [if_pos hl, h]
end LG

namespace LG
open PySem PySem.Spec PyProof.Rows L2
def b_is_integer : Sms := (.cons (.ret (.and (.isi .int (.var 0)) (.and (.not (.isi .bool (.var 0))) (.chn (.var 1) (.var 0) (.var 2))))) .nil)
def g_is_integer : List D := []
def T_is_integer (dr : DrT) : List Callee := []
def F_is_integer (dr : DrT) : DrT := runD (T_is_integer dr) g_is_integer false 3 3 b_is_integer
theorem leT_is_integer {ns1 ns2 : List Int} {d1 d2 : DrT} (h : CalLe ns1 ns2 ⟨true, d1⟩ ⟨true, d2⟩) : CalsLe ns1 ns2 (T_is_integer d1) (T_is_integer d2) := .nil
theorem le_is_integer {ns1 ns2 : List Int} {d1 d2 : DrT} (h : CalLe ns1 ns2 ⟨true, d1⟩ ⟨true, d2⟩) : CalLe ns1 ns2 ⟨false, F_is_integer d1⟩ ⟨false, F_is_integer d2⟩ := runD_le (leT_is_integer h)
def b_check_size : Sms := (.cons (.ife (.not (.call 0 (.cons (.var 0) (.cons (.con (.int 1)) (.cons (.con (.int 6)) .nil))))) (.cons (.rse 1) .nil) .nil) .nil)
def g_check_size : List D := []
def T_check_size (dr : DrT) : List Callee := [⟨false, F_is_integer dr⟩]
def F_check_size (dr : DrT) : DrT := runD (T_check_size dr) g_check_size false 1 1 b_check_size
theorem leT_check_size {ns1 ns2 : List Int} {d1 d2 : DrT} (h : CalLe ns1 ns2 ⟨true, d1⟩ ⟨true, d2⟩) : CalsLe ns1 ns2 (T_check_size d1) (T_check_size d2) := (.cons (le_is_integer h) .nil)
theorem le_check_size {ns1 ns2 : List Int} {d1 d2 : DrT} (h : CalLe ns1 ns2 ⟨true, d1⟩ ⟨true, d2⟩) : CalLe ns1 ns2 ⟨false, F_check_size d1⟩ ⟨false, F_check_size d2⟩ := runD_le (leT_check_size h)
def b_point_list : Sms := (.cons (.new 1 (.lst .nil)) (.cons (.for' (.nm 2) (.rng1 (.bin .add (.var 0) (.con (.int 1)))) (.cons (.ext 1 (.comp [3] (.nm 3) (.rng1 (.bin .add (.bin .sub (.var 0) (.var 2)) (.con (.int 1)))) .none (.tup (.cons (.var 2) (.cons (.var 3) (.cons (.bin .sub (.bin .sub (.var 0) (.var 2)) (.var 3)) .nil)))))) .nil)) (.cons (.shr 1) (.cons (.ret (.var 1)) .nil))))
def g_point_list : List D := []
def T_point_list (dr : DrT) : List Callee := []
def F_point_list (dr : DrT) : DrT := runD (T_point_list dr) g_point_list false 1 4 b_point_list
theorem leT_point_list {ns1 ns2 : List Int} {d1 d2 : DrT} (h : CalLe ns1 ns2 ⟨true, d1⟩ ⟨true, d2⟩) : CalsLe ns1 ns2 (T_point_list d1) (T_point_list d2) := .nil
theorem le_point_list {ns1 ns2 : List Int} {d1 d2 : DrT} (h : CalLe ns1 ns2 ⟨true, d1⟩ ⟨true, d2⟩) : CalLe ns1 ns2 ⟨false, F_point_list d1⟩ ⟨false, F_point_list d2⟩ := runD_le (leT_point_list h)
def b_is_point : Sms := (.cons (.ife (.or (.not (.isi .tuple (.var 1))) (.or (.cmp .ne (.prim .len (.cons (.var 1) .nil)) (.con (.int 3))) (.not (.prim .all (.cons (.comp [2] (.nm 2) (.seq (.var 1)) .none (.call 0 (.cons (.var 2) (.cons (.con (.int 0)) (.cons (.var 0) .nil))))) .nil))))) (.cons (.ret (.con (.bool false))) .nil) .nil) (.cons (.ret (.cmp .eq (.prim .sum (.cons (.var 1) .nil)) (.var 0))) .nil))
def g_is_point : List D := []
def T_is_point (dr : DrT) : List Callee := [⟨false, F_is_integer dr⟩]
def F_is_point (dr : DrT) : DrT := runD (T_is_point dr) g_is_point false 2 3 b_is_point
theorem leT_is_point {ns1 ns2 : List Int} {d1 d2 : DrT} (h : CalLe ns1 ns2 ⟨true, d1⟩ ⟨true, d2⟩) : CalsLe ns1 ns2 (T_is_point d1) (T_is_point d2) := (.cons (le_is_integer h) .nil)
theorem le_is_point {ns1 ns2 : List Int} {d1 d2 : DrT} (h : CalLe ns1 ns2 ⟨true, d1⟩ ⟨true, d2⟩) : CalLe ns1 ns2 ⟨false, F_is_point d1⟩ ⟨false, F_is_point d2⟩ := runD_le (leT_is_point h)
def b_check_point : Sms := (.cons (.exp (.call 0 (.cons (.var 0) .nil))) (.cons (.ife (.not (.call 1 (.cons (.var 0) (.cons (.var 1) .nil)))) (.cons (.rse 2) .nil) .nil) .nil))
def g_check_point : List D := []
def T_check_point (dr : DrT) : List Callee := [⟨false, F_check_size dr⟩, ⟨false, F_is_point dr⟩]
def F_check_point (dr : DrT) : DrT := runD (T_check_point dr) g_check_point false 2 2 b_check_point
theorem leT_check_point {ns1 ns2 : List Int} {d1 d2 : DrT} (h : CalLe ns1 ns2 ⟨true, d1⟩ ⟨true, d2⟩) : CalsLe ns1 ns2 (T_check_point d1) (T_check_point d2) := (.cons (le_check_size h) (.cons (le_is_point h) .nil))
theorem le_check_point {ns1 ns2 : List Int} {d1 d2 : DrT} (h : CalLe ns1 ns2 ⟨true, d1⟩ ⟨true, d2⟩) : CalLe ns1 ns2 ⟨false, F_check_point d1⟩ ⟨false, F_check_point d2⟩ := runD_le (leT_check_point h)
def b_moved : Sms := (.cons (.ret (.tup (.cons (.bin .add (.idx (.var 0) (.con (.int 0))) (.idx (.var 1) (.con (.int 0)))) (.cons (.bin .add (.idx (.var 0) (.con (.int 1))) (.idx (.var 1) (.con (.int 1)))) (.cons (.bin .add (.idx (.var 0) (.con (.int 2))) (.idx (.var 1) (.con (.int 2)))) .nil))))) .nil)
def g_moved : List D := []
def T_moved (dr : DrT) : List Callee := []
def F_moved (dr : DrT) : DrT := runD (T_moved dr) g_moved false 2 2 b_moved
theorem leT_moved {ns1 ns2 : List Int} {d1 d2 : DrT} (h : CalLe ns1 ns2 ⟨true, d1⟩ ⟨true, d2⟩) : CalsLe ns1 ns2 (T_moved d1) (T_moved d2) := .nil
theorem le_moved {ns1 ns2 : List Int} {d1 d2 : DrT} (h : CalLe ns1 ns2 ⟨true, d1⟩ ⟨true, d2⟩) : CalLe ns1 ns2 ⟨false, F_moved d1⟩ ⟨false, F_moved d2⟩ := runD_le (leT_moved h)
def b_turned_triangles : Sms := (.cons (.new 1 (.lst .nil)) (.cons (.for' (.nm 2) (.seq (.call 0 (.cons (.var 0) .nil))) (.cons (.for' (.tp [3, 4]) (.seq (.lst (.cons (.tup (.cons (.tup (.cons (.neg (.con (.int 1))) (.cons (.con (.int 1)) (.cons (.con (.int 0)) .nil)))) (.cons (.tup (.cons (.con (.int 0)) (.cons (.neg (.con (.int 1))) (.cons (.con (.int 1)) .nil)))) .nil))) (.cons (.tup (.cons (.tup (.cons (.con (.int 1)) (.cons (.neg (.con (.int 1))) (.cons (.con (.int 0)) .nil)))) (.cons (.tup (.cons (.con (.int 0)) (.cons (.con (.int 1)) (.cons (.neg (.con (.int 1))) .nil)))) .nil))) .nil)))) (.cons (.asg 5 (.call 1 (.cons (.var 2) (.cons (.var 3) .nil)))) (.cons (.asg 6 (.call 1 (.cons (.var 5) (.cons (.var 4) .nil)))) (.cons (.ife (.cmp .ge (.prim .min1 (.cons (.bin .add (.var 5) (.var 6)) .nil)) (.con (.int 0))) (.cons (.app 1 (.tup (.cons (.var 2) (.cons (.var 5) (.cons (.var 6) .nil))))) .nil) .nil) .nil)))) .nil)) (.cons (.shr 1) (.cons (.ret (.var 1)) .nil))))
def g_turned_triangles : List D := []
def T_turned_triangles (dr : DrT) : List Callee := [⟨false, F_point_list dr⟩, ⟨false, F_moved dr⟩]
def F_turned_triangles (dr : DrT) : DrT := runD (T_turned_triangles dr) g_turned_triangles false 1 7 b_turned_triangles
theorem leT_turned_triangles {ns1 ns2 : List Int} {d1 d2 : DrT} (h : CalLe ns1 ns2 ⟨true, d1⟩ ⟨true, d2⟩) : CalsLe ns1 ns2 (T_turned_triangles d1) (T_turned_triangles d2) := (.cons (le_point_list h) (.cons (le_moved h) .nil))
theorem le_turned_triangles {ns1 ns2 : List Int} {d1 d2 : DrT} (h : CalLe ns1 ns2 ⟨true, d1⟩ ⟨true, d2⟩) : CalLe ns1 ns2 ⟨false, F_turned_triangles d1⟩ ⟨false, F_turned_triangles d2⟩ := runD_le (leT_turned_triangles h)
def b_triangle_list : Sms := (.cons (.ret (.prim .sorted (.cons (.comp [1] (.nm 1) (.seq (.call 0 (.cons (.var 0) .nil))) .none (.prim .tuple (.cons (.prim .sorted (.cons (.var 1) .nil)) .nil))) .nil))) .nil)
def g_triangle_list : List D := []
def T_triangle_list (dr : DrT) : List Callee := [⟨false, F_turned_triangles dr⟩]
def F_triangle_list (dr : DrT) : DrT := runD (T_triangle_list dr) g_triangle_list false 1 2 b_triangle_list
theorem leT_triangle_list {ns1 ns2 : List Int} {d1 d2 : DrT} (h : CalLe ns1 ns2 ⟨true, d1⟩ ⟨true, d2⟩) : CalsLe ns1 ns2 (T_triangle_list d1) (T_triangle_list d2) := (.cons (le_turned_triangles h) .nil)
theorem le_triangle_list {ns1 ns2 : List Int} {d1 d2 : DrT} (h : CalLe ns1 ns2 ⟨true, d1⟩ ⟨true, d2⟩) : CalLe ns1 ns2 ⟨false, F_triangle_list d1⟩ ⟨false, F_triangle_list d2⟩ := runD_le (leT_triangle_list h)
def b_round_list : Sms := (.cons (.new 1 (.comp [2] (.nm 2) (.rng1 (.var 0)) .none (.tup (.cons (.bin .sub (.var 0) (.var 2)) (.cons (.var 2) (.cons (.con (.int 0)) .nil)))))) (.cons (.ext 1 (.comp [2] (.nm 2) (.rng1 (.var 0)) .none (.tup (.cons (.con (.int 0)) (.cons (.bin .sub (.var 0) (.var 2)) (.cons (.var 2) .nil)))))) (.cons (.ext 1 (.comp [2] (.nm 2) (.rng1 (.var 0)) .none (.tup (.cons (.var 2) (.cons (.con (.int 0)) (.cons (.bin .sub (.var 0) (.var 2)) .nil)))))) (.cons (.shr 1) (.cons (.ret (.var 1)) .nil)))))
def g_round_list : List D := []
def T_round_list (dr : DrT) : List Callee := []
def F_round_list (dr : DrT) : DrT := runD (T_round_list dr) g_round_list false 1 3 b_round_list
theorem leT_round_list {ns1 ns2 : List Int} {d1 d2 : DrT} (h : CalLe ns1 ns2 ⟨true, d1⟩ ⟨true, d2⟩) : CalsLe ns1 ns2 (T_round_list d1) (T_round_list d2) := .nil
theorem le_round_list {ns1 ns2 : List Int} {d1 d2 : DrT} (h : CalLe ns1 ns2 ⟨true, d1⟩ ⟨true, d2⟩) : CalLe ns1 ns2 ⟨false, F_round_list d1⟩ ⟨false, F_round_list d2⟩ := runD_le (leT_round_list h)
def b_outer_edges : Sms := (.cons (.asg 1 (.call 0 (.cons (.var 0) .nil))) (.cons (.ret (.comp [2] (.nm 2) (.zip (.var 1) (.bin .add (.slc (.var 1) (.some (.con (.int 1))) .none) (.slc (.var 1) .none (.some (.con (.int 1)))))) .none (.prim .tuple (.cons (.prim .sorted (.cons (.var 2) .nil)) .nil)))) .nil))
def g_outer_edges : List D := []
def T_outer_edges (dr : DrT) : List Callee := [⟨false, F_round_list dr⟩]
def F_outer_edges (dr : DrT) : DrT := runD (T_outer_edges dr) g_outer_edges false 1 3 b_outer_edges
theorem leT_outer_edges {ns1 ns2 : List Int} {d1 d2 : DrT} (h : CalLe ns1 ns2 ⟨true, d1⟩ ⟨true, d2⟩) : CalsLe ns1 ns2 (T_outer_edges d1) (T_outer_edges d2) := (.cons (le_round_list h) .nil)
theorem le_outer_edges {ns1 ns2 : List Int} {d1 d2 : DrT} (h : CalLe ns1 ns2 ⟨true, d1⟩ ⟨true, d2⟩) : CalLe ns1 ns2 ⟨false, F_outer_edges d1⟩ ⟨false, F_outer_edges d2⟩ := runD_le (leT_outer_edges h)
def b_valid_labels : Sms := (.cons (.ife (.or (.not (.isi .tuple (.var 1))) (.cmp .ne (.prim .len (.cons (.var 1) .nil)) (.bin .fdiv (.bin .mul (.bin .add (.var 0) (.con (.int 1))) (.bin .add (.var 0) (.con (.int 2)))) (.con (.int 2))))) (.cons (.ret (.con (.bool false))) .nil) .nil) (.cons (.ret (.prim .all (.cons (.comp [2] (.nm 2) (.seq (.var 1)) .none (.call 0 (.cons (.var 2) (.cons (.con (.int 0)) (.cons (.con (.int 2)) .nil))))) .nil))) .nil))
def g_valid_labels : List D := []
def T_valid_labels (dr : DrT) : List Callee := [⟨false, F_is_integer dr⟩]
def F_valid_labels (dr : DrT) : DrT := runD (T_valid_labels dr) g_valid_labels false 2 3 b_valid_labels
theorem leT_valid_labels {ns1 ns2 : List Int} {d1 d2 : DrT} (h : CalLe ns1 ns2 ⟨true, d1⟩ ⟨true, d2⟩) : CalsLe ns1 ns2 (T_valid_labels d1) (T_valid_labels d2) := (.cons (le_is_integer h) .nil)
theorem le_valid_labels {ns1 ns2 : List Int} {d1 d2 : DrT} (h : CalLe ns1 ns2 ⟨true, d1⟩ ⟨true, d2⟩) : CalLe ns1 ns2 ⟨false, F_valid_labels d1⟩ ⟨false, F_valid_labels d2⟩ := runD_le (leT_valid_labels h)
def b_is_labelling : Sms := (.cons (.exp (.call 0 (.cons (.var 0) .nil))) (.cons (.ret (.call 1 (.cons (.var 0) (.cons (.var 1) .nil)))) .nil))
def g_is_labelling : List D := []
def T_is_labelling (dr : DrT) : List Callee := [⟨false, F_check_size dr⟩, ⟨false, F_valid_labels dr⟩]
def F_is_labelling (dr : DrT) : DrT := runD (T_is_labelling dr) g_is_labelling false 2 2 b_is_labelling
theorem leT_is_labelling {ns1 ns2 : List Int} {d1 d2 : DrT} (h : CalLe ns1 ns2 ⟨true, d1⟩ ⟨true, d2⟩) : CalsLe ns1 ns2 (T_is_labelling d1) (T_is_labelling d2) := (.cons (le_check_size h) (.cons (le_valid_labels h) .nil))
theorem le_is_labelling {ns1 ns2 : List Int} {d1 d2 : DrT} (h : CalLe ns1 ns2 ⟨true, d1⟩ ⟨true, d2⟩) : CalLe ns1 ns2 ⟨false, F_is_labelling d1⟩ ⟨false, F_is_labelling d2⟩ := runD_le (leT_is_labelling h)
def b_check_labels : Sms := (.cons (.exp (.call 0 (.cons (.var 0) .nil))) (.cons (.ife (.not (.call 1 (.cons (.var 0) (.cons (.var 1) .nil)))) (.cons (.rse 4) .nil) .nil) .nil))
def g_check_labels : List D := []
def T_check_labels (dr : DrT) : List Callee := [⟨false, F_check_size dr⟩, ⟨false, F_valid_labels dr⟩]
def F_check_labels (dr : DrT) : DrT := runD (T_check_labels dr) g_check_labels false 2 2 b_check_labels
theorem leT_check_labels {ns1 ns2 : List Int} {d1 d2 : DrT} (h : CalLe ns1 ns2 ⟨true, d1⟩ ⟨true, d2⟩) : CalsLe ns1 ns2 (T_check_labels d1) (T_check_labels d2) := (.cons (le_check_size h) (.cons (le_valid_labels h) .nil))
theorem le_check_labels {ns1 ns2 : List Int} {d1 d2 : DrT} (h : CalLe ns1 ns2 ⟨true, d1⟩ ⟨true, d2⟩) : CalLe ns1 ns2 ⟨false, F_check_labels d1⟩ ⟨false, F_check_labels d2⟩ := runD_le (leT_check_labels h)
def b_table_of : Sms := (.cons (.ret (.prim .dictzip (.cons (.call 0 (.cons (.var 0) .nil)) (.cons (.var 1) .nil)))) .nil)
def g_table_of : List D := []
def T_table_of (dr : DrT) : List Callee := [⟨false, F_point_list dr⟩]
def F_table_of (dr : DrT) : DrT := runD (T_table_of dr) g_table_of false 2 2 b_table_of
theorem leT_table_of {ns1 ns2 : List Int} {d1 d2 : DrT} (h : CalLe ns1 ns2 ⟨true, d1⟩ ⟨true, d2⟩) : CalsLe ns1 ns2 (T_table_of d1) (T_table_of d2) := (.cons (le_point_list h) .nil)
theorem le_table_of {ns1 ns2 : List Int} {d1 d2 : DrT} (h : CalLe ns1 ns2 ⟨true, d1⟩ ⟨true, d2⟩) : CalLe ns1 ns2 ⟨false, F_table_of d1⟩ ⟨false, F_table_of d2⟩ := runD_le (leT_table_of h)
def b_fits : Sms := (.cons (.ret (.cmp .gt (.idx (.var 0) (.var 1)) (.con (.int 0)))) .nil)
def g_fits : List D := []
def T_fits (dr : DrT) : List Callee := []
def F_fits (dr : DrT) : DrT := runD (T_fits dr) g_fits false 2 2 b_fits
theorem leT_fits {ns1 ns2 : List Int} {d1 d2 : DrT} (h : CalLe ns1 ns2 ⟨true, d1⟩ ⟨true, d2⟩) : CalsLe ns1 ns2 (T_fits d1) (T_fits d2) := .nil
theorem le_fits {ns1 ns2 : List Int} {d1 d2 : DrT} (h : CalLe ns1 ns2 ⟨true, d1⟩ ⟨true, d2⟩) : CalLe ns1 ns2 ⟨false, F_fits d1⟩ ⟨false, F_fits d2⟩ := runD_le (leT_fits h)
def b_proper_labels : Sms := (.cons (.ret (.prim .all (.cons (.comp [2, 3] (.tp [2, 3]) (.zip (.call 0 (.cons (.var 0) .nil)) (.var 1)) .none (.call 1 (.cons (.var 2) (.cons (.var 3) .nil)))) .nil))) .nil)
def g_proper_labels : List D := []
def T_proper_labels (dr : DrT) : List Callee := [⟨false, F_point_list dr⟩, ⟨false, F_fits dr⟩]
def F_proper_labels (dr : DrT) : DrT := runD (T_proper_labels dr) g_proper_labels false 2 4 b_proper_labels
theorem leT_proper_labels {ns1 ns2 : List Int} {d1 d2 : DrT} (h : CalLe ns1 ns2 ⟨true, d1⟩ ⟨true, d2⟩) : CalsLe ns1 ns2 (T_proper_labels d1) (T_proper_labels d2) := (.cons (le_point_list h) (.cons (le_fits h) .nil))
theorem le_proper_labels {ns1 ns2 : List Int} {d1 d2 : DrT} (h : CalLe ns1 ns2 ⟨true, d1⟩ ⟨true, d2⟩) : CalLe ns1 ns2 ⟨false, F_proper_labels d1⟩ ⟨false, F_proper_labels d2⟩ := runD_le (leT_proper_labels h)
def b_is_proper : Sms := (.cons (.exp (.call 0 (.cons (.var 0) (.cons (.var 1) .nil)))) (.cons (.ret (.call 1 (.cons (.var 0) (.cons (.var 1) .nil)))) .nil))
def g_is_proper : List D := []
def T_is_proper (dr : DrT) : List Callee := [⟨false, F_check_labels dr⟩, ⟨false, F_proper_labels dr⟩]
def F_is_proper (dr : DrT) : DrT := runD (T_is_proper dr) g_is_proper false 2 2 b_is_proper
theorem leT_is_proper {ns1 ns2 : List Int} {d1 d2 : DrT} (h : CalLe ns1 ns2 ⟨true, d1⟩ ⟨true, d2⟩) : CalsLe ns1 ns2 (T_is_proper d1) (T_is_proper d2) := (.cons (le_check_labels h) (.cons (le_proper_labels h) .nil))
theorem le_is_proper {ns1 ns2 : List Int} {d1 d2 : DrT} (h : CalLe ns1 ns2 ⟨true, d1⟩ ⟨true, d2⟩) : CalLe ns1 ns2 ⟨false, F_is_proper d1⟩ ⟨false, F_is_proper d2⟩ := runD_le (leT_is_proper h)
def b_is_full : Sms := (.cons (.ret (.cmp .eq (.prim .sorted (.cons (.comp [2] (.nm 2) (.seq (.var 1)) .none (.idx (.var 0) (.var 2))) .nil)) (.lst (.cons (.con (.int 0)) (.cons (.con (.int 1)) (.cons (.con (.int 2)) .nil)))))) .nil)
def g_is_full : List D := []
def T_is_full (dr : DrT) : List Callee := []
def F_is_full (dr : DrT) : DrT := runD (T_is_full dr) g_is_full false 2 3 b_is_full
theorem leT_is_full {ns1 ns2 : List Int} {d1 d2 : DrT} (h : CalLe ns1 ns2 ⟨true, d1⟩ ⟨true, d2⟩) : CalsLe ns1 ns2 (T_is_full d1) (T_is_full d2) := .nil
theorem le_is_full {ns1 ns2 : List Int} {d1 d2 : DrT} (h : CalLe ns1 ns2 ⟨true, d1⟩ ⟨true, d2⟩) : CalLe ns1 ns2 ⟨false, F_is_full d1⟩ ⟨false, F_is_full d2⟩ := runD_le (leT_is_full h)
def b_full_list : Sms := (.cons (.asg 2 (.call 0 (.cons (.var 0) (.cons (.var 1) .nil)))) (.cons (.ret (.comp [3] (.nm 3) (.seq (.call 2 (.cons (.var 0) .nil))) (.some (.call 1 (.cons (.var 2) (.cons (.var 3) .nil)))) (.var 3))) .nil))
def g_full_list : List D := []
def T_full_list (dr : DrT) : List Callee := [⟨false, F_table_of dr⟩, ⟨false, F_is_full dr⟩, ⟨false, F_triangle_list dr⟩]
def F_full_list (dr : DrT) : DrT := runD (T_full_list dr) g_full_list false 2 4 b_full_list
theorem leT_full_list {ns1 ns2 : List Int} {d1 d2 : DrT} (h : CalLe ns1 ns2 ⟨true, d1⟩ ⟨true, d2⟩) : CalsLe ns1 ns2 (T_full_list d1) (T_full_list d2) := (.cons (le_table_of h) (.cons (le_is_full h) (.cons (le_triangle_list h) .nil)))
theorem le_full_list {ns1 ns2 : List Int} {d1 d2 : DrT} (h : CalLe ns1 ns2 ⟨true, d1⟩ ⟨true, d2⟩) : CalLe ns1 ns2 ⟨false, F_full_list d1⟩ ⟨false, F_full_list d2⟩ := runD_le (leT_full_list h)
def b_full_triangles : Sms := (.cons (.exp (.call 0 (.cons (.var 0) (.cons (.var 1) .nil)))) (.cons (.ret (.call 1 (.cons (.var 0) (.cons (.var 1) .nil)))) .nil))
def g_full_triangles : List D := []
def T_full_triangles (dr : DrT) : List Callee := [⟨false, F_check_labels dr⟩, ⟨false, F_full_list dr⟩]
def F_full_triangles (dr : DrT) : DrT := runD (T_full_triangles dr) g_full_triangles false 2 2 b_full_triangles
theorem leT_full_triangles {ns1 ns2 : List Int} {d1 d2 : DrT} (h : CalLe ns1 ns2 ⟨true, d1⟩ ⟨true, d2⟩) : CalsLe ns1 ns2 (T_full_triangles d1) (T_full_triangles d2) := (.cons (le_check_labels h) (.cons (le_full_list h) .nil))
theorem le_full_triangles {ns1 ns2 : List Int} {d1 d2 : DrT} (h : CalLe ns1 ns2 ⟨true, d1⟩ ⟨true, d2⟩) : CalLe ns1 ns2 ⟨false, F_full_triangles d1⟩ ⟨false, F_full_triangles d2⟩ := runD_le (leT_full_triangles h)
def b_sign : Sms := (.cons (.exp (.call 0 (.cons (.var 0) (.cons (.var 1) .nil)))) (.cons (.ife (.or (.not (.isi .tuple (.var 2))) (.cmp .notin (.var 2) (.call 1 (.cons (.var 0) .nil)))) (.cons (.rse 5) .nil) .nil) (.cons (.asg 3 (.call 2 (.cons (.var 0) (.cons (.var 1) .nil)))) (.cons (.ife (.not (.call 3 (.cons (.var 3) (.cons (.var 2) .nil)))) (.cons (.rse 11) .nil) .nil) (.cons (.for' (.nm 4) (.seq (.call 4 (.cons (.var 0) .nil))) (.cons (.ife (.cmp .eq (.prim .tuple (.cons (.prim .sorted (.cons (.var 4) .nil)) .nil)) (.var 2)) (.cons (.asg 5 (.comp [6] (.nm 6) (.seq (.var 4)) .none (.idx (.var 3) (.var 6)))) .nil) .nil) .nil)) (.cons (.ret (.ite (.cmp .eq (.bin .mod (.bin .sub (.idx (.var 5) (.con (.int 1))) (.idx (.var 5) (.con (.int 0)))) (.con (.int 3))) (.con (.int 1))) (.con (.int 1)) (.neg (.con (.int 1))))) .nil))))))
def g_sign : List D := []
def T_sign (dr : DrT) : List Callee := [⟨false, F_check_labels dr⟩, ⟨false, F_triangle_list dr⟩, ⟨false, F_table_of dr⟩, ⟨false, F_is_full dr⟩, ⟨false, F_turned_triangles dr⟩]
def F_sign (dr : DrT) : DrT := runD (T_sign dr) g_sign false 3 7 b_sign
theorem leT_sign {ns1 ns2 : List Int} {d1 d2 : DrT} (h : CalLe ns1 ns2 ⟨true, d1⟩ ⟨true, d2⟩) : CalsLe ns1 ns2 (T_sign d1) (T_sign d2) := (.cons (le_check_labels h) (.cons (le_triangle_list h) (.cons (le_table_of h) (.cons (le_is_full h) (.cons (le_turned_triangles h) .nil)))))
theorem le_sign {ns1 ns2 : List Int} {d1 d2 : DrT} (h : CalLe ns1 ns2 ⟨true, d1⟩ ⟨true, d2⟩) : CalLe ns1 ns2 ⟨false, F_sign d1⟩ ⟨false, F_sign d2⟩ := runD_le (leT_sign h)
def b_turn : Sms := (.cons (.ret (.idx (.lst (.cons (.con (.int 0)) (.cons (.con (.int 1)) (.cons (.neg (.con (.int 1))) .nil)))) (.bin .mod (.bin .sub (.var 1) (.var 0)) (.con (.int 3))))) .nil)
def g_turn : List D := []
def T_turn (dr : DrT) : List Callee := []
def F_turn (dr : DrT) : DrT := runD (T_turn dr) g_turn false 2 2 b_turn
theorem leT_turn {ns1 ns2 : List Int} {d1 d2 : DrT} (h : CalLe ns1 ns2 ⟨true, d1⟩ ⟨true, d2⟩) : CalsLe ns1 ns2 (T_turn d1) (T_turn d2) := .nil
theorem le_turn {ns1 ns2 : List Int} {d1 d2 : DrT} (h : CalLe ns1 ns2 ⟨true, d1⟩ ⟨true, d2⟩) : CalLe ns1 ns2 ⟨false, F_turn d1⟩ ⟨false, F_turn d2⟩ := runD_le (leT_turn h)
def b_winding : Sms := (.cons (.exp (.call 0 (.cons (.var 0) (.cons (.var 1) .nil)))) (.cons (.asg 2 (.call 1 (.cons (.var 0) (.cons (.var 1) .nil)))) (.cons (.asg 3 (.comp [4] (.nm 4) (.seq (.call 2 (.cons (.var 0) .nil))) .none (.idx (.var 2) (.var 4)))) (.cons (.ret (.bin .fdiv (.prim .sum (.cons (.comp [5, 6] (.tp [5, 6]) (.zip (.var 3) (.bin .add (.slc (.var 3) (.some (.con (.int 1))) .none) (.slc (.var 3) .none (.some (.con (.int 1)))))) .none (.call 3 (.cons (.var 5) (.cons (.var 6) .nil)))) .nil)) (.con (.int 3)))) .nil))))
def g_winding : List D := []
def T_winding (dr : DrT) : List Callee := [⟨false, F_check_labels dr⟩, ⟨false, F_table_of dr⟩, ⟨false, F_round_list dr⟩, ⟨false, F_turn dr⟩]
def F_winding (dr : DrT) : DrT := runD (T_winding dr) g_winding false 2 7 b_winding
theorem leT_winding {ns1 ns2 : List Int} {d1 d2 : DrT} (h : CalLe ns1 ns2 ⟨true, d1⟩ ⟨true, d2⟩) : CalsLe ns1 ns2 (T_winding d1) (T_winding d2) := (.cons (le_check_labels h) (.cons (le_table_of h) (.cons (le_round_list h) (.cons (le_turn h) .nil))))
theorem le_winding {ns1 ns2 : List Int} {d1 d2 : DrT} (h : CalLe ns1 ns2 ⟨true, d1⟩ ⟨true, d2⟩) : CalLe ns1 ns2 ⟨false, F_winding d1⟩ ⟨false, F_winding d2⟩ := runD_le (leT_winding h)
def b_choices_at : Sms := (.cons (.ret (.comp [1] (.nm 1) (.rng1 (.con (.int 3))) (.some (.call 0 (.cons (.var 0) (.cons (.var 1) .nil)))) (.var 1))) .nil)
def g_choices_at : List D := []
def T_choices_at (dr : DrT) : List Callee := [⟨false, F_fits dr⟩]
def F_choices_at (dr : DrT) : DrT := runD (T_choices_at dr) g_choices_at false 1 2 b_choices_at
theorem leT_choices_at {ns1 ns2 : List Int} {d1 d2 : DrT} (h : CalLe ns1 ns2 ⟨true, d1⟩ ⟨true, d2⟩) : CalsLe ns1 ns2 (T_choices_at d1) (T_choices_at d2) := (.cons (le_fits h) .nil)
theorem le_choices_at {ns1 ns2 : List Int} {d1 d2 : DrT} (h : CalLe ns1 ns2 ⟨true, d1⟩ ⟨true, d2⟩) : CalLe ns1 ns2 ⟨false, F_choices_at d1⟩ ⟨false, F_choices_at d2⟩ := runD_le (leT_choices_at h)
def b_count_proper : Sms := (.cons (.exp (.call 0 (.cons (.var 0) .nil))) (.cons (.asg 1 (.con (.int 1))) (.cons (.for' (.nm 2) (.seq (.call 1 (.cons (.var 0) .nil))) (.cons (.aug 1 .mul (.prim .len (.cons (.call 2 (.cons (.var 2) .nil)) .nil))) .nil)) (.cons (.ret (.var 1)) .nil))))
def g_count_proper : List D := []
def T_count_proper (dr : DrT) : List Callee := [⟨false, F_check_size dr⟩, ⟨false, F_point_list dr⟩, ⟨false, F_choices_at dr⟩]
def F_count_proper (dr : DrT) : DrT := runD (T_count_proper dr) g_count_proper false 1 3 b_count_proper
theorem leT_count_proper {ns1 ns2 : List Int} {d1 d2 : DrT} (h : CalLe ns1 ns2 ⟨true, d1⟩ ⟨true, d2⟩) : CalsLe ns1 ns2 (T_count_proper d1) (T_count_proper d2) := (.cons (le_check_size h) (.cons (le_point_list h) (.cons (le_choices_at h) .nil)))
theorem le_count_proper {ns1 ns2 : List Int} {d1 d2 : DrT} (h : CalLe ns1 ns2 ⟨true, d1⟩ ⟨true, d2⟩) : CalLe ns1 ns2 ⟨false, F_count_proper d1⟩ ⟨false, F_count_proper d2⟩ := runD_le (leT_count_proper h)
def b_proper_list : Sms := (.cons (.asg 1 (.lst (.cons (.tup .nil) .nil))) (.cons (.for' (.nm 2) (.seq (.call 0 (.cons (.var 0) .nil))) (.cons (.new 3 (.lst .nil)) (.cons (.for' (.nm 4) (.seq (.var 1)) (.cons (.ext 3 (.comp [5] (.nm 5) (.seq (.call 1 (.cons (.var 2) .nil))) .none (.bin .add (.var 4) (.tup (.cons (.var 5) .nil))))) .nil)) (.cons (.shr 3) (.cons (.asg 1 (.var 3)) .nil))))) (.cons (.ret (.var 1)) .nil)))
def g_proper_list : List D := []
def T_proper_list (dr : DrT) : List Callee := [⟨false, F_point_list dr⟩, ⟨false, F_choices_at dr⟩]
def F_proper_list (dr : DrT) : DrT := runD (T_proper_list dr) g_proper_list false 1 6 b_proper_list
theorem leT_proper_list {ns1 ns2 : List Int} {d1 d2 : DrT} (h : CalLe ns1 ns2 ⟨true, d1⟩ ⟨true, d2⟩) : CalsLe ns1 ns2 (T_proper_list d1) (T_proper_list d2) := (.cons (le_point_list h) (.cons (le_choices_at h) .nil))
theorem le_proper_list {ns1 ns2 : List Int} {d1 d2 : DrT} (h : CalLe ns1 ns2 ⟨true, d1⟩ ⟨true, d2⟩) : CalLe ns1 ns2 ⟨false, F_proper_list d1⟩ ⟨false, F_proper_list d2⟩ := runD_le (leT_proper_list h)
def b_apart : Sms := (.cons (.ret (.prim .len (.cons (.comp [2, 3] (.tp [2, 3]) (.zip (.var 0) (.var 1)) (.some (.cmp .ne (.var 2) (.var 3))) (.var 2)) .nil))) .nil)
def g_apart : List D := []
def T_apart (dr : DrT) : List Callee := []
def F_apart (dr : DrT) : DrT := runD (T_apart dr) g_apart false 2 4 b_apart
theorem leT_apart {ns1 ns2 : List Int} {d1 d2 : DrT} (h : CalLe ns1 ns2 ⟨true, d1⟩ ⟨true, d2⟩) : CalsLe ns1 ns2 (T_apart d1) (T_apart d2) := .nil
theorem le_apart {ns1 ns2 : List Int} {d1 d2 : DrT} (h : CalLe ns1 ns2 ⟨true, d1⟩ ⟨true, d2⟩) : CalLe ns1 ns2 ⟨false, F_apart d1⟩ ⟨false, F_apart d2⟩ := runD_le (leT_apart h)
def b_distance : Sms := (.cons (.exp (.call 0 (.cons (.var 0) (.cons (.var 1) .nil)))) (.cons (.exp (.call 0 (.cons (.var 0) (.cons (.var 2) .nil)))) (.cons (.ret (.call 1 (.cons (.var 1) (.cons (.var 2) .nil)))) .nil)))
def g_distance : List D := []
def T_distance (dr : DrT) : List Callee := [⟨false, F_check_labels dr⟩, ⟨false, F_apart dr⟩]
def F_distance (dr : DrT) : DrT := runD (T_distance dr) g_distance false 3 3 b_distance
theorem leT_distance {ns1 ns2 : List Int} {d1 d2 : DrT} (h : CalLe ns1 ns2 ⟨true, d1⟩ ⟨true, d2⟩) : CalsLe ns1 ns2 (T_distance d1) (T_distance d2) := (.cons (le_check_labels h) (.cons (le_apart h) .nil))
theorem le_distance {ns1 ns2 : List Int} {d1 d2 : DrT} (h : CalLe ns1 ns2 ⟨true, d1⟩ ⟨true, d2⟩) : CalLe ns1 ns2 ⟨false, F_distance d1⟩ ⟨false, F_distance d2⟩ := runD_le (leT_distance h)
def b_nearest_proper : Sms := (.cons (.exp (.call 0 (.cons (.var 0) (.cons (.var 1) .nil)))) (.cons (.new 2 (.lst .nil)) (.cons (.for' (.tp [3, 4]) (.zip (.call 1 (.cons (.var 0) .nil)) (.var 1)) (.cons (.app 2 (.ite (.call 2 (.cons (.var 3) (.cons (.var 4) .nil))) (.var 4) (.idx (.call 3 (.cons (.var 3) .nil)) (.con (.int 0))))) .nil)) (.cons (.shr 2) (.cons (.ret (.prim .tuple (.cons (.var 2) .nil))) .nil)))))
def g_nearest_proper : List D := []
def T_nearest_proper (dr : DrT) : List Callee := [⟨false, F_check_labels dr⟩, ⟨false, F_point_list dr⟩, ⟨false, F_fits dr⟩, ⟨false, F_choices_at dr⟩]
def F_nearest_proper (dr : DrT) : DrT := runD (T_nearest_proper dr) g_nearest_proper false 2 5 b_nearest_proper
theorem leT_nearest_proper {ns1 ns2 : List Int} {d1 d2 : DrT} (h : CalLe ns1 ns2 ⟨true, d1⟩ ⟨true, d2⟩) : CalsLe ns1 ns2 (T_nearest_proper d1) (T_nearest_proper d2) := (.cons (le_check_labels h) (.cons (le_point_list h) (.cons (le_fits h) (.cons (le_choices_at h) .nil))))
theorem le_nearest_proper {ns1 ns2 : List Int} {d1 d2 : DrT} (h : CalLe ns1 ns2 ⟨true, d1⟩ ⟨true, d2⟩) : CalLe ns1 ns2 ⟨false, F_nearest_proper d1⟩ ⟨false, F_nearest_proper d2⟩ := runD_le (leT_nearest_proper h)
def b_fewest_full : Sms := (.cons (.ife (.not (.call 0 (.cons (.var 0) (.cons (.con (.int 1)) (.cons (.con (.int 3)) .nil))))) (.cons (.rse 1) .nil) .nil) (.cons (.exp (.call 1 (.cons (.var 0) (.cons (.var 1) .nil)))) (.cons (.asg 2 (.comp [3] (.nm 3) (.seq (.call 3 (.cons (.var 0) .nil))) (.some (.cmp .eq (.prim .len (.cons (.call 2 (.cons (.var 0) (.cons (.var 3) .nil))) .nil)) (.con (.int 1)))) (.var 3))) (.cons (.ret (.idx (.prim .min1 (.cons (.comp [3] (.nm 3) (.seq (.var 2)) .none (.tup (.cons (.call 4 (.cons (.var 1) (.cons (.var 3) .nil))) (.cons (.var 3) .nil)))) .nil)) (.con (.int 1)))) .nil))))
def g_fewest_full : List D := []
def T_fewest_full (dr : DrT) : List Callee := [⟨false, F_is_integer dr⟩, ⟨false, F_check_labels dr⟩, ⟨false, F_full_list dr⟩, ⟨false, F_proper_list dr⟩, ⟨false, F_apart dr⟩]
def F_fewest_full (dr : DrT) : DrT := runD (T_fewest_full dr) g_fewest_full false 2 4 b_fewest_full
theorem leT_fewest_full {ns1 ns2 : List Int} {d1 d2 : DrT} (h : CalLe ns1 ns2 ⟨true, d1⟩ ⟨true, d2⟩) : CalsLe ns1 ns2 (T_fewest_full d1) (T_fewest_full d2) := (.cons (le_is_integer h) (.cons (le_check_labels h) (.cons (le_full_list h) (.cons (le_proper_list h) (.cons (le_apart h) .nil)))))
theorem le_fewest_full {ns1 ns2 : List Int} {d1 d2 : DrT} (h : CalLe ns1 ns2 ⟨true, d1⟩ ⟨true, d2⟩) : CalLe ns1 ns2 ⟨false, F_fewest_full d1⟩ ⟨false, F_fewest_full d2⟩ := runD_le (leT_fewest_full h)
def b_fewest_inside : Sms := (.cons (.ife (.not (.call 0 (.cons (.var 0) (.cons (.con (.int 1)) (.cons (.con (.int 5)) .nil))))) (.cons (.rse 1) .nil) .nil) (.cons (.exp (.call 1 (.cons (.var 0) (.cons (.var 1) .nil)))) (.cons (.asg 2 (.lst (.cons (.tup .nil) .nil))) (.cons (.for' (.tp [3, 4]) (.zip (.call 2 (.cons (.var 0) .nil)) (.var 1)) (.cons (.new 5 (.lst .nil)) (.cons (.for' (.nm 6) (.seq (.var 2)) (.cons (.ext 5 (.comp [7] (.nm 7) (.rng1 (.con (.int 3))) (.some (.or (.cmp .gt (.prim .min1 (.cons (.var 3) .nil)) (.con (.int 0))) (.cmp .eq (.var 7) (.var 4)))) (.bin .add (.var 6) (.tup (.cons (.var 7) .nil))))) .nil)) (.cons (.shr 5) (.cons (.asg 2 (.var 5)) .nil))))) (.cons (.ret (.prim .min1 (.cons (.comp [6] (.nm 6) (.seq (.var 2)) .none (.prim .len (.cons (.call 3 (.cons (.var 0) (.cons (.var 6) .nil))) .nil))) .nil))) .nil)))))
def g_fewest_inside : List D := []
def T_fewest_inside (dr : DrT) : List Callee := [⟨false, F_is_integer dr⟩, ⟨false, F_check_labels dr⟩, ⟨false, F_point_list dr⟩, ⟨false, F_full_list dr⟩]
def F_fewest_inside (dr : DrT) : DrT := runD (T_fewest_inside dr) g_fewest_inside false 2 8 b_fewest_inside
theorem leT_fewest_inside {ns1 ns2 : List Int} {d1 d2 : DrT} (h : CalLe ns1 ns2 ⟨true, d1⟩ ⟨true, d2⟩) : CalsLe ns1 ns2 (T_fewest_inside d1) (T_fewest_inside d2) := (.cons (le_is_integer h) (.cons (le_check_labels h) (.cons (le_point_list h) (.cons (le_full_list h) .nil))))
theorem le_fewest_inside {ns1 ns2 : List Int} {d1 d2 : DrT} (h : CalLe ns1 ns2 ⟨true, d1⟩ ⟨true, d2⟩) : CalLe ns1 ns2 ⟨false, F_fewest_inside d1⟩ ⟨false, F_fewest_inside d2⟩ := runD_le (leT_fewest_inside h)
def b_check_pair : Sms := (.cons (.exp (.call 0 (.cons (.var 0) (.cons (.var 1) .nil)))) (.cons (.ife (.or (.not (.isi .tuple (.var 2))) (.or (.cmp .ne (.prim .len (.cons (.var 2) .nil)) (.con (.int 2))) (.not (.prim .all (.cons (.comp [3] (.nm 3) (.seq (.var 2)) .none (.call 1 (.cons (.var 3) (.cons (.con (.int 0)) (.cons (.con (.int 2)) .nil))))) .nil))))) (.cons (.rse 6) .nil) .nil) (.cons (.ife (.cmp .ge (.idx (.var 2) (.con (.int 0))) (.idx (.var 2) (.con (.int 1)))) (.cons (.rse 6) .nil) .nil) .nil)))
def g_check_pair : List D := []
def T_check_pair (dr : DrT) : List Callee := [⟨false, F_check_labels dr⟩, ⟨false, F_is_integer dr⟩]
def F_check_pair (dr : DrT) : DrT := runD (T_check_pair dr) g_check_pair false 3 4 b_check_pair
theorem leT_check_pair {ns1 ns2 : List Int} {d1 d2 : DrT} (h : CalLe ns1 ns2 ⟨true, d1⟩ ⟨true, d2⟩) : CalsLe ns1 ns2 (T_check_pair d1) (T_check_pair d2) := (.cons (le_check_labels h) (.cons (le_is_integer h) .nil))
theorem le_check_pair {ns1 ns2 : List Int} {d1 d2 : DrT} (h : CalLe ns1 ns2 ⟨true, d1⟩ ⟨true, d2⟩) : CalLe ns1 ns2 ⟨false, F_check_pair d1⟩ ⟨false, F_check_pair d2⟩ := runD_le (leT_check_pair h)
def b_is_door : Sms := (.cons (.ret (.cmp .eq (.prim .sorted (.cons (.comp [3] (.nm 3) (.seq (.var 2)) .none (.idx (.var 0) (.var 3))) .nil)) (.prim .list (.cons (.var 1) .nil)))) .nil)
def g_is_door : List D := []
def T_is_door (dr : DrT) : List Callee := []
def F_is_door (dr : DrT) : DrT := runD (T_is_door dr) g_is_door false 3 4 b_is_door
theorem leT_is_door {ns1 ns2 : List Int} {d1 d2 : DrT} (h : CalLe ns1 ns2 ⟨true, d1⟩ ⟨true, d2⟩) : CalsLe ns1 ns2 (T_is_door d1) (T_is_door d2) := .nil
theorem le_is_door {ns1 ns2 : List Int} {d1 d2 : DrT} (h : CalLe ns1 ns2 ⟨true, d1⟩ ⟨true, d2⟩) : CalLe ns1 ns2 ⟨false, F_is_door d1⟩ ⟨false, F_is_door d2⟩ := runD_le (leT_is_door h)
def b_outer_list : Sms := (.cons (.ret (.comp [3] (.nm 3) (.seq (.call 1 (.cons (.var 0) .nil))) (.some (.call 0 (.cons (.var 1) (.cons (.var 2) (.cons (.var 3) .nil))))) (.var 3))) .nil)
def g_outer_list : List D := []
def T_outer_list (dr : DrT) : List Callee := [⟨false, F_is_door dr⟩, ⟨false, F_outer_edges dr⟩]
def F_outer_list (dr : DrT) : DrT := runD (T_outer_list dr) g_outer_list false 3 4 b_outer_list
theorem leT_outer_list {ns1 ns2 : List Int} {d1 d2 : DrT} (h : CalLe ns1 ns2 ⟨true, d1⟩ ⟨true, d2⟩) : CalsLe ns1 ns2 (T_outer_list d1) (T_outer_list d2) := (.cons (le_is_door h) (.cons (le_outer_edges h) .nil))
theorem le_outer_list {ns1 ns2 : List Int} {d1 d2 : DrT} (h : CalLe ns1 ns2 ⟨true, d1⟩ ⟨true, d2⟩) : CalLe ns1 ns2 ⟨false, F_outer_list d1⟩ ⟨false, F_outer_list d2⟩ := runD_le (leT_outer_list h)
def b_outer_doors : Sms := (.cons (.exp (.call 0 (.cons (.var 0) (.cons (.var 1) (.cons (.var 2) .nil))))) (.cons (.ret (.call 1 (.cons (.var 0) (.cons (.call 2 (.cons (.var 0) (.cons (.var 1) .nil))) (.cons (.var 2) .nil))))) .nil))
def g_outer_doors : List D := []
def T_outer_doors (dr : DrT) : List Callee := [⟨false, F_check_pair dr⟩, ⟨false, F_outer_list dr⟩, ⟨false, F_table_of dr⟩]
def F_outer_doors (dr : DrT) : DrT := runD (T_outer_doors dr) g_outer_doors false 3 3 b_outer_doors
theorem leT_outer_doors {ns1 ns2 : List Int} {d1 d2 : DrT} (h : CalLe ns1 ns2 ⟨true, d1⟩ ⟨true, d2⟩) : CalsLe ns1 ns2 (T_outer_doors d1) (T_outer_doors d2) := (.cons (le_check_pair h) (.cons (le_outer_list h) (.cons (le_table_of h) .nil)))
theorem le_outer_doors {ns1 ns2 : List Int} {d1 d2 : DrT} (h : CalLe ns1 ns2 ⟨true, d1⟩ ⟨true, d2⟩) : CalLe ns1 ns2 ⟨false, F_outer_doors d1⟩ ⟨false, F_outer_doors d2⟩ := runD_le (leT_outer_doors h)


def b_owner_of : Sms := (.cons (.ret (.bin .mod (.bin .add (.idx (.var 0) (.con (.int 0))) (.bin .mul (.con (.int 2)) (.idx (.var 0) (.con (.int 1))))) (.con (.int 3)))) .nil)
def g_owner_of : List D := []
def T_owner_of (dr : DrT) : List Callee := []
def F_owner_of (dr : DrT) : DrT := runD (T_owner_of dr) g_owner_of false 1 1 b_owner_of
theorem leT_owner_of {ns1 ns2 : List Int} {d1 d2 : DrT} (h : CalLe ns1 ns2 ⟨true, d1⟩ ⟨true, d2⟩) : CalsLe ns1 ns2 (T_owner_of d1) (T_owner_of d2) := .nil
theorem le_owner_of {ns1 ns2 : List Int} {d1 d2 : DrT} (h : CalLe ns1 ns2 ⟨true, d1⟩ ⟨true, d2⟩) : CalLe ns1 ns2 ⟨false, F_owner_of d1⟩ ⟨false, F_owner_of d2⟩ := runD_le (leT_owner_of h)
def b_owner : Sms := (.cons (.exp (.call 0 (.cons (.var 0) (.cons (.var 1) .nil)))) (.cons (.ret (.call 1 (.cons (.var 1) .nil))) .nil))
def g_owner : List D := []
def T_owner (dr : DrT) : List Callee := [⟨false, F_check_point dr⟩, ⟨false, F_owner_of dr⟩]
def F_owner (dr : DrT) : DrT := runD (T_owner dr) g_owner false 2 2 b_owner
theorem leT_owner {ns1 ns2 : List Int} {d1 d2 : DrT} (h : CalLe ns1 ns2 ⟨true, d1⟩ ⟨true, d2⟩) : CalsLe ns1 ns2 (T_owner d1) (T_owner d2) := (.cons (le_check_point h) (.cons (le_owner_of h) .nil))
theorem le_owner {ns1 ns2 : List Int} {d1 d2 : DrT} (h : CalLe ns1 ns2 ⟨true, d1⟩ ⟨true, d2⟩) : CalLe ns1 ns2 ⟨false, F_owner d1⟩ ⟨false, F_owner d2⟩ := runD_le (leT_owner h)
def b_check_preferences : Sms := (.cons (.exp (.call 0 (.cons (.var 0) .nil))) (.cons (.ife (.or (.not (.isi .tuple (.var 1))) (.cmp .ne (.prim .len (.cons (.var 1) .nil)) (.con (.int 3)))) (.cons (.rse 9) .nil) .nil) (.cons (.for' (.nm 2) (.seq (.var 1)) (.cons (.ife (.or (.not (.call 1 (.cons (.var 0) (.cons (.var 2) .nil)))) (.not (.call 2 (.cons (.var 0) (.cons (.var 2) .nil))))) (.cons (.rse 9) .nil) .nil) .nil)) .nil)))
def g_check_preferences : List D := []
def T_check_preferences (dr : DrT) : List Callee := [⟨false, F_check_size dr⟩, ⟨false, F_valid_labels dr⟩, ⟨false, F_proper_labels dr⟩]
def F_check_preferences (dr : DrT) : DrT := runD (T_check_preferences dr) g_check_preferences false 2 3 b_check_preferences
theorem leT_check_preferences {ns1 ns2 : List Int} {d1 d2 : DrT} (h : CalLe ns1 ns2 ⟨true, d1⟩ ⟨true, d2⟩) : CalsLe ns1 ns2 (T_check_preferences d1) (T_check_preferences d2) := (.cons (le_check_size h) (.cons (le_valid_labels h) (.cons (le_proper_labels h) .nil)))
theorem le_check_preferences {ns1 ns2 : List Int} {d1 d2 : DrT} (h : CalLe ns1 ns2 ⟨true, d1⟩ ⟨true, d2⟩) : CalLe ns1 ns2 ⟨false, F_check_preferences d1⟩ ⟨false, F_check_preferences d2⟩ := runD_le (leT_check_preferences h)
def b_mixed_labels : Sms := (.cons (.ret (.prim .tuple (.cons (.comp [2, 3] (.tp [2, 3]) (.enm (.call 0 (.cons (.var 0) .nil))) .none (.idx (.idx (.var 1) (.call 1 (.cons (.var 3) .nil))) (.var 2))) .nil))) .nil)
def g_mixed_labels : List D := []
def T_mixed_labels (dr : DrT) : List Callee := [⟨false, F_point_list dr⟩, ⟨false, F_owner_of dr⟩]
def F_mixed_labels (dr : DrT) : DrT := runD (T_mixed_labels dr) g_mixed_labels false 2 4 b_mixed_labels
theorem leT_mixed_labels {ns1 ns2 : List Int} {d1 d2 : DrT} (h : CalLe ns1 ns2 ⟨true, d1⟩ ⟨true, d2⟩) : CalsLe ns1 ns2 (T_mixed_labels d1) (T_mixed_labels d2) := (.cons (le_point_list h) (.cons (le_owner_of h) .nil))
theorem le_mixed_labels {ns1 ns2 : List Int} {d1 d2 : DrT} (h : CalLe ns1 ns2 ⟨true, d1⟩ ⟨true, d2⟩) : CalLe ns1 ns2 ⟨false, F_mixed_labels d1⟩ ⟨false, F_mixed_labels d2⟩ := runD_le (leT_mixed_labels h)
def b_mixed : Sms := (.cons (.exp (.call 0 (.cons (.var 0) (.cons (.var 1) .nil)))) (.cons (.ret (.call 1 (.cons (.var 0) (.cons (.var 1) .nil)))) .nil))
def g_mixed : List D := []
def T_mixed (dr : DrT) : List Callee := [⟨false, F_check_preferences dr⟩, ⟨false, F_mixed_labels dr⟩]
def F_mixed (dr : DrT) : DrT := runD (T_mixed dr) g_mixed false 2 2 b_mixed
theorem leT_mixed {ns1 ns2 : List Int} {d1 d2 : DrT} (h : CalLe ns1 ns2 ⟨true, d1⟩ ⟨true, d2⟩) : CalsLe ns1 ns2 (T_mixed d1) (T_mixed d2) := (.cons (le_check_preferences h) (.cons (le_mixed_labels h) .nil))
theorem le_mixed {ns1 ns2 : List Int} {d1 d2 : DrT} (h : CalLe ns1 ns2 ⟨true, d1⟩ ⟨true, d2⟩) : CalLe ns1 ns2 ⟨false, F_mixed d1⟩ ⟨false, F_mixed d2⟩ := runD_le (leT_mixed h)
def b_fair_triangles : Sms := (.cons (.exp (.call 0 (.cons (.var 0) (.cons (.var 1) .nil)))) (.cons (.asg 2 (.call 1 (.cons (.var 0) (.cons (.var 1) .nil)))) (.cons (.par [(4, false), (5, true)] (.cons (.call 2 (.cons (.var 0) (.cons (.var 2) .nil))) (.cons (.lst .nil) .nil))) (.cons (.for' (.nm 3) (.seq (.call 3 (.cons (.var 0) (.cons (.var 2) .nil)))) (.cons (.new 6 (.lst (.cons (.con (.int 0)) (.cons (.con (.int 0)) (.cons (.con (.int 0)) .nil))))) (.cons (.for' (.nm 7) (.seq (.var 3)) (.cons (.put 6 (.call 4 (.cons (.var 7) .nil)) (.idx (.var 4) (.var 7))) .nil)) (.cons (.shr 6) (.cons (.app 5 (.tup (.cons (.var 3) (.cons (.prim .tuple (.cons (.var 6) .nil)) .nil)))) .nil))))) (.cons (.shr 5) (.cons (.ret (.var 5)) .nil))))))
def g_fair_triangles : List D := []
def T_fair_triangles (dr : DrT) : List Callee := [⟨false, F_check_preferences dr⟩, ⟨false, F_mixed_labels dr⟩, ⟨false, F_table_of dr⟩, ⟨false, F_full_list dr⟩, ⟨false, F_owner_of dr⟩]
def F_fair_triangles (dr : DrT) : DrT := runD (T_fair_triangles dr) g_fair_triangles false 2 8 b_fair_triangles
theorem leT_fair_triangles {ns1 ns2 : List Int} {d1 d2 : DrT} (h : CalLe ns1 ns2 ⟨true, d1⟩ ⟨true, d2⟩) : CalsLe ns1 ns2 (T_fair_triangles d1) (T_fair_triangles d2) := (.cons (le_check_preferences h) (.cons (le_mixed_labels h) (.cons (le_table_of h) (.cons (le_full_list h) (.cons (le_owner_of h) .nil)))))
theorem le_fair_triangles {ns1 ns2 : List Int} {d1 d2 : DrT} (h : CalLe ns1 ns2 ⟨true, d1⟩ ⟨true, d2⟩) : CalLe ns1 ns2 ⟨false, F_fair_triangles d1⟩ ⟨false, F_fair_triangles d2⟩ := runD_le (leT_fair_triangles h)
def b_check_images : Sms := (.cons (.exp (.call 0 (.cons (.var 0) .nil))) (.cons (.ife (.or (.not (.isi .tuple (.var 1))) (.cmp .ne (.prim .len (.cons (.var 1) .nil)) (.bin .fdiv (.bin .mul (.bin .add (.var 0) (.con (.int 1))) (.bin .add (.var 0) (.con (.int 2)))) (.con (.int 2))))) (.cons (.rse 10) .nil) .nil) (.cons (.ife (.not (.prim .all (.cons (.comp [2] (.nm 2) (.seq (.var 1)) .none (.call 1 (.cons (.var 0) (.cons (.var 2) .nil)))) .nil))) (.cons (.rse 10) .nil) .nil) .nil)))
def g_check_images : List D := []
def T_check_images (dr : DrT) : List Callee := [⟨false, F_check_size dr⟩, ⟨false, F_is_point dr⟩]
def F_check_images (dr : DrT) : DrT := runD (T_check_images dr) g_check_images false 2 3 b_check_images
theorem leT_check_images {ns1 ns2 : List Int} {d1 d2 : DrT} (h : CalLe ns1 ns2 ⟨true, d1⟩ ⟨true, d2⟩) : CalsLe ns1 ns2 (T_check_images d1) (T_check_images d2) := (.cons (le_check_size h) (.cons (le_is_point h) .nil))
theorem le_check_images {ns1 ns2 : List Int} {d1 d2 : DrT} (h : CalLe ns1 ns2 ⟨true, d1⟩ ⟨true, d2⟩) : CalLe ns1 ns2 ⟨false, F_check_images d1⟩ ⟨false, F_check_images d2⟩ := runD_le (leT_check_images h)
def b_label_of : Sms := (.cons (.ret (.idx (.comp [2] (.nm 2) (.rng1 (.con (.int 3))) (.some (.and (.cmp .gt (.idx (.var 0) (.var 2)) (.con (.int 0))) (.cmp .le (.idx (.var 1) (.var 2)) (.idx (.var 0) (.var 2))))) (.var 2)) (.con (.int 0)))) .nil)
def g_label_of : List D := []
def T_label_of (dr : DrT) : List Callee := []
def F_label_of (dr : DrT) : DrT := runD (T_label_of dr) g_label_of false 2 3 b_label_of
theorem leT_label_of {ns1 ns2 : List Int} {d1 d2 : DrT} (h : CalLe ns1 ns2 ⟨true, d1⟩ ⟨true, d2⟩) : CalsLe ns1 ns2 (T_label_of d1) (T_label_of d2) := .nil
theorem le_label_of {ns1 ns2 : List Int} {d1 d2 : DrT} (h : CalLe ns1 ns2 ⟨true, d1⟩ ⟨true, d2⟩) : CalLe ns1 ns2 ⟨false, F_label_of d1⟩ ⟨false, F_label_of d2⟩ := runD_le (leT_label_of h)
def b_map_labels : Sms := (.cons (.ret (.prim .tuple (.cons (.comp [2, 3] (.tp [2, 3]) (.zip (.call 0 (.cons (.var 0) .nil)) (.var 1)) .none (.call 1 (.cons (.var 2) (.cons (.var 3) .nil)))) .nil))) .nil)
def g_map_labels : List D := []
def T_map_labels (dr : DrT) : List Callee := [⟨false, F_point_list dr⟩, ⟨false, F_label_of dr⟩]
def F_map_labels (dr : DrT) : DrT := runD (T_map_labels dr) g_map_labels false 2 4 b_map_labels
theorem leT_map_labels {ns1 ns2 : List Int} {d1 d2 : DrT} (h : CalLe ns1 ns2 ⟨true, d1⟩ ⟨true, d2⟩) : CalsLe ns1 ns2 (T_map_labels d1) (T_map_labels d2) := (.cons (le_point_list h) (.cons (le_label_of h) .nil))
theorem le_map_labels {ns1 ns2 : List Int} {d1 d2 : DrT} (h : CalLe ns1 ns2 ⟨true, d1⟩ ⟨true, d2⟩) : CalLe ns1 ns2 ⟨false, F_map_labels d1⟩ ⟨false, F_map_labels d2⟩ := runD_le (leT_map_labels h)
def b_labels_of : Sms := (.cons (.exp (.call 0 (.cons (.var 0) (.cons (.var 1) .nil)))) (.cons (.ret (.call 1 (.cons (.var 0) (.cons (.var 1) .nil)))) .nil))
def g_labels_of : List D := []
def T_labels_of (dr : DrT) : List Callee := [⟨false, F_check_images dr⟩, ⟨false, F_map_labels dr⟩]
def F_labels_of (dr : DrT) : DrT := runD (T_labels_of dr) g_labels_of false 2 2 b_labels_of
theorem leT_labels_of {ns1 ns2 : List Int} {d1 d2 : DrT} (h : CalLe ns1 ns2 ⟨true, d1⟩ ⟨true, d2⟩) : CalsLe ns1 ns2 (T_labels_of d1) (T_labels_of d2) := (.cons (le_check_images h) (.cons (le_map_labels h) .nil))
theorem le_labels_of {ns1 ns2 : List Int} {d1 d2 : DrT} (h : CalLe ns1 ns2 ⟨true, d1⟩ ⟨true, d2⟩) : CalLe ns1 ns2 ⟨false, F_labels_of d1⟩ ⟨false, F_labels_of d2⟩ := runD_le (leT_labels_of h)
def b_still_triangles : Sms := (.cons (.exp (.call 0 (.cons (.var 0) (.cons (.var 1) .nil)))) (.cons (.ret (.call 1 (.cons (.var 0) (.cons (.call 2 (.cons (.var 0) (.cons (.var 1) .nil))) .nil)))) .nil))
def g_still_triangles : List D := []
def T_still_triangles (dr : DrT) : List Callee := [⟨false, F_check_images dr⟩, ⟨false, F_full_list dr⟩, ⟨false, F_map_labels dr⟩]
def F_still_triangles (dr : DrT) : DrT := runD (T_still_triangles dr) g_still_triangles false 2 2 b_still_triangles
theorem leT_still_triangles {ns1 ns2 : List Int} {d1 d2 : DrT} (h : CalLe ns1 ns2 ⟨true, d1⟩ ⟨true, d2⟩) : CalsLe ns1 ns2 (T_still_triangles d1) (T_still_triangles d2) := (.cons (le_check_images h) (.cons (le_full_list h) (.cons (le_map_labels h) .nil)))
theorem le_still_triangles {ns1 ns2 : List Int} {d1 d2 : DrT} (h : CalLe ns1 ns2 ⟨true, d1⟩ ⟨true, d2⟩) : CalLe ns1 ns2 ⟨false, F_still_triangles d1⟩ ⟨false, F_still_triangles d2⟩ := runD_le (leT_still_triangles h)


def b__law_pick : Sms := (.cons (.ret (.idx (.var 2) (.callT 0 (.cons (.prim .len (.cons (.var 2) .nil)) .nil)))) .nil)
def g__law_pick : List D := []
def T__law_pick (dr : DrT) : List Callee := [⟨true, dr⟩]
def F__law_pick (dr : DrT) : DrT := runD (T__law_pick dr) g__law_pick true 1 3 b__law_pick
theorem leT__law_pick {ns1 ns2 : List Int} {d1 d2 : DrT} (h : CalLe ns1 ns2 ⟨true, d1⟩ ⟨true, d2⟩) : CalsLe ns1 ns2 (T__law_pick d1) (T__law_pick d2) := (.cons h .nil)
theorem le__law_pick {ns1 ns2 : List Int} {d1 d2 : DrT} (h : CalLe ns1 ns2 ⟨true, d1⟩ ⟨true, d2⟩) : CalLe ns1 ns2 ⟨true, F__law_pick d1⟩ ⟨true, F__law_pick d2⟩ := runD_le (leT__law_pick h)
def b__law_places : Sms := (.cons (.new 1 (.lst .nil)) (.cons (.for' (.nm 2) (.rng1 (.bin .add (.var 0) (.con (.int 1)))) (.cons (.ext 1 (.comp [3] (.nm 3) (.rng1 (.bin .sub (.bin .add (.var 0) (.con (.int 1))) (.var 2))) .none (.tup (.cons (.var 2) (.cons (.var 3) (.cons (.bin .sub (.bin .sub (.var 0) (.var 2)) (.var 3)) .nil)))))) .nil)) (.cons (.shr 1) (.cons (.ret (.var 1)) .nil))))
def g__law_places : List D := []
def T__law_places (dr : DrT) : List Callee := []
def F__law_places (dr : DrT) : DrT := runD (T__law_places dr) g__law_places false 1 4 b__law_places
theorem leT__law_places {ns1 ns2 : List Int} {d1 d2 : DrT} (h : CalLe ns1 ns2 ⟨true, d1⟩ ⟨true, d2⟩) : CalsLe ns1 ns2 (T__law_places d1) (T__law_places d2) := .nil
theorem le__law_places {ns1 ns2 : List Int} {d1 d2 : DrT} (h : CalLe ns1 ns2 ⟨true, d1⟩ ⟨true, d2⟩) : CalLe ns1 ns2 ⟨false, F__law_places d1⟩ ⟨false, F__law_places d2⟩ := runD_le (leT__law_places h)
def b__law_near : Sms := (.cons (.ret (.cmp .eq (.prim .sorted (.cons (.comp [2, 3] (.tp [2, 3]) (.zip (.var 0) (.var 1)) .none (.bin .sub (.var 2) (.var 3))) .nil)) (.lst (.cons (.neg (.con (.int 1))) (.cons (.con (.int 0)) (.cons (.con (.int 1)) .nil)))))) .nil)
def g__law_near : List D := []
def T__law_near (dr : DrT) : List Callee := []
def F__law_near (dr : DrT) : DrT := runD (T__law_near dr) g__law_near false 2 4 b__law_near
theorem leT__law_near {ns1 ns2 : List Int} {d1 d2 : DrT} (h : CalLe ns1 ns2 ⟨true, d1⟩ ⟨true, d2⟩) : CalsLe ns1 ns2 (T__law_near d1) (T__law_near d2) := .nil
theorem le__law_near {ns1 ns2 : List Int} {d1 d2 : DrT} (h : CalLe ns1 ns2 ⟨true, d1⟩ ⟨true, d2⟩) : CalLe ns1 ns2 ⟨false, F__law_near d1⟩ ⟨false, F__law_near d2⟩ := runD_le (leT__law_near h)
def b__law_cells : Sms := (.cons (.new 1 (.lst .nil)) (.cons (.for' (.tp [2, 3, 4]) (.seq (.call 0 (.cons (.bin .sub (.var 0) (.con (.int 1))) .nil))) (.cons (.app 1 (.prim .tuple (.cons (.prim .sorted (.cons (.lst (.cons (.tup (.cons (.bin .add (.var 2) (.con (.int 1))) (.cons (.var 3) (.cons (.var 4) .nil)))) (.cons (.tup (.cons (.var 2) (.cons (.bin .add (.var 3) (.con (.int 1))) (.cons (.var 4) .nil)))) (.cons (.tup (.cons (.var 2) (.cons (.var 3) (.cons (.bin .add (.var 4) (.con (.int 1))) .nil)))) .nil)))) .nil)) .nil))) .nil)) (.cons (.ife (.cmp .gt (.var 0) (.con (.int 1))) (.cons (.for' (.tp [2, 3, 4]) (.seq (.call 0 (.cons (.bin .sub (.var 0) (.con (.int 2))) .nil))) (.cons (.app 1 (.prim .tuple (.cons (.prim .sorted (.cons (.lst (.cons (.tup (.cons (.var 2) (.cons (.bin .add (.var 3) (.con (.int 1))) (.cons (.bin .add (.var 4) (.con (.int 1))) .nil)))) (.cons (.tup (.cons (.bin .add (.var 2) (.con (.int 1))) (.cons (.var 3) (.cons (.bin .add (.var 4) (.con (.int 1))) .nil)))) (.cons (.tup (.cons (.bin .add (.var 2) (.con (.int 1))) (.cons (.bin .add (.var 3) (.con (.int 1))) (.cons (.var 4) .nil)))) .nil)))) .nil)) .nil))) .nil)) .nil) .nil) (.cons (.shr 1) (.cons (.ret (.prim .sorted (.cons (.var 1) .nil))) .nil)))))
def g__law_cells : List D := []
def T__law_cells (dr : DrT) : List Callee := [⟨false, F__law_places dr⟩]
def F__law_cells (dr : DrT) : DrT := runD (T__law_cells dr) g__law_cells false 1 5 b__law_cells
theorem leT__law_cells {ns1 ns2 : List Int} {d1 d2 : DrT} (h : CalLe ns1 ns2 ⟨true, d1⟩ ⟨true, d2⟩) : CalsLe ns1 ns2 (T__law_cells d1) (T__law_cells d2) := (.cons (le__law_places h) .nil)
theorem le__law_cells {ns1 ns2 : List Int} {d1 d2 : DrT} (h : CalLe ns1 ns2 ⟨true, d1⟩ ⟨true, d2⟩) : CalLe ns1 ns2 ⟨false, F__law_cells d1⟩ ⟨false, F__law_cells d2⟩ := runD_le (leT__law_cells h)
def b__law_around : Sms := (.cons (.asg 1 (.bin .add (.comp [2] (.nm 2) (.rng1 (.var 0)) .none (.tup (.cons (.bin .sub (.var 0) (.var 2)) (.cons (.var 2) (.cons (.con (.int 0)) .nil))))) (.comp [2] (.nm 2) (.rng1 (.var 0)) .none (.tup (.cons (.con (.int 0)) (.cons (.bin .sub (.var 0) (.var 2)) (.cons (.var 2) .nil))))))) (.cons (.ret (.bin .add (.var 1) (.comp [2] (.nm 2) (.rng1 (.var 0)) .none (.tup (.cons (.var 2) (.cons (.con (.int 0)) (.cons (.bin .sub (.var 0) (.var 2)) .nil))))))) .nil))
def g__law_around : List D := []
def T__law_around (dr : DrT) : List Callee := []
def F__law_around (dr : DrT) : DrT := runD (T__law_around dr) g__law_around false 1 3 b__law_around
theorem leT__law_around {ns1 ns2 : List Int} {d1 d2 : DrT} (h : CalLe ns1 ns2 ⟨true, d1⟩ ⟨true, d2⟩) : CalsLe ns1 ns2 (T__law_around d1) (T__law_around d2) := .nil
theorem le__law_around {ns1 ns2 : List Int} {d1 d2 : DrT} (h : CalLe ns1 ns2 ⟨true, d1⟩ ⟨true, d2⟩) : CalLe ns1 ns2 ⟨false, F__law_around d1⟩ ⟨false, F__law_around d2⟩ := runD_le (leT__law_around h)
def b__law_same_truth : Sms := (.cons (.ret (.and (.isi .bool (.var 0)) (.cmp .eq (.var 0) (.var 1)))) .nil)
def g__law_same_truth : List D := []
def T__law_same_truth (dr : DrT) : List Callee := []
def F__law_same_truth (dr : DrT) : DrT := runD (T__law_same_truth dr) g__law_same_truth false 2 2 b__law_same_truth
theorem leT__law_same_truth {ns1 ns2 : List Int} {d1 d2 : DrT} (h : CalLe ns1 ns2 ⟨true, d1⟩ ⟨true, d2⟩) : CalsLe ns1 ns2 (T__law_same_truth d1) (T__law_same_truth d2) := .nil
theorem le__law_same_truth {ns1 ns2 : List Int} {d1 d2 : DrT} (h : CalLe ns1 ns2 ⟨true, d1⟩ ⟨true, d2⟩) : CalLe ns1 ns2 ⟨false, F__law_same_truth d1⟩ ⟨false, F__law_same_truth d2⟩ := runD_le (leT__law_same_truth h)
def b__law_labelling : Sms := (.cons (.asg 4 (.callT 0 (.cons (.con (.int 4)) .nil))) (.cons (.new 5 (.lst .nil)) (.cons (.for' (.nm 6) (.seq (.call 1 (.cons (.var 2) .nil))) (.cons (.asg 7 (.comp [8] (.nm 8) (.rng1 (.con (.int 3))) (.some (.or (.cmp .gt (.idx (.var 6) (.var 8)) (.con (.int 0))) (.not (.var 3)))) (.var 8))) (.cons (.ife (.and (.cmp .isin (.var 4) (.var 7)) (.cmp .eq (.callT 0 (.cons (.con (.int 2)) .nil)) (.con (.int 0)))) (.cons (.asg 7 (.lst (.cons (.var 4) .nil))) .nil) .nil) (.cons (.app 5 (.callT 2 (.cons (.var 7) .nil))) .nil)))) (.cons (.shr 5) (.cons (.ret (.prim .tuple (.cons (.var 5) .nil))) .nil)))))
def g__law_labelling : List D := []
def T__law_labelling (dr : DrT) : List Callee := [⟨true, dr⟩, ⟨false, F__law_places dr⟩, ⟨true, F__law_pick dr⟩]
def F__law_labelling (dr : DrT) : DrT := runD (T__law_labelling dr) g__law_labelling true 2 9 b__law_labelling
theorem leT__law_labelling {ns1 ns2 : List Int} {d1 d2 : DrT} (h : CalLe ns1 ns2 ⟨true, d1⟩ ⟨true, d2⟩) : CalsLe ns1 ns2 (T__law_labelling d1) (T__law_labelling d2) := (.cons h (.cons (le__law_places h) (.cons (le__law_pick h) .nil)))
theorem le__law_labelling {ns1 ns2 : List Int} {d1 d2 : DrT} (h : CalLe ns1 ns2 ⟨true, d1⟩ ⟨true, d2⟩) : CalLe ns1 ns2 ⟨true, F__law_labelling d1⟩ ⟨true, F__law_labelling d2⟩ := runD_le (leT__law_labelling h)
def b__law_by_point : Sms := (.cons (.new 2 (.dct .nil .nil)) (.cons (.for' (.tp [3, 4]) (.zip (.call 0 (.cons (.var 0) .nil)) (.var 1)) (.cons (.put 2 (.var 3) (.var 4)) .nil)) (.cons (.shr 2) (.cons (.ret (.var 2)) .nil))))
def g__law_by_point : List D := []
def T__law_by_point (dr : DrT) : List Callee := [⟨false, F__law_places dr⟩]
def F__law_by_point (dr : DrT) : DrT := runD (T__law_by_point dr) g__law_by_point false 2 5 b__law_by_point
theorem leT__law_by_point {ns1 ns2 : List Int} {d1 d2 : DrT} (h : CalLe ns1 ns2 ⟨true, d1⟩ ⟨true, d2⟩) : CalsLe ns1 ns2 (T__law_by_point d1) (T__law_by_point d2) := (.cons (le__law_places h) .nil)
theorem le__law_by_point {ns1 ns2 : List Int} {d1 d2 : DrT} (h : CalLe ns1 ns2 ⟨true, d1⟩ ⟨true, d2⟩) : CalLe ns1 ns2 ⟨false, F__law_by_point d1⟩ ⟨false, F__law_by_point d2⟩ := runD_le (leT__law_by_point h)
def b__law_full_here : Sms := (.cons (.ret (.cmp .eq (.prim .sorted (.cons (.comp [2] (.nm 2) (.seq (.var 1)) .none (.idx (.var 0) (.var 2))) .nil)) (.lst (.cons (.con (.int 0)) (.cons (.con (.int 1)) (.cons (.con (.int 2)) .nil)))))) .nil)
def g__law_full_here : List D := []
def T__law_full_here (dr : DrT) : List Callee := []
def F__law_full_here (dr : DrT) : DrT := runD (T__law_full_here dr) g__law_full_here false 2 3 b__law_full_here
theorem leT__law_full_here {ns1 ns2 : List Int} {d1 d2 : DrT} (h : CalLe ns1 ns2 ⟨true, d1⟩ ⟨true, d2⟩) : CalsLe ns1 ns2 (T__law_full_here d1) (T__law_full_here d2) := .nil
theorem le__law_full_here {ns1 ns2 : List Int} {d1 d2 : DrT} (h : CalLe ns1 ns2 ⟨true, d1⟩ ⟨true, d2⟩) : CalLe ns1 ns2 ⟨false, F__law_full_here d1⟩ ⟨false, F__law_full_here d2⟩ := runD_le (leT__law_full_here h)
def b__law_same_number : Sms := (.cons (.ret (.and (.isi .int (.var 0)) (.and (.not (.isi .bool (.var 0))) (.cmp .eq (.var 0) (.var 1))))) .nil)
def g__law_same_number : List D := []
def T__law_same_number (dr : DrT) : List Callee := []
def F__law_same_number (dr : DrT) : DrT := runD (T__law_same_number dr) g__law_same_number false 2 2 b__law_same_number
theorem leT__law_same_number {ns1 ns2 : List Int} {d1 d2 : DrT} (h : CalLe ns1 ns2 ⟨true, d1⟩ ⟨true, d2⟩) : CalsLe ns1 ns2 (T__law_same_number d1) (T__law_same_number d2) := .nil
theorem le__law_same_number {ns1 ns2 : List Int} {d1 d2 : DrT} (h : CalLe ns1 ns2 ⟨true, d1⟩ ⟨true, d2⟩) : CalLe ns1 ns2 ⟨false, F__law_same_number d1⟩ ⟨false, F__law_same_number d2⟩ := runD_le (leT__law_same_number h)
def b__law_sign_here : Sms := (.cons (.new 2 (.lst .nil)) (.cons (.for' (.nm 3) (.rng1 (.con (.int 3))) (.cons (.asg 4 (.comp [6] (.nm 6) (.seq (.var 1)) .none (.idx (.var 6) (.var 3)))) (.cons (.asg 5 (.ite (.cmp .eq (.mth .count (.var 4) (.cons (.prim .max1 (.cons (.var 4) .nil)) .nil)) (.con (.int 1))) (.prim .max1 (.cons (.var 4) .nil)) (.prim .min1 (.cons (.var 4) .nil)))) (.cons (.app 2 (.idx (.comp [6] (.nm 6) (.seq (.var 1)) (.some (.cmp .eq (.idx (.var 6) (.var 3)) (.var 5))) (.idx (.var 0) (.var 6))) (.con (.int 0)))) .nil)))) (.cons (.shr 2) (.cons (.ret (.ite (.cmp .isin (.var 2) (.tup (.cons (.lst (.cons (.con (.int 0)) (.cons (.con (.int 1)) (.cons (.con (.int 2)) .nil)))) (.cons (.lst (.cons (.con (.int 1)) (.cons (.con (.int 2)) (.cons (.con (.int 0)) .nil)))) (.cons (.lst (.cons (.con (.int 2)) (.cons (.con (.int 0)) (.cons (.con (.int 1)) .nil)))) .nil))))) (.con (.int 1)) (.neg (.con (.int 1))))) .nil))))
def g__law_sign_here : List D := []
def T__law_sign_here (dr : DrT) : List Callee := []
def F__law_sign_here (dr : DrT) : DrT := runD (T__law_sign_here dr) g__law_sign_here false 2 7 b__law_sign_here
theorem leT__law_sign_here {ns1 ns2 : List Int} {d1 d2 : DrT} (h : CalLe ns1 ns2 ⟨true, d1⟩ ⟨true, d2⟩) : CalsLe ns1 ns2 (T__law_sign_here d1) (T__law_sign_here d2) := .nil
theorem le__law_sign_here {ns1 ns2 : List Int} {d1 d2 : DrT} (h : CalLe ns1 ns2 ⟨true, d1⟩ ⟨true, d2⟩) : CalLe ns1 ns2 ⟨false, F__law_sign_here d1⟩ ⟨false, F__law_sign_here d2⟩ := runD_le (leT__law_sign_here h)
def b__law_wind : Sms := (.cons (.asg 2 (.comp [6] (.nm 6) (.seq (.call 0 (.cons (.var 0) .nil))) .none (.idx (.var 1) (.var 6)))) (.cons (.asg 3 (.con (.int 0))) (.cons (.for' (.tp [4, 5]) (.zip (.var 2) (.bin .add (.slc (.var 2) (.some (.con (.int 1))) .none) (.slc (.var 2) .none (.some (.con (.int 1)))))) (.cons (.aug 3 .add (.ite (.cmp .eq (.var 4) (.var 5)) (.con (.int 0)) (.ite (.cmp .isin (.tup (.cons (.var 4) (.cons (.var 5) .nil))) (.tup (.cons (.tup (.cons (.con (.int 0)) (.cons (.con (.int 1)) .nil))) (.cons (.tup (.cons (.con (.int 1)) (.cons (.con (.int 2)) .nil))) (.cons (.tup (.cons (.con (.int 2)) (.cons (.con (.int 0)) .nil))) .nil))))) (.con (.int 1)) (.neg (.con (.int 1)))))) .nil)) (.cons (.ret (.bin .fdiv (.var 3) (.con (.int 3)))) .nil))))
def g__law_wind : List D := []
def T__law_wind (dr : DrT) : List Callee := [⟨false, F__law_around dr⟩]
def F__law_wind (dr : DrT) : DrT := runD (T__law_wind dr) g__law_wind false 2 7 b__law_wind
theorem leT__law_wind {ns1 ns2 : List Int} {d1 d2 : DrT} (h : CalLe ns1 ns2 ⟨true, d1⟩ ⟨true, d2⟩) : CalsLe ns1 ns2 (T__law_wind d1) (T__law_wind d2) := (.cons (le__law_around h) .nil)
theorem le__law_wind {ns1 ns2 : List Int} {d1 d2 : DrT} (h : CalLe ns1 ns2 ⟨true, d1⟩ ⟨true, d2⟩) : CalLe ns1 ns2 ⟨false, F__law_wind d1⟩ ⟨false, F__law_wind d2⟩ := runD_le (leT__law_wind h)
def b__law_proper_rows : Sms := (.cons (.asg 1 (.lst (.cons (.tup .nil) .nil))) (.cons (.for' (.nm 2) (.seq (.call 0 (.cons (.var 0) .nil))) (.cons (.new 3 (.lst .nil)) (.cons (.for' (.nm 4) (.seq (.var 1)) (.cons (.ext 3 (.comp [5] (.nm 5) (.rng1 (.con (.int 3))) (.some (.cmp .gt (.idx (.var 2) (.var 5)) (.con (.int 0)))) (.bin .add (.var 4) (.tup (.cons (.var 5) .nil))))) .nil)) (.cons (.shr 3) (.cons (.asg 1 (.var 3)) .nil))))) (.cons (.ret (.var 1)) .nil)))
def g__law_proper_rows : List D := []
def T__law_proper_rows (dr : DrT) : List Callee := [⟨false, F__law_places dr⟩]
def F__law_proper_rows (dr : DrT) : DrT := runD (T__law_proper_rows dr) g__law_proper_rows false 1 6 b__law_proper_rows
theorem leT__law_proper_rows {ns1 ns2 : List Int} {d1 d2 : DrT} (h : CalLe ns1 ns2 ⟨true, d1⟩ ⟨true, d2⟩) : CalsLe ns1 ns2 (T__law_proper_rows d1) (T__law_proper_rows d2) := (.cons (le__law_places h) .nil)
theorem le__law_proper_rows {ns1 ns2 : List Int} {d1 d2 : DrT} (h : CalLe ns1 ns2 ⟨true, d1⟩ ⟨true, d2⟩) : CalLe ns1 ns2 ⟨false, F__law_proper_rows d1⟩ ⟨false, F__law_proper_rows d2⟩ := runD_le (leT__law_proper_rows h)
def b_spread_k09 : Sms := (.cons (.ife (.not (.call 2 (.cons (.var 0) (.cons (.con (.int 1)) (.cons (.con (.int 3)) .nil))))) (.cons (.rse 1) .nil) .nil) (.cons (.spr 1 3 (.nm 2) (.seq (.call 0 (.cons (.var 0) .nil))) (.prim .len (.cons (.call 1 (.cons (.var 0) (.cons (.var 2) .nil))) .nil))) .nil))
def g_spread_k09 : List D := []
def T_spread_k09 (dr : DrT) : List Callee := [⟨false, F_proper_list dr⟩, ⟨false, F_full_list dr⟩, ⟨false, F_is_integer dr⟩]
def F_spread_k09 (dr : DrT) : DrT := runD (T_spread_k09 dr) g_spread_k09 false 1 4 b_spread_k09
theorem leT_spread_k09 {ns1 ns2 : List Int} {d1 d2 : DrT} (h : CalLe ns1 ns2 ⟨true, d1⟩ ⟨true, d2⟩) : CalsLe ns1 ns2 (T_spread_k09 d1) (T_spread_k09 d2) := (.cons (le_proper_list h) (.cons (le_full_list h) (.cons (le_is_integer h) .nil)))
theorem le_spread_k09 {ns1 ns2 : List Int} {d1 d2 : DrT} (h : CalLe ns1 ns2 ⟨true, d1⟩ ⟨true, d2⟩) : CalLe ns1 ns2 ⟨false, F_spread_k09 d1⟩ ⟨false, F_spread_k09 d2⟩ := runD_le (leT_spread_k09 h)
def b_law_k09 : Sms := (.cons (.asg 2 (.bin .add (.con (.int 1)) (.callT 0 (.cons (.con (.int 6)) .nil)))) (.cons (.asg 3 (.con (.int 1))) (.cons (.for' (.nm 4) (.rng1 (.bin .mul (.con (.int 3)) (.bin .sub (.var 2) (.con (.int 1))))) (.cons (.asg 3 (.bin .mul (.con (.int 2)) (.var 3))) .nil)) (.cons (.for' (.nm 4) (.rng1 (.bin .fdiv (.bin .mul (.bin .sub (.var 2) (.con (.int 1))) (.bin .sub (.var 2) (.con (.int 2)))) (.con (.int 2)))) (.cons (.asg 3 (.bin .mul (.con (.int 3)) (.var 3))) .nil)) (.cons (.ife (.not (.call 1 (.cons (.call 2 (.cons (.var 2) .nil)) (.cons (.var 3) .nil)))) (.cons (.ret (.con (.bool false))) .nil) .nil) (.cons (.asg 5 (.bin .add (.con (.int 1)) (.callT 0 (.cons (.con (.int 3)) .nil)))) (.cons (.asg 6 (.call 3 (.cons (.var 5) .nil))) (.cons (.asg 7 (.call 4 (.cons (.var 5) .nil))) (.cons (.new 8 (.lst .nil)) (.cons (.for' (.nm 9) (.seq (.var 6)) (.cons (.asg 13 (.call 5 (.cons (.var 5) (.cons (.var 9) .nil)))) (.cons (.app 8 (.prim .len (.cons (.comp [16] (.nm 16) (.seq (.var 7)) (.some (.call 6 (.cons (.var 13) (.cons (.var 16) .nil)))) (.var 16)) .nil))) .nil))) (.cons (.shr 8) (.cons (.ife (.cmp .ne (.call 7 (.cons (.var 5) .nil)) (.comp [14] (.nm 14) (.seq (.prim .sortedset (.cons (.var 8) .nil))) .none (.tup (.cons (.var 14) (.cons (.mth .count (.var 8) (.cons (.var 14) .nil)) .nil))))) (.cons (.ret (.con (.bool false))) .nil) .nil) (.cons (.asg 10 (.callT 8 (.cons (.var 5) (.cons (.con (.bool false)) .nil)))) (.cons (.asg 11 (.comp [9] (.nm 9) (.seq (.var 6)) .none (.tup (.cons (.prim .len (.cons (.comp [15] (.nm 15) (.rng1 (.prim .len (.cons (.var 10) .nil))) (.some (.cmp .ne (.idx (.var 10) (.var 15)) (.idx (.var 9) (.var 15)))) (.var 15)) .nil)) (.cons (.var 9) .nil))))) (.cons (.ife (.or (.cmp .ne (.call 9 (.cons (.var 5) (.cons (.var 10) .nil))) (.idx (.prim .min1 (.cons (.var 11) .nil)) (.con (.int 1)))) (.cmp .ne (.call 10 (.cons (.var 5) (.cons (.var 10) (.cons (.idx (.prim .min1 (.cons (.var 11) .nil)) (.con (.int 1))) .nil)))) (.idx (.prim .min1 (.cons (.var 11) .nil)) (.con (.int 0))))) (.cons (.ret (.con (.bool false))) .nil) .nil) (.cons (.asg 12 (.callT 8 (.cons (.var 5) (.cons (.con (.bool false)) .nil)))) (.cons (.ife (.cmp .ne (.call 10 (.cons (.var 5) (.cons (.var 10) (.cons (.var 12) .nil)))) (.prim .len (.cons (.comp [15] (.nm 15) (.rng1 (.prim .len (.cons (.var 10) .nil))) (.some (.cmp .ne (.idx (.var 10) (.var 15)) (.idx (.var 12) (.var 15)))) (.var 15)) .nil))) (.cons (.ret (.con (.bool false))) .nil) .nil) (.cons (.shr 8) (.cons (.ret (.cmp .eq (.call 11 (.cons (.var 5) (.cons (.var 10) .nil))) (.idx (.prim .min1 (.cons (.comp [14, 17] (.tp [14, 17]) (.zip (.var 11) (.var 8)) (.some (.cmp .eq (.var 17) (.con (.int 1)))) (.var 14)) .nil)) (.con (.int 1))))) .nil)))))))))))))))))))
def g_law_k09 : List D := []
def T_law_k09 (dr : DrT) : List Callee := [⟨true, dr⟩, ⟨false, F__law_same_number dr⟩, ⟨false, F_count_proper dr⟩, ⟨false, F__law_proper_rows dr⟩, ⟨false, F__law_cells dr⟩, ⟨false, F__law_by_point dr⟩, ⟨false, F__law_full_here dr⟩, ⟨false, F_spread_k09 dr⟩, ⟨true, F__law_labelling dr⟩, ⟨false, F_nearest_proper dr⟩, ⟨false, F_distance dr⟩, ⟨false, F_fewest_full dr⟩]
def F_law_k09 (dr : DrT) : DrT := runD (T_law_k09 dr) g_law_k09 true 0 18 b_law_k09
theorem leT_law_k09 {ns1 ns2 : List Int} {d1 d2 : DrT} (h : CalLe ns1 ns2 ⟨true, d1⟩ ⟨true, d2⟩) : CalsLe ns1 ns2 (T_law_k09 d1) (T_law_k09 d2) := (.cons h (.cons (le__law_same_number h) (.cons (le_count_proper h) (.cons (le__law_proper_rows h) (.cons (le__law_cells h) (.cons (le__law_by_point h) (.cons (le__law_full_here h) (.cons (le_spread_k09 h) (.cons (le__law_labelling h) (.cons (le_nearest_proper h) (.cons (le_distance h) (.cons (le_fewest_full h) .nil))))))))))))
theorem le_law_k09 {ns1 ns2 : List Int} {d1 d2 : DrT} (h : CalLe ns1 ns2 ⟨true, d1⟩ ⟨true, d2⟩) : CalLe ns1 ns2 ⟨true, F_law_k09 d1⟩ ⟨true, F_law_k09 d2⟩ := runD_le (leT_law_k09 h)
end LG
/-! Ma: plain mathematics of labels on a grid: signs, windings, doors. -/
namespace LG
open PySem PySem.Spec PyProof.Rows L2
abbrev T3 := Nat × Nat × Nat
def lab (ls : List Int) (j : Nat) : Int := ls.getD j 0
def rng3 (x : Int) : Prop := 0 ≤ x ∧ x ≤ 2
theorem rng3_cases {x : Int} (h : rng3 x) : x = 0 ∨ x = 1 ∨ x = 2 := by unfold rng3 at h; omega
def full3 (x y z : Int) : Bool := decide (x ≠ y) && decide (y ≠ z) && decide (x ≠ z)
def turnI (x y : Int) : Int := if (y - x) % 3 = 0 then 0 else if (y - x) % 3 = 1 then 1 else -1
def sgn3 (x y : Int) : Int := if (y - x) % 3 = 1 then 1 else -1
def isUp (t : T3) : Bool := t.2.1 == t.1 + 1
/-- the points in turn -/
def arr (t : T3) : T3 := if isUp t then (t.2.2, t.2.1, t.1) else t
def fullT (ls : List Int) (t : T3) : Bool := full3 (lab ls t.1) (lab ls t.2.1) (lab ls t.2.2)
def sgnT (ls : List Int) (t : T3) : Int := sgn3 (lab ls (arr t).1) (lab ls (arr t).2.1)
def bd (t : T3) : List (Nat × Nat) := [((arr t).1, (arr t).2.1), ((arr t).2.1, (arr t).2.2), ((arr t).2.2, (arr t).1)]
def nextE {α : Type} (l : List α) : List (α × α) := l.zip (l.drop 1 ++ l.take 1)
def rndE (n : Nat) : List (Nat × Nat) := nextE (roundI n)
def eSum (g : Nat → Nat → Int) (E : List (Nat × Nat)) : Int := (E.map fun e => g e.1 e.2).sum
def tg (ls : List Int) (i j : Nat) : Int := turnI (lab ls i) (lab ls j)
def turns (n : Nat) (ls : List Int) : Int := eSum (tg ls) (rndE n)
def windI (n : Nat) (ls : List Int) : Int := turns n ls / 3
def fullL (n : Nat) (ls : List Int) : List T3 := (cellsI n).filter (fullT ls)
/-! ### sums -/
theorem sum_append (a b : List Int) : (a ++ b).sum = a.sum + b.sum := by
  induction a with
  | nil => simp
  | cons x a ih => simp [ih, Int.add_assoc]
theorem eSum_append (g : Nat → Nat → Int) (a b : List (Nat × Nat)) : eSum g (a ++ b) = eSum g a + eSum g b := by
  unfold eSum
  rw [List.map_append, sum_append]
theorem sum_perm {a b : List Int} (h : a.Perm b) : a.sum = b.sum := by
  induction h with
  | nil => rfl
  | cons x _ ih => simp [ih]
  | swap x y l => simp; omega
  | trans _ _ h1 h2 => exact h1.trans h2
theorem eSum_perm {g : Nat → Nat → Int} {a b : List (Nat × Nat)} (h : a.Perm b) : eSum g a = eSum g b := sum_perm (h.map _)
def flipE (E : List (Nat × Nat)) : List (Nat × Nat) := E.map fun e => (e.2, e.1)
theorem eSum_flip {g : Nat → Nat → Int} (hg : ∀ i j, g j i = -(g i j)) : ∀ E, eSum g (flipE E) = -(eSum g E)
  | [] => rfl
  | e :: E => by
    have ih := eSum_flip hg E
    unfold eSum flipE at ih ⊢
    simp only [List.map_cons, List.sum_cons]
    rw [ih, hg e.1 e.2]
    omega
theorem sum_flatMap {α : Type} (f : α → List (Nat × Nat)) (g : Nat → Nat → Int) : ∀ l : List α, eSum g (l.flatMap f) = (l.map fun t => eSum g (f t)).sum
  | [] => rfl
  | t :: l => by
    rw [List.flatMap_cons, eSum_append, sum_flatMap f g l]
    rfl
/-! ### cancelling -/
def allB (n : Nat) : List (Nat × Nat) := (cellsI n).flatMap bd
def cancels (n : Nat) : Bool := (allB n ++ flipE (rndE n)).isPerm (flipE (allB n ++ flipE (rndE n)))
theorem cancels_all : [1, 2, 3, 4, 5, 6].all cancels = true := by decide +kernel
theorem mem6 {n : Nat} (h : 1 ≤ n) (h' : n ≤ 6) : n ∈ [1, 2, 3, 4, 5, 6] := by
  have : n = 1 ∨ n = 2 ∨ n = 3 ∨ n = 4 ∨ n = 5 ∨ n = 6 := by omega
  rcases this with rfl | rfl | rfl | rfl | rfl | rfl <;> simp
theorem all_bd {n : Nat} (h : 1 ≤ n) (h' : n ≤ 6) {g : Nat → Nat → Int} (hg : ∀ i j, g j i = -(g i j)) : eSum g (allB n) = eSum g (rndE n) := by
  have c := List.all_eq_true.mp cancels_all n (mem6 h h')
  unfold cancels at c
  have p := eSum_perm (g := g) (List.isPerm_iff.mp c)
  rw [eSum_flip hg] at p
  rw [eSum_append, eSum_flip hg] at p
  omega
theorem turnI_flip (x y : Int) : turnI y x = -(turnI x y) := by
  unfold turnI
  have e : (x - y) % 3 = (-(y - x)) % 3 := by congr 1; omega
  generalize y - x = d at e ⊢
  split <;> split <;> first | omega | (split <;> first | omega | (split <;> omega))
theorem tri_sum {x y z : Int} (hx : rng3 x) (hy : rng3 y) (hz : rng3 z) : turnI x y + turnI y z + turnI z x = if full3 x y z then 3 * sgn3 x y else 0 := by
  rcases rng3_cases hx with rfl | rfl | rfl <;> rcases rng3_cases hy with rfl | rfl | rfl <;> rcases rng3_cases hz with rfl | rfl | rfl <;> rfl
theorem full3_rev (x y z : Int) : full3 z y x = full3 x y z := by
  unfold full3
  rw [Bool.eq_iff_iff]
  simp only [Bool.and_eq_true, decide_eq_true_eq]
  constructor <;> (rintro ⟨⟨a, b⟩, c⟩; exact ⟨⟨Ne.symm b, Ne.symm a⟩, Ne.symm c⟩)
theorem sum_filter (p : T3 → Bool) (f : T3 → Int) : ∀ l : List T3, (l.map fun t => if p t then f t else 0).sum = ((l.filter p).map f).sum
  | [] => rfl
  | t :: l => by
    have ih := sum_filter p f l
    cases h : p t <;> simp [h, ih]
theorem sum_mul3 (f : T3 → Int) : ∀ l : List T3, (l.map fun t => 3 * f t).sum = 3 * (l.map f).sum
  | [] => rfl
  | t :: l => by
    simp [sum_mul3 f l]
    omega
/-- all labels that are looked at are labels -/
def RngL (ls : List Int) : Prop := ∀ j, rng3 (lab ls j)
theorem rngL_of {ls : List Int} (h : ∀ l ∈ ls, 0 ≤ l ∧ l ≤ 2) : RngL ls := fun j => by
  unfold lab
  rw [List.getD_eq_getElem?_getD]
  cases e : ls[j]? with
  | none => exact ⟨by decide, by decide⟩
  | some v => exact h v (List.mem_of_getElem? e)
theorem bd_sum {ls : List Int} (R : RngL ls) (t : T3) : eSum (tg ls) (bd t) = if fullT ls t then 3 * sgnT ls t else 0 := by
  unfold bd eSum tg
  simp only [List.map_cons, List.map_nil, List.sum_cons, List.sum_nil, Int.add_zero]
  rw [← Int.add_assoc, tri_sum (R _) (R _) (R _)]
  have : full3 (lab ls (arr t).1) (lab ls (arr t).2.1) (lab ls (arr t).2.2) = fullT ls t := by
    unfold arr
    cases isUp t with
    | true => exact full3_rev _ _ _
    | false => rfl
  rw [this]
  rfl
/-- the signs of all full triangles: three times their sum is the sum of the turns -/
theorem turns_eq {n : Nat} (h : 1 ≤ n) (h' : n ≤ 6) {ls : List Int} (R : RngL ls) : turns n ls = 3 * ((fullL n ls).map (sgnT ls)).sum := by
  have e := all_bd h h' (g := tg ls) fun i j => turnI_flip _ _
  unfold turns
  rw [← e]
  unfold allB
  rw [sum_flatMap]
  have : ((cellsI n).map fun t => eSum (tg ls) (bd t)) = (cellsI n).map fun t => if fullT ls t then 3 * sgnT ls t else 0 := List.map_congr_left fun t _ => bd_sum R t
  rw [this, sum_filter, sum_mul3]
  rfl
theorem wind_eq {n : Nat} (h : 1 ≤ n) (h' : n ≤ 6) {ls : List Int} (R : RngL ls) : windI n ls = ((fullL n ls).map (sgnT ls)).sum := by
  unfold windI
  rw [turns_eq h h' R]
  omega
theorem turns_wind {n : Nat} (h : 1 ≤ n) (h' : n ≤ 6) {ls : List Int} (R : RngL ls) : turns n ls = 3 * windI n ls := by
  rw [wind_eq h h' R, turns_eq h h' R]
theorem sgn3_pm (x y : Int) : sgn3 x y = 1 ∨ sgn3 x y = -1 := by unfold sgn3; split <;> simp
theorem sum_pm (f : T3 → Int) (hf : ∀ t, f t = 1 ∨ f t = -1) : ∀ l : List T3, (l.map f).sum % 2 = (l.length : Int) % 2 ∧ (l.map f).sum ≤ l.length ∧ -(l.length : Int) ≤ (l.map f).sum
  | [] => by simp
  | t :: l => by
    have ih := sum_pm f hf l
    have := hf t
    simp only [List.map_cons, List.sum_cons, List.length_cons]
    push_cast
    omega
/-- full triangles are as many as the winding, odd or even -/
theorem full_parity {n : Nat} (h : 1 ≤ n) (h' : n ≤ 6) {ls : List Int} (R : RngL ls) : ((fullL n ls).length : Int) % 2 = windI n ls % 2 := by
  rw [wind_eq h h' R]
  exact (sum_pm (sgnT ls) (fun t => sgn3_pm _ _) (fullL n ls)).1.symm
theorem full_ge {n : Nat} (h : 1 ≤ n) (h' : n ≤ 6) {ls : List Int} (R : RngL ls) : windI n ls ≤ (fullL n ls).length ∧ -(windI n ls) ≤ (fullL n ls).length := by
  rw [wind_eq h h' R]
  have := sum_pm (sgnT ls) (fun t => sgn3_pm _ _) (fullL n ls)
  omega
/-! ### doors -/
def doorB (a b x y : Int) : Bool := (decide (x = a) && decide (y = b)) || (decide (x = b) && decide (y = a))
def dg (a b : Int) (ls : List Int) (i j : Nat) : Int := if doorB a b (lab ls i) (lab ls j) then 1 else 0
def normE (E : List (Nat × Nat)) : List (Nat × Nat) := E.map fun e => if e.1 ≤ e.2 then e else (e.2, e.1)
/-- the three edges of a triangle -/
def triE (t : T3) : List (Nat × Nat) := [(t.1, t.2.1), (t.1, t.2.2), (t.2.1, t.2.2)]
def allT (n : Nat) : List (Nat × Nat) := (cellsI n).flatMap triE
def dedup {α : Type} [DecidableEq α] : List α → List α
  | [] => []
  | x :: r => if x ∈ r then dedup r else x :: dedup r
/-- inner edges, once each -/
def innE (n : Nat) : List (Nat × Nat) := (dedup (allT n)).filter fun e => !((normE (rndE n)).contains e)
def twice (n : Nat) : Bool := (allT n).isPerm (normE (rndE n) ++ (innE n ++ innE n))
theorem twice_all : [1, 2, 3, 4, 5, 6].all twice = true := by decide +kernel
theorem doorB_flip (a b x y : Int) : doorB a b y x = doorB a b x y := by
  unfold doorB
  rw [Bool.eq_iff_iff]
  simp only [Bool.or_eq_true, Bool.and_eq_true, decide_eq_true_eq]
  constructor <;> (rintro (⟨p, q⟩ | ⟨p, q⟩); exact .inr ⟨q, p⟩; exact .inl ⟨q, p⟩)
theorem eSum_norm {g : Nat → Nat → Int} (hg : ∀ i j, g j i = g i j) : ∀ E, eSum g (normE E) = eSum g E
  | [] => rfl
  | e :: E => by
    have ih := eSum_norm hg E
    unfold eSum normE at ih ⊢
    simp only [List.map_cons, List.sum_cons]
    rw [ih]
    congr 1
    split
    · rfl
    · exact hg _ _
theorem tri_doors {a b x y z : Int} (ha : rng3 a) (hb : rng3 b) (hab : a ≠ b) (hx : rng3 x) (hy : rng3 y) (hz : rng3 z) :
    ((if doorB a b x y then 1 else 0 : Int) + ((if doorB a b x z then 1 else 0) + (if doorB a b y z then 1 else 0))) % 2 = if full3 x y z then 1 else 0 := by
  rcases rng3_cases ha with rfl | rfl | rfl <;> rcases rng3_cases hb with rfl | rfl | rfl <;> rcases rng3_cases hx with rfl | rfl | rfl <;> rcases rng3_cases hy with rfl | rfl | rfl <;> rcases rng3_cases hz with rfl | rfl | rfl <;> first | (exact absurd rfl hab) | rfl
theorem sum_mod2 (f : T3 → Int) (p : T3 → Bool) (hf : ∀ t, f t % 2 = if p t then 1 else 0) : ∀ l : List T3, (l.map f).sum % 2 = ((l.filter p).length : Int) % 2
  | [] => rfl
  | t :: l => by
    have ih := sum_mod2 f p hf l
    have ht := hf t
    simp only [List.map_cons, List.sum_cons]
    cases h : p t with
    | true =>
      rw [List.filter_cons_of_pos h, List.length_cons]
      rw [h] at ht
      simp only [if_true] at ht
      push_cast
      omega
    | false =>
      rw [List.filter_cons_of_neg (by simp [h])]
      rw [h] at ht
      simp only [Bool.false_eq_true, if_false] at ht
      omega
/-- the number of outer doors -/
def outN (a b : Int) (n : Nat) (ls : List Int) : Int := eSum (dg a b ls) (rndE n)
theorem doors_parity {n : Nat} (h : 1 ≤ n) (h' : n ≤ 6) {ls : List Int} (R : RngL ls) {a b : Int} (ha : rng3 a) (hb : rng3 b) (hab : a ≠ b) : outN a b n ls % 2 = ((fullL n ls).length : Int) % 2 := by
  have hg : ∀ i j, dg a b ls j i = dg a b ls i j := fun i j => by unfold dg; rw [doorB_flip]
  have tw := List.all_eq_true.mp twice_all n (mem6 h h')
  unfold twice at tw
  have p := eSum_perm (g := dg a b ls) (List.isPerm_iff.mp tw)
  rw [eSum_append, eSum_append, eSum_norm hg] at p
  have q : eSum (dg a b ls) (allT n) % 2 = ((fullL n ls).length : Int) % 2 := by
    unfold allT
    rw [sum_flatMap]
    refine sum_mod2 _ (fullT ls) (fun t => ?_) _
    unfold triE eSum dg
    simp only [List.map_cons, List.map_nil, List.sum_cons, List.sum_nil, Int.add_zero]
    exact tri_doors ha hb hab (R _) (R _) (R _)
  unfold outN
  omega
/-! ### a change of one label -/
theorem lab_set {ls : List Int} {at' j : Nat} {l : Int} (h : j ≠ at') : lab (ls.set at' l) j = lab ls j := by
  unfold lab
  rw [List.getD_eq_getElem?_getD, List.getD_eq_getElem?_getD, List.getElem?_set_ne (Ne.symm h)]
theorem eSum_congr {g g' : Nat → Nat → Int} {E : List (Nat × Nat)} (h : ∀ e ∈ E, g e.1 e.2 = g' e.1 e.2) : eSum g E = eSum g' E := by
  unfold eSum
  rw [List.map_congr_left h]
theorem turns_set {n at' : Nat} {ls : List Int} {l : Int} (h : at' ∉ roundI n) : turns n (ls.set at' l) = turns n ls := by
  refine eSum_congr fun e he => ?_
  unfold rndE nextE at he
  obtain ⟨h1, h2⟩ := List.of_mem_zip (show (e.1, e.2) ∈ _ from he)
  have h2' : e.2 ∈ roundI n := by
    rcases List.mem_append.mp h2 with z | z
    · exact List.mem_of_mem_drop z
    · exact List.mem_of_mem_take z
  unfold tg
  rw [lab_set (j := e.1) fun z => h (by rw [← z]; exact h1), lab_set (j := e.2) fun z => h (by rw [← z]; exact h2')]
theorem wind_set {n at' : Nat} {ls : List Int} {l : Int} (h : at' ∉ roundI n) : windI n (ls.set at' l) = windI n ls := by
  unfold windI
  rw [turns_set h]
end LG

/-! S1: what the defs compute: grids, labels, full triangles, random labellings. -/
namespace LG
open PySem PySem.Spec PyProof.Rows L2
section
variable {dr : DrT} {ns : List Int} {c : Nat}
theorem s_is_integer {v : D} {lo hi : Int} (hv : noDict v = true) : F_is_integer dr ns [v, .int lo, .int hi] c = .ok (.bool (intIn lo hi v), c) := by
  cases v with
  | dict _ => cases hv
  | int i =>
    simp [F_is_integer, runD, b_is_integer, startE, exSs, exS, evE, isiD, boolR, T_is_integer, intIn]
    by_cases h : lo ≤ i <;> simp [h]
  | _ => simp [F_is_integer, runD, b_is_integer, startE, exSs, exS, evE, isiD, boolR, T_is_integer, intIn]
theorem s_check_size {n : Nat} (h : 1 ≤ n) (h' : n ≤ 6) : F_check_size dr ns [.int n] c = .ok (.none, c) := by
  have h1 : decide ((1 : Int) ≤ n) = true := decide_eq_true (by omega)
  have h2 : decide ((n : Int) ≤ 6) = true := decide_eq_true (by omega)
  refine run_end rfl ((xs_ifF (c1 := c) ?_).trans xs_nil)
  refine ev_not (k := true) ?_
  refine (ev_call (ds := [.int n, .int 1, .int 6]) (ea_cons (ev_var rfl) (ea_cons ev_con (ea_cons ev_con ea_nil))) rfl rfl).trans ?_
  refine (s_is_integer rfl).trans ?_
  simp only [intIn, h1, h2, Bool.and_self]
theorem s_valid_labels {n : Nat} {vs : List D} (h : 1 ≤ n) (h' : n ≤ 6) (hv : ∀ v ∈ vs, noDict v = true) : F_valid_labels dr ns [.int n, .tuple vs] c = .ok (.bool (decide (vs.length = (n + 1) * (n + 2) / 2) && vs.all (intIn 0 2)), c) := by
  have hs : small ((n : Int) + 1) = true := small_of (by omega) (by omega)
  have e : (((n : Int) + 1) * ((n : Int) + 2)) / 2 = (((n + 1) * (n + 2) / 2 : Nat) : Int) := by push_cast; rfl
  have ed : decide (((vs.length : Nat) : Int) = (((n + 1) * (n + 2) / 2 : Nat) : Int)) = decide (vs.length = (n + 1) * (n + 2) / 2) := decide_eq_decide.mpr (by omega)
  have t1 : evE ns (T_valid_labels dr) g_valid_labels (.or (.not (.isi .tuple (.var 1))) (.cmp .ne (.prim .len (.cons (.var 1) .nil)) (.bin .fdiv (.bin .mul (.bin .add (.var 0) (.con (.int 1))) (.bin .add (.var 0) (.con (.int 2)))) (.con (.int 2))))) (startE false 3 [.int n, .tuple vs]) c
      = .ok (.bool (!decide (vs.length = (n + 1) * (n + 2) / 2)), c) := by
    refine (ev_or (k := false) (ev_not (k := true) (ev_isi (ev_var rfl) rfl))).trans ?_
    refine ev_cmpV (ev_primV (ea_cons (ev_var rfl) ea_nil) rfl) (ev_binV (ev_binV (ev_binV (ev_var rfl) ev_con rfl) (ev_binV (ev_var rfl) ev_con rfl) (by simp only [binD]; rw [hs]; rfl)) ev_con rfl) ?_
    simp only [cmpB, eqD_int, e, ed]
    rfl
  refine run_ret rfl ?_
  by_cases hl : vs.length = (n + 1) * (n + 2) / 2
  · rw [decide_eq_true hl] at t1 ⊢
    refine (xs_ifF t1).trans (xs_retE (ev_primV (ea_cons (ev_compM (fun v => PyData.bool (intIn 0 2 v)) (ei_seq (ev_var rfl) rfl) fun x hx => ⟨_, rfl, ev_callV (ea_cons (ev_var rfl) (ea_cons ev_con (ea_cons ev_con ea_nil))) rfl rfl (s_is_integer (hv x hx))⟩) ea_nil) ?_))
    show (match boolsOf (vs.map fun v => PyData.bool (intIn 0 2 v)) with | some bs => R.ok (PyData.bool (bs.all id)) | none => .bad) = _
    rw [boolsOf_map]
    simp [List.all_map]
  · rw [decide_eq_false hl] at t1 ⊢
    exact xs_ifT t1 (xs_retE ev_con)
end
theorem six {P : Nat → Prop} (h1 : P 1) (h2 : P 2) (h3 : P 3) (h4 : P 4) (h5 : P 5) (h6 : P 6) {n : Nat} (h : 1 ≤ n) (h' : n ≤ 6) : P n := by
  have : n = 1 ∨ n = 2 ∨ n = 3 ∨ n = 4 ∨ n = 5 ∨ n = 6 := by omega
  rcases this with rfl | rfl | rfl | rfl | rfl | rfl <;> assumption
section
variable {dr : DrT} {ns : List Int} {c : Nat}
theorem s_point_list {n : Nat} (h : 1 ≤ n) (h' : n ≤ 6) : F_point_list dr ns [.int n] c = .ok (.list (ptsD n), c) :=
  six (P := fun n => F_point_list dr ns [.int n] c = .ok (.list (ptsD n), c)) (by kernel_rfl) (by kernel_rfl) (by kernel_rfl) (by kernel_rfl) (by kernel_rfl) (by kernel_rfl) h h'
theorem s__law_places {n : Nat} (h : 1 ≤ n) (h' : n ≤ 6) : F__law_places dr ns [.int n] c = .ok (.list (ptsD n), c) :=
  six (P := fun n => F__law_places dr ns [.int n] c = .ok (.list (ptsD n), c)) (by kernel_rfl) (by kernel_rfl) (by kernel_rfl) (by kernel_rfl) (by kernel_rfl) (by kernel_rfl) h h'
theorem s_triangle_list {n : Nat} (h : 1 ≤ n) (h' : n ≤ 6) : F_triangle_list dr ns [.int n] c = .ok (.list (cellsD n), c) :=
  six (P := fun n => F_triangle_list dr ns [.int n] c = .ok (.list (cellsD n), c)) (by kernel_rfl) (by kernel_rfl) (by kernel_rfl) (by kernel_rfl) (by kernel_rfl) (by kernel_rfl) h h'
theorem s__law_cells {n : Nat} (h : 1 ≤ n) (h' : n ≤ 6) : F__law_cells dr ns [.int n] c = .ok (.list (cellsD n), c) :=
  six (P := fun n => F__law_cells dr ns [.int n] c = .ok (.list (cellsD n), c)) (by kernel_rfl) (by kernel_rfl) (by kernel_rfl) (by kernel_rfl) (by kernel_rfl) (by kernel_rfl) h h'
end
def lv (ls : List Int) : List D := ls.map .int
structure Lab (n : Nat) (ls : List Int) : Prop where
  len : ls.length = (ptsI n).length
  rng : ∀ l ∈ ls, 0 ≤ l ∧ l ≤ 2
theorem full_ev {x y z : Int} (hx : 0 ≤ x ∧ x ≤ 2) (hy : 0 ≤ y ∧ y ≤ 2) (hz : 0 ≤ z ∧ z ≤ 2) :
    primD .sorted [.list [.int x, .int y, .int z]] = .ok (.list (isortD [.int x, .int y, .int z])) ∧ cmpB .eq (.list (isortD [.int x, .int y, .int z])) (.list [.int 0, .int 1, .int 2]) = .ok (full3 x y z) := by
  have ex : x = 0 ∨ x = 1 ∨ x = 2 := by omega
  have ey : y = 0 ∨ y = 1 ∨ y = 2 := by omega
  have ez : z = 0 ∨ z = 1 ∨ z = 2 := by omega
  rcases ex with rfl | rfl | rfl <;> rcases ey with rfl | rfl | rfl <;> rcases ez with rfl | rfl | rfl <;> exact ⟨by kernel_rfl, by kernel_rfl⟩
/-- the label of a point, by a table -/
def labOf (kvs : List (D × D)) (p : D) : D := match idxD (.dict kvs) p with
  | .ok d => d
  | _ => .none
def intOf : D → Int
  | .int i => i
  | _ => 0
def fullC (kvs : List (D × D)) (x : D) : Bool := match x with
  | .tuple [p, q, r] => full3 (intOf (labOf kvs p)) (intOf (labOf kvs q)) (intOf (labOf kvs r))
  | _ => false
theorem lab_at {n : Nat} (h : 1 ≤ n) (h' : n ≤ 6) {ls : List Int} (L : Lab n ls) {j : Nat} (hj : j < (ptsI n).length) : ∃ l, ls[j]? = some l ∧ 0 ≤ l ∧ l ≤ 2 ∧ idxD (.dict (tabD n (lv ls))) (pD n j) = .ok (.int l) ∧ labOf (tabD n (lv ls)) (pD n j) = .int l := by
  have hl : j < ls.length := by rw [L.len]; exact hj
  have e : ls[j]? = some ls[j] := List.getElem?_eq_getElem hl
  have g : idxD (.dict (tabD n (lv ls))) (pD n j) = .ok (.int ls[j]) := tab_get h h' hj (by unfold lv; rw [List.getElem?_map, e]; rfl)
  have r := L.rng _ (List.getElem_mem hl)
  exact ⟨ls[j], e, r.1, r.2, g, by unfold labOf; rw [g]⟩
theorem cell_of {n : Nat} (h : 1 ≤ n) (h' : n ≤ 6) {x : D} (hx : x ∈ cellsD n) : ∃ a b d, a < (ptsI n).length ∧ b < (ptsI n).length ∧ d < (ptsI n).length ∧ x = .tuple [pD n a, pD n b, pD n d] := by
  unfold cellsD at hx
  obtain ⟨t, ht, rfl⟩ := List.mem_map.mp hx
  have ok := okN_of h h'
  unfold okN at ok
  simp only [Bool.and_eq_true, decide_eq_true_eq, List.all_eq_true] at ok
  obtain ⟨⟨o1, o2⟩, o3⟩ := ok.2 t ht
  exact ⟨t.1, t.2.1, t.2.2, by omega, by omega, o3, rfl⟩
theorem nk_all (n : Nat) : ∀ (vs : List D), (((ptsD n).zip vs).all fun p => (nk p.1).isSome) = true := by
  intro vs
  rw [List.all_eq_true]
  intro p hp
  obtain ⟨q, hq, e⟩ := List.mem_map.mp (List.of_mem_zip hp).1
  rw [← e, nk_pt]
  rfl
section
variable {dr : DrT} {ns : List Int} {c : Nat}
theorem s_table_of {n : Nat} (h : 1 ≤ n) (h' : n ≤ 6) {vs : List D} (hl : vs.length = (ptsI n).length) : F_table_of dr ns [.int n, .tuple vs] c = .ok (.dict (tabD n vs), c) := by
  refine run_ret rfl (xs_retE (ev_primV (ea_cons (ev_callF (F_point_list dr) (ea_cons (ev_var rfl) ea_nil) rfl (s_point_list h h')) (ea_cons (ev_var rfl) ea_nil)) ?_))
  show (if _ = true then R.ok (PyData.dict (mergeD [] ((ptsD n).zip vs))) else .bad) = _
  rw [if_pos (nk_all n vs), tab_merge h h' hl]
/-- sorted labels against 0, 1, 2 -/
theorem s_is_full {n : Nat} (h : 1 ≤ n) (h' : n ≤ 6) {ls : List Int} (L : Lab n ls) {x : D} (hx : x ∈ cellsD n) : F_is_full dr ns [.dict (tabD n (lv ls)), x] c = .ok (.bool (fullC (tabD n (lv ls)) x), c) := by
  obtain ⟨a, b, d, ha, hb, hd, rfl⟩ := cell_of h h' hx
  obtain ⟨la, _, r1, r2, i1, o1⟩ := lab_at h h' L ha
  obtain ⟨lb, _, r3, r4, i2, o2⟩ := lab_at h h' L hb
  obtain ⟨ld, _, r5, r6, i3, o3⟩ := lab_at h h' L hd
  obtain ⟨f1, f2⟩ := full_ev ⟨r1, r2⟩ ⟨r3, r4⟩ ⟨r5, r6⟩
  refine run_ret rfl (xs_retE (ev_cmpV (x := .list (isortD [.int la, .int lb, .int ld])) (ev_primV (ea_cons (ev_compM (labOf (tabD n (lv ls))) (ei_seq (ev_var rfl) rfl) fun y hy => ⟨_, rfl, ev_idxV (ev_var rfl) (ev_var rfl) ?_⟩) ea_nil) ?_) (ev_lst (ea_cons ev_con (ea_cons ev_con (ea_cons ev_con ea_nil))) (by decide)) ?_))
  · have : y = pD n a ∨ y = pD n b ∨ y = pD n d := by simpa using hy
    rcases this with rfl | rfl | rfl
    · rw [i1, o1]
    · rw [i2, o2]
    · rw [i3, o3]
  · simp only [List.map_cons, List.map_nil, o1, o2, o3]
    exact f1
  · rw [f2]
    simp only [fullC, o1, o2, o3, intOf]
end
theorem lv_noDict {ls : List Int} : ∀ v ∈ lv ls, noDict v = true := fun v hv => by
  obtain ⟨l, _, rfl⟩ := List.mem_map.mp hv
  rfl
theorem lv_len {ls : List Int} : (lv ls).length = ls.length := List.length_map ..
theorem lv_all {n : Nat} {ls : List Int} (L : Lab n ls) : (lv ls).all (intIn 0 2) = true := by
  rw [List.all_eq_true]
  intro v hv
  obtain ⟨l, hl, rfl⟩ := List.mem_map.mp hv
  have := L.rng l hl
  simp [intIn, this]
theorem pts_len {n : Nat} (h : 1 ≤ n) (h' : n ≤ 6) : (ptsI n).length = (n + 1) * (n + 2) / 2 := by
  have ok := okN_of h h'
  unfold okN at ok
  simp only [Bool.and_eq_true, decide_eq_true_eq] at ok
  exact ok.1.2
section
variable {dr : DrT} {ns : List Int} {c : Nat}
theorem s_valid_good {n : Nat} (h : 1 ≤ n) (h' : n ≤ 6) {ls : List Int} (L : Lab n ls) : F_valid_labels dr ns [.int n, .tuple (lv ls)] c = .ok (.bool true, c) := by
  rw [s_valid_labels h h' lv_noDict, lv_all L, decide_eq_true (show (lv ls).length = _ by rw [lv_len, L.len, pts_len h h'])]
  rfl
theorem s_check_labels {n : Nat} (h : 1 ≤ n) (h' : n ≤ 6) {ls : List Int} (L : Lab n ls) : F_check_labels dr ns [.int n, .tuple (lv ls)] c = .ok (.none, c) :=
  run_end rfl ((xs_exp (ev_callF (F_check_size dr) (ea_cons (ev_var rfl) ea_nil) rfl (s_check_size h h'))).trans ((xs_ifF (ev_not (k := true) (ev_callF (F_valid_labels dr) (ea_cons (ev_var rfl) (ea_cons (ev_var rfl) ea_nil)) rfl (s_valid_good h h' L)))).trans xs_nil))
theorem s_full_list {n : Nat} (h : 1 ≤ n) (h' : n ≤ 6) {ls : List Int} (L : Lab n ls) : F_full_list dr ns [.int n, .tuple (lv ls)] c = .ok (.list ((cellsD n).filter (fullC (tabD n (lv ls)))), c) := by
  refine run_ret rfl ((xs_asg (ev_callF (F_table_of dr) (ea_cons (ev_var rfl) (ea_cons (ev_var rfl) ea_nil)) rfl (s_table_of h h' (by rw [lv_len, L.len])))).trans (xs_retE ?_))
  have := ev_comp (ns := ns) (Φ := T_full_list dr) (gv := g_full_list) (vs := [3]) (tg := .nm 3) (env := [.val (.int n), .val (.tuple (lv ls)), .val (.dict (tabD n (lv ls))), .unb]) (c := c) (it := .seq (.call 2 (.cons (.var 0) .nil))) (ifs := .call 1 (.cons (.var 2) (.cons (.var 3) .nil))) (elt := .var 3)
    (fullC (tabD n (lv ls))) (fun x => x) (ei_seq (ev_callF (F_triangle_list dr) (ea_cons (ev_var rfl) ea_nil) rfl (s_triangle_list h h')) rfl)
    fun x hx => ⟨_, rfl, ev_callF (F_is_full dr) (ea_cons (ev_var rfl) (ea_cons (ev_var rfl) ea_nil)) rfl (s_is_full h h' L hx), fun _ => ev_var rfl⟩
  rw [List.map_id'] at this
  exact this
theorem s_full_triangles {n : Nat} (h : 1 ≤ n) (h' : n ≤ 6) {ls : List Int} (L : Lab n ls) : F_full_triangles dr ns [.int n, .tuple (lv ls)] c = .ok (.list ((cellsD n).filter (fullC (tabD n (lv ls)))), c) :=
  run_ret rfl ((xs_exp (ev_callF (F_check_labels dr) (ea_cons (ev_var rfl) (ea_cons (ev_var rfl) ea_nil)) rfl (s_check_labels h h' L))).trans (xs_retE (ev_callF (F_full_list dr) (ea_cons (ev_var rfl) (ea_cons (ev_var rfl) ea_nil)) rfl (s_full_list h h' L))))
theorem s_is_labelling {n : Nat} (h : 1 ≤ n) (h' : n ≤ 6) {v d : D} (hF : F_valid_labels dr ns [.int n, v] c = .ok (d, c)) : F_is_labelling dr ns [.int n, v] c = .ok (d, c) :=
  run_ret rfl ((xs_exp (ev_callF (F_check_size dr) (ea_cons (ev_var rfl) ea_nil) rfl (s_check_size h h'))).trans (xs_retE (ev_callF (F_valid_labels dr) (ea_cons (ev_var rfl) (ea_cons (ev_var rfl) ea_nil)) rfl hF)))
/-- the entry of a point at a label -/
def entry (q : Int × Int × Int) (l : Int) : Int := if l = 0 then q.1 else if l = 1 then q.2.1 else q.2.2
theorem idx_pt {q : Int × Int × Int} {l : Int} (h : 0 ≤ l) (h' : l ≤ 2) : idxD (ptD q) (.int l) = .ok (.int (entry q l)) := by
  have : l = 0 ∨ l = 1 ∨ l = 2 := by omega
  rcases this with rfl | rfl | rfl <;> rfl
theorem s_fits {q : Int × Int × Int} {l : Int} (h : 0 ≤ l) (h' : l ≤ 2) : F_fits dr ns [ptD q, .int l] c = .ok (.bool (decide (0 < entry q l)), c) :=
  run_ret rfl (xs_retE (ev_cmpV (ev_idxV (ev_var rfl) (ev_var rfl) (idx_pt h h')) ev_con rfl))
end
def pairD (p : (Int × Int × Int) × Int) : D := .tuple [ptD p.1, .int p.2]
theorem zip_pts {n : Nat} {ls : List Int} : zipD (.list (ptsD n)) (.tuple (lv ls)) = .ok (((ptsI n).zip ls).map pairD) := by
  show R.ok (((ptsD n).zip (lv ls)).map fun p => PyData.tuple [p.1, p.2]) = _
  unfold ptsD lv
  rw [List.zip_map, List.map_map]
  rfl
def proper (n : Nat) (ls : List Int) : Bool := ((ptsI n).zip ls).all fun p => decide (0 < entry p.1 p.2)
def fitD (x : D) : D := match x with
  | .tuple [p, .int l] => (match idxD p (.int l) with | .ok (.int i) => .bool (decide (0 < i)) | _ => .none)
  | _ => .none
theorem fitD_pair {p : (Int × Int × Int) × Int} (h : 0 ≤ p.2 ∧ p.2 ≤ 2) : fitD (pairD p) = .bool (decide (0 < entry p.1 p.2)) := by
  show (match idxD (ptD p.1) (.int p.2) with | .ok (.int i) => PyData.bool (decide (0 < i)) | _ => .none) = _
  rw [idx_pt h.1 h.2]
theorem pair_rng {n : Nat} {ls : List Int} (L : Lab n ls) {p : (Int × Int × Int) × Int} (h : p ∈ (ptsI n).zip ls) : 0 ≤ p.2 ∧ p.2 ≤ 2 := L.rng _ (List.of_mem_zip h).2
section
variable {dr : DrT} {ns : List Int} {c : Nat}
theorem s_proper_labels {n : Nat} (h : 1 ≤ n) (h' : n ≤ 6) {ls : List Int} (L : Lab n ls) : F_proper_labels dr ns [.int n, .tuple (lv ls)] c = .ok (.bool (proper n ls), c) := by
  refine run_ret rfl (xs_retE (ev_primV (ea_cons (ev_compM fitD (ei_zip (ev_callF (F_point_list dr) (ea_cons (ev_var rfl) ea_nil) rfl (s_point_list h h')) (ev_var rfl) zip_pts) fun x hx => ?_) ea_nil) ?_))
  · obtain ⟨p, hp, rfl⟩ := List.mem_map.mp hx
    refine ⟨_, rfl, ?_⟩
    rw [fitD_pair (pair_rng L hp)]
    exact ev_callF (F_fits dr) (ea_cons (ev_var rfl) (ea_cons (ev_var rfl) ea_nil)) rfl (s_fits (pair_rng L hp).1 (pair_rng L hp).2)
  · have e : (((ptsI n).zip ls).map pairD).map fitD = ((ptsI n).zip ls).map fun p => PyData.bool (decide (0 < entry p.1 p.2)) := by
      rw [List.map_map]
      exact List.map_congr_left fun p hp => fitD_pair (pair_rng L hp)
    rw [e]
    show (match boolsOf (((ptsI n).zip ls).map fun p => PyData.bool (decide (0 < entry p.1 p.2))) with | some bs => R.ok (PyData.bool (bs.all id)) | none => .bad) = _
    rw [boolsOf_map fun p : (Int × Int × Int) × Int => decide (0 < entry p.1 p.2)]
    simp [proper, List.all_map]
theorem s_is_proper {n : Nat} (h : 1 ≤ n) (h' : n ≤ 6) {ls : List Int} (L : Lab n ls) : F_is_proper dr ns [.int n, .tuple (lv ls)] c = .ok (.bool (proper n ls), c) :=
  run_ret rfl ((xs_exp (ev_callF (F_check_labels dr) (ea_cons (ev_var rfl) (ea_cons (ev_var rfl) ea_nil)) rfl (s_check_labels h h' L))).trans (xs_retE (ev_callF (F_proper_labels dr) (ea_cons (ev_var rfl) (ea_cons (ev_var rfl) ea_nil)) rfl (s_proper_labels h h' L))))
theorem s__law_full_here {n : Nat} (h : 1 ≤ n) (h' : n ≤ 6) {ls : List Int} (L : Lab n ls) {x : D} (hx : x ∈ cellsD n) : F__law_full_here dr ns [.dict (tabD n (lv ls)), x] c = .ok (.bool (fullC (tabD n (lv ls)) x), c) := by
  obtain ⟨a, b, d, ha, hb, hd, rfl⟩ := cell_of h h' hx
  obtain ⟨la, _, r1, r2, i1, o1⟩ := lab_at h h' L ha
  obtain ⟨lb, _, r3, r4, i2, o2⟩ := lab_at h h' L hb
  obtain ⟨ld, _, r5, r6, i3, o3⟩ := lab_at h h' L hd
  obtain ⟨f1, f2⟩ := full_ev ⟨r1, r2⟩ ⟨r3, r4⟩ ⟨r5, r6⟩
  refine run_ret rfl (xs_retE (ev_cmpV (x := .list (isortD [.int la, .int lb, .int ld])) (ev_primV (ea_cons (ev_compM (labOf (tabD n (lv ls))) (ei_seq (ev_var rfl) rfl) fun y hy => ⟨_, rfl, ev_idxV (ev_var rfl) (ev_var rfl) ?_⟩) ea_nil) ?_) (ev_lst (ea_cons ev_con (ea_cons ev_con (ea_cons ev_con ea_nil))) (by decide)) ?_))
  · have : y = pD n a ∨ y = pD n b ∨ y = pD n d := by simpa using hy
    rcases this with rfl | rfl | rfl
    · rw [i1, o1]
    · rw [i2, o2]
    · rw [i3, o3]
  · simp only [List.map_cons, List.map_nil, o1, o2, o3]
    exact f1
  · rw [f2]
    simp only [fullC, o1, o2, o3, intOf]
theorem s__law_by_pointG {n : Nat} (h : 1 ≤ n) (h' : n ≤ 6) {row : D} {vs : List D} (hrow : seqOf row = some vs) (hl : vs.length = (ptsI n).length) : F__law_by_point dr ns [.int n, row] c = .ok (.dict (tabD n vs), c) := by
  have hz : zipD (.list (ptsD n)) row = .ok (((ptsI n).zip vs).map fun p => .tuple [ptD p.1, p.2]) := by
    unfold zipD
    rw [hrow]
    show R.ok (((ptsD n).zip vs).map fun p => PyData.tuple [p.1, p.2]) = _
    unfold ptsD
    rw [List.zip_map_left, List.map_map]
    rfl
  have hlen : (((ptsI n).zip vs).map fun p => PyData.tuple [ptD p.1, p.2]).length = (ptsI n).length := by rw [List.length_map, List.length_zip, hl, Nat.min_self]
  have hN : (ptsI n).length ≤ 28 := by rw [pts_len h h']; exact Nat.div_le_of_le_mul (by have : (n + 1) * (n + 2) ≤ 7 * 8 := Nat.mul_le_mul (by omega) (by omega); omega)
  have nd := pts_nodup h h'
  obtain ⟨env', c', ⟨ec, s3, s4, ee⟩, q⟩ := xs_for (ns := ns) (Φ := T__law_by_point dr) (gv := g__law_by_point) (env := [.val (.int n), .val row, .own (.dict []), .unb, .unb]) (c := c) (tg := .tp [3, 4]) (it := .zip (.call 0 (.cons (.var 0) .nil)) (.var 1)) (b := .cons (.put 2 (.var 3) (.var 4)) .nil) (r := .cons (.shr 2) (.cons (.ret (.var 2)) .nil))
    (fun i env1 c2 => c2 = c ∧ ∃ s3 s4, env1 = [.val (.int n), .val row, .own (.dict ((((ptsI n).take i).map ptD).zip (vs.take i))), s3, s4])
    (ei_zip (ev_callF (F__law_places dr) (ea_cons (ev_var rfl) ea_nil) rfl (s__law_places h h')) (ev_var rfl) hz) ⟨rfl, .unb, .unb, by simp⟩
    (fun i x env1 c2 hx ⟨ec, s3, s4, ee⟩ => by
      subst ec ee
      rw [List.getElem?_map] at hx
      cases ez : ((ptsI n).zip vs)[i]? with
      | none => rw [ez] at hx; cases hx
      | some pr =>
        rw [ez] at hx
        cases hx
        obtain ⟨q, v⟩ := pr
        rw [List.getElem?_zip_eq_some] at ez
        obtain ⟨e1, e2⟩ := ez
        obtain ⟨hi, eq⟩ := List.getElem?_eq_some_iff.mp e1
        refine ⟨_, [.val (.int n), .val row, .own (.dict ((((ptsI n).take (i + 1)).map ptD).zip (vs.take (i + 1)))), .val (ptD q), .val v], c2, rfl, ?_, rfl, _, _, rfl⟩
        have hnot : q ∉ (ptsI n).take i := fun hm => by
          obtain ⟨j, hj⟩ := List.mem_iff_getElem?.mp hm
          rw [List.getElem?_take] at hj
          split at hj
          · rename_i hji
            obtain ⟨hj1, hj2⟩ := List.getElem?_eq_some_iff.mp hj
            exact (List.pairwise_iff_getElem.mp nd j i hj1 hi hji) (hj2.trans eq.symm)
          · cases hj
        have hput : dPut ((((ptsI n).take i).map ptD).zip (vs.take i)) (ptD q) (keyI q) v = (((ptsI n).take (i + 1)).map ptD).zip (vs.take (i + 1)) := by
          rw [dPut_snoc hnot (by simp; omega), List.take_add_one, List.take_add_one, e1, e2]
          rfl
        have : putD (.dict ((((ptsI n).take i).map ptD).zip (vs.take i))) (ptD q) v = .ok (.dict ((((ptsI n).take (i + 1)).map ptD).zip (vs.take (i + 1)))) := by
          show (match nk (ptD q) with | some κ => if _ < LIM then R.ok (PyData.dict (dPut _ (ptD q) κ v)) else .bad | none => .bad) = _
          rw [nk_pt]
          simp only
          rw [if_pos (by have : LIM = 1000000 := rfl; simp; omega), hput]
        exact (xs_put rfl (ev_var rfl) (ev_var rfl) this).trans xs_nil)
  refine run_ret rfl ((xs_new (d := .dict []) (by rw [evE]; rfl)).trans (q.trans ?_))
  subst ec ee
  rw [hlen]
  refine (xs_shr rfl).trans (xs_retE (ev_var ?_))
  rw [List.take_length, ← hl, List.take_length]
  rfl
theorem s__law_by_point {n : Nat} (h : 1 ≤ n) (h' : n ≤ 6) {vs : List D} (hl : vs.length = (ptsI n).length) : F__law_by_point dr ns [.int n, .tuple vs] c = .ok (.dict (tabD n vs), c) := s__law_by_pointG h h' rfl hl
end
section
variable {ns : List Int} {c : Nat}
theorem s_draw {m : Int} (hm : 0 < m) (hc : c < LIM) : drawF ns [.int m] c = .ok (.int (mixedAt ns (c + 1) m), c + 1) := by
  show (if 0 < m ∧ c < LIM then R.ok (PyData.int (mixedAt ns (c + 1) m), c + 1) else .bad) = _
  rw [if_pos ⟨hm, hc⟩]
theorem s__law_pick {xs : List D} (h : xs ≠ []) (hl : xs.length ≤ 1000) (hc : c < LIM) : ∃ x ∈ xs, F__law_pick drawF ns [.list xs] c = .ok (x, c + 1) := by
  have hp : 0 < xs.length := List.length_pos_iff.mpr h
  have hb := mixed_bound (ns := ns) (c := c + 1) (m := (xs.length : Nat)) (by omega)
  have hlt : (mixedAt ns (c + 1) (xs.length : Nat)).toNat < xs.length := by omega
  refine ⟨xs[(mixedAt ns (c + 1) (xs.length : Nat)).toNat], List.getElem_mem hlt, ?_⟩
  have e : (((mixedAt ns (c + 1) (xs.length : Nat)).toNat : Nat) : Int) = mixedAt ns (c + 1) (xs.length : Nat) := by omega
  refine run_ret rfl (xs_retE (ev_idxV (ev_var rfl) (ev_callTF drawF rfl rfl (ea_cons (ev_primV (ea_cons (ev_var rfl) ea_nil) rfl) ea_nil) rfl (s_draw (by omega) hc)) ?_))
  have ha := L2.atI_nat (List.getElem?_eq_getElem hlt)
  rw [e] at ha
  show atD xs _ = _
  unfold atD
  rw [ha]
def okL (pr : Bool) (q : Int × Int × Int) (l : Int) : Bool := decide (0 < entry q l) || !pr
def someI (pr : Bool) (q : Int × Int × Int) : List Int := [0, 1, 2].filter (okL pr q)
def someD (pr : Bool) (q : Int × Int × Int) : List D := (someI pr q).map .int
theorem some_mem {pr : Bool} {q : Int × Int × Int} {x : D} (h : x ∈ someD pr q) : ∃ l, x = .int l ∧ 0 ≤ l ∧ l ≤ 2 ∧ okL pr q l = true := by
  unfold someD someI at h
  obtain ⟨l, hl, rfl⟩ := List.mem_map.mp h
  rw [List.mem_filter] at hl
  have : l = 0 ∨ l = 1 ∨ l = 2 := by simpa using hl.1
  exact ⟨l, rfl, by omega, by omega, hl.2⟩
/-- liked in some: the answer is a bool -/
theorem isin_some {pr : Bool} {q : Int × Int × Int} {lk : Int} : ∃ k : Bool, cmpB .isin (.int lk) (.list (someD pr q)) = .ok k ∧ (k = true → PyData.int lk ∈ someD pr q) := by
  have hs : shp (.list (someD pr q)) = true := shp_ints (someI pr q)
  refine ⟨(someD pr q).any fun z => PyData.eqv z (.int lk), ?_, fun h => ?_⟩
  · show (if (shp (.int lk) && shp (.list (someD pr q))) = true then R.ok ((someD pr q).any fun z => PyData.eqv z (.int lk)) else .bad) = _
    rw [hs]
    rfl
  · obtain ⟨z, hz, e⟩ := List.any_eq_true.mp h
    obtain ⟨l, rfl, _⟩ := some_mem hz
    have : l = lk := by simpa [PyData.eqv] using e
    rw [← this]
    exact hz
theorem items_some {pr : Bool} {q : Int × Int × Int} : ([PyData.int 0, .int 1, .int 2].filter fun x => okL pr q (intOf x)).map (fun x => x) = someD pr q := by
  rw [List.map_id']
  unfold someD someI
  rw [show [PyData.int 0, .int 1, .int 2] = ([0, 1, 2] : List Int).map PyData.int from rfl, List.filter_map]
  rfl
/-- one turn of the loop that makes a labelling -/
def turnB : Sms := .cons (.asg 7 (.comp [8] (.nm 8) (.rng1 (.con (.int 3))) (.some (.or (.cmp .gt (.idx (.var 6) (.var 8)) (.con (.int 0))) (.not (.var 3)))) (.var 8))) (.cons (.ife (.and (.cmp .isin (.var 4) (.var 7)) (.cmp .eq (.callT 0 (.cons (.con (.int 2)) .nil)) (.con (.int 0)))) (.cons (.asg 7 (.lst (.cons (.var 4) .nil))) .nil) .nil) (.cons (.app 5 (.callT 2 (.cons (.var 7) .nil))) .nil))
theorem turn_ok {n : D} {pr : Bool} {lk : Int} {ds : List D} {q : Int × Int × Int} {s7 s8 : Slot} (hne : someI pr q ≠ []) (hl : ds.length < 1000) (hc : c + 2 < LIM) :
    ∃ l s7' s8' c', exSs ns (T__law_labelling drawF) g__law_labelling turnB [.scr, .town, .val n, .val (.bool pr), .val (.int lk), .own (.list ds), .val (ptD q), s7, s8] c = .ok (.next [.scr, .town, .val n, .val (.bool pr), .val (.int lk), .own (.list (ds ++ [.int l])), .val (ptD q), s7', s8'], c') ∧
      0 ≤ l ∧ l ≤ 2 ∧ okL pr q l = true ∧ c' ≤ c + 2 := by
  have t1 : evE ns (T__law_labelling drawF) g__law_labelling (.comp [8] (.nm 8) (.rng1 (.con (.int 3))) (.some (.or (.cmp .gt (.idx (.var 6) (.var 8)) (.con (.int 0))) (.not (.var 3)))) (.var 8)) [.scr, .town, .val n, .val (.bool pr), .val (.int lk), .own (.list ds), .val (ptD q), s7, s8] c = .ok (.list (someD pr q), c) := by
    rw [← items_some]
    refine ev_comp (c1 := c) (xs := [.int 0, .int 1, .int 2]) (fun x => okL pr q (intOf x)) (fun x => x) (by rw [evI, ev_con]; rfl) fun x hx => ⟨_, rfl, ?_, fun _ => ev_var rfl⟩
    have hx : x = .int 0 ∨ x = .int 1 ∨ x = .int 2 := by simpa using hx
    have : ∃ l, x = .int l ∧ 0 ≤ l ∧ l ≤ 2 := by
      rcases hx with rfl | rfl | rfl
      · exact ⟨0, rfl, by decide, by decide⟩
      · exact ⟨1, rfl, by decide, by decide⟩
      · exact ⟨2, rfl, by decide, by decide⟩
    obtain ⟨l, rfl, l1, l2⟩ := this
    refine (ev_or (k := decide (0 < entry q l)) (ev_cmpV (ev_idxV (ev_var rfl) (ev_var rfl) (idx_pt l1 l2)) ev_con rfl)).trans ?_
    cases hd : decide (0 < entry q l) with
    | true =>
      rw [if_pos rfl]
      show _ = R.ok (PyData.bool (decide (0 < entry q l) || !pr), c)
      rw [hd]
      rfl
    | false =>
      rw [if_neg Bool.false_ne_true, ev_not (ev_var rfl)]
      show _ = R.ok (PyData.bool (decide (0 < entry q l) || !pr), c)
      rw [hd]
      rfl
  obtain ⟨k, hk, hin⟩ := isin_some (pr := pr) (q := q) (lk := lk)
  have hsl : (someD pr q).length ≤ 1000 := by
    unfold someD someI
    rw [List.length_map]
    exact Nat.le_trans (List.length_filter_le _ _) (by decide)
  have hLIM : LIM = 1000000 := rfl
  -- the end of a turn, whatever stands in the row
  have fin : ∀ (zs : List D) (c1 : Nat), zs ≠ [] → zs.length ≤ 1000 → c1 ≤ c + 1 → (∀ z ∈ zs, z ∈ someD pr q) → ∃ l s7' s8' c', exSs ns (T__law_labelling drawF) g__law_labelling (.cons (.app 5 (.callT 2 (.cons (.var 7) .nil))) .nil) [.scr, .town, .val n, .val (.bool pr), .val (.int lk), .own (.list ds), .val (ptD q), .val (.list zs), s8] c1 = .ok (.next [.scr, .town, .val n, .val (.bool pr), .val (.int lk), .own (.list (ds ++ [.int l])), .val (ptD q), s7', s8'], c') ∧
      0 ≤ l ∧ l ≤ 2 ∧ okL pr q l = true ∧ c' ≤ c + 2 := by
    intro zs c1 h1 h2 h3 h4
    obtain ⟨x, hx, e⟩ := s__law_pick (ns := ns) (c := c1) h1 h2 (by omega)
    obtain ⟨l, rfl, l1, l2, l3⟩ := some_mem (h4 x hx)
    exact ⟨l, _, _, c1 + 1, (xs_app rfl (ev_callTF (F__law_pick drawF) rfl rfl (ea_cons (ev_var rfl) ea_nil) rfl e) (by omega)).trans xs_nil, l1, l2, l3, by omega⟩
  have hne' : someD pr q ≠ [] := fun z => hne (List.map_eq_nil_iff.mp z)
  have start := xs_asg (ns := ns) (Φ := T__law_labelling drawF) (gv := g__law_labelling) (i := 7) (r := .cons (.ife (.and (.cmp .isin (.var 4) (.var 7)) (.cmp .eq (.callT 0 (.cons (.con (.int 2)) .nil)) (.con (.int 0)))) (.cons (.asg 7 (.lst (.cons (.var 4) .nil))) .nil) .nil) (.cons (.app 5 (.callT 2 (.cons (.var 7) .nil))) .nil)) t1
  cases k with
  | false =>
    obtain ⟨l, a, b, c', e, r⟩ := fin (someD pr q) c hne' hsl (by omega) fun z hz => hz
    refine ⟨l, a, b, c', start.trans ((xs_ifF ?_).trans e), r⟩
    refine (ev_and (k := false) (ev_cmpV (ev_var rfl) (ev_var rfl) hk)).trans ?_
    rw [if_neg Bool.false_ne_true]
  | true =>
    have dr2 := s_draw (ns := ns) (c := c) (m := 2) (by decide) (by omega)
    have tst : evE ns (T__law_labelling drawF) g__law_labelling (.and (.cmp .isin (.var 4) (.var 7)) (.cmp .eq (.callT 0 (.cons (.con (.int 2)) .nil)) (.con (.int 0)))) [.scr, .town, .val n, .val (.bool pr), .val (.int lk), .own (.list ds), .val (ptD q), .val (.list (someD pr q)), s8] c = .ok (.bool (decide (mixedAt ns (c + 1) 2 = 0)), c + 1) := by
      refine (ev_and (k := true) (ev_cmpV (ev_var rfl) (ev_var rfl) hk)).trans ?_
      rw [if_pos rfl]
      exact ev_cmpV (ev_callTF drawF rfl rfl (ea_cons ev_con ea_nil) rfl dr2) ev_con (eqD_int _ _)
    cases hd : decide (mixedAt ns (c + 1) 2 = 0) with
    | false =>
      rw [hd] at tst
      obtain ⟨l, a, b, c', e, r⟩ := fin (someD pr q) (c + 1) hne' hsl (by omega) fun z hz => hz
      exact ⟨l, a, b, c', start.trans ((xs_ifF tst).trans e), r⟩
    | true =>
      rw [hd] at tst
      obtain ⟨l, a, b, c', e, r⟩ := fin [.int lk] (c + 1) (by simp) (by simp) (by omega) fun z hz => by
        have : z = .int lk := by simpa using hz
        rw [this]; exact hin rfl
      exact ⟨l, a, b, c', start.trans ((xs_ifN tst ((xs_asg (ev_lst (ea_cons (ev_var rfl) ea_nil) (show (1 : Nat) ≤ LIM by decide))).trans xs_nil)).trans e), r⟩
/-- points have a coordinate above 0 -/
def someOk (n : Nat) : Bool := (ptsI n).all fun q => (decide (0 < q.1) || decide (0 < q.2.1) || decide (0 < q.2.2)) && decide (0 ≤ q.1) && decide (0 ≤ q.2.1) && decide (0 ≤ q.2.2)
theorem someOk_all : [1, 2, 3, 4, 5, 6].all someOk = true := by decide +kernel
theorem pt_pos {n : Nat} (h : 1 ≤ n) (h' : n ≤ 6) {q : Int × Int × Int} (hq : q ∈ ptsI n) : (0 < q.1 ∨ 0 < q.2.1 ∨ 0 < q.2.2) ∧ 0 ≤ q.1 ∧ 0 ≤ q.2.1 ∧ 0 ≤ q.2.2 := by
  have : someOk n = true := List.all_eq_true.mp someOk_all n (by
    have : n = 1 ∨ n = 2 ∨ n = 3 ∨ n = 4 ∨ n = 5 ∨ n = 6 := by omega
    rcases this with rfl | rfl | rfl | rfl | rfl | rfl <;> simp)
  have := List.all_eq_true.mp this q hq
  simp only [Bool.and_eq_true, Bool.or_eq_true, decide_eq_true_eq] at this
  exact ⟨by omega, by omega, by omega, by omega⟩
theorem some_ne {n : Nat} (h : 1 ≤ n) (h' : n ≤ 6) {pr : Bool} {q : Int × Int × Int} (hq : q ∈ ptsI n) : someI pr q ≠ [] := fun e => by
  have ex : ∃ l ∈ ([0, 1, 2] : List Int), okL pr q l = true := by
    rcases (pt_pos h h' hq).1 with z | z | z
    · exact ⟨0, by simp, by simp [okL, entry, z]⟩
    · exact ⟨1, by simp, by simp [okL, entry, z]⟩
    · exact ⟨2, by simp, by simp [okL, entry, z]⟩
  obtain ⟨l, h1, h2⟩ := ex
  have : l ∈ someI pr q := List.mem_filter.mpr ⟨h1, h2⟩
  rw [e] at this
  cases this
/-- a random labelling -/
theorem s__law_labelling {n : Nat} (h : 1 ≤ n) (h' : n ≤ 6) {pr : Bool} (hc : c + 100 < LIM) : ∃ ls c', F__law_labelling drawF ns [.int n, .bool pr] c = .ok (.tuple (lv ls), c') ∧ Lab n ls ∧ (pr = true → proper n ls = true) ∧ c' ≤ c + 57 := by
  have hN : (ptsI n).length ≤ 28 := by rw [pts_len h h']; exact Nat.div_le_of_le_mul (by have : (n + 1) * (n + 2) ≤ 7 * 8 := Nat.mul_le_mul (by omega) (by omega); omega)
  obtain ⟨env', c', ⟨ls, s6, s7, s8, hl, hr, hpr, hc', ee⟩, q⟩ := xs_for (ns := ns) (Φ := T__law_labelling drawF) (gv := g__law_labelling) (env := [.scr, .town, .val (.int n), .val (.bool pr), .val (.int (mixedAt ns (c + 1) 4)), .own (.list []), .unb, .unb, .unb]) (c := c + 1) (tg := .nm 6) (it := .seq (.call 1 (.cons (.var 2) .nil))) (b := turnB) (r := .cons (.shr 5) (.cons (.ret (.prim .tuple (.cons (.var 5) .nil))) .nil))
    (fun i env1 c2 => ∃ ls s6 s7 s8, ls.length = i ∧ (∀ l ∈ ls, 0 ≤ l ∧ l ≤ 2) ∧ (∀ p ∈ (ptsI n).zip ls, okL pr p.1 p.2 = true) ∧ c2 ≤ c + 1 + 2 * i ∧ env1 = [.scr, .town, .val (.int n), .val (.bool pr), .val (.int (mixedAt ns (c + 1) 4)), .own (.list (lv ls)), s6, s7, s8])
    (ei_seq (ev_callF (F__law_places drawF) (ea_cons (ev_var rfl) ea_nil) rfl (s__law_places h h')) rfl) ⟨[], .unb, .unb, .unb, rfl, by simp, by simp, by omega, rfl⟩
    (fun i x env1 c2 hx ⟨ls, s6, s7, s8, hl, hr, hpr, hc', ee⟩ => by
      subst ee
      unfold ptsD at hx
      rw [List.getElem?_map] at hx
      cases eq : (ptsI n)[i]? with
      | none => rw [eq] at hx; cases hx
      | some q =>
        rw [eq] at hx
        cases hx
        have hq : q ∈ ptsI n := List.mem_of_getElem? eq
        obtain ⟨hi, _⟩ := List.getElem?_eq_some_iff.mp eq
        obtain ⟨l, s7', s8', c3, e, l1, l2, l3, l4⟩ := turn_ok (ns := ns) (c := c2) (n := .int n) (pr := pr) (lk := mixedAt ns (c + 1) 4) (ds := lv ls) (q := q) (s7 := s7) (s8 := s8) (some_ne h h' hq) (by rw [lv_len]; omega) (by omega)
        refine ⟨_, _, c3, rfl, e, ls ++ [l], _, s7', s8', by simp [hl], ?_, ?_, by omega, by unfold lv; rw [List.map_append]; rfl⟩
        · intro l' hl'
          rcases List.mem_append.mp hl' with z | z
          · exact hr l' z
          · have : l' = l := by simpa using z
            rw [this]; exact ⟨l1, l2⟩
        · intro p hp
          obtain ⟨j, hj⟩ := List.mem_iff_getElem?.mp hp
          rw [List.getElem?_zip_eq_some] at hj
          obtain ⟨j1, j2⟩ := hj
          by_cases hji : j < i
          · rw [List.getElem?_append_left (by omega)] at j2
            exact hpr p (List.mem_of_getElem? (i := j) (List.getElem?_zip_eq_some.mpr ⟨j1, j2⟩))
          · have hj2 : j = i := by
              obtain ⟨z, _⟩ := List.getElem?_eq_some_iff.mp j2
              simp at z
              omega
            subst hj2
            rw [eq] at j1
            rw [List.getElem?_append_right (by omega), hl, Nat.sub_self] at j2
            cases j1
            have : l = p.2 := by simpa using j2
            rw [← this]
            exact l3)
  have hlen : (ptsD n).length = (ptsI n).length := by unfold ptsD; rw [List.length_map]
  rw [hlen] at hl hc'
  refine ⟨ls, c', run_ret rfl ((xs_asg (ev_callTF drawF rfl rfl (ea_cons ev_con ea_nil) rfl (s_draw (by decide) (by omega)))).trans ((xs_new (ev_lst ea_nil (show (0 : Nat) ≤ LIM by decide))).trans (q.trans ?_))), ⟨hl, hr⟩, fun hp => ?_, by omega⟩
  · subst ee
    exact (xs_shr rfl).trans (xs_retE (ev_primV (ea_cons (ev_var rfl) ea_nil) rfl))
  · unfold proper
    rw [List.all_eq_true]
    intro p hp'
    have := hpr p hp'
    subst hp
    simpa [okL] using this
end
/-! lists of points and of triangles can be compared -/
theorem lay_pt (q : Int × Int × Int) : PyData.canLay0 (ptD q) = true ∧ PyData.depth (ptD q) ≤ 1 := ⟨rfl, Nat.le_refl _⟩
theorem lay_all {k : Nat} : ∀ {xs : List D}, (∀ x ∈ xs, PyData.canLay0 x = true ∧ PyData.depth x ≤ k) → PyData.canLayAll0 xs = true ∧ PyData.depthAll xs ≤ k
  | [], _ => ⟨rfl, Nat.zero_le _⟩
  | x :: xs, h => by
    obtain ⟨h1, h2⟩ := h x List.mem_cons_self
    obtain ⟨h3, h4⟩ := lay_all fun y hy => h y (List.mem_cons_of_mem _ hy)
    refine ⟨?_, ?_⟩
    · show (PyData.canLay0 x && PyData.canLayAll0 xs) = true
      rw [h1, h3]; rfl
    · show max (PyData.depth x) (PyData.depthAll xs) ≤ k
      omega
theorem shp_list {k : Nat} {xs : List D} (h : ∀ x ∈ xs, PyData.canLay0 x = true ∧ PyData.depth x ≤ k) (hk : k ≤ 60) : shp (.list xs) = true := by
  obtain ⟨h1, h2⟩ := lay_all h
  unfold shp SeqAt.shaped
  rw [Bool.and_eq_true]
  refine ⟨h1, decide_eq_true ?_⟩
  show PyData.depthAll xs + 1 ≤ 64
  omega
theorem pts_lay {n : Nat} : ∀ x ∈ ptsD n, PyData.canLay0 x = true ∧ PyData.depth x ≤ 1 := fun x hx => by
  obtain ⟨q, _, rfl⟩ := List.mem_map.mp hx
  exact lay_pt q
theorem pD_lay {n j : Nat} (hj : j < (ptsI n).length) : PyData.canLay0 (pD n j) = true ∧ PyData.depth (pD n j) ≤ 1 := by
  have : pD n j ∈ ptsD n := by
    unfold pD
    rw [List.getD_eq_getElem?_getD, List.getElem?_eq_getElem (by unfold ptsD; rw [List.length_map]; exact hj)]
    exact List.getElem_mem _
  exact pts_lay _ this
theorem cells_lay {n : Nat} (h : 1 ≤ n) (h' : n ≤ 6) : ∀ x ∈ cellsD n, PyData.canLay0 x = true ∧ PyData.depth x ≤ 2 := fun x hx => by
  obtain ⟨a, b, d, ha, hb, hd, rfl⟩ := cell_of h h' hx
  have := lay_all (k := 1) (xs := [pD n a, pD n b, pD n d]) fun y hy => by
    have : y = pD n a ∨ y = pD n b ∨ y = pD n d := by simpa using hy
    rcases this with rfl | rfl | rfl
    · exact pD_lay ha
    · exact pD_lay hb
    · exact pD_lay hd
  exact ⟨this.1, Nat.succ_le_succ this.2⟩
theorem eqD_self {x : D} (h : shp x = true) : eqD x x = .ok true := by
  unfold eqD
  rw [h]
  show R.ok (PyData.eqv x x) = _
  rw [PySem.SeqAt.eqv_refl x (by unfold shp SeqAt.shaped at h; rw [Bool.and_eq_true] at h; exact h.1)]
theorem eqD_nil {xs : List D} (h : shp (.list xs) = true) : eqD (.list xs) (.list []) = .ok xs.isEmpty := by
  unfold eqD
  rw [h]
  show R.ok (PyData.eqv (.list xs) (.list [])) = _
  cases xs with
  | nil => rfl
  | cons a r => simp [PyData.eqv, PyData.eqvAll]
theorem eqD_bool (a b : Bool) : eqD (.bool a) (.bool b) = .ok (a == b) := by cases a <;> cases b <;> rfl
theorem keys_tab {n : Nat} {vs : List D} (hl : vs.length = (ptsI n).length) : keysOf (tabD n vs) = ptsD n := by
  unfold keysOf tabD
  rw [List.map_fst_zip]
  unfold ptsD
  rw [List.length_map, hl]
  exact Nat.le_refl _
/-- a point's own entry at its label is 0 -/
def badP (kvs : List (D × D)) (x : D) : Bool := match idxD x (labOf kvs x) with
  | .ok (.int i) => decide (i = 0)
  | _ => false
theorem pt_lab {n : Nat} (h : 1 ≤ n) (h' : n ≤ 6) {ls : List Int} (L : Lab n ls) {x : D} (hx : x ∈ ptsD n) : ∃ q l, (q, l) ∈ (ptsI n).zip ls ∧ x = ptD q ∧ 0 ≤ l ∧ l ≤ 2 ∧ idxD (.dict (tabD n (lv ls))) x = .ok (.int l) ∧ labOf (tabD n (lv ls)) x = .int l := by
  obtain ⟨q, hq, rfl⟩ := List.mem_map.mp hx
  obtain ⟨j, hj⟩ := List.mem_iff_getElem?.mp hq
  obtain ⟨hlt, ej⟩ := List.getElem?_eq_some_iff.mp hj
  obtain ⟨l, e1, e2, e3, e4, e5⟩ := lab_at h h' L hlt
  have ep : pD n j = ptD q := by
    unfold pD ptsD
    rw [List.getD_eq_getElem?_getD, List.getElem?_map, hj]
    rfl
  rw [ep] at e4 e5
  exact ⟨q, l, List.mem_of_getElem? (i := j) (List.getElem?_zip_eq_some.mpr ⟨hj, e1⟩), rfl, e2, e3, e4, e5⟩
theorem bad_empty {n : Nat} (h : 1 ≤ n) (h' : n ≤ 6) {ls : List Int} (L : Lab n ls) : ((ptsD n).filter (badP (tabD n (lv ls)))).isEmpty = proper n ls := by
  rw [Bool.eq_iff_iff, List.isEmpty_iff, List.filter_eq_nil_iff]
  unfold proper
  rw [List.all_eq_true]
  constructor
  · intro hb p hp
    obtain ⟨q, l0⟩ := p
    have hq : q ∈ ptsI n := (List.of_mem_zip hp).1
    obtain ⟨j, hj⟩ := List.mem_iff_getElem?.mp hp
    rw [List.getElem?_zip_eq_some] at hj
    obtain ⟨j1, j2⟩ := hj
    obtain ⟨hlt, _⟩ := List.getElem?_eq_some_iff.mp j1
    obtain ⟨l, e1, e2, e3, e4, e5⟩ := lab_at h h' L hlt
    have ep : pD n j = ptD q := by
      unfold pD ptsD
      rw [List.getD_eq_getElem?_getD, List.getElem?_map, j1]
      rfl
    rw [ep] at e4 e5
    rw [j2] at e1
    cases e1
    have hbad := hb (ptD q) (List.mem_map_of_mem hq)
    unfold badP at hbad
    rw [e5, idx_pt e2 e3] at hbad
    have hne : entry q l0 ≠ 0 := by simpa using hbad
    have hge : 0 ≤ entry q l0 := by
      obtain ⟨_, g1, g2, g3⟩ := pt_pos h h' hq
      unfold entry
      split
      · exact g1
      · split
        · exact g2
        · exact g3
    simp
    show 0 < entry q l0
    omega
  · intro hp x hx
    obtain ⟨q, l, hm, rfl, l1, l2, i1, i2⟩ := pt_lab h h' L hx
    have := hp (q, l) hm
    unfold badP
    rw [i2, idx_pt l1 l2]
    have h3 : 0 < entry q l := by simpa using this
    simp
    omega

section
variable {dr : DrT} {ns : List Int} {c : Nat}
theorem s_valid_not {n : Nat} {v : D} (hv : noDict v = true) (ht : ∀ ds, v ≠ .tuple ds) : F_valid_labels dr ns [.int n, v] c = .ok (.bool false, c) := by
  refine run_ret rfl (xs_ifT (c1 := c) ?_ (xs_retE ev_con))
  refine (ev_or (k := true) (ev_not (k := false) (ev_isi (ev_var rfl) ?_))).trans (if_pos rfl)
  cases v with
  | tuple ds => exact absurd rfl (ht ds)
  | dict _ => cases hv
  | _ => rfl
theorem s__law_same_truth {a b : Bool} : F__law_same_truth dr ns [.bool a, .bool b] c = .ok (.bool (a == b), c) :=
  run_ret rfl (xs_retE ((ev_and (k := true) (ev_isi (ev_var rfl) rfl)).trans ((if_pos rfl).trans (ev_cmpV (ev_var rfl) (ev_var rfl) (eqD_bool a b)))))
end
theorem cut1 {xs : List D} : cutD xs (some 1) none = xs.drop 1 := by
  unfold cutD
  rw [show HT.sIx xs.length 0 (some 1) = min 1 xs.length from HT.sIx_nat xs.length 0 1, HT.sIx_none]
  cases xs with
  | nil => rfl
  | cons x r =>
    rw [show min 1 (x :: r).length = 1 by simp]
    exact List.take_of_length_le (by simp)
end LG

/-! S2: points and triangles as data; comprehensions over indices; turns, windings, signs, distances. -/
namespace LG
open PySem PySem.Spec PyProof.Rows L2
/-! ### comprehensions over lists of indices -/
section
variable {ns : List Int} {Φ : List Callee} {gv : List D} {env : En} {c : Nat}
theorem compL_I {α : Type} {tg : Tg} {tt te : En → Nat → R (D × Nat)} {c : Nat} (h : α → D) (p : α → Bool) (g : α → D) : ∀ (is : List α) (acc : List D), (∀ i ∈ is, ∃ env1, asgT tg (h i) env = some env1 ∧ tt env1 c = .ok (.bool (p i), c) ∧ (p i = true → te env1 c = .ok (g i, c))) →
    compL tg env tt te (is.map h) acc c = .ok (acc ++ (is.filter p).map g, c)
  | [], acc, _ => by simp [compL]
  | x :: xs, acc, hx => by
    obtain ⟨env1, h1, h2, h3⟩ := hx x List.mem_cons_self
    have ih := fun acc => compL_I (tt := tt) (te := te) h p g xs acc fun y hy => hx y (List.mem_cons_of_mem _ hy)
    simp only [List.map_cons, compL, h1, h2]
    cases hp : p x with
    | true =>
      simp only [h3 hp]
      rw [ih, List.filter_cons_of_pos hp]
      simp
    | false =>
      simp only
      rw [ih, List.filter_cons_of_neg (by simp [hp])]
/-- filter and map -/
theorem ev_compFI {α : Type} {vs : List Nat} {tg : Tg} {it : Itx} {ifs elt : Ex} {c1 : Nat} (is : List α) (h : α → D) (p : α → Bool) (g : α → D) (hi : evI ns Φ gv it env c = .ok (is.map h, c1))
    (hx : ∀ i ∈ is, ∃ env1, asgT tg (h i) (wipeE env vs) = some env1 ∧ evE ns Φ gv ifs env1 c1 = .ok (.bool (p i), c1) ∧ (p i = true → evE ns Φ gv elt env1 c1 = .ok (g i, c1))) :
    evE ns Φ gv (.comp vs tg it (.some ifs) elt) env c = .ok (.list ((is.filter p).map g), c1) := by
  rw [evE, hi]
  show (compL tg (wipeE env vs) _ _ (is.map h) [] c1).thn _ = _
  rw [compL_I h p g is [] fun i hi' => by
    obtain ⟨env1, h1, h2, h3⟩ := hx i hi'
    exact ⟨env1, h1, by rw [evO, h2]; rfl, h3⟩]
  simp
/-- map -/
theorem ev_compMI {α : Type} {vs : List Nat} {tg : Tg} {it : Itx} {elt : Ex} {c1 : Nat} (is : List α) (h : α → D) (g : α → D) (hi : evI ns Φ gv it env c = .ok (is.map h, c1))
    (hx : ∀ i ∈ is, ∃ env1, asgT tg (h i) (wipeE env vs) = some env1 ∧ evE ns Φ gv elt env1 c1 = .ok (g i, c1)) :
    evE ns Φ gv (.comp vs tg it .none elt) env c = .ok (.list (is.map g), c1) := by
  rw [evE, hi]
  show (compL tg (wipeE env vs) _ _ (is.map h) [] c1).thn _ = _
  rw [compL_I h (fun _ => true) g is [] fun i hi' => by
    obtain ⟨env1, h1, h2⟩ := hx i hi'
    exact ⟨env1, h1, by rw [evO]; rfl, fun _ => h2⟩]
  rw [List.filter_eq_self.mpr fun _ _ => rfl]
  rfl
/-- a loop over indices: an invariant -/
theorem xs_forI {α : Type} {tg : Tg} {it : Itx} {b r : Sms} {c1 : Nat} (is : List α) (h : α → D) (I : Nat → En → Nat → Prop) (hi : evI ns Φ gv it env c = .ok (is.map h, c1)) (h0 : I 0 env c1)
    (hs : ∀ (k : Nat) (i : α) (env1 : En) (c2 : Nat), is[k]? = some i → I k env1 c2 → ∃ env2 env3 c3, asgT tg (h i) env1 = some env2 ∧ exSs ns Φ gv b env2 c2 = .ok (.next env3, c3) ∧ I (k + 1) env3 c3) :
    ∃ env' c', I is.length env' c' ∧ exSs ns Φ gv (.cons (.for' tg it b) r) env c = exSs ns Φ gv r env' c' := by
  have := xs_for (r := r) I hi h0 fun k x env1 c2 hx hI => by
    rw [List.getElem?_map] at hx
    cases e : is[k]? with
    | none => rw [e] at hx; cases hx
    | some i =>
      rw [e] at hx
      cases hx
      exact hs k i env1 c2 e hI
  rwa [List.length_map] at this
theorem ev_sum {es : Ex} {xs : List Int} {c1 : Nat} (h : evE ns Φ gv es env c = .ok (.list (xs.map .int), c1)) : evE ns Φ gv (.prim .sum (.cons es .nil)) env c = .ok (.int xs.sum, c1) := by
  refine ev_primV (ea_cons h ea_nil) ?_
  have : ∀ xs : List Int, intsOf (xs.map .int) = some xs := fun xs => by
    induction xs with
    | nil => rfl
    | cons x xs ih => simp [intsOf, ih]
  show (match intsOf (xs.map .int) with | some is => R.ok (PyData.int is.sum) | none => .bad) = _
  rw [this]
theorem ev_len {es : Ex} {xs : List D} {c1 : Nat} (h : evE ns Φ gv es env c = .ok (.list xs, c1)) : evE ns Φ gv (.prim .len (.cons es .nil)) env c = .ok (.int xs.length, c1) := ev_primV (ea_cons h ea_nil) rfl
end
/-! ### points and triangles as data -/
theorem eqv_pt (q r : Int × Int × Int) : PyData.eqv (ptD q) (ptD r) = decide (q = r) := by
  obtain ⟨a, b, c⟩ := q
  obtain ⟨x, y, z⟩ := r
  rw [Bool.eq_iff_iff]
  simp [ptD, PyData.eqv, PyData.eqvAll]
theorem pD_pt {n j : Nat} (hj : j < (ptsI n).length) : pD n j = ptD (ptsI n)[j] := by
  unfold pD ptsD
  rw [List.getD_eq_getElem?_getD, List.getElem?_map, List.getElem?_eq_getElem hj]
  rfl
theorem eqv_pD {n : Nat} (h : 1 ≤ n) (h' : n ≤ 6) {i j : Nat} (hi : i < (ptsI n).length) (hj : j < (ptsI n).length) : PyData.eqv (pD n i) (pD n j) = decide (i = j) := by
  rw [pD_pt hi, pD_pt hj, eqv_pt]
  refine decide_eq_decide.mpr ⟨fun e => ?_, fun e => by subst e; rfl⟩
  exact (List.getElem_inj (pts_nodup h h')).mp e
def inN (n : Nat) (t : T3) : Prop := t.1 < (ptsI n).length ∧ t.2.1 < (ptsI n).length ∧ t.2.2 < (ptsI n).length
theorem cell_in {n : Nat} (h : 1 ≤ n) (h' : n ≤ 6) {t : T3} (ht : t ∈ cellsI n) : t.1 < t.2.1 ∧ t.2.1 < t.2.2 ∧ inN n t := by
  have ok := okN_of h h'
  unfold okN at ok
  simp only [Bool.and_eq_true, decide_eq_true_eq, List.all_eq_true] at ok
  obtain ⟨⟨o1, o2⟩, o3⟩ := ok.2 t ht
  exact ⟨o1, o2, by omega, by omega, o3⟩
theorem eqv_cell {n : Nat} (h : 1 ≤ n) (h' : n ≤ 6) {t u : T3} (ht : inN n t) (hu : inN n u) : PyData.eqv (cellD n t) (cellD n u) = decide (t = u) := by
  obtain ⟨a, b, c⟩ := t
  obtain ⟨x, y, z⟩ := u
  have e : PyData.eqv (cellD n (a, b, c)) (cellD n (x, y, z)) = (PyData.eqv (pD n a) (pD n x) && (PyData.eqv (pD n b) (pD n y) && (PyData.eqv (pD n c) (pD n z) && true))) := by
    simp [cellD, PyData.eqv, PyData.eqvAll]
  rw [e, eqv_pD h h' ht.1 hu.1, eqv_pD h h' ht.2.1 hu.2.1, eqv_pD h h' ht.2.2 hu.2.2, Bool.eq_iff_iff]
  simp
theorem shp_of {x : D} {k : Nat} (h : PyData.canLay0 x = true) (hd : PyData.depth x ≤ k) (hk : k ≤ 60) : shp x = true := by
  unfold shp SeqAt.shaped
  rw [Bool.and_eq_true]
  exact ⟨h, decide_eq_true (by omega)⟩
theorem cell_lay {n : Nat} {t : T3} (ht : inN n t) : PyData.canLay0 (cellD n t) = true ∧ PyData.depth (cellD n t) ≤ 2 := by
  have := lay_all (k := 1) (xs := [pD n t.1, pD n t.2.1, pD n t.2.2]) fun y hy => by
    have : y = pD n t.1 ∨ y = pD n t.2.1 ∨ y = pD n t.2.2 := by simpa using hy
    rcases this with rfl | rfl | rfl
    · exact pD_lay ht.1
    · exact pD_lay ht.2.1
    · exact pD_lay ht.2.2
  exact ⟨this.1, Nat.succ_le_succ this.2⟩
theorem shp_cell {n : Nat} {t : T3} (ht : inN n t) : shp (cellD n t) = true := shp_of (cell_lay ht).1 (cell_lay ht).2 (by decide)
theorem shp_cells {n : Nat} {ts : List T3} (ht : ∀ t ∈ ts, inN n t) : shp (.list (ts.map (cellD n))) = true := shp_list (k := 2) (fun x hx => by
  obtain ⟨t, h, rfl⟩ := List.mem_map.mp hx
  exact cell_lay (ht t h)) (by decide)
theorem eq_cell {n : Nat} (h : 1 ≤ n) (h' : n ≤ 6) {t u : T3} (ht : inN n t) (hu : inN n u) : cmpB .eq (cellD n t) (cellD n u) = .ok (decide (t = u)) := by
  show (if shp (cellD n t) && shp (cellD n u) then R.ok (PyData.eqv (cellD n t) (cellD n u)) else .bad) = _
  rw [shp_cell ht, shp_cell hu, eqv_cell h h' ht hu]
  rfl
theorem isin_cell {n : Nat} (h : 1 ≤ n) (h' : n ≤ 6) {t : T3} {ts : List T3} (ht : inN n t) (hu : ∀ u ∈ ts, inN n u) : isinD (cellD n t) (.list (ts.map (cellD n))) = .ok (decide (t ∈ ts)) := by
  show (if shp (cellD n t) && shp (.list (ts.map (cellD n))) then R.ok ((ts.map (cellD n)).any fun z => PyData.eqv z (cellD n t)) else .bad) = _
  rw [shp_cell ht, shp_cells hu]
  have : ((ts.map (cellD n)).any fun z => PyData.eqv z (cellD n t)) = decide (t ∈ ts) := by
    rw [Bool.eq_iff_iff, List.any_eq_true, decide_eq_true_eq]
    constructor
    · rintro ⟨z, hz, e⟩
      obtain ⟨u, hu', rfl⟩ := List.mem_map.mp hz
      rw [eqv_cell h h' (hu u hu') ht] at e
      rw [← of_decide_eq_true e]
      exact hu'
    · intro hm
      exact ⟨_, List.mem_map_of_mem hm, by rw [eqv_cell h h' ht ht]; simp⟩
  rw [this]
  rfl
theorem cells_inN {n : Nat} (h : 1 ≤ n) (h' : n ≤ 6) : ∀ t ∈ cellsI n, inN n t := fun t ht => (cell_in h h' ht).2.2
/-! ### labels at points -/
theorem Lab.rngL {n : Nat} {ls : List Int} (L : Lab n ls) : RngL ls := rngL_of L.rng
theorem tab_lab {n : Nat} (h : 1 ≤ n) (h' : n ≤ 6) {ls : List Int} (L : Lab n ls) {j : Nat} (hj : j < (ptsI n).length) : idxD (.dict (tabD n (lv ls))) (pD n j) = .ok (.int (lab ls j)) := by
  obtain ⟨l, e, _, _, g, _⟩ := lab_at h h' L hj
  rw [g]
  unfold lab
  rw [List.getD_eq_getElem?_getD, e]
  rfl
theorem fullC_T {n : Nat} (h : 1 ≤ n) (h' : n ≤ 6) {ls : List Int} (L : Lab n ls) {t : T3} (ht : inN n t) : fullC (tabD n (lv ls)) (cellD n t) = fullT ls t := by
  show full3 (intOf (labOf _ (pD n t.1))) (intOf (labOf _ (pD n t.2.1))) (intOf (labOf _ (pD n t.2.2))) = _
  unfold labOf
  rw [tab_lab h h' L ht.1, tab_lab h h' L ht.2.1, tab_lab h h' L ht.2.2]
  rfl
def fullD (n : Nat) (ls : List Int) : List D := (fullL n ls).map (cellD n)
theorem fullD_eq {n : Nat} (h : 1 ≤ n) (h' : n ≤ 6) {ls : List Int} (L : Lab n ls) : (cellsD n).filter (fullC (tabD n (lv ls))) = fullD n ls := by
  unfold fullD fullL cellsD
  rw [List.filter_map]
  congr 1
  exact List.filter_congr fun t ht => fullC_T h h' L (cells_inN h h' t ht)
theorem full_in {n : Nat} (h : 1 ≤ n) (h' : n ≤ 6) {ls : List Int} : ∀ t ∈ fullL n ls, inN n t := fun t ht => cells_inN h h' t (List.mem_filter.mp ht).1
theorem shp_full {n : Nat} (h : 1 ≤ n) (h' : n ≤ 6) {ls : List Int} : shp (.list (fullD n ls)) = true := shp_cells (full_in h h')
theorem round_all : [1, 2, 3, 4, 5, 6].all (fun n => (roundI n).all fun j => decide (j < (ptsI n).length)) = true := by decide +kernel
theorem round_in {n : Nat} (h : 1 ≤ n) (h' : n ≤ 6) {j : Nat} (hj : j ∈ roundI n) : j < (ptsI n).length :=
  of_decide_eq_true (List.all_eq_true.mp (List.all_eq_true.mp round_all n (mem6 h h')) j hj)
theorem cut2 {xs : List D} : cutD xs none (some 1) = xs.take 1 := by
  unfold cutD
  rw [HT.sIx_none, show HT.sIx xs.length xs.length (some 1) = min 1 xs.length from HT.sIx_nat xs.length xs.length 1]
  cases xs with
  | nil => rfl
  | cons x r => rw [show min 1 (x :: r).length = 1 by simp]; rfl
theorem zip_next {α : Type} (f : α → D) (l : List α) : zipD (.list (l.map f)) (.list ((l.map f).drop 1 ++ (l.map f).take 1)) = .ok ((nextE l).map fun e => .tuple [f e.1, f e.2]) := by
  show R.ok (((l.map f).zip ((l.map f).drop 1 ++ (l.map f).take 1)).map fun p => PyData.tuple [p.1, p.2]) = _
  rw [← List.map_drop, ← List.map_take, ← List.map_append, List.zip_map, List.map_map]
  rfl
theorem addL {ds es : List D} (h : ds.length + es.length ≤ LIM) : binD .add (.list ds) (.list es) = .ok (.list (ds ++ es)) := by
  show (if ds.length + es.length ≤ LIM then R.ok (PyData.list _) else .bad) = _
  rw [if_pos h]
theorem addT {ds es : List D} (h : ds.length + es.length ≤ LIM) : binD .add (.tuple ds) (.tuple es) = .ok (.tuple (ds ++ es)) := by
  show (if ds.length + es.length ≤ LIM then R.ok (PyData.tuple _) else .bad) = _
  rw [if_pos h]
/-- zip(some, some[1:] + some[:1]) -/
theorem ei_next {ns : List Int} {Φ : List Callee} {gv : List D} {env : En} {c : Nat} {α : Type} {i : Nat} (f : α → D) (l : List α) (hl : l.length ≤ 1000) (hi : env[i]? = some (.val (.list (l.map f)))) :
    evI ns Φ gv (.zip (.var i) (.bin .add (.slc (.var i) (.some (.con (.int 1))) .none) (.slc (.var i) .none (.some (.con (.int 1)))))) env c = .ok ((nextE l).map fun e => .tuple [f e.1, f e.2], c) := by
  have hLIM : LIM = 1000000 := rfl
  refine ei_zip (ev_var hi) (ev_binV (ev_slc (z := .list ((l.map f).drop 1)) (ev_var hi) (eo_some ev_con) rfl eo_none rfl (by show R.ok (PyData.list (cutD _ (some 1) none)) = _; rw [cut1])) (ev_slc (z := .list ((l.map f).take 1)) (ev_var hi) eo_none rfl (eo_some ev_con) rfl (by show R.ok (PyData.list (cutD _ none (some 1))) = _; rw [cut2])) (addL ?_)) (zip_next f l)
  have h1 : ((l.map f).drop 1).length ≤ 1000 := by rw [List.length_drop, List.length_map]; omega
  have h2 : ((l.map f).take 1).length ≤ 1 := by rw [List.length_take]; omega
  omega
theorem round_len : ∀ n, (roundI n).length ≤ 18
  | 0 => by decide
  | 1 => by decide
  | 2 => by decide
  | 3 => by decide
  | 4 => by decide
  | 5 => by decide
  | 6 => by decide
  | n + 7 => by show (0 : Nat) ≤ 18; decide
theorem next_mem {α : Type} {l : List α} {e : α × α} (he : e ∈ nextE l) : e.1 ∈ l ∧ e.2 ∈ l := by
  unfold nextE at he
  obtain ⟨h1, h2⟩ := List.of_mem_zip (show (e.1, e.2) ∈ _ from he)
  refine ⟨h1, ?_⟩
  rcases List.mem_append.mp h2 with z | z
  · exact List.mem_of_mem_drop z
  · exact List.mem_of_mem_take z
section
variable {dr : DrT} {ns : List Int} {c : Nat}
theorem s_turn {x y : Int} (hx : rng3 x) (hy : rng3 y) : F_turn dr ns [.int x, .int y] c = .ok (.int (turnI x y), c) := by
  rcases rng3_cases hx with rfl | rfl | rfl <;> rcases rng3_cases hy with rfl | rfl | rfl <;> kernel_rfl
theorem s_round_list {n : Nat} (h : 1 ≤ n) (h' : n ≤ 6) : F_round_list dr ns [.int n] c = .ok (.list (roundD n), c) :=
  six (P := fun n => F_round_list dr ns [.int n] c = .ok (.list (roundD n), c)) (by kernel_rfl) (by kernel_rfl) (by kernel_rfl) (by kernel_rfl) (by kernel_rfl) (by kernel_rfl) h h'
theorem s__law_around {n : Nat} (h : 1 ≤ n) (h' : n ≤ 6) : F__law_around dr ns [.int n] c = .ok (.list (roundD n), c) :=
  six (P := fun n => F__law_around dr ns [.int n] c = .ok (.list (roundD n), c)) (by kernel_rfl) (by kernel_rfl) (by kernel_rfl) (by kernel_rfl) (by kernel_rfl) (by kernel_rfl) h h'
theorem s_full_triangles' {n : Nat} (h : 1 ≤ n) (h' : n ≤ 6) {ls : List Int} (L : Lab n ls) : F_full_triangles dr ns [.int n, .tuple (lv ls)] c = .ok (.list (fullD n ls), c) := by
  rw [s_full_triangles h h' L, fullD_eq h h' L]
theorem s_full_list' {n : Nat} (h : 1 ≤ n) (h' : n ≤ 6) {ls : List Int} (L : Lab n ls) : F_full_list dr ns [.int n, .tuple (lv ls)] c = .ok (.list (fullD n ls), c) := by
  rw [s_full_list h h' L, fullD_eq h h' L]
theorem s_winding {n : Nat} (h : 1 ≤ n) (h' : n ≤ 6) {ls : List Int} (L : Lab n ls) : F_winding dr ns [.int n, .tuple (lv ls)] c = .ok (.int (windI n ls), c) := by
  refine run_ret rfl ((xs_exp (ev_callF (F_check_labels dr) (ea_cons (ev_var rfl) (ea_cons (ev_var rfl) ea_nil)) rfl (s_check_labels h h' L))).trans ?_)
  refine (xs_asg (ev_callF (F_table_of dr) (ea_cons (ev_var rfl) (ea_cons (ev_var rfl) ea_nil)) rfl (s_table_of h h' (by rw [lv_len, L.len])))).trans ?_
  refine (xs_asg (ev_compMI (roundI n) (pD n) (fun j => .int (lab ls j)) (ei_seq (ev_callF (F_round_list dr) (ea_cons (ev_var rfl) ea_nil) rfl (s_round_list h h')) rfl) fun j hj => ⟨_, rfl, ev_idxV (ev_var rfl) (ev_var rfl) (tab_lab h h' L (round_in h h' hj))⟩)).trans ?_
  refine xs_retE (ev_binV (ev_sum (xs := (rndE n).map fun e => tg ls e.1 e.2) ?_) ev_con rfl)
  rw [List.map_map]
  refine ev_compMI (rndE n) _ _ (ei_next (fun j => .int (lab ls j)) (roundI n) (Nat.le_trans (round_len n) (by decide)) rfl) fun e he => ⟨_, rfl, ev_callF (F_turn dr) (ea_cons (ev_var rfl) (ea_cons (ev_var rfl) ea_nil)) rfl (s_turn (L.rngL _) (L.rngL _))⟩
end
end LG

/-! S3: signs, distances, the law's own winding. -/
namespace LG
open PySem PySem.Spec PyProof.Rows L2
/-- the triangles with their points in turn, in the program's order -/
def tuI (n : Nat) : List T3 := (List.range (ptsI n).length).flatMap fun i => (((cellsI n).filter fun t => (arr t).1 == i && isUp t).map arr) ++ (((cellsI n).filter fun t => (arr t).1 == i && !isUp t).map arr)
/-- ascending again -/
def srt (u : T3) : T3 := if u.2.1 < u.1 then (u.2.2, u.2.1, u.1) else u
def tuOk (n : Nat) : Bool := ((tuI n).all fun u => decide (arr (srt u) = u) && decide (srt u ∈ cellsI n)) && ((cellsI n).all fun t => decide (t ∈ (tuI n).map srt))
theorem tuOk_all : [1, 2, 3, 4, 5, 6].all tuOk = true := by decide +kernel
theorem tu_mem {n : Nat} (h : 1 ≤ n) (h' : n ≤ 6) {u : T3} (hu : u ∈ tuI n) : arr (srt u) = u ∧ srt u ∈ cellsI n := by
  have := List.all_eq_true.mp tuOk_all n (mem6 h h')
  unfold tuOk at this
  rw [Bool.and_eq_true] at this
  have := List.all_eq_true.mp this.1 u hu
  simpa using this
theorem tu_all {n : Nat} (h : 1 ≤ n) (h' : n ≤ 6) {t : T3} (ht : t ∈ cellsI n) : ∃ u ∈ tuI n, srt u = t := by
  have := List.all_eq_true.mp tuOk_all n (mem6 h h')
  unfold tuOk at this
  rw [Bool.and_eq_true] at this
  have := of_decide_eq_true (List.all_eq_true.mp this.2 t ht)
  exact List.mem_map.mp this
theorem arr_in {n : Nat} {t : T3} (h : inN n t) : inN n (arr t) := by
  unfold arr
  split
  · exact ⟨h.2.2, h.2.1, h.1⟩
  · exact h
section
variable {dr : DrT} {ns : List Int} {c : Nat}
theorem cmp_eqI (a b : Int) : cmpB .eq (.int a) (.int b) = .ok (decide (a = b)) := eqD_int a b
theorem s_turned {n : Nat} (h : 1 ≤ n) (h' : n ≤ 6) : F_turned_triangles dr ns [.int n] c = .ok (.list ((tuI n).map (cellD n)), c) :=
  six (P := fun n => F_turned_triangles dr ns [.int n] c = .ok (.list ((tuI n).map (cellD n)), c)) (by kernel_rfl) (by kernel_rfl) (by kernel_rfl) (by kernel_rfl) (by kernel_rfl) (by kernel_rfl) h h'
def ptsOf (n : Nat) (t : T3) : List D := [pD n t.1, pD n t.2.1, pD n t.2.2]
theorem sort_tu {n : Nat} (h : 1 ≤ n) (h' : n ≤ 6) : (tuI n).map (fun u => primD .sorted [cellD n u]) = (tuI n).map fun u => R.ok (PyData.list (ptsOf n (srt u))) :=
  six (P := fun n => (tuI n).map (fun u => primD .sorted [cellD n u]) = (tuI n).map fun u => R.ok (PyData.list (ptsOf n (srt u)))) (by kernel_rfl) (by kernel_rfl) (by kernel_rfl) (by kernel_rfl) (by kernel_rfl) (by kernel_rfl) h h'
theorem sort_tu' {n : Nat} (h : 1 ≤ n) (h' : n ≤ 6) {u : T3} (hu : u ∈ tuI n) : primD .sorted [cellD n u] = .ok (.list (ptsOf n (srt u))) := List.map_inj_left.mp (sort_tu h h') u hu
def labs3 (ls : List Int) (u : T3) : List D := [.int (lab ls u.1), .int (lab ls u.2.1), .int (lab ls u.2.2)]
theorem ev_labs {Φ : List Callee} {gv : List D} {env : En} {n : Nat} (h : 1 ≤ n) (h' : n ≤ 6) {ls : List Int} (L : Lab n ls) {u : T3} (hu : inN n u) {i j k : Nat} (hi : env[i]? = some (.val (cellD n u))) (hj : env[j]? = some (.val (.dict (tabD n (lv ls))))) (hk : k < env.length) (hkj : k ≠ j) :
    evE ns Φ gv (.comp [k] (.nm k) (.seq (.var i)) .none (.idx (.var j) (.var k))) env c = .ok (.list (labs3 ls u), c) := by
  have := ev_compMI (ns := ns) (Φ := Φ) (gv := gv) (env := env) (c := c) (vs := [k]) (tg := .nm k) (it := .seq (.var i)) (elt := .idx (.var j) (.var k)) (c1 := c) [u.1, u.2.1, u.2.2] (pD n) (fun j => .int (lab ls j)) (ei_seq (ev_var hi) rfl) fun x hx => by
    have hx : x < (ptsI n).length := by
      have : x = u.1 ∨ x = u.2.1 ∨ x = u.2.2 := by simpa using hx
      rcases this with rfl | rfl | rfl
      · exact hu.1
      · exact hu.2.1
      · exact hu.2.2
    refine ⟨_, rfl, ev_idxV (x := .dict (tabD n (lv ls))) (y := pD n x) (ev_var ?_) (ev_var ?_) (tab_lab h h' L hx)⟩
    · show ((env.set k .unb).set k (.val (pD n x)))[j]? = _
      rw [List.getElem?_set_ne hkj, List.getElem?_set_ne hkj]
      exact hj
    · show ((env.set k .unb).set k (.val (pD n x)))[k]? = _
      rw [List.getElem?_set_self (by rw [List.length_set]; exact hk)]
  exact this
theorem s_sign {n : Nat} (h : 1 ≤ n) (h' : n ≤ 6) {ls : List Int} (L : Lab n ls) {t : T3} (ht : t ∈ cellsI n) (hf : fullT ls t = true) : F_sign dr ns [.int n, .tuple (lv ls), cellD n t] c = .ok (.int (sgnT ls t), c) := by
  have hin := cells_inN h h' t ht
  refine run_ret rfl ((xs_exp (ev_callF (F_check_labels dr) (ea_cons (ev_var rfl) (ea_cons (ev_var rfl) ea_nil)) rfl (s_check_labels h h' L))).trans ?_)
  refine (xs_ifF ((ev_or (k := false) (ev_not (k := true) (ev_isi (ev_var rfl) rfl))).trans ((if_neg Bool.false_ne_true).trans (ev_cmpV (ev_var rfl) (ev_callF (F_triangle_list dr) (ea_cons (ev_var rfl) ea_nil) rfl (s_triangle_list h h')) (k := false) ?_)))).trans ?_
  · show (isinD (cellD n t) (.list ((cellsI n).map (cellD n)))).neg = _
    rw [isin_cell h h' hin (cells_inN h h'), decide_eq_true ht]
    rfl
  refine (xs_asg (ev_callF (F_table_of dr) (ea_cons (ev_var rfl) (ea_cons (ev_var rfl) ea_nil)) rfl (s_table_of h h' (by rw [lv_len, L.len])))).trans ?_
  refine (xs_ifF (ev_not (k := true) (ev_callF (F_is_full dr) (ea_cons (ev_var rfl) (ea_cons (ev_var rfl) ea_nil)) rfl ((s_is_full h h' L (List.mem_map_of_mem ht)).trans (by rw [fullC_T h h' L hin, hf]))))).trans ?_
  obtain ⟨env', c', ⟨rfl, s4, s5, s6, rfl, hI⟩, q⟩ := xs_forI (ns := ns) (Φ := T_sign dr) (gv := g_sign) (env := [.val (.int n), .val (.tuple (lv ls)), .val (cellD n t), .val (.dict (tabD n (lv ls))), .unb, .unb, .unb]) (c := c) (c1 := c) (tg := .nm 4) (it := .seq (.call 4 (.cons (.var 0) .nil)))
    (b := .cons (.ife (.cmp .eq (.prim .tuple (.cons (.prim .sorted (.cons (.var 4) .nil)) .nil)) (.var 2)) (.cons (.asg 5 (.comp [6] (.nm 6) (.seq (.var 4)) .none (.idx (.var 3) (.var 6)))) .nil) .nil) .nil)
    (r := .cons (.ret (.ite (.cmp .eq (.bin .mod (.bin .sub (.idx (.var 5) (.con (.int 1))) (.idx (.var 5) (.con (.int 0)))) (.con (.int 3))) (.con (.int 1))) (.con (.int 1)) (.neg (.con (.int 1))))) .nil)
    (tuI n) (cellD n) (fun k env1 c2 => c2 = c ∧ ∃ s4 s5 s6, env1 = [.val (.int n), .val (.tuple (lv ls)), .val (cellD n t), .val (.dict (tabD n (lv ls))), s4, s5, s6] ∧ ((∃ u ∈ (tuI n).take k, srt u = t) → s5 = .val (.list (labs3 ls (arr t)))))
    (ei_seq (ev_callF (F_turned_triangles dr) (ea_cons (ev_var rfl) ea_nil) rfl (s_turned h h')) rfl) ⟨rfl, .unb, .unb, .unb, rfl, fun ⟨u, hu, _⟩ => by simp at hu⟩
    (fun k u env1 c2 hk ⟨e1, s4, s5, s6, e2, hI⟩ => by
      subst e1 e2
      have hu : u ∈ tuI n := List.mem_of_getElem? hk
      obtain ⟨hu1, hu2⟩ := tu_mem h h' hu
      have hun : inN n u := by rw [← hu1]; exact arr_in (cells_inN h h' _ hu2)
      have test : evE ns (T_sign dr) g_sign (.cmp .eq (.prim .tuple (.cons (.prim .sorted (.cons (.var 4) .nil)) .nil)) (.var 2)) [.val (.int n), .val (.tuple (lv ls)), .val (cellD n t), .val (.dict (tabD n (lv ls))), .val (cellD n u), s5, s6] c2 = .ok (.bool (decide (srt u = t)), c2) :=
        ev_cmpV (x := cellD n (srt u)) (ev_primV (ea_cons (ev_primV (ea_cons (ev_var rfl) ea_nil) (sort_tu' h h' hu)) ea_nil) rfl) (ev_var rfl) (eq_cell h h' (cells_inN h h' _ hu2) hin)
      have tk : (tuI n).take (k + 1) = (tuI n).take k ++ [u] := by
        rw [List.take_succ, hk]
        rfl
      cases e : decide (srt u = t) with
      | true =>
        rw [e] at test
        have e := of_decide_eq_true e
        refine ⟨_, _, c2, rfl, (xs_ifN test ((xs_asg (ev_labs h h' L hun rfl rfl (show (6 : Nat) < 7 by decide) (by decide))).trans xs_nil)).trans xs_nil, rfl, _, _, _, rfl, fun _ => ?_⟩
        rw [← e, hu1]
      | false =>
        rw [e] at test
        have e := of_decide_eq_false e
        refine ⟨_, _, c2, rfl, (xs_ifF test).trans xs_nil, rfl, _, _, _, rfl, fun ⟨v, hv, hv2⟩ => hI ⟨v, ?_, hv2⟩⟩
        rw [tk] at hv
        rcases List.mem_append.mp hv with z | z
        · exact z
        · cases List.mem_singleton.mp z
          exact absurd hv2 e)
  refine q.trans ?_
  have e5 : s5 = .val (.list (labs3 ls (arr t))) := hI (by
    rw [List.take_length]
    exact tu_all h h' ht)
  subst e5
  refine xs_retE ?_
  have tst : evE ns (T_sign dr) g_sign (.cmp .eq (.bin .mod (.bin .sub (.idx (.var 5) (.con (.int 1))) (.idx (.var 5) (.con (.int 0)))) (.con (.int 3))) (.con (.int 1))) [.val (.int n), .val (.tuple (lv ls)), .val (cellD n t), .val (.dict (tabD n (lv ls))), s4, .val (.list (labs3 ls (arr t))), s6] c' = .ok (.bool (decide ((lab ls (arr t).2.1 - lab ls (arr t).1) % 3 = 1)), c') :=
    ev_cmpV (ev_binV (ev_binV (ev_idxV (ev_var rfl) ev_con rfl) (ev_idxV (ev_var rfl) ev_con rfl) rfl) ev_con rfl) ev_con (cmp_eqI _ _)
  refine (ev_ite tst).trans ?_
  unfold sgnT sgn3
  by_cases e : (lab ls (arr t).2.1 - lab ls (arr t).1) % 3 = 1
  · rw [if_pos (decide_eq_true e), if_pos e]
    exact ev_con
  · rw [if_neg (by rw [decide_eq_false e]; exact Bool.false_ne_true), if_neg e]
    exact ev_neg ev_con
/-- the sum of the signs of the full triangles, as the law asks for it -/
theorem ev_signs {Φ : List Callee} {gv : List D} {env : En} {n : Nat} (h : 1 ≤ n) (h' : n ≤ 6) {ls : List Int} (L : Lab n ls) {it : Itx} {i j k f : Nat} (hi : env[i]? = some (.val (.int n))) (hj : env[j]? = some (.val (.tuple (lv ls)))) (hk : k < env.length) (hki : k ≠ i) (hkj : k ≠ j) (hf : Φ[f]? = some ⟨false, F_sign dr⟩) {ts : List T3} (ht : ∀ t ∈ ts, t ∈ cellsI n ∧ fullT ls t = true)
    (hit : evI ns Φ gv it env c = .ok (ts.map (cellD n), c)) : evE ns Φ gv (.prim .sum (.cons (.comp [k] (.nm k) it .none (.call f (.cons (.var i) (.cons (.var j) (.cons (.var k) .nil))))) .nil)) env c = .ok (.int (ts.map (sgnT ls)).sum, c) := by
  refine ev_sum ?_
  rw [List.map_map]
  refine ev_compMI ts (cellD n) _ hit fun t hx => ⟨(env.set k .unb).set k (.val (cellD n t)), rfl, ev_callF (F_sign dr) (ea_cons (ev_var ?_) (ea_cons (ev_var ?_) (ea_cons (ev_var ?_) ea_nil))) hf (s_sign h h' L (ht t hx).1 (ht t hx).2)⟩
  · rw [List.getElem?_set_ne hki, List.getElem?_set_ne hki]; exact hi
  · rw [List.getElem?_set_ne hkj, List.getElem?_set_ne hkj]; exact hj
  · rw [List.getElem?_set_self (by rw [List.length_set]; exact hk)]
theorem full_mem {n : Nat} {ls : List Int} {t : T3} (h : t ∈ fullL n ls) : t ∈ cellsI n ∧ fullT ls t = true := List.mem_filter.mp h
/-! ### distances -/
def apartI (a b : List Int) : Nat := ((a.zip b).filter fun p => decide (p.1 ≠ p.2)).length
theorem zip_lv (a b : List Int) : zipD (.tuple (lv a)) (.tuple (lv b)) = .ok ((a.zip b).map fun p => .tuple [.int p.1, .int p.2]) := by
  show R.ok (((lv a).zip (lv b)).map fun p => PyData.tuple [p.1, p.2]) = _
  unfold lv
  rw [List.zip_map, List.map_map]
  rfl
theorem ne_int (a b : Int) : cmpB .ne (.int a) (.int b) = .ok (decide (a ≠ b)) := by
  show (eqD (.int a) (.int b)).neg = _
  rw [eqD_int]
  show R.ok (!decide (a = b)) = _
  by_cases h : a = b <;> simp [h]
theorem s_apart {a b : List Int} : F_apart dr ns [.tuple (lv a), .tuple (lv b)] c = .ok (.int (apartI a b), c) := by
  refine run_ret rfl (xs_retE ((ev_len (ev_compFI (a.zip b) (fun p => .tuple [.int p.1, .int p.2]) (fun p => decide (p.1 ≠ p.2)) (fun p => .int p.1) (ei_zip (ev_var rfl) (ev_var rfl) (zip_lv a b)) fun p hp => ⟨_, rfl, ev_cmpV (ev_var rfl) (ev_var rfl) (ne_int _ _), fun _ => ev_var rfl⟩)).trans ?_))
  rw [List.length_map]
  rfl
theorem s_distance {n : Nat} (h : 1 ≤ n) (h' : n ≤ 6) {a b : List Int} (A : Lab n a) (B : Lab n b) : F_distance dr ns [.int n, .tuple (lv a), .tuple (lv b)] c = .ok (.int (apartI a b), c) :=
  run_ret rfl ((xs_exp (ev_callF (F_check_labels dr) (ea_cons (ev_var rfl) (ea_cons (ev_var rfl) ea_nil)) rfl (s_check_labels h h' A))).trans ((xs_exp (ev_callF (F_check_labels dr) (ea_cons (ev_var rfl) (ea_cons (ev_var rfl) ea_nil)) rfl (s_check_labels h h' B))).trans (xs_retE (ev_callF (F_apart dr) (ea_cons (ev_var rfl) (ea_cons (ev_var rfl) ea_nil)) rfl s_apart))))
theorem zip_self_filter : ∀ a : List Int, ((a.zip a).filter fun p => decide (p.1 ≠ p.2)) = []
  | [] => rfl
  | x :: a => by
    rw [List.zip_cons_cons, List.filter_cons_of_neg (by simp)]
    exact zip_self_filter a
theorem apart_set : ∀ {a : List Int} {i : Nat} {l : Int}, i < a.length → lab a i ≠ l → apartI a (a.set i l) = 1
  | x :: a, 0, l, _, h => by
    unfold apartI
    have : x ≠ l := h
    rw [List.set_cons_zero, List.zip_cons_cons, List.filter_cons_of_pos (by simpa using this), zip_self_filter]
    rfl
  | x :: a, i + 1, l, hi, h => by
    have ih := apart_set (a := a) (i := i) (l := l) (by simpa using hi) h
    unfold apartI at ih ⊢
    rw [List.set_cons_succ, List.zip_cons_cons, List.filter_cons_of_neg (by simp)]
    exact ih
/-! ### the law's own winding -/
theorem turn_here {Φ : List Callee} {gv : List D} {env : En} {x y : Int} (hx : rng3 x) (hy : rng3 y) {i j : Nat} (hi : env[i]? = some (.val (.int x))) (hj : env[j]? = some (.val (.int y))) :
    evE ns Φ gv (.ite (.cmp .eq (.var i) (.var j)) (.con (.int 0)) (.ite (.cmp .isin (.tup (.cons (.var i) (.cons (.var j) .nil))) (.tup (.cons (.tup (.cons (.con (.int 0)) (.cons (.con (.int 1)) .nil))) (.cons (.tup (.cons (.con (.int 1)) (.cons (.con (.int 2)) .nil))) (.cons (.tup (.cons (.con (.int 2)) (.cons (.con (.int 0)) .nil))) .nil))))) (.con (.int 1)) (.neg (.con (.int 1))))) env c = .ok (.int (turnI x y), c) := by
  have two : ∀ {e e' : Ex} {a b : D}, evE ns Φ gv e env c = .ok (a, c) → evE ns Φ gv e' env c = .ok (b, c) → evE ns Φ gv (.tup (.cons e (.cons e' .nil))) env c = .ok (.tuple [a, b], c) := fun p q => ev_tup (ea_cons p (ea_cons q ea_nil)) (show (2 : Nat) ≤ LIM by decide)
  have t2 : ∀ k, cmpB .isin (.tuple [.int x, .int y]) (.tuple [.tuple [.int 0, .int 1], .tuple [.int 1, .int 2], .tuple [.int 2, .int 0]]) = .ok k → evE ns Φ gv (.cmp .isin (.tup (.cons (.var i) (.cons (.var j) .nil))) (.tup (.cons (.tup (.cons (.con (.int 0)) (.cons (.con (.int 1)) .nil))) (.cons (.tup (.cons (.con (.int 1)) (.cons (.con (.int 2)) .nil))) (.cons (.tup (.cons (.con (.int 2)) (.cons (.con (.int 0)) .nil))) .nil))))) env c = .ok (.bool k, c) := fun k hk =>
    ev_cmpV (two (ev_var hi) (ev_var hj)) (ev_tup (ea_cons (two ev_con ev_con) (ea_cons (two ev_con ev_con) (ea_cons (two ev_con ev_con) ea_nil))) (show (3 : Nat) ≤ LIM by decide)) hk
  refine (ev_ite (ev_cmpV (ev_var hi) (ev_var hj) (cmp_eqI x y))).trans ?_
  rcases rng3_cases hx with rfl | rfl | rfl
  · rcases rng3_cases hy with rfl | rfl | rfl
    · exact (if_pos (by decide)).trans ev_con
    · exact (if_neg (by decide)).trans ((ev_ite (t2 true (by kernel_rfl))).trans ((if_pos rfl).trans ev_con))
    · exact (if_neg (by decide)).trans ((ev_ite (t2 false (by kernel_rfl))).trans ((if_neg Bool.false_ne_true).trans (ev_neg ev_con)))
  · rcases rng3_cases hy with rfl | rfl | rfl
    · exact (if_neg (by decide)).trans ((ev_ite (t2 false (by kernel_rfl))).trans ((if_neg Bool.false_ne_true).trans (ev_neg ev_con)))
    · exact (if_pos (by decide)).trans ev_con
    · exact (if_neg (by decide)).trans ((ev_ite (t2 true (by kernel_rfl))).trans ((if_pos rfl).trans ev_con))
  · rcases rng3_cases hy with rfl | rfl | rfl
    · exact (if_neg (by decide)).trans ((ev_ite (t2 true (by kernel_rfl))).trans ((if_pos rfl).trans ev_con))
    · exact (if_neg (by decide)).trans ((ev_ite (t2 false (by kernel_rfl))).trans ((if_neg Bool.false_ne_true).trans (ev_neg ev_con)))
    · exact (if_pos (by decide)).trans ev_con
theorem s__law_wind {n : Nat} (h : 1 ≤ n) (h' : n ≤ 6) {ls : List Int} (L : Lab n ls) : F__law_wind dr ns [.int n, .dict (tabD n (lv ls))] c = .ok (.int (windI n ls), c) := by
  refine run_ret rfl ((xs_asg (ev_compMI (roundI n) (pD n) (fun j => .int (lab ls j)) (ei_seq (ev_callF (F__law_around dr) (ea_cons (ev_var rfl) ea_nil) rfl (s__law_around h h')) rfl) fun j hj => ⟨_, rfl, ev_idxV (ev_var rfl) (ev_var rfl) (tab_lab h h' L (round_in h h' hj))⟩)).trans ?_)
  refine (xs_asg ev_con).trans ?_
  obtain ⟨env', c', ⟨rfl, s4, s5, s6, rfl⟩, q⟩ := xs_forI (ns := ns) (Φ := T__law_wind dr) (gv := g__law_wind) (env := [.val (.int n), .val (.dict (tabD n (lv ls))), .val (.list ((roundI n).map fun j => .int (lab ls j))), .val (.int 0), .unb, .unb, .unb]) (c := c) (c1 := c) (tg := .tp [4, 5]) (it := .zip (.var 2) (.bin .add (.slc (.var 2) (.some (.con (.int 1))) .none) (.slc (.var 2) .none (.some (.con (.int 1))))))
    (b := .cons (.aug 3 .add (.ite (.cmp .eq (.var 4) (.var 5)) (.con (.int 0)) (.ite (.cmp .isin (.tup (.cons (.var 4) (.cons (.var 5) .nil))) (.tup (.cons (.tup (.cons (.con (.int 0)) (.cons (.con (.int 1)) .nil))) (.cons (.tup (.cons (.con (.int 1)) (.cons (.con (.int 2)) .nil))) (.cons (.tup (.cons (.con (.int 2)) (.cons (.con (.int 0)) .nil))) .nil))))) (.con (.int 1)) (.neg (.con (.int 1)))))) .nil)
    (r := .cons (.ret (.bin .fdiv (.var 3) (.con (.int 3)))) .nil)
    (rndE n) _ (fun k env1 c2 => c2 = c ∧ ∃ s4 s5 s6, env1 = [.val (.int n), .val (.dict (tabD n (lv ls))), .val (.list ((roundI n).map fun j => .int (lab ls j))), .val (.int (eSum (LG.tg ls) ((rndE n).take k))), s4, s5, s6])
    (ei_next (fun j => .int (lab ls j)) (roundI n) (Nat.le_trans (round_len n) (by decide)) rfl) ⟨rfl, .unb, .unb, .unb, rfl⟩
    (fun k e env1 c2 hk ⟨e1, s4, s5, s6, e2⟩ => by
      subst e1 e2
      have tk : (rndE n).take (k + 1) = (rndE n).take k ++ [e] := by
        rw [List.take_succ, hk]
        rfl
      refine ⟨_, [.val (.int n), .val (.dict (tabD n (lv ls))), .val (.list ((roundI n).map fun j => .int (lab ls j))), .val (.int (eSum (LG.tg ls) ((rndE n).take (k + 1)))), .val (.int (lab ls e.1)), .val (.int (lab ls e.2)), s6], c2, rfl, (xs_next ?_).trans xs_nil, rfl, _, _, _, rfl⟩
      rw [tk, eSum_append]
      have := turn_here (ns := ns) (c := c2) (Φ := T__law_wind dr) (gv := g__law_wind) (env := [.val (.int n), .val (.dict (tabD n (lv ls))), .val (.list ((roundI n).map fun j => .int (lab ls j))), .val (.int (eSum (LG.tg ls) ((rndE n).take k))), .val (.int (lab ls e.1)), .val (.int (lab ls e.2)), s6]) (i := 4) (j := 5) (L.rngL e.1) (L.rngL e.2) rfl rfl
      rw [exS]
      simp only [asgN, List.set_cons_succ, List.set_cons_zero, List.getElem?_cons_succ, List.getElem?_cons_zero]
      rw [this]
      simp [augD, eSum, LG.tg])
  refine q.trans ?_
  refine xs_retE (ev_binV (ev_var rfl) ev_con ?_)
  rw [List.take_length]
  rfl
end
end LG

/-! S4: small things of the laws: the first draw, a change of a label, comparisons. -/
namespace LG
open PySem PySem.Spec PyProof.Rows L2
theorem cutTo {xs : List D} {k : Nat} : cutD xs none (some (k : Int)) = xs.take k := by
  unfold cutD
  rw [HT.sIx_none, HT.sIx_nat xs.length xs.length k, List.drop_zero, Nat.sub_zero, ← List.take_eq_take_min]
theorem cutFrom {xs : List D} {k : Nat} : cutD xs (some (k : Int)) none = xs.drop k := by
  unfold cutD
  rw [HT.sIx_nat xs.length 0 k, HT.sIx_none]
  by_cases h : k ≤ xs.length
  · rw [Nat.min_eq_left h]
    exact List.take_of_length_le (by rw [List.length_drop]; exact Nat.le_refl _)
  · rw [Nat.min_eq_right (by omega), List.drop_eq_nil_of_le (Nat.le_refl _), List.drop_eq_nil_of_le (by omega), List.take_nil]
theorem slcTo {xs : List D} {k : Nat} : slcD (.tuple xs) none (some (k : Int)) = .ok (.tuple (xs.take k)) := by
  show R.ok (PyData.tuple (cutD xs none (some (k : Int)))) = _
  rw [cutTo]
theorem slcFrom {xs : List D} {k : Nat} : slcD (.tuple xs) (some (k : Int)) none = .ok (.tuple (xs.drop k)) := by
  show R.ok (PyData.tuple (cutD xs (some (k : Int)) none)) = _
  rw [cutFrom]
theorem atD_nat {xs : List D} {k : Nat} {d : D} (h : xs[k]? = some d) : atD xs (k : Int) = .ok d := by
  unfold atD
  rw [atI_nat h]
theorem lab_get {ls : List Int} {j : Nat} (h : j < ls.length) : ls[j]? = some (lab ls j) := by
  unfold lab
  rw [List.getD_eq_getElem?_getD, List.getElem?_eq_getElem h]
  rfl
theorem idx_lv {ls : List Int} {j : Nat} (h : j < ls.length) : idxD (.tuple (lv ls)) (.int (j : Int)) = .ok (.int (lab ls j)) := by
  show atD (lv ls) (j : Int) = _
  refine atD_nat ?_
  unfold lv
  rw [List.getElem?_map, lab_get h]
  rfl
theorem idx_pts {n j : Nat} (h : j < (ptsI n).length) : idxD (.list (ptsD n)) (.int (j : Int)) = .ok (pD n j) := by
  show atD (ptsD n) (j : Int) = _
  refine atD_nat ?_
  rw [pD_pt h]
  unfold ptsD
  rw [List.getElem?_map, List.getElem?_eq_getElem h]
  rfl
/-- a row with another label at one place -/
theorem lv_set {ls : List Int} {j : Nat} {l : Int} (h : j < ls.length) : (lv ls).take j ++ [.int l] ++ (lv ls).drop (j + 1) = lv (ls.set j l) := by
  unfold lv
  rw [List.map_set, List.set_eq_take_append_cons_drop, if_pos (by rw [List.length_map]; exact h), List.append_assoc]
  rfl
theorem Lab.set {n : Nat} {ls : List Int} (L : Lab n ls) {j : Nat} {l : Int} (hl : rng3 l) : Lab n (ls.set j l) where
  len := by rw [List.length_set]; exact L.len
  rng := fun x hx => by
    rcases List.mem_or_eq_of_mem_set hx with z | z
    · exact L.rng x z
    · rw [z]; exact hl
theorem addT' {ds es fs : List D} (h : ds.length + es.length ≤ LIM) (e : ds ++ es = fs) : binD .add (.tuple ds) (.tuple es) = .ok (.tuple fs) := by rw [addT h, e]
/-- the least coordinate of a point -/
def minP (q : Int × Int × Int) : Int := minI q.1 [q.2.1, q.2.2]
theorem min_pt (q : Int × Int × Int) : primD .min1 [ptD q] = .ok (.int (minP q)) := rfl
def minN (n j : Nat) : Int := minP ((ptsI n).getD j (0, 0, 0))
theorem min_pD {n j : Nat} (h : j < (ptsI n).length) : primD .min1 [pD n j] = .ok (.int (minN n j)) := by
  rw [pD_pt h, min_pt]
  unfold minN
  rw [List.getD_eq_getElem?_getD, List.getElem?_eq_getElem h]
  rfl
theorem inner_all : [1, 2, 3, 4, 5, 6].all (fun n => (roundI n).all fun j => decide (minN n j ≤ 0)) = true := by decide +kernel
theorem inner_not {n j : Nat} (h : 1 ≤ n) (h' : n ≤ 6) (hm : 0 < minN n j) : j ∉ roundI n := fun hj => by
  have := of_decide_eq_true (List.all_eq_true.mp (List.all_eq_true.mp inner_all n (mem6 h h')) j hj)
  omega
theorem gt_int (a b : Int) : cmpB .gt (.int a) (.int b) = .ok (decide (b < a)) := rfl
theorem ne_false {a b : Int} (h : a = b) : cmpB .ne (.int a) (.int b) = .ok false := by
  rw [ne_int, decide_eq_false (fun z => z h)]
theorem pts_le {n : Nat} (h : 1 ≤ n) (h' : n ≤ 6) : (ptsI n).length ≤ 28 := by
  rw [pts_len h h']; exact Nat.div_le_of_le_mul (by have : (n + 1) * (n + 2) ≤ 7 * 8 := Nat.mul_le_mul (by omega) (by omega); omega)
theorem pts_pos {n : Nat} (h : 1 ≤ n) (h' : n ≤ 6) : 3 ≤ (ptsI n).length := by
  rw [pts_len h h']; exact (Nat.le_div_iff_mul_le (by decide)).mpr (by have : 2 * 3 ≤ (n + 1) * (n + 2) := Nat.mul_le_mul (by omega) (by omega); omega)
theorem ptsD_len (n : Nat) : (ptsD n).length = (ptsI n).length := List.length_map ..
/-- a draw, as a natural number -/
theorem draw_nat {ns : List Int} {c m : Nat} (hm : 0 < m) (hc : c < LIM) : ∃ j : Nat, j < m ∧ drawF ns [.int (m : Int)] c = .ok (.int (j : Int), c + 1) := by
  have hb := mixed_bound (ns := ns) (c := c + 1) (m := (m : Int)) (by omega)
  refine ⟨(mixedAt ns (c + 1) m).toNat, by omega, ?_⟩
  rw [s_draw (by omega) hc, Int.toNat_of_nonneg hb.1]
end LG

/-! Mb: the winding of proper labellings is 1; doors as lists. -/
namespace LG
open PySem PySem.Spec PyProof.Rows L2
/-! ### paths -/
def pairs {α : Type} (l : List α) : List (α × α) := l.zip (l.drop 1)
def fromTo (g : Nat → Nat → Int) : List Nat → Int
  | [] => 0
  | [_] => 0
  | i :: j :: r => g i j + fromTo g (j :: r)
theorem eSum_pairs (g : Nat → Nat → Int) : ∀ l : List Nat, eSum g (pairs l) = fromTo g l
  | [] => rfl
  | [_] => rfl
  | i :: j :: r => by
    have ih := eSum_pairs g (j :: r)
    unfold pairs eSum at ih ⊢
    simp only [List.drop_succ_cons, List.drop_zero, List.zip_cons_cons, List.map_cons, List.sum_cons] at ih ⊢
    rw [ih]
    rfl
def lastN : List Nat → Nat
  | [] => 0
  | [i] => i
  | _ :: j :: r => lastN (j :: r)
/-- along a path whose labels are seen by a potential -/
theorem path_sum {ls : List Int} (φ : Int → Int) (ok : Int → Prop) (hφ : ∀ x y, ok x → ok y → turnI x y = φ y - φ x) : ∀ l : List Nat, l ≠ [] → (∀ j ∈ l, ok (lab ls j)) → fromTo (tg ls) l = φ (lab ls (lastN l)) - φ (lab ls (l.headD 0))
  | [], h, _ => absurd rfl h
  | [i], _, _ => by show (0 : Int) = φ (lab ls i) - φ (lab ls i); omega
  | i :: j :: r, _, h => by
    have ih := path_sum φ ok hφ (j :: r) (by simp) fun k hk => h k (List.mem_cons_of_mem _ hk)
    show tg ls i j + fromTo (tg ls) (j :: r) = _
    rw [ih]
    unfold tg
    rw [hφ _ _ (h i List.mem_cons_self) (h j (List.mem_cons_of_mem _ List.mem_cons_self))]
    show _ = φ (lab ls (lastN (j :: r))) - φ (lab ls i)
    show φ (lab ls j) - φ (lab ls i) + (φ (lab ls (lastN (j :: r))) - φ (lab ls j)) = _
    omega
def side2 (n : Nat) : List Nat := (roundI n).take (n + 1)
def side0 (n : Nat) : List Nat := ((roundI n).drop n).take (n + 1)
def side1 (n : Nat) : List Nat := (roundI n).drop (2 * n) ++ (roundI n).take 1
def ptN (n j : Nat) : Int × Int × Int := (ptsI n).getD j (0, 0, 0)
def sidesOk (n : Nat) : Bool := decide (rndE n = pairs (side2 n) ++ (pairs (side0 n) ++ pairs (side1 n))) && ((side2 n).all fun j => decide ((ptN n j).2.2 = 0)) && ((side0 n).all fun j => decide ((ptN n j).1 = 0)) && ((side1 n).all fun j => decide ((ptN n j).2.1 = 0)) &&
  decide (lastN (side2 n) = (side0 n).headD 0) && decide (lastN (side0 n) = (side1 n).headD 0) && decide (lastN (side1 n) = (side2 n).headD 0) && decide ((side2 n).headD 0 < (ptsI n).length) && decide ((side0 n).headD 0 < (ptsI n).length) && decide ((side1 n).headD 0 < (ptsI n).length) &&
  decide ((side2 n).headD 0 ∈ side1 n) && decide ((side0 n).headD 0 ∈ side2 n) && decide ((side1 n).headD 0 ∈ side0 n) && decide (side2 n ≠ []) && decide (side0 n ≠ []) && decide (side1 n ≠ []) && ((side2 n ++ (side0 n ++ side1 n)).all fun j => decide (j < (ptsI n).length)) && decide ((side2 n).headD 0 ∈ side2 n) && decide ((side0 n).headD 0 ∈ side0 n) && decide ((side1 n).headD 0 ∈ side1 n)
theorem sidesOk_all : [1, 2, 3, 4, 5, 6].all sidesOk = true := by decide +kernel
structure Sides (n : Nat) : Prop where
  eq : rndE n = pairs (side2 n) ++ (pairs (side0 n) ++ pairs (side1 n))
  s2 : ∀ j ∈ side2 n, (ptN n j).2.2 = 0
  s0 : ∀ j ∈ side0 n, (ptN n j).1 = 0
  s1 : ∀ j ∈ side1 n, (ptN n j).2.1 = 0
  l2 : lastN (side2 n) = (side0 n).headD 0
  l0 : lastN (side0 n) = (side1 n).headD 0
  l1 : lastN (side1 n) = (side2 n).headD 0
  h2 : (side2 n).headD 0 ∈ side1 n
  h0 : (side0 n).headD 0 ∈ side2 n
  h1 : (side1 n).headD 0 ∈ side0 n
  n2 : side2 n ≠ []
  n0 : side0 n ≠ []
  n1 : side1 n ≠ []
  lt : ∀ j ∈ side2 n ++ (side0 n ++ side1 n), j < (ptsI n).length
  g2 : (side2 n).headD 0 ∈ side2 n
  g0 : (side0 n).headD 0 ∈ side0 n
  g1 : (side1 n).headD 0 ∈ side1 n
theorem sides {n : Nat} (h : 1 ≤ n) (h' : n ≤ 6) : Sides n := by
  have := List.all_eq_true.mp sidesOk_all n (mem6 h h')
  unfold sidesOk at this
  simp only [Bool.and_eq_true, decide_eq_true_eq, List.all_eq_true] at this
  obtain ⟨⟨⟨⟨⟨⟨⟨⟨⟨⟨⟨⟨⟨⟨⟨⟨⟨⟨⟨a1, a2⟩, a3⟩, a4⟩, a5⟩, a6⟩, a7⟩, a8⟩, a9⟩, a10⟩, a11⟩, a12⟩, a13⟩, a14⟩, a15⟩, a16⟩, a17⟩, a18⟩, a19⟩, a20⟩ := this
  exact ⟨a1, a2, a3, a4, a5, a6, a7, a11, a12, a13, a14, a15, a16, a17, a18, a19, a20⟩
theorem turns_sides {n : Nat} (S : Sides n) (ls : List Int) : turns n ls = fromTo (tg ls) (side2 n) + (fromTo (tg ls) (side0 n) + fromTo (tg ls) (side1 n)) := by
  unfold turns
  rw [S.eq, eSum_append, eSum_append, eSum_pairs, eSum_pairs, eSum_pairs]
/-- three sides whose labels climb -/
theorem wind_three {n : Nat} (h : 1 ≤ n) (h' : n ≤ 6) {ls : List Int} (φ2 φ0 φ1 : Int → Int) (ok2 ok0 ok1 : Int → Prop) (t2 : ∀ x y, ok2 x → ok2 y → turnI x y = φ2 y - φ2 x) (t0 : ∀ x y, ok0 x → ok0 y → turnI x y = φ0 y - φ0 x) (t1 : ∀ x y, ok1 x → ok1 y → turnI x y = φ1 y - φ1 x)
    (k2 : ∀ j ∈ side2 n, ok2 (lab ls j)) (k0 : ∀ j ∈ side0 n, ok0 (lab ls j)) (k1 : ∀ j ∈ side1 n, ok1 (lab ls j))
    (e : ∀ x y z, ok2 x → ok1 x → ok2 y → ok0 y → ok0 z → ok1 z → φ2 y - φ2 x + (φ0 z - φ0 y + (φ1 x - φ1 z)) = 3) : windI n ls = 1 := by
  have S := sides h h'
  have := turns_sides S ls
  rw [path_sum φ2 ok2 t2 _ S.n2 k2, path_sum φ0 ok0 t0 _ S.n0 k0, path_sum φ1 ok1 t1 _ S.n1 k1, S.l2, S.l0, S.l1] at this
  rw [e _ _ _ (k2 _ S.g2) (k1 _ S.h2) (k2 _ S.h0) (k0 _ S.g0) (k0 _ S.h1) (k1 _ S.g1)] at this
  unfold windI
  rw [this]
  decide
theorem proper_at {n : Nat} {ls : List Int} (L : Lab n ls) (hp : proper n ls = true) {j : Nat} (hj : j < (ptsI n).length) : 0 < entry (ptN n j) (lab ls j) := by
  unfold proper at hp
  rw [List.all_eq_true] at hp
  have hl : j < ls.length := by rw [L.len]; exact hj
  have := hp ((ptsI n)[j], lab ls j) (List.mem_of_getElem? (i := j) (List.getElem?_zip_eq_some.mpr ⟨List.getElem?_eq_getElem hj, lab_get hl⟩))
  unfold ptN
  rw [List.getD_eq_getElem?_getD, List.getElem?_eq_getElem hj]
  simpa using this
theorem proper_wind {n : Nat} (h : 1 ≤ n) (h' : n ≤ 6) {ls : List Int} (L : Lab n ls) (hp : proper n ls = true) : windI n ls = 1 := by
  have S := sides h h'
  have key : ∀ j, j < (ptsI n).length → rng3 (lab ls j) ∧ 0 < entry (ptN n j) (lab ls j) := fun j hj => ⟨L.rngL j, proper_at L hp hj⟩
  refine wind_three h h' (fun x => x) (fun x => x) (fun x => if x = 0 then 3 else 2) (fun x => x = 0 ∨ x = 1) (fun x => x = 1 ∨ x = 2) (fun x => x = 2 ∨ x = 0) ?_ ?_ ?_ ?_ ?_ ?_ ?_
  · rintro x y (rfl | rfl) (rfl | rfl) <;> decide
  · rintro x y (rfl | rfl) (rfl | rfl) <;> decide
  · rintro x y (rfl | rfl) (rfl | rfl) <;> decide
  · intro j hj
    obtain ⟨k1, k2⟩ := key j (S.lt j (List.mem_append.mpr (.inl hj)))
    have k3 := S.s2 j hj
    rcases rng3_cases k1 with e | e | e
    · exact .inl e
    · exact .inr e
    · rw [e] at k2
      have : (0 : Int) < (ptN n j).2.2 := k2
      omega
  · intro j hj
    obtain ⟨k1, k2⟩ := key j (S.lt j (List.mem_append.mpr (.inr (List.mem_append.mpr (.inl hj)))))
    have k3 := S.s0 j hj
    rcases rng3_cases k1 with e | e | e
    · rw [e] at k2
      have : (0 : Int) < (ptN n j).1 := k2
      omega
    · exact .inl e
    · exact .inr e
  · intro j hj
    obtain ⟨k1, k2⟩ := key j (S.lt j (List.mem_append.mpr (.inr (List.mem_append.mpr (.inr hj)))))
    have k3 := S.s1 j hj
    rcases rng3_cases k1 with e | e | e
    · exact .inr e
    · rw [e] at k2
      have : (0 : Int) < (ptN n j).2.1 := k2
      omega
    · exact .inl e
  · rintro x y z (rfl | rfl) (e1 | e1) (rfl | rfl) (e2 | e2) (rfl | rfl) (e3 | e3) <;> first | decide | omega
theorem proper_odd {n : Nat} (h : 1 ≤ n) (h' : n ≤ 6) {ls : List Int} (L : Lab n ls) (hp : proper n ls = true) : ((fullL n ls).length : Int) % 2 = 1 := by
  rw [full_parity h h' L.rngL, proper_wind h h' L hp]
  decide
/-! ### doors as lists -/
def doorE (a b : Int) (ls : List Int) (e : Nat × Nat) : Bool := doorB a b (lab ls e.1) (lab ls e.2)
def nrm (e : Nat × Nat) : Nat × Nat := if e.1 ≤ e.2 then e else (e.2, e.1)
theorem outN_len (a b : Int) (ls : List Int) : ∀ E : List (Nat × Nat), eSum (dg a b ls) E = ((E.filter (doorE a b ls)).length : Int)
  | [] => rfl
  | e :: E => by
    have ih := outN_len a b ls E
    unfold eSum at ih ⊢
    rw [List.map_cons, List.sum_cons, ih]
    unfold dg
    cases hd : doorE a b ls e with
    | true =>
      rw [List.filter_cons_of_pos hd, if_pos (show doorB a b _ _ = true from hd), List.length_cons]
      push_cast
      omega
    | false =>
      rw [List.filter_cons_of_neg (by simp [hd]), if_neg (by rw [show doorB a b (lab ls e.1) (lab ls e.2) = false from hd]; exact Bool.false_ne_true)]
      omega
theorem doorE_nrm (a b : Int) (ls : List Int) (e : Nat × Nat) : doorE a b ls (nrm e) = doorE a b ls e := by
  unfold nrm
  split
  · rfl
  · exact doorB_flip _ _ _ _
/-- the outer doors, in the order of the round -/
def outDoors (a b : Int) (n : Nat) (ls : List Int) : List (Nat × Nat) := ((rndE n).map nrm).filter (doorE a b ls)
theorem outDoors_eq (a b : Int) (n : Nat) (ls : List Int) : outDoors a b n ls = ((rndE n).filter (doorE a b ls)).map nrm := by
  unfold outDoors
  rw [List.filter_map]
  congr 1
  exact List.filter_congr fun e _ => doorE_nrm a b ls e
theorem outDoors_parity {n : Nat} (h : 1 ≤ n) (h' : n ≤ 6) {ls : List Int} (R : RngL ls) {a b : Int} (ha : rng3 a) (hb : rng3 b) (hab : a ≠ b) : ((outDoors a b n ls).length : Int) % 2 = ((fullL n ls).length : Int) % 2 := by
  rw [outDoors_eq, List.length_map, ← outN_len]
  exact doors_parity h h' R ha hb hab
end LG

/-! S5: outer doors; the law's own signs. -/
namespace LG
open PySem PySem.Spec PyProof.Rows L2
section
variable {dr : DrT} {ns : List Int} {c : Nat}
theorem s__law_same_number {a b : Int} : F__law_same_number dr ns [.int a, .int b] c = .ok (.bool (decide (a = b)), c) :=
  run_ret rfl (xs_retE ((ev_and (k := true) (ev_isi (ev_var rfl) rfl)).trans ((if_pos rfl).trans ((ev_and (k := true) (ev_not (k := false) (ev_isi (ev_var rfl) rfl))).trans ((if_pos rfl).trans (ev_cmpV (ev_var rfl) (ev_var rfl) (cmp_eqI a b)))))))
/-! ### edges -/
def edgeD (n : Nat) (e : Nat × Nat) : D := .tuple [pD n e.1, pD n e.2]
theorem sort_rnd {n : Nat} (h : 1 ≤ n) (h' : n ≤ 6) : (rndE n).map (fun e => primD .sorted [.tuple [pD n e.1, pD n e.2]]) = (rndE n).map fun e => R.ok (PyData.list [pD n (nrm e).1, pD n (nrm e).2]) :=
  six (P := fun n => (rndE n).map (fun e => primD .sorted [.tuple [pD n e.1, pD n e.2]]) = (rndE n).map fun e => R.ok (PyData.list [pD n (nrm e).1, pD n (nrm e).2])) (by kernel_rfl) (by kernel_rfl) (by kernel_rfl) (by kernel_rfl) (by kernel_rfl) (by kernel_rfl) h h'
theorem sort_rnd' {n : Nat} (h : 1 ≤ n) (h' : n ≤ 6) {e : Nat × Nat} (he : e ∈ rndE n) : primD .sorted [.tuple [pD n e.1, pD n e.2]] = .ok (.list [pD n (nrm e).1, pD n (nrm e).2]) := List.map_inj_left.mp (sort_rnd h h') e he
theorem sort_rndL {n : Nat} (h : 1 ≤ n) (h' : n ≤ 6) {e : Nat × Nat} (he : e ∈ rndE n) : primD .sorted [.list [pD n e.1, pD n e.2]] = .ok (.list [pD n (nrm e).1, pD n (nrm e).2]) := sort_rnd' h h' he
theorem s_outer_edges {n : Nat} (h : 1 ≤ n) (h' : n ≤ 6) : F_outer_edges dr ns [.int n] c = .ok (.list (((rndE n).map nrm).map (edgeD n)), c) := by
  refine run_ret rfl ((xs_asg (ev_callF (F_round_list dr) (ea_cons (ev_var rfl) ea_nil) rfl (s_round_list h h'))).trans (xs_retE ?_))
  rw [List.map_map]
  exact ev_compMI (rndE n) _ _ (ei_next (pD n) (roundI n) (Nat.le_trans (round_len n) (by decide)) rfl) fun e he => ⟨_, rfl, ev_primV (ea_cons (ev_primV (ea_cons (ev_var rfl) ea_nil) (sort_rnd' h h' he)) ea_nil) rfl⟩
def isPair (a b : Int) : Prop := (a = 0 ∧ b = 1) ∨ (a = 0 ∧ b = 2) ∨ (a = 1 ∧ b = 2)
theorem isPair.rng {a b : Int} (h : isPair a b) : rng3 a ∧ rng3 b ∧ a ≠ b := by
  rcases h with ⟨rfl, rfl⟩ | ⟨rfl, rfl⟩ | ⟨rfl, rfl⟩ <;> (refine ⟨⟨by decide, by decide⟩, ⟨by decide, by decide⟩, by decide⟩)
theorem door_ev {a b x y : Int} (hp : isPair a b) (hx : rng3 x) (hy : rng3 y) : primD .sorted [.list [.int x, .int y]] = .ok (.list (isortD [.int x, .int y])) ∧ cmpB .eq (.list (isortD [.int x, .int y])) (.list [.int a, .int b]) = .ok (doorB a b x y) := by
  rcases hp with ⟨rfl, rfl⟩ | ⟨rfl, rfl⟩ | ⟨rfl, rfl⟩ <;> rcases rng3_cases hx with rfl | rfl | rfl <;> rcases rng3_cases hy with rfl | rfl | rfl <;> exact ⟨by kernel_rfl, by kernel_rfl⟩
def inE (n : Nat) (e : Nat × Nat) : Prop := e.1 < (ptsI n).length ∧ e.2 < (ptsI n).length
theorem s_is_door {n : Nat} (h : 1 ≤ n) (h' : n ≤ 6) {ls : List Int} (L : Lab n ls) {a b : Int} (hp : isPair a b) {e : Nat × Nat} (he : inE n e) : F_is_door dr ns [.dict (tabD n (lv ls)), .tuple [.int a, .int b], edgeD n e] c = .ok (.bool (doorE a b ls e), c) := by
  obtain ⟨f1, f2⟩ := door_ev hp (L.rngL e.1) (L.rngL e.2)
  refine run_ret rfl (xs_retE (ev_cmpV (x := .list (isortD [.int (lab ls e.1), .int (lab ls e.2)])) (ev_primV (ea_cons (ev_compMI [e.1, e.2] (pD n) (fun j => .int (lab ls j)) (ei_seq (ev_var rfl) rfl) fun j hj => ⟨_, rfl, ev_idxV (ev_var rfl) (ev_var rfl) (tab_lab h h' L ?_)⟩) ea_nil) f1) (ev_primV (ea_cons (ev_var rfl) ea_nil) rfl) f2))
  have : j = e.1 ∨ j = e.2 := by simpa using hj
  rcases this with rfl | rfl
  · exact he.1
  · exact he.2
theorem nrm_in {n : Nat} {e : Nat × Nat} (he : inE n e) : inE n (nrm e) := by
  unfold nrm
  split
  · exact he
  · exact ⟨he.2, he.1⟩
theorem rnd_in {n : Nat} (h : 1 ≤ n) (h' : n ≤ 6) {e : Nat × Nat} (he : e ∈ rndE n) : inE n e := ⟨round_in h h' (next_mem he).1, round_in h h' (next_mem he).2⟩
theorem s_outer_list {n : Nat} (h : 1 ≤ n) (h' : n ≤ 6) {ls : List Int} (L : Lab n ls) {a b : Int} (hp : isPair a b) : F_outer_list dr ns [.int n, .dict (tabD n (lv ls)), .tuple [.int a, .int b]] c = .ok (.list ((outDoors a b n ls).map (edgeD n)), c) := by
  refine run_ret rfl (xs_retE (ev_compFI ((rndE n).map nrm) (edgeD n) (doorE a b ls) (edgeD n) (ei_seq (ev_callF (F_outer_edges dr) (ea_cons (ev_var rfl) ea_nil) rfl (s_outer_edges h h')) rfl) fun e he => ⟨_, rfl, ev_callF (F_is_door dr) (ea_cons (ev_var rfl) (ea_cons (ev_var rfl) (ea_cons (ev_var rfl) ea_nil))) rfl (s_is_door h h' L hp ?_), fun _ => ev_var rfl⟩))
  obtain ⟨u, hu, rfl⟩ := List.mem_map.mp he
  exact nrm_in (rnd_in h h' hu)
theorem s_check_pair {n : Nat} (h : 1 ≤ n) (h' : n ≤ 6) {ls : List Int} (L : Lab n ls) {a b : Int} (hp : isPair a b) : F_check_pair dr ns [.int n, .tuple (lv ls), .tuple [.int a, .int b]] c = .ok (.none, c) := by
  have r := hp.rng
  have ia : intIn 0 2 (.int a) = true := by simp [intIn, r.1.1, r.1.2]
  have ib : intIn 0 2 (.int b) = true := by simp [intIn, r.2.1.1, r.2.1.2]
  refine run_end (env := startE false 4 [.int n, .tuple (lv ls), .tuple [.int a, .int b]]) rfl ((xs_exp (ev_callF (F_check_labels dr) (ea_cons (ev_var rfl) (ea_cons (ev_var rfl) ea_nil)) rfl (s_check_labels h h' L))).trans ?_)
  refine (xs_ifF (c1 := c) ?_).trans ?_
  · refine (ev_or (k := false) (ev_not (k := true) (ev_isi (ev_var rfl) rfl))).trans ?_
    refine (if_neg Bool.false_ne_true).trans ((ev_or (k := false) (ev_cmpV (ev_primV (ea_cons (ev_var rfl) ea_nil) rfl) ev_con (ne_false rfl))).trans ?_)
    refine (if_neg Bool.false_ne_true).trans (ev_not (k := true) (ev_primV (ea_cons (ev_compMI [a, b] .int (fun _ => .bool true) (ei_seq (ev_var rfl) rfl) fun x hx => ⟨_, rfl, ev_callF (F_is_integer dr) (ea_cons (ev_var rfl) (ea_cons ev_con (ea_cons ev_con ea_nil))) rfl ((s_is_integer rfl).trans ?_)⟩) ea_nil) rfl))
    have : x = a ∨ x = b := by simpa using hx
    rcases this with rfl | rfl
    · rw [ia]
    · rw [ib]
  · refine (xs_ifF (ev_cmpV (ev_idxV (ev_var rfl) ev_con rfl) (ev_idxV (ev_var rfl) ev_con rfl) (k := false) ?_)).trans xs_nil
    show R.ok (decide (b ≤ a)) = .ok false
    rw [decide_eq_false]
    rcases hp with ⟨rfl, rfl⟩ | ⟨rfl, rfl⟩ | ⟨rfl, rfl⟩ <;> decide
theorem s_outer_doors {n : Nat} (h : 1 ≤ n) (h' : n ≤ 6) {ls : List Int} (L : Lab n ls) {a b : Int} (hp : isPair a b) : F_outer_doors dr ns [.int n, .tuple (lv ls), .tuple [.int a, .int b]] c = .ok (.list ((outDoors a b n ls).map (edgeD n)), c) :=
  run_ret rfl ((xs_exp (ev_callF (F_check_pair dr) (ea_cons (ev_var rfl) (ea_cons (ev_var rfl) (ea_cons (ev_var rfl) ea_nil))) rfl (s_check_pair h h' L hp))).trans (xs_retE (ev_callF (F_outer_list dr) (ea_cons (ev_var rfl) (ea_cons (ev_callF (F_table_of dr) (ea_cons (ev_var rfl) (ea_cons (ev_var rfl) ea_nil)) rfl (s_table_of h h' (by rw [lv_len, L.len]))) (ea_cons (ev_var rfl) ea_nil))) rfl (s_outer_list h h' L hp))))
/-! ### the law's own sign -/
def own2 : R (Fl × Nat) → Option (D × Nat)
  | .ok (.next env, c) => (match (env[2]? : Option LG.Slot) with | some (.own d) => some (d, c) | _ => none)
  | _ => none
theorem own2_ok {r : R (Fl × Nat)} {d : D} {c : Nat} (h : own2 r = some (d, c)) : ∃ env, r = .ok (.next env, c) ∧ env[2]? = some (.own d) := by
  unfold own2 at h
  split at h
  · split at h
    · rename_i e
      cases h
      exact ⟨_, rfl, e⟩
    · cases h
  · cases h
/-- labels by a function -/
def lvf (n : Nat) (f : Nat → Int) : List D := (List.range (ptsI n).length).map fun j => .int (f j)
theorem lv_lvf {n : Nat} {ls : List Int} (L : Lab n ls) : lv ls = lvf n (lab ls) := by
  unfold lv lvf
  refine List.ext_getElem? fun i => ?_
  rw [List.getElem?_map, List.getElem?_map]
  by_cases hi : i < (ptsI n).length
  · rw [lab_get (by rw [L.len]; exact hi), List.getElem?_range hi]
    rfl
  · rw [List.getElem?_eq_none (by rw [L.len]; omega), List.getElem?_eq_none (by simpa using hi)]
    rfl
theorem ends_ev {n : Nat} (h : 1 ≤ n) (h' : n ≤ 6) (f : Nat → Int) : (cellsI n).map (fun t => own2 (exSs ns (T__law_sign_here dr) g__law_sign_here (b__law_sign_here.take 2) [.val (.dict (tabD n (lvf n f))), .val (cellD n t), .unb, .unb, .unb, .unb, .unb] c)) =
    (cellsI n).map fun t => some (.list [.int (f (arr t).1), .int (f (arr t).2.1), .int (f (arr t).2.2)], c) :=
  six (P := fun n => (cellsI n).map (fun t => own2 (exSs ns (T__law_sign_here dr) g__law_sign_here (b__law_sign_here.take 2) [.val (.dict (tabD n (lvf n f))), .val (cellD n t), .unb, .unb, .unb, .unb, .unb] c)) =
    (cellsI n).map fun t => some (.list [.int (f (arr t).1), .int (f (arr t).2.1), .int (f (arr t).2.2)], c)) (by kernel_rfl) (by kernel_rfl) (by kernel_rfl) (by kernel_rfl) (by kernel_rfl) (by kernel_rfl) h h'
theorem ends_ev' {n : Nat} (h : 1 ≤ n) (h' : n ≤ 6) {ls : List Int} (L : Lab n ls) {t : T3} (ht : t ∈ cellsI n) : ∃ env : En, exSs ns (T__law_sign_here dr) g__law_sign_here (b__law_sign_here.take 2) [.val (.dict (tabD n (lv ls))), .val (cellD n t), .unb, .unb, .unb, .unb, .unb] c = .ok (.next env, c) ∧ env[2]? = some (.own (.list (labs3 ls (arr t)))) := by
  have := List.map_inj_left.mp (ends_ev (dr := dr) (ns := ns) (c := c) h h' (lab ls)) t ht
  rw [← lv_lvf L] at this
  exact own2_ok this
theorem cyc_ev {x y z : Int} (hx : rng3 x) (hy : rng3 y) (hz : rng3 z) (hf : full3 x y z = true) : cmpB .isin (.list [.int x, .int y, .int z]) (.tuple [.list [.int 0, .int 1, .int 2], .list [.int 1, .int 2, .int 0], .list [.int 2, .int 0, .int 1]]) = .ok (decide (sgn3 x y = 1)) := by
  rcases rng3_cases hx with rfl | rfl | rfl <;> rcases rng3_cases hy with rfl | rfl | rfl <;> rcases rng3_cases hz with rfl | rfl | rfl <;> first | (cases hf; done) | kernel_rfl
theorem arr_full (ls : List Int) (t : T3) : full3 (lab ls (arr t).1) (lab ls (arr t).2.1) (lab ls (arr t).2.2) = fullT ls t := by
  unfold arr
  cases isUp t with
  | true => exact full3_rev _ _ _
  | false => rfl
theorem s__law_sign_here {n : Nat} (h : 1 ≤ n) (h' : n ≤ 6) {ls : List Int} (L : Lab n ls) {t : T3} (ht : t ∈ cellsI n) (hf : fullT ls t = true) : F__law_sign_here dr ns [.dict (tabD n (lv ls)), cellD n t] c = .ok (.int (sgnT ls t), c) := by
  obtain ⟨env, e1, e2⟩ := ends_ev' (dr := dr) (ns := ns) (c := c) h h' L ht
  refine run_ret rfl ((exSs_split 2 _ _ _ e1).trans ?_)
  refine (xs_shr (d := .list (labs3 ls (arr t))) e2).trans (xs_retE ?_)
  have hlen : 2 < env.length := (List.getElem?_eq_some_iff.mp e2).1
  have three : ∀ {a b d : Int}, evE ns (T__law_sign_here dr) g__law_sign_here (.lst (.cons (.con (.int a)) (.cons (.con (.int b)) (.cons (.con (.int d)) .nil)))) (env.set 2 (.val (.list (labs3 ls (arr t))))) c = .ok (.list [.int a, .int b, .int d], c) := fun {a b d} => ev_lst (ea_cons ev_con (ea_cons ev_con (ea_cons ev_con ea_nil))) (show (3 : Nat) ≤ LIM by decide)
  have tst := ev_cmpV (o := .isin) (ev_var (ns := ns) (Φ := T__law_sign_here dr) (gv := g__law_sign_here) (c := c) (List.getElem?_set_self (a := LG.Slot.val (.list (labs3 ls (arr t)))) hlen)) (ev_tup (ea_cons (three (a := 0) (b := 1) (d := 2)) (ea_cons (three (a := 1) (b := 2) (d := 0)) (ea_cons (three (a := 2) (b := 0) (d := 1)) ea_nil))) (show (3 : Nat) ≤ LIM by decide)) (cyc_ev (L.rngL _) (L.rngL _) (L.rngL _) ((arr_full ls t).trans hf))
  refine (ev_ite tst).trans ?_
  unfold sgnT
  rcases sgn3_pm (lab ls (arr t).1) (lab ls (arr t).2.1) with e | e <;> rw [e]
  · exact (if_pos (by decide)).trans ev_con
  · exact (if_neg (by decide)).trans (ev_neg ev_con)
end
end LG

/-! S16: all labels within. -/
namespace LG
open PySem PySem.Spec PyProof.Rows L2
/-! ### one entry of a table changed -/
theorem zip_same {q : Int × Int × Int} {v : D} : ∀ {ps : List (Int × Int × Int)} {vs : List D}, q ∉ ps → ((ps.map ptD).zip vs).map (fun p => if kq p.1 (keyI q) then (p.1, v) else p) = (ps.map ptD).zip vs
  | [], _, _ => by simp
  | p :: ps, [], _ => by simp
  | p :: ps, u :: vs, h => by
    rw [List.map_cons, List.zip_cons_cons, List.map_cons, zip_same fun z => h (List.mem_cons_of_mem _ z)]
    congr 1
    rw [if_neg]
    rw [kq_pt]
    intro z
    exact h (List.mem_cons.mpr (.inl (of_decide_eq_true z).symm))
theorem zip_put {v : D} : ∀ {ps : List (Int × Int × Int)} {vs : List D} {j : Nat} {q : Int × Int × Int}, ps.Nodup → ps[j]? = some q → ((ps.map ptD).zip vs).map (fun p => if kq p.1 (keyI q) then (p.1, v) else p) = (ps.map ptD).zip (vs.set j v)
  | [], _, _, _, _, h => by simp at h
  | p :: ps, [], _, _, _, _ => by simp
  | p :: ps, u :: vs, 0, q, nd, h => by
    cases h
    rw [List.map_cons, List.zip_cons_cons, List.map_cons, zip_same (List.nodup_cons.mp nd).1, if_pos (by rw [kq_pt]; simp), List.set_cons_zero, List.zip_cons_cons]
  | p :: ps, u :: vs, j + 1, q, nd, h => by
    rw [List.getElem?_cons_succ] at h
    have nd' := List.nodup_cons.mp nd
    rw [List.map_cons, List.zip_cons_cons, List.map_cons, zip_put nd'.2 h, List.set_cons_succ, List.zip_cons_cons]
    congr 1
    rw [if_neg]
    rw [kq_pt]
    intro z
    exact nd'.1 (by rw [of_decide_eq_true z]; exact List.mem_of_getElem? h)
theorem put_tab {n : Nat} (h : 1 ≤ n) (h' : n ≤ 6) {ls : List Int} (hl : ls.length = (ptsI n).length) {j : Nat} (hj : j < (ptsI n).length) {x : Int} : putD (.dict (tabD n (lv ls))) (pD n j) (.int x) = .ok (.dict (tabD n (lv (ls.set j x)))) := by
  have hq : (ptsI n)[j]? = some (ptsI n)[j] := List.getElem?_eq_getElem hj
  have hv : (lv ls)[j]? = some (.int (lab ls j)) := by
    unfold lv
    rw [List.getElem?_map, lab_get (by omega)]
    rfl
  have hlen : (tabD n (lv ls)).length < LIM := by
    have : LIM = 1000000 := rfl
    have : (ptsI n).length ≤ 28 := six (P := fun n => (ptsI n).length ≤ 28) (by decide) (by decide) (by decide) (by decide) (by decide) (by decide) h h'
    unfold tabD ptsD
    rw [List.length_zip, List.length_map]
    omega
  rw [pD_pt hj]
  show (match nk (ptD (ptsI n)[j]) with | some κ => if (tabD n (lv ls)).length < LIM then R.ok (PyData.dict (dPut (tabD n (lv ls)) (ptD (ptsI n)[j]) κ (.int x))) else .bad | none => .bad) = _
  rw [nk_pt]
  show (if (tabD n (lv ls)).length < LIM then _ else _) = _
  rw [if_pos hlen]
  congr 2
  unfold dPut
  have hg : dGet (tabD n (lv ls)) (keyI (ptsI n)[j]) = some (.int (lab ls j)) := dGet_zip (pts_nodup h h') hq hv
  rw [hg, if_pos (show (some (PyData.int (lab ls j))).isSome = true from rfl)]
  unfold tabD ptsD
  rw [zip_put (pts_nodup h h') hq]
  congr 1
  unfold lv
  rw [List.map_set]
def hzP (n : Nat) : Bool := match hzKs (ptsD n) with
  | some hs => decide hs.Nodup
  | none => false
theorem hzP_all : [1, 2, 3, 4, 5, 6].all hzP = true := by decide +kernel
theorem hz_tab {n : Nat} (h : 1 ≤ n) (h' : n ≤ 6) {vs : List D} (hl : vs.length = (ptsI n).length) : primD .dict [.dict (tabD n vs)] = .ok (.dict (tabD n vs)) := by
  show (if hzOk (tabD n vs) then R.ok (PyData.dict (tabD n vs)) else .bad) = _
  have : hzOk (tabD n vs) = true := by
    unfold hzOk
    rw [keys_tab hl]
    exact List.all_eq_true.mp hzP_all n (mem6 h h')
  rw [this]
  rfl
/-! ### the labels within, all of them -/
def lab3 : List Int := [0, 1, 2]
def fT (n : Nat) (T : List (List Int)) (j : Nat) : List (List Int) := if 0 < minN n j then T.flatMap (fun l => lab3.map fun x => l.set j x) else T
def fR (n : Nat) (ls : List Int) (R : List (List Int)) (j : Nat) : List (List Int) := R.flatMap fun r => (lab3.filter fun x => decide (0 < minN n j) || decide (x = lab ls j)).map fun x => r ++ [x]
def fillT (n : Nat) (ls : List Int) (i : Nat) : List (List Int) := (List.range i).foldl (fT n) [ls]
def fillR (n : Nat) (ls : List Int) (i : Nat) : List (List Int) := (List.range i).foldl (fR n ls) [[]]
def innC (n i : Nat) : Nat := (List.range i).countP fun j => decide (0 < minN n j)
section
variable {n : Nat} {ls : List Int}
theorem fillT_succ {i : Nat} : fillT n ls (i + 1) = fT n (fillT n ls i) i := by
  unfold fillT
  rw [List.range_succ, List.foldl_append]
  rfl
theorem fillR_succ {i : Nat} : fillR n ls (i + 1) = fR n ls (fillR n ls i) i := by
  unfold fillR
  rw [List.range_succ, List.foldl_append]
  rfl
theorem fillR_len : ∀ {i : Nat} {r : List Int}, r ∈ fillR n ls i → r.length = i
  | 0, r, h => by
    have : r = [] := by simpa [fillR] using h
    rw [this]
    rfl
  | i + 1, r, h => by
    rw [fillR_succ] at h
    obtain ⟨r0, h0, h1⟩ := List.mem_flatMap.mp h
    obtain ⟨x, _, rfl⟩ := List.mem_map.mp h1
    rw [List.length_append, fillR_len h0]
    rfl
theorem flat_congr {α β : Type} {f g : α → List β} : ∀ {l : List α}, (∀ x ∈ l, f x = g x) → l.flatMap f = l.flatMap g
  | [], _ => rfl
  | x :: l, h => by rw [List.flatMap_cons, List.flatMap_cons, h x List.mem_cons_self, flat_congr fun y hy => h y (List.mem_cons_of_mem _ hy)]
theorem one_lab {x : Int} (hx : rng3 x) : lab3.filter (fun y => decide (y = x)) = [x] := by
  rcases rng3_cases hx with rfl | rfl | rfl <;> decide
/-- both ways to fill are one -/
theorem fill_eq (L : Lab n ls) : ∀ {i : Nat}, i ≤ ls.length → fillT n ls i = (fillR n ls i).map (· ++ ls.drop i)
  | 0, _ => by simp [fillT, fillR]
  | i + 1, hi => by
    have ih := fill_eq L (i := i) (by omega)
    rw [fillT_succ, fillR_succ, ih]
    have hd : ls.drop i = lab ls i :: ls.drop (i + 1) := by
      rw [List.drop_eq_getElem_cons (by omega)]
      congr 1
      unfold lab
      rw [List.getD_eq_getElem?_getD, List.getElem?_eq_getElem (by omega)]
      rfl
    unfold fT fR
    by_cases hm : 0 < minN n i
    · rw [if_pos hm, List.map_flatMap, List.flatMap_map]
      refine flat_congr fun r hr => ?_
      have hl : lab3.filter (fun x => decide (0 < minN n i) || decide (x = lab ls i)) = lab3 := List.filter_eq_self.mpr fun x _ => by rw [decide_eq_true hm]; rfl
      rw [hl, List.map_map]
      refine List.map_congr_left fun x _ => ?_
      show (r ++ ls.drop i).set i x = r ++ [x] ++ ls.drop (i + 1)
      rw [List.set_append_right _ _ (by rw [fillR_len hr]; exact Nat.le_refl _), fillR_len hr, Nat.sub_self, hd, List.set_cons_zero, List.append_assoc]
      rfl
    · rw [if_neg hm, List.map_flatMap]
      have hl : lab3.filter (fun x => decide (0 < minN n i) || decide (x = lab ls i)) = [lab ls i] := by
        rw [← one_lab (L.rngL i)]
        refine List.filter_congr fun x _ => ?_
        rw [decide_eq_false hm, Bool.false_or]
      rw [hl, List.flatMap_def]
      have : ∀ l : List (List Int), (l.map fun r => ((([lab ls i] : List Int).map fun x => r ++ [x]).map (· ++ ls.drop (i + 1)))).flatten = l.map fun r => r ++ ls.drop i := by
        intro l
        induction l with
        | nil => rfl
        | cons r l ih =>
          rw [List.map_cons, List.flatten_cons, ih, List.map_cons]
          show (r ++ [lab ls i] ++ ls.drop (i + 1)) :: _ = _
          rw [hd, List.append_assoc]
          rfl
      exact (this _).symm
theorem fill_all (L : Lab n ls) : fillT n ls ls.length = fillR n ls ls.length := by
  rw [fill_eq L (Nat.le_refl _), List.drop_length]
  simp
/-- what a filling keeps -/
structure Fill (n : Nat) (ls l : List Int) : Prop where
  L : Lab n l
  w : windI n l = windI n ls
theorem fillT_ok (h : 1 ≤ n) (h' : n ≤ 6) (L : Lab n ls) : ∀ {i : Nat} {l : List Int}, l ∈ fillT n ls i → Fill n ls l
  | 0, l, hl => by
    have : l = ls := by simpa [fillT] using hl
    rw [this]
    exact ⟨L, rfl⟩
  | i + 1, l, hl => by
    rw [fillT_succ] at hl
    unfold fT at hl
    split at hl
    · rename_i hm
      obtain ⟨l0, h0, h1⟩ := List.mem_flatMap.mp hl
      obtain ⟨x, hx, rfl⟩ := List.mem_map.mp h1
      have f := fillT_ok h h' L h0
      have hr : rng3 x := by
        have : x = 0 ∨ x = 1 ∨ x = 2 := by simpa [lab3] using hx
        unfold rng3
        omega
      exact ⟨f.L.set hr, by rw [wind_set (inner_not h h' hm), f.w]⟩
    · exact fillT_ok h h' L hl
theorem fillT_own (L : Lab n ls) : ∀ {i : Nat}, ls ∈ fillT n ls i
  | 0 => by simp [fillT]
  | i + 1 => by
    rw [fillT_succ]
    unfold fT
    split
    · refine List.mem_flatMap.mpr ⟨ls, fillT_own L, List.mem_map.mpr ⟨lab ls i, ?_, ?_⟩⟩
      · rcases rng3_cases (L.rngL i) with z | z | z <;> rw [z] <;> decide
      · apply List.ext_getElem?
        intro k
        rw [List.getElem?_set]
        split
        · rename_i e
          subst e
          split
          · rename_i hlt
            unfold lab
            rw [List.getD_eq_getElem?_getD, List.getElem?_eq_getElem hlt]
            rfl
          · rename_i hlt
            rw [List.getElem?_eq_none (by omega)]
        · rfl
    · exact fillT_own L
theorem flat3 {α : Type} {f : α → List α} : ∀ {l : List α}, (∀ x, (f x).length = 3) → (l.flatMap f).length = 3 * l.length
  | [], _ => rfl
  | x :: l, hx => by
    rw [List.flatMap_cons, List.length_append, hx x, flat3 hx, List.length_cons]
    omega
theorem fillT_len : ∀ {i : Nat}, (fillT n ls i).length = 3 ^ innC n i
  | 0 => by simp [fillT, innC]
  | i + 1 => by
    have ih := fillT_len (i := i)
    rw [fillT_succ]
    unfold fT innC
    rw [List.range_succ, List.countP_append]
    split
    · rename_i hm
      rw [flat3 (fun x => by simp [lab3]), ih]
      unfold innC
      simp [hm]
      omega
    · rename_i hm
      rw [ih]
      unfold innC
      simp [hm]
theorem innC_all : [1, 2, 3, 4].all (fun n => decide (innC n (ptsI n).length ≤ 3)) = true := by decide +kernel
theorem innC_le (h : 1 ≤ n) (h' : n ≤ 4) {i : Nat} (hi : i ≤ (ptsI n).length) : innC n i ≤ 3 := by
  have h4 : n ∈ [1, 2, 3, 4] := by
    have : n = 1 ∨ n = 2 ∨ n = 3 ∨ n = 4 := by omega
    simpa using this
  refine Nat.le_trans ?_ (of_decide_eq_true (List.all_eq_true.mp innC_all n h4))
  unfold innC
  exact (List.range_sublist.mpr hi).countP_le
theorem fillT_le (h : 1 ≤ n) (h' : n ≤ 4) {i : Nat} (hi : i ≤ (ptsI n).length) : (fillT n ls i).length ≤ 27 := by
  rw [fillT_len]
  exact Nat.le_trans (Nat.pow_le_pow_right (by decide) (innC_le h h' hi)) (by decide)
theorem fillR_le (h : 1 ≤ n) (h' : n ≤ 4) (L : Lab n ls) {i : Nat} (hi : i ≤ (ptsI n).length) : (fillR n ls i).length ≤ 27 := by
  have := fillT_le (ls := ls) h h' hi
  rw [fill_eq L (by rw [L.len]; exact hi), List.length_map] at this
  exact this
end
/-! ### the least of a list -/
def minL : List Int → Int
  | [] => 0
  | x :: r => minI x r
theorem minI_le : ∀ {r : List Int} {m : Int}, minI m r ≤ m ∧ (∀ x ∈ r, minI m r ≤ x) ∧ (minI m r = m ∨ minI m r ∈ r)
  | [], m => ⟨Int.le_refl _, fun _ z => absurd z List.not_mem_nil, .inl rfl⟩
  | x :: r, m => by
    have ih := minI_le (r := r) (m := if x < m then x else m)
    have e : minI m (x :: r) = minI (if x < m then x else m) r := rfl
    rw [e]
    split at ih
    · rename_i hx
      rw [if_pos hx]
      refine ⟨by omega, fun y hy => ?_, .inr ?_⟩
      · rcases List.mem_cons.mp hy with rfl | z
        · exact ih.1
        · exact ih.2.1 y z
      · rcases ih.2.2 with z | z
        · rw [z]; exact List.mem_cons_self
        · exact List.mem_cons_of_mem _ z
    · rename_i hx
      rw [if_neg hx]
      refine ⟨ih.1, fun y hy => ?_, ?_⟩
      · rcases List.mem_cons.mp hy with rfl | z
        · exact Int.le_trans ih.1 (by omega)
        · exact ih.2.1 y z
      · rcases ih.2.2 with z | z
        · exact .inl z
        · exact .inr (List.mem_cons_of_mem _ z)
theorem minL_le {xs : List Int} {x : Int} (h : x ∈ xs) : minL xs ≤ x := by
  cases xs with
  | nil => exact absurd h List.not_mem_nil
  | cons y r =>
    rcases List.mem_cons.mp h with rfl | z
    · exact minI_le.1
    · exact minI_le.2.1 x z
theorem minL_mem {xs : List Int} (h : xs ≠ []) : minL xs ∈ xs := by
  cases xs with
  | nil => exact absurd rfl h
  | cons y r =>
    rcases minI_le (r := r) (m := y) with ⟨_, _, z | z⟩
    · show minI y r ∈ _
      rw [z]; exact List.mem_cons_self
    · exact List.mem_cons_of_mem _ z
theorem ints_some : ∀ xs : List Int, intsOf (xs.map .int) = some xs
  | [] => rfl
  | x :: r => by
    show (intsOf (r.map .int)).map (x :: ·) = _
    rw [ints_some r]
    rfl
theorem min_ints {xs : List Int} (h : xs ≠ []) : primD .min1 [.list (xs.map .int)] = .ok (.int (minL xs)) := by
  cases xs with
  | nil => exact absurd rfl h
  | cons x r =>
    show minsD ((x :: r).map .int) = _
    have := ints_some (x :: r)
    unfold minsD
    rw [List.map_cons] at this ⊢
    simp only [this]
    rfl
theorem ptsD_rng (n : Nat) : ptsD n = (List.range (ptsI n).length).map (pD n) := by
  apply List.ext_getElem?
  intro i
  rw [List.getElem?_map]
  by_cases hi : i < (ptsI n).length
  · rw [List.getElem?_range hi]
    show _ = some (pD n i)
    rw [pD_pt hi]
    unfold ptsD
    rw [List.getElem?_map, List.getElem?_eq_getElem hi]
    rfl
  · rw [List.getElem?_eq_none (by unfold ptsD; rw [List.length_map]; omega), List.getElem?_eq_none (by rw [List.length_range]; omega)]
    rfl
end LG

/-! S17: fewest_inside, to size 5. -/
namespace LG
open PySem PySem.Spec PyProof.Rows L2
def forB5 (k : Nat) (x : Sms) : Sms := match x.drop k with
  | .cons (.for' _ _ b) _ => b
  | _ => .nil
theorem innC_all5 : [1, 2, 3, 4, 5].all (fun n => decide (innC n (ptsI n).length ≤ 6)) = true := by decide +kernel
theorem innC_le5 {n : Nat} (h : 1 ≤ n) (h' : n ≤ 5) {i : Nat} (hi : i ≤ (ptsI n).length) : innC n i ≤ 6 := by
  have h4 : n ∈ [1, 2, 3, 4, 5] := by
    have : n = 1 ∨ n = 2 ∨ n = 3 ∨ n = 4 ∨ n = 5 := by omega
    simpa using this
  refine Nat.le_trans ?_ (of_decide_eq_true (List.all_eq_true.mp innC_all5 n h4))
  unfold innC
  exact (List.range_sublist.mpr hi).countP_le
theorem fillR_le5 {n : Nat} {ls : List Int} (h : 1 ≤ n) (h' : n ≤ 5) (L : Lab n ls) {i : Nat} (hi : i ≤ (ptsI n).length) : (fillR n ls i).length ≤ 729 := by
  have : (fillT n ls i).length ≤ 729 := by
    rw [fillT_len]
    exact Nat.le_trans (Nat.pow_le_pow_right (by decide) (innC_le5 h h' hi)) (by decide)
  rw [fill_eq L (by rw [L.len]; exact hi), List.length_map] at this
  exact this
theorem xs_ext {ns : List Int} {Φ : List Callee} {gv : List D} {env : En} {c : Nat} {i : Nat} {e : Ex} {r : Sms} {ds zs : List D} {c1 : Nat} (hi : env[i]? = some (.own (.list ds))) (h : evE ns Φ gv e env c = .ok (.list zs, c1)) (hl : ds.length + zs.length ≤ LIM) : exSs ns Φ gv (.cons (.ext i e) r) env c = exSs ns Φ gv r (env.set i (.own (.list (ds ++ zs)))) c1 :=
  xs_next (by rw [exS]; simp only [hi, h, R.thn_ok]; rw [if_pos hl])
theorem flat_succ {α β : Type} {f : α → List β} {l : List α} {i : Nat} {x : α} (h : l[i]? = some x) : (l.take (i + 1)).flatMap f = (l.take i).flatMap f ++ f x := by
  rw [List.take_succ, h, List.flatMap_append]
  simp
theorem flat_le {α β : Type} {f : α → List β} {l : List α} {i : Nat} : ((l.take i).flatMap f).length ≤ (l.flatMap f).length := by
  have : l.flatMap f = (l.take i).flatMap f ++ (l.drop i).flatMap f := by rw [← List.flatMap_append, List.take_append_drop]
  rw [this, List.length_append]
  omega
theorem lv_range {n : Nat} {ls : List Int} (hl : ls.length = (ptsI n).length) : lv ls = (List.range (ptsI n).length).map fun j => .int (lab ls j) := by
  apply List.ext_getElem?
  intro i
  unfold lv
  rw [List.getElem?_map, List.getElem?_map]
  by_cases hi : i < (ptsI n).length
  · rw [List.getElem?_range hi, lab_get (by omega)]
    rfl
  · rw [List.getElem?_eq_none (by omega), List.getElem?_eq_none (by rw [List.length_range]; omega)]
    rfl
section
variable {dr : DrT} {ns : List Int} {c n : Nat} {ls : List Int}
def rowD (r : List Int) : D := .tuple (lv r)
def fiBody : Sms := forB5 3 b_fewest_inside
theorem fi_turn (h : 1 ≤ n) (h4 : n ≤ 5) (L : Lab n ls) {j : Nat} (hj : j < (ptsI n).length) (s5 s6 : Slot) :
    ∃ t5 t6, exSs ns (T_fewest_inside dr) g_fewest_inside fiBody [.val (.int n), .val (.tuple (lv ls)), .val (.list ((fillR n ls j).map rowD)), .val (pD n j), .val (.int (lab ls j)), s5, s6, .unb] c = .ok (.next [.val (.int n), .val (.tuple (lv ls)), .val (.list ((fillR n ls (j + 1)).map rowD)), .val (pD n j), .val (.int (lab ls j)), t5, t6, .unb], c) := by
  have hLIM : LIM = 1000000 := rfl
  let f : List Int → List (List Int) := fun r => (lab3.filter fun x => decide (0 < minN n j) || decide (x = lab ls j)).map fun x => r ++ [x]
  have hf : (fillR n ls j).flatMap f = fillR n ls (j + 1) := fillR_succ.symm
  have hle := fillR_le5 h h4 L (i := j + 1) (by omega)
  obtain ⟨env1, c1, ⟨ec, t6, ee⟩, q⟩ := xs_forI (ns := ns) (Φ := T_fewest_inside dr) (gv := g_fewest_inside) (env := [.val (.int n), .val (.tuple (lv ls)), .val (.list ((fillR n ls j).map rowD)), .val (pD n j), .val (.int (lab ls j)), .own (.list []), s6, .unb]) (c := c) (c1 := c) (tg := .nm 6) (it := .seq (.var 2)) (b := forB5 1 fiBody) (r := fiBody.drop 2)
    (fillR n ls j) rowD (fun i env1 c2 => c2 = c ∧ ∃ s6, env1 = [.val (.int n), .val (.tuple (lv ls)), .val (.list ((fillR n ls j).map rowD)), .val (pD n j), .val (.int (lab ls j)), .own (.list ((((fillR n ls j).take i).flatMap f).map rowD)), s6, .unb])
    (ei_seq (ev_var rfl) rfl) ⟨rfl, _, rfl⟩
    (fun i r env1 c2 hi ⟨e1, s6, e2⟩ => by
      subst e1 e2
      have hb : ((((fillR n ls j).take i).flatMap f).map rowD).length + ((f r).map rowD).length ≤ LIM := by
        have := flat_le (f := f) (l := fillR n ls j) (i := i + 1)
        rw [flat_succ hi, List.length_append, hf] at this
        rw [List.length_map, List.length_map]
        omega
      have hr := fillR_len (List.mem_of_getElem? hi)
      rw [flat_succ hi, List.map_append]
      refine ⟨_, _, _, rfl, (xs_ext (zs := (f r).map rowD) (c1 := c2) rfl ?_ hb).trans xs_nil, rfl, _, rfl⟩
      show evE _ _ _ _ _ _ = .ok (.list (((lab3.filter fun x => decide (0 < minN n j) || decide (x = lab ls j)).map fun x => r ++ [x]).map rowD), c2)
      rw [List.map_map]
      refine ev_compFI lab3 .int (fun x => decide (0 < minN n j) || decide (x = lab ls j)) _ (by rw [evI, ev_con]; rfl) fun x hx => ⟨_, rfl, ?_, fun _ => ?_⟩
      · refine (ev_or (ev_cmpV (ev_primV (ea_cons (ev_var rfl) ea_nil) (min_pD hj)) ev_con (gt_int _ _))).trans ?_
        cases decide (0 < minN n j) with
        | true => exact if_pos rfl
        | false => exact (if_neg Bool.false_ne_true).trans (ev_cmpV (o := .eq) (ev_var rfl) (ev_var rfl) (cmp_eqI _ _))
      · refine ev_binV (ev_var rfl) (ev_tup (ea_cons (ev_var rfl) ea_nil) (show (1 : Nat) ≤ LIM by decide)) (addT' (fs := lv (r ++ [x])) ?_ ?_)
        · have : (ptsI n).length ≤ 28 := six (P := fun n => (ptsI n).length ≤ 28) (by decide) (by decide) (by decide) (by decide) (by decide) (by decide) h (by omega)
          show (lv r).length + 1 ≤ LIM
          rw [lv_len, hr]
          omega
        · unfold lv
          rw [List.map_append]
          rfl)
  subst ec ee
  rw [List.take_length, hf] at q
  exact ⟨_, _, (xs_new (ev_lst ea_nil (show (0 : Nat) ≤ LIM by decide))).trans (q.trans ((xs_shr rfl).trans ((xs_asg (ev_var rfl)).trans xs_nil)))⟩
def cnts (n : Nat) (ls : List Int) : List Int := (fillT n ls ls.length).map fun l => ((fullL n l).length : Int)
theorem cnts_ne (L : Lab n ls) : cnts n ls ≠ [] := List.ne_nil_of_mem (List.mem_map_of_mem (fillT_own L))
theorem s_fewest_inside (h : 1 ≤ n) (h4 : n ≤ 5) (L : Lab n ls) : F_fewest_inside dr ns [.int n, .tuple (lv ls)] c = .ok (.int (minL (cnts n ls)), c) := by
  have h6 : n ≤ 6 := by omega
  obtain ⟨env1, c1, ⟨ec, s3, s4, s5, s6, ee⟩, q⟩ := xs_forI (ns := ns) (Φ := T_fewest_inside dr) (gv := g_fewest_inside) (env := [.val (.int n), .val (.tuple (lv ls)), .val (.list ((fillR n ls 0).map rowD)), .unb, .unb, .unb, .unb, .unb]) (c := c) (c1 := c) (tg := .tp [3, 4]) (it := .zip (.call 2 (.cons (.var 0) .nil)) (.var 1)) (b := fiBody) (r := b_fewest_inside.drop 4)
    (List.range (ptsI n).length) (fun j => .tuple [pD n j, .int (lab ls j)]) (fun i env1 c2 => c2 = c ∧ ∃ s3 s4 s5 s6, env1 = [.val (.int n), .val (.tuple (lv ls)), .val (.list ((fillR n ls i).map rowD)), s3, s4, s5, s6, .unb])
    (ei_zip (ev_callF (F_point_list dr) (ea_cons (ev_var rfl) ea_nil) rfl (s_point_list h h6)) (ev_var rfl) (by
      show R.ok (((ptsD n).zip (lv ls)).map fun p => PyData.tuple [p.1, p.2]) = _
      rw [ptsD_rng, lv_range L.len, List.zip_map', List.map_map]
      rfl)) ⟨rfl, _, _, _, _, rfl⟩
    (fun i j env1 c2 hi ⟨e1, s3, s4, s5, s6, e2⟩ => by
      subst e1 e2
      obtain ⟨hlt, e⟩ := List.getElem?_eq_some_iff.mp hi
      rw [List.length_range] at hlt
      rw [List.getElem_range] at e
      subst e
      obtain ⟨t5, t6, q⟩ := fi_turn (dr := dr) (ns := ns) (c := c2) h h4 L hlt s5 s6
      exact ⟨_, _, _, rfl, q, rfl, _, _, _, _, rfl⟩)
  subst ec ee
  rw [List.length_range] at q
  refine run_ret rfl ((xs_ifF (c1 := c1) (ev_not (k := true) (ev_callF (F_is_integer dr) (ea_cons (ev_var rfl) (ea_cons ev_con (ea_cons ev_con ea_nil))) rfl ((s_is_integer rfl).trans (by simp [intIn]; omega))))).trans ?_)
  refine (xs_exp (ev_callF (F_check_labels dr) (ea_cons (ev_var rfl) (ea_cons (ev_var rfl) ea_nil)) rfl (s_check_labels h h6 L))).trans ?_
  refine (xs_asg (ev_lst (ea_cons (ev_tup ea_nil (show (0 : Nat) ≤ LIM by decide)) ea_nil) (show (1 : Nat) ≤ LIM by decide))).trans (q.trans (xs_retE (ev_primV (ea_cons (d := .list ((cnts n ls).map .int)) (c1 := c1) ?_ ea_nil) (min_ints (cnts_ne L)))))
  unfold cnts
  rw [fill_all L, List.map_map, L.len]
  refine ev_compMI (fillR n ls (ptsI n).length) rowD _ (ei_seq (ev_var rfl) rfl) fun r hr => ⟨_, rfl, ?_⟩
  have f := fillT_ok h h6 L (i := ls.length) (l := r) (by rw [fill_all L, L.len]; exact hr)
  refine (ev_len (ev_callF (F_full_list dr) (ea_cons (ev_var rfl) (ea_cons (ev_var rfl) ea_nil)) rfl (s_full_list' h h6 f.L))).trans ?_
  unfold fullD
  rw [List.length_map]
  rfl
end
end LG

/-! S6: owners, mixed labellings, fair triangles; comprehensions that draw. -/
namespace LG
open PySem PySem.Spec PyProof.Rows L2
/-- a comprehension whose items draw -/
theorem compL_draw {tg : Tg} {env : En} {tt te : En → Nat → R (D × Nat)} (P : D → D → Prop) (s B : Nat) : ∀ (xs acc : List D) (c : Nat), (∀ x ∈ xs, ∀ c, c ≤ B → ∃ env1 y c', asgT tg x env = some env1 ∧ tt env1 c = .ok (.bool true, c) ∧ te env1 c = .ok (y, c') ∧ P x y ∧ c' ≤ c + s) → c + s * xs.length ≤ B →
    ∃ ys c', compL tg env tt te xs acc c = .ok (acc ++ ys, c') ∧ ys.length = xs.length ∧ (∀ (i : Nat) x y, xs[i]? = some x → ys[i]? = some y → P x y) ∧ c' ≤ c + s * xs.length
  | [], acc, c, _, _ => ⟨[], c, by simp [compL], rfl, fun i x y h _ => by simp at h, by simp⟩
  | x :: xs, acc, c, h, hB => by
    have e1 : s * (x :: xs).length = s + s * xs.length := by rw [List.length_cons, Nat.mul_succ, Nat.add_comm]
    rw [e1] at hB
    obtain ⟨env1, y, c1, h1, h2, h3, h4, h5⟩ := h x List.mem_cons_self c (by omega)
    obtain ⟨ys, c2, g1, g2, g3, g4⟩ := compL_draw P s B xs (acc ++ [y]) c1 (fun z hz => h z (List.mem_cons_of_mem _ hz)) (by omega)
    refine ⟨y :: ys, c2, ?_, by simp [g2], fun i x' y' hx hy => ?_, by omega⟩
    · simp only [compL, h1, h2, h3]
      rw [g1]
      simp
    · cases i with
      | zero => cases hx; cases hy; exact h4
      | succ i => exact g3 i x' y' (by simpa using hx) (by simpa using hy)
theorem ev_compD {ns : List Int} {Φ : List Callee} {gv : List D} {env : En} {c : Nat} {vs : List Nat} {tg : Tg} {it : Itx} {elt : Ex} {xs : List D} {c1 : Nat} (P : D → D → Prop) (s B : Nat) (h : evI ns Φ gv it env c = .ok (xs, c1))
    (hx : ∀ x ∈ xs, ∀ c, c ≤ B → ∃ env1 y c', asgT tg x (wipeE env vs) = some env1 ∧ evE ns Φ gv elt env1 c = .ok (y, c') ∧ P x y ∧ c' ≤ c + s) (hB : c1 + s * xs.length ≤ B) :
    ∃ ys c', evE ns Φ gv (.comp vs tg it .none elt) env c = .ok (.list ys, c') ∧ ys.length = xs.length ∧ (∀ (i : Nat) x y, xs[i]? = some x → ys[i]? = some y → P x y) ∧ c' ≤ c1 + s * xs.length := by
  obtain ⟨ys, c', g1, g2, g3, g4⟩ := compL_draw (tg := tg) (env := wipeE env vs) (tt := fun env c => (evO ns Φ gv .none env c).thn fun t c => .ok (t.getD (.bool true), c)) (te := fun env c => evE ns Φ gv elt env c) P s B xs [] c1 (fun x hx' c hc => by
    obtain ⟨env1, y, c', k1, k2, k3, k4⟩ := hx x hx' c hc
    exact ⟨env1, y, c', k1, by rw [evO]; rfl, k2, k3, k4⟩) hB
  refine ⟨ys, c', ?_, g2, g3, g4⟩
  rw [evE, h]
  show (compL tg (wipeE env vs) _ _ xs [] c1).thn _ = _
  rw [g1]
  rfl
/-! ### owners -/
def ownN (n j : Nat) : Int := ((ptN n j).1 + 2 * (ptN n j).2.1) % 3
def ownsI (n : Nat) : List Int := (List.range (ptsI n).length).map (ownN n)
theorem owns_all : [1, 2, 3, 4, 5, 6].all (fun n => (cellsI n).all (fullT (ownsI n))) = true := by decide +kernel
theorem owns_full {n : Nat} (h : 1 ≤ n) (h' : n ≤ 6) {t : T3} (ht : t ∈ cellsI n) : fullT (ownsI n) t = true := List.all_eq_true.mp (List.all_eq_true.mp owns_all n (mem6 h h')) t ht
theorem ownN_rng (n j : Nat) : rng3 (ownN n j) := ⟨Int.emod_nonneg _ (by decide), by have : ownN n j < 3 := Int.emod_lt_of_pos _ (by decide); omega⟩
theorem owns_Lab (n : Nat) : Lab n (ownsI n) where
  len := by unfold ownsI; rw [List.length_map, List.length_range]
  rng := fun l hl => by
    obtain ⟨j, _, rfl⟩ := List.mem_map.mp hl
    exact ownN_rng n j
theorem lab_mk {N : Nat} {f : Nat → Int} {j : Nat} (hj : j < N) : lab ((List.range N).map f) j = f j := by
  unfold lab
  rw [List.getD_eq_getElem?_getD, List.getElem?_map, List.getElem?_range hj]
  rfl
theorem ptsD_range (n : Nat) : ptsD n = (List.range (ptsI n).length).map (pD n) := by
  refine List.ext_getElem? fun i => ?_
  rw [List.getElem?_map]
  by_cases hi : i < (ptsI n).length
  · rw [List.getElem?_range hi, show (Option.map (pD n) (some i)) = some (pD n i) from rfl, pD_pt hi]
    unfold ptsD
    rw [List.getElem?_map, List.getElem?_eq_getElem hi]
    rfl
  · rw [List.getElem?_eq_none (by rw [ptsD_len]; omega), List.getElem?_eq_none (by simpa using hi)]
    rfl
theorem ptD_N {n j : Nat} (hj : j < (ptsI n).length) : pD n j = ptD (ptN n j) := by
  rw [pD_pt hj]
  unfold ptN
  rw [List.getD_eq_getElem?_getD, List.getElem?_eq_getElem hj]
  rfl
section
variable {dr : DrT} {ns : List Int} {c : Nat}
theorem own_ev {Φ : List Callee} {gv : List D} {env : En} {i n j : Nat} (hj : j < (ptsI n).length) (hi : env[i]? = some (.val (pD n j))) : evE ns Φ gv (.bin .mod (.bin .add (.idx (.var i) (.con (.int 0))) (.bin .mul (.con (.int 2)) (.idx (.var i) (.con (.int 1))))) (.con (.int 3))) env c = .ok (.int (ownN n j), c) := by
  rw [ptD_N hj] at hi
  refine ev_binV (ev_binV (ev_idxV (ev_var hi) ev_con rfl) (ev_binV ev_con (ev_idxV (ev_var hi) ev_con rfl) (z := .int (2 * (ptN n j).2.1)) ?_) rfl) ev_con rfl
  simp [binD, small]
theorem s_owner_of {n j : Nat} (hj : j < (ptsI n).length) : F_owner_of dr ns [pD n j] c = .ok (.int (ownN n j), c) := run_ret rfl (xs_retE (own_ev hj rfl))
theorem owner_all {n : Nat} (h : 1 ≤ n) (h' : n ≤ 6) : (List.range (ptsI n).length).map (fun j => F_check_point dr ns [.int n, pD n j] c) = (List.range (ptsI n).length).map fun j => R.ok (PyData.none, c) :=
  six (P := fun n => (List.range (ptsI n).length).map (fun j => F_check_point dr ns [.int n, pD n j] c) = (List.range (ptsI n).length).map fun j => R.ok (PyData.none, c)) (by kernel_rfl) (by kernel_rfl) (by kernel_rfl) (by kernel_rfl) (by kernel_rfl) (by kernel_rfl) h h'
theorem s_check_point {n : Nat} (h : 1 ≤ n) (h' : n ≤ 6) {j : Nat} (hj : j < (ptsI n).length) : F_check_point dr ns [.int n, pD n j] c = .ok (.none, c) := List.map_inj_left.mp (owner_all h h') j (List.mem_range.mpr hj)
theorem s_owner {n : Nat} (h : 1 ≤ n) (h' : n ≤ 6) {j : Nat} (hj : j < (ptsI n).length) : F_owner dr ns [.int n, pD n j] c = .ok (.int (ownN n j), c) :=
  run_ret rfl ((xs_exp (ev_callF (F_check_point dr) (ea_cons (ev_var rfl) (ea_cons (ev_var rfl) ea_nil)) rfl (s_check_point h h' hj))).trans (xs_retE (ev_callF (F_owner_of dr) (ea_cons (ev_var rfl) ea_nil) rfl (s_owner_of hj))))
/-! ### three labellings -/
def mixL (n : Nat) (A : Nat → List Int) : List Int := (List.range (ptsI n).length).map fun j => lab (A (ownN n j).toNat) j
def threeD (A : Nat → List Int) : D := .tuple [.tuple (lv (A 0)), .tuple (lv (A 1)), .tuple (lv (A 2))]
theorem mix_Lab {n : Nat} {A : Nat → List Int} (hA : ∀ i, i < 3 → Lab n (A i)) : Lab n (mixL n A) where
  len := by unfold mixL; rw [List.length_map, List.length_range]
  rng := fun l hl => by
    obtain ⟨j, _, rfl⟩ := List.mem_map.mp hl
    have := ownN_rng n j
    exact (hA _ (by unfold rng3 at this; omega)).rngL j
theorem mix_lab {n : Nat} {A : Nat → List Int} {j : Nat} (hj : j < (ptsI n).length) : lab (mixL n A) j = lab (A (ownN n j).toNat) j := lab_mk hj
theorem proper_of {n : Nat} {ls : List Int} (L : Lab n ls) (hp : ∀ j, j < (ptsI n).length → 0 < entry (ptN n j) (lab ls j)) : proper n ls = true := by
  unfold proper
  rw [List.all_eq_true]
  intro p hm
  obtain ⟨j, hj⟩ := List.mem_iff_getElem?.mp hm
  rw [List.getElem?_zip_eq_some] at hj
  obtain ⟨j1, j2⟩ := hj
  obtain ⟨hlt, e1⟩ := List.getElem?_eq_some_iff.mp j1
  have := hp j hlt
  rw [lab_get (by rw [L.len]; exact hlt)] at j2
  have j2 : lab ls j = p.2 := Option.some.inj j2
  rw [j2] at this
  unfold ptN at this
  rw [List.getD_eq_getElem?_getD, j1] at this
  simpa using this
theorem mix_proper {n : Nat} {A : Nat → List Int} (hA : ∀ i, i < 3 → Lab n (A i)) (hp : ∀ i, i < 3 → proper n (A i) = true) : proper n (mixL n A) = true := by
  refine proper_of (mix_Lab hA) fun j hj => ?_
  have hr := ownN_rng n j
  have hi : (ownN n j).toNat < 3 := by unfold rng3 at hr; omega
  rw [mix_lab hj]
  exact proper_at (hA _ hi) (hp _ hi) hj
theorem three_idx {n : Nat} {A : Nat → List Int} {o : Int} (ho : rng3 o) : idxD (threeD A) (.int o) = .ok (.tuple (lv (A o.toNat))) := by
  rcases rng3_cases ho with rfl | rfl | rfl <;> rfl
theorem enm_pts {n : Nat} (h : 1 ≤ n) (h' : n ≤ 6) : enmD (.list (ptsD n)) = .ok ((List.range (ptsI n).length).map fun j => .tuple [.int (j : Nat), pD n j]) :=
  six (P := fun n => enmD (.list (ptsD n)) = .ok ((List.range (ptsI n).length).map fun j => .tuple [.int (j : Nat), pD n j])) (by kernel_rfl) (by kernel_rfl) (by kernel_rfl) (by kernel_rfl) (by kernel_rfl) (by kernel_rfl) h h'
theorem s_mixed_labels {n : Nat} (h : 1 ≤ n) (h' : n ≤ 6) {A : Nat → List Int} (hA : ∀ i, i < 3 → Lab n (A i)) : F_mixed_labels dr ns [.int n, threeD A] c = .ok (.tuple (lv (mixL n A)), c) := by
  refine run_ret rfl (xs_retE (ev_primV (ea_cons (ev_compMI (List.range (ptsI n).length) (fun j => .tuple [.int (j : Nat), pD n j]) (fun j => .int (lab (A (ownN n j).toNat) j)) (by rw [evI, ev_callF (F_point_list dr) (ea_cons (ev_var rfl) ea_nil) rfl (s_point_list h h')]; show (enmD (.list (ptsD n))).at c = _; rw [enm_pts h h']; rfl) fun j hj => ?_) ea_nil) ?_))
  · have hj := List.mem_range.mp hj
    have hr := ownN_rng n j
    have hi : (ownN n j).toNat < 3 := by unfold rng3 at hr; omega
    exact ⟨_, rfl, ev_idxV (ev_idxV (ev_var rfl) (ev_callF (F_owner_of dr) (ea_cons (ev_var rfl) ea_nil) rfl (s_owner_of hj)) (three_idx (n := n) hr)) (ev_var rfl) (idx_lv (by rw [(hA _ hi).len]; exact hj))⟩
  · show R.ok (PyData.tuple _) = _
    unfold mixL lv
    rw [List.map_map]
    rfl
theorem s_check_preferences {n : Nat} (h : 1 ≤ n) (h' : n ≤ 6) {A : Nat → List Int} (hA : ∀ i, i < 3 → Lab n (A i)) (hp : ∀ i, i < 3 → proper n (A i) = true) : F_check_preferences dr ns [.int n, threeD A] c = .ok (.none, c) := by
  obtain ⟨env', c', ⟨ec, s2, ee⟩, q⟩ := xs_forI (ns := ns) (Φ := T_check_preferences dr) (gv := g_check_preferences) (env := [.val (.int n), .val (threeD A), .unb]) (c := c) (c1 := c) (tg := .nm 2) (it := .seq (.var 1)) (b := .cons (.ife (.or (.not (.call 1 (.cons (.var 0) (.cons (.var 2) .nil)))) (.not (.call 2 (.cons (.var 0) (.cons (.var 2) .nil))))) (.cons (.rse 9) .nil) .nil) .nil) (r := .nil)
    [0, 1, 2] (fun i => .tuple (lv (A i))) (fun i env1 c2 => c2 = c ∧ ∃ s2, env1 = [.val (.int n), .val (threeD A), s2]) (ei_seq (ev_var rfl) rfl) ⟨rfl, _, rfl⟩
    (fun k i env1 c2 hk ⟨e1, s2, e2⟩ => by
      subst e1 e2
      have hi : i < 3 := by
        have : i = 0 ∨ i = 1 ∨ i = 2 := by simpa using List.mem_of_getElem? hk
        omega
      refine ⟨_, _, c2, rfl, (xs_ifF ((ev_or (k := false) (ev_not (k := true) (ev_callF (F_valid_labels dr) (ea_cons (ev_var rfl) (ea_cons (ev_var rfl) ea_nil)) rfl (s_valid_good h h' (hA i hi))))).trans ((if_neg Bool.false_ne_true).trans (ev_not (k := true) (ev_callF (F_proper_labels dr) (ea_cons (ev_var rfl) (ea_cons (ev_var rfl) ea_nil)) rfl ((s_proper_labels h h' (hA i hi)).trans (by rw [hp i hi]))))))).trans xs_nil, rfl, _, rfl⟩)
  refine run_end (env := env') rfl ((xs_exp (ev_callF (F_check_size dr) (ea_cons (ev_var rfl) ea_nil) rfl (s_check_size h h'))).trans ?_)
  refine (xs_ifF ((ev_or (k := false) (ev_not (k := true) (ev_isi (ev_var rfl) rfl))).trans ((if_neg Bool.false_ne_true).trans (ev_cmpV (ev_primV (ea_cons (ev_var rfl) ea_nil) rfl) ev_con (ne_false rfl))))).trans ?_
  subst ec
  exact q.trans xs_nil
theorem s_mixed {n : Nat} (h : 1 ≤ n) (h' : n ≤ 6) {A : Nat → List Int} (hA : ∀ i, i < 3 → Lab n (A i)) (hp : ∀ i, i < 3 → proper n (A i) = true) : F_mixed dr ns [.int n, threeD A] c = .ok (.tuple (lv (mixL n A)), c) :=
  run_ret rfl ((xs_exp (ev_callF (F_check_preferences dr) (ea_cons (ev_var rfl) (ea_cons (ev_var rfl) ea_nil)) rfl (s_check_preferences h h' hA hp))).trans (xs_retE (ev_callF (F_mixed_labels dr) (ea_cons (ev_var rfl) (ea_cons (ev_var rfl) ea_nil)) rfl (s_mixed_labels h h' hA))))
/-! ### who prefers what -/
def whoN (n : Nat) (t : T3) (o : Int) : Nat := if ownN n t.1 = o then t.1 else if ownN n t.2.1 = o then t.2.1 else t.2.2
def piecesD (n : Nat) (f : Nat → Int) (t : T3) : List D := [.int (f (whoN n t 0)), .int (f (whoN n t 1)), .int (f (whoN n t 2))]
def fairD (n : Nat) (ls : List Int) (t : T3) : D := .tuple [cellD n t, .tuple (piecesD n (lab ls) t)]
def val6 : R (Fl × Nat) → Option (En × Nat)
  | .ok (.next env, c) => some (env, c)
  | _ => none
def fairBody : Sms := match b_fair_triangles with
  | .cons _ (.cons _ (.cons _ (.cons (.for' _ _ b) _))) => b
  | _ => .nil
theorem pieces_ev {n : Nat} (h : 1 ≤ n) (h' : n ≤ 6) (f : Nat → Int) (s1 s2 s5 s6 s7 : LG.Slot) : (cellsI n).map (fun t => exSs ns (T_fair_triangles dr) g_fair_triangles (fairBody.take 3) [.val (.int n), s1, s2, .val (cellD n t), .val (.dict (tabD n (lvf n f))), s5, s6, s7] c) =
    (cellsI n).map fun t => R.ok (.next [.val (.int n), s1, s2, .val (cellD n t), .val (.dict (tabD n (lvf n f))), s5, .val (.list (piecesD n f t)), .val (pD n t.2.2)], c) :=
  six (P := fun n => (cellsI n).map (fun t => exSs ns (T_fair_triangles dr) g_fair_triangles (fairBody.take 3) [.val (.int n), s1, s2, .val (cellD n t), .val (.dict (tabD n (lvf n f))), s5, s6, s7] c) =
    (cellsI n).map fun t => R.ok (.next [.val (.int n), s1, s2, .val (cellD n t), .val (.dict (tabD n (lvf n f))), s5, .val (.list (piecesD n f t)), .val (pD n t.2.2)], c)) (by kernel_rfl) (by kernel_rfl) (by kernel_rfl) (by kernel_rfl) (by kernel_rfl) (by kernel_rfl) h h'
theorem cells_len {n : Nat} (h : 1 ≤ n) (h' : n ≤ 6) : (cellsI n).length ≤ 36 := six (P := fun n => (cellsI n).length ≤ 36) (by decide) (by decide) (by decide) (by decide) (by decide) (by decide) h h'
theorem full_len {n : Nat} (h : 1 ≤ n) (h' : n ≤ 6) (ls : List Int) : (fullL n ls).length ≤ 36 := Nat.le_trans (List.length_filter_le _ _) (cells_len h h')
theorem s_fair_triangles {n : Nat} (h : 1 ≤ n) (h' : n ≤ 6) {A : Nat → List Int} (hA : ∀ i, i < 3 → Lab n (A i)) (hp : ∀ i, i < 3 → proper n (A i) = true) : F_fair_triangles dr ns [.int n, threeD A] c = .ok (.list ((fullL n (mixL n A)).map (fairD n (mixL n A))), c) := by
  have hLIM : LIM = 1000000 := rfl
  have L := mix_Lab hA
  have hl := full_len h h' (mixL n A)
  obtain ⟨env', c', ⟨ec, s3, s6, s7, ee⟩, q⟩ := xs_forI (ns := ns) (Φ := T_fair_triangles dr) (gv := g_fair_triangles) (env := [.val (.int n), .val (threeD A), .val (.tuple (lv (mixL n A))), .unb, .val (.dict (tabD n (lv (mixL n A)))), .own (.list []), .unb, .unb]) (c := c) (c1 := c) (tg := .nm 3) (it := .seq (.call 3 (.cons (.var 0) (.cons (.var 2) .nil)))) (b := fairBody) (r := .cons (.shr 5) (.cons (.ret (.var 5)) .nil))
    (fullL n (mixL n A)) (cellD n) (fun k env1 c2 => c2 = c ∧ ∃ s3 s6 s7, env1 = [.val (.int n), .val (threeD A), .val (.tuple (lv (mixL n A))), s3, .val (.dict (tabD n (lv (mixL n A)))), .own (.list (((fullL n (mixL n A)).take k).map (fairD n (mixL n A)))), s6, s7])
    (ei_seq (ev_callF (F_full_list dr) (ea_cons (ev_var rfl) (ea_cons (ev_var rfl) ea_nil)) rfl (s_full_list' h h' L)) rfl) ⟨rfl, _, _, _, rfl⟩
    (fun k t env1 c2 hk ⟨e1, s3, s6, s7, e2⟩ => by
      subst e1 e2
      have ht := (full_mem (List.mem_of_getElem? hk)).1
      have tk : (fullL n (mixL n A)).take (k + 1) = (fullL n (mixL n A)).take k ++ [t] := by
        rw [List.take_succ, hk]
        rfl
      rw [tk, List.map_append]
      have e := List.map_inj_left.mp (pieces_ev (dr := dr) (ns := ns) (c := c2) h h' (lab (mixL n A)) (.val (threeD A)) (.val (.tuple (lv (mixL n A)))) (.own (.list (((fullL n (mixL n A)).take k).map (fairD n (mixL n A))))) s6 s7) t ht
      rw [← lv_lvf L] at e
      refine ⟨_, _, c2, rfl, (exSs_split 3 fairBody _ _ e).trans ((xs_app (ds := ((fullL n (mixL n A)).take k).map (fairD n (mixL n A))) rfl (ev_tup (ea_cons (ev_var rfl) (ea_cons (ev_primV (ea_cons (ev_var rfl) ea_nil) rfl) ea_nil)) (show (2 : Nat) ≤ LIM by decide)) (by rw [List.length_map, List.length_take]; omega)).trans xs_nil), rfl, _, _, _, rfl⟩)
  rw [List.take_length] at ee
  refine run_ret rfl ((xs_exp (ev_callF (F_check_preferences dr) (ea_cons (ev_var rfl) (ea_cons (ev_var rfl) ea_nil)) rfl (s_check_preferences h h' hA hp))).trans ?_)
  refine (xs_asg (ev_callF (F_mixed_labels dr) (ea_cons (ev_var rfl) (ea_cons (ev_var rfl) ea_nil)) rfl (s_mixed_labels h h' hA))).trans ?_
  refine (xs_next (env1 := [.val (.int n), .val (threeD A), .val (.tuple (lv (mixL n A))), .unb, .val (.dict (tabD n (lv (mixL n A)))), .own (.list []), .unb, .unb]) (c1 := c) ?_).trans ?_
  · rw [exS, ea_cons (ev_callF (F_table_of dr) (ea_cons (ev_var rfl) (ea_cons (ev_var rfl) ea_nil)) rfl (s_table_of h h' (by rw [lv_len, L.len]))) (ea_cons (ev_lst ea_nil (show (0 : Nat) ≤ LIM by decide)) ea_nil)]
    rfl
  · refine q.trans ?_
    subst ec ee
    exact (xs_shr rfl).trans (xs_retE (ev_var rfl))
end
end LG

/-! S7: maps of a grid into itself. -/
namespace LG
open PySem PySem.Spec PyProof.Rows L2
def pairsN (n : Nat) : List (Nat × Nat) := (List.range (ptsI n).length).flatMap fun j => (List.range (ptsI n).length).map fun i => (j, i)
theorem pairsN_mem {n j i : Nat} (hj : j < (ptsI n).length) (hi : i < (ptsI n).length) : (j, i) ∈ pairsN n := List.mem_flatMap.mpr ⟨j, List.mem_range.mpr hj, List.mem_map.mpr ⟨i, List.mem_range.mpr hi, rfl⟩⟩
def labP (p q : Int × Int × Int) : Int := if 0 < p.1 ∧ q.1 ≤ p.1 then 0 else if 0 < p.2.1 ∧ q.2.1 ≤ p.2.1 then 1 else 2
def labN (n j i : Nat) : Int := labP (ptN n j) (ptN n i)
def nearB (n j i : Nat) : Bool := [(-1, 0, 1), (-1, 1, 0), (0, -1, 1), (0, 1, -1), (1, -1, 0), (1, 0, -1)].contains ((ptN n j).1 - (ptN n i).1, (ptN n j).2.1 - (ptN n i).2.1, (ptN n j).2.2 - (ptN n i).2.2)
def mapOk (n : Nat) : Bool := (pairsN n).all fun p => decide (0 ≤ labN n p.1 p.2) && decide (labN n p.1 p.2 ≤ 2) && decide (0 < entry (ptN n p.1) (labN n p.1 p.2)) && decide (entry (ptN n p.2) (labN n p.1 p.2) ≤ entry (ptN n p.1) (labN n p.1 p.2))
theorem mapOk_all : [1, 2, 3, 4, 5, 6].all mapOk = true := by decide +kernel
theorem labN_ok {n : Nat} (h : 1 ≤ n) (h' : n ≤ 6) {j i : Nat} (hj : j < (ptsI n).length) (hi : i < (ptsI n).length) : rng3 (labN n j i) ∧ 0 < entry (ptN n j) (labN n j i) ∧ entry (ptN n i) (labN n j i) ≤ entry (ptN n j) (labN n j i) := by
  have := List.all_eq_true.mp (List.all_eq_true.mp mapOk_all n (mem6 h h')) (j, i) (pairsN_mem hj hi)
  simp only [Bool.and_eq_true, decide_eq_true_eq] at this
  exact ⟨⟨this.1.1.1, this.1.1.2⟩, this.1.2, this.2⟩
def imsD (n : Nat) (ims : List Nat) : List D := ims.map (pD n)
structure Ims (n : Nat) (ims : List Nat) : Prop where
  len : ims.length = (ptsI n).length
  lt : ∀ i ∈ ims, i < (ptsI n).length
theorem Ims.at {n : Nat} {ims : List Nat} (I : Ims n ims) {j : Nat} (hj : j < (ptsI n).length) : ∃ i, ims[j]? = some i ∧ ims.getD j 0 = i ∧ i < (ptsI n).length := by
  have hl : j < ims.length := by rw [I.len]; exact hj
  refine ⟨ims[j], List.getElem?_eq_getElem hl, ?_, I.lt _ (List.getElem_mem hl)⟩
  rw [List.getD_eq_getElem?_getD, List.getElem?_eq_getElem hl]
  rfl
theorem Ims.eq {n : Nat} {ims : List Nat} (I : Ims n ims) : imsD n ims = (List.range (ptsI n).length).map fun j => pD n (ims.getD j 0) := by
  unfold imsD
  refine List.ext_getElem? fun j => ?_
  rw [List.getElem?_map, List.getElem?_map]
  by_cases hj : j < (ptsI n).length
  · obtain ⟨i, e1, e2, _⟩ := I.at hj
    rw [e1, List.getElem?_range hj]
    show some (pD n i) = some (pD n (ims.getD j 0))
    rw [e2]
  · rw [List.getElem?_eq_none (by rw [I.len]; omega), List.getElem?_eq_none (by simpa using hj)]
    rfl
def mapL (n : Nat) (ims : List Nat) : List Int := (List.range (ptsI n).length).map fun j => labN n j (ims.getD j 0)
theorem map_Lab {n : Nat} (h : 1 ≤ n) (h' : n ≤ 6) {ims : List Nat} (I : Ims n ims) : Lab n (mapL n ims) where
  len := by unfold mapL; rw [List.length_map, List.length_range]
  rng := fun l hl => by
    obtain ⟨j, hj, rfl⟩ := List.mem_map.mp hl
    have hj := List.mem_range.mp hj
    obtain ⟨i, _, e2, hi⟩ := I.at hj
    rw [e2]
    exact (labN_ok h h' hj hi).1
theorem map_proper {n : Nat} (h : 1 ≤ n) (h' : n ≤ 6) {ims : List Nat} (I : Ims n ims) : proper n (mapL n ims) = true := by
  refine proper_of (map_Lab h h' I) fun j hj => ?_
  obtain ⟨i, _, e2, hi⟩ := I.at hj
  rw [show lab (mapL n ims) j = labN n j (ims.getD j 0) from lab_mk hj, e2]
  exact (labN_ok h h' hj hi).2.1
section
variable {dr : DrT} {ns : List Int} {c : Nat}
theorem label_all {n : Nat} (h : 1 ≤ n) (h' : n ≤ 6) : (pairsN n).map (fun p => F_label_of dr ns [pD n p.1, pD n p.2] c) = (pairsN n).map fun p => R.ok (PyData.int (labN n p.1 p.2), c) :=
  six (P := fun n => (pairsN n).map (fun p => F_label_of dr ns [pD n p.1, pD n p.2] c) = (pairsN n).map fun p => R.ok (PyData.int (labN n p.1 p.2), c)) (by kernel_rfl) (by kernel_rfl) (by kernel_rfl) (by kernel_rfl) (by kernel_rfl) (by kernel_rfl) h h'
theorem s_label_of {n : Nat} (h : 1 ≤ n) (h' : n ≤ 6) {j i : Nat} (hj : j < (ptsI n).length) (hi : i < (ptsI n).length) : F_label_of dr ns [pD n j, pD n i] c = .ok (.int (labN n j i), c) := List.map_inj_left.mp (label_all h h') (j, i) (pairsN_mem hj hi)
theorem near_all {n : Nat} (h : 1 ≤ n) (h' : n ≤ 6) : (pairsN n).map (fun p => F__law_near dr ns [pD n p.1, pD n p.2] c) = (pairsN n).map fun p => R.ok (PyData.bool (nearB n p.1 p.2), c) :=
  six (P := fun n => (pairsN n).map (fun p => F__law_near dr ns [pD n p.1, pD n p.2] c) = (pairsN n).map fun p => R.ok (PyData.bool (nearB n p.1 p.2), c)) (by kernel_rfl) (by kernel_rfl) (by kernel_rfl) (by kernel_rfl) (by kernel_rfl) (by kernel_rfl) h h'
theorem s__law_near {n : Nat} (h : 1 ≤ n) (h' : n ≤ 6) {j i : Nat} (hj : j < (ptsI n).length) (hi : i < (ptsI n).length) : F__law_near dr ns [pD n j, pD n i] c = .ok (.bool (nearB n j i), c) := List.map_inj_left.mp (near_all h h') (j, i) (pairsN_mem hj hi)
theorem point_all {n : Nat} (h : 1 ≤ n) (h' : n ≤ 6) : (List.range (ptsI n).length).map (fun j => F_is_point dr ns [.int n, pD n j] c) = (List.range (ptsI n).length).map fun j => R.ok (PyData.bool true, c) :=
  six (P := fun n => (List.range (ptsI n).length).map (fun j => F_is_point dr ns [.int n, pD n j] c) = (List.range (ptsI n).length).map fun j => R.ok (PyData.bool true, c)) (by kernel_rfl) (by kernel_rfl) (by kernel_rfl) (by kernel_rfl) (by kernel_rfl) (by kernel_rfl) h h'
theorem s_is_point {n : Nat} (h : 1 ≤ n) (h' : n ≤ 6) {j : Nat} (hj : j < (ptsI n).length) : F_is_point dr ns [.int n, pD n j] c = .ok (.bool true, c) := List.map_inj_left.mp (point_all h h') j (List.mem_range.mpr hj)
theorem s_check_images {n : Nat} (h : 1 ≤ n) (h' : n ≤ 6) {ims : List Nat} (I : Ims n ims) : F_check_images dr ns [.int n, .tuple (imsD n ims)] c = .ok (.none, c) := by
  have hs : small ((n : Int) + 1) = true := small_of (by omega) (by omega)
  have e : (((n : Int) + 1) * ((n : Int) + 2)) / 2 = (((n + 1) * (n + 2) / 2 : Nat) : Int) := by push_cast; rfl
  refine run_end (env := startE false 3 [.int n, .tuple (imsD n ims)]) rfl ((xs_exp (ev_callF (F_check_size dr) (ea_cons (ev_var rfl) ea_nil) rfl (s_check_size h h'))).trans ?_)
  refine (xs_ifF (c1 := c) ((ev_or (k := false) (ev_not (k := true) (ev_isi (ev_var rfl) rfl))).trans ((if_neg Bool.false_ne_true).trans (ev_cmpV (ev_primV (ea_cons (ev_var rfl) ea_nil) rfl) (ev_binV (ev_binV (ev_binV (ev_var rfl) ev_con rfl) (ev_binV (ev_var rfl) ev_con rfl) (by simp only [binD]; rw [hs]; rfl)) ev_con rfl) (ne_false ?_))))).trans ?_
  · rw [e]
    show (((imsD n ims).length : Nat) : Int) = _
    unfold imsD
    rw [List.length_map, I.len, pts_len h h']
  · refine (xs_ifF (c1 := c) (ev_not (k := true) (ev_primV (ea_cons (ev_compMI ims (pD n) (fun _ => .bool true) (ei_seq (ev_var rfl) rfl) fun i hi => ⟨_, rfl, ev_callF (F_is_point dr) (ea_cons (ev_var rfl) (ea_cons (ev_var rfl) ea_nil)) rfl (s_is_point h h' (I.lt i hi))⟩) ea_nil) ?_))).trans xs_nil
    show (match boolsOf (ims.map fun _ => PyData.bool true) with | some bs => R.ok (PyData.bool (bs.all id)) | none => .bad) = _
    rw [boolsOf_map (fun _ => true)]
    simp [List.all_map]
theorem zip_ims {n : Nat} {ims : List Nat} (I : Ims n ims) {row : D} (hrow : seqOf row = some (imsD n ims)) : zipD (.list (ptsD n)) row = .ok ((List.range (ptsI n).length).map fun j => .tuple [pD n j, pD n (ims.getD j 0)]) := by
  unfold zipD
  rw [hrow, I.eq]
  show R.ok (((ptsD n).zip _).map fun p => PyData.tuple [p.1, p.2]) = _
  rw [ptsD_range, List.zip_map', List.map_map]
  rfl
theorem s_map_labels {n : Nat} (h : 1 ≤ n) (h' : n ≤ 6) {ims : List Nat} (I : Ims n ims) : F_map_labels dr ns [.int n, .tuple (imsD n ims)] c = .ok (.tuple (lv (mapL n ims)), c) := by
  refine run_ret rfl (xs_retE (ev_primV (ea_cons (ev_compMI (List.range (ptsI n).length) (fun j => .tuple [pD n j, pD n (ims.getD j 0)]) (fun j => .int (labN n j (ims.getD j 0))) (ei_zip (ev_callF (F_point_list dr) (ea_cons (ev_var rfl) ea_nil) rfl (s_point_list h h')) (ev_var rfl) (zip_ims I rfl)) fun j hj => ?_) ea_nil) ?_))
  · have hj := List.mem_range.mp hj
    obtain ⟨i, _, e2, hi⟩ := I.at hj
    exact ⟨_, rfl, ev_callF (F_label_of dr) (ea_cons (ev_var rfl) (ea_cons (ev_var rfl) ea_nil)) rfl (s_label_of h h' hj (by rw [e2]; exact hi))⟩
  · show R.ok (PyData.tuple _) = _
    unfold mapL lv
    rw [List.map_map]
    rfl
theorem s_labels_of {n : Nat} (h : 1 ≤ n) (h' : n ≤ 6) {ims : List Nat} (I : Ims n ims) : F_labels_of dr ns [.int n, .tuple (imsD n ims)] c = .ok (.tuple (lv (mapL n ims)), c) :=
  run_ret rfl ((xs_exp (ev_callF (F_check_images dr) (ea_cons (ev_var rfl) (ea_cons (ev_var rfl) ea_nil)) rfl (s_check_images h h' I))).trans (xs_retE (ev_callF (F_map_labels dr) (ea_cons (ev_var rfl) (ea_cons (ev_var rfl) ea_nil)) rfl (s_map_labels h h' I))))
theorem s_still_triangles {n : Nat} (h : 1 ≤ n) (h' : n ≤ 6) {ims : List Nat} (I : Ims n ims) : F_still_triangles dr ns [.int n, .tuple (imsD n ims)] c = .ok (.list (fullD n (mapL n ims)), c) :=
  run_ret rfl ((xs_exp (ev_callF (F_check_images dr) (ea_cons (ev_var rfl) (ea_cons (ev_var rfl) ea_nil)) rfl (s_check_images h h' I))).trans (xs_retE (ev_callF (F_full_list dr) (ea_cons (ev_var rfl) (ea_cons (ev_callF (F_map_labels dr) (ea_cons (ev_var rfl) (ea_cons (ev_var rfl) ea_nil)) rfl (s_map_labels h h' I)) ea_nil)) rfl (s_full_list' h h' (map_Lab h h' I)))))
end
end LG

/-! S22: the nearest proper labelling. -/
namespace LG
open PySem PySem.Spec PyProof.Rows L2
def fitN (n j : Nat) (l : Int) : Bool := decide (0 < entry (ptN n j) l)
def chI (n j : Nat) : List Int := [(0 : Int), 1, 2].filter (fitN n j)
def npI (n : Nat) (ls : List Int) : List Int := (List.range (ptsI n).length).map fun j => if fitN n j (lab ls j) = true then lab ls j else (chI n j).headD 0
theorem ch_all : [1, 2, 3, 4, 5, 6].all (fun n => (List.range (ptsI n).length).all fun j => !(chI n j).isEmpty) = true := by decide +kernel
theorem mem_six {n : Nat} (h : 1 ≤ n) (h' : n ≤ 6) : n ∈ [1, 2, 3, 4, 5, 6] := by
  have : n = 1 ∨ n = 2 ∨ n = 3 ∨ n = 4 ∨ n = 5 ∨ n = 6 := by omega
  simpa using this
theorem ch_cons {n : Nat} (h : 1 ≤ n) (h' : n ≤ 6) {j : Nat} (hj : j < (ptsI n).length) : ∃ l r, chI n j = l :: r := by
  have := List.all_eq_true.mp (List.all_eq_true.mp ch_all n (mem_six h h')) j (List.mem_range.mpr hj)
  cases hc : chI n j with
  | nil => rw [hc] at this; cases this
  | cons l r => exact ⟨l, r, rfl⟩
theorem ch_mem {n j : Nat} {l : Int} : l ∈ chI n j ↔ (l = 0 ∨ l = 1 ∨ l = 2) ∧ fitN n j l = true := by
  unfold chI
  rw [List.mem_filter]
  simp only [List.mem_cons, List.not_mem_nil, or_false]
section
variable {n : Nat} {ls : List Int}
theorem np_len : (npI n ls).length = (ptsI n).length := by unfold npI; rw [List.length_map, List.length_range]
theorem np_lab {j : Nat} (hj : j < (ptsI n).length) : lab (npI n ls) j = if fitN n j (lab ls j) = true then lab ls j else (chI n j).headD 0 := by
  have h1 : (npI n ls)[j]? = some (lab (npI n ls) j) := lab_get (by rw [np_len]; exact hj)
  unfold npI at h1
  rw [List.getElem?_map, List.getElem?_range hj] at h1
  exact (Option.some.inj h1).symm
theorem np_ok (h : 1 ≤ n) (h' : n ≤ 6) (L : Lab n ls) {j : Nat} (hj : j < (ptsI n).length) : lab (npI n ls) j ∈ chI n j := by
  rw [np_lab hj]
  split
  · rename_i hf
    have := L.rng _ (List.mem_of_getElem? (lab_get (ls := ls) (j := j) (by rw [L.len]; exact hj)))
    exact ch_mem.mpr ⟨by omega, hf⟩
  · obtain ⟨l, r, e⟩ := ch_cons h h' hj
    rw [e]
    exact List.mem_cons_self
theorem np_Lab (h : 1 ≤ n) (h' : n ≤ 6) (L : Lab n ls) : Lab n (npI n ls) where
  len := np_len
  rng := fun l hl => by
    obtain ⟨j, hj⟩ := List.mem_iff_getElem?.mp hl
    have hlt : j < (ptsI n).length := by rw [← np_len (ls := ls)]; exact (List.getElem?_eq_some_iff.mp hj).1
    have : l = lab (npI n ls) j := by
      rw [lab_get (by rw [np_len]; exact hlt)] at hj
      exact (Option.some.inj hj).symm
    have hm := (ch_mem.mp (np_ok h h' L hlt)).1
    rw [← this] at hm
    omega
theorem np_proper (h : 1 ≤ n) (h' : n ≤ 6) (L : Lab n ls) : proper n (npI n ls) = true :=
  proper_of (np_Lab h h' L) fun j hj => of_decide_eq_true (ch_mem.mp (np_ok h h' L hj)).2
end
section
variable {dr : DrT} {ns : List Int} {c n : Nat} {ls : List Int}
theorem fits_all (h : 1 ≤ n) (h' : n ≤ 6) : ((List.range (ptsI n).length).map fun j => ([(0 : Int), 1, 2].map fun l => F_fits dr ns [pD n j, .int l] c)) = (List.range (ptsI n).length).map fun j => [(0 : Int), 1, 2].map fun l => R.ok (PyData.bool (fitN n j l), c) :=
  six (P := fun n => ((List.range (ptsI n).length).map fun j => ([(0 : Int), 1, 2].map fun l => F_fits dr ns [pD n j, .int l] c)) = (List.range (ptsI n).length).map fun j => [(0 : Int), 1, 2].map fun l => R.ok (PyData.bool (fitN n j l), c)) (by kernel_rfl) (by kernel_rfl) (by kernel_rfl) (by kernel_rfl) (by kernel_rfl) (by kernel_rfl) h h'
theorem s_fitsN (h : 1 ≤ n) (h' : n ≤ 6) {j : Nat} (hj : j < (ptsI n).length) {l : Int} (hl : rng3 l) : F_fits dr ns [pD n j, .int l] c = .ok (.bool (fitN n j l), c) :=
  List.map_inj_left.mp (List.map_inj_left.mp (fits_all h h') j (List.mem_range.mpr hj)) l (by
    simp only [List.mem_cons, List.not_mem_nil, or_false]
    unfold rng3 at hl
    omega)
theorem choices_all (h : 1 ≤ n) (h' : n ≤ 6) : (List.range (ptsI n).length).map (fun j => F_choices_at dr ns [pD n j] c) = (List.range (ptsI n).length).map fun j => R.ok (PyData.list ((chI n j).map .int), c) :=
  six (P := fun n => (List.range (ptsI n).length).map (fun j => F_choices_at dr ns [pD n j] c) = (List.range (ptsI n).length).map fun j => R.ok (PyData.list ((chI n j).map .int), c)) (by kernel_rfl) (by kernel_rfl) (by kernel_rfl) (by kernel_rfl) (by kernel_rfl) (by kernel_rfl) h h'
theorem s_choices (h : 1 ≤ n) (h' : n ≤ 6) {j : Nat} (hj : j < (ptsI n).length) : F_choices_at dr ns [pD n j] c = .ok (.list ((chI n j).map .int), c) := List.map_inj_left.mp (choices_all h h') j (List.mem_range.mpr hj)
theorem s_nearest_proper (h : 1 ≤ n) (h' : n ≤ 6) (L : Lab n ls) : F_nearest_proper dr ns [.int n, .tuple (lv ls)] c = .ok (.tuple (lv (npI n ls)), c) := by
  have hLIM : LIM = 1000000 := rfl
  have hN : (ptsI n).length ≤ 28 := pts_le h h'
  let g : Nat → Int := fun j => if fitN n j (lab ls j) = true then lab ls j else (chI n j).headD 0
  obtain ⟨env1, c1, ⟨ec, s3, s4, ee⟩, q⟩ := xs_forI (ns := ns) (Φ := T_nearest_proper dr) (gv := g_nearest_proper) (env := [.val (.int n), .val (.tuple (lv ls)), .own (.list []), .unb, .unb]) (c := c) (c1 := c) (tg := .tp [3, 4]) (it := .zip (.call 1 (.cons (.var 0) .nil)) (.var 1)) (b := .cons (.app 2 (.ite (.call 2 (.cons (.var 3) (.cons (.var 4) .nil))) (.var 4) (.idx (.call 3 (.cons (.var 3) .nil)) (.con (.int 0))))) .nil) (r := b_nearest_proper.drop 3)
    (List.range (ptsI n).length) (fun j => .tuple [pD n j, .int (lab ls j)]) (fun i env1 c2 => c2 = c ∧ ∃ s3 s4, env1 = [.val (.int n), .val (.tuple (lv ls)), .own (.list (lv ((List.range i).map g))), s3, s4])
    (ei_zip (ev_callF (F_point_list dr) (ea_cons (ev_var rfl) ea_nil) rfl (s_point_list h h')) (ev_var rfl) (by
      show R.ok (((ptsD n).zip (lv ls)).map fun p => PyData.tuple [p.1, p.2]) = _
      rw [ptsD_rng, lv_range L.len, List.zip_map', List.map_map]
      rfl)) ⟨rfl, _, _, rfl⟩
    (fun i j env1 c2 hi ⟨e1, s3, s4, e2⟩ => by
      subst e1 e2
      obtain ⟨hlt, e⟩ := List.getElem?_eq_some_iff.mp hi
      rw [List.length_range] at hlt
      rw [List.getElem_range] at e
      subst e
      have hr : rng3 (lab ls i) := by
        have := L.rng _ (List.mem_of_getElem? (lab_get (ls := ls) (j := i) (by rw [L.len]; exact hlt)))
        unfold rng3
        omega
      refine ⟨_, _, _, rfl, (xs_app (d := .int (g i)) (c1 := c2) rfl ?_ (by rw [lv_len, List.length_map, List.length_range]; omega)).trans xs_nil, rfl, .val (pD n i), .val (.int (lab ls i)), ?_⟩
      · refine (ev_ite (ev_callF (F_fits dr) (ea_cons (ev_var rfl) (ea_cons (ev_var rfl) ea_nil)) rfl (s_fitsN h h' hlt hr))).trans ?_
        show _ = R.ok (PyData.int (if fitN n i (lab ls i) = true then lab ls i else (chI n i).headD 0), c2)
        by_cases hf : fitN n i (lab ls i) = true
        · rw [if_pos hf, if_pos hf]
          exact ev_var rfl
        · rw [if_neg hf, if_neg hf]
          obtain ⟨l, r, e⟩ := ch_cons h h' hlt
          refine ev_idxV (ev_callF (F_choices_at dr) (ea_cons (ev_var rfl) ea_nil) rfl (s_choices h h' hlt)) ev_con ?_
          rw [e]
          exact atD_nat (k := 0) rfl
      · show [Slot.val (.int n), .val (.tuple (lv ls)), .own (.list (lv ((List.range i).map g) ++ [.int (g i)])), .val (pD n i), .val (.int (lab ls i))] = _
        rw [List.range_succ, List.map_append]
        unfold lv
        rw [List.map_append]
        rfl)
  subst ec ee
  rw [List.length_range] at q
  refine run_ret rfl ((xs_exp (ev_callF (F_check_labels dr) (ea_cons (ev_var rfl) (ea_cons (ev_var rfl) ea_nil)) rfl (s_check_labels h h' L))).trans ((xs_new (ev_lst ea_nil (show (0 : Nat) ≤ LIM by decide))).trans (q.trans ((xs_shr rfl).trans (xs_retE (ev_primV (ea_cons (ev_var rfl) ea_nil) rfl))))))
end
end LG

/-! S23: stage 2 of k09: rows, distances, concrete parts. -/
namespace LG
open PySem PySem.Spec PyProof.Rows L2
/-! ### all proper labellings -/
def rowsN (n : Nat) : Nat → List (List Int)
  | 0 => [[]]
  | k + 1 => (rowsN n k).flatMap fun r => (chI n k).map fun l => r ++ [l]
def rowsI (n : Nat) : List (List Int) := rowsN n (ptsI n).length
def cntR (n : Nat) (r : List Int) : Nat := (fullL n r).length
theorem lab_app {r : List Int} {l : Int} {j : Nat} : lab (r ++ [l]) j = if j < r.length then lab r j else if j = r.length then l else 0 := by
  unfold lab
  by_cases h : j < r.length
  · rw [if_pos h, List.getD_eq_getElem?_getD, List.getD_eq_getElem?_getD, List.getElem?_append_left h]
  · rw [if_neg h, List.getD_eq_getElem?_getD, List.getElem?_append_right (by omega)]
    by_cases e : j = r.length
    · subst e
      simp
    · rw [if_neg e, List.getElem?_eq_none (by simp; omega)]
      rfl
theorem rows_mem {n : Nat} : ∀ {k : Nat} {r : List Int}, r ∈ rowsN n k ↔ r.length = k ∧ ∀ j, j < k → lab r j ∈ chI n j
  | 0, r => by
    unfold rowsN
    rw [List.mem_singleton]
    exact ⟨fun e => by subst e; exact ⟨rfl, fun j hj => absurd hj (Nat.not_lt_zero _)⟩, fun h => List.eq_nil_of_length_eq_zero h.1⟩
  | k + 1, r => by
    unfold rowsN
    rw [List.mem_flatMap]
    constructor
    · rintro ⟨r', hr', hm⟩
      obtain ⟨l, hl, rfl⟩ := List.mem_map.mp hm
      obtain ⟨h1, h2⟩ := rows_mem.mp hr'
      refine ⟨by rw [List.length_append, h1]; rfl, fun j hj => ?_⟩
      rw [lab_app]
      by_cases hjk : j < r'.length
      · rw [if_pos hjk]
        exact h2 j (by omega)
      · have : j = k := by omega
        subst this
        rw [if_neg hjk, if_pos h1.symm]
        exact hl
    · rintro ⟨h1, h2⟩
      rcases List.eq_nil_or_concat r with rfl | ⟨r', l, rfl⟩
      · cases h1
      · rw [List.concat_eq_append] at h1 h2 ⊢
        rw [List.length_append] at h1
        simp only [List.length_singleton] at h1
        have hl : r'.length = k := by omega
        refine ⟨r', rows_mem.mpr ⟨hl, fun j hj => ?_⟩, List.mem_map.mpr ⟨l, ?_, rfl⟩⟩
        · have := h2 j (by omega)
          rw [lab_app, if_pos (by omega)] at this
          exact this
        · have := h2 k (by omega)
          rw [lab_app, if_neg (by omega), if_pos hl.symm] at this
          exact this
theorem rows_Lab {n : Nat} {r : List Int} (h : r ∈ rowsI n) : Lab n r := by
  obtain ⟨h1, h2⟩ := rows_mem.mp h
  refine ⟨h1, fun l hl => ?_⟩
  obtain ⟨j, hj⟩ := List.mem_iff_getElem?.mp hl
  have hlt := (List.getElem?_eq_some_iff.mp hj).1
  have e : l = lab r j := by
    rw [lab_get hlt] at hj
    exact (Option.some.inj hj).symm
  have hm := (ch_mem.mp (h2 j (by omega))).1
  rw [← e] at hm
  omega
/-! ### distances -/
def dL (a b : List Int) : Nat := ((List.range a.length).filter fun i => decide (lab a i ≠ lab b i)).length
theorem list_lab (a : List Int) : a = (List.range a.length).map (lab a) := by
  apply List.ext_getElem?
  intro i
  rw [List.getElem?_map]
  by_cases hi : i < a.length
  · rw [List.getElem?_range hi, lab_get hi]
    rfl
  · rw [List.getElem?_eq_none (by omega), List.getElem?_eq_none (by rw [List.length_range]; omega)]
    rfl
theorem apart_dL {a b : List Int} (h : a.length = b.length) : apartI a b = dL a b := by
  unfold apartI dL
  have e : a.zip b = (List.range a.length).map fun i => (lab a i, lab b i) := by
    conv => lhs; rw [list_lab a, list_lab b, ← h]
    rw [List.zip_map']
  rw [e, List.filter_map, List.length_map]
  rfl
theorem filter_le {p q : Nat → Bool} : ∀ {l : List Nat}, (∀ i ∈ l, p i = true → q i = true) → (l.filter p).length ≤ (l.filter q).length ∧ ((l.filter p).length = (l.filter q).length → ∀ i ∈ l, q i = true → p i = true)
  | [], _ => ⟨Nat.le_refl _, fun _ i hi => absurd hi List.not_mem_nil⟩
  | x :: l, h => by
    obtain ⟨h1, h2⟩ := filter_le (l := l) fun i hi => h i (List.mem_cons_of_mem _ hi)
    have hx := h x List.mem_cons_self
    cases hp : p x with
    | true =>
      have hq := hx hp
      rw [List.filter_cons_of_pos hp, List.filter_cons_of_pos hq, List.length_cons, List.length_cons]
      refine ⟨by omega, fun e i hi hqi => ?_⟩
      rcases List.mem_cons.mp hi with rfl | hi
      · exact hp
      · exact h2 (by omega) i hi hqi
    | false =>
      cases hq : q x with
      | true =>
        rw [List.filter_cons_of_neg (by rw [hp]; decide), List.filter_cons_of_pos hq, List.length_cons]
        exact ⟨by omega, fun e => by omega⟩
      | false =>
        rw [List.filter_cons_of_neg (by rw [hp]; decide), List.filter_cons_of_neg (by rw [hq]; decide)]
        refine ⟨h1, fun e i hi hqi => ?_⟩
        rcases List.mem_cons.mp hi with rfl | hi
        · rw [hq] at hqi; cases hqi
        · exact h2 e i hi hqi
theorem first_diff {a b : List Int} (hl : a.length = b.length) (hne : a ≠ b) : ∃ j, (∀ i, i < j → lab a i = lab b i) ∧ j < a.length ∧ lab a j ≠ lab b j := by
  have ex : ∃ j, j < a.length ∧ lab a j ≠ lab b j := by
    by_cases hx : ∃ j, j < a.length ∧ lab a j ≠ lab b j
    · exact hx
    · refine absurd ?_ hne
      rw [list_lab a, list_lab b, ← hl]
      refine List.map_congr_left fun j hj => ?_
      by_cases e : lab a j = lab b j
      · exact e
      · exact absurd ⟨j, List.mem_range.mp hj, e⟩ hx
  obtain ⟨j, hj⟩ := ex
  have key : ∀ m, (∃ j, j < m ∧ j < a.length ∧ lab a j ≠ lab b j) → ∃ j, (∀ i, i < j → lab a i = lab b i) ∧ j < a.length ∧ lab a j ≠ lab b j := by
    intro m
    induction m with
    | zero => rintro ⟨j, h, _⟩; omega
    | succ m ih =>
      rintro ⟨j, h1, h2, h3⟩
      by_cases hs : ∃ i, i < m ∧ i < a.length ∧ lab a i ≠ lab b i
      · exact ih hs
      · have hjm : j = m := by
          by_cases e : j < m
          · exact absurd ⟨j, e, h2, h3⟩ hs
          · omega
        subst hjm
        refine ⟨j, fun i hi => ?_, h2, h3⟩
        by_cases e : lab a i = lab b i
        · exact e
        · exact absurd ⟨i, hi, by omega, e⟩ hs
  exact key (j + 1) ⟨j, by omega, hj⟩
theorem ch_lt {n j : Nat} : (chI n j).Pairwise (· < ·) := List.Pairwise.filter _ (by decide)
section
variable {n : Nat} {ls : List Int}
/-- the nearest proper labelling is the least of all -/
theorem np_min (h : 1 ≤ n) (h' : n ≤ 6) (L : Lab n ls) {r : List Int} (hr : r ∈ rowsI n) (hne : r ≠ npI n ls) : dL ls (npI n ls) < dL ls r ∨ (dL ls (npI n ls) = dL ls r ∧ ∃ j, (∀ i, i < j → lab (npI n ls) i = lab r i) ∧ j < (npI n ls).length ∧ lab (npI n ls) j < lab r j) := by
  obtain ⟨h1, h2⟩ := rows_mem.mp hr
  have PQ : ∀ i ∈ List.range ls.length, decide (lab ls i ≠ lab (npI n ls) i) = true → decide (lab ls i ≠ lab r i) = true := fun i hi hp => by
    rw [List.mem_range, L.len] at hi
    rw [decide_eq_true_iff] at hp ⊢
    intro e
    have hf := (ch_mem.mp (h2 i hi)).2
    rw [← e] at hf
    rw [np_lab hi, if_pos hf] at hp
    exact hp rfl
  obtain ⟨q1, q2⟩ := filter_le PQ
  have q1' : dL ls (npI n ls) ≤ dL ls r := q1
  by_cases hd : dL ls (npI n ls) = dL ls r
  · refine .inr ⟨hd, ?_⟩
    have hQ := q2 hd
    obtain ⟨j, j1, j2, j3⟩ := first_diff (by rw [np_len, h1]) (Ne.symm hne)
    refine ⟨j, j1, j2, ?_⟩
    rw [np_len] at j2
    have hnf : ¬ fitN n j (lab ls j) = true := fun hf => by
      rw [np_lab j2, if_pos hf] at j3
      have := hQ j (by rw [List.mem_range, L.len]; exact j2) (decide_eq_true j3)
      rw [decide_eq_true_iff, np_lab j2, if_pos hf] at this
      exact this rfl
    rw [np_lab j2, if_neg hnf] at j3 ⊢
    obtain ⟨l, t, e⟩ := ch_cons h h' j2
    have hm := h2 j j2
    have hlt := ch_lt (n := n) (j := j)
    rw [e] at hm hlt j3 ⊢
    rw [List.pairwise_cons] at hlt
    rcases List.mem_cons.mp hm with z | z
    · exact absurd z.symm j3
    · exact hlt.1 _ z
  · exact .inl (by omega)
end
/-! ### the least of a list of pairs -/
def rwD (r : List Int) : D := .tuple (lv r)
def prD (ls r : List Int) : D := .tuple [.int (dL ls r : Nat), rwD r]
abbrev lexI (l m : List (Int ⊕ List Nat)) : Bool := PyProof.Rows.lexLt PyProof.Rows.itemOrd l m
theorem lex_int {x y : Int} (h : x ≠ y) (l m : List (Int ⊕ List Nat)) : lexI (.inl x :: l) (.inl y :: m) = decide (x < y) := by
  refine (PyProof.Rows.lex_diff (O := PyProof.Rows.itemOrd) (fun e => h (Sum.inl.inj e))).trans rfl
theorem lex_same (x : Int ⊕ List Nat) (l m : List (Int ⊕ List Nat)) : lexI (x :: l) (x :: m) = lexI l m := PyProof.Rows.lex_self (O := PyProof.Rows.itemOrd) x l m
theorem toks_cons (x : Int) (r : List Int) (l : List (Int ⊕ List Nat)) : PySem.W.keyToksAll (lv (x :: r)) ++ l = .inl 1 :: .inl x :: (PySem.W.keyToksAll (lv r) ++ l) := by
  show PySem.W.keyToksAll (.int x :: lv r) ++ l = _
  rw [PySem.W.keyToksAll, PySem.W.keyToks]
  rfl
theorem lex_rows : ∀ {a b : List Int} (l m : List (Int ⊕ List Nat)), a.length = b.length → (∃ j, (∀ i, i < j → lab a i = lab b i) ∧ j < a.length ∧ lab a j < lab b j) → lexI (PySem.W.keyToksAll (lv a) ++ l) (PySem.W.keyToksAll (lv b) ++ m) = true ∧ lexI (PySem.W.keyToksAll (lv b) ++ m) (PySem.W.keyToksAll (lv a) ++ l) = false
  | [], _, l, m, _, ⟨j, _, hj, _⟩ => absurd hj (Nat.not_lt_zero _)
  | x :: a, [], l, m, hl, _ => by cases hl
  | x :: a, y :: b, l, m, hl, ⟨j, h1, h2, h3⟩ => by
    rw [toks_cons, toks_cons, lex_same, lex_same]
    cases j with
    | zero =>
      have hxy : x < y := h3
      rw [lex_int (by omega), lex_int (by omega)]
      exact ⟨decide_eq_true hxy, decide_eq_false (by omega)⟩
    | succ j =>
      have e : x = y := h1 0 (by omega)
      subst e
      rw [lex_same, lex_same]
      exact lex_rows l m (by simpa using hl) ⟨j, fun i hi => h1 (i + 1) (by omega), by simpa using h2, h3⟩
theorem pr_toks (ls r : List Int) : PySem.W.keyToks (prD ls r) = .inl 1 :: .inl (dL ls r : Nat) :: .inl 1 :: (PySem.W.keyToksAll (lv r) ++ [.inl 0]) := by
  unfold prD rwD
  rw [PySem.W.keyToks, PySem.W.keyToksAll, PySem.W.keyToks, PySem.W.keyToksAll, PySem.W.keyToks, PySem.W.keyToksAll]
  rfl
theorem pr_lt {ls a b : List Int} (hl : a.length = b.length) (h : dL ls a < dL ls b ∨ (dL ls a = dL ls b ∧ ∃ j, (∀ i, i < j → lab a i = lab b i) ∧ j < a.length ∧ lab a j < lab b j)) : PySem.W.dataLt (prD ls a) (prD ls b) = true ∧ PySem.W.dataLt (prD ls b) (prD ls a) = false := by
  unfold PySem.W.dataLt
  rw [pr_toks, pr_toks]
  show lexI _ _ = true ∧ lexI _ _ = false
  rw [lex_same, lex_same]
  rcases h with h | ⟨h, hj⟩
  · rw [lex_int (by omega), lex_int (by omega)]
    exact ⟨decide_eq_true (by omega), decide_eq_false (by omega)⟩
  · rw [h, lex_same, lex_same, lex_same, lex_same]
    exact lex_rows _ _ hl hj
theorem fold_min {f : List Int → D} {m : List Int} : ∀ {rs : List (List Int)} {a : List Int}, (a = m ∨ m ∈ rs) → (∀ r, (r = a ∨ r ∈ rs) → r ≠ m → PySem.W.dataLt (f m) (f r) = true ∧ PySem.W.dataLt (f r) (f m) = false) → (rs.map f).foldl (fun a y => if PySem.W.dataLt y a then y else a) (f a) = f m
  | [], a, h, _ => by
    rcases h with rfl | h
    · rfl
    · exact absurd h List.not_mem_nil
  | b :: rs, a, h, g => by
    rw [List.map_cons, List.foldl_cons]
    by_cases ea : a = m
    · subst ea
      have : (if PySem.W.dataLt (f b) (f a) = true then f b else f a) = f a := by
        by_cases eb : b = a
        · subst eb; split <;> rfl
        · rw [(g b (.inr List.mem_cons_self) eb).2]; rfl
      rw [this]
      exact fold_min (.inl rfl) fun r hr => g r (hr.imp id (List.mem_cons_of_mem _))
    · by_cases eb : b = m
      · subst eb
        rw [(g a (.inl rfl) ea).1]
        exact fold_min (.inl rfl) fun r hr => g r (hr.elim (fun e => .inr (e ▸ List.mem_cons_self)) fun e => .inr (List.mem_cons_of_mem _ e))
      · have hm : m ∈ rs := by
          rcases h with h | h
          · exact absurd h ea
          · rcases List.mem_cons.mp h with h | h
            · exact absurd h.symm eb
            · exact h
        split
        · exact fold_min (.inr hm) fun r hr => g r (hr.elim (fun e => .inr (e ▸ List.mem_cons_self)) fun e => .inr (List.mem_cons_of_mem _ e))
        · exact fold_min (.inr hm) fun r hr => g r (hr.imp id (List.mem_cons_of_mem _))
theorem fold_some {f : List Int → D} : ∀ {rs : List (List Int)} {a : List Int}, ∃ m, (m = a ∨ m ∈ rs) ∧ (rs.map f).foldl (fun a y => if PySem.W.dataLt y a then y else a) (f a) = f m
  | [], a => ⟨a, .inl rfl, rfl⟩
  | b :: rs, a => by
    rw [List.map_cons, List.foldl_cons]
    split
    · obtain ⟨m, h1, h2⟩ := fold_some (f := f) (rs := rs) (a := b)
      exact ⟨m, .inr (h1.elim (fun e => e ▸ List.mem_cons_self) (List.mem_cons_of_mem _)), h2⟩
    · obtain ⟨m, h1, h2⟩ := fold_some (f := f) (rs := rs) (a := a)
      exact ⟨m, h1.imp id (List.mem_cons_of_mem _), h2⟩
theorem alike_lv : ∀ (a b : List Int), PySem.W.alikeAll (lv a) (lv b) = true
  | [], _ => by show PySem.W.alikeAll [] _ = true; rw [PySem.W.alikeAll]
  | x :: a, [] => by show PySem.W.alikeAll (.int x :: lv a) [] = true; rw [PySem.W.alikeAll]
  | x :: a, y :: b => by
    show PySem.W.alikeAll (.int x :: lv a) (.int y :: lv b) = true
    rw [PySem.W.alikeAll, PySem.W.alike, alike_lv a b]
    rfl
theorem row_lay (r : List Int) : PyData.canLay0 (rwD r) = true ∧ PyData.depth (rwD r) ≤ 1 := by
  have := lay_all (k := 0) (xs := lv r) fun x hx => by
    obtain ⟨l, _, rfl⟩ := List.mem_map.mp hx
    exact ⟨rfl, Nat.le_refl _⟩
  exact ⟨this.1, Nat.succ_le_succ this.2⟩
theorem pr_lay (ls r : List Int) : PyData.canLay0 (prD ls r) = true ∧ PyData.depth (prD ls r) ≤ 2 := by
  have := lay_all (k := 1) (xs := [.int (dL ls r : Nat), rwD r]) fun x hx => by
    have : x = .int (dL ls r : Nat) ∨ x = rwD r := by simpa using hx
    rcases this with rfl | rfl
    · exact ⟨rfl, Nat.zero_le _⟩
    · exact row_lay r
  exact ⟨this.1, Nat.succ_le_succ this.2⟩
theorem pr_sortable (ls : List Int) (rs : List (List Int)) : sortableD (rs.map (prD ls)) = true := by
  unfold sortableD
  rw [Bool.and_eq_true, Bool.and_eq_true, Bool.or_eq_true]
  refine ⟨⟨?_, .inl ?_⟩, ?_⟩
  · rw [List.all_eq_true]
    intro x hx
    rw [List.all_eq_true]
    intro y hy
    obtain ⟨a, _, rfl⟩ := List.mem_map.mp hx
    obtain ⟨b, _, rfl⟩ := List.mem_map.mp hy
    unfold prD rwD
    rw [PySem.W.alike, PySem.W.alikeAll, PySem.W.alike, PySem.W.alikeAll, PySem.W.alike, PySem.W.alikeAll, alike_lv]
    rfl
  · rw [List.all_eq_true]
    intro x hx
    obtain ⟨a, _, rfl⟩ := List.mem_map.mp hx
    rfl
  · rw [List.all_eq_true]
    intro x hx
    obtain ⟨a, _, rfl⟩ := List.mem_map.mp hx
    rw [(pr_lay ls a).1, Bool.and_true]
    exact decide_eq_true (Nat.le_trans (pr_lay ls a).2 (by decide))
theorem min_pr (ls a : List Int) (rs : List (List Int)) : primD .min1 [.list ((a :: rs).map (prD ls))] = .ok ((rs.map (prD ls)).foldl (fun a y => if PySem.W.dataLt y a then y else a) (prD ls a)) := by
  show (if sortableD ((a :: rs).map (prD ls)) && ((a :: rs).map (prD ls)).all (fun x => match x with | .none => false | _ => true) then R.ok (PySem.W.minD (prD ls a) (rs.map (prD ls))) else .bad) = _
  have e : (((a :: rs).map (prD ls)).all fun x => match x with | .none => false | _ => true) = true := by
    rw [List.all_eq_true]
    intro x hx
    obtain ⟨b, _, rfl⟩ := List.mem_map.mp hx
    rfl
  rw [pr_sortable, e]
  rfl
/-! ### concrete parts -/
def law9 (k : Nat) : Sms := b_law_k09.drop k
theorem xs_take {ns : List Int} {Φ : List Callee} {gv : List D} : ∀ (k : Nat) {x : Sms} {env env1 : En} {c c1 : Nat}, exSs ns Φ gv (x.take k) env c = .ok (.next env1, c1) → exSs ns Φ gv x env c = exSs ns Φ gv (x.drop k) env1 c1
  | 0, x, env, env1, c, c1, h => by
    have h' : exSs ns Φ gv .nil env c = .ok (.next env1, c1) := h
    rw [exSs] at h'
    cases h'
    rfl
  | k + 1, .nil, env, env1, c, c1, h => by
    have h' : exSs ns Φ gv .nil env c = .ok (.next env1, c1) := h
    rw [exSs] at h'
    cases h'
    rfl
  | k + 1, .cons s r, env, env1, c, c1, h => by
    have h' : exSs ns Φ gv (.cons s (r.take k)) env c = .ok (.next env1, c1) := h
    rw [exSs] at h'
    rw [exSs]
    cases he : exS ns Φ gv s env c with
    | ok p =>
      obtain ⟨fl, c2⟩ := p
      cases fl with
      | next env2 =>
        rw [he] at h'
        exact xs_take k h'
      | ret d => rw [he] at h'; cases h'
    | exn e c0 => rw [he] at h'; cases h'
    | bad => rw [he] at h'; cases h'
def cntD (n : Nat) : D := .list ((rowsI n).map fun r => .int (cntR n r : Nat))
def envB (n : Nat) (s2 s3 s4 s9 s13 : Slot) : En := [.scr, .town, s2, s3, s4, .val (.int n), .val (.list ((rowsI n).map rwD)), .val (.list (cellsD n)), .val (cntD n), s9, .unb, .unb, .unb, s13, .unb, .unb, .unb, .unb]
theorem ev_mth9 {ns : List Int} {Φ : List Callee} {gv : List D} {env : En} {c : Nat} {p : Pr} {a : Ex} {es : Exs} {x d : D} {ds : List D} {c1 c2 : Nat} (h : evE ns Φ gv a env c = .ok (x, c1)) (hr : recvOk p x = true) (h' : evA ns Φ gv es env c1 = .ok (ds, c2)) (hp : primD p (x :: ds) = .ok d) : evE ns Φ gv (.mth p a es) env c = .ok (d, c2) := by
  rw [evE, h]
  show (if recvOk p x = true then (evA ns Φ gv es env c1).thn _ else .bad) = _
  rw [if_pos hr, h']
  show (primD p (x :: ds)).at c2 = _
  rw [hp]
  rfl
section
variable {ns : List Int} {c : Nat}
theorem large_1 : exSs ns (T_law_k09 drawF) g_law_k09 ((law9 1).take 4) [.scr, .town, .val (.int 1), .unb, .unb, .unb, .unb, .unb, .unb, .unb, .unb, .unb, .unb, .unb, .unb, .unb, .unb, .unb] c = .ok (.next [.scr, .town, .val (.int 1), .val (.int 1), .unb, .unb, .unb, .unb, .unb, .unb, .unb, .unb, .unb, .unb, .unb, .unb, .unb, .unb], c) := by kernel_rfl
theorem large_2 : exSs ns (T_law_k09 drawF) g_law_k09 ((law9 1).take 4) [.scr, .town, .val (.int 2), .unb, .unb, .unb, .unb, .unb, .unb, .unb, .unb, .unb, .unb, .unb, .unb, .unb, .unb, .unb] c = .ok (.next [.scr, .town, .val (.int 2), .val (.int 8), .val (.int 2), .unb, .unb, .unb, .unb, .unb, .unb, .unb, .unb, .unb, .unb, .unb, .unb, .unb], c) := by kernel_rfl
theorem large_3 : exSs ns (T_law_k09 drawF) g_law_k09 ((law9 1).take 4) [.scr, .town, .val (.int 3), .unb, .unb, .unb, .unb, .unb, .unb, .unb, .unb, .unb, .unb, .unb, .unb, .unb, .unb, .unb] c = .ok (.next [.scr, .town, .val (.int 3), .val (.int 192), .val (.int 0), .unb, .unb, .unb, .unb, .unb, .unb, .unb, .unb, .unb, .unb, .unb, .unb, .unb], c) := by kernel_rfl
theorem large_4 : exSs ns (T_law_k09 drawF) g_law_k09 ((law9 1).take 4) [.scr, .town, .val (.int 4), .unb, .unb, .unb, .unb, .unb, .unb, .unb, .unb, .unb, .unb, .unb, .unb, .unb, .unb, .unb] c = .ok (.next [.scr, .town, .val (.int 4), .val (.int 13824), .val (.int 2), .unb, .unb, .unb, .unb, .unb, .unb, .unb, .unb, .unb, .unb, .unb, .unb, .unb], c) := by kernel_rfl
theorem large_5 : exSs ns (T_law_k09 drawF) g_law_k09 ((law9 1).take 4) [.scr, .town, .val (.int 5), .unb, .unb, .unb, .unb, .unb, .unb, .unb, .unb, .unb, .unb, .unb, .unb, .unb, .unb, .unb] c = .ok (.next [.scr, .town, .val (.int 5), .val (.int 2985984), .val (.int 5), .unb, .unb, .unb, .unb, .unb, .unb, .unb, .unb, .unb, .unb, .unb, .unb, .unb], c) := by kernel_rfl
theorem large_6 : exSs ns (T_law_k09 drawF) g_law_k09 ((law9 1).take 4) [.scr, .town, .val (.int 6), .unb, .unb, .unb, .unb, .unb, .unb, .unb, .unb, .unb, .unb, .unb, .unb, .unb, .unb, .unb] c = .ok (.next [.scr, .town, .val (.int 6), .val (.int 1934917632), .val (.int 9), .unb, .unb, .unb, .unb, .unb, .unb, .unb, .unb, .unb, .unb, .unb, .unb, .unb], c) := by kernel_rfl
theorem large9 : ∀ n : Nat, 1 ≤ n → n ≤ 6 → ∃ s3 s4, exSs ns (T_law_k09 drawF) g_law_k09 ((law9 1).take 4) [.scr, .town, .val (.int (n : Nat)), .unb, .unb, .unb, .unb, .unb, .unb, .unb, .unb, .unb, .unb, .unb, .unb, .unb, .unb, .unb] c = .ok (.next [.scr, .town, .val (.int (n : Nat)), s3, s4, .unb, .unb, .unb, .unb, .unb, .unb, .unb, .unb, .unb, .unb, .unb, .unb, .unb], c)
  | 1, _, _ => ⟨_, _, large_1⟩
  | 2, _, _ => ⟨_, _, large_2⟩
  | 3, _, _ => ⟨_, _, large_3⟩
  | 4, _, _ => ⟨_, _, large_4⟩
  | 5, _, _ => ⟨_, _, large_5⟩
  | 6, _, _ => ⟨_, _, large_6⟩
def cntsI (n : Nat) : List Int := (rowsI n).map fun r => ((cntR n r : Nat) : Int)
def sprP : Nat → List (Int × Int)
  | 1 => [(1, 1)]
  | 2 => [(1, 8)]
  | _ => [(1, 108), (3, 72), (5, 12)]
theorem three {P : Nat → Prop} (h1 : P 1) (h2 : P 2) (h3 : P 3) {n : Nat} (h : 1 ≤ n) (h' : n ≤ 3) : P n := by
  have : n = 1 ∨ n = 2 ∨ n = 3 := by omega
  rcases this with rfl | rfl | rfl <;> assumption
theorem k_sort {n : Nat} (h : 1 ≤ n) (h' : n ≤ 3) : sortD (((cntsI n).foldl bumpI []).map pairI) = .ok (.list ((sprP n).map pairI)) :=
  three (P := fun n => sortD (((cntsI n).foldl bumpI []).map pairI) = .ok (.list ((sprP n).map pairI))) (by kernel_rfl) (by kernel_rfl) (by kernel_rfl) h h'
theorem k_set {n : Nat} (h : 1 ≤ n) (h' : n ≤ 3) : primD .sortedset [.list ((cntsI n).map .int)] = .ok (.list ((sprP n).map fun p => .int p.1)) :=
  three (P := fun n => primD .sortedset [.list ((cntsI n).map .int)] = .ok (.list ((sprP n).map fun p => .int p.1))) (by kernel_rfl) (by kernel_rfl) (by kernel_rfl) h h'
theorem k_count {n : Nat} (h : 1 ≤ n) (h' : n ≤ 3) : (sprP n).map (fun p => primD .count [.list ((cntsI n).map .int), .int p.1]) = (sprP n).map fun p => R.ok (PyData.int p.2) :=
  three (P := fun n => (sprP n).map (fun p => primD .count [.list ((cntsI n).map .int), .int p.1]) = (sprP n).map fun p => R.ok (PyData.int p.2)) (by kernel_rfl) (by kernel_rfl) (by kernel_rfl) h h'
theorem rw9 : ∀ n : Nat, 1 ≤ n → n ≤ 3 → F__law_proper_rows drawF ns [.int (n : Nat)] c = .ok (.list ((rowsI n).map rwD), c)
  | 1, _, _ => by kernel_rfl
  | 2, _, _ => by kernel_rfl
  | 3, _, _ => by kernel_rfl
theorem pl9 {dr : DrT} : ∀ n : Nat, 1 ≤ n → n ≤ 3 → F_proper_list dr ns [.int (n : Nat)] c = .ok (.list ((rowsI n).map rwD), c)
  | 1, _, _ => by kernel_rfl
  | 2, _, _ => by kernel_rfl
  | 3, _, _ => by kernel_rfl
theorem sprL_cons {tg : Tg} {j : Nat} {num : En → Nat → R (D × Nat)} {x : D} {xs : List D} {env env1 : En} {acc : List (Int × Int)} {c c1 : Nat} {k : Int} (ha : asgT tg x env = some env1) (hn : num env1 c = .ok (.int k, c1)) (hok : (noOwn env1 && decide (acc.length < LIM) && decide (j < env1.length)) = true) : sprL tg j num (x :: xs) env acc c = sprL tg j num xs (env1.set j (.val (.int k))) (bumpI acc k) c1 := by
  rw [sprL, ha]
  simp only [hn]
  rw [if_pos hok]
theorem spr_loop {n : Nat} (h : 1 ≤ n) (h' : n ≤ 6) : ∀ (rs : List (List Int)) (acc : List (Int × Int)) (s2 s3 : Slot), (∀ r ∈ rs, Lab n r) → (∀ d, s2 ≠ .own d) → (∀ d, s3 ≠ .own d) → acc.length + rs.length < LIM →
    sprL (.nm 2) 3 (fun env c => evE ns (T_spread_k09 drawF) g_spread_k09 (.prim .len (.cons (.call 1 (.cons (.var 0) (.cons (.var 2) .nil))) .nil)) env c) (rs.map rwD) [.val (.int n), .unb, s2, s3] acc c = .ok ((rs.map fun r => ((cntR n r : Nat) : Int)).foldl bumpI acc, c)
  | [], acc, s2, s3, _, _, _, _ => rfl
  | r :: rs, acc, s2, s3, hL, h2, h3, hl => by
    rw [List.length_cons] at hl
    have e : evE ns (T_spread_k09 drawF) g_spread_k09 (.prim .len (.cons (.call 1 (.cons (.var 0) (.cons (.var 2) .nil))) .nil)) [.val (.int n), .unb, .val (rwD r), s3] c = .ok (.int (cntR n r : Nat), c) := by
      refine (ev_len (ev_callF (F_full_list drawF) (ea_cons (ev_var rfl) (ea_cons (ev_var rfl) ea_nil)) rfl (s_full_list' h h' (hL r List.mem_cons_self)))).trans ?_
      unfold fullD cntR
      rw [List.length_map]
    have hno : noOwn [.val (.int n), .unb, .val (rwD r), s3] = true := by
      unfold noOwn
      cases s3 with
      | own d => exact absurd rfl (h3 d)
      | _ => rfl
    have hb := bump_len acc (cntR n r : Nat)
    rw [List.map_cons, List.map_cons, List.foldl_cons]
    refine (sprL_cons (env1 := [.val (.int n), .unb, .val (rwD r), s3]) rfl e (by rw [hno, decide_eq_true (show acc.length < LIM by omega)]; rfl)).trans ?_
    exact spr_loop h h' rs _ _ _ (fun x hx => hL x (List.mem_cons_of_mem _ hx)) (fun d z => nomatch z) (fun d z => nomatch z) (by omega)
theorem rows_few {n : Nat} (h : 1 ≤ n) (h' : n ≤ 3) : (rowsI n).length ≤ 1000 :=
  three (P := fun n => (rowsI n).length ≤ 1000) (by decide +kernel) (by decide +kernel) (by decide +kernel) h h'
theorem s_spread9 {n : Nat} (h : 1 ≤ n) (h' : n ≤ 3) : F_spread_k09 drawF ns [.int n] c = .ok (.list ((sprP n).map pairI), c) := by
  have hLIM : LIM = 1000000 := rfl
  have hf := rows_few h h'
  refine run_ret rfl ((xs_ifF (c1 := c) (ev_not (k := true) (ev_callF (F_is_integer drawF) (ea_cons (ev_var rfl) (ea_cons ev_con (ea_cons ev_con ea_nil))) rfl ((s_is_integer rfl).trans (by simp [intIn]; omega))))).trans (xs_ret ?_))
  rw [exS]
  show sprR _ 1 3 _ _ [.val (.int n), .unb, .unb, .unb] c = _
  unfold sprR
  rw [if_pos (by rfl)]
  show (evI ns (T_spread_k09 drawF) g_spread_k09 (.seq (.call 0 (.cons (.var 0) .nil))) [.val (.int n), .unb, .unb, .unb] c).thn _ = _
  rw [ei_seq (ev_callF (F_proper_list drawF) (ea_cons (ev_var rfl) ea_nil) rfl (pl9 n h h')) rfl]
  simp only [R.thn_ok]
  show (sprL _ 3 _ ((rowsI n).map rwD) [.val (.int n), .unb, .unb, .unb] [] c).thn _ = _
  rw [spr_loop h (by omega) (rowsI n) [] .unb .unb (fun r hr => rows_Lab hr) (fun d z => nomatch z) (fun d z => nomatch z) (by simp only [List.length_nil]; omega)]
  simp only [R.thn_ok]
  show ((sortD (((cntsI n).foldl bumpI []).map pairI)).at c).thn _ = _
  rw [k_sort h h']
  rfl
theorem block9 (s2 s3 s4 : Slot) (n : Nat) (h : 1 ≤ n) (h' : n ≤ 3) (r : Sms) (hr : r = law9 12) : ∃ s9 s13, exSs ns (T_law_k09 drawF) g_law_k09 (law9 6) [.scr, .town, s2, s3, s4, .val (.int (n : Nat)), .unb, .unb, .unb, .unb, .unb, .unb, .unb, .unb, .unb, .unb, .unb, .unb] c = exSs ns (T_law_k09 drawF) g_law_k09 r (envB n s2 s3 s4 s9 s13) c := by
  have hLIM : LIM = 1000000 := rfl
  have h6 : n ≤ 6 := by omega
  have hf := rows_few h h'
  let g : List Int → Int := fun r => ((cntR n r : Nat) : Int)
  obtain ⟨env1, c1, ⟨ec, s9, s13, ee⟩, q⟩ := xs_forI (ns := ns) (Φ := T_law_k09 drawF) (gv := g_law_k09) (env := [.scr, .town, s2, s3, s4, .val (.int (n : Nat)), .val (.list ((rowsI n).map rwD)), .val (.list (cellsD n)), .own (.list []), .unb, .unb, .unb, .unb, .unb, .unb, .unb, .unb, .unb]) (c := c) (c1 := c) (tg := .nm 9) (it := .seq (.var 6)) (b := .cons (.asg 13 (.call 5 (.cons (.var 5) (.cons (.var 9) .nil)))) (.cons (.app 8 (.prim .len (.cons (.comp [16] (.nm 16) (.seq (.var 7)) (.some (.call 6 (.cons (.var 13) (.cons (.var 16) .nil)))) (.var 16)) .nil))) .nil)) (r := law9 10)
    (rowsI n) rwD (fun i env1 c2 => c2 = c ∧ ∃ s9 s13, env1 = [.scr, .town, s2, s3, s4, .val (.int (n : Nat)), .val (.list ((rowsI n).map rwD)), .val (.list (cellsD n)), .own (.list ((((rowsI n).take i).map g).map .int)), s9, .unb, .unb, .unb, s13, .unb, .unb, .unb, .unb])
    (ei_seq (ev_var rfl) rfl) ⟨rfl, _, _, rfl⟩
    (fun i r env1 c2 hi ⟨e1, s9, s13, e2⟩ => by
      subst e1 e2
      have hrL := rows_Lab (List.mem_of_getElem? hi)
      refine ⟨_, _, _, rfl, (xs_asg (ev_callF (F__law_by_point drawF) (ea_cons (ev_var rfl) (ea_cons (ev_var rfl) ea_nil)) rfl (s__law_by_point h h6 (by rw [lv_len, hrL.len])))).trans ((xs_app (d := .int (g r)) (c1 := c2) rfl ?_ (by rw [List.length_map, List.length_map, List.length_take]; omega)).trans xs_nil), rfl, .val (rwD r), .val (.dict (tabD n (lv r))), ?_⟩
      · refine (ev_len (ev_compFI (cellsI n) (cellD n) (fullT r) (cellD n) (ei_seq (ev_var rfl) rfl) fun t ht => ⟨_, rfl, (ev_callF (F__law_full_here drawF) (ea_cons (ev_var rfl) (ea_cons (ev_var rfl) ea_nil)) rfl (s__law_full_here h h6 hrL (List.mem_map_of_mem ht))).trans ?_, fun _ => ev_var rfl⟩)).trans ?_
        · rw [fullC_T h h6 hrL (cells_inN h h6 t ht)]
        · rw [List.length_map]
          rfl
      · show [Slot.scr, .town, s2, s3, s4, .val (.int (n : Nat)), .val (.list ((rowsI n).map rwD)), .val (.list (cellsD n)), .own (.list ((((rowsI n).take i).map g).map .int ++ [.int (g r)])), .val (rwD r), .unb, .unb, .unb, .val (.dict (tabD n (lv r))), .unb, .unb, .unb, .unb] = _
        rw [List.take_succ, hi, List.map_append, List.map_append]
        rfl)
  subst ec ee
  have hk : (cntsI n).map PyData.int = (rowsI n).map fun r => PyData.int ((cntR n r : Nat) : Int) := by
    unfold cntsI
    rw [List.map_map]
    rfl
  have hq : ((rowsI n).map g).map PyData.int = (rowsI n).map fun r => PyData.int ((cntR n r : Nat) : Int) := hk
  rw [List.take_length, hq] at q
  subst hr
  refine ⟨s9, s13, (xs_asg (ev_callF (F__law_proper_rows drawF) (ea_cons (ev_var rfl) ea_nil) rfl (rw9 n h h'))).trans ((xs_asg (ev_callF (F__law_cells drawF) (ea_cons (ev_var rfl) ea_nil) rfl (s__law_cells h h6))).trans ((xs_new (ev_lst ea_nil (show (0 : Nat) ≤ LIM by decide))).trans (q.trans ((xs_shr rfl).trans ?_))))⟩
  refine (xs_ifF (c1 := c1) (ev_cmpV (ev_callF (F_spread_k09 drawF) (ea_cons (ev_var rfl) ea_nil) rfl (s_spread9 h h')) (ev_compMI (sprP n) (fun p => .int p.1) pairI (ei_seq (ev_primV (ea_cons (ev_var rfl) ea_nil) (by rw [← hk]; exact k_set h h')) rfl) fun p hp => ⟨_, rfl, ev_tup (ea_cons (ev_var rfl) (ea_cons (ev_mth9 (ev_var rfl) rfl (ea_cons (ev_var rfl) ea_nil) (by rw [← hk]; exact List.map_inj_left.mp (k_count h h') p hp)) ea_nil)) (show (2 : Nat) ≤ LIM by decide)⟩) ?_)).trans ?_
  · show (eqD (.list ((sprP n).map pairI)) (.list ((sprP n).map pairI))).neg = _
    rw [eqD_self (three (P := fun n => shp (.list ((sprP n).map pairI)) = true) (by decide +kernel) (by decide +kernel) (by decide +kernel) h h')]
    rfl
  · rfl
end
theorem one_all : [1, 2, 3].all (fun n => !((rowsI n).filter fun r => decide (cntR n r = 1)).isEmpty) = true := by decide +kernel
theorem one_cons {n : Nat} (h : 1 ≤ n) (h3 : n ≤ 3) : ∃ a rs, ((rowsI n).filter fun r => decide (cntR n r = 1)) = a :: rs := by
  have : n ∈ [1, 2, 3] := by
    have : n = 1 ∨ n = 2 ∨ n = 3 := by omega
    simpa using this
  have := List.all_eq_true.mp one_all n this
  cases hc : (rowsI n).filter fun r => decide (cntR n r = 1) with
  | nil => rw [hc] at this; cases this
  | cons a rs => exact ⟨a, rs, rfl⟩
end LG

/-! stage 2 of k09 -/
namespace LG
open PySem PySem.Spec PyProof.Rows L2
theorem rng_nat (k : Nat) : rangeU 0 (k : Int) = (List.range k).map fun i => .int ((i : Nat) : Int) := by
  unfold rangeU
  rw [show ((k : Int) - 0).toNat = k by omega]
  refine List.map_congr_left fun i _ => ?_
  rw [show (0 : Int) + (i : Nat) = (i : Nat) by omega]
section
variable {ns : List Int} {Φ : List Callee} {gv : List D} {env : En} {c n : Nat} {ls r : List Int}
theorem dist_ev (hl : ls.length = r.length) (hN : ls.length ≤ 1000) {i j k : Nat} (hi : env[i]? = some (.val (.tuple (lv ls)))) (hj : env[j]? = some (.val (.tuple (lv r)))) (hk : k < env.length) (hki : k ≠ i) (hkj : k ≠ j) :
    evE ns Φ gv (.prim .len (.cons (.comp [k] (.nm k) (.rng1 (.prim .len (.cons (.var i) .nil))) (.some (.cmp .ne (.idx (.var i) (.var k)) (.idx (.var j) (.var k)))) (.var k)) .nil)) env c = .ok (.int (dL ls r : Nat), c) := by
  have q := ev_compFI (ns := ns) (Φ := Φ) (gv := gv) (env := env) (c := c) (c1 := c) (vs := [k]) (tg := .nm k) (it := .rng1 (.prim .len (.cons (.var i) .nil))) (ifs := .cmp .ne (.idx (.var i) (.var k)) (.idx (.var j) (.var k))) (elt := .var k) (List.range ls.length) (fun x => .int (x : Nat)) (fun x => decide (lab ls x ≠ lab r x)) (fun x => .int (x : Nat))
    (by
      rw [evI, ev_primV (ea_cons (ev_var hi) ea_nil) (show primD .len [.tuple (lv ls)] = .ok (.int (ls.length : Nat)) by rw [← lv_len (ls := ls)]; rfl)]
      show (rng1D (.int (ls.length : Nat))).at c = _
      show (if bounded (ls.length : Nat) = true then R.ok (rangeU 0 (ls.length : Nat)) else .bad).at c = _
      rw [if_pos (by unfold bounded; simp only [Bool.and_eq_true, decide_eq_true_eq]; omega), rng_nat]
      rfl)
    (fun x hx => by
      have hx := List.mem_range.mp hx
      have e1 : ((env.set k .unb).set k (.val (.int (x : Nat))))[i]? = some (.val (.tuple (lv ls))) := by rw [List.getElem?_set_ne hki, List.getElem?_set_ne hki]; exact hi
      have e2 : ((env.set k .unb).set k (.val (.int (x : Nat))))[j]? = some (.val (.tuple (lv r))) := by rw [List.getElem?_set_ne hkj, List.getElem?_set_ne hkj]; exact hj
      have e3 : ((env.set k .unb).set k (.val (.int (x : Nat))))[k]? = some (.val (.int (x : Nat))) := by rw [List.getElem?_set_self (by simpa using hk)]
      exact ⟨_, rfl, ev_cmpV (ev_idxV (ev_var e1) (ev_var e3) (idx_lv hx)) (ev_idxV (ev_var e2) (ev_var e3) (idx_lv (by omega))) (ne_int _ _), fun _ => ev_var e3⟩)
  refine (ev_len q).trans ?_
  rw [List.length_map]
  rfl
end
theorem shp_row (r : List Int) : shp (rwD r) = true := shp_of (row_lay r).1 (row_lay r).2 (by decide)
section
variable {dr : DrT} {ns : List Int} {c n : Nat} {ls : List Int}
theorem s_fewest_full (h : 1 ≤ n) (h3 : n ≤ 3) (L : Lab n ls) {a : List Int} {rs : List (List Int)} (ha : ((rowsI n).filter fun r => decide (cntR n r = 1)) = a :: rs) {m : List Int} (hm : (rs.map (prD ls)).foldl (fun a y => if PySem.W.dataLt y a then y else a) (prD ls a) = prD ls m) : F_fewest_full dr ns [.int n, .tuple (lv ls)] c = .ok (rwD m, c) := by
  have h6 : n ≤ 6 := by omega
  refine run_ret rfl ((xs_ifF (c1 := c) (ev_not (k := true) (ev_callF (F_is_integer dr) (ea_cons (ev_var rfl) (ea_cons ev_con (ea_cons ev_con ea_nil))) rfl ((s_is_integer rfl).trans (by simp [intIn]; omega))))).trans ?_)
  refine (xs_exp (ev_callF (F_check_labels dr) (ea_cons (ev_var rfl) (ea_cons (ev_var rfl) ea_nil)) rfl (s_check_labels h h6 L))).trans ?_
  refine (xs_asg (d := .list ((a :: rs).map rwD)) (c1 := c) ?_).trans (xs_retE (ev_idxV (ev_primV (ea_cons (d := .list ((a :: rs).map (prD ls))) (c1 := c) ?_ ea_nil) ((min_pr ls a rs).trans (by rw [hm]))) ev_con rfl))
  · rw [← ha]
    refine ev_compFI (rowsI n) rwD (fun r => decide (cntR n r = 1)) rwD (ei_seq (ev_callF (F_proper_list dr) (ea_cons (ev_var rfl) ea_nil) rfl (pl9 n h h3)) rfl) fun r hr => ⟨_, rfl, ?_, fun _ => ev_var rfl⟩
    refine ev_cmpV (ev_len (ev_callF (F_full_list dr) (ea_cons (ev_var rfl) (ea_cons (ev_var rfl) ea_nil)) rfl (s_full_list' h h6 (rows_Lab hr)))) ev_con ?_
    rw [cmp_eqI]
    congr 1
    unfold fullD cntR
    rw [List.length_map]
    exact decide_eq_decide.mpr (by omega)
  · have e : (a :: rs).map (prD ls) = (a :: rs).map fun r => PyData.tuple [.int (apartI ls r : Nat), rwD r] := List.map_congr_left fun r hr => by
      have hr' : r ∈ rowsI n := (List.mem_filter.mp (show r ∈ (rowsI n).filter fun r => decide (cntR n r = 1) by rw [ha]; exact hr)).1
      unfold prD
      rw [apart_dL (by rw [L.len, (rows_Lab hr').len])]
    rw [e]
    exact ev_compMI (a :: rs) rwD _ (ei_seq (ev_var rfl) rfl) fun r hr => ⟨_, rfl, ev_tup (ea_cons (ev_callF (F_apart dr) (ea_cons (ev_var rfl) (ea_cons (ev_var rfl) ea_nil)) rfl s_apart) (ea_cons (ev_var rfl) ea_nil)) (show (2 : Nat) ≤ LIM by decide)⟩
end
theorem xs_shrV {ns : List Int} {Φ : List Callee} {gv : List D} {env : En} {c i : Nat} {r : Sms} {d : D} (h : env[i]? = some (.val d)) : exSs ns Φ gv (.cons (.shr i) r) env c = exSs ns Φ gv r env c := xs_next (by rw [exS, h])
theorem law_true (ns : List Int) (hns : ns.length ≤ 63) : ∃ c, F_law_k09 drawF ns [] 0 = .ok (.bool true, c) := by
  have hLIM : LIM = 1000000 := rfl
  obtain ⟨m, hm, d0⟩ := draw_nat (ns := ns) (c := 0) (m := 6) (by decide) (by omega)
  obtain ⟨o, ho, d1⟩ := draw_nat (ns := ns) (c := 1) (m := 3) (by decide) (by omega)
  obtain ⟨s3, s4, qL⟩ := large9 (ns := ns) (c := 1) (m + 1) (by omega) (by omega)
  have h1 : 1 ≤ o + 1 := by omega
  have h3 : o + 1 ≤ 3 := by omega
  have h6 : o + 1 ≤ 6 := by omega
  generalize en : o + 1 = n at h1 h3 h6
  have hN := pts_le h1 h6
  obtain ⟨s9, s13, qB⟩ := block9 (ns := ns) (c := 2) (.val (.int (m + 1 : Nat))) s3 s4 n h1 h3 (law9 12) rfl
  obtain ⟨ls, c1, hF, L, _, hc1⟩ := s__law_labelling (ns := ns) (c := 2) h1 h6 (pr := false) (by omega)
  obtain ⟨ls2, c2, hF2, L2, _, hc2⟩ := s__law_labelling (ns := ns) (c := c1) h1 h6 (pr := false) (by omega)
  have hnp : npI n ls ∈ rowsI n := rows_mem.mpr ⟨np_len, fun j hj => np_ok h1 h6 L hj⟩
  obtain ⟨a0, rs0, er⟩ : ∃ a rs, rowsI n = a :: rs := by
    cases hr : rowsI n with
    | nil => rw [hr] at hnp; exact absurd hnp List.not_mem_nil
    | cons a rs => exact ⟨a, rs, rfl⟩
  have hmin : primD .min1 [.list ((rowsI n).map (prD ls))] = .ok (prD ls (npI n ls)) := by
    rw [er, min_pr]
    refine congrArg R.ok ?_
    refine fold_min (f := prD ls) (by rw [er] at hnp; exact (List.mem_cons.mp hnp).imp Eq.symm id) fun r hr hne => ?_
    have hr' : r ∈ rowsI n := by rw [er]; exact hr.elim (fun e => e ▸ List.mem_cons_self) (List.mem_cons_of_mem _)
    exact pr_lt (by rw [np_len, (rows_Lab hr').len]) (np_min h1 h6 L hr' hne)
  obtain ⟨a, rs, ea⟩ := one_cons h1 h3
  obtain ⟨mm, _, hmm⟩ := fold_some (f := prD ls) (rs := rs) (a := a)
  have npL := np_Lab h1 h6 L
  refine Ends1.law ⟨c2, ?_⟩
  refine (xs_asg (d := .int (m + 1 : Nat)) (c1 := 1) (ev_binV ev_con (ev_callTF drawF rfl rfl (ea_cons ev_con ea_nil) rfl d0) (by rw [show ((m + 1 : Nat) : Int) = 1 + (m : Int) by omega]; rfl))).trans ?_
  refine (xs_take 4 qL).trans ?_
  refine (xs_asg (d := .int (n : Nat)) (c1 := 2) (ev_binV ev_con (ev_callTF drawF rfl rfl (ea_cons ev_con ea_nil) rfl d1) (by rw [← en, show ((o + 1 : Nat) : Int) = 1 + (o : Int) by omega]; rfl))).trans ?_
  refine qB.trans ?_
  unfold envB
  refine (xs_asg (ev_callTF (F__law_labelling drawF) rfl rfl (ea_cons (ev_var rfl) (ea_cons ev_con ea_nil)) rfl hF)).trans ?_
  refine (xs_asg (d := .list ((rowsI n).map (prD ls))) (c1 := c1) (ev_compMI (rowsI n) rwD (prD ls) (ei_seq (ev_var rfl) rfl) fun r hr => ⟨_, rfl, ev_tup (ea_cons (dist_ev (by rw [L.len, (rows_Lab hr).len]) (by rw [L.len]; omega) rfl rfl (show (15 : Nat) < 18 by decide) (by decide) (by decide)) (ea_cons (ev_var rfl) ea_nil)) (show (2 : Nat) ≤ LIM by decide)⟩)).trans ?_
  refine (xs_ifF (c1 := c1) ((ev_or (k := false) (ev_cmpV (ev_callF (F_nearest_proper drawF) (ea_cons (ev_var rfl) (ea_cons (ev_var rfl) ea_nil)) rfl (s_nearest_proper h1 h6 L)) (ev_idxV (ev_primV (ea_cons (ev_var rfl) ea_nil) hmin) ev_con (z := rwD (npI n ls)) rfl) ?_)).trans ((if_neg Bool.false_ne_true).trans (ev_cmpV (ev_callF (F_distance drawF) (ea_cons (ev_var rfl) (ea_cons (ev_var rfl) (ea_cons (ev_idxV (ev_primV (ea_cons (ev_var rfl) ea_nil) hmin) ev_con (z := rwD (npI n ls)) rfl) ea_nil))) rfl (s_distance h1 h6 L npL)) (ev_idxV (ev_primV (ea_cons (ev_var rfl) ea_nil) hmin) ev_con (z := .int (dL ls (npI n ls) : Nat)) rfl) ?_)))).trans ?_
  · show (eqD (rwD (npI n ls)) (rwD (npI n ls))).neg = _
    rw [eqD_self (shp_row _)]
    rfl
  · exact ne_false (by rw [apart_dL (by rw [L.len, np_len])])
  refine (xs_asg (ev_callTF (F__law_labelling drawF) rfl rfl (ea_cons (ev_var rfl) (ea_cons ev_con ea_nil)) rfl hF2)).trans ?_
  refine (xs_ifF (c1 := c2) (ev_cmpV (ev_callF (F_distance drawF) (ea_cons (ev_var rfl) (ea_cons (ev_var rfl) (ea_cons (ev_var rfl) ea_nil))) rfl (s_distance h1 h6 L L2)) (dist_ev (by rw [L.len, L2.len]) (by rw [L.len]; omega) rfl rfl (show (15 : Nat) < 18 by decide) (by decide) (by decide)) (ne_false (by rw [apart_dL (by rw [L.len, L2.len])])))).trans ?_
  refine (xs_shrV rfl).trans (xs_retE ?_)
  refine ev_cmpV (ev_callF (F_fewest_full drawF) (ea_cons (ev_var rfl) (ea_cons (ev_var rfl) ea_nil)) rfl (s_fewest_full h1 h3 L ea hmm)) (ev_idxV (ev_primV (ea_cons (d := .list ((a :: rs).map (prD ls))) (c1 := c2) ?_ ea_nil) ((min_pr ls a rs).trans (by rw [hmm]))) ev_con (z := rwD mm) rfl) (eqD_self (shp_row mm))
  rw [← ea]
  refine ev_compFI (rowsI n) (fun r => .tuple [prD ls r, .int (cntR n r : Nat)]) (fun r => decide (cntR n r = 1)) (prD ls) (ei_zip (ev_var rfl) (ev_var rfl) ?_) fun r hr => ⟨_, rfl, ev_cmpV (ev_var rfl) ev_con ?_, fun _ => ev_var rfl⟩
  · show R.ok ((((rowsI n).map (prD ls)).zip ((rowsI n).map fun r => PyData.int (cntR n r : Nat))).map fun p => PyData.tuple [p.1, p.2]) = _
    rw [List.zip_map', List.map_map]
    rfl
  · exact (cmp_eqI _ _).trans (congrArg R.ok (decide_eq_decide.mpr (by omega)))
end LG

namespace LG
open PySem PySem.Spec PyProof.Rows L2
def topS (i : Nat) : Stmt := PySem.Challenge.pw_labelgrids_k09_whole_counting.main.body.getD i (.Pass ⟨0, 0, 0, 0⟩)
theorem sc__law_same_number : FnScope ["got", "due"] ["got", "due"] (defScope (topS 31)) := scB_ok (by decide +kernel)
theorem mt__law_same_number : mSs ⟨["got", "due"], defScope (topS 31), fun _ => true, [], [], false, [0, 1, 4], [], (false, [])⟩ b__law_same_number (defBody (topS 31)) = true := by decide +kernel
theorem sc_is_integer : FnScope ["value", "low", "high"] ["value", "low", "high"] (defScope (topS 5)) := scB_ok (by decide +kernel)
theorem mt_is_integer : mSs ⟨["value", "low", "high"], defScope (topS 5), fun _ => true, [], [], false, [0, 1, 4], [], (false, [])⟩ b_is_integer (defBody (topS 5)) = true := by decide +kernel
theorem sc_check_size : FnScope ["size"] ["size"] (defScope (topS 6)) := scB_ok (by decide +kernel)
theorem mt_check_size : mSs ⟨["size"], defScope (topS 6), fun _ => true, [("is_integer", false, 3)], [], false, [0, 1, 4], [], (false, [])⟩ b_check_size (defBody (topS 6)) = true := by decide +kernel
theorem sc_point_list : FnScope ["size", "result", "i", "j"] ["size"] (defScope (topS 7)) := scB_ok (by decide +kernel)
theorem mt_point_list : mSs ⟨["size", "result", "i", "j"], defScope (topS 7), fun _ => true, [], [], false, [0, 1, 4], [], (false, [])⟩ b_point_list (defBody (topS 7)) = true := by decide +kernel
theorem sc_fits : FnScope ["point", "label"] ["point", "label"] (defScope (topS 15)) := scB_ok (by decide +kernel)
theorem mt_fits : mSs ⟨["point", "label"], defScope (topS 15), fun _ => true, [], [], false, [0, 1, 4], [], (false, [])⟩ b_fits (defBody (topS 15)) = true := by decide +kernel
theorem sc_choices_at : FnScope ["point", "label"] ["point"] (defScope (topS 19)) := scB_ok (by decide +kernel)
theorem mt_choices_at : mSs ⟨["point", "label"], defScope (topS 19), fun _ => true, [("fits", false, 2)], [], false, [0, 1, 4], [], (false, [])⟩ b_choices_at (defBody (topS 19)) = true := by decide +kernel
theorem sc_count_proper : FnScope ["size", "result", "point"] ["size"] (defScope (topS 20)) := scB_ok (by decide +kernel)
theorem mt_count_proper : mSs ⟨["size", "result", "point"], defScope (topS 20), fun _ => true, [("check_size", false, 1), ("point_list", false, 1), ("choices_at", false, 1)], [], false, [0, 1, 4], [], (false, [])⟩ b_count_proper (defBody (topS 20)) = true := by decide +kernel
theorem sc__law_places : FnScope ["n", "made", "i", "j"] ["n"] (defScope (topS 32)) := scB_ok (by decide +kernel)
theorem mt__law_places : mSs ⟨["n", "made", "i", "j"], defScope (topS 32), fun _ => true, [], [], false, [0, 1, 4], [], (false, [])⟩ b__law_places (defBody (topS 32)) = true := by decide +kernel
theorem sc__law_proper_rows : FnScope ["n", "rows", "point", "later", "row", "label"] ["n"] (defScope (topS 38)) := scB_ok (by decide +kernel)
theorem mt__law_proper_rows : mSs ⟨["n", "rows", "point", "later", "row", "label"], defScope (topS 38), fun _ => true, [("_law_places", false, 1)], [], false, [0, 1, 4], [], (false, [])⟩ b__law_proper_rows (defBody (topS 38)) = true := by decide +kernel
theorem sc__law_cells : FnScope ["n", "made", "i", "j", "k"] ["n"] (defScope (topS 33)) := scB_ok (by decide +kernel)
theorem mt__law_cells : mSs ⟨["n", "made", "i", "j", "k"], defScope (topS 33), fun _ => true, [("_law_places", false, 1)], [], false, [0, 1, 4], [], (false, [])⟩ b__law_cells (defBody (topS 33)) = true := by decide +kernel
theorem sc__law_by_point : FnScope ["n", "row", "table", "point", "entry"] ["n", "row"] (defScope (topS 36)) := scB_ok (by decide +kernel)
theorem mt__law_by_point : mSs ⟨["n", "row", "table", "point", "entry"], defScope (topS 36), fun _ => true, [("_law_places", false, 1)], [], false, [0, 1, 4], [], (false, [])⟩ b__law_by_point (defBody (topS 36)) = true := by decide +kernel
theorem sc__law_full_here : FnScope ["table", "cell", "point"] ["table", "cell"] (defScope (topS 37)) := scB_ok (by decide +kernel)
theorem mt__law_full_here : mSs ⟨["table", "cell", "point"], defScope (topS 37), fun _ => true, [], [], false, [0, 1, 4], [], (false, [])⟩ b__law_full_here (defBody (topS 37)) = true := by decide +kernel
theorem sc_proper_list : FnScope ["size", "some", "point", "later", "labels", "label"] ["size"] (defScope (topS 21)) := scB_ok (by decide +kernel)
theorem mt_proper_list : mSs ⟨["size", "some", "point", "later", "labels", "label"], defScope (topS 21), fun _ => true, [("point_list", false, 1), ("choices_at", false, 1)], [], false, [0, 1, 4], [], (false, [])⟩ b_proper_list (defBody (topS 21)) = true := by decide +kernel
theorem sc_table_of : FnScope ["size", "labels"] ["size", "labels"] (defScope (topS 14)) := scB_ok (by decide +kernel)
theorem mt_table_of : mSs ⟨["size", "labels"], defScope (topS 14), fun _ => true, [("point_list", false, 1)], [], false, [0, 1, 4], [], (false, [])⟩ b_table_of (defBody (topS 14)) = true := by decide +kernel
theorem sc_is_full : FnScope ["table", "triangle", "point"] ["table", "triangle"] (defScope (topS 16)) := scB_ok (by decide +kernel)
theorem mt_is_full : mSs ⟨["table", "triangle", "point"], defScope (topS 16), fun _ => true, [], [], false, [0, 1, 4], [], (false, [])⟩ b_is_full (defBody (topS 16)) = true := by decide +kernel
theorem sc_moved : FnScope ["point", "step"] ["point", "step"] (defScope (topS 8)) := scB_ok (by decide +kernel)
theorem mt_moved : mSs ⟨["point", "step"], defScope (topS 8), fun _ => true, [], [], false, [0, 1, 4], [], (false, [])⟩ b_moved (defBody (topS 8)) = true := by decide +kernel
theorem sc_turned_triangles : FnScope ["size", "result", "point", "first", "second", "one", "other"] ["size"] (defScope (topS 9)) := scB_ok (by decide +kernel)
theorem mt_turned_triangles : mSs ⟨["size", "result", "point", "first", "second", "one", "other"], defScope (topS 9), fun _ => true, [("point_list", false, 1), ("moved", false, 2)], [], false, [0, 1, 4], [], (false, [])⟩ b_turned_triangles (defBody (topS 9)) = true := by decide +kernel
theorem sc_triangle_list : FnScope ["size", "one"] ["size"] (defScope (topS 10)) := scB_ok (by decide +kernel)
theorem mt_triangle_list : mSs ⟨["size", "one"], defScope (topS 10), fun _ => true, [("turned_triangles", false, 1)], [], false, [0, 1, 4], [], (false, [])⟩ b_triangle_list (defBody (topS 10)) = true := by decide +kernel
theorem sc_full_list : FnScope ["size", "labels", "table", "one"] ["size", "labels"] (defScope (topS 17)) := scB_ok (by decide +kernel)
theorem mt_full_list : mSs ⟨["size", "labels", "table", "one"], defScope (topS 17), fun _ => true, [("table_of", false, 2), ("is_full", false, 2), ("triangle_list", false, 1)], [], false, [0, 1, 4], [], (false, [])⟩ b_full_list (defBody (topS 17)) = true := by decide +kernel
theorem sc_spread : FnScope ["size", "found", "labels", "number"] ["size"] (defScope (topS 22)) := scB_ok (by decide +kernel)
theorem mt_spread : mSs ⟨["size", "found", "labels", "number"], defScope (topS 22), fun _ => true, [("proper_list", false, 1), ("full_list", false, 2), ("is_integer", false, 3)], [], false, [0, 1, 4], [], (false, [])⟩ b_spread_k09 (defBody (topS 22)) = true := by decide +kernel
theorem sc__law_pick : FnScope ["script", "town", "some"] ["script", "town", "some"] (defScope (topS 34)) := scB_ok (by decide +kernel)
theorem mt__law_pick : mSs ⟨["script", "town", "some"], defScope (topS 34), fun _ => true, [("_law_draw", true, 1)], [], false, [0, 1, 4], [], (false, [])⟩ b__law_pick (defBody (topS 34)) = true := by decide +kernel
theorem sc__law_labelling : FnScope ["script", "town", "n", "proper", "liked", "made", "point", "some", "label"] ["script", "town", "n", "proper"] (defScope (topS 35)) := scB_ok (by decide +kernel)
theorem mt__law_labelling : mSs ⟨["script", "town", "n", "proper", "liked", "made", "point", "some", "label"], defScope (topS 35), fun _ => true, [("_law_draw", true, 1), ("_law_places", false, 1), ("_law_pick", true, 1)], [], false, [0, 1, 4], [], (false, [])⟩ b__law_labelling (defBody (topS 35)) = true := by decide +kernel
theorem sc_valid_labels : FnScope ["size", "value", "one"] ["size", "value"] (defScope (topS 12)) := scB_ok (by decide +kernel)
theorem mt_valid_labels : mSs ⟨["size", "value", "one"], defScope (topS 12), fun _ => true, [("is_integer", false, 3)], [], false, [0, 1, 4], [], (false, [])⟩ b_valid_labels (defBody (topS 12)) = true := by decide +kernel
theorem sc_check_labels : FnScope ["size", "labels"] ["size", "labels"] (defScope (topS 13)) := scB_ok (by decide +kernel)
theorem mt_check_labels : mSs ⟨["size", "labels"], defScope (topS 13), fun _ => true, [("check_size", false, 1), ("valid_labels", false, 2)], [], false, [0, 1, 4], [], (false, [])⟩ b_check_labels (defBody (topS 13)) = true := by decide +kernel
theorem sc_nearest_proper : FnScope ["size", "labels", "result", "point", "label"] ["size", "labels"] (defScope (topS 25)) := scB_ok (by decide +kernel)
theorem mt_nearest_proper : mSs ⟨["size", "labels", "result", "point", "label"], defScope (topS 25), fun _ => true, [("check_labels", false, 2), ("point_list", false, 1), ("fits", false, 2), ("choices_at", false, 1)], [], false, [0, 1, 4], [], (false, [])⟩ b_nearest_proper (defBody (topS 25)) = true := by decide +kernel
theorem sc_apart : FnScope ["one", "other", "first", "second"] ["one", "other"] (defScope (topS 23)) := scB_ok (by decide +kernel)
theorem mt_apart : mSs ⟨["one", "other", "first", "second"], defScope (topS 23), fun _ => true, [], [], false, [0, 1, 4], [], (false, [])⟩ b_apart (defBody (topS 23)) = true := by decide +kernel
theorem sc_distance : FnScope ["size", "one", "other"] ["size", "one", "other"] (defScope (topS 24)) := scB_ok (by decide +kernel)
theorem mt_distance : mSs ⟨["size", "one", "other"], defScope (topS 24), fun _ => true, [("check_labels", false, 2), ("apart", false, 2)], [], false, [0, 1, 4], [], (false, [])⟩ b_distance (defBody (topS 24)) = true := by decide +kernel
theorem sc_fewest_full : FnScope ["size", "labels", "some", "one"] ["size", "labels"] (defScope (topS 26)) := scB_ok (by decide +kernel)
theorem mt_fewest_full : mSs ⟨["size", "labels", "some", "one"], defScope (topS 26), fun _ => true, [("is_integer", false, 3), ("check_labels", false, 2), ("full_list", false, 2), ("proper_list", false, 1), ("apart", false, 2)], [], false, [0, 1, 4], [], (false, [])⟩ b_fewest_full (defBody (topS 26)) = true := by decide +kernel
theorem sc_law : FnScope ["script", "town", "large", "due", "again", "n", "rows", "cells", "counts", "row", "own", "some", "other", "table", "one", "at", "cell", "many"] ["script"] (defScope (topS 39)) := scB_ok (by decide +kernel)
theorem mt_law : mSs ⟨["script", "town", "large", "due", "again", "n", "rows", "cells", "counts", "row", "own", "some", "other", "table", "one", "at", "cell", "many"], defScope (topS 39), fun _ => true, [("_law_draw", true, 1), ("_law_same_number", false, 2), ("count_proper", false, 1), ("_law_proper_rows", false, 1), ("_law_cells", false, 1), ("_law_by_point", false, 2), ("_law_full_here", false, 2), ("spread", false, 1), ("_law_labelling", true, 2), ("nearest_proper", false, 2), ("distance", false, 3), ("fewest_full", false, 2)], [], false, [0, 1, 4], [], (false, [])⟩ b_law_k09 ((defBody (topS 39)).drop 1) = true := by decide +kernel
theorem scH_cell : FnScope ["script", "k", "spare", "again"] ["script", "k"] (defScope (topS 28)) := scB_ok (by decide +kernel)
theorem scH_mixed : FnScope ["script", "k", "many", "spun"] ["script", "k", "many"] (defScope (topS 29)) := scB_ok (by decide +kernel)
theorem scH_draw : FnScope ["script", "town", "many"] ["script", "town", "many"] (defScope (topS 30)) := scB_ok (by decide +kernel)
theorem all_mk {l : PySem.W.OpenLaw} {w : World} {K : PySem.W.Frag} {h : Heap} {mg : Str → Option Value} {fa : Addr} (X : K.In h) (G : h.Ns mainGlobals mg) (hfa : mg "law" = some (.ref fa)) {f1 : Addr} {od1 an1 : Option Addr} {sl1 : Array (Option Value)} {oc1 kV1 dc1 pm1 cd1 ct1 : Value} {f2 : Addr} {od2 an2 : Option Addr} {sl2 : Array (Option Value)} {oc2 kV2 dc2 pm2 cd2 ct2 : Value} {f3 : Addr} {od3 an3 : Option Addr} {sl3 : Array (Option Value)} {oc3 kV3 dc3 pm3 cd3 ct3 : Value} {f4 : Addr} {od4 an4 : Option Addr} {sl4 : Array (Option Value)} {oc4 kV4 dc4 pm4 cd4 ct4 : Value} {f5 : Addr} {od5 an5 : Option Addr} {sl5 : Array (Option Value)} {oc5 kV5 dc5 pm5 cd5 ct5 : Value} {f6 : Addr} {od6 an6 : Option Addr} {sl6 : Array (Option Value)} {oc6 kV6 dc6 pm6 cd6 ct6 : Value} {f7 : Addr} {od7 an7 : Option Addr} {sl7 : Array (Option Value)} {oc7 kV7 dc7 pm7 cd7 ct7 : Value} {f8 : Addr} {od8 an8 : Option Addr} {sl8 : Array (Option Value)} {oc8 kV8 dc8 pm8 cd8 ct8 : Value} {f9 : Addr} {od9 an9 : Option Addr} {sl9 : Array (Option Value)} {oc9 kV9 dc9 pm9 cd9 ct9 : Value} {f10 : Addr} {od10 an10 : Option Addr} {sl10 : Array (Option Value)} {oc10 kV10 dc10 pm10 cd10 ct10 : Value} {f11 : Addr} {od11 an11 : Option Addr} {sl11 : Array (Option Value)} {oc11 kV11 dc11 pm11 cd11 ct11 : Value} {f12 : Addr} {od12 an12 : Option Addr} {sl12 : Array (Option Value)} {oc12 kV12 dc12 pm12 cd12 ct12 : Value} {f13 : Addr} {od13 an13 : Option Addr} {sl13 : Array (Option Value)} {oc13 kV13 dc13 pm13 cd13 ct13 : Value} {f14 : Addr} {od14 an14 : Option Addr} {sl14 : Array (Option Value)} {oc14 kV14 dc14 pm14 cd14 ct14 : Value} {f15 : Addr} {od15 an15 : Option Addr} {sl15 : Array (Option Value)} {oc15 kV15 dc15 pm15 cd15 ct15 : Value} {f16 : Addr} {od16 an16 : Option Addr} {sl16 : Array (Option Value)} {oc16 kV16 dc16 pm16 cd16 ct16 : Value} {f17 : Addr} {od17 an17 : Option Addr} {sl17 : Array (Option Value)} {oc17 kV17 dc17 pm17 cd17 ct17 : Value} {f18 : Addr} {od18 an18 : Option Addr} {sl18 : Array (Option Value)} {oc18 kV18 dc18 pm18 cd18 ct18 : Value} {f19 : Addr} {od19 an19 : Option Addr} {sl19 : Array (Option Value)} {oc19 kV19 dc19 pm19 cd19 ct19 : Value} {f20 : Addr} {od20 an20 : Option Addr} {sl20 : Array (Option Value)} {oc20 kV20 dc20 pm20 cd20 ct20 : Value} {f21 : Addr} {od21 an21 : Option Addr} {sl21 : Array (Option Value)} {oc21 kV21 dc21 pm21 cd21 ct21 : Value} {f22 : Addr} {od22 an22 : Option Addr} {sl22 : Array (Option Value)} {oc22 kV22 dc22 pm22 cd22 ct22 : Value} {f23 : Addr} {od23 an23 : Option Addr} {sl23 : Array (Option Value)} {oc23 kV23 dc23 pm23 cd23 ct23 : Value} {f24 : Addr} {od24 an24 : Option Addr} {sl24 : Array (Option Value)} {oc24 kV24 dc24 pm24 cd24 ct24 : Value} {f25 : Addr} {od25 an25 : Option Addr} {sl25 : Array (Option Value)} {oc25 kV25 dc25 pm25 cd25 ct25 : Value} {f26 : Addr} {od26 an26 : Option Addr} {sl26 : Array (Option Value)} {oc26 kV26 dc26 pm26 cd26 ct26 : Value} {f27 : Addr} {od27 an27 : Option Addr} {sl27 : Array (Option Value)} {oc27 kV27 dc27 pm27 cd27 ct27 : Value} {f28 : Addr} {od28 an28 : Option Addr} {sl28 : Array (Option Value)} {oc28 kV28 dc28 pm28 cd28 ct28 : Value} {f29 : Addr} {od29 an29 : Option Addr} {sl29 : Array (Option Value)} {oc29 kV29 dc29 pm29 cd29 ct29 : Value} {f30 : Addr} {od30 an30 : Option Addr} {sl30 : Array (Option Value)} {oc30 kV30 dc30 pm30 cd30 ct30 : Value} {f31 : Addr} {od31 an31 : Option Addr} {sl31 : Array (Option Value)} {oc31 kV31 dc31 pm31 cd31 ct31 : Value} {f32 : Addr} {od32 an32 : Option Addr} {sl32 : Array (Option Value)} {oc32 kV32 dc32 pm32 cd32 ct32 : Value} (a1 : PySem.W.nsIn K mainGlobals "_law_cell_at" = some (some (.ref f1))) (l1 : K.lookup f1 = some ⟨oc1, od1, .func (PySem.W.fnOf "_law_cell_at" "_law_cell_at" (defArgs (topS 28)) (defBody (topS 28)) (defScope (topS 28)) .none kV1 dc1 pm1 an1 cd1 ct1), sl1⟩) (c1 : PySem.W.codeIn K cd1 "_law_cell_at" = true) (k1 : PySem.W.keepIn K (.ref f1) = true) (a2 : PySem.W.nsIn K mainGlobals "_law_mixed" = some (some (.ref f2))) (l2 : K.lookup f2 = some ⟨oc2, od2, .func (PySem.W.fnOf "_law_mixed" "_law_mixed" (defArgs (topS 29)) (defBody (topS 29)) (defScope (topS 29)) .none kV2 dc2 pm2 an2 cd2 ct2), sl2⟩) (c2 : PySem.W.codeIn K cd2 "_law_mixed" = true) (k2 : PySem.W.keepIn K (.ref f2) = true) (a3 : PySem.W.nsIn K mainGlobals "_law_draw" = some (some (.ref f3))) (l3 : K.lookup f3 = some ⟨oc3, od3, .func (PySem.W.fnOf "_law_draw" "_law_draw" (defArgs (topS 30)) (defBody (topS 30)) (defScope (topS 30)) .none kV3 dc3 pm3 an3 cd3 ct3), sl3⟩) (c3 : PySem.W.codeIn K cd3 "_law_draw" = true) (k3 : PySem.W.keepIn K (.ref f3) = true) (a4 : PySem.W.nsIn K mainGlobals "_law_same_number" = some (some (.ref f4))) (l4 : K.lookup f4 = some ⟨oc4, od4, .func (PySem.W.fnOf "_law_same_number" "_law_same_number" (defArgs (topS 31)) (defBody (topS 31)) (defScope (topS 31)) .none kV4 dc4 pm4 an4 cd4 ct4), sl4⟩) (c4 : PySem.W.codeIn K cd4 "_law_same_number" = true) (k4 : PySem.W.keepIn K (.ref f4) = true) (a5 : PySem.W.nsIn K mainGlobals "is_integer" = some (some (.ref f5))) (l5 : K.lookup f5 = some ⟨oc5, od5, .func (PySem.W.fnOf "is_integer" "is_integer" (defArgs (topS 5)) (defBody (topS 5)) (defScope (topS 5)) .none kV5 dc5 pm5 an5 cd5 ct5), sl5⟩) (c5 : PySem.W.codeIn K cd5 "is_integer" = true) (k5 : PySem.W.keepIn K (.ref f5) = true) (a6 : PySem.W.nsIn K mainGlobals "check_size" = some (some (.ref f6))) (l6 : K.lookup f6 = some ⟨oc6, od6, .func (PySem.W.fnOf "check_size" "check_size" (defArgs (topS 6)) (defBody (topS 6)) (defScope (topS 6)) .none kV6 dc6 pm6 an6 cd6 ct6), sl6⟩) (c6 : PySem.W.codeIn K cd6 "check_size" = true) (k6 : PySem.W.keepIn K (.ref f6) = true) (a7 : PySem.W.nsIn K mainGlobals "point_list" = some (some (.ref f7))) (l7 : K.lookup f7 = some ⟨oc7, od7, .func (PySem.W.fnOf "point_list" "point_list" (defArgs (topS 7)) (defBody (topS 7)) (defScope (topS 7)) .none kV7 dc7 pm7 an7 cd7 ct7), sl7⟩) (c7 : PySem.W.codeIn K cd7 "point_list" = true) (k7 : PySem.W.keepIn K (.ref f7) = true) (a8 : PySem.W.nsIn K mainGlobals "fits" = some (some (.ref f8))) (l8 : K.lookup f8 = some ⟨oc8, od8, .func (PySem.W.fnOf "fits" "fits" (defArgs (topS 15)) (defBody (topS 15)) (defScope (topS 15)) .none kV8 dc8 pm8 an8 cd8 ct8), sl8⟩) (c8 : PySem.W.codeIn K cd8 "fits" = true) (k8 : PySem.W.keepIn K (.ref f8) = true) (a9 : PySem.W.nsIn K mainGlobals "choices_at" = some (some (.ref f9))) (l9 : K.lookup f9 = some ⟨oc9, od9, .func (PySem.W.fnOf "choices_at" "choices_at" (defArgs (topS 19)) (defBody (topS 19)) (defScope (topS 19)) .none kV9 dc9 pm9 an9 cd9 ct9), sl9⟩) (c9 : PySem.W.codeIn K cd9 "choices_at" = true) (k9 : PySem.W.keepIn K (.ref f9) = true) (a10 : PySem.W.nsIn K mainGlobals "count_proper" = some (some (.ref f10))) (l10 : K.lookup f10 = some ⟨oc10, od10, .func (PySem.W.fnOf "count_proper" "count_proper" (defArgs (topS 20)) (defBody (topS 20)) (defScope (topS 20)) .none kV10 dc10 pm10 an10 cd10 ct10), sl10⟩) (c10 : PySem.W.codeIn K cd10 "count_proper" = true) (k10 : PySem.W.keepIn K (.ref f10) = true) (a11 : PySem.W.nsIn K mainGlobals "_law_places" = some (some (.ref f11))) (l11 : K.lookup f11 = some ⟨oc11, od11, .func (PySem.W.fnOf "_law_places" "_law_places" (defArgs (topS 32)) (defBody (topS 32)) (defScope (topS 32)) .none kV11 dc11 pm11 an11 cd11 ct11), sl11⟩) (c11 : PySem.W.codeIn K cd11 "_law_places" = true) (k11 : PySem.W.keepIn K (.ref f11) = true) (a12 : PySem.W.nsIn K mainGlobals "_law_proper_rows" = some (some (.ref f12))) (l12 : K.lookup f12 = some ⟨oc12, od12, .func (PySem.W.fnOf "_law_proper_rows" "_law_proper_rows" (defArgs (topS 38)) (defBody (topS 38)) (defScope (topS 38)) .none kV12 dc12 pm12 an12 cd12 ct12), sl12⟩) (c12 : PySem.W.codeIn K cd12 "_law_proper_rows" = true) (k12 : PySem.W.keepIn K (.ref f12) = true) (a13 : PySem.W.nsIn K mainGlobals "_law_cells" = some (some (.ref f13))) (l13 : K.lookup f13 = some ⟨oc13, od13, .func (PySem.W.fnOf "_law_cells" "_law_cells" (defArgs (topS 33)) (defBody (topS 33)) (defScope (topS 33)) .none kV13 dc13 pm13 an13 cd13 ct13), sl13⟩) (c13 : PySem.W.codeIn K cd13 "_law_cells" = true) (k13 : PySem.W.keepIn K (.ref f13) = true) (a14 : PySem.W.nsIn K mainGlobals "_law_by_point" = some (some (.ref f14))) (l14 : K.lookup f14 = some ⟨oc14, od14, .func (PySem.W.fnOf "_law_by_point" "_law_by_point" (defArgs (topS 36)) (defBody (topS 36)) (defScope (topS 36)) .none kV14 dc14 pm14 an14 cd14 ct14), sl14⟩) (c14 : PySem.W.codeIn K cd14 "_law_by_point" = true) (k14 : PySem.W.keepIn K (.ref f14) = true) (a15 : PySem.W.nsIn K mainGlobals "_law_full_here" = some (some (.ref f15))) (l15 : K.lookup f15 = some ⟨oc15, od15, .func (PySem.W.fnOf "_law_full_here" "_law_full_here" (defArgs (topS 37)) (defBody (topS 37)) (defScope (topS 37)) .none kV15 dc15 pm15 an15 cd15 ct15), sl15⟩) (c15 : PySem.W.codeIn K cd15 "_law_full_here" = true) (k15 : PySem.W.keepIn K (.ref f15) = true) (a16 : PySem.W.nsIn K mainGlobals "proper_list" = some (some (.ref f16))) (l16 : K.lookup f16 = some ⟨oc16, od16, .func (PySem.W.fnOf "proper_list" "proper_list" (defArgs (topS 21)) (defBody (topS 21)) (defScope (topS 21)) .none kV16 dc16 pm16 an16 cd16 ct16), sl16⟩) (c16 : PySem.W.codeIn K cd16 "proper_list" = true) (k16 : PySem.W.keepIn K (.ref f16) = true) (a17 : PySem.W.nsIn K mainGlobals "table_of" = some (some (.ref f17))) (l17 : K.lookup f17 = some ⟨oc17, od17, .func (PySem.W.fnOf "table_of" "table_of" (defArgs (topS 14)) (defBody (topS 14)) (defScope (topS 14)) .none kV17 dc17 pm17 an17 cd17 ct17), sl17⟩) (c17 : PySem.W.codeIn K cd17 "table_of" = true) (k17 : PySem.W.keepIn K (.ref f17) = true) (a18 : PySem.W.nsIn K mainGlobals "is_full" = some (some (.ref f18))) (l18 : K.lookup f18 = some ⟨oc18, od18, .func (PySem.W.fnOf "is_full" "is_full" (defArgs (topS 16)) (defBody (topS 16)) (defScope (topS 16)) .none kV18 dc18 pm18 an18 cd18 ct18), sl18⟩) (c18 : PySem.W.codeIn K cd18 "is_full" = true) (k18 : PySem.W.keepIn K (.ref f18) = true) (a19 : PySem.W.nsIn K mainGlobals "moved" = some (some (.ref f19))) (l19 : K.lookup f19 = some ⟨oc19, od19, .func (PySem.W.fnOf "moved" "moved" (defArgs (topS 8)) (defBody (topS 8)) (defScope (topS 8)) .none kV19 dc19 pm19 an19 cd19 ct19), sl19⟩) (c19 : PySem.W.codeIn K cd19 "moved" = true) (k19 : PySem.W.keepIn K (.ref f19) = true) (a20 : PySem.W.nsIn K mainGlobals "turned_triangles" = some (some (.ref f20))) (l20 : K.lookup f20 = some ⟨oc20, od20, .func (PySem.W.fnOf "turned_triangles" "turned_triangles" (defArgs (topS 9)) (defBody (topS 9)) (defScope (topS 9)) .none kV20 dc20 pm20 an20 cd20 ct20), sl20⟩) (c20 : PySem.W.codeIn K cd20 "turned_triangles" = true) (k20 : PySem.W.keepIn K (.ref f20) = true) (a21 : PySem.W.nsIn K mainGlobals "triangle_list" = some (some (.ref f21))) (l21 : K.lookup f21 = some ⟨oc21, od21, .func (PySem.W.fnOf "triangle_list" "triangle_list" (defArgs (topS 10)) (defBody (topS 10)) (defScope (topS 10)) .none kV21 dc21 pm21 an21 cd21 ct21), sl21⟩) (c21 : PySem.W.codeIn K cd21 "triangle_list" = true) (k21 : PySem.W.keepIn K (.ref f21) = true) (a22 : PySem.W.nsIn K mainGlobals "full_list" = some (some (.ref f22))) (l22 : K.lookup f22 = some ⟨oc22, od22, .func (PySem.W.fnOf "full_list" "full_list" (defArgs (topS 17)) (defBody (topS 17)) (defScope (topS 17)) .none kV22 dc22 pm22 an22 cd22 ct22), sl22⟩) (c22 : PySem.W.codeIn K cd22 "full_list" = true) (k22 : PySem.W.keepIn K (.ref f22) = true) (a23 : PySem.W.nsIn K mainGlobals "spread" = some (some (.ref f23))) (l23 : K.lookup f23 = some ⟨oc23, od23, .func (PySem.W.fnOf "spread" "spread" (defArgs (topS 22)) (defBody (topS 22)) (defScope (topS 22)) .none kV23 dc23 pm23 an23 cd23 ct23), sl23⟩) (c23 : PySem.W.codeIn K cd23 "spread" = true) (k23 : PySem.W.keepIn K (.ref f23) = true) (a24 : PySem.W.nsIn K mainGlobals "_law_pick" = some (some (.ref f24))) (l24 : K.lookup f24 = some ⟨oc24, od24, .func (PySem.W.fnOf "_law_pick" "_law_pick" (defArgs (topS 34)) (defBody (topS 34)) (defScope (topS 34)) .none kV24 dc24 pm24 an24 cd24 ct24), sl24⟩) (c24 : PySem.W.codeIn K cd24 "_law_pick" = true) (k24 : PySem.W.keepIn K (.ref f24) = true) (a25 : PySem.W.nsIn K mainGlobals "_law_labelling" = some (some (.ref f25))) (l25 : K.lookup f25 = some ⟨oc25, od25, .func (PySem.W.fnOf "_law_labelling" "_law_labelling" (defArgs (topS 35)) (defBody (topS 35)) (defScope (topS 35)) .none kV25 dc25 pm25 an25 cd25 ct25), sl25⟩) (c25 : PySem.W.codeIn K cd25 "_law_labelling" = true) (k25 : PySem.W.keepIn K (.ref f25) = true) (a26 : PySem.W.nsIn K mainGlobals "valid_labels" = some (some (.ref f26))) (l26 : K.lookup f26 = some ⟨oc26, od26, .func (PySem.W.fnOf "valid_labels" "valid_labels" (defArgs (topS 12)) (defBody (topS 12)) (defScope (topS 12)) .none kV26 dc26 pm26 an26 cd26 ct26), sl26⟩) (c26 : PySem.W.codeIn K cd26 "valid_labels" = true) (k26 : PySem.W.keepIn K (.ref f26) = true) (a27 : PySem.W.nsIn K mainGlobals "check_labels" = some (some (.ref f27))) (l27 : K.lookup f27 = some ⟨oc27, od27, .func (PySem.W.fnOf "check_labels" "check_labels" (defArgs (topS 13)) (defBody (topS 13)) (defScope (topS 13)) .none kV27 dc27 pm27 an27 cd27 ct27), sl27⟩) (c27 : PySem.W.codeIn K cd27 "check_labels" = true) (k27 : PySem.W.keepIn K (.ref f27) = true) (a28 : PySem.W.nsIn K mainGlobals "nearest_proper" = some (some (.ref f28))) (l28 : K.lookup f28 = some ⟨oc28, od28, .func (PySem.W.fnOf "nearest_proper" "nearest_proper" (defArgs (topS 25)) (defBody (topS 25)) (defScope (topS 25)) .none kV28 dc28 pm28 an28 cd28 ct28), sl28⟩) (c28 : PySem.W.codeIn K cd28 "nearest_proper" = true) (k28 : PySem.W.keepIn K (.ref f28) = true) (a29 : PySem.W.nsIn K mainGlobals "apart" = some (some (.ref f29))) (l29 : K.lookup f29 = some ⟨oc29, od29, .func (PySem.W.fnOf "apart" "apart" (defArgs (topS 23)) (defBody (topS 23)) (defScope (topS 23)) .none kV29 dc29 pm29 an29 cd29 ct29), sl29⟩) (c29 : PySem.W.codeIn K cd29 "apart" = true) (k29 : PySem.W.keepIn K (.ref f29) = true) (a30 : PySem.W.nsIn K mainGlobals "distance" = some (some (.ref f30))) (l30 : K.lookup f30 = some ⟨oc30, od30, .func (PySem.W.fnOf "distance" "distance" (defArgs (topS 24)) (defBody (topS 24)) (defScope (topS 24)) .none kV30 dc30 pm30 an30 cd30 ct30), sl30⟩) (c30 : PySem.W.codeIn K cd30 "distance" = true) (k30 : PySem.W.keepIn K (.ref f30) = true) (a31 : PySem.W.nsIn K mainGlobals "fewest_full" = some (some (.ref f31))) (l31 : K.lookup f31 = some ⟨oc31, od31, .func (PySem.W.fnOf "fewest_full" "fewest_full" (defArgs (topS 26)) (defBody (topS 26)) (defScope (topS 26)) .none kV31 dc31 pm31 an31 cd31 ct31), sl31⟩) (c31 : PySem.W.codeIn K cd31 "fewest_full" = true) (k31 : PySem.W.keepIn K (.ref f31) = true) (a32 : PySem.W.nsIn K mainGlobals "law" = some (some (.ref f32))) (l32 : K.lookup f32 = some ⟨oc32, od32, .func (PySem.W.fnOf "law" "law" (defArgs (topS 39)) (defBody (topS 39)) (defScope (topS 39)) .none kV32 dc32 pm32 an32 cd32 ct32), sl32⟩) (c32 : PySem.W.codeIn K cd32 "law" = true) (k32 : PySem.W.keepIn K (.ref f32) = true) (z1 : PySem.W.nsIn K mainGlobals "len" = some none) (z2 : PySem.W.nsIn K mainGlobals "sorted" = some none) (z3 : PySem.W.nsIn K mainGlobals "min" = some none) (z4 : PySem.W.nsIn K mainGlobals "max" = some none) (z5 : PySem.W.nsIn K mainGlobals "sum" = some none) (z6 : PySem.W.nsIn K mainGlobals "all" = some none) (z7 : PySem.W.nsIn K mainGlobals "any" = some none) (z8 : PySem.W.nsIn K mainGlobals "tuple" = some none) (z9 : PySem.W.nsIn K mainGlobals "list" = some none) (z10 : PySem.W.nsIn K mainGlobals "range" = some none) (z11 : PySem.W.nsIn K mainGlobals "zip" = some none) (z12 : PySem.W.nsIn K mainGlobals "isinstance" = some none) (z13 : PySem.W.nsIn K mainGlobals "int" = some none) (z14 : PySem.W.nsIn K mainGlobals "bool" = some none) (z15 : PySem.W.nsIn K mainGlobals "str" = some none) (z16 : PySem.W.nsIn K mainGlobals "dict" = some none) (z17 : PySem.W.nsIn K mainGlobals "enumerate" = some none) (z18 : PySem.W.nsIn K mainGlobals "set" = some none) : ∃ fd : FuncData, (∀ (s : Shared) (v : Value), BindsTo s fd ⟨[v], []⟩ [("script", v)]) ∧ ∀ base : Heap, K.In base → base.Ns mainGlobals mg → FnOk l.prog w K mg base CX0 6 fa fd ["script"] (spLaw K) := by
  have e := hfa.symm.trans (PySem.W.mg_of X G a32)
  cases e
  have hb : ∀ x ∈ bltNames, mg x = none := by
    intro x hx
    simp only [bltNames, List.mem_cons, List.not_mem_nil, or_false] at hx
    rcases hx with rfl | rfl | rfl | rfl | rfl | rfl | rfl | rfl | rfl | rfl | rfl | rfl | rfl | rfl | rfl | rfl | rfl | rfl
    · exact PySem.W.mg_none_of X G z1
    · exact PySem.W.mg_none_of X G z2
    · exact PySem.W.mg_none_of X G z3
    · exact PySem.W.mg_none_of X G z4
    · exact PySem.W.mg_none_of X G z5
    · exact PySem.W.mg_none_of X G z6
    · exact PySem.W.mg_none_of X G z7
    · exact PySem.W.mg_none_of X G z8
    · exact PySem.W.mg_none_of X G z9
    · exact PySem.W.mg_none_of X G z10
    · exact PySem.W.mg_none_of X G z11
    · exact PySem.W.mg_none_of X G z12
    · exact PySem.W.mg_none_of X G z13
    · exact PySem.W.mg_none_of X G z14
    · exact PySem.W.mg_none_of X G z15
    · exact PySem.W.mg_none_of X G z16
    · exact PySem.W.mg_none_of X G z17
    · exact PySem.W.mg_none_of X G z18
  refine ⟨PySem.W.fnOf "law" "law" (defArgs (topS 39)) (defBody (topS 39)) (defScope (topS 39)) .none kV32 dc32 pm32 an32 cd32 ct32, fun s v => .of_eq rfl, fun base _ _ => ?_⟩
  have F1 := fun_mk (st := topS 28) l1 c1 k1
  have F2 := fun_mk (st := topS 29) l2 c2 k2
  have F3 := fun_mk (st := topS 30) l3 c3 k3
  have F4 := fun_mk (st := topS 31) l4 c4 k4
  have F5 := fun_mk (st := topS 5) l5 c5 k5
  have F6 := fun_mk (st := topS 6) l6 c6 k6
  have F7 := fun_mk (st := topS 7) l7 c7 k7
  have F8 := fun_mk (st := topS 15) l8 c8 k8
  have F9 := fun_mk (st := topS 19) l9 c9 k9
  have F10 := fun_mk (st := topS 20) l10 c10 k10
  have F11 := fun_mk (st := topS 32) l11 c11 k11
  have F12 := fun_mk (st := topS 38) l12 c12 k12
  have F13 := fun_mk (st := topS 33) l13 c13 k13
  have F14 := fun_mk (st := topS 36) l14 c14 k14
  have F15 := fun_mk (st := topS 37) l15 c15 k15
  have F16 := fun_mk (st := topS 21) l16 c16 k16
  have F17 := fun_mk (st := topS 14) l17 c17 k17
  have F18 := fun_mk (st := topS 16) l18 c18 k18
  have F19 := fun_mk (st := topS 8) l19 c19 k19
  have F20 := fun_mk (st := topS 9) l20 c20 k20
  have F21 := fun_mk (st := topS 10) l21 c21 k21
  have F22 := fun_mk (st := topS 17) l22 c22 k22
  have F23 := fun_mk (st := topS 22) l23 c23 k23
  have F24 := fun_mk (st := topS 34) l24 c24 k24
  have F25 := fun_mk (st := topS 35) l25 c25 k25
  have F26 := fun_mk (st := topS 12) l26 c26 k26
  have F27 := fun_mk (st := topS 13) l27 c27 k27
  have F28 := fun_mk (st := topS 25) l28 c28 k28
  have F29 := fun_mk (st := topS 23) l29 c29 k29
  have F30 := fun_mk (st := topS 24) l30 c30 k30
  have F31 := fun_mk (st := topS 26) l31 c31 k31
  have F32 := fun_mk (st := topS 39) l32 c32 k32
  have C1 : FnOk l.prog w K mg base CX0 1 _ _ ["script", "k"] (spCellAt K) := cell_ok F1 scH_cell (by decide +kernel) (by decide +kernel) (by decide +kernel) (by decide +kernel) (by decide +kernel) rfl hb
  have C2 : FnOk l.prog w K mg base CX0 2 _ _ ["script", "k", "many"] (spMixed K) := mixed_ok F2 scH_mixed (by decide +kernel) (by decide +kernel) rfl C1 (PySem.W.mg_of X G a1) k1 (F1.binds (ps := ["script", "k"]) fun _ _ _ _ _ _ us hl => match us, hl with | [_, _], _ => rfl)
  have D3 : Dfn l.prog w K mg base 3 "_law_draw" ⟨true, drawF⟩ 1 := draw_ok F3 scH_draw (by decide +kernel) (by decide +kernel) rfl rfl hb C2 (PySem.W.mg_of X G a2) k2 (F2.binds (ps := ["script", "k", "many"]) fun _ _ _ _ _ _ us hl => match us, hl with | [_, _, _], _ => rfl) (PySem.W.mg_of X G a3) (F3.binds (ps := ["script", "town", "many"]) fun _ _ _ _ _ _ us hl => match us, hl with | [_, _, _], _ => rfl)
  have D4 : Dfn l.prog w K mg base 1 "_law_same_number" ⟨false, F__law_same_number drawF⟩ 2 := fn_ok F4 sc__law_same_number rfl mt__law_same_number hb .nil (show Gvs l.prog w K mg [] g__law_same_number from .nil) (PySem.W.mg_of X G a4) (F4.binds (ps := ["got", "due"]) fun _ _ _ _ _ _ us hl => match us, hl with | [_, _], _ => rfl)
  have D5 : Dfn l.prog w K mg base 1 "is_integer" ⟨false, F_is_integer drawF⟩ 3 := fn_ok F5 sc_is_integer rfl mt_is_integer hb .nil (show Gvs l.prog w K mg [] g_is_integer from .nil) (PySem.W.mg_of X G a5) (F5.binds (ps := ["value", "low", "high"]) fun _ _ _ _ _ _ us hl => match us, hl with | [_, _, _], _ => rfl)
  have D6 : Dfn l.prog w K mg base 2 "check_size" ⟨false, F_check_size drawF⟩ 1 := fn_ok F6 sc_check_size rfl mt_check_size hb (.cons D5 (by decide) .nil) (show Gvs l.prog w K mg [] g_check_size from .nil) (PySem.W.mg_of X G a6) (F6.binds (ps := ["size"]) fun _ _ _ _ _ _ us hl => match us, hl with | [_], _ => rfl)
  have D7 : Dfn l.prog w K mg base 1 "point_list" ⟨false, F_point_list drawF⟩ 1 := fn_ok F7 sc_point_list rfl mt_point_list hb .nil (show Gvs l.prog w K mg [] g_point_list from .nil) (PySem.W.mg_of X G a7) (F7.binds (ps := ["size"]) fun _ _ _ _ _ _ us hl => match us, hl with | [_], _ => rfl)
  have D8 : Dfn l.prog w K mg base 1 "fits" ⟨false, F_fits drawF⟩ 2 := fn_ok F8 sc_fits rfl mt_fits hb .nil (show Gvs l.prog w K mg [] g_fits from .nil) (PySem.W.mg_of X G a8) (F8.binds (ps := ["point", "label"]) fun _ _ _ _ _ _ us hl => match us, hl with | [_, _], _ => rfl)
  have D9 : Dfn l.prog w K mg base 2 "choices_at" ⟨false, F_choices_at drawF⟩ 1 := fn_ok F9 sc_choices_at rfl mt_choices_at hb (.cons D8 (by decide) .nil) (show Gvs l.prog w K mg [] g_choices_at from .nil) (PySem.W.mg_of X G a9) (F9.binds (ps := ["point"]) fun _ _ _ _ _ _ us hl => match us, hl with | [_], _ => rfl)
  have D10 : Dfn l.prog w K mg base 3 "count_proper" ⟨false, F_count_proper drawF⟩ 1 := fn_ok F10 sc_count_proper rfl mt_count_proper hb (.cons D6 (by decide) (.cons D7 (by decide) (.cons D9 (by decide) .nil))) (show Gvs l.prog w K mg [] g_count_proper from .nil) (PySem.W.mg_of X G a10) (F10.binds (ps := ["size"]) fun _ _ _ _ _ _ us hl => match us, hl with | [_], _ => rfl)
  have D11 : Dfn l.prog w K mg base 1 "_law_places" ⟨false, F__law_places drawF⟩ 1 := fn_ok F11 sc__law_places rfl mt__law_places hb .nil (show Gvs l.prog w K mg [] g__law_places from .nil) (PySem.W.mg_of X G a11) (F11.binds (ps := ["n"]) fun _ _ _ _ _ _ us hl => match us, hl with | [_], _ => rfl)
  have D12 : Dfn l.prog w K mg base 2 "_law_proper_rows" ⟨false, F__law_proper_rows drawF⟩ 1 := fn_ok F12 sc__law_proper_rows rfl mt__law_proper_rows hb (.cons D11 (by decide) .nil) (show Gvs l.prog w K mg [] g__law_proper_rows from .nil) (PySem.W.mg_of X G a12) (F12.binds (ps := ["n"]) fun _ _ _ _ _ _ us hl => match us, hl with | [_], _ => rfl)
  have D13 : Dfn l.prog w K mg base 2 "_law_cells" ⟨false, F__law_cells drawF⟩ 1 := fn_ok F13 sc__law_cells rfl mt__law_cells hb (.cons D11 (by decide) .nil) (show Gvs l.prog w K mg [] g__law_cells from .nil) (PySem.W.mg_of X G a13) (F13.binds (ps := ["n"]) fun _ _ _ _ _ _ us hl => match us, hl with | [_], _ => rfl)
  have D14 : Dfn l.prog w K mg base 2 "_law_by_point" ⟨false, F__law_by_point drawF⟩ 2 := fn_ok F14 sc__law_by_point rfl mt__law_by_point hb (.cons D11 (by decide) .nil) (show Gvs l.prog w K mg [] g__law_by_point from .nil) (PySem.W.mg_of X G a14) (F14.binds (ps := ["n", "row"]) fun _ _ _ _ _ _ us hl => match us, hl with | [_, _], _ => rfl)
  have D15 : Dfn l.prog w K mg base 1 "_law_full_here" ⟨false, F__law_full_here drawF⟩ 2 := fn_ok F15 sc__law_full_here rfl mt__law_full_here hb .nil (show Gvs l.prog w K mg [] g__law_full_here from .nil) (PySem.W.mg_of X G a15) (F15.binds (ps := ["table", "cell"]) fun _ _ _ _ _ _ us hl => match us, hl with | [_, _], _ => rfl)
  have D16 : Dfn l.prog w K mg base 3 "proper_list" ⟨false, F_proper_list drawF⟩ 1 := fn_ok F16 sc_proper_list rfl mt_proper_list hb (.cons D7 (by decide) (.cons D9 (by decide) .nil)) (show Gvs l.prog w K mg [] g_proper_list from .nil) (PySem.W.mg_of X G a16) (F16.binds (ps := ["size"]) fun _ _ _ _ _ _ us hl => match us, hl with | [_], _ => rfl)
  have D17 : Dfn l.prog w K mg base 2 "table_of" ⟨false, F_table_of drawF⟩ 2 := fn_ok F17 sc_table_of rfl mt_table_of hb (.cons D7 (by decide) .nil) (show Gvs l.prog w K mg [] g_table_of from .nil) (PySem.W.mg_of X G a17) (F17.binds (ps := ["size", "labels"]) fun _ _ _ _ _ _ us hl => match us, hl with | [_, _], _ => rfl)
  have D18 : Dfn l.prog w K mg base 1 "is_full" ⟨false, F_is_full drawF⟩ 2 := fn_ok F18 sc_is_full rfl mt_is_full hb .nil (show Gvs l.prog w K mg [] g_is_full from .nil) (PySem.W.mg_of X G a18) (F18.binds (ps := ["table", "triangle"]) fun _ _ _ _ _ _ us hl => match us, hl with | [_, _], _ => rfl)
  have D19 : Dfn l.prog w K mg base 1 "moved" ⟨false, F_moved drawF⟩ 2 := fn_ok F19 sc_moved rfl mt_moved hb .nil (show Gvs l.prog w K mg [] g_moved from .nil) (PySem.W.mg_of X G a19) (F19.binds (ps := ["point", "step"]) fun _ _ _ _ _ _ us hl => match us, hl with | [_, _], _ => rfl)
  have D20 : Dfn l.prog w K mg base 2 "turned_triangles" ⟨false, F_turned_triangles drawF⟩ 1 := fn_ok F20 sc_turned_triangles rfl mt_turned_triangles hb (.cons D7 (by decide) (.cons D19 (by decide) .nil)) (show Gvs l.prog w K mg [] g_turned_triangles from .nil) (PySem.W.mg_of X G a20) (F20.binds (ps := ["size"]) fun _ _ _ _ _ _ us hl => match us, hl with | [_], _ => rfl)
  have D21 : Dfn l.prog w K mg base 3 "triangle_list" ⟨false, F_triangle_list drawF⟩ 1 := fn_ok F21 sc_triangle_list rfl mt_triangle_list hb (.cons D20 (by decide) .nil) (show Gvs l.prog w K mg [] g_triangle_list from .nil) (PySem.W.mg_of X G a21) (F21.binds (ps := ["size"]) fun _ _ _ _ _ _ us hl => match us, hl with | [_], _ => rfl)
  have D22 : Dfn l.prog w K mg base 4 "full_list" ⟨false, F_full_list drawF⟩ 2 := fn_ok F22 sc_full_list rfl mt_full_list hb (.cons D17 (by decide) (.cons D18 (by decide) (.cons D21 (by decide) .nil))) (show Gvs l.prog w K mg [] g_full_list from .nil) (PySem.W.mg_of X G a22) (F22.binds (ps := ["size", "labels"]) fun _ _ _ _ _ _ us hl => match us, hl with | [_, _], _ => rfl)
  have D23 : Dfn l.prog w K mg base 5 "spread" ⟨false, F_spread_k09 drawF⟩ 1 := fn_ok F23 sc_spread rfl mt_spread hb (.cons D16 (by decide) (.cons D22 (by decide) (.cons D5 (by decide) .nil))) (show Gvs l.prog w K mg [] g_spread_k09 from .nil) (PySem.W.mg_of X G a23) (F23.binds (ps := ["size"]) fun _ _ _ _ _ _ us hl => match us, hl with | [_], _ => rfl)
  have D24 : Dfn l.prog w K mg base 4 "_law_pick" ⟨true, F__law_pick drawF⟩ 1 := fn_ok F24 sc__law_pick rfl mt__law_pick hb (.cons D3 (by decide) .nil) (show Gvs l.prog w K mg [] g__law_pick from .nil) (PySem.W.mg_of X G a24) (F24.binds (ps := ["script", "town", "some"]) fun _ _ _ _ _ _ us hl => match us, hl with | [_, _, _], _ => rfl)
  have D25 : Dfn l.prog w K mg base 5 "_law_labelling" ⟨true, F__law_labelling drawF⟩ 2 := fn_ok F25 sc__law_labelling rfl mt__law_labelling hb (.cons D3 (by decide) (.cons D11 (by decide) (.cons D24 (by decide) .nil))) (show Gvs l.prog w K mg [] g__law_labelling from .nil) (PySem.W.mg_of X G a25) (F25.binds (ps := ["script", "town", "n", "proper"]) fun _ _ _ _ _ _ us hl => match us, hl with | [_, _, _, _], _ => rfl)
  have D26 : Dfn l.prog w K mg base 2 "valid_labels" ⟨false, F_valid_labels drawF⟩ 2 := fn_ok F26 sc_valid_labels rfl mt_valid_labels hb (.cons D5 (by decide) .nil) (show Gvs l.prog w K mg [] g_valid_labels from .nil) (PySem.W.mg_of X G a26) (F26.binds (ps := ["size", "value"]) fun _ _ _ _ _ _ us hl => match us, hl with | [_, _], _ => rfl)
  have D27 : Dfn l.prog w K mg base 3 "check_labels" ⟨false, F_check_labels drawF⟩ 2 := fn_ok F27 sc_check_labels rfl mt_check_labels hb (.cons D6 (by decide) (.cons D26 (by decide) .nil)) (show Gvs l.prog w K mg [] g_check_labels from .nil) (PySem.W.mg_of X G a27) (F27.binds (ps := ["size", "labels"]) fun _ _ _ _ _ _ us hl => match us, hl with | [_, _], _ => rfl)
  have D28 : Dfn l.prog w K mg base 4 "nearest_proper" ⟨false, F_nearest_proper drawF⟩ 2 := fn_ok F28 sc_nearest_proper rfl mt_nearest_proper hb (.cons D27 (by decide) (.cons D7 (by decide) (.cons D8 (by decide) (.cons D9 (by decide) .nil)))) (show Gvs l.prog w K mg [] g_nearest_proper from .nil) (PySem.W.mg_of X G a28) (F28.binds (ps := ["size", "labels"]) fun _ _ _ _ _ _ us hl => match us, hl with | [_, _], _ => rfl)
  have D29 : Dfn l.prog w K mg base 1 "apart" ⟨false, F_apart drawF⟩ 2 := fn_ok F29 sc_apart rfl mt_apart hb .nil (show Gvs l.prog w K mg [] g_apart from .nil) (PySem.W.mg_of X G a29) (F29.binds (ps := ["one", "other"]) fun _ _ _ _ _ _ us hl => match us, hl with | [_, _], _ => rfl)
  have D30 : Dfn l.prog w K mg base 4 "distance" ⟨false, F_distance drawF⟩ 3 := fn_ok F30 sc_distance rfl mt_distance hb (.cons D27 (by decide) (.cons D29 (by decide) .nil)) (show Gvs l.prog w K mg [] g_distance from .nil) (PySem.W.mg_of X G a30) (F30.binds (ps := ["size", "one", "other"]) fun _ _ _ _ _ _ us hl => match us, hl with | [_, _, _], _ => rfl)
  have D31 : Dfn l.prog w K mg base 5 "fewest_full" ⟨false, F_fewest_full drawF⟩ 2 := fn_ok F31 sc_fewest_full rfl mt_fewest_full hb (.cons D5 (by decide) (.cons D27 (by decide) (.cons D22 (by decide) (.cons D16 (by decide) (.cons D29 (by decide) .nil))))) (show Gvs l.prog w K mg [] g_fewest_full from .nil) (PySem.W.mg_of X G a31) (F31.binds (ps := ["size", "labels"]) fun _ _ _ _ _ _ us hl => match us, hl with | [_, _], _ => rfl)
  exact law_ok F32 sc_law rfl mt_law (by decide +kernel) hb (.cons D3 (by decide) (.cons D4 (by decide) (.cons D10 (by decide) (.cons D12 (by decide) (.cons D13 (by decide) (.cons D14 (by decide) (.cons D15 (by decide) (.cons D23 (by decide) (.cons D25 (by decide) (.cons D28 (by decide) (.cons D30 (by decide) (.cons D31 (by decide) .nil)))))))))))) (show Gvs l.prog w K mg [] g_law_k09 from .nil) law_true
end LG
open PySem PySem.W PyProof.Rows
set_option maxHeartbeats 0 in
theorem PySem.Challenge.cw_labelgrids_k09_whole_counting_holds : PySem.Challenge.rw_labelgrids_k09_whole_counting.Holds := by
  w_on; o_law; k_head; (case hw => w_witness2)
  k_fill
  refine L2.walk_ofK (l := PySem.Challenge.rw_labelgrids_k09_whole_counting) (n := 63) (k := 6) (x := "script") (CX := L2.CX0) (sp := LG.spLaw) rfl (by decide) rfl ⟨rfl, by decide, by decide⟩ (fun w h Y => PySem.W.kIn_of Y) ?F (fun _ _ a ns hl _ hS => ⟨a, ns, rfl, hS, hl, fun _ => rfl⟩) (fun _ _ _ _ h => h)
  case F =>
    intro w mg fa h KX G hmg
    refine' LG.all_mk KX G hmg ?a1 ?l1 ?c1 ?k1 ?a2 ?l2 ?c2 ?k2 ?a3 ?l3 ?c3 ?k3 ?a4 ?l4 ?c4 ?k4 ?a5 ?l5 ?c5 ?k5 ?a6 ?l6 ?c6 ?k6 ?a7 ?l7 ?c7 ?k7 ?a8 ?l8 ?c8 ?k8 ?a9 ?l9 ?c9 ?k9 ?a10 ?l10 ?c10 ?k10 ?a11 ?l11 ?c11 ?k11 ?a12 ?l12 ?c12 ?k12 ?a13 ?l13 ?c13 ?k13 ?a14 ?l14 ?c14 ?k14 ?a15 ?l15 ?c15 ?k15 ?a16 ?l16 ?c16 ?k16 ?a17 ?l17 ?c17 ?k17 ?a18 ?l18 ?c18 ?k18 ?a19 ?l19 ?c19 ?k19 ?a20 ?l20 ?c20 ?k20 ?a21 ?l21 ?c21 ?k21 ?a22 ?l22 ?c22 ?k22 ?a23 ?l23 ?c23 ?k23 ?a24 ?l24 ?c24 ?k24 ?a25 ?l25 ?c25 ?k25 ?a26 ?l26 ?c26 ?k26 ?a27 ?l27 ?c27 ?k27 ?a28 ?l28 ?c28 ?k28 ?a29 ?l29 ?c29 ?k29 ?a30 ?l30 ?c30 ?k30 ?a31 ?l31 ?c31 ?k31 ?a32 ?l32 ?c32 ?k32 ?z1 ?z2 ?z3 ?z4 ?z5 ?z6 ?z7 ?z8 ?z9 ?z10 ?z11 ?z12 ?z13 ?z14 ?z15 ?z16 ?z17 ?z18
    (case a1 => k_is); (case l1 => k_is); (case c1 => k_is); (case k1 => k_is); (case a2 => k_is); (case l2 => k_is); (case c2 => k_is); (case k2 => k_is); (case a3 => k_is); (case l3 => k_is); (case c3 => k_is); (case k3 => k_is); (case a4 => k_is); (case l4 => k_is); (case c4 => k_is); (case k4 => k_is); (case a5 => k_is); (case l5 => k_is); (case c5 => k_is); (case k5 => k_is); (case a6 => k_is); (case l6 => k_is); (case c6 => k_is); (case k6 => k_is); (case a7 => k_is); (case l7 => k_is); (case c7 => k_is); (case k7 => k_is); (case a8 => k_is); (case l8 => k_is); (case c8 => k_is); (case k8 => k_is); (case a9 => k_is); (case l9 => k_is); (case c9 => k_is); (case k9 => k_is); (case a10 => k_is); (case l10 => k_is); (case c10 => k_is); (case k10 => k_is); (case a11 => k_is); (case l11 => k_is); (case c11 => k_is); (case k11 => k_is); (case a12 => k_is); (case l12 => k_is); (case c12 => k_is); (case k12 => k_is); (case a13 => k_is); (case l13 => k_is); (case c13 => k_is); (case k13 => k_is); (case a14 => k_is); (case l14 => k_is); (case c14 => k_is); (case k14 => k_is); (case a15 => k_is); (case l15 => k_is); (case c15 => k_is); (case k15 => k_is); (case a16 => k_is); (case l16 => k_is); (case c16 => k_is); (case k16 => k_is); (case a17 => k_is); (case l17 => k_is); (case c17 => k_is); (case k17 => k_is); (case a18 => k_is); (case l18 => k_is); (case c18 => k_is); (case k18 => k_is); (case a19 => k_is); (case l19 => k_is); (case c19 => k_is); (case k19 => k_is); (case a20 => k_is); (case l20 => k_is); (case c20 => k_is); (case k20 => k_is); (case a21 => k_is); (case l21 => k_is); (case c21 => k_is); (case k21 => k_is); (case a22 => k_is); (case l22 => k_is); (case c22 => k_is); (case k22 => k_is); (case a23 => k_is); (case l23 => k_is); (case c23 => k_is); (case k23 => k_is); (case a24 => k_is); (case l24 => k_is); (case c24 => k_is); (case k24 => k_is); (case a25 => k_is); (case l25 => k_is); (case c25 => k_is); (case k25 => k_is); (case a26 => k_is); (case l26 => k_is); (case c26 => k_is); (case k26 => k_is); (case a27 => k_is); (case l27 => k_is); (case c27 => k_is); (case k27 => k_is); (case a28 => k_is); (case l28 => k_is); (case c28 => k_is); (case k28 => k_is); (case a29 => k_is); (case l29 => k_is); (case c29 => k_is); (case k29 => k_is); (case a30 => k_is); (case l30 => k_is); (case c30 => k_is); (case k30 => k_is); (case a31 => k_is); (case l31 => k_is); (case c31 => k_is); (case k31 => k_is); (case a32 => k_is); (case l32 => k_is); (case c32 => k_is); (case k32 => k_is); (case z1 => k_is); (case z2 => k_is); (case z3 => k_is); (case z4 => k_is); (case z5 => k_is); (case z6 => k_is); (case z7 => k_is); (case z8 => k_is); (case z9 => k_is); (case z10 => k_is); (case z11 => k_is); (case z12 => k_is); (case z13 => k_is); (case z14 => k_is); (case z15 => k_is); (case z16 => k_is); (case z17 => k_is); (case z18 => k_is)
