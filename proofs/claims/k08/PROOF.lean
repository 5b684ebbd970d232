import PyProof.Rows.All
import HandS.List
import PyProof.SliceList
import KE.SortData
import HandS.Lambda
import KE.KDflt
import HandS.ExcCtx
import HandS.Comp
import HandS.ForMost
import HandS.TupAny
import HandS.TupMul
import HandS.Wide
import HandS.Zip
import HandS.IsInst
import HandS.Style
import HandS.Defaults
import HandS.Iter
import KE.GoesMore
import PyProof.WalkInts
import PyProof.Rows.SumAny
import PyProof.EnumMake
import HandS.SortInts
import HandS.Deep
import HandS.ExcOwn
import HandS.HeadHook1
import HandS.HotCalls
import HandS.Text
import PyProof.Rows.TupIter
import HandS.ExcIs
import HandS.Head0
import HandS.Head1
import HandS.Head2
import HandS.HeadEnd
import HandS.HeadHook2
import KE.KStateDown
import Lean
import HandS.HeadHook4
import HandS.HeadWalk
import HandS.NestedK
import PySem.Challenge.RW_walkstrides_k08_whole_shortening_deeds
set_option Elab.async false
set_option linter.all false
set_option autoImplicit false
set_option maxRecDepth 100000
set_option maxHeartbeats 4000000
namespace Mn
open PySem

/-! ## values -/
inductive D where
  | non | bl (b : Bool) | int (i : Int) | str (s : Str) | tup (l : List D) | lst (l : List D) | fn (i : Nat) | cup | scr (l : List Int)

instance : Inhabited D := ⟨.non⟩
abbrev Cup := Int × Int
/-- an answer: a value and the state of the draws behind it; an error; nothing told -/
inductive R (α : Type) where
  | ok (a : α) (c : Cup) | exc (k : Nat) (a : List D) (c : Cup) | bad
/-- on with an answer; an error ends in nothing told -/
def R.bnd {α β : Type} (r : R α) (f : α → Cup → R β) : R β := match r with
  | .ok a c => f a c
  | .exc _ _ _ => .bad
  | .bad => .bad
/-- on with an answer; an error goes out -/
def R.bnx {α β : Type} (r : R α) (f : α → Cup → R β) : R β := match r with
  | .ok a c => f a c
  | .exc k a c => .exc k a c
  | .bad => .bad
/-- a def that tries a call: r behind an answer, h behind an error -/
def lamR {α : Type} (h : List D) (r : D) (x : R α) : R D := match x with
  | .ok _ c => .ok r c
  | .exc k _ c => (match h[k]? with
    | some d => .ok d c
    | none => .bad)
  | .bad => .bad
def R.opt {α : Type} (o : Option α) (c : Cup) : R α := match o with
  | some a => .ok a c
  | none => .bad

/-! ### == -/
mutual
/-- data that == tells: nothing but none, bools, ints, short texts, lists, tuples -/
def D.plain : D → Bool
  | .non => true
  | .bl _ => true
  | .int _ => true
  | .str s => PyData.strOk s
  | .tup l => D.plains l
  | .lst l => D.plains l
  | .fn _ => false
  | .cup => false
  | .scr _ => false
def D.plains : List D → Bool
  | [] => true
  | x :: xs => D.plain x && D.plains xs
end
mutual
def D.deep : D → Nat
  | .tup l => D.deeps l + 1
  | .lst l => D.deeps l + 1
  | _ => 0
def D.deeps : List D → Nat
  | [] => 0
  | x :: xs => max (D.deep x) (D.deeps xs)
end
mutual
def D.eqv : D → D → Bool
  | .non, b => match b with | .non => true | _ => false
  | .bl a, b => match b with | .bl b => a == b | .int j => (if a then 1 else 0) == j | _ => false
  | .int i, b => match b with | .int j => i == j | .bl b => i == (if b then 1 else 0) | _ => false
  | .str x, b => match b with | .str y => x == y | _ => false
  | .tup xs, b => match b with | .tup ys => D.eqvs xs ys | _ => false
  | .lst xs, b => match b with | .lst ys => D.eqvs xs ys | _ => false
  | .fn _, _ => false
  | .cup, _ => false
  | .scr _, _ => false
def D.eqvs : List D → List D → Bool
  | [], b => match b with | [] => true | _ :: _ => false
  | x :: xs, b => match b with | [] => false | y :: ys => D.eqv x y && D.eqvs xs ys
end
def D.fits (d : D) : Bool := d.plain && decide (d.deep ≤ 64)
/- no list anywhere within -/
mutual
def D.nl : D → Bool
  | .tup l => D.nls l
  | .lst _ => false
  | .cup => true
  | _ => true
def D.nls : List D → Bool
  | [] => true
  | x :: xs => D.nl x && D.nls xs
end
def D.flat : D → Bool
  | .non => true
  | .bl _ => true
  | .int _ => true
  | .str _ => true
  | _ => false

/-! ## the compact language -/
inductive Bop where | add | sub | mul | fdiv | mod | pow
  deriving DecidableEq
inductive Cop where | eq | ne | lt | le | gt | ge | is | isn | inn | nin
  deriving DecidableEq
inductive Bi where | len | int | abs | sum | max | min | all | any | tuple | list | str | sorted
  deriving DecidableEq
inductive Ty where | int | bool | str | tuple | list
  deriving DecidableEq
mutual
inductive Tg where
  | n (i : Nat) | t (ts : Tgs)
inductive Tgs where
  | nil | cons (t : Tg) (ts : Tgs)
end
mutual
inductive Ex where
  | v (i : Nat)
  | int (i : Int) | str (s : Str) | bl (b : Bool) | non
  | cst (x : Str) (i : Int)
  | css (x z : Str)
  | bin (o : Bop) (a b : Ex) | neg (a : Ex)
  | cmp (o : Cop) (a b : Ex) | cmp2 (o p : Cop) (a b c : Ex)
  | and (es : Exs) | or (es : Exs) | not (a : Ex)
  | ife (t a b : Ex)
  | tup (es : Exs) | lst (es : Exs)
  | ix (a b : Ex)
  | sl (a : Ex) (lo hi st : Eo)
  | call (f : Nat) (es : Exs)
  | bi (b : Bi) (es : Exs)
  | isi (a : Ex) (t : Ty)
  | lc (e : Ex) (own : List (Str × Nat)) (g : Tg) (it : Src) (i : Eo)
  | lc2 (e : Ex) (own own1 : List (Str × Nat)) (g : Tg) (it : Src) (i : Eo) (g1 : Tg) (it1 : Src) (i1 : Eo)
  | fv (f : Nat)
  | cv (i : Nat) (es : Exs)
  | lam (x : Str) (h : List D) (r : D) (e : Ex)
inductive Exs where
  | nil | cons (e : Ex) (es : Exs)
inductive Eo where
  | no | so (e : Ex)
inductive Src where
  | ex (e : Ex) | rng (es : Exs) | zip (a b : Ex) | enum (a : Ex)
end
def Exs.len : Exs → Nat
  | .nil => 0
  | .cons _ es => es.len + 1

/-! ## what operations do -/
def lineN : Nat := 16777216
def binD : Bop → D → D → Option D
  | .add, .int i, .int j => some (.int (i + j))
  | .add, .str a, .str b => if a.length + b.length ≤ lineN then some (.str (a ++ b)) else none
  | .add, .lst a, .lst b => if a.length + b.length ≤ lineN then some (.lst (a ++ b)) else none
  | .add, .tup a, .tup b => if a.length + b.length ≤ lineN then some (.tup (a ++ b)) else none
  | .sub, .int i, .int j => some (.int (i - j))
  | .mul, .int i, .int j => if (i.natAbs < 18446744073709551616 ∨ j.natAbs < 18446744073709551616) then some (.int (i * j)) else none
  | .mul, .lst a, .int j => if j.natAbs < 16777217 ∧ a.length * j.toNat ≤ lineN then some (.lst (List.replicate j.toNat a).flatten) else none
  | .mul, .tup a, .int j => if 2 ≤ j ∧ j < 16777217 ∧ a.isEmpty = false ∧ a.length * j.toNat ≤ lineN then some (.tup (List.replicate j.toNat a).flatten) else none
  | .fdiv, .int i, .int j => if 0 < j ∧ j.natAbs.log2 < 9000 then some (.int (i / j)) else none
  | .mod, .int i, .int j => if 0 < j then some (.int (i % j)) else none
  | .pow, .int i, .int j => if 0 ≤ j ∧ j ≤ 1000000 ∧ i.natAbs < 18446744073709551616 then some (.int (i ^ j.toNat)) else none
  | _, _, _ => none
def negD : D → Option D
  | .int i => some (.int (-i))
  | _ => none
def inD (x : D) (ys : List D) : Option Bool := if x.flat && ys.all D.flat then some (ys.any fun y => D.eqv y x) else if x.fits && (D.lst ys).fits then some (ys.any fun y => D.eqv y x) else none
def D.isNon : D → Bool
  | .non => true
  | _ => false
def cmpD : Cop → D → D → Option Bool
  | .eq, a, b => if a.fits && b.fits then some (a.eqv b) else none
  | .ne, a, b => if a.fits && b.fits then some (!a.eqv b) else none
  | .lt, .int i, .int j => some (decide (i < j))
  | .le, .int i, .int j => some (decide (i ≤ j))
  | .gt, .int i, .int j => some (decide (j < i))
  | .ge, .int i, .int j => some (decide (j ≤ i))
  | .is, .bl a, .bl b => some (decide (a = b))
  | .is, a, .non => some a.isNon
  | .isn, .bl a, .bl b => some (!decide (a = b))
  | .isn, a, .non => some (!a.isNon)
  | .inn, a, .tup l => inD a l
  | .inn, a, .lst l => inD a l
  | .nin, a, .tup l => (inD a l).map not
  | .nin, a, .lst l => (inD a l).map not
  | _, _, _ => none
/-- the place that an index of any sign means -/
def ixN (n : Nat) (i : Int) : Option Nat := L2.ixN n i
def atI {α : Type} (xs : List α) (i : Int) : Option α := (ixN xs.length i).bind fun j => xs[j]?
def ixD (c : Cup) : D → D → Option D
  | .tup l, .int i => atI l i
  | .lst l, .int i => atI l i
  | .cup, .int i => if i = 0 then some (.int c.1) else if i = 1 then some (.int c.2) else none
  | _, _ => none
def cutL {α : Type} (xs : List α) (lo hi : Option Int) : List α := (xs.drop (HT.sIx xs.length 0 lo)).take (HT.sIx xs.length xs.length hi - HT.sIx xs.length 0 lo)
def partD : Option D → Option (Option Int)
  | none => some none
  | some (.int i) => some (some i)
  | _ => none
/-- the places that a slice with a step takes: of a tuple; of a list -/
def idxT (n : Nat) (lo hi : Option Int) (k : Int) : List Nat := (List.range (Builtin.Slice.slicePlaces (Builtin.Slice.sliceAdjust lo hi k (n : Int)).1 (Builtin.Slice.sliceAdjust lo hi k (n : Int)).2 k)).map fun (m : Nat) => ((Builtin.Slice.sliceAdjust lo hi k (n : Int)).1 + (m : Int) * k).toNat
def idxL (n : Nat) (lo hi : Option Int) (k : Int) : List Nat := sliceRange (sliceBounds lo hi (some k) n).1 (sliceBounds lo hi (some k) n).2.1 (sliceBounds lo hi (some k) n).2.2
def pickI {α : Type} (xs : List α) (is : List Nat) : List α := is.filterMap fun i => xs[i]?
def slS (x : D) (l h : Option Int) (k : Int) : Option D := match x with
  | .tup xs => if k ≠ 0 ∧ k ≠ 1 ∧ (idxT xs.length l h k).length ≤ lineN then some (.tup (pickI xs (idxT xs.length l h k))) else none
  | .lst xs => if k ≠ 0 ∧ (idxL xs.length l h k).length ≤ lineN then some (.lst (pickI xs (idxL xs.length l h k))) else none
  | _ => none
def slD (x : D) (lo hi st : Option D) : Option D := match partD lo, partD hi, st with
  | some l, some h, none => (match x with
    | .tup xs => some (.tup (cutL xs l h))
    | .lst xs => some (.lst (cutL xs l h))
    | _ => none)
  | some l, some h, some (.int k) => slS x l h k
  | _, _, _ => none
def intsD : List D → Option (List Int)
  | [] => some []
  | .int i :: r => (intsD r).map (i :: ·)
  | _ :: _ => none
def blsD : List D → Option (List Bool)
  | [] => some []
  | .bl i :: r => (blsD r).map (i :: ·)
  | _ :: _ => none
def maxL : Int → List Int → Int
  | m, [] => m
  | m, x :: r => maxL (if m < x then x else m) r
def minL : Int → List Int → Int
  | m, [] => m
  | m, x :: r => minL (if x < m then x else m) r
mutual
def D.py : D → PyData
  | .non => .none
  | .bl b => .bool b
  | .int i => .int i
  | .str s => .str s
  | .tup l => .tuple (D.pys l)
  | .lst l => .list (D.pys l)
  | .fn _ => .none
  | .cup => .none
  | .scr _ => .none
def D.pys : List D → List PyData
  | [] => []
  | x :: xs => D.py x :: D.pys xs
end
def tupNE : D → Bool
  | .tup (_ :: _) => true
  | _ => false
def notNT : D → Bool
  | .non => false
  | .tup _ => false
  | .fn _ => false
  | .cup => false
  | .scr _ => false
  | _ => true
/-- a list that sorted() tells -/
def srtOk (l : List D) : Bool := D.plains l && (decide (D.deeps l ≤ 60) && (decide (l.length ≤ lineN) && ((l.all fun d => l.all fun e => PySem.W.alike d.py e.py) && (l.all tupNE || l.all notNT))))
def srtD (l : List D) : List D := l.mergeSort (PySem.W.dataLe false D.py)
def biD : Bi → List D → Option D
  | .len, [.tup l] => some (.int l.length)
  | .len, [.lst l] => some (.int l.length)
  | .len, [.str s] => if s.length ≤ lineN then some (.int s.length) else none
  | .int, [.int i] => some (.int i)
  | .int, [.bl b] => some (.int (if b then 1 else 0))
  | .abs, [.int i] => some (.int (if i < 0 then -i else i))
  | .sum, [.lst l] => (intsD l).map fun ns => .int ns.sum
  | .max, [.lst l] => (match intsD l with | some (n :: ns) => some (.int (maxL n ns)) | _ => none)
  | .min, [.lst l] => (match intsD l with | some (n :: ns) => some (.int (minL n ns)) | _ => none)
  | .max, [.int i, .int j] => some (.int (if j > i then j else i))
  | .min, [.int i, .int j] => some (.int (if j < i then j else i))
  | .all, [.lst l] => (blsD l).map fun bs => .bl (bs.all id)
  | .any, [.lst l] => (blsD l).map fun bs => .bl (bs.any id)
  | .tuple, [.lst l] => some (.tup l)
  | .tuple, [.tup l] => some (.tup l)
  | .list, [.lst l] => some (.lst l)
  | .list, [.scr l] => some (.lst (l.map .int))
  | .list, [.tup l] => some (.lst l)
  | .str, [.int i] => if i.natAbs.log2 < 1920 then some (.str (toString i)) else none
  | .sorted, [.lst l] => if l.length < 2 then some (.lst l) else if srtOk l then some (.lst (srtD l)) else none
  | .sum, [.tup l] => (intsD l).map fun ns => .int ns.sum
  | .max, [.tup l] => (match intsD l with | some (n :: ns) => some (.int (maxL n ns)) | _ => none)
  | .min, [.tup l] => (match intsD l with | some (n :: ns) => some (.int (minL n ns)) | _ => none)
  | _, _ => none
def isD : D → Ty → Option Bool
  | .cup, _ => none
  | .scr _, _ => none
  | .fn _, _ => none
  | .non, _ => some false
  | .bl _, .bool => some true
  | .bl _, .int => some true
  | .int _, .int => some true
  | .str _, .str => some true
  | .tup _, .tuple => some true
  | .lst _, .list => some true
  | _, _ => some false

/-! ## expressions -/
abbrev Rho := List (Option D)
mutual
def asg : Tg → D → Rho → Option Rho
  | .n i, d, ρ => some (ρ.set i (some d))
  | .t ts, d, ρ => match d with
    | .tup l => asgs ts l ρ
    | _ => none
def asgs : Tgs → List D → Rho → Option Rho
  | .nil, l, ρ => match l with
    | [] => some ρ
    | _ :: _ => none
  | .cons t ts, l, ρ => match l with
    | [] => none
    | d :: r => match asg t d ρ with
      | some ρ' => asgs ts r ρ'
      | none => none
end
def wipe (own : List (Str × Nat)) (ρ : Rho) : Rho := match own with
  | [] => ρ
  | p :: r => (wipe r ρ).set p.2 none
def lcL (f : D → Cup → R (Option D)) : List D → Cup → R (List D)
  | [], c => .ok [] c
  | x :: xs, c => (f x c).bnd fun o c1 => (lcL f xs c1).bnd fun r c2 => .ok (match o with | some y => y :: r | none => r) c2
def lcOne (o : Option Rho) (t : Rho → Cup → R Bool) (f : Rho → Cup → R D) (c : Cup) : R (Option D) := match o with
  | none => .bad
  | some ρ' => (t ρ' c).bnd fun k c3 => if k then (f ρ' c3).bnd fun y c4 => .ok (some y) c4 else .ok none c3
/-- a comprehension of two clauses: the lists of the first one's turns, one behind another -/
def lcF (f : D → Cup → R (List D)) : List D → Cup → R (List D)
  | [], c => .ok [] c
  | x :: xs, c => (f x c).bnd fun o c1 => (lcF f xs c1).bnd fun r c2 => .ok (o ++ r) c2
def lcIn (o : Option Rho) (t : Rho → Cup → R Bool) (f : Rho → Cup → R (List D)) (c : Cup) : R (List D) := match o with
  | none => .bad
  | some ρ' => (t ρ' c).bnd fun k c3 => if k then f ρ' c3 else .ok [] c3
def rngL (lo : Int) : Nat → List D
  | 0 => []
  | n + 1 => .int lo :: rngL (lo + 1) n
def rngC (lo st : Int) : Nat → List D
  | 0 => []
  | n + 1 => .int lo :: rngC (lo + st) st n
def small62 (i : Int) : Bool := decide (-4611686018427387904 ≤ i ∧ i < 4611686018427387904)
def rngD : List D → Option (List D)
  | [.int j] => if small62 j ∧ j ≤ lineN then some (rngL 0 j.toNat) else none
  | [.int i, .int j] => if small62 i ∧ small62 j ∧ j - i ≤ lineN then some (rngL i (j - i).toNat) else none
  | _ => none
def seqD : D → Option (List D)
  | .tup l => some l
  | .lst l => some l
  | _ => none
def zipD : D → D → Option (List D)
  | .tup a, .tup b => some ((a.zip b).map fun p => .tup [p.1, p.2])
  | .lst a, .lst b => some ((a.zip b).map fun p => .tup [p.1, p.2])
  | _, _ => none
def enumL : Int → List D → List D
  | _, [] => []
  | i, x :: r => .tup [.int i, x] :: enumL (i + 1) r
def enumD : D → Option (List D)
  | .lst l => some (enumL 0 l)
  | .tup l => some (enumL 0 l)
  | _ => none
def tBl : D → Option Bool
  | .bl b => some b
  | _ => none
section
variable (Γ : Nat → List D → Cup → R D)
mutual
def ev (ρ : Rho) : Ex → Cup → R D
  | .v i, c => R.opt (ρ[i]?.bind id) c
  | .int i, c => .ok (.int i) c
  | .str s, c => .ok (.str s) c
  | .bl b, c => .ok (.bl b) c
  | .non, c => .ok .non c
  | .cst _ i, c => .ok (.int i) c
  | .css _ z, c => .ok (.str z) c
  | .bin o a b, c => (ev ρ a c).bnd fun x c1 => (ev ρ b c1).bnd fun y c2 => R.opt (binD o x y) c2
  | .neg a, c => (ev ρ a c).bnd fun x c1 => R.opt (negD x) c1
  | .cmp o a b, c => (ev ρ a c).bnd fun x c1 => (ev ρ b c1).bnd fun y c2 => R.opt ((cmpD o x y).map .bl) c2
  | .cmp2 o p a b e, c => (ev ρ a c).bnd fun x c1 => (ev ρ b c1).bnd fun y c2 => (R.opt (cmpD o x y) c2).bnd fun k c3 =>
      if k then (ev ρ e c3).bnd fun z c4 => R.opt ((cmpD p y z).map .bl) c4 else .ok (.bl false) c3
  | .and es, c => evAnd ρ es c
  | .or es, c => evOr ρ es c
  | .not a, c => (ev ρ a c).bnd fun x c1 => (R.opt (tBl x) c1).bnd fun k c2 => .ok (.bl (!k)) c2
  | .ife t a b, c => (ev ρ t c).bnd fun x c1 => (R.opt (tBl x) c1).bnd fun k c2 => (if k then ev ρ a c2 else ev ρ b c2).bnd .ok
  | .tup es, c => (evs ρ es c).bnd fun ds c1 => .ok (.tup ds) c1
  | .lst es, c => (evs ρ es c).bnd fun ds c1 => .ok (.lst ds) c1
  | .ix a b, c => (ev ρ a c).bnd fun x c1 => (ev ρ b c1).bnd fun y c2 => R.opt (ixD c2 x y) c2
  | .sl a lo hi st, c => (ev ρ a c).bnd fun x c1 => (evo ρ lo c1).bnd fun l c2 => (evo ρ hi c2).bnd fun h c3 => (evo ρ st c3).bnd fun s c4 => R.opt (slD x l h s) c4
  | .call f es, c => (evs ρ es c).bnd fun ds c1 => Γ f ds c1
  | .bi b es, c => (evs ρ es c).bnd fun ds c1 => R.opt (biD b ds) c1
  | .isi a t, c => (ev ρ a c).bnd fun x c1 => R.opt ((isD x t).map .bl) c1
  | .lc e own g it i, c => (evi ρ it c).bnd fun ds c1 => (lcL (fun x c2 => lcOne (asg g x (wipe own ρ)) (fun ρ' => evt ρ' i) (fun ρ' => ev ρ' e) c2) ds c1).bnd fun r c2 => .ok (.lst r) c2
  | .lc2 e own own1 g it i g1 it1 i1, c => (evi ρ it c).bnd fun ds c1 => (lcF (fun x c2 => lcIn (asg g x (wipe own ρ)) (fun ρ' => evt ρ' i) (fun ρ' c3 => (evi ρ' it1 c3).bnd fun ds1 c4 => lcL (fun y c5 => lcOne (asg g1 y (wipe own1 ρ')) (fun ρ2 => evt ρ2 i1) (fun ρ2 => ev ρ2 e) c5) ds1 c4) c2) ds c1).bnd fun r c2 => if r.length ≤ lineN then .ok (.lst r) c2 else .bad
  | .fv f, c => .ok (.fn f) c
  | .cv i es, c => (R.opt (ρ[i]?.bind id) c).bnd fun x c1 => (evs ρ es c1).bnd fun ds c2 => match x with
    | .fn f => Γ f ds c2
    | _ => .bad
  | .lam _ h r e, c => lamR h r (ev ρ e c)
def evAnd (ρ : Rho) : Exs → Cup → R D
  | .nil, _ => .bad
  | .cons e es, c => match es with
    | .nil => (ev ρ e c).bnd .ok
    | .cons _ _ => (ev ρ e c).bnd fun x c1 => (R.opt (tBl x) c1).bnd fun k c2 => if k then evAnd ρ es c2 else .ok (.bl false) c2
def evOr (ρ : Rho) : Exs → Cup → R D
  | .nil, _ => .bad
  | .cons e es, c => match es with
    | .nil => (ev ρ e c).bnd .ok
    | .cons _ _ => (ev ρ e c).bnd fun x c1 => (R.opt (tBl x) c1).bnd fun k c2 => if k then .ok (.bl true) c2 else evOr ρ es c2
def evs (ρ : Rho) : Exs → Cup → R (List D)
  | .nil, c => .ok [] c
  | .cons e es, c => (ev ρ e c).bnd fun x c1 => (evs ρ es c1).bnd fun r c2 => .ok (x :: r) c2
def evo (ρ : Rho) : Eo → Cup → R (Option D)
  | .no, c => .ok none c
  | .so e, c => (ev ρ e c).bnd fun x c1 => .ok (some x) c1
def evt (ρ : Rho) : Eo → Cup → R Bool
  | .no, c => .ok true c
  | .so e, c => (ev ρ e c).bnd fun x c1 => R.opt (tBl x) c1
def evi (ρ : Rho) : Src → Cup → R (List D)
  | .ex e, c => (ev ρ e c).bnd fun x c1 => R.opt (seqD x) c1
  | .rng es, c => (evs ρ es c).bnd fun ds c1 => R.opt (rngD ds) c1
  | .zip a b, c => (ev ρ a c).bnd fun x c1 => (ev ρ b c1).bnd fun y c2 => R.opt (zipD x y) c2
  | .enum a, c => (ev ρ a c).bnd fun x c1 => R.opt (enumD x) c1
end
end

/-! ## statements -/
/-- a local name: not bound; a value; a list that this name alone holds -/
inductive Sl where
  | u | f (d : D) | o (l : List D)
abbrev Env := List Sl
def Sl.see : Sl → Option D
  | .u => none
  | .f d => some d
  | .o l => some (.lst l)
def Sl.seeAt (b : Bool) : Sl → Option D
  | .u => none
  | .f d => some d
  | .o l => if b then some (.lst l) else none
def Sl.frzAt (b : Bool) : Sl → Sl
  | .o l => if b then .f (.lst l) else .o l
  | s => s
/-- what an expression sees: the lists of its own only where it names them -/
def seeFrom (hs : List Nat) : Nat → Env → Rho
  | _, [] => []
  | i, s :: r => s.seeAt (hs.contains i) :: seeFrom hs (i + 1) r
def see (hs : List Nat) (env : Env) : Rho := seeFrom hs 0 env
def frzFrom (hs : List Nat) : Nat → Env → Env
  | _, [] => []
  | i, s :: r => s.frzAt (hs.contains i) :: frzFrom hs (i + 1) r
def frz (hs : List Nat) (env : Env) : Env := frzFrom hs 0 env
mutual
def asgS : Tg → D → Env → Option Env
  | .n i, d, ρ => some (ρ.set i (.f d))
  | .t ts, d, ρ => match d with
    | .tup l => asgSs ts l ρ
    | _ => none
def asgSs : Tgs → List D → Env → Option Env
  | .nil, l, ρ => match l with
    | [] => some ρ
    | _ :: _ => none
  | .cons t ts, l, ρ => match l with
    | [] => none
    | d :: r => match asgS t d ρ with
      | some ρ' => asgSs ts r ρ'
      | none => none
end
/-- an expression whose list is new -/
def fresh : Ex → Bool
  | .lst _ => true
  | .lc _ _ _ _ _ => true
  | .lc2 _ _ _ _ _ _ _ _ _ => true
  | .bin .add _ _ => true
  | .bin .mul _ _ => true
  | .sl _ _ _ _ => true
  | .bi .list _ => true
  | .bi .sorted _ => true
  | _ => false
/-- what is walked is no list of anyone's -/
def itAny : Src → Bool
  | .rng _ => true
  | _ => false
/-- nothing of what the names hold is kept by the value -/
def safe (fr : Bool) : D → Bool
  | .lst l => fr && D.nls l
  | d => d.nl
def newSl (fr : Bool) : D → Sl
  | .lst l => if fr then .o l else .f (.lst l)
  | d => .f d
mutual
inductive St where
  | set (i : Nat) (e : Ex) (hs : List Nat)
  | par (is : List Nat) (es : Exs) (hs : List Nat)
  | tas (g : Tg) (e : Ex) (hs : List Nat)
  | app (i : Nat) (e : Ex) (hs : List Nat)
  | ext (i : Nat) (e : Ex) (hs : List Nat)
  | six (i : Nat) (j e : Ex) (hs : List Nat)
  | cup (i : Nat) (k : Int) (e : Ex) (hs : List Nat)
  | drop (e : Ex) (hs : List Nat)
  | ret (e : Ex) (hs : List Nat)
  | ife (t : Ex) (hs : List Nat) (a b : Sts)
  | for (g : Tg) (it : Src) (hs : List Nat) (b : Sts)
  | while (t : Ex) (hs : List Nat) (b : Sts)
  | brk | cnt | pass
  | raise (k : Nat)
inductive Sts where
  | nil | cons (s : St) (ss : Sts)
end
inductive Fl where
  | nx | ret (d : D) | bk | ct
def parE (fr : List Bool) : List Nat → List D → Env → Option Env
  | [], l, env => match l with
    | [] => some env
    | _ :: _ => none
  | i :: is, l, env => match l with
    | [] => none
    | d :: r => parE fr.tail is r (env.set i (newSl (fr.headD false) d))
def freshs : Exs → List Bool
  | .nil => []
  | .cons e es => fresh e :: freshs es
def safes : List Bool → List D → Bool
  | _, [] => true
  | fr, d :: r => safe (fr.headD false) d && safes fr.tail r
def forL (f : D → Env → Cup → R (Fl × Env)) : List D → Env → Cup → R (Fl × Env)
  | [], env, c => .ok (.nx, env) c
  | x :: xs, env, c => (f x env c).bnd fun r c1 => match r.1 with
    | .nx => forL f xs r.2 c1
    | .ct => forL f xs r.2 c1
    | .bk => .ok (.nx, r.2) c1
    | .ret d => .ok (.ret d, r.2) c1
def whL (t : Env → Cup → R Bool) (f : Env → Cup → R (Fl × Env)) : Nat → Env → Cup → R (Fl × Env)
  | 0, _, _ => .bad
  | n + 1, env, c => (t env c).bnd fun k c1 => if k then (f env c1).bnd fun r c2 => (match r.1 with
    | .nx => whL t f n r.2 c2
    | .ct => whL t f n r.2 c2
    | .bk => .ok (.nx, r.2) c2
    | .ret d => .ok (.ret d, r.2) c2) else .ok (.nx, env) c1
def wFuel : Nat := 1000000
section
variable (Γ : Nat → List D → Cup → R D)
mutual
def ex1 : St → Env → Cup → R (Fl × Env)
  | .set i e hs, env, c => (ev Γ (see hs env) e c).bnx fun d c1 => .ok (.nx, (if safe (fresh e) d then env else frz hs env).set i (newSl (fresh e) d)) c1
  | .par is es hs, env, c => (evs Γ (see hs env) es c).bnd fun ds c1 => (R.opt (parE (freshs es) is ds (if safes (freshs es) ds then env else frz hs env)) c1).bnd fun env' c2 => .ok (.nx, env') c2
  | .tas g e hs, env, c => (ev Γ (see hs env) e c).bnd fun d c1 => (R.opt (asgS g d (if safe false d then env else frz hs env)) c1).bnd fun env' c2 => .ok (.nx, env') c2
  | .app i e hs, env, c => (ev Γ (see hs env) e c).bnd fun d c1 => let env' := if safe (fresh e) d then env else frz hs env
      match env'[i]? with
      | some (.o l) => if l.length < lineN then .ok (.nx, env'.set i (.o (l ++ [d]))) c1 else .bad
      | _ => .bad
  | .ext i e hs, env, c => (ev Γ (see hs env) e c).bnd fun d c1 => let env' := if safe (fresh e) d then env else frz hs env
      match env'[i]?, d with
      | some (.o l), .lst l' => if l.length + l'.length ≤ lineN then .ok (.nx, env'.set i (.o (l ++ l'))) c1 else .bad
      | _, _ => .bad
  | .six i j e hs, env, c => (ev Γ (see hs env) e c).bnd fun d c1 => let env' := if safe (fresh e) d then env else frz hs env
      (ev Γ (see hs env') j c1).bnd fun k c2 => match env'[i]?, k with
        | some (.o l), .int k => (match ixN l.length k with
          | some m => .ok (.nx, env'.set i (.o (l.set m d))) c2
          | none => .bad)
        | _, _ => .bad
  | .cup i k e hs, env, c => (ev Γ (see hs env) e c).bnd fun d c1 => match env[i]?, d with
      | some (.f .cup), .int n => if k = 0 then .ok (.nx, env) (n, c1.2) else if k = 1 then .ok (.nx, env) (c1.1, n) else .bad
      | _, _ => .bad
  | .drop e hs, env, c => (ev Γ (see hs env) e c).bnx fun d c1 => .ok (.nx, env) c1
  | .ret e hs, env, c => (ev Γ (see hs env) e c).bnx fun d c1 => .ok (.ret d, env) c1
  | .ife t hs a b, env, c => (ev Γ (see hs env) t c).bnd fun x c1 => (R.opt (tBl x) c1).bnd fun k c2 => if k then exs a env c2 else exs b env c2
  | .for g it hs b, env, c => (evi Γ (see hs env) it c).bnd fun ds c1 => forL (fun x env c => (R.opt (asgS g x env) c).bnd fun env' c1 => exs b env' c1) ds (if itAny it then env else frz hs env) c1
  | .while t hs b, env, c => whL (fun env c => (ev Γ (see hs env) t c).bnd fun x c1 => R.opt (tBl x) c1) (exs b) wFuel env c
  | .brk, env, c => .ok (.bk, env) c
  | .cnt, env, c => .ok (.ct, env) c
  | .pass, env, c => .ok (.nx, env) c
  | .raise k, _, c => .exc k [] c
def exs : Sts → Env → Cup → R (Fl × Env)
  | .nil, env, c => .ok (.nx, env) c
  | .cons s ss, env, c => (ex1 s env c).bnx fun r c1 => match r.1 with
    | .nx => exs ss r.2 c1
    | .ret d => .ok (.ret d, r.2) c1
    | .bk => .ok (.bk, r.2) c1
    | .ct => .ok (.ct, r.2) c1
end
end
/-! ## defs -/
structure Fd where
  np : Nat
  N : List Str
  body : Sts
def entry (fd : Fd) (ds : List D) : Env := ds.map .f ++ List.replicate (fd.N.length - ds.length) .u
def runF (Γ : Nat → List D → Cup → R D) (fd : Fd) (ds : List D) (c : Cup) : R D :=
  if ds.length = fd.np then (exs Γ fd.body (entry fd ds) c).bnx fun r c1 => match r.1 with
    | .ret d => .ok d c1
    | .nx => .ok .non c1
    | .bk => .bad
    | .ct => .bad
  else .bad
def callN (defs : List Fd) : Nat → Nat → List D → Cup → R D
  | 0, _, _, _ => .bad
  | n + 1, f, ds, c => match defs[f]? with
    | none => .bad
    | some fd => runF (callN defs n) fd ds c
/-- a law's def: what stands ahead of the draws, the call that makes their state (its name's place), what stands behind -/
structure Lw where
  N : List Str
  pre : Sts
  i : Nat
  e : Ex
  post : Sts
def intP : D → Option (Int × Int)
  | .lst [.int a, .int b] => some (a, b)
  | _ => none
def slNl : Sl → Bool
  | .u => true
  | .f d => d.nl
  | .o _ => false
def runL (Γ : Nat → List D → Cup → R D) (l : Lw) (ns : List Int) : Option D :=
  match exs Γ l.pre (.f (.scr ns) :: List.replicate (l.N.length - 1) .u) (0, 0) with
  | .ok (.ret d, _) _ => some d
  | .ok (.nx, env) c => if env.all slNl then (match ev Γ (see [] env) l.e c with
      | .ok d _ => (match intP d with
        | some ab => (match exs Γ l.post (env.set l.i (.f .cup)) ab with
          | .ok (.ret d, _) _ => some d
          | _ => none)
        | none => none)
      | _ => none) else none
  | _ => none
end Mn

set_option maxRecDepth 100000
set_option maxHeartbeats 2000000
/-! ## a lambda with one parameter that has an integer as its default, handed to a def that tries a call -/
namespace LamD
open PySem PySem.Spec PyProof.Rows L2 LamX
/-- one parameter, an integer its default -/
abbrev ps1 (y0 : Str) (pp : Pos) (d : Int) (j : Nat) (dp : Pos) : Arguments := ⟨[], [⟨y0, none, pp⟩], none, [], [], none, [.Constant (.int d) j dp]⟩
theorem bind1 {y0 q : Str} {pp dp : Pos} {d : Int} {j : Nat} {body : Expr} {scope : Scope} {cl : List (Str × Addr)} {T : Addr} {doc pm cv ctv u : Value} {s : Shared} (h : s.heap.get? T = some (PySem.W.kdv_tup [u])) :
    BindsTo s (PySem.W.kdv_fn "<lambda>" q (ps1 y0 pp d j dp) (.expr body) scope cl (.ref T) doc pm cv ctv) ⟨[], []⟩ [(y0, u)] := by
  refine BindsTo.of_defaults rfl h rfl rfl ?_
  simp
/-- the parameters bs, captured names and globals -/
structure LamG (sc scope : Scope) (bs : List Str) : Prop where
  kind : scope.kind = .function
  co : scope.isCoroutine = false
  gen : scope.isGenerator = false
  own : ∀ y ∈ scope.names, y.2 ≠ .cell ∧ (y.2 = .local → y.1 ∈ bs)
  par : ∀ y ∈ bs, scope.names.lookup y = some .local
  free : ∀ y ∈ scope.names, y.2 = .free → sc.names.lookup y.1 = some .cell ∨ sc.names.lookup y.1 = some .free
def lamGB (sc scope : Scope) (bs : List Str) : Bool :=
  decide (scope.kind = .function) && (!scope.isCoroutine && (!scope.isGenerator && ((bs.all fun y => decide (scope.names.lookup y = some .local)) && scope.names.all fun y => !decide (y.2 = .cell) && ((!decide (y.2 = .local) || bs.contains y.1) && (!decide (y.2 = .free) || (decide (sc.names.lookup y.1 = some .cell) || decide (sc.names.lookup y.1 = some .free)))))))
theorem lamG_by {sc scope : Scope} {bs : List Str} (h : lamGB sc scope bs = true) : LamG sc scope bs := by
  unfold lamGB at h
  simp only [Bool.and_eq_true, Bool.or_eq_true, Bool.not_eq_true', decide_eq_true_eq, decide_eq_false_iff_not, List.all_eq_true, List.contains_iff_mem] at h
  obtain ⟨h1, h2, h3, h5, h4⟩ := h
  refine ⟨h1, h2, h3, fun y hy => ⟨(h4 y hy).1, fun e => ?_⟩, h5, fun y hy e => ?_⟩
  · rcases (h4 y hy).2.1 with z | z
    · exact absurd e z
    · exact z
  · rcases (h4 y hy).2.2 with z | z
    · exact absurd e z
    · exact z
theorem LamG.has {X : Cx} {scope : Scope} {bs : List Str} (L : LamG X.env.scope scope bs) (ok : X.Ok) : ∀ y ∈ scope.names, y.2 = .free → ∃ c, X.env.cells.lookup y.1 = some c := fun y hy e => by
  rcases L.free y hy e with k | k
  · exact ok.has _ (.inl k)
  · exact ok.has _ (.inr k)
section
variable {X : Cx} {pins : List (Addr × Obj)} {σ : L2.St} {H : Hp} {s : Shared}
/-- what the making of a lambda leaves: the lambda, its code object, and that its parameters are bound by a call -/
structure Made (X : Cx) (s' : Shared) (H1 : Hp) (params : Arguments) (body : Expr) (scope : Scope) (f c' : Addr) (bs : List Str) (dV doc pm ctv : Value) : Prop where
  f_ : s'.heap.get? f = some (PySem.W.kdv_obj "<lambda>" (X.env.qual ++ "<lambda>") params (.expr body) scope (cloFrom X.env.cells scope.names []) dV doc pm c' ctv)
  fn : H1 f = none
  fr : f ∉ frs X.stack
  co : H1 c' = some (CodeO c' (X.env.qual ++ "<lambda>"))
  bind : ∃ binds : List (Str × Value), (∀ y ∈ binds, y.1 ∈ bs) ∧ ∀ (HZ : Hp) (s1 : Shared), Un (frs X.stack) [] H1 HZ s'.heap s1.heap → BindsTo s1 (PySem.W.kdv_fn "<lambda>" (X.env.qual ++ "<lambda>") params (.expr body) scope (cloFrom X.env.cells scope.names []) dV doc pm (.ref c') ctv) ⟨[], []⟩ binds
theorem lam_make3 {T : List (Addr × Str)} {c P : Addr} {y0 : Str} {pp dp : Pos} {d : Int} {j : Nat} {body : Expr} {scope : Scope} {pos : Pos} {E : Value → Shared → Prop} {Q : Value → Shared → Prop} (I : Inv X pins σ H s) (TB : TabB X.base X.mg c P) (hcode : X.env.code = .ref c)
    (hm : (P, X.env.qual ++ "<lambda>") ∈ T) (hu : ∀ p ∈ T, p.1 = P → p.2 = X.env.qual ++ "<lambda>") (hT : Tabs T H) (hfree : ∀ y ∈ scope.names, y.2 = .free → ∃ c, X.env.cells.lookup y.1 = some c)
    (h : ∀ (f c' : Addr) (dV doc pm ctv : Value) (H1 : Hp) (s' : Shared), Inv X pins σ H1 s' → ExtN H H1 → Tabs T H1 → Made X s' H1 (ps1 y0 pp d j dp) body scope f c' [y0] dV doc pm ctv → Q (.ref f) s') :
    wpAny (model X.prog X.w) X.A (eval (.Lambda (ps1 y0 pp d j dp) body scope pos) X.env) Q E s := by
  refine PySem.W.kdv_lam rfl rfl (PySem.W.kdv_all1 ?_)
  refine thn ((pe_int (X := X) (i := d) (j := j) (pos := dp)).run pins s σ H (fun v H1 => v = .int d ∧ H1 = H) I ⟨rfl, rfl⟩) fun u s1 ⟨v, H1, I1, r1, q1⟩ => ?_
  obtain ⟨ev, eH⟩ := q1
  rw [eH] at I1
  clear ev eH
  refine PySem.W.kdv_all0 ?_
  rw [makeFunction_eq]
  simp only [List.zip_nil_right, List.filterMap_nil, List.isEmpty_nil, if_true, pure_bind, List.isEmpty_cons, Bool.false_eq_true, if_false]
  refine wpAny_bind (wpAny_newTextTuple ?_)
  obtain ⟨D, hD⟩ : ∃ D, D = s1.heap.objs.size := ⟨_, rfl⟩
  have I2 : Inv X pins σ H { s1 with heap := s1.heap.push (PySem.W.kdv_tup [u]) } := I1.kept fun b o e => Heap.get?_push_of_some _ e
  have dD : ({ s1 with heap := s1.heap.push (PySem.W.kdv_tup [u]) } : Shared).heap.get? D = some (PySem.W.kdv_tup [u]) := by
    rw [hD]
    exact Heap.get?_push_size _ rfl
  have nD : H D = none := by rw [hD]; exact I1.hok.fresh (Nat.le_refl _)
  have dfr : D ∉ frs X.stack := fun z => by
    rcases List.mem_cons.mp (I1.stkSub _ z) with e | e
    · have h1 := I1.lt
      rw [← e, hD] at h1
      exact Nat.lt_irrefl _ h1
    · exact I1.nofs (by rw [hD]; exact Nat.le_refl _) e
  have sD : ({ s1 with heap := s1.heap.push (PySem.W.kdv_tup [u]) } : Shared).heap.objs.size = D + 1 := by
    rw [hD]
    exact Heap.size_push _ _
  obtain ⟨ps, hP, ht, ha⟩ := hT _ hm
  have hPD : P ≠ D := ne_of_none hP nD
  rw [← hD]
  generalize ({ s1 with heap := s1.heap.push (PySem.W.kdv_tup [u]) } : Shared) = s2 at *
  have bP : s2.heap.BuiltinsAt X.mg P := TB.bm.keeps I2.bk
  have hP' : s2.heap.get? P = some { cls := .none, data := .fields ps } := I2.hok P _ hP
  have nofr : ∀ f, s2.heap.objs.size ≤ f → f ∉ frs X.stack := fun f hf z => by
    rcases List.mem_cons.mp (I2.stkSub _ z) with e | e
    · have h1 := I2.lt
      rw [← e] at h1
      exact Nat.lt_irrefl _ (Nat.lt_of_lt_of_le h1 hf)
    · exact I2.nofs hf e
  cases hc : codeAmong pos ps.toList with
  | none =>
    refine PySem.W.kdv_makeTail (mg := X.mg) (c := c) (P := P) (ps := ps) (closure_ok hfree) I2.ok.glob (I2.mod.glob.keeps I2.bk) hcode (TB.code.keeps I2.bk) hP' ht hc TB.gP bP fun c' ctv doc h' tk hx hge hlt hrec htb => ?_
    obtain ⟨c2, oc, vs, t, e2, hoc, hd, hv⟩ := hrec
    cases e2
    have hsz : s2.heap.objs.size ≤ h'.objs.size := Nat.le_trans hge (Nat.le_of_lt hlt)
    have nC : H c' = none := I2.hok.fresh hge
    have hDc : D ≠ c' := by
      rw [sD] at hge
      exact Nat.ne_of_lt hge
    have I3 := inv_table (t' := tk) (more := #[rawInt pos.line, rawInt pos.col, .ref c']) (h' := h'.push (PySem.W.kdv_obj "<lambda>" (X.env.qual ++ "<lambda>") (ps1 y0 pp d j dp) (.expr body) scope (cloFrom X.env.cells scope.names []) (.ref D) doc ((X.mg "__name__").getD .none) c' ctv)) I2 hP
      (fun b o hb e => Heap.get?_push_of_some _ (hx b o hb e)) (Heap.get?_push_of_some _ htb) hge ⟨oc, vs, t, Heap.get?_push_of_some _ hoc, hd, hv⟩
    have hE : ExtN H (upd (upd H P (.tbl (ps ++ #[rawInt pos.line, rawInt pos.col, .ref c']))) c' (CodeO c' (X.env.qual ++ "<lambda>"))) := fun b o e n => by
      rw [upd_ne (ne_of_none e nC), upd_ne (fun z => n ps (Option.some.inj (e.symm.trans (by rw [z]; exact hP))))]
      exact e
    have eL : (ps ++ #[rawInt pos.line, rawInt pos.col, .ref c']).toList = ps.toList ++ [rawInt pos.line, rawInt pos.col, .ref c'] := by simp
    have nD3 : (upd (upd H P (.tbl (ps ++ #[rawInt pos.line, rawInt pos.col, .ref c']))) c' (CodeO c' (X.env.qual ++ "<lambda>"))) D = none := by
      rw [upd_ne hDc, upd_ne (fun z => hPD z.symm)]
      exact nD
    refine h h'.objs.size c' (.ref D) doc ((X.mg "__name__").getD .none) ctv _ _ I3 hE (fun p hp => ?_) ⟨Heap.get?_push_size _ rfl, ?_, nofr _ hsz, upd_same, ⟨[(y0, u)], fun y hy => by rw [List.mem_singleton.mp hy]; exact List.mem_singleton.mpr rfl, fun HZ s1 un => bind1 (un.keep D _ (Heap.get?_push_of_some _ (hx _ _ (fun z => hPD z.symm) dD)) nD3 dfr (fun z => nomatch (show D ∈ ([] : List Addr) from z)))⟩⟩
    · by_cases hb : p.1 = P
      · rw [hu p hp hb, hb]
        refine ⟨_, by rw [upd_ne (ne_of_none hP nC), upd_same], by rw [eL]; exact PySem.TriplesOk_snoc _ _ _ _ ht, fun p' cv hcv => ?_⟩
        rw [eL] at hcv
        rcases among_app _ ht hcv with z | z
        · obtain ⟨c0, e1, e2⟩ := ha p' cv z
          exact ⟨c0, e1, hE _ _ e2 codeO_ne⟩
        · exact ⟨c', z, upd_same⟩
      · obtain ⟨ps', a1, a2, a3⟩ := hT p hp
        refine ⟨ps', by rw [upd_ne (ne_of_none a1 nC), upd_ne hb]; exact a1, a2, fun p' cv hcv => ?_⟩
        obtain ⟨c0, e1, e2⟩ := a3 p' cv hcv
        exact ⟨c0, e1, hE _ _ e2 codeO_ne⟩
    · have n1 : h'.objs.size ≠ c' := Nat.ne_of_gt hlt
      have n2 : h'.objs.size ≠ P := Nat.ne_of_gt (Nat.lt_of_lt_of_le (Heap.lt_size hP') hsz)
      rw [upd_ne n1, upd_ne n2]
      exact I2.hok.fresh hsz
  | some cv =>
    obtain ⟨c', e, hco⟩ := ha pos cv hc
    subst e
    refine PySem.W.kdv_makeTailHit (mg := X.mg) (c := c) (P := P) (ps := ps) (closure_ok hfree) I2.ok.glob (I2.mod.glob.keeps I2.bk) hcode (TB.code.keeps I2.bk) hP' ht hc bP fun ctv doc h' tk hx hsz => ?_
    have I3 : Inv X pins σ H { s2 with heap := h'.push (PySem.W.kdv_obj "<lambda>" (X.env.qual ++ "<lambda>") (ps1 y0 pp d j dp) (.expr body) scope (cloFrom X.env.cells scope.names []) (.ref D) doc ((X.mg "__name__").getD .none) c' ctv), toks := tk } := I2.kept fun b o e => Heap.get?_push_of_some _ (hx b o e)
    exact h h'.objs.size c' (.ref D) doc ((X.mg "__name__").getD .none) ctv H _ I3 (ExtN.refl H) hT ⟨Heap.get?_push_size _ rfl, I2.hok.fresh hsz, nofr _ hsz, hco, ⟨[(y0, u)], fun y hy => by rw [List.mem_singleton.mp hy]; exact List.mem_singleton.mpr rfl, fun HZ s1 un => bind1 (un.keep D _ (Heap.get?_push_of_some _ (hx _ _ dD)) nD dfr (fun z => nomatch (show D ∈ ([] : List Addr) from z)))⟩⟩
/-- no parameters -/
theorem lam_make0 {T : List (Addr × Str)} {c P : Addr} {body : Expr} {scope : Scope} {pos : Pos} {E : Value → Shared → Prop} {Q : Value → Shared → Prop} (I : Inv X pins σ H s) (TB : TabB X.base X.mg c P) (hcode : X.env.code = .ref c)
    (hm : (P, X.env.qual ++ "<lambda>") ∈ T) (hu : ∀ p ∈ T, p.1 = P → p.2 = X.env.qual ++ "<lambda>") (hT : Tabs T H) (hfree : ∀ y ∈ scope.names, y.2 = .free → ∃ c, X.env.cells.lookup y.1 = some c)
    (hbind : ∀ (q : Str) (cl : List (Str × Addr)) (pm cv ctv : Value), bindArgs (PySem.W.kla_fn "<lambda>" q ⟨[], [], none, [], [], none, []⟩ body scope cl pm cv ctv) ⟨[], []⟩ = pure [])
    (h : ∀ (f c' : Addr) (dV doc pm ctv : Value) (H1 : Hp) (s' : Shared), Inv X pins σ H1 s' → ExtN H H1 → Tabs T H1 → Made X s' H1 ⟨[], [], none, [], [], none, []⟩ body scope f c' [] dV doc pm ctv → Q (.ref f) s') :
    wpAny (model X.prog X.w) X.A (eval (.Lambda ⟨[], [], none, [], [], none, []⟩ body scope pos) X.env) Q E s :=
  lam_make2 I TB hcode hm hu hT rfl hfree fun f c' pm ctv H1 s' I1 eN T1 hf hfn hfr hco => h f c' .none .none pm ctv H1 s' I1 eN T1 ⟨hf, hfn, hfr, hco, [], fun y hy => (by cases hy), fun HZ s1 _ => BindsTo.of_eq (hbind _ _ _ _ _)⟩
end
section
variable {X : Cx} {pins : List (Addr × Obj)} {σ : L2.St} {H HZ : Hp} {s s1 : Shared}
theorem lam_start3 {A : Around} {outer : List Env} {E : XK} {scope : Scope} {f c' : Addr} {h₁ : Heap} {tk : Nat} {bs : List Str} {binds : List (Str × Value)} (I : Inv X pins σ H s) (L : LamG X.env.scope scope bs) (hy0 : ∀ y ∈ bs, y ∉ X.N) (e0 : Env0 X.prog X.w X.K X.mg X.base A outer s1 HZ) (hd : A.handled = none)
    (un : Un (frs X.stack) [] H HZ s.heap s1.heap) (hns : h₁.Ns s1.heap.objs.size fun y => binds.reverse.lookup y) (kp : ∀ b o, s1.heap.get? b = some o → h₁.get? b = some o) :
    Inv (lamCx X A outer s1 HZ E scope f c') [] σ HZ { s1 with heap := h₁, toks := tk } := by
  have hfree := L.has I.ok
  have cm : ∀ {y c}, (cloFrom X.env.cells scope.names []).lookup y = some c → X.env.cells.lookup y = some c := fun {y c} e => by
    rcases cloFrom_mem (PySem.mem_of_lookup e) with hm | ⟨h1, h2⟩
    · cases hm
    · obtain ⟨c1, hc⟩ := hfree _ h1 rfl
      have hc : X.env.cells.lookup y = some c1 := hc
      have e2 : c = c1 := by
        rw [h2, hc] <;> rfl
      rw [e2]
      exact hc
  have look : ∀ {y}, scope.names.lookup y = some .free → ∃ c, (cloFrom X.env.cells scope.names []).lookup y = some c := fun {y} hl => by
    have hy : (y, NameKind.free) ∈ scope.names := PySem.mem_of_lookup hl
    exact mem_lookup (cloFrom_has (cells := X.env.cells) (acc := []) hy)
  have cellK : ∀ {c : Addr} {v : Option Value}, H c = none → s.heap.IsCell c v → h₁.IsCell c v := fun {c v} n ⟨o, ho, hd⟩ => by
    obtain ⟨sl, q⟩ := un.any ho n (by simp)
    exact ⟨_, kp _ _ q, hd⟩
  have noA : ∀ b : Addr, b ∉ (lamCx X A outer s1 HZ E scope f c').ex := fun b z => absurd (show b ∈ ([] : List Addr) from z) (by simp)
  refine ⟨⟨e0.mod, L.kind, rfl, rfl, Nat.le_refl _, fun y z c e1 e2 => I.ok.inj y z c (cm e1) (cm e2), fun y hy => ?_, fun y c z _ => ?_, fun _ => hd, Around.frames_deeper e0.frames, .inr ⟨rfl, rfl⟩, fun b z => absurd z (noA b), e0.bs, e0.bsz, fun b _ _ => noA b,
      fun b z => absurd z (noA b), e0.funs, e0.frf⟩,
    rfl, e0.bare, Un.kept kp, ⟨_, hns, fun i y v e1 e2 e3 => ?_⟩, fun y c e => ?_, e0.hok.fresh (Nat.le_refl _), fun y c e => ?_, fun q hq => absurd (show q ∈ ([] : List (Addr × Obj)) ++ [] from hq) (by simp), e0.hok.kept kp, I.len⟩
  · have hy : scope.names.lookup y = some .cell ∨ scope.names.lookup y = some .free := hy
    rcases hy with hy | hy
    · exact absurd rfl (L.own _ (PySem.mem_of_lookup hy)).1
    · exact look hy
  · have z : false = true := z
    cases z
  · have e3 : Vis scope y := e3
    rcases e3 with k | k | k
    · have e1' : X.N[i]? = some y := by first | exact e1 | exact e2
      exact absurd (List.mem_of_getElem? e1') (hy0 y ((L.own _ (PySem.mem_of_lookup k)).2 rfl))
    · exact absurd rfl (L.own _ (PySem.mem_of_lookup k)).1
    · obtain ⟨m, hn, hl⟩ := I.loc
      have hvis : Vis X.env.scope y := (L.free _ (PySem.mem_of_lookup k) rfl).elim (fun k => .inr (.inl k)) (fun k => .inr (.inr k))
      obtain ⟨w', r, q⟩ := hl i y v e1 e2 hvis
      obtain ⟨c2, h2⟩ := look k
      refine ⟨w', r, .inr ⟨.inr k, c2, h2, ?_⟩⟩
      have c1 := cm h2
      rcases q with ⟨k', _⟩ | ⟨_, c3, e', z⟩
      · have k' : X.env.scope.names.lookup y = some .local := k'
        rcases L.free _ (PySem.mem_of_lookup k) rfl with k2 | k2 <;> rw [show X.env.scope.names.lookup y = _ from k2] at k' <;> cases k'
      · rw [c1] at e'
        cases e'
        exact cellK (I.freeC y _ c1) z
  · obtain ⟨w', z⟩ := I.cell y c (cm e)
    exact ⟨w', cellK (I.freeC y c (cm e)) z⟩
  · obtain ⟨v, o, ho, hd⟩ := I.cell y c (cm e)
    exact un.free c o ho (I.freeC y c (cm e)) (by simp)
/-- the context of the lambda's body: errors whose context is None go out of it -/
abbrev lamCxN (X : Cx) (A : Around) (outer : List Env) (s : Shared) (H : Hp) (E : XK) (scope : Scope) (f c' : Addr) : Cx :=
  (lamCx X A outer s H E scope f c').tr [] (fun e s' => wpAny (model X.prog X.w) (A.deeper (lamEnv X scope s.heap.objs.size f c')) (leaving (lamEnv X scope s.heap.objs.size f c') e) (fun _ s'' => L2N.CX X.prog X.w outer H s E e s'') (fun e' s'' => L2N.CX X.prog X.w outer H s E e' s'') s')
/-- x(), in the def that got the lambda -/
theorem pe_actN {CXg : CXT} {Eg : XK} {Ng : List Str} {qg : Str} {sg : Scope} {g f c' : Addr} {cdg dV doc pm ctv : Value} {bs : List Str} {params : Arguments} {body : Expr} {scope : Scope} {k i : Nat} {a : Str} {pn : List (Addr × Obj)} {xe : Value → Shared → Prop} {W : WX} {E : XK} {tb : TE} {p1 p2 : Pos}
    (I : Inv X pins σ H s) (L : LamG X.env.scope scope bs) (hbs : ∀ y ∈ bs, y ∉ X.N) (M : Made X s H params body scope f c' bs dV doc pm ctv)
    (tk : L2N.Takes ((cxOf CXg X.prog X.w X.K X.mg X.base Ng qg sg g cdg X.A X.stack s H Eg).tr pn xe) W) (hW : ∀ cls d σ' H', E cls d H' → W cls d σ' H') (hr : Room (k + 1) (X.A.deeper (envOfC qg sg s.heap.objs.size g cdg)))
    (hbody : ∀ (A : Around) (outer : List Env) (s : Shared) (H : Hp), Room k (A.deeper (lamEnv X scope s.heap.objs.size f c')) → PE (lamCxN X A outer s H E scope f c') body tb)
    (hN : Ng[i]? = some a) (hv : Vis sg a) (hd : (a == ("__debug__" : Str)) = false := by decide) (hcd : (a == ("__classdict__" : Str)) = false := by decide) :
    PE ((cxOf CXg X.prog X.w X.K X.mg X.base Ng qg sg g cdg X.A X.stack s H Eg).tr pn xe) (.Call (.Name a p1) [] [] p2)
      (fun σZ HZ Q => σZ[i]? = some (some (.ref f)) ∧ HZ c' = some (CodeO c' (X.env.qual ++ "<lambda>")) ∧ tb σ HZ Q) := by
  refine ⟨fun pinsZ sZ σZ HZ Q IZ h => ?_⟩
  obtain ⟨hs, hc, ht⟩ := h
  refine wpAny_Call_Name_kw (thn ((pe_var (pos := p1) (i := i) hN hv hd hcd).run pinsZ sZ σZ HZ (fun v H1 => v = .ref f ∧ H1 = HZ) IZ ⟨.ref f, hs, rfl, rfl⟩) fun u1 s1 ⟨v, H1, I1, r1, ev, eH⟩ => ?_)
  subst ev
  rw [eH] at I1
  obtain rfl : u1 = Value.ref f := r1
  have un : Un (frs X.stack) [] H HZ s.heap s1.heap := I1.base
  have of1 := un.keep f _ M.f_ M.fn M.fr (fun z => nomatch (show f ∈ ([] : List Addr) from z))
  obtain ⟨binds, hbn, hbd⟩ := M.bind
  refine PySem.W.callWith_F0 ⟨_, _, _, _, of1⟩ ?_
  obtain ⟨⟨oc, vs, t, hoc, hdc, hvc⟩, _, _⟩ := I1.hok c' _ hc
  have hx := L2N.passes_call tk hW
  refine wpAny_call (codeAny_mono (PySem.W.kla_callFunE (R := CR (L2N.CX X.prog X.w) (envOfC qg sg s.heap.objs.size g cdg :: X.stack) X.prog X.w HZ s1 Q E) hr.depth of1 rfl L.co L.gen rfl ⟨c', oc, vs, t, rfl, hoc, hdc, hvc⟩ (hbd HZ s1 un _ _ _ _ ?_)) fun r s' hq => ?_)
  · refine wpAny_newFunctionEnv (fun y hy => (L.own y hy).1) (fun y hy => L.par _ (hbn y hy)) (fun h₁ hns hsb => ⟨I1.nolimit.fresh _ hsb, ?_⟩) L.kind
    show codeAny _ _ (.expr body (lamEnv X scope s1.heap.objs.size f c')) _ _
    have kp : ∀ b o, s1.heap.get? b = some o → h₁.get? b = some o := fun b o e => hsb.extBut b o (Nat.ne_of_lt (Heap.lt_size e)) (Heap.get?_push_of_some _ e)
    have J := (lam_start3 (E := E) (f := f) (c' := c') (tk := s1.toks + binds.length) I L hbs I1.env0 hr.hd un hns kp).toTry (fun e s' => wpAny (model X.prog X.w) ((X.A.deeper (envOfC qg sg s.heap.objs.size g cdg)).deeper (lamEnv X scope s1.heap.objs.size f c')) (leaving (lamEnv X scope s1.heap.objs.size f c') e) (fun _ s'' => L2N.CX X.prog X.w (envOfC qg sg s.heap.objs.size g cdg :: X.stack) HZ s1 E e s'') (fun e' s'' => L2N.CX X.prog X.w (envOfC qg sg s.heap.objs.size g cdg :: X.stack) HZ s1 E e' s'') s')
    refine PySem.W.kla_codeExpr (wpAny_mono ((hbody _ _ s1 HZ (hr.deeper _)).run [] _ _ HZ Q J ht) (fun v s' ⟨w', H', J', rv, q⟩ => ⟨w', H', J'.os, J'.bare, J'.base, J'.hok, rv, q⟩) fun e s' hq => hq)
  · cases r with
    | error e => exact hx pinsZ σZ HZ s1 e s' I1 hq
    | ok fl =>
      cases fl with
      | ret u => exact I1.after hq
      | next => exact False.elim hq
      | brk => exact False.elim hq
      | cont => exact False.elim hq
end
/-- the def that calls what it got; TT: what it makes of the lambda's reading (errors with the context None) -/
def GivesToN (X : Cx) (Ng : List Str) (x : Str) (sg : Scope) (g : Addr) (cdg : Value) (bg : List Stmt) (a : Str) (q : Str) (TT : (XK → Hp → VK → Prop) → Hp → VK → Prop) : Prop :=
  ∀ (f c' : Addr) (s : Shared) (H : Hp) (Q : VK) (tl : XK → Hp → VK → Prop),
    (∀ (W : WX) (pn : List (Addr × Obj)) (xe : Value → Shared → Prop) (E : XK) (p1 p2 : Pos), L2N.Takes ((cxOf C8.CX0 X.prog X.w X.K X.mg X.base Ng x sg g cdg X.A X.stack s H C8.E0).tr pn xe) W → (∀ cls d σ' H', E cls d H' → W cls d σ' H') →
      PE ((cxOf C8.CX0 X.prog X.w X.K X.mg X.base Ng x sg g cdg X.A X.stack s H C8.E0).tr pn xe) (.Call (.Name a p1) [] [] p2) (fun σZ HZ Q => σZ[0]? = some (some (.ref f)) ∧ HZ c' = some (CodeO c' q) ∧ tl E HZ Q)) →
    H c' = some (CodeO c' q) → TT tl H Q →
    ∃ t, PSs (cxOf C8.CX0 X.prog X.w X.K X.mg X.base Ng x sg g cdg X.A X.stack s H C8.E0).nox bg t ∧ t { nx := fun _ H' => Q .non H', rt := Q } (L2.start Ng [.ref f]) H
section
variable {X : Cx}
/-- x(lambda: body), x(lambda y0=d: body) -/
theorem pe_lamcallN {T : List (Addr × Str)} {TT : (XK → Hp → VK → Prop) → Hp → VK → Prop} {x a : Str} {g : Addr} {k : Nat} {pg : Arguments} {bg : List Stmt} {sg : Scope} {dV kV doc pm cdv ct oc : Value} {an od : Option Addr} {osl : Array (Option Value)} {Ng : List Str}
    {params : Arguments} {bs : List Str} {body : Expr} {scope : Scope} {t : XK → TE} {p lpos pos : Pos} (hg : Gl X x) (hm : X.mg x = some (.ref g)) (hk : PySem.W.keepIn X.K (.ref g) = true)
    (lk : X.K.lookup g = some ⟨oc, od, .func (PySem.W.fnOf x x pg bg sg dV kV doc pm an cdv ct), osl⟩) (hcg : PySem.W.codeIn X.K cdv x = true) (hb : L2.Binds X.K (PySem.W.fnOf x x pg bg sg dV kV doc pm an cdv ct) [a] []) (Sg : FnScope Ng [a] sg) (hNg : Ng[0]? = some a) (hva : Vis sg a)
    (hG : GivesToN X Ng x sg g cdv bg a (X.env.qual ++ "<lambda>") TT)
    (hmake : ∀ (pins : List (Addr × Obj)) (σ : L2.St) (H : Hp) (s : Shared) (E Q : Value → Shared → Prop), Inv X pins σ H s → Tabs T H → (∀ (f c' : Addr) (dV doc pm ctv : Value) (H1 : Hp) (s' : Shared), Inv X pins σ H1 s' → ExtN H H1 → Tabs T H1 → Made X s' H1 params body scope f c' bs dV doc pm ctv → Q (.ref f) s') →
      wpAny (model X.prog X.w) X.A (eval (.Lambda params body scope lpos) X.env) Q E s)
    (hr : Room (k + 2) X.A) (L : LamG X.env.scope scope bs) (hbs : ∀ y ∈ bs, y ∉ X.N)
    (hbody : ∀ (A : Around) (outer : List Env) (s : Shared) (H : Hp) (E : XK) (f c' : Addr), Room k (A.deeper (lamEnv X scope s.heap.objs.size f c')) → PE (lamCxN X A outer s H E scope f c') body (t E))
    (hdb : (x == ("__debug__" : Str)) = false := by decide) (hd : (a == ("__debug__" : Str)) = false := by decide) (hcd : (a == ("__classdict__" : Str)) = false := by decide) :
    PE X (.Call (.Name x p) [.Lambda params body scope lpos] [] pos) (tLam T TT t) := by
  refine ⟨fun pins s σ H Q I ⟨hT, h⟩ => ?_⟩
  refine wpAny_Call_Name_kw (ld_glob I hg hm ?_ hdb)
  refine PySem.W.callWith_K (h₀ := X.base) I.ok.mod.kin hk ?_ (by rfl) (by rfl)
  show wpAny _ _ (spliced ((false, eval (.Lambda params body scope lpos) X.env) :: backTo pos (starEach [] X.env))) _ _ s
  refine Calls.spliced_cons (hmake pins σ H s _ _ I hT fun f c' dV' doc' pm' ctv H1 s' I1 eN T1 M => ?_)
  refine Calls.spliced_nil ⟨I1.kIn, ?_⟩
  refine wpAny_call (codeAny_mono (run_ofS (CX := C8.CX0) (E := C8.E0) (Q := Q) (N := Ng) (ps := [a]) (us := [.ref f]) (vs := [.ref f]) lk hcg Sg hr I1.env0 (hb s' [.ref f] I1.kIn rfl) (.cons rfl .nil) rfl fun hr' => ?_) fun r s2 hq => ?_)
  · obtain ⟨t', ht', hq'⟩ := hG f c' s' H1 Q (fun E H' Q' => t E σ H' Q') (fun W pn xe E p1 p2 tk hW => pe_actN (i := 0) I1 L hbs M tk hW hr' (fun A outer s H hr2 => hbody A outer s H E f c' hr2) hNg hva hd hcd) M.co (h H1 eN T1)
    exact ⟨t', ht'.nox, hq'⟩
  · cases r with
    | error e => exact (show False from hq).elim
    | ok fl =>
      cases fl with
      | ret u => exact I1.after hq
      | next => exact False.elim hq
      | brk => exact False.elim hq
      | cont => exact False.elim hq
end
end LamD

set_option maxRecDepth 100000
set_option maxHeartbeats 4000000
namespace Mn
open PySem

/-! ## is a compact text the text? -/
def visB (sc : Scope) (x : Str) : Bool := match sc.names.lookup x with
  | some .local => true
  | some .cell => true
  | some .free => true
  | _ => false
def locB (sc : Scope) (x : Str) : Bool := match sc.names.lookup x with
  | some .local => true
  | some .cell => true
  | _ => false
def gloB (sc : Scope) (x : Str) : Bool := match sc.names.lookup x with
  | some .globalImplicit => true
  | _ => false
def nmB (x : Str) : Bool := !(x == ("__debug__" : Str)) && (!(x == ("__classdict__" : Str)) && !(x == ("__name__" : Str)))
def Bop.op : Bop → Operator
  | .add => .Add | .sub => .Sub | .mul => .Mult | .fdiv => .FloorDiv | .mod => .Mod | .pow => .Pow
def Cop.op : Cop → CmpOp
  | .eq => .Eq | .ne => .NotEq | .lt => .Lt | .le => .LtE | .gt => .Gt | .ge => .GtE | .is => .Is | .isn => .IsNot | .inn => .In | .nin => .NotIn
def Bi.nm : Bi → Str
  | .len => "len" | .int => "int" | .abs => "abs" | .sum => "sum" | .max => "max" | .min => "min" | .all => "all" | .any => "any" | .tuple => "tuple" | .list => "list" | .str => "str" | .sorted => "sorted"
def Ty.nm : Ty → String
  | .int => "int" | .bool => "bool" | .str => "str" | .tuple => "tuple" | .list => "list"
/-- what the texts of a module share: the defs' names; its names of ints -/
structure Tb0 where
  fns : List Str
  cs : List (Str × Int)
  /-- the classes of errors; which is one of which -/
  cls : List Str := []
  sub : List (List Bool) := []
  /-- the defs that try a call: what each answers behind an error of each class, behind none -/
  tds : List (Str × List D × D) := []
  /-- the defs whose names are caught by a lambda -/
  lams : List Str := []
  /-- names of texts -/
  ss : List (Str × Str) := []
mutual
def okTg (N : List Str) (sc : Scope) : Tg → Expr → Bool
  | .n i, e => match e with
    | .Name x _ => N[i]? == some x && locB sc x
    | _ => false
  | .t ts, e => match e with
    | .Tuple es _ _ => okTgs N sc ts es
    | _ => false
def okTgs (N : List Str) (sc : Scope) : Tgs → List Expr → Bool
  | .nil, es => match es with
    | [] => true
    | _ :: _ => false
  | .cons t ts, es => match es with
    | [] => false
    | e :: r => okTg N sc t e && okTgs N sc ts r
end
mutual
def tgIn (own : List (Str × Nat)) : Tg → Bool
  | .n i => own.any fun p => p.2 == i
  | .t ts => tgsIn own ts
def tgsIn (own : List (Str × Nat)) : Tgs → Bool
  | .nil => true
  | .cons t ts => tgIn own t && tgsIn own ts
end
def isTup : Expr → Bool
  | .Tuple _ _ _ => true
  | _ => false
/-- data that a def hands out as they are written -/
def litB : D → D → Bool
  | .str a, .str b => decide (a = b)
  | .int a, .int b => decide (a = b)
  | .bl a, .bl b => a == b
  | .non, .non => true
  | _, _ => false
def litsB : List D → List D → Bool
  | [], [] => true
  | a :: r, b :: s => litB a b && litsB r s
  | _, _ => false
/-- no parameters -/
def noPsB (p : Arguments) : Bool := p.posonlyargs.isEmpty && (p.args.isEmpty && (p.vararg.isNone && (p.kwonlyargs.isEmpty && (p.kw_defaults.isEmpty && (p.kwarg.isNone && p.defaults.isEmpty)))))
/-- no parameter, or one with an integer as its default; the name is none of the def's own -/
def lamPB (N : List Str) (sc scope : Scope) : Arguments → Bool
  | ⟨[], [], none, [], [], none, []⟩ => LamD.lamGB sc scope []
  | ⟨[], [⟨y0, none, _⟩], none, [], [], none, [.Constant (.int _) _ _]⟩ => LamD.lamGB sc scope [y0] && !N.contains y0
  | _ => false
/-- is a name caught? -/
def cellB (sc : Scope) : Bool := sc.names.any fun y => match y.2 with
  | .cell => true
  | _ => false
def isCallB : Ex → Bool
  | .call _ _ => true
  | .cv _ _ => true
  | _ => false
section
variable (T : Tb0) (N : List Str)
mutual
def okE (sc : Scope) : Ex → Expr → Bool
  | .v i, e => match e with
    | .Name x _ => N[i]? == some x && (visB sc x && nmB x)
    | _ => false
  | .int i, e => match e with
    | .Constant (.int j) _ _ => decide (i = j)
    | _ => false
  | .str s, e => match e with
    | .Constant (.str j) _ _ => decide (s = j)
    | _ => false
  | .bl s, e => match e with
    | .Constant (.bool j) _ _ => s == j
    | _ => false
  | .non, e => match e with
    | .Constant .none _ _ => true
    | _ => false
  | .cst x i, e => match e with
    | .Name y _ => x == y && (gloB sc x && (nmB x && T.cs.contains (x, i)))
    | _ => false
  | .css x z, e => match e with
    | .Name y _ => x == y && (gloB sc x && (nmB x && T.ss.contains (x, z)))
    | _ => false
  | .bin o a b, e => match e with
    | .BinOp l p r _ => decide (o.op = p) && (okE sc a l && okE sc b r)
    | _ => false
  | .neg a, e => match e with
    | .UnaryOp .USub l _ => okE sc a l
    | _ => false
  | .cmp o a b, e => match e with
    | .Compare l [p] [r] _ => decide (o.op = p) && (okE sc a l && okE sc b r)
    | _ => false
  | .cmp2 o o' a b c, e => match e with
    | .Compare l [p, p'] [r, r'] _ => decide (o.op = p) && (decide (o'.op = p') && (okE sc a l && (okE sc b r && okE sc c r')))
    | _ => false
  | .and es, e => match e with
    | .BoolOp .And vs _ => okEs sc es vs
    | _ => false
  | .or es, e => match e with
    | .BoolOp .Or vs _ => okEs sc es vs
    | _ => false
  | .not a, e => match e with
    | .UnaryOp .Not l _ => okE sc a l
    | _ => false
  | .ife t a b, e => match e with
    | .IfExp l m r _ => okE sc t l && (okE sc a m && okE sc b r)
    | _ => false
  | .tup es, e => match e with
    | .Tuple vs _ _ => okEs sc es vs && decide (es.len ≤ 1000)
    | _ => false
  | .lst es, e => match e with
    | .List vs _ => okEs sc es vs && decide (es.len ≤ 1000)
    | _ => false
  | .ix a b, e => match e with
    | .Subscript l r _ => okE sc a l && okE sc b r
    | _ => false
  | .sl a lo hi st, e => match e with
    | .Subscript l (.Slice x y z _) _ => okE sc a l && (okO sc lo x && (okO sc hi y && okO sc st z))
    | _ => false
  | .call f es, e => match e with
    | .Call (.Name x _) vs ks _ => ks.isEmpty && (T.fns[f]? == some x && (gloB sc x && (nmB x && okEs sc es vs)))
    | _ => false
  | .bi b es, e => match e with
    | .Call (.Name x _) vs ks _ => ks.isEmpty && (x == b.nm && (gloB sc x && (decide (es.len ≠ 0) && okEs sc es vs)))
    | _ => false
  | .isi a t, e => match e with
    | .Call (.Name x _) vs ks _ => ks.isEmpty && (x == ("isinstance" : Str) && (gloB sc x && (match vs with
      | [l, .Name y _] => okE sc a l && (y == Str.ofString t.nm && gloB sc y)
      | _ => false)))
    | _ => false
  | .lc el own g it i, e => match e with
    | .ListComp elt gs scope _ => (match gs with
      | [⟨tg, iter, ifs, z⟩] => decide (z = 0 ∧ (cellB (L2.relS scope sc) = false ∨ cellB sc = true)) && (L2.blkC N sc scope own && (okI sc tg it iter && (okTg N scope g tg && (tgIn own g && (okE (L2.relS scope sc) el elt && (match i, ifs with
        | .no, [] => true
        | .so c, [d] => okE (L2.relS scope sc) c d
        | _, _ => false))))))
      | _ => false)
    | _ => false
  | .lc2 el own own1 g it i g1 it1 i1, e => match e with
    | .ListComp elt gs scope _ => (match gs with
      | [⟨tg, iter, ifs, z⟩, ⟨tg1, iter1, ifs1, z1⟩] => decide ((z = 0 ∧ z1 = 0) ∧ (cellB (L2.relS scope sc) = false ∨ cellB sc = true)) && (L2.blkC N sc scope own && (okI sc tg it iter && (okTg N scope g tg && (tgIn own g && (okE (L2.relS scope sc) el elt && ((match i, ifs with
        | .no, [] => true
        | .so c, [d] => okE (L2.relS scope sc) c d
        | _, _ => false) && (own1.all own.contains && (okI (L2.relS scope sc) tg1 it1 iter1 && (okTg N scope g1 tg1 && (tgIn own1 g1 && (match i1, ifs1 with
        | .no, [] => true
        | .so c, [d] => okE (L2.relS scope sc) c d
        | _, _ => false)))))))))))
      | _ => false)
    | _ => false
  | .fv f, e => match e with
    | .Name x _ => T.fns[f]? == some x && (gloB sc x && nmB x)
    | _ => false
  | .cv i es, e => match e with
    | .Call (.Name x _) vs ks _ => ks.isEmpty && (N[i]? == some x && (visB sc x && (nmB x && okEs sc es vs)))
    | _ => false
  | .lam y h r el, e => match e with
    | .Call (.Name x _) [.Lambda ps body scope _] [] _ => x == y && (gloB sc x && (nmB x && (T.tds.any (fun t => t.1 == x && (litsB h t.2.1 && litB r t.2.2)) && (lamPB N sc scope ps && (cellB sc && (isCallB el && okE scope el body))))))
    | _ => false
def okEs (sc : Scope) : Exs → List Expr → Bool
  | .nil, vs => match vs with
    | [] => true
    | _ :: _ => false
  | .cons e es, vs => match vs with
    | [] => false
    | v :: r => okE sc e v && okEs sc es r
def okO (sc : Scope) : Eo → Option Expr → Bool
  | .no, o => match o with
    | none => true
    | some _ => false
  | .so e, o => match o with
    | none => false
    | some v => okE sc e v
def okI (sc : Scope) (tg : Expr) : Src → Expr → Bool
  | .ex a, e => okE sc a e
  | .rng es, e => match e with
    | .Call (.Name x _) vs ks _ => ks.isEmpty && (x == ("range" : Str) && (gloB sc x && ((es.len == 1 || es.len == 2) && okEs sc es vs)))
    | _ => false
  | .zip a b, e => match e with
    | .Call (.Name x _) vs ks _ => ks.isEmpty && (x == ("zip" : Str) && (gloB sc x && (isTup tg && (match vs with
      | [l, r] => okE sc a l && okE sc b r
      | _ => false))))
    | _ => false
  | .enum a, e => match e with
    | .Call (.Name x _) vs ks _ => ks.isEmpty && (x == ("enumerate" : Str) && (gloB sc x && (isTup tg && (match vs with
      | [l] => okE sc a l
      | _ => false))))
    | _ => false
end
/-- does the model drop the old list of y as it makes the new one (name = [..] on one line)? -/
def swB (sc : Scope) (y : Str) (py : Pos) : Expr → Bool
  | .ListComp _ _ scope pos => decide (sc.names.lookup y = some .local) && ((py.line == pos.line) && !(scope.names.any fun z => z.1 == y && (z.2 == .local || z.2 == .cell)))
  | _ => false
def namesOf : List Expr → Option (List (Str × Pos))
  | [] => some []
  | .Name x p :: r => (namesOf r).map ((x, p) :: ·)
  | _ :: _ => none
/-- a, b = .. stored without a tuple -/
def parB (sc : Scope) (ts : List Expr) (vs : List Expr) : Bool := match ts with
  | [.Name x px, .Name y py] => decide (sc.names.lookup x = some .local) && (decide (sc.names.lookup y = some .local) && ((px.line == py.line) && (!(x == y) && (!(vs.all (foldedForSure 8)) && !(vs.all (constantsAlone 8))))))
  | [.Name x px, .Name y py, .Name z pz] => decide (sc.names.lookup x = some .local) && (decide (sc.names.lookup y = some .local) && (decide (sc.names.lookup z = some .local) && ((px.line == py.line) && ((px.line == pz.line) && (!(x == y) && (!(x == z) && (!(y == z) && (!(vs.all (foldedForSure 8)) && !(vs.all (constantsAlone 8))))))))))
  | _ => false
/-- .. stored by way of a tuple -/
def unparB (sc : Scope) (ts : List Expr) (vs : List Expr) : Bool := match ts with
  | [.Name x px, .Name y py] => decide (sc.names.lookup x ≠ some .local) || (decide (sc.names.lookup y ≠ some .local) || (!(px.line == py.line) || vs.all (foldedForSure 8)))
  | [.Name x px, .Name y py, .Name z pz] => decide (sc.names.lookup x ≠ some .local) || (decide (sc.names.lookup y ≠ some .local) || (decide (sc.names.lookup z ≠ some .local) || vs.all (foldedForSure 8)))
  | [] => true
  | [_] => true
  | _ :: _ :: _ :: _ :: _ => true
  | _ => false
def tgOf : List Nat → Tgs
  | [] => .nil
  | i :: r => .cons (.n i) (tgOf r)
variable (sc : Scope)
mutual
def okS : St → Stmt → Bool
  | .set i e _, s => match s with
    | .Assign [.Name x p] v _ => N[i]? == some x && (locB sc x && okE T N sc e v)
    | _ => false
  | .par is es _, s => match s with
    | .Assign [.Tuple ts _ _] (.Tuple vs _ _) _ => okTgs N sc (tgOf is) ts && (okEs T N sc es vs && (decide (es.len ≤ 1000) && (decide (es.len = is.length) && (parB sc ts vs || unparB sc ts vs))))
    | _ => false
  | .tas g e _, s => match s with
    | .Assign [.Tuple ts k p] v _ => okTg N sc g (.Tuple ts k p) && (okE T N sc e v && !isTup v)
    | _ => false
  | .app i e _, s => match s with
    | .Expr (.Call (.Attribute (.Name x _) m ap) vs ks cp) _ => m == ("append" : Str) && (ks.isEmpty && ((ap.endLine == cp.line) && (N[i]? == some x && (visB sc x && (nmB x && (match vs with
      | [v] => okE T N sc e v
      | _ => false))))))
    | _ => false
  | .ext i e _, s => match s with
    | .Expr (.Call (.Attribute (.Name x _) m ap) vs ks cp) _ => m == ("extend" : Str) && (ks.isEmpty && ((ap.endLine == cp.line) && (N[i]? == some x && (visB sc x && (nmB x && (match vs with
      | [v] => okE T N sc e v
      | _ => false))))))
    | _ => false
  | .six i j e _, s => match s with
    | .Assign [.Subscript (.Name x _) k _] v _ => N[i]? == some x && (visB sc x && (nmB x && (okE T N sc j k && okE T N sc e v)))
    | _ => false
  | .cup i k e _, s => match s with
    | .Assign [.Subscript (.Name x _) (.Constant (.int j) _ _) _] v _ => N[i]? == some x && (visB sc x && (nmB x && (decide (j = k) && okE T N sc e v)))
    | _ => false
  | .drop e _, s => match s with
    | .Expr v _ => okE T N sc e v && (match v with | .Call _ _ _ _ => true | _ => false)
    | _ => false
  | .ret e _, s => match s with
    | .Return (some v) _ => okE T N sc e v
    | _ => false
  | .ife t _ a b, s => match s with
    | .If l m r _ => okE T N sc t l && (okSs a m && okSs b r)
    | _ => false
  | .for g it _ b, s => match s with
    | .For tg iter body orelse _ => orelse.isEmpty && (okI T N sc tg it iter && (okTg N sc g tg && okSs b body))
    | _ => false
  | .while t _ b, s => match s with
    | .While l body orelse _ => orelse.isEmpty && (okE T N sc t l && okSs b body)
    | _ => false
  | .brk, s => match s with
    | .Break _ => true
    | _ => false
  | .cnt, s => match s with
    | .Continue _ => true
    | _ => false
  | .pass, s => match s with
    | .Pass _ => true
    | _ => false
  | .raise k, s => match s with
    | .Raise (some (.Call (.Name x _) [.Constant (.str _) _ _] [] _)) none _ => T.cls[k]? == some x && (gloB sc x && nmB x)
    | _ => false
def okSs : Sts → List Stmt → Bool
  | .nil, ss => match ss with
    | [] => true
    | _ :: _ => false
  | .cons s ss, rs => match rs with
    | [] => false
    | r :: rr => okS s r && okSs ss rr
end
end
end Mn

set_option maxRecDepth 100000
set_option maxHeartbeats 4000000
namespace Mn
open PySem PySem.Spec PyProof.Rows L2

theorem bnd_ok {α β : Type} {r : R α} {f : α → Cup → R β} {b : β} {c : Cup} (h : r.bnd f = .ok b c) : ∃ a c1, r = .ok a c1 ∧ f a c1 = .ok b c := by
  cases r with
  | ok a c1 => exact ⟨a, c1, rfl, h⟩
  | exc k a c1 => cases h
  | bad => cases h
theorem bnx_ok {α β : Type} {r : R α} {f : α → Cup → R β} {b : β} {c : Cup} (h : r.bnx f = .ok b c) : ∃ a c1, r = .ok a c1 ∧ f a c1 = .ok b c := by
  cases r with
  | ok a c1 => exact ⟨a, c1, rfl, h⟩
  | exc k a c1 => cases h
  | bad => cases h
theorem cut_ok {α : Type} {r : R α} {b : α} {c : Cup} (h : r.bnd .ok = .ok b c) : r = .ok b c := by
  obtain ⟨a, c1, e, h⟩ := bnd_ok h
  rw [e, h]
theorem bnd_exc {α β : Type} {r : R α} {f : α → Cup → R β} {k : Nat} {x : List D} {c : Cup} (h : r.bnd f = .exc k x c) : ∃ a c1, r = .ok a c1 ∧ f a c1 = .exc k x c := by
  cases r with
  | ok a c1 => exact ⟨a, c1, rfl, h⟩
  | exc k a c1 => cases h
  | bad => cases h
theorem bnx_exc {α β : Type} {r : R α} {f : α → Cup → R β} {k : Nat} {x : List D} {c : Cup} (h : r.bnx f = .exc k x c) : r = .exc k x c ∨ ∃ a c1, r = .ok a c1 ∧ f a c1 = .exc k x c := by
  cases r with
  | ok a c1 => exact .inr ⟨a, c1, rfl, h⟩
  | exc k a c1 => cases h; exact .inl rfl
  | bad => cases h
theorem opt_exc {α : Type} {o : Option α} {c : Cup} {k : Nat} {x : List D} {c' : Cup} (h : R.opt o c = .exc k x c') : False := by
  cases o <;> cases h
theorem opt_ok {α : Type} {o : Option α} {c c' : Cup} {a : α} (h : R.opt o c = .ok a c') : o = some a ∧ c' = c := by
  cases o with
  | none => cases h
  | some b => cases h; exact ⟨rfl, rfl⟩
theorem and_t {a b : Bool} (h : (a && b) = true) : a = true ∧ b = true := Bool.and_eq_true_iff.mp h

theorem and3 {a b c : Bool} (h : (a && (b && c)) = true) : a = true ∧ b = true ∧ c = true := ⟨(and_t h).1, and_t (and_t h).2⟩
theorem and4 {a b c d : Bool} (h : (a && (b && (c && d))) = true) : a = true ∧ b = true ∧ c = true ∧ d = true := ⟨(and_t h).1, and3 (and_t h).2⟩
theorem and5 {a b c d e : Bool} (h : (a && (b && (c && (d && e)))) = true) : a = true ∧ b = true ∧ c = true ∧ d = true ∧ e = true := ⟨(and_t h).1, and4 (and_t h).2⟩
theorem and6 {a b c d e f : Bool} (h : (a && (b && (c && (d && (e && f))))) = true) : a = true ∧ b = true ∧ c = true ∧ d = true ∧ e = true ∧ f = true := ⟨(and_t h).1, and5 (and_t h).2⟩
theorem and7 {a b c d e f g : Bool} (h : (a && (b && (c && (d && (e && (f && g)))))) = true) : a = true ∧ b = true ∧ c = true ∧ d = true ∧ e = true ∧ f = true ∧ g = true := ⟨(and_t h).1, and6 (and_t h).2⟩

/-! ## what a value stands for -/
/-- .. and the tables of code objects, by their addresses, with their lambdas' name -/
structure Tb extends Tb0 where
  tt : List (Addr × Str) := []
instance : Coe Tb Tb0 := ⟨Tb.toTb0⟩
/-- something other than a table stands at a -/
def Oc (H : Hp) (a : Addr) : Prop := ∃ o, H a = some o ∧ ∀ ps, o ≠ .tbl ps
theorem Oc.none {H : Hp} {a : Addr} (h : H a = none) : ¬ Oc H a := fun ⟨o, e, _⟩ => by rw [h] at e; cases e
theorem Oc.lst {H : Hp} {a : Addr} {l : List V} (h : H a = some (.lst l)) : Oc H a := ⟨_, h, fun ps z => by cases z⟩
/-- the script at a: known to its object -/
def ScrAt (K : PySem.W.Frag) (H : Hp) (a : Addr) (ns : List Int) : Prop := (∃ o, H a = some (.frz o (.lst (ns.map V.int)))) ∨
  ∃ (o : Obj) (its : Array Value) (n : Nat), K.lookup a = some o ∧ o.cls = .type "list" ∧ o.dict = none ∧ o.data = .seq its n ∧ its.size ≤ sizeLine ∧ Vals (ns.map V.int) its.toList
theorem ScrAt.sq {K : PySem.W.Frag} {H : Hp} {a : Addr} {ns : List Int} (h : ScrAt K H a ns) : SqL K H a (ns.map V.int) := by
  rcases h with ⟨o, h⟩ | h
  · exact .inl (.inr ⟨o, h⟩)
  · exact .inr h
section
variable (K : PySem.W.Frag) (mg : Str → Option Value) (T : Tb) (kk : Option Addr)
mutual
inductive Rp (O : Addr → Prop) (H : Hp) : V → D → Prop
  | non : Rp O H .non .non
  | bl (b : Bool) : Rp O H (.bl b) (.bl b)
  | int (i : Int) : Rp O H (.int i) (.int i)
  | str (s : Str) : Rp O H (.str s) (.str s)
  | tup {a : Addr} {vs : List V} {ds : List D} : SqT K H a vs → Rps O H vs ds → Rp O H (.ref a) (.tup ds)
  | lst {a : Addr} {vs : List V} {ds : List D} : H a = some (.lst vs) → ¬ O a → kk ≠ some a → Rps O H vs ds → Rp O H (.ref a) (.lst ds)
  | fn {a : Addr} {i : Nat} {x : Str} : T.fns[i]? = some x → mg x = some (.ref a) → Rp O H (.ref a) (.fn i)
  | cup {a : Addr} : kk = some a → Rp O H (.ref a) .cup
  | scr {a : Addr} {ns : List Int} : ScrAt K H a ns → Rp O H (.ref a) (.scr ns)
inductive Rps (O : Addr → Prop) (H : Hp) : List V → List D → Prop
  | nil : Rps O H [] []
  | cons {v : V} {d : D} {vs : List V} {ds : List D} : Rp O H v d → Rps O H vs ds → Rps O H (v :: vs) (d :: ds)
end
end
/-- the state of the draws stands at kk; the tables stand -/
structure Cr (T : Tb) (kk : Option Addr) (c : Cup) (H : Hp) : Prop where
  at_ : ∀ a, kk = some a → H a = some (.lst [.int c.1, .int c.2])
  tb : LamX.Tabs T.tt H
/-- all that was tracked stands as it stood, but the draws' list and the tables -/
def Ext (kk : Option Addr) (H H' : Hp) : Prop := ∀ a o, H a = some o → (kk ≠ some a ∨ ∀ l, o ≠ .lst l) → (∀ ps, o ≠ .tbl ps) → H' a = some o
theorem Ext.refl {kk : Option Addr} (H : Hp) : Ext kk H H := fun _ _ h _ _ => h
theorem Ext.trans {kk : Option Addr} {H H1 H2 : Hp} (a : Ext kk H H1) (b : Ext kk H1 H2) : Ext kk H H2 := fun x o h k n => b x o (a x o h k n) k n
theorem Ext.of {kk : Option Addr} {H H' : Hp} (s : Same H H') : Ext kk H H' := fun a o h _ _ => s a o h
theorem Ext.new {kk : Option Addr} {H : Hp} {p : Addr} {o : HO} (h : H p = none) : Ext kk H (upd H p o) := fun a u e _ _ => by
  rw [upd_ne (ne_of_none e h)]
  exact e
theorem Ext.lst {kk : Option Addr} {H H' : Hp} (x : Ext kk H H') {a : Addr} {l : List V} (h : H a = some (.lst l)) (k : kk ≠ some a) : H' a = some (.lst l) := x a _ h (.inl k) (fun ps z => by cases z)
theorem Ext.rd {kk : Option Addr} {H H' : Hp} (x : Ext kk H H') {a : Addr} {vs : List V} (h : Rd H a (.tup vs)) : Rd H' a (.tup vs) := by
  rcases h with h | ⟨o, h⟩
  · exact .inl (x a _ h (.inr fun l => by intro z; cases z) (fun ps z => by cases z))
  · exact .inr ⟨o, x a _ h (.inr fun l => by intro z; cases z) (fun ps z => by cases z)⟩
theorem Ext.sqT {kk : Option Addr} {H H' : Hp} (x : Ext kk H H') {K : PySem.W.Frag} {a : Addr} {vs : List V} (h : SqT K H a vs) : SqT K H' a vs := by
  rcases h with h | h
  · exact .inl (x.rd h)
  · exact .inr h
theorem Ext.there {T : Tb} {kk : Option Addr} {c : Cup} {H H' : Hp} (x : Ext kk H H') (c' : Cr T kk c H') {a : Addr} (h : Oc H a) : Oc H' a := by
  obtain ⟨o, e, n⟩ := h
  by_cases k : kk = some a
  · exact .lst (c'.at_ a k)
  · exact ⟨o, x a o e (.inl k) n, n⟩
/-- .. but what is kept off -/
def ExtO (kk : Option Addr) (O : Addr → Prop) (H H' : Hp) : Prop := ∀ a o, H a = some o → ((¬ O a ∧ kk ≠ some a) ∨ ∀ l, o ≠ .lst l) → (∀ ps, o ≠ .tbl ps) → H' a = some o
theorem Ext.o {kk : Option Addr} {O : Addr → Prop} {H H' : Hp} (x : Ext kk H H') : ExtO kk O H H' := fun a o h c n => x a o h (c.elim (fun z => .inl z.2) .inr) n
theorem ExtO.trans {kk : Option Addr} {O : Addr → Prop} {H H1 H2 : Hp} (a : ExtO kk O H H1) (b : ExtO kk O H1 H2) : ExtO kk O H H2 := fun x o h k n => b x o (a x o h k n) k n
theorem ExtO.sqT {kk : Option Addr} {O : Addr → Prop} {H H' : Hp} (x : ExtO kk O H H') {K : PySem.W.Frag} {a : Addr} {vs : List V} (h : SqT K H a vs) : SqT K H' a vs := by
  rcases h with (h | ⟨o, h⟩) | h
  · exact .inl (.inl (x a _ h (.inr fun l => by intro z; cases z) (fun ps z => by cases z)))
  · exact .inl (.inr ⟨o, x a _ h (.inr fun l => by intro z; cases z) (fun ps z => by cases z)⟩)
  · exact .inr h
theorem scr_ext {kk : Option Addr} {O : Addr → Prop} {H H' : Hp} (x : ExtO kk O H H') {K : PySem.W.Frag} {a : Addr} {ns : List Int} (h : ScrAt K H a ns) : ScrAt K H' a ns := by
  rcases h with ⟨o, h⟩ | h
  · exact .inl ⟨o, x a _ h (.inr fun l => by intro z; cases z) (fun ps z => by cases z)⟩
  · exact .inr h
section
variable {K : PySem.W.Frag} {mg : Str → Option Value} {T : Tb} {kk : Option Addr} {O O' : Addr → Prop} {H H' : Hp}
mutual
theorem Rp.mono (x : Ext kk H H') (o : ∀ a, O' a → O a ∨ ¬ Oc H a) : ∀ {d : D} {v : V}, Rp K mg T kk O H v d → Rp K mg T kk O' H' v d
  | .non, _, h => by cases h; exact .non
  | .bl _, _, h => by cases h; exact .bl _
  | .int _, _, h => by cases h; exact .int _
  | .str _, _, h => by cases h; exact .str _
  | .tup ds, _, h => by cases h with | tup h1 h2 => exact .tup (x.sqT h1) (Rps.mono x o h2)
  | .lst ds, _, h => by
    cases h with
    | lst h1 h2 h3 h4 =>
      refine .lst (x.lst h1 h3) (fun z => ?_) h3 (Rps.mono x o h4)
      rcases o _ z with q | q
      · exact h2 q
      · exact q (.lst h1)
  | .fn _, _, h => by cases h with | fn h1 h2 => exact .fn h1 h2
  | .cup, _, h => by cases h with | cup h1 => exact .cup h1
  | .scr ns, _, h => by cases h with | scr h1 => exact .scr (scr_ext x.o (O := fun _ => False) h1)
theorem Rps.mono (x : Ext kk H H') (o : ∀ a, O' a → O a ∨ ¬ Oc H a) : ∀ {ds : List D} {vs : List V}, Rps K mg T kk O H vs ds → Rps K mg T kk O' H' vs ds
  | [], _, h => by cases h; exact .nil
  | d :: ds, _, h => by cases h with | cons h1 h2 => exact .cons (Rp.mono x o h1) (Rps.mono x o h2)
end
theorem Rp.ext (x : Ext kk H H') {d : D} {v : V} (h : Rp K mg T kk O H v d) : Rp K mg T kk O H' v d := h.mono x fun _ z => .inl z
theorem Rps.ext (x : Ext kk H H') {ds : List D} {vs : List V} (h : Rps K mg T kk O H vs ds) : Rps K mg T kk O H' vs ds := h.mono x fun _ z => .inl z
/- a list that is kept off has changed -/
mutual
theorem Rp.chg (x : ExtO kk O H H') : ∀ {d : D} {v : V}, Rp K mg T kk O H v d → Rp K mg T kk O H' v d
  | .non, _, h => by cases h; exact .non
  | .bl _, _, h => by cases h; exact .bl _
  | .int _, _, h => by cases h; exact .int _
  | .str _, _, h => by cases h; exact .str _
  | .tup ds, _, h => by
    cases h with
    | tup h1 h2 =>
      refine .tup ?_ (Rps.chg x h2)
      rcases h1 with (h1 | ⟨o, h1⟩) | h1
      · exact .inl (.inl (x _ _ h1 (.inr fun l z => by cases z) (fun ps z => by cases z)))
      · exact .inl (.inr ⟨o, x _ _ h1 (.inr fun l z => by cases z) (fun ps z => by cases z)⟩)
      · exact .inr h1
  | .lst ds, _, h => by
    cases h with
    | lst h1 h2 h3 h4 => exact .lst (x _ _ h1 (.inl ⟨h2, h3⟩) (fun ps z => by cases z)) h2 h3 (Rps.chg x h4)
  | .fn _, _, h => by cases h with | fn h1 h2 => exact .fn h1 h2
  | .cup, _, h => by cases h with | cup h1 => exact .cup h1
  | .scr ns, _, h => by cases h with | scr h1 => exact .scr (scr_ext x h1)
theorem Rps.chg (x : ExtO kk O H H') : ∀ {ds : List D} {vs : List V}, Rps K mg T kk O H vs ds → Rps K mg T kk O H' vs ds
  | [], _, h => by cases h; exact .nil
  | d :: ds, _, h => by cases h with | cons h1 h2 => exact .cons (Rp.chg x h1) (Rps.chg x h2)
end
theorem Rps.length : ∀ {ds : List D} {vs : List V}, Rps K mg T kk O H vs ds → vs.length = ds.length
  | [], _, h => by cases h; rfl
  | d :: ds, _, h => by cases h with | cons h1 h2 => simp [Rps.length h2]
theorem Rps.get : ∀ {ds : List D} {vs : List V} {i : Nat} {d : D}, Rps K mg T kk O H vs ds → ds[i]? = some d → ∃ v, vs[i]? = some v ∧ Rp K mg T kk O H v d
  | [], _, i, d, h, e => by simp at e
  | d :: ds, _, 0, d', h, e => by
    cases h with
    | cons h1 h2 => simp at e; subst e; exact ⟨_, rfl, h1⟩
  | d :: ds, _, i + 1, d', h, e => by
    cases h with
    | cons h1 h2 =>
      obtain ⟨v, e1, e2⟩ := Rps.get (i := i) h2 (by simpa using e)
      exact ⟨v, by simpa using e1, e2⟩
theorem Rps.append : ∀ {ds : List D} {vs : List V} {ds' : List D} {vs' : List V}, Rps K mg T kk O H vs ds → Rps K mg T kk O H vs' ds' → Rps K mg T kk O H (vs ++ vs') (ds ++ ds')
  | [], _, _, _, h, h' => by cases h; exact h'
  | d :: ds, _, _, _, h, h' => by cases h with | cons h1 h2 => exact .cons h1 (Rps.append h2 h')
theorem Rps.take : ∀ {ds : List D} {vs : List V} (n : Nat), Rps K mg T kk O H vs ds → Rps K mg T kk O H (vs.take n) (ds.take n)
  | _, _, 0, _ => .nil
  | [], _, n + 1, h => by cases h; exact .nil
  | d :: ds, _, n + 1, h => by cases h with | cons h1 h2 => exact .cons h1 (Rps.take n h2)
theorem Rps.drop : ∀ {ds : List D} {vs : List V} (n : Nat), Rps K mg T kk O H vs ds → Rps K mg T kk O H (vs.drop n) (ds.drop n)
  | _, _, 0, h => h
  | [], _, n + 1, h => by cases h; exact .nil
  | d :: ds, _, n + 1, h => by cases h with | cons h1 h2 => exact Rps.drop n h2
theorem Rps.set {d : D} {v : V} (r : Rp K mg T kk O H v d) : ∀ {ds : List D} {vs : List V} (n : Nat), Rps K mg T kk O H vs ds → Rps K mg T kk O H (vs.set n v) (ds.set n d)
  | [], _, _, h => by cases h; exact .nil
  | d :: ds, _, 0, h => by cases h with | cons h1 h2 => exact .cons r h2
  | d :: ds, _, n + 1, h => by cases h with | cons h1 h2 => exact .cons h1 (Rps.set r n h2)
theorem Rps.rep {ds : List D} {vs : List V} (h : Rps K mg T kk O H vs ds) : ∀ n : Nat, Rps K mg T kk O H (List.replicate n vs).flatten (List.replicate n ds).flatten
  | 0 => .nil
  | n + 1 => by
    rw [List.replicate_succ, List.replicate_succ, List.flatten_cons, List.flatten_cons]
    exact h.append (Rps.rep h n)
theorem Rps.nil_iff {ds : List D} {vs : List V} (h : Rps K mg T kk O H vs ds) : vs = [] ↔ ds = [] := by
  cases h with
  | nil => simp
  | cons h1 h2 => simp
theorem Rps.ofInts : ∀ {ds : List D} {ns : List Int} {vs : List V}, intsD ds = some ns → Rps K mg T kk O H vs ds → vs = ns.map V.int
  | [], ns, vs, e, h => by cases h; cases e; rfl
  | d :: ds, ns, vs, e, h => by
    cases h with
    | cons h1 h2 =>
      cases d with
      | int i =>
        cases q : intsD ds with
        | none => simp [intsD, q] at e
        | some r =>
          simp [intsD, q] at e
          subst e
          cases h1
          rw [Rps.ofInts q h2]
          rfl
      | _ => simp [intsD] at e
theorem Rps.ofBls : ∀ {ds : List D} {ns : List Bool} {vs : List V}, blsD ds = some ns → Rps K mg T kk O H vs ds → vs = ns.map V.bl
  | [], ns, vs, e, h => by cases h; cases e; rfl
  | d :: ds, ns, vs, e, h => by
    cases h with
    | cons h1 h2 =>
      cases d with
      | bl i =>
        cases q : blsD ds with
        | none => simp [blsD, q] at e
        | some r =>
          simp [blsD, q] at e
          subst e
          cases h1
          rw [Rps.ofBls q h2]
          rfl
      | _ => simp [blsD] at e
/- without a list within: nothing is kept off -/
mutual
theorem Rp.free : ∀ {d : D} {v : V}, d.nl = true → Rp K mg T kk O H v d → Rp K mg T kk O' H v d
  | .non, _, _, h => by cases h; exact .non
  | .bl _, _, _, h => by cases h; exact .bl _
  | .int _, _, _, h => by cases h; exact .int _
  | .str _, _, _, h => by cases h; exact .str _
  | .tup ds, _, n, h => by
    cases h with
    | tup h1 h2 => exact .tup h1 (Rps.free (ds := ds) (by simpa [D.nl] using n) h2)
  | .lst ds, _, n, h => by simp [D.nl] at n
  | .fn _, _, _, h => by cases h with | fn h1 h2 => exact .fn h1 h2
  | .cup, _, _, h => by cases h with | cup h1 => exact .cup h1
  | .scr ns, _, _, h => by cases h with | scr h1 => exact .scr h1
theorem Rps.free : ∀ {ds : List D} {vs : List V}, D.nls ds = true → Rps K mg T kk O H vs ds → Rps K mg T kk O' H vs ds
  | [], _, _, h => by cases h; exact .nil
  | d :: ds, _, n, h => by
    have n' : d.nl = true ∧ D.nls ds = true := by simpa [D.nls] using n
    cases h with
    | cons h1 h2 => exact .cons (Rp.free n'.1 h1) (Rps.free n'.2 h2)
end
end

/-! ### == -/
mutual
theorem py_lay : ∀ d : D, d.plain = true → (D.py d).canLay0 = true
  | .non, _ => by simp [D.py, PyData.canLay0]
  | .bl _, _ => by simp [D.py, PyData.canLay0]
  | .int _, _ => by simp [D.py, PyData.canLay0]
  | .str s, h => by simpa [D.py, PyData.canLay0, D.plain] using h
  | .tup l, h => by
    have := pys_lay l (by simpa [D.plain] using h)
    simpa [D.py, PyData.canLay0] using this
  | .lst l, h => by
    have := pys_lay l (by simpa [D.plain] using h)
    simpa [D.py, PyData.canLay0] using this
  | .fn _, h => by simp [D.plain] at h
  | .cup, h => by simp [D.plain] at h
  | .scr _, h => by simp [D.plain] at h
theorem pys_lay : ∀ l : List D, D.plains l = true → PyData.canLayAll0 (D.pys l) = true
  | [], _ => by simp [D.pys, PyData.canLayAll0]
  | d :: r, h => by
    have h' : d.plain = true ∧ D.plains r = true := by simpa [D.plains] using h
    simp [D.pys, PyData.canLayAll0, py_lay d h'.1, pys_lay r h'.2]
end
mutual
theorem py_deep : ∀ d : D, (D.py d).depth = d.deep
  | .non => by simp [D.py, PyData.depth, D.deep]
  | .bl _ => by simp [D.py, PyData.depth, D.deep]
  | .int _ => by simp [D.py, PyData.depth, D.deep]
  | .str s => by simp [D.py, PyData.depth, D.deep]
  | .tup l => by simp [D.py, PyData.depth, D.deep, pys_deep l]
  | .lst l => by simp [D.py, PyData.depth, D.deep, pys_deep l]
  | .fn _ => by simp [D.py, PyData.depth, D.deep]
  | .cup => by simp [D.py, PyData.depth, D.deep]
  | .scr _ => by simp [D.py, PyData.depth, D.deep]
theorem pys_deep : ∀ l : List D, PyData.depthAll (D.pys l) = D.deeps l
  | [] => by simp [D.pys, PyData.depthAll, D.deeps]
  | d :: r => by simp [D.pys, PyData.depthAll, D.deeps, py_deep d, pys_deep r]
end
theorem py_shaped {d : D} (h : d.fits = true) : SeqAt.shaped (D.py d) = true := by
  obtain ⟨h1, h2⟩ := and_t h
  unfold SeqAt.shaped
  rw [py_lay d h1, py_deep, h2]
  rfl
mutual
theorem py_eqv : ∀ d e : D, d.plain = true → e.plain = true → PyData.eqv (D.py d) (D.py e) = d.eqv e
  | .non, e, _, he => by cases e <;> simp_all [D.py, PyData.eqv, D.eqv, D.plain]
  | .bl _, e, _, he => by cases e <;> simp_all [D.py, PyData.eqv, D.eqv, D.plain]
  | .int _, e, _, he => by cases e <;> simp_all [D.py, PyData.eqv, D.eqv, D.plain]
  | .str _, e, _, he => by cases e <;> simp_all [D.py, PyData.eqv, D.eqv, D.plain]
  | .tup l, e, h, he => by
    have h' : D.plains l = true := by simpa [D.plain] using h
    cases e with
    | tup r =>
      have he' : D.plains r = true := by simpa [D.plain] using he
      simp [D.py, PyData.eqv, D.eqv, pys_eqv l r h' he']
    | _ => simp_all [D.py, PyData.eqv, D.eqv, D.plain]
  | .lst l, e, h, he => by
    have h' : D.plains l = true := by simpa [D.plain] using h
    cases e with
    | lst r =>
      have he' : D.plains r = true := by simpa [D.plain] using he
      simp [D.py, PyData.eqv, D.eqv, pys_eqv l r h' he']
    | _ => simp_all [D.py, PyData.eqv, D.eqv, D.plain]
  | .fn _, e, h, _ => by simp [D.plain] at h
  | .cup, e, h, _ => by simp [D.plain] at h
  | .scr _, e, h, _ => by simp [D.plain] at h
theorem pys_eqv : ∀ d e : List D, D.plains d = true → D.plains e = true → PyData.eqvAll (D.pys d) (D.pys e) = D.eqvs d e
  | [], e, _, _ => by cases e <;> simp [D.pys, PyData.eqvAll, D.eqvs]
  | d :: r, [], _, _ => by simp [D.pys, PyData.eqvAll, D.eqvs]
  | d :: r, e :: s, h, he => by
    have h' : d.plain = true ∧ D.plains r = true := by simpa [D.plains] using h
    have he' : e.plain = true ∧ D.plains s = true := by simpa [D.plains] using he
    simp [D.pys, PyData.eqvAll, D.eqvs, py_eqv d e h'.1 he'.1, pys_eqv r s h'.2 he'.2]
end
section
variable {K : PySem.W.Frag} {mg : Str → Option Value} {T : Tb} {kk : Option Addr} {O O' : Addr → Prop} {H H' : Hp}
mutual
theorem Rp.dp : ∀ {d : D} {v : V}, d.plain = true → Rp K mg T kk O H v d → Dp K H v (D.py d)
  | .non, _, _, h => by cases h; exact .non
  | .bl _, _, _, h => by cases h; exact .bl _
  | .int _, _, _, h => by cases h; exact .int _
  | .str _, _, _, h => by cases h; exact .str _
  | .tup ds, _, n, h => by
    cases h with
    | tup h1 h2 => simp only [D.py]; exact .tup h1 (Rps.dp (ds := ds) (by simpa [D.plain] using n) h2)
  | .lst ds, _, n, h => by
    cases h with
    | lst h1 h2 h3 h4 => simp only [D.py]; exact .lst (.of h1) (Rps.dp (ds := ds) (by simpa [D.plain] using n) h4)
  | .fn _, _, n, h => by simp [D.plain] at n
  | .cup, _, n, h => by simp [D.plain] at n
  | .scr _, _, n, h => by simp [D.plain] at n
theorem Rps.dp : ∀ {ds : List D} {vs : List V}, D.plains ds = true → Rps K mg T kk O H vs ds → DpAll K H vs (D.pys ds)
  | [], _, _, h => by cases h; exact .nil
  | d :: ds, _, n, h => by
    have n' : d.plain = true ∧ D.plains ds = true := by simpa [D.plains] using n
    cases h with
    | cons h1 h2 => exact .cons (Rp.dp n'.1 h1) (Rps.dp n'.2 h2)
end
theorem Rp.flat {d : D} {v : V} (h : Rp K mg T kk O H v d) (f : d.flat = true) : flatV v = true := by
  cases d <;> first | (exact absurd f Bool.false_ne_true) | (cases h; rfl)
theorem Rps.flat : ∀ {ds : List D} {vs : List V}, Rps K mg T kk O H vs ds → ds.all D.flat = true → vs.all flatV = true
  | [], _, h, _ => by cases h; rfl
  | d :: ds, _, h, f => by
    have f' : d.flat = true ∧ ds.all D.flat = true := by simpa using f
    cases h with
    | cons h1 h2 => rw [List.all_cons, h1.flat f'.1, Rps.flat h2 f'.2]; rfl
theorem Rp.eqV {d e : D} {v u : V} (h : Rp K mg T kk O H v d) (h' : Rp K mg T kk O H u e) (f : d.flat = true) (f' : e.flat = true) : L2.eqV v u = d.eqv e := by
  cases d <;> cases e <;> first | (exact absurd f Bool.false_ne_true) | (exact absurd f' Bool.false_ne_true) | (cases h; cases h'; simp [L2.eqV, D.eqv])
theorem Rps.inV {d : D} {v : V} (h : Rp K mg T kk O H v d) (f : d.flat = true) : ∀ {ds : List D} {vs : List V}, Rps K mg T kk O H vs ds → ds.all D.flat = true → L2.inV v vs = ds.any fun y => D.eqv y d
  | [], _, r, _ => by cases r; rfl
  | e :: ds, _, r, g => by
    have g' : e.flat = true ∧ ds.all D.flat = true := by simpa using g
    cases r with
    | cons h1 h2 =>
      have ih := Rps.inV h f h2 g'.2
      unfold L2.inV at ih ⊢
      rw [List.any_cons, List.any_cons, ih, h1.eqV h g'.1 f]
end
end Mn

set_option maxRecDepth 100000
set_option maxHeartbeats 4000000
namespace Mn
open PySem PySem.Spec PyProof.Rows L2

/-- where one stands: the draws, the addresses that are kept off -/
structure Ok (T : Tb) (kk : Option Addr) (O : Addr → Prop) (c : Cup) (H : Hp) : Prop where
  cr : Cr T kk c H
  od : ∀ a, O a → Oc H a
  ok : ∀ a, O a → kk ≠ some a
theorem Ok.ext {T : Tb} {kk : Option Addr} {O : Addr → Prop} {c c' : Cup} {H H' : Hp} (o : Ok T kk O c H) (x : Ext kk H H') (r : Cr T kk c' H') : Ok T kk O c' H' := ⟨r, fun a h => x.there r (o.od a h), o.ok⟩
theorem Cr.new {T : Tb} {kk : Option Addr} {c : Cup} {H : Hp} {p : Addr} {u : HO} (r : Cr T kk c H) (h : H p = none) : Cr T kk c (upd H p u) := ⟨fun a k => by
  have e := r.at_ a k
  rw [upd_ne (ne_of_none e h)]
  exact e, r.tb.ext fun b o e => by rw [upd_ne (ne_of_none e h)]; exact e⟩
theorem Cr.same {T : Tb} {kk : Option Addr} {c : Cup} {H H' : Hp} (r : Cr T kk c H) (s : Same H H') : Cr T kk c H' := ⟨fun a z => s _ _ (r.at_ a z), r.tb.ext s⟩
theorem tabs_wr {tt : List (Addr × Str)} {H : Hp} {D : Addr} {l l' : List V} (t : LamX.Tabs tt H) (e : H D = some (.lst l)) : LamX.Tabs tt (upd H D (.lst l')) := fun p hp => by
  obtain ⟨ps, h1, h2, h3⟩ := t p hp
  refine ⟨ps, ?_, h2, fun pos cv hc => ?_⟩
  · rw [upd_ne]
    · exact h1
    · rintro rfl; rw [e] at h1; cases h1
  · obtain ⟨c, e1, e2⟩ := h3 pos cv hc
    refine ⟨c, e1, ?_⟩
    rw [upd_ne]
    · exact e2
    · rintro rfl
      rw [e] at e2
      unfold LamX.CodeO at e2
      cases e2
theorem Cr.wr {T : Tb} {kk : Option Addr} {c : Cup} {H : Hp} {D : Addr} {l l' : List V} (r : Cr T kk c H) (e : H D = some (.lst l)) (k : kk ≠ some D) : Cr T kk c (upd H D (.lst l')) := ⟨fun a z => by
  rw [upd_ne (show a ≠ D from fun w => k (by rw [← w]; exact z))]
  exact r.at_ a z, tabs_wr r.tb e⟩
theorem Ok.free {T : Tb} {kk : Option Addr} {O : Addr → Prop} {c : Cup} {H : Hp} (o : Ok T kk O c H) {p : Addr} (h : H p = none) : ¬ O p := fun z => Oc.none h (o.od p z)
theorem Ok.nokk {T : Tb} {kk : Option Addr} {O : Addr → Prop} {c : Cup} {H : Hp} (o : Ok T kk O c H) {p : Addr} (h : H p = none) : kk ≠ some p := fun z => by
  have e := o.cr.at_ p z
  rw [h] at e; cases e
theorem Ok.wr {T : Tb} {kk : Option Addr} {O : Addr → Prop} {c : Cup} {H : Hp} {a : Addr} {l l' : List V} (k : Ok T kk O c H) (e : H a = some (.lst l)) (n : kk ≠ some a) : Ok T kk O c (upd H a (.lst l')) := ⟨k.cr.wr e n, fun b z => by
  by_cases q : b = a
  · rw [q]; exact .lst upd_same
  · obtain ⟨o, e1, e2⟩ := k.od b z
    exact ⟨o, by rw [upd_ne q]; exact e1, e2⟩, k.ok⟩
/-- a list that was not there -/
def New (K : PySem.W.Frag) (mg : Str → Option Value) (T : Tb) (kk : Option Addr) (O : Addr → Prop) (H H' : Hp) (v : V) (d : D) : Prop :=
  ∀ l, d = .lst l → ∃ a vs, v = .ref a ∧ ¬ Oc H a ∧ H' a = some (.lst vs) ∧ kk ≠ some a ∧ Rps K mg T kk (fun b => O b ∨ b = a) H' vs l
/-- what stands behind an expression -/
def Post (X : Cx) (T : Tb) (kk : Option Addr) (O : Addr → Prop) (H : Hp) (c : Cup) (d : D) (fr : Bool) (Q : VK) : Prop :=
  ∀ v H', Ext kk H H' → Cr T kk c H' → Rp X.K X.mg T kk O H' v d → (fr = true → New X.K X.mg T kk O H H' v d) → Q v H'
section
variable {X : Cx} {T : Tb} {kk : Option Addr} {O : Addr → Prop} {H H1 : Hp} {c c1 : Cup} {d : D} {fr : Bool} {Q : VK}
theorem Post.weak (p : Post X T kk O H c d false Q) : Post X T kk O H c d fr Q := fun v H' x r q _ => p v H' x r q fun z => by cases z
/-- behind a first step -/
theorem Post.after (p : Post X T kk O H c d fr Q) (x : Ext kk H H1) (cr : Cr T kk c1 H1) : Post X T kk O H1 c d fr Q := fun v H' x' r q n => p v H' (x.trans x') r q fun z l e => by
  obtain ⟨a, vs, e1, e2, e3, e4, e5⟩ := n z l e
  exact ⟨a, vs, e1, fun q => e2 (x.there cr q), e3, e4, e5⟩
theorem Post.here (p : Post X T kk O H c d fr Q) (o : Ok T kk O c H) {v : V} (r : Rp X.K X.mg T kk O H v d) (n : ∀ l, d ≠ .lst l) : Q v H := p v H (Ext.refl H) o.cr r fun _ l e => absurd e (n l)
theorem Post.lst {l : List D} (p : Post X T kk O H c (.lst l) fr Q) (o : Ok T kk O c H) {vs : List V} (r : Rps X.K X.mg T kk O H vs l) {a : Addr} (h : H a = none) : Q (.ref a) (upd H a (.lst vs)) := by
  have x : Ext kk H (upd H a (.lst vs)) := Ext.new h
  have r2 : Rps X.K X.mg T kk (fun b => O b ∨ b = a) (upd H a (.lst vs)) vs l := r.mono x fun b z => z.elim .inl fun e => .inr (e ▸ Oc.none h)
  refine p _ _ x (o.cr.new h) (.lst upd_same (o.free h) (o.nokk h) (r.ext x)) fun _ l' e => ?_
  cases e
  exact ⟨a, vs, rfl, Oc.none h, upd_same, o.nokk h, r2⟩
theorem Post.tup {l : List D} (p : Post X T kk O H c (.tup l) fr Q) (o : Ok T kk O c H) {vs : List V} (r : Rps X.K X.mg T kk O H vs l) {a : Addr} (h : H a = none) : Q (.ref a) (upd H a (.tup vs)) := by
  have x : Ext kk H (upd H a (.tup vs)) := Ext.new h
  exact p _ _ x (o.cr.new h) (.tup (.of upd_same) (r.ext x)) fun _ l' e => by cases e
end

/-! ## operations -/
def rW (X : Cx) (f : Value → Value → Sem Value) : R2 := fun x y H Q => ∀ (pins : List (Addr × Obj)) (s : Shared) (σ : L2.St) (v u : Value), Inv X pins σ H s → RelV x v → RelV y u → wpAny (model X.prog X.w) X.A (f v u) (EP X pins σ Q) X.xe s
theorem rW_op {X : Cx} {f : Value → Value → Sem Value} : OpR X f (rW X f) := fun pins s σ H x y v u Q I a b h => h pins s σ v u I a b
theorem rW_of {X : Cx} {f : Value → Value → Sem Value} {r : R2} (h : OpR X f r) {x y : V} {H : Hp} {Q : VK} (q : r x y H Q) : rW X f x y H Q := fun pins s σ v u I a b => h pins s σ H x y v u Q I a b q
theorem lineN_eq : lineN = sizeLine := by rw [sizeLine_eq]; rfl
theorem lst_eq {K : PySem.W.Frag} {mg : Str → Option Value} {T : Tb} {kk : Option Addr} {O : Addr → Prop} {H : Hp} {v : V} {l : List D} (h : Rp K mg T kk O H v (.lst l)) : ∃ a vs, v = .ref a ∧ H a = some (.lst vs) ∧ ¬ O a ∧ kk ≠ some a ∧ Rps K mg T kk O H vs l := by
  cases h with
  | lst h1 h2 h3 h4 => exact ⟨_, _, rfl, h1, h2, h3, h4⟩
theorem tup_eq {K : PySem.W.Frag} {mg : Str → Option Value} {T : Tb} {kk : Option Addr} {O : Addr → Prop} {H : Hp} {v : V} {l : List D} (h : Rp K mg T kk O H v (.tup l)) : ∃ a vs, v = .ref a ∧ SqT K H a vs ∧ Rps K mg T kk O H vs l := by
  cases h with
  | tup h1 h2 => exact ⟨_, _, rfl, h1, h2⟩
theorem int_eq {K : PySem.W.Frag} {mg : Str → Option Value} {T : Tb} {kk : Option Addr} {O : Addr → Prop} {H : Hp} {v : V} {i : Int} (h : Rp K mg T kk O H v (.int i)) : v = .int i := by cases h; rfl
theorem str_eq {K : PySem.W.Frag} {mg : Str → Option Value} {T : Tb} {kk : Option Addr} {O : Addr → Prop} {H : Hp} {v : V} {i : Str} (h : Rp K mg T kk O H v (.str i)) : v = .str i := by cases h; rfl
theorem bl_eq {K : PySem.W.Frag} {mg : Str → Option Value} {T : Tb} {kk : Option Addr} {O : Addr → Prop} {H : Hp} {v : V} {i : Bool} (h : Rp K mg T kk O H v (.bl i)) : v = .bl i := by cases h; rfl
theorem non_eq {K : PySem.W.Frag} {mg : Str → Option Value} {T : Tb} {kk : Option Addr} {O : Addr → Prop} {H : Hp} {v : V} (h : Rp K mg T kk O H v .non) : v = .non := by cases h; rfl

/-- a tuple of any length many times -/
def rRepA (K : PySem.W.Frag) : R2 := fun x y H Q => ∃ l k xs, x = .ref l ∧ y = .int k ∧ SqT K H l xs ∧ xs ≠ [] ∧ 2 ≤ k ∧ k < 16777217 ∧ xs.length * k.toNat ≤ sizeLine ∧ ∀ p, H p = none → Q (.ref p) (upd H p (.tup (List.replicate k.toNat xs).flatten))
theorem op_repA {X : Cx} : OpR X (binaryOp .Mult) (rRepA X.K) := by
  intro pins s σ H x y v u Q I rx ry h
  obtain ⟨l, k, xs, rfl, rfl, hT, hne, h1, h2, hz, q⟩ := h
  cases rx
  obtain ⟨t, rfl⟩ := ry
  obtain ⟨its, r, ⟨⟨cls, dd, data, sl⟩, ho, hc, n, hd⟩, hs⟩ := I.tuple hT
  simp only at hc hd
  subst hc hd
  have hle : its.length = xs.length := r.length.symm
  have hn : its ≠ [] := fun e => hne (by
    rw [e] at hle
    exact List.eq_nil_of_length_eq_zero hle.symm)
  have hi : its.toArray.isEmpty = false := by
    cases its with
    | nil => exact absurd rfl hn
    | cons a b => rfl
  have hsz0 : its.toArray.size = xs.length := by rw [List.size_toArray, hle]
  have hz' : xs.length * k.toNat ≤ 16777216 := by rw [sizeLine_eq] at hz; exact hz
  have hm : ((its.toArray.size : Nat) : Int) * k ≤ 16777216 := by
    rw [hsz0]
    have a0 : (k.toNat : Int) = k := Int.toNat_of_nonneg (by omega)
    rw [← a0]
    rw [← Int.natCast_mul]
    exact Int.ofNat_le.mpr hz'
  have flen : (List.replicate k.toNat its).flatten.length ≤ sizeLine := by
    rw [PyProof.Rows.lm_len_rep_flat, hle, sizeLine_eq, Nat.mul_comm]
    exact hz'
  have c0 : (decide (k < -(2 ^ 63)) || decide (k ≥ 2 ^ 63)) = false := by
    rw [decide_eq_false (by omega), decide_eq_false (by omega)] <;> rfl
  have c1 : (its.toArray.isEmpty || k == 1) = false := by
    rw [hi, Bool.false_or]
    exact beq_eq_false_iff_ne.mpr (by omega)
  have c2 : (decide (k ≤ 0) || its.toArray.isEmpty) = false := by
    rw [hi, Bool.or_false]
    exact decide_eq_false (by omega)
  have c4 : Builtin.Tuple.tupleTooMany (((its.toArray.size : Nat) : Int) * k) = false := by
    unfold Builtin.Tuple.tupleTooMany
    rw [sizeLine_eq]
    exact decide_eq_false (by omega)
  refine wpAny_binaryOp_repeat_ref (T := "tuple") (U := "int") (by decide) ⟨_, ho, rfl⟩ (fun s' => typeIs_int s' k t) noFill_tuple_mul F.fills_int_mul F.slot_int_rmul repeat_tuple F.slot_int_index.lookup
    (call_meets F.slot_int_rmul (typeIs_int s k t) F.entry_int_rmul (F.args_int_rmul_2 _ _) (int_rmul_tuple k t l its.toArray n dd sl)
      ⟨ho, rfl, ⟨_, ho, rfl⟩, call_meets F.slot_tuple_mul ⟨_, ho, rfl⟩ F.entry_tuple_mul (F.args_tuple_mul_2 _ _) (tuple_mulW l its.toArray n dd sl k t c0 c1 c2 (by omega) c4 (by rw [size_rep, List.size_toArray]; exact flen)) ⟨ho, ?_⟩⟩)
  rw [size_rep]
  refine ⟨.ref s.heap.objs.size, _, I.laid (t' := s.toks) (o := .tup (List.replicate k.toNat xs).flatten) (fun b ob q => Heap.get?_push_of_some _ q) (Nat.le_refl _) ?_, rfl, q _ (I.hok.fresh (Nat.le_refl _))⟩
  exact ⟨by rw [PyProof.Rows.lm_len_rep_flat, sizeLine_eq, Nat.mul_comm]; exact hz', _, r.rep k.toNat, IsTup.new _ _⟩
section
variable {X : Cx} {T : Tb} {kk : Option Addr} {O : Addr → Prop} {H H1 : Hp} {c c1 : Cup} {d : D} {fr : Bool} {Q : VK}
theorem bin_snd {o : Bop} {x y : D} {vx vy : V} (e : binD o x y = some d) (k : Ok T kk O c H) (rx : Rp X.K X.mg T kk O H vx x) (ry : Rp X.K X.mg T kk O H vy y) (p : Post X T kk O H c d fr Q) : rW X (binaryOp o.op) vx vy H Q := by
  unfold binD at e
  split at e
  · cases e; cases int_eq rx; cases int_eq ry
    exact rW_of op_add ⟨_, _, rfl, rfl, p.here k (.int _) (by intro l z; cases z)⟩
  · split at e
    · rename_i hz
      cases e; cases str_eq rx; cases str_eq ry
      exact rW_of op_add_str ⟨_, _, rfl, rfl, by rw [← lineN_eq]; exact hz, p.here k (.str _) (by intro l z; cases z)⟩
    · cases e
  · split at e
    · rename_i hz
      cases e
      obtain ⟨a, vs, rfl, h1, _, _, r1⟩ := lst_eq rx
      obtain ⟨b, us, rfl, h2, _, _, r2⟩ := lst_eq ry
      exact rW_of op_cat ⟨_, _, _, _, rfl, rfl, h1, h2, by rw [r1.length, r2.length, ← lineN_eq]; exact hz, fun q hq => p.lst k (r1.append r2) hq⟩
    · cases e
  · split at e
    · rename_i hz
      cases e
      obtain ⟨a, vs, rfl, h1, r1⟩ := tup_eq rx
      obtain ⟨b, us, rfl, h2, r2⟩ := tup_eq ry
      refine rW_of op_catA ⟨_, _, _, _, rfl, rfl, h1, h2, by rw [r1.length, r2.length, ← lineN_eq]; exact hz, fun e => ?_, fun e1 e2 => ?_, fun e1 e2 q hq => p.tup k (r1.append r2) hq⟩
      · rw [r1.nil_iff.mp e] at p
        exact p.here k (.tup h2 r2) (by intro l z; cases z)
      · rw [r2.nil_iff.mp e2, List.append_nil] at p
        exact p.here k (.tup h1 r1) (by intro l z; cases z)
    · cases e
  · cases e; cases int_eq rx; cases int_eq ry
    exact rW_of op_sub ⟨_, _, rfl, rfl, p.here k (.int _) (by intro l z; cases z)⟩
  · split at e
    · rename_i hz
      cases e; cases int_eq rx; cases int_eq ry
      refine rW_of op_mul ⟨_, _, rfl, rfl, ?_, p.here k (.int _) (by intro l z; cases z)⟩
      rcases hz with hz | hz
      · exact .inl ⟨by omega, by omega⟩
      · exact .inr ⟨by omega, by omega⟩
    · cases e
  · split at e
    · rename_i hz
      cases e
      obtain ⟨a, vs, rfl, h1, _, _, r1⟩ := lst_eq rx
      cases int_eq ry
      exact rW_of op_rep ⟨_, _, _, rfl, rfl, h1, by omega, by omega, by rw [r1.length, ← lineN_eq]; exact hz.2, fun q hq => p.lst k (r1.rep _) hq⟩
    · cases e
  · split at e
    · rename_i hz
      cases e
      obtain ⟨a, vs, rfl, h1, r1⟩ := tup_eq rx
      cases int_eq ry
      obtain ⟨h2, h3, h4, h5⟩ := hz
      refine rW_of op_repA ⟨_, _, _, rfl, rfl, h1, fun z => ?_, h2, h3, by rw [r1.length, ← lineN_eq]; exact h5, fun q hq => p.tup k (r1.rep _) hq⟩
      rw [r1.nil_iff.mp z] at h4
      cases h4
    · cases e
  · split at e
    · rename_i hz
      cases e; cases int_eq rx; cases int_eq ry
      exact rW_of op_fdivW ⟨_, _, rfl, rfl, hz, p.here k (.int _) (by intro l z; cases z)⟩
    · cases e
  · split at e
    · rename_i hz
      cases e; cases int_eq rx; cases int_eq ry
      exact rW_of op_mod ⟨_, _, rfl, rfl, hz, p.here k (.int _) (by intro l z; cases z)⟩
    · cases e
  · split at e
    · rename_i hz
      cases e; cases int_eq rx; cases int_eq ry
      exact rW_of op_pow ⟨_, _, rfl, rfl, ⟨hz.1, hz.2.1, by simpa using hz.2.2⟩, p.here k (.int _) (by intro l z; cases z)⟩
    · cases e
  · cases e
end
end Mn

set_option maxRecDepth 100000
set_option maxHeartbeats 4000000
/-! ## tuples of integers summed, their greatest and least; tuples enumerated -/
namespace SeqT
open PySem PySem.Spec PyProof.Rows L2
section
variable {prog : Program} {w : World} {A : Around} {E : Value → Shared → Prop} {s : Shared} {l : Addr} {xs : Array (Int × Tok)}
theorem iter_intTup {Q : Value → Shared → Prop} (hl : s.heap.IsTuple l (intItems xs))
    (h : ∀ s₂ : Shared, s₂ = { s with heap := s.heap.push { cls := .type "tuple_iterator", data := .fields #[.ref l, .int 0 0] } } →
      (s₂.heap.IsTupleIter s.heap.objs.size l 0 ∧ s₂.heap.IsTuple l (intItems xs)) → (∀ b ∈ [s.heap.objs.size, l], b < s₂.heap.objs.size) → l ≠ s.heap.objs.size → Q (.ref s.heap.objs.size) s₂) :
    wpAny (model prog w) A (pyIter (.ref l)) Q E s := by
  have hlt : l < s.heap.objs.size := by obtain ⟨_, e, _⟩ := hl; exact Heap.lt_size e
  refine wpAny_pyIter_tuple hl (h _ rfl ⟨⟨_, Heap.get?_push_size _ rfl, rfl, rfl⟩, hl.push _⟩ (fun b hb => ?_) (Nat.ne_of_lt hlt))
  show b < (s.heap.push _).objs.size
  rw [Heap.size_push]
  rcases List.mem_cons.mp hb with rfl | hb
  · exact Nat.lt_succ_self _
  · rcases List.mem_cons.mp hb with rfl | hb
    · exact Nat.lt_succ_of_lt hlt
    · cases hb
theorem old_keptT {h' : Heap} (hk : ∀ b o, b ∉ [s.heap.objs.size] → (s.heap.push { cls := .type "tuple_iterator", data := .fields #[.ref l, .int 0 0] }).get? b = some o → h'.get? b = some o) :
    ∀ b o, s.heap.get? b = some o → h'.get? b = some o := fun b o e => by
  refine hk b o (fun hm => ?_) (Heap.get?_push_of_some _ e)
  rcases List.mem_cons.mp hm with e1 | hm
  · exact absurd (e1 ▸ Heap.lt_size e) (Nat.lt_irrefl _)
  · cases hm
theorem max_intTup {Q : Value → Shared → Prop} (hh : A.handled = none) (hl : s.heap.IsTuple l (intItems xs)) (hne : 0 < xs.size)
    (h : ∀ v h' tk, (intItems xs)[argBest (fun i j => decide (numAt xs i > numAt xs j)) (xs.size - 1)]? = some v → (∀ b o, s.heap.get? b = some o → h'.get? b = some o) → Q v { s with heap := h', toks := tk }) :
    wpAny (model prog w) A (call (.builtin "max") [.ref l]) Q E s := by
  refine call_max_walk (iter_intTup hl fun s₂ e st hfp hlI => ?_)
  subst e
  refine ⟨_, _, _, _, _, _, _, rfl, Walks.tuple (A := A.in1) hh _ l hlI (intItems xs), st, hfp, by simpa [intItems] using hne, CmpOf.ints_gt (numAt xs) (fun _ _ => intItems_at), fun v h' tk hP hk => ?_⟩
  exact h v h' tk (by simpa [intItems] using hP) (old_keptT hk)
theorem min_intTup {Q : Value → Shared → Prop} (hh : A.handled = none) (hl : s.heap.IsTuple l (intItems xs)) (hne : 0 < xs.size)
    (h : ∀ v h' tk, (intItems xs)[argBest (fun i j => decide (numAt xs i < numAt xs j)) (xs.size - 1)]? = some v → (∀ b o, s.heap.get? b = some o → h'.get? b = some o) → Q v { s with heap := h', toks := tk }) :
    wpAny (model prog w) A (call (.builtin "min") [.ref l]) Q E s := by
  refine call_min_walk (iter_intTup hl fun s₂ e st hfp hlI => ?_)
  subst e
  refine ⟨_, _, _, _, _, _, _, rfl, Walks.tuple (A := A.in1) hh _ l hlI (intItems xs), st, hfp, by simpa [intItems] using hne, CmpOf.ints_lt (numAt xs) (fun _ _ => intItems_at), fun v h' tk hP hk => ?_⟩
  exact h v h' tk (by simpa [intItems] using hP) (old_keptT hk)
theorem sum_intTup {Q : Value → Shared → Prop} (hh : A.handled = none) (hl : s.heap.IsTuple l (intItems xs))
    (h : ∀ h' tk t', (∀ b o, s.heap.get? b = some o → h'.get? b = some o) → Q (.int (preSum (numAt xs) xs.size) t') { s with heap := h', toks := tk }) :
    wpAny (model prog w) A (call (.builtin "sum") [.ref l]) Q E s := by
  refine call_sum_walkG (iter_intTup hl fun s₂ e st hfp hlI => ?_)
  subst e
  refine ⟨_, _, _, _, _, _, numAt xs, rfl, Walks.tuple (A := A.in1) hh _ l hlI (intItems xs), st, hfp, (fun _ _ => intItems_at), fun h' tk t' hk => ?_⟩
  have := h h' tk t' (old_keptT hk)
  simpa [intItems] using this
variable {its : List Value} {ns : List Int} {Q : Value → Shared → Prop}
theorem sum_rawT (hh : A.handled = none) (hl : s.heap.IsTuple l its.toArray) (hi : IntsAre its ns)
    (h : ∀ h' tk t', (∀ b o, s.heap.get? b = some o → h'.get? b = some o) → Q (.int ns.sum t') { s with heap := h', toks := tk }) : wpAny (model prog w) A (call (.builtin "sum") [.ref l]) Q E s := by
  obtain ⟨xs, e⟩ := hi.allInts.items
  have hn : numsOf (intItems xs).toList = ns := by rw [← e]; exact hi.numsOf
  rw [nums_intItems] at hn
  rw [e] at hl
  refine sum_intTup hh hl fun h' tk t' hk => ?_
  have := h h' tk t' hk
  rw [preSum_eq, List.take_of_length_le (by simp), hn]; exact this
theorem max_rawT (hh : A.handled = none) (hl : s.heap.IsTuple l its.toArray) (hi : IntsAre its ns) (hne : 0 < ns.length)
    (h : ∀ h' tk M t', (∀ b o, s.heap.get? b = some o → h'.get? b = some o) → M ∈ ns → (∀ a, a ∈ ns → a ≤ M) → Q (.int M t') { s with heap := h', toks := tk }) : wpAny (model prog w) A (call (.builtin "max") [.ref l]) Q E s := by
  obtain ⟨xs, e⟩ := hi.allInts.items
  have hn : numsOf (intItems xs).toList = ns := by rw [← e]; exact hi.numsOf
  rw [nums_intItems] at hn
  subst hn
  rw [e] at hl
  have hsz : 0 < xs.size := by simpa using hne
  refine max_intTup hh hl hsz fun v h' tk hv hk => ?_
  obtain ⟨t, rfl⟩ := intItems_at hv
  obtain ⟨h1, h2⟩ := argBest_gt (numAt xs) (xs.size - 1)
  refine h h' tk _ t hk ?_ fun a ha => ?_
  · rw [numAt_eq]; exact PySem.getD_mem (by rw [List.length_map, Array.length_toList]; omega)
  · obtain ⟨j, hj, rfl⟩ := mem_getD ha
    rw [List.length_map, Array.length_toList] at hj
    rw [← numAt_eq]; exact h2 j (by omega)
theorem min_rawT (hh : A.handled = none) (hl : s.heap.IsTuple l its.toArray) (hi : IntsAre its ns) (hne : 0 < ns.length)
    (h : ∀ h' tk M t', (∀ b o, s.heap.get? b = some o → h'.get? b = some o) → M ∈ ns → (∀ a, a ∈ ns → M ≤ a) → Q (.int M t') { s with heap := h', toks := tk }) : wpAny (model prog w) A (call (.builtin "min") [.ref l]) Q E s := by
  obtain ⟨xs, e⟩ := hi.allInts.items
  have hn : numsOf (intItems xs).toList = ns := by rw [← e]; exact hi.numsOf
  rw [nums_intItems] at hn
  subst hn
  rw [e] at hl
  have hsz : 0 < xs.size := by simpa using hne
  refine min_intTup hh hl hsz fun v h' tk hv hk => ?_
  obtain ⟨t, rfl⟩ := intItems_at hv
  obtain ⟨h1, h2⟩ := argBest_lt (numAt xs) (xs.size - 1)
  refine h h' tk _ t hk ?_ fun a ha => ?_
  · rw [numAt_eq]; exact PySem.getD_mem (by rw [List.length_map, Array.length_toList]; omega)
  · obtain ⟨j, hj, rfl⟩ := mem_getD ha
    rw [List.length_map, Array.length_toList] at hj
    rw [← numAt_eq]; exact h2 j (by omega)
end
section
variable {X : Cx}
def rSumT (K : PySem.W.Frag) : List V → Hp → VK → Prop := fun vs H Q => ∃ (a : Addr) (ns : List Int), vs = [V.ref a] ∧ SqT K H a (ns.map V.int) ∧ Q (.int ns.sum) H
def rMaxT (K : PySem.W.Frag) : List V → Hp → VK → Prop := fun vs H Q => ∃ (a : Addr) (ns : List Int), vs = [V.ref a] ∧ SqT K H a (ns.map V.int) ∧ 0 < ns.length ∧ ∀ m, m ∈ ns → (∀ y, y ∈ ns → y ≤ m) → Q (.int m) H
def rMinT (K : PySem.W.Frag) : List V → Hp → VK → Prop := fun vs H Q => ∃ (a : Addr) (ns : List Int), vs = [V.ref a] ∧ SqT K H a (ns.map V.int) ∧ 0 < ns.length ∧ ∀ m, m ∈ ns → (∀ y, y ∈ ns → m ≤ y) → Q (.int m) H
theorem cr_sumT (hc : X.calm = true) : CallR X (.builtin "sum") (rSumT X.K) := by
  intro pins s σ H vs us Q I r h
  obtain ⟨a, ns, rfl, hs, q⟩ := h
  obtain ⟨its, rv, hl, _⟩ := I.tuple hs
  rw [Vals.ref1 r]
  exact sum_rawT (I.ok.hd hc) (show s.heap.IsTuple a its.toArray from hl) rv.ints fun h' tk t' hk => ⟨.int _, H, I.kept hk, ⟨_, rfl⟩, q⟩
theorem cr_maxT (hc : X.calm = true) : CallR X (.builtin "max") (rMaxT X.K) := by
  intro pins s σ H vs us Q I r h
  obtain ⟨a, ns, rfl, hs, hne, q⟩ := h
  obtain ⟨its, rv, hl, _⟩ := I.tuple hs
  rw [Vals.ref1 r]
  exact max_rawT (I.ok.hd hc) (show s.heap.IsTuple a its.toArray from hl) rv.ints hne fun h' tk m t' hk h1 h2 => ⟨.int _, H, I.kept hk, ⟨_, rfl⟩, q m h1 h2⟩
theorem cr_minT (hc : X.calm = true) : CallR X (.builtin "min") (rMinT X.K) := by
  intro pins s σ H vs us Q I r h
  obtain ⟨a, ns, rfl, hs, hne, q⟩ := h
  obtain ⟨its, rv, hl, _⟩ := I.tuple hs
  rw [Vals.ref1 r]
  exact min_rawT (I.ok.hd hc) (show s.heap.IsTuple a its.toArray from hl) rv.ints hne fun h' tk m t' hk h1 h2 => ⟨.int _, H, I.kept hk, ⟨_, rfl⟩, q m h1 h2⟩
end
/-! ### enumerate(tuple) -/
section
open Sem (wp)
open AutoSeq1 (wpAny_loadPart')
theorem meets_enumerate_newT (l : Addr) (items : Array Value) (n : Nat) (dct : Option Addr) (sl : Array (Option Value)) :
    Meets (Builtin.«enumerate.__new__» ⟨[.type "enumerate", .ref l], []⟩) (fun _ R s => s.heap.get? l = some { cls := .type "tuple", dict := dct, data := .seq items n, slots := sl } ∧
      R (.ok (.ret (.ref (s.heap.push { cls := .type "tuple_iterator", data := .fields #[.ref l, .int 0 0] }).objs.size)))
        { s with heap := (s.heap.push { cls := .type "tuple_iterator", data := .fields #[.ref l, .int 0 0] }).push { cls := .type "enumerate", data := .fields #[.none, .bool false, .ref s.heap.objs.size, rawInt 0, .none, .none] } }) :=
  .of_wp fun prog w A R s h => by
    obtain ⟨hp, g, d, tk, os⟩ := s; obtain ⟨hl, h⟩ := h
    have hsub := sub_enumerate
    have hL : Heap.IsTuple (Shared.heap ⟨hp, g, d, tk, os⟩) l items := ⟨_, hl, rfl, n, rfl⟩
    wp_walk using wpAny_loadPart' hl
    refine wpAny_stack_any fun st => wpAny_pure ?_
    split
    · rename_i c _ _ _ _ _
      cases (c == Value.type "enumerate")
      · wp_walk using wpAny_loadPart' hl, wpAny_pyIter_tuple hL
        exact ⟨_, rfl, h⟩
      · wp_walk using wpAny_loadPart' hl, wpAny_pyIter_tuple hL
        exact ⟨_, rfl, h⟩
    · wp_walk using wpAny_loadPart' hl, wpAny_pyIter_tuple hL
      exact ⟨_, rfl, h⟩
variable {prog : Program} {w : World} {A : Around} {E : Value → Shared → Prop} {s : Shared}
theorem call_enumerate_tup {l : Addr} {items : Array Value} {Q : Value → Shared → Prop} (hL : s.heap.IsTuple l items)
    (h : ∀ h', IsEnum h' (s.heap.objs.size + 1) s.heap.objs.size 0 .none → h'.IsTupleIter s.heap.objs.size l 0 → h'.objs.size = s.heap.objs.size + 2 →
      (∀ b o, s.heap.get? b = some o → h'.get? b = some o) → Q (.ref (s.heap.objs.size + 1)) { s with heap := h' }) :
    wpAny (model prog w) A (call (.type "enumerate") [.ref l]) Q E s := by
  obtain ⟨⟨c, dct, dt, sl⟩, hl, hc, n, hd⟩ := hL
  replace hc : c = .type "tuple" := hc
  replace hd : dt = .seq items n := hd
  subst hc hd
  refine callType_new F.called_enumerate (by decide) (F.typeCall_enumerate_1 _) (F.newCall_enumerate_1 _) (fun obj => F.args_object_init_2 obj _) F.entry_enumerate_new
    (meets_enumerate_newT l items n dct sl) ⟨hl, ?_⟩
  have hz : (s.heap.push { cls := .type "tuple_iterator", data := .fields #[.ref l, .int 0 0] }).objs.size = s.heap.objs.size + 1 := Heap.size_push ..
  show _ ∧ _
  rw [hz]
  have he : IsEnum ((s.heap.push { cls := .type "tuple_iterator", data := .fields #[.ref l, .int 0 0] }).push
      { cls := .type "enumerate", data := .fields #[.none, .bool false, .ref s.heap.objs.size, rawInt 0, .none, .none] }) (s.heap.objs.size + 1) s.heap.objs.size 0 .none := by
    have := Heap.get?_push_size (s.heap.push { cls := .type "tuple_iterator", data := .fields #[.ref l, .int 0 0] })
      (o := { cls := .type "enumerate", data := .fields #[.none, .bool false, .ref s.heap.objs.size, rawInt 0, .none, .none] }) rfl
    rw [hz] at this; exact this
  refine ⟨⟨_, he, rfl⟩, h _ he ⟨_, Heap.get?_push_of_some _ (Heap.get?_push_size _ rfl), rfl, rfl⟩ (by rw [Heap.size_push, hz]) fun b o x => Heap.get?_push_of_some _ (Heap.get?_push_of_some _ x)⟩
theorem enum_endT {e it a : Addr} {items : Array Value} {k : Nat} {i : Int} {old : Value} {Q : Option Value → Shared → Prop} (hh : A.handled = none) (he : IsEnum s.heap e it i old) (hit : s.heap.IsTupleIter it a k) (ht : s.heap.IsTuple a items) (hx : items[k]? = none)
    (hQ : ∀ h', Heap.ExtBut it s.heap h' → Q none { s with heap := h' }) : wpAny (model prog w) A (pyNext (.ref e)) Q E s := by
  have hT : s.TypeIs (.ref e) "enumerate" := ⟨_, he, rfl⟩
  unfold pyNext
  refine wpAny_bind (wpAny_attempt (wpAny_callSpecial?_slot (name := Str.ofString "__next__") hT F.slot_enumerate_next
    (wpAny_call_entry F.slot_enumerate_next hT F.entry_enumerate_next ?_ (F.args_enumerate_next_1 _))))
  show wpAny _ _ (field (.ref e) 2 >>= _) _ _ _
  refine wpAny_bind (wpAny_field he rfl (x := .ref it) rfl ?_)
  refine wpAny_bind (wpAny_nextOf_tuple_end (A := A.in1) hh hit ht hx fun h' x he' hx' => ?_)
  obtain ⟨o, ho, hc⟩ := hx'
  refine wpAny_bind (wpAny_isInstance (T := "StopIteration") (b := true) ⟨o, ho, hc⟩ isSubtype_stop ?_)
  exact wpAny_pure (hQ _ he')
end
/-- the tuple at a as it stands at each turn, each item in a new pair -/
def IteT (K : PySem.W.Frag) (a : Addr) : It :=
  ⟨fun i H => ∃ (xs : List V) (x : V), SqT K H a xs ∧ xs[i]? = some x, fun i H v H' => ∃ T x, v = .ref T ∧ H T = none ∧ H' = upd H T (.tup [.int (i : Nat), x]) ∧ ∀ xs, SqT K H a xs → xs[i]? = some x, fun i H => ∃ xs : List V, SqT K H a xs ∧ xs.length ≤ i⟩
theorem turn_enumT {P : Program} {w : World} {K : PySem.W.Frag} {elts : List Expr} {kk : Nat} {tpos : Pos} (a e it : Addr) :
    Turn P w K (.Tuple elts kk tpos) (IteT K a) [e, it] e (fun i h => (∃ old, IsEnum h e it ((i : Nat) : Int) old) ∧ h.IsTupleIter it a i ∧ e ≠ it ∧ e ≠ a ∧ a ≠ it) where
  mem := by simp
  obj := fun i h st b hb => by
    obtain ⟨⟨old, he⟩, ⟨o, ho, hc, hd⟩, _⟩ := st
    have e' : b = e ∨ b = it := by simpa using hb
    rcases e' with z | z
    · rw [z]; exact ⟨_, he, fun v q => nomatch q⟩
    · rw [z]; exact ⟨o, ho, fun v q => by rw [hd] at q; cases q⟩
  keep := fun i h h' st k => let ⟨⟨old, he⟩, hi, hne⟩ := st; ⟨⟨old, k e (by simp) _ he⟩, hi.at fun o q => k it (by simp) o q, hne⟩
  item := by
    intro X hP hw hK hc i pins s σ H E I hf st hg
    subst hP hw hK
    obtain ⟨⟨old, he⟩, hit, hne, hea, hai⟩ := st
    obtain ⟨xs, x, hq, hx⟩ := hg
    obtain ⟨its, rv, p, hz⟩ := I.tuple hq
    obtain ⟨u, hu, ru⟩ := rv.get hx
    have hel : e < s.heap.objs.size := Heap.lt_size he
    have hil : it < s.heap.objs.size := by obtain ⟨_, q, _⟩ := hit; exact Heap.lt_size q
    have hu' : its.toArray[i]? = some u := by simpa using hu
    have hlt : i < its.toArray.size := by
      rcases Nat.lt_or_ge i its.toArray.size with z | z
      · exact z
      · rw [Array.getElem?_eq_none z] at hu'; cases hu'
    refine wpAny_pyNext_enum_itemD (Draws.tuple (A := X.A.in1) (show X.A.in1.handled = none from I.ok.hd hc) it a hai its.toArray) he ⟨hit, show s.heap.IsTuple a its.toArray from p⟩ hlt hne (by simp [hne, hea]) fun x' h' tk hP' ho hit' hT hsz hk => ?_
    have hP' : its.toArray[i]? = some x' := hP'
    rw [hu'] at hP'
    cases hP'
    refine ⟨_, rfl, wpAny_letOwnedTupleGo_enum (s := { s with heap := h', toks := tk + 1 }) ho fun h'' he' sb => ?_⟩
    have hT2 : h''.get? s.heap.objs.size = some { cls := .type "tuple", data := .seq #[.int i tk, u] } := (sb.2 _ (Nat.ne_of_gt hel)).trans hT
    have new : ObjOk X.prog X.w (upd H s.heap.objs.size (.tup [.int (i : Nat), x])) h'' s.heap.objs.size (.tup [.int (i : Nat), x]) :=
      ⟨by show 2 ≤ sizeLine; decide, [.int i tk, u], .cons ⟨_, rfl⟩ (.cons ru .nil), ⟨_, hT2, rfl, _, rfl⟩⟩
    have I1 : Inv X pins σ (upd H s.heap.objs.size (.tup [.int (i : Nat), x])) { s with heap := h'', toks := tk + 1 } :=
      I.turnedNew (ch := [e, it]) (fun b ob hb q => (sb.2 b (fun z => hb (by simp [z]))).trans (hk b ob (fun z => hb (by simp [z])) (fun z => hb (by simp [z])) q)) hf (Nat.le_refl _) new
    refine ⟨.ref s.heap.objs.size, _, I1, rfl, ⟨_, x, rfl, I.hok.fresh (Nat.le_refl _), rfl, fun ys hy => by rw [I.tuple_inj hy hq]; exact hx⟩, ⟨⟨u, ?_⟩, hit'.1.at fun o q => (sb.2 it (Ne.symm hne)).trans q, hne, hea, hai⟩, fun b hb => ?_⟩
    · have e1 : ((i + 1 : Nat) : Int) = (i : Int) + 1 := by omega
      rw [e1]; exact he'
    · have hb' : b < s.heap.objs.size := by
        have e' : b = e ∨ b = it := by simpa using hb
        rcases e' with z | z
        · rw [z]; exact hel
        · rw [z]; exact hil
      rw [upd_ne (Nat.ne_of_lt hb')]
      exact (hf b hb).1
  done := by
    intro X hP hw hK hc i pins s σ H E I hf st hg
    subst hP hw hK
    obtain ⟨⟨old, he⟩, hit, hne, hea, hai⟩ := st
    obtain ⟨xs, hq, hx⟩ := hg
    obtain ⟨its, rv, p, hz⟩ := I.tuple hq
    obtain ⟨f0, f1, f2, f3, f4, f5⟩ := hf it (by simp)
    have hl := rv.length
    exact enum_endT (I.ok.hd hc) he hit (show s.heap.IsTuple a its.toArray from p) (by simp; omega) fun h' eb => ⟨rfl, I.turned (t' := s.toks) (fun b o hb q => eb b o hb q) f0 f1 f3 f4 f5⟩
  self := fun A i s Q E st h => let ⟨⟨_, he⟩, _⟩ := st; wpAny_pyIter_enum he h
/-- a list or a tuple -/
def iEnum2 (K : PySem.W.Frag) (ta : TA) : TI := fun σ H R => ta σ H fun vs H1 => ∃ a xs, vs = [.ref a] ∧ ((SqL K H1 a xs ∧ R (Ite K a) H1) ∨ (SqT K H1 a xs ∧ R (IteT K a) H1))
theorem pi_enum2 {X : Cx} {e : Expr} {ta : TA} {p pos tpos : Pos} {elts : List Expr} {kk : Nat} (hg : Gl X "enumerate") (hm : X.mg "enumerate" = none) (ha : PA X [e] ta) (hs : starEach [e] X.env = [(false, eval e X.env)] := by rfl) :
    PI X (.Tuple elts kk tpos) (.Call (.Name "enumerate" p) [e] [] pos) (iEnum2 X.K ta) := by
  refine ⟨fun pins s σ H R I h => ?_⟩
  refine Call_ (ld_blt I hg hm boot_enumerate (PyProof.Rows.callWith_type1 (thn (ha.run pos pins s σ H _ I h) fun us s1 ⟨vs, H1, I1, r1, q1⟩ => ?_) hs rfl))
  obtain ⟨a, xs, ex, q⟩ := q1
  subst ex
  cases r1 with
  | cons r rr =>
    cases rr
    cases r
    have fp : ∀ b ∈ [s1.heap.objs.size + 1, s1.heap.objs.size], FpOk X pins H1 b := fun b hb => by
      have e' : b = s1.heap.objs.size + 1 ∨ b = s1.heap.objs.size := by simpa using hb
      have hle : s1.heap.objs.size ≤ b := by
        rcases e' with z | z
        · rw [z]; exact Nat.le_add_right _ _
        · rw [z]; exact Nat.le_refl _
      exact I1.fpOk hle (I1.hok.fresh hle)
    rcases q with ⟨hq, q⟩ | ⟨hq, q⟩
    · obtain ⟨its, rv, p', hz⟩ := I1.list hq
      refine call_enumerate_list p'.isList fun h' he hit hsz hk => wpAny_pyIter_enum he ?_
      have I2 : Inv X pins σ H1 { s1 with heap := h' } := I1.kept (t' := s1.toks) hk
      exact ⟨s1.heap.objs.size + 1, [s1.heap.objs.size + 1, s1.heap.objs.size], _, _, H1, rfl, I2, turn_enum a (s1.heap.objs.size + 1) s1.heap.objs.size, ⟨⟨.none, he⟩, hit, Nat.succ_ne_self _⟩, fp, q⟩
    · obtain ⟨its, rv, p', hz⟩ := I1.tuple hq
      have ht : s1.heap.IsTuple a its.toArray := p'
      have hal : a < s1.heap.objs.size := by obtain ⟨_, z, _⟩ := ht; exact Heap.lt_size z
      refine call_enumerate_tup ht fun h' he hit hsz hk => wpAny_pyIter_enum he ?_
      have I2 : Inv X pins σ H1 { s1 with heap := h' } := I1.kept (t' := s1.toks) hk
      exact ⟨s1.heap.objs.size + 1, [s1.heap.objs.size + 1, s1.heap.objs.size], _, _, H1, rfl, I2, turn_enumT a (s1.heap.objs.size + 1) s1.heap.objs.size, ⟨⟨.none, he⟩, hit, Nat.succ_ne_self _, Nat.ne_of_gt (Nat.lt_succ_of_lt hal), Nat.ne_of_lt hal⟩, fp, q⟩
end SeqT

set_option maxRecDepth 100000
set_option maxHeartbeats 4000000
namespace Mn
open PySem PySem.Spec PyProof.Rows L2

def rIW (X : Cx) : R2 := fun x y H Q => ∀ (value slice : Expr) (pins : List (Addr × Obj)) (s : Shared) (σ : L2.St) (v u : Value), Inv X pins σ H s → RelV x v → RelV y u →
  subscripted slice false v u = operate [v, u] (getItem v u) → wpAny (model X.prog X.w) X.A (subscriptTail value slice v u) (EP X pins σ Q) X.xe s
theorem rIW_ix {X : Cx} : IxR X (rIW X) := fun value slice pins s σ H x y v u Q I a b h e => h value slice pins s σ v u I a b e
theorem rIW_of {X : Cx} {r : R2} (h : IxR X r) {x y : V} {H : Hp} {Q : VK} (q : r x y H Q) : rIW X x y H Q := fun value slice pins s σ v u I a b e => h value slice pins s σ H x y v u Q I a b q e
def rSW (X : Cx) : V → Option Int → Option Int → Hp → VK → Prop := fun x lo hi H Q => ∀ (pins : List (Addr × Obj)) (s : Shared) (σ : L2.St) (v vl vu : Value) (sl : Addr), Inv X pins σ H s → RelV x v → s.heap.IsSliceOf sl vl vu .none → IsPart vl lo → IsPart vu hi →
    ∃ T id, typeLookup (.type T) "__getitem__" = pure (some (.builtin id)) ∧ s.TypeIs v T ∧ wpAny (model X.prog X.w) X.A (getItem v (.ref sl)) (EP X pins σ Q) X.xe s
theorem rSW_sl {X : Cx} : SlR X (rSW X) := fun pins s σ H x v vl vu lo hi sl Q I a b c d h => h pins s σ v vl vu sl I a b c d
theorem rSW_of {X : Cx} {r : V → Option Int → Option Int → Hp → VK → Prop} (h : SlR X r) {x : V} {lo hi : Option Int} {H : Hp} {Q : VK} (q : r x lo hi H Q) : rSW X x lo hi H Q := fun pins s σ v vl vu sl I a b c d => h pins s σ H x v vl vu lo hi sl Q I a b c d q
def rCW (X : Cx) (f : Value) : List V → Hp → VK → Prop := fun xs H Q => ∀ (pins : List (Addr × Obj)) (s : Shared) (σ : L2.St) (us : List Value), Inv X pins σ H s → Vals xs us → wpAny (model X.prog X.w) X.A (call f us) (EP X pins σ Q) X.xe s
theorem rCW_c {X : Cx} {f : Value} : CallR X f (rCW X f) := fun pins s σ H xs us Q I a h => h pins s σ us I a
theorem rCW_of {X : Cx} {f : Value} {r : List V → Hp → VK → Prop} (h : CallR X f r) {xs : List V} {H : Hp} {Q : VK} (q : r xs H Q) : rCW X f xs H Q := fun pins s σ us I a => h pins s σ H xs us Q I a q
def rUW (X : Cx) (f : Value → Sem Value) : V → Hp → VK → Prop := fun x H Q => ∀ (pins : List (Addr × Obj)) (s : Shared) (σ : L2.St) (v : Value), Inv X pins σ H s → RelV x v → wpAny (model X.prog X.w) X.A (f v) (EP X pins σ Q) X.xe s
theorem rUW_u {X : Cx} {f : Value → Sem Value} : UnR X f (rUW X f) := fun pins s σ H x v Q I a h => h pins s σ v I a
theorem rUW_of {X : Cx} {f : Value → Sem Value} {r : V → Hp → VK → Prop} (h : UnR X f r) {x : V} {H : Hp} {Q : VK} (q : r x H Q) : rUW X f x H Q := fun pins s σ v I a => h pins s σ H x v Q I a q

section
variable {X : Cx} {T : Tb} {kk : Option Addr} {O : Addr → Prop} {H H1 : Hp} {c c1 : Cup} {d : D} {fr : Bool} {Q : VK}
theorem neg_snd {x : D} {vx : V} (e : negD x = some d) (k : Ok T kk O c H) (rx : Rp X.K X.mg T kk O H vx x) (p : Post X T kk O H c d fr Q) : rUW X (unaryOp .USub) vx H Q := by
  unfold negD at e
  split at e
  · cases e; cases int_eq rx
    exact rUW_of un_neg ⟨_, rfl, p.here k (.int _) (by intro l z; cases z)⟩
  · cases e
theorem pys_any : ∀ (ys : List D) (x : D), D.plains ys = true → x.plain = true → ((D.pys ys).any fun z => PyData.eqv z (D.py x)) = ys.any fun y => D.eqv y x
  | [], x, _, _ => by simp [D.pys]
  | y :: ys, x, h, hx => by
    obtain ⟨h1, h2⟩ := and_t (show (D.plain y && D.plains ys) = true by simpa [D.plains] using h)
    simp only [D.pys, List.any_cons]
    rw [py_eqv y x h1 hx, pys_any ys x h2 hx]
theorem lst_fits_tup {ys : List D} (h : (D.lst ys).fits = true) : (D.tup ys).fits = true := h
theorem plains_fits {ys : List D} (h : (D.lst ys).fits = true) : D.plains ys = true := (and_t h).1
theorem op_inT (hu : X.A.units + 65 < cLine) : OpR X (compareOp .In) (fun x y H Q => ∃ d ds, Dp X.K H x d ∧ Dp X.K H y (.tuple ds) ∧ SeqAt.shaped d = true ∧ PyData.canLayAll0 ds = true ∧ Q (.bl (ds.any fun z => PyData.eqv z d)) H) := by
  intro pins s σ H x y v u Q I rx ry h
  obtain ⟨d, ds, hd, he, sd, se, q⟩ := h
  obtain ⟨as, r1⟩ := Dp.reads I d x v hd rx
  obtain ⟨bs, r2⟩ := Dp.reads I (.tuple ds) y u he ry
  exact SeqAt.in_tuple_reads r2 r1 se (SeqAt.canLay_of_shaped sd) (room_in_shaped sd hu) ⟨.bl _, H, I, rfl, q⟩
theorem op_notInT (hu : X.A.units + 65 < cLine) : OpR X (compareOp .NotIn) (fun x y H Q => ∃ d ds, Dp X.K H x d ∧ Dp X.K H y (.tuple ds) ∧ SeqAt.shaped d = true ∧ PyData.canLayAll0 ds = true ∧ Q (.bl (!ds.any fun z => PyData.eqv z d)) H) := by
  intro pins s σ H x y v u Q I rx ry h
  obtain ⟨d, ds, hd, he, sd, se, q⟩ := h
  obtain ⟨as, r1⟩ := Dp.reads I d x v hd rx
  obtain ⟨bs, r2⟩ := Dp.reads I (.tuple ds) y u he ry
  exact SeqAt.notIn_tuple_reads r2 r1 se (SeqAt.canLay_of_shaped sd) (room_in_shaped sd hu) ⟨.bl _, H, I, rfl, q⟩
theorem in_snd {x : D} {ys : List D} {b : Bool} (e : inD x ys = some b) : b = (ys.any fun y => D.eqv y x) ∧ ((x.flat = true ∧ ys.all D.flat = true) ∨ (x.fits = true ∧ (D.lst ys).fits = true)) := by
  unfold inD at e
  split at e
  · rename_i hz
    cases e
    exact ⟨rfl, .inl (and_t hz)⟩
  · split at e
    · rename_i hz
      cases e
      exact ⟨rfl, .inr (and_t hz)⟩
    · cases e
theorem cmp_snd {o : Cop} {x y : D} {b : Bool} {vx vy : V} (hu' : X.A.units + 65 < cLine) (e : cmpD o x y = some b) (k : Ok T kk O c H) (rx : Rp X.K X.mg T kk O H vx x) (ry : Rp X.K X.mg T kk O H vy y) (p : Q (.bl b) H) : rW X (compareOp o.op) vx vy H Q := by
  have hu : X.A.units + 64 < cLine := by omega
  unfold cmpD at e
  split at e
  · split at e
    · rename_i hz
      obtain ⟨h1, h2⟩ := and_t hz
      cases e
      refine rW_of (op_eqD hu) ⟨_, _, rx.dp (and_t h1).1, ry.dp (and_t h2).1, py_shaped h1, py_shaped h2, ?_⟩
      rw [py_eqv _ _ (and_t h1).1 (and_t h2).1]
      exact p
    · cases e
  · split at e
    · rename_i hz
      obtain ⟨h1, h2⟩ := and_t hz
      cases e
      refine rW_of (op_neD hu) ⟨_, _, rx.dp (and_t h1).1, ry.dp (and_t h2).1, py_shaped h1, py_shaped h2, ?_⟩
      rw [py_eqv _ _ (and_t h1).1 (and_t h2).1]
      exact p
    · cases e
  · cases e; cases int_eq rx; cases int_eq ry
    exact rW_of op_lt ⟨_, _, rfl, rfl, p⟩
  · cases e; cases int_eq rx; cases int_eq ry
    exact rW_of op_le ⟨_, _, rfl, rfl, p⟩
  · cases e; cases int_eq rx; cases int_eq ry
    exact rW_of op_gt ⟨_, _, rfl, rfl, p⟩
  · cases e; cases int_eq rx; cases int_eq ry
    exact rW_of op_ge ⟨_, _, rfl, rfl, p⟩
  · cases e; cases bl_eq rx; cases bl_eq ry
    exact rW_of op_isBl ⟨_, _, rfl, rfl, p⟩
  · cases e; cases non_eq ry
    refine rW_of op_isN ⟨rfl, ?_⟩
    have q : decide (vx = .non) = x.isNon := by cases x <;> cases rx <;> simp [D.isNon]
    rw [q]; exact p
  · cases e; cases bl_eq rx; cases bl_eq ry
    exact rW_of op_notBl ⟨_, _, rfl, rfl, p⟩
  · cases e; cases non_eq ry
    refine rW_of op_notN ⟨rfl, ?_⟩
    have q : decide (vx = .non) = x.isNon := by cases x <;> cases rx <;> simp [D.isNon]
    rw [q]; exact p
  · have ry' := ry
    obtain ⟨a, vs, rfl, h1, r1⟩ := tup_eq ry
    obtain ⟨f0, f⟩ := in_snd e
    subst f0
    rcases f with ⟨f1, f2⟩ | ⟨f1, f2⟩
    · refine rW_of op_in_seq ⟨a, vs, rfl, .inr h1, rx.flat f1, r1.flat f2, ?_⟩
      rw [Rps.inV rx f1 r1 f2]
      exact p
    · refine rW_of (op_inT hu') ⟨_, _, rx.dp (and_t f1).1, ry'.dp (and_t (lst_fits_tup f2)).1, py_shaped f1, pys_lay _ (plains_fits f2), ?_⟩
      rw [pys_any _ _ (plains_fits f2) (and_t f1).1]
      exact p
  · have ry' := ry
    obtain ⟨a, vs, rfl, h1, _, _, r1⟩ := lst_eq ry
    obtain ⟨f0, f⟩ := in_snd e
    subst f0
    rcases f with ⟨f1, f2⟩ | ⟨f1, f2⟩
    · refine rW_of op_in_seq ⟨a, vs, rfl, .inl (.of h1), rx.flat f1, r1.flat f2, ?_⟩
      rw [Rps.inV rx f1 r1 f2]
      exact p
    · refine rW_of (op_inD hu') ⟨_, _, rx.dp (and_t f1).1, ry'.dp (and_t f2).1, py_shaped f1, py_shaped f2, ?_⟩
      rw [pys_any _ _ (plains_fits f2) (and_t f1).1]
      exact p
  · have ry' := ry
    obtain ⟨a, vs, rfl, h1, r1⟩ := tup_eq ry
    obtain ⟨b', e1, e2⟩ := Option.map_eq_some_iff.mp e
    subst e2
    obtain ⟨f0, f⟩ := in_snd e1
    subst f0
    rcases f with ⟨f1, f2⟩ | ⟨f1, f2⟩
    · refine rW_of op_notIn_seq ⟨a, vs, rfl, .inr h1, rx.flat f1, r1.flat f2, ?_⟩
      rw [Rps.inV rx f1 r1 f2]
      exact p
    · refine rW_of (op_notInT hu') ⟨_, _, rx.dp (and_t f1).1, ry'.dp (and_t (lst_fits_tup f2)).1, py_shaped f1, pys_lay _ (plains_fits f2), ?_⟩
      rw [pys_any _ _ (plains_fits f2) (and_t f1).1]
      exact p
  · have ry' := ry
    obtain ⟨a, vs, rfl, h1, _, _, r1⟩ := lst_eq ry
    obtain ⟨b', e1, e2⟩ := Option.map_eq_some_iff.mp e
    subst e2
    obtain ⟨f0, f⟩ := in_snd e1
    subst f0
    rcases f with ⟨f1, f2⟩ | ⟨f1, f2⟩
    · refine rW_of op_notIn_seq ⟨a, vs, rfl, .inl (.of h1), rx.flat f1, r1.flat f2, ?_⟩
      rw [Rps.inV rx f1 r1 f2]
      exact p
    · refine rW_of (op_notInD hu') ⟨_, _, rx.dp (and_t f1).1, ry'.dp (and_t f2).1, py_shaped f1, py_shaped f2, ?_⟩
      rw [pys_any _ _ (plains_fits f2) (and_t f1).1]
      exact p
  · cases e
theorem at_get {vs : List V} {l : List D} {i : Int} (r : Rps X.K X.mg T kk O H vs l) (e : Mn.atI l i = some d) : ∃ v, L2.atI vs i = some v ∧ Rp X.K X.mg T kk O H v d := by
  unfold Mn.atI Mn.ixN at e
  unfold L2.atI
  rw [r.length]
  cases q : L2.ixN l.length i with
  | none => rw [q] at e; cases e
  | some j =>
    rw [q] at e
    obtain ⟨v, e1, e2⟩ := r.get (show l[j]? = some d from e)
    exact ⟨v, e1, e2⟩
theorem ix_snd {x y : D} {vx vy : V} (e : ixD c x y = some d) (k : Ok T kk O c H) (rx : Rp X.K X.mg T kk O H vx x) (ry : Rp X.K X.mg T kk O H vy y) (p : Post X T kk O H c d false Q) : rIW X vx vy H Q := by
  have fin : ∀ {v}, Rp X.K X.mg T kk O H v d → Q v H := fun r => p _ H (Ext.refl H) k.cr r fun z => by cases z
  unfold ixD at e
  split at e
  · cases int_eq ry
    obtain ⟨a, vs, rfl, h1, r1⟩ := tup_eq rx
    obtain ⟨v, e1, e2⟩ := at_get r1 e
    exact rIW_of ix_tup ⟨_, _, _, _, rfl, rfl, h1, e1, fin e2⟩
  · cases int_eq ry
    obtain ⟨a, vs, rfl, h1, _, _, r1⟩ := lst_eq rx
    obtain ⟨v, e1, e2⟩ := at_get r1 e
    exact rIW_of ix_list ⟨_, _, _, _, rfl, rfl, .of h1, e1, fin e2⟩
  · cases int_eq ry
    cases rx with
    | @cup a h =>
      have h1 := k.cr.at_ a h
      split at e
      · rename_i hz
        subst hz; cases e
        exact rIW_of ix_list ⟨_, _, _, _, rfl, rfl, .of h1, rfl, fin (.int _)⟩
      · split at e
        · rename_i hz
          subst hz; cases e
          exact rIW_of ix_list ⟨_, _, _, _, rfl, rfl, .of h1, rfl, fin (.int _)⟩
        · cases e
  · cases e
theorem cut_rps {vs : List V} {l : List D} (r : Rps X.K X.mg T kk O H vs l) (lo hi : Option Int) : Rps X.K X.mg T kk O H (cutV vs lo hi) (cutL l lo hi) := by
  unfold cutV cutL
  rw [r.length]
  exact (r.drop _).take _
theorem sl_snd {x : D} {lo hi : Option D} {vx : V} {l h : Option Int} (el : partD lo = some l) (eh : partD hi = some h) (e : slD x lo hi none = some d) (k : Ok T kk O c H) (rx : Rp X.K X.mg T kk O H vx x) (p : Post X T kk O H c d fr Q) : rSW X vx l h H Q := by
  unfold slD at e
  rw [el, eh] at e
  dsimp only at e
  split at e
  · cases e
    obtain ⟨a, vs, rfl, h1, r1⟩ := tup_eq rx
    refine rSW_of sl_tupA ⟨a, vs, rfl, h1, fun z => ?_, fun _ q hq => p.tup k (cut_rps r1 _ _) hq⟩
    refine p.here k (.tup h1 ?_) (by intro l z; cases z)
    have e1 := cut_rps r1 l h
    have e2 : cutV vs l h = vs := by
      unfold cutV
      rw [z.1, z.2]
      simp
    rw [e2] at e1
    exact e1
  · cases e
    obtain ⟨a, vs, rfl, h1, _, _, r1⟩ := lst_eq rx
    exact rSW_of sl_list ⟨a, vs, rfl, .of h1, fun q hq => p.lst k (cut_rps r1 _ _) hq⟩
  · cases e
theorem maxL_max : ∀ (r : List Int) (n : Int), maxL n r ∈ n :: r ∧ ∀ y, y ∈ n :: r → y ≤ maxL n r
  | [], n => ⟨by simp [maxL], fun y h => by simp at h; simp [maxL, h]⟩
  | x :: r, n => by
    unfold maxL
    obtain ⟨h1, h2⟩ := maxL_max r (if n < x then x else n)
    refine ⟨?_, fun y h => ?_⟩
    · rcases List.mem_cons.mp h1 with h | h
      · rw [h]; split <;> simp
      · simp [h]
    · have q := h2 (if n < x then x else n) (by simp)
      rcases List.mem_cons.mp h with rfl | h
      · refine Int.le_trans ?_ q; split <;> omega
      · rcases List.mem_cons.mp h with rfl | h
        · refine Int.le_trans ?_ q; split <;> omega
        · exact h2 y (by simp [h])
theorem minL_min : ∀ (r : List Int) (n : Int), minL n r ∈ n :: r ∧ ∀ y, y ∈ n :: r → minL n r ≤ y
  | [], n => ⟨by simp [minL], fun y h => by simp at h; simp [minL, h]⟩
  | x :: r, n => by
    unfold minL
    obtain ⟨h1, h2⟩ := minL_min r (if x < n then x else n)
    refine ⟨?_, fun y h => ?_⟩
    · rcases List.mem_cons.mp h1 with h | h
      · rw [h]; split <;> simp
      · simp [h]
    · have q := h2 (if x < n then x else n) (by simp)
      rcases List.mem_cons.mp h with rfl | h
      · refine Int.le_trans q ?_; split <;> omega
      · rcases List.mem_cons.mp h with rfl | h
        · refine Int.le_trans q ?_; split <;> omega
        · exact h2 y (by simp [h])
/-- a built-in as it is called -/
def Bi.val : Bi → Value
  | .len => .builtin "len" | .int => .type "int" | .abs => .builtin "abs" | .sum => .builtin "sum" | .max => .builtin "max" | .min => .builtin "min" | .all => .builtin "all" | .any => .builtin "any"
  | .tuple => .type "tuple" | .list => .type "list" | .str => .type "str" | .sorted => .builtin "sorted"
theorem Rps.one {v : D} {vs : List V} (r : Rps X.K X.mg T kk O H vs [v]) : ∃ u, vs = [u] ∧ Rp X.K X.mg T kk O H u v := by
  cases r with
  | cons h1 h2 => cases h2; exact ⟨_, rfl, h1⟩
theorem Rps.two {v w : D} {vs : List V} (r : Rps X.K X.mg T kk O H vs [v, w]) : ∃ u u', vs = [u, u'] ∧ Rp X.K X.mg T kk O H u v ∧ Rp X.K X.mg T kk O H u' w := by
  cases r with
  | cons h1 h2 =>
    obtain ⟨u, rfl, h3⟩ := Rps.one h2
    exact ⟨_, _, rfl, h1, h3⟩
theorem rps_ints : ∀ ns : List Int, Rps X.K X.mg T kk O H (ns.map V.int) (ns.map .int)
  | [] => .nil
  | n :: ns => .cons (.int n) (rps_ints ns)
theorem each_of {s : Shared} {pins : List (Addr × Obj)} {σ : L2.St} (I : Inv X pins σ H s) : ∀ {ws : List V} {its : List Value} {l : List D}, Vals ws its → Rps X.K X.mg T kk O H ws l → D.plains l = true →
    PySem.W.EachIs (fun (v : Value) (d : D) => ∃ x, RelV x v ∧ Rp X.K X.mg T kk O H x d) its l ∧ PySem.W.EachIs (fun (v : Value) (d : D) => ∃ as, Reads s.heap v (D.py d) as) its l
  | _, _, _, .nil, r, _ => by cases r; exact ⟨.nil, .nil⟩
  | _, _, _, .cons v vs, r, n => by
    cases r with
    | cons h1 h2 =>
      obtain ⟨n1, n2⟩ := and_t (show (D.plain _ && D.plains _) = true from n)
      obtain ⟨i1, i2⟩ := each_of I vs h2 n2
      exact ⟨.cons ⟨_, v, h1⟩ i1, .cons (Dp.reads I _ _ _ (h1.dp n1) v) i2⟩
theorem of_each : ∀ {its : List Value} {l : List D}, PySem.W.EachIs (fun (v : Value) (d : D) => ∃ x, RelV x v ∧ Rp X.K X.mg T kk O H x d) its l → ∃ ws, Vals ws its ∧ Rps X.K X.mg T kk O H ws l
  | _, _, .nil => ⟨[], .nil, .nil⟩
  | _, _, .cons ⟨x, h1, h2⟩ r => by
    obtain ⟨ws, i1, i2⟩ := of_each r
    exact ⟨x :: ws, .cons h1 i1, .cons h2 i2⟩
theorem tupNE_py {d : D} (h : tupNE d = true) : ∃ x r, D.py d = .tuple (x :: r) := by
  unfold tupNE at h
  split at h
  · rename_i hd tl
    exact ⟨D.py hd, D.pys tl, by simp [D.py, D.pys]⟩
  · cases h
theorem notNT_py {d : D} (h : notNT d = true) : D.py d ≠ .none ∧ ∀ xs, D.py d ≠ .tuple xs := by
  cases d <;> first | (cases h; done) | simp [D.py]
theorem sorted_snd {l : List D} {a : Addr} {ws : List V} (hu : X.A.units + 64 < cLine) (hs : srtOk l = true) (k : Ok T kk O c H) (h1 : H a = some (.lst ws)) (r2 : Rps X.K X.mg T kk O H ws l) (p : Post X T kk O H c (.lst (srtD l)) fr Q) : rCW X (.builtin "sorted") [.ref a] H Q := by
  obtain ⟨g1, g2, g3, g4, g5⟩ := and5 hs
  intro pins s σ us I rv
  rw [Vals.ref1 rv]
  obtain ⟨its, r, hl, hz⟩ := I.list (.of h1)
  obtain ⟨e1, e2⟩ := each_of I r r2 g1
  have hal : PySem.W.AllAlike (l.map D.py) := fun d hd d' hd' => by
    obtain ⟨x, hx, rfl⟩ := List.mem_map.mp hd
    obtain ⟨y, hy, rfl⟩ := List.mem_map.mp hd'
    exact List.all_eq_true.mp (List.all_eq_true.mp g4 x hx) y hy
  have hk : PySem.W.Sortable (l.map D.py) := by
    rcases Bool.or_eq_true _ _ ▸ g5 with g | g
    · exact .inl fun d hd => by
        obtain ⟨x, hx, rfl⟩ := List.mem_map.mp hd
        exact tupNE_py (List.all_eq_true.mp g x hx)
    · exact .inr fun d hd => by
        obtain ⟨x, hx, rfl⟩ := List.mem_map.mp hd
        exact notNT_py (List.all_eq_true.mp g x hx)
  have hdp : ∀ b ∈ l, b.deep ≤ 60 := by
    have : ∀ (l : List D) (k : Nat), D.deeps l ≤ k → ∀ d ∈ l, d.deep ≤ k := by
      intro l
      induction l with
      | nil => intro k _ d hd; simp at hd
      | cons x r ih =>
        intro k hk d hd
        have hk : max (D.deep x) (D.deeps r) ≤ k := hk
        rcases List.mem_cons.mp hd with rfl | hd
        · omega
        · exact ih k (by omega) d hd
    exact this l 60 (of_decide_eq_true g2)
  refine PySem.W.sorted_data hl.isList e1 e2 hal hk (by rw [← lineN_eq]; exact of_decide_eq_true g3) (fun b hb => by
    have := hdp b hb
    rw [py_deep]
    omega) fun out ho eo => ?_
  obtain ⟨ws', v1, v2⟩ := of_each eo
  obtain ⟨ep, he'⟩ := PyProof.Rows.sortedAll_at s.heap its out.toArray
  have hlen : ws'.length ≤ sizeLine := by
    rw [v1.length, ho, ← lineN_eq]
    exact of_decide_eq_true g3
  exact ⟨.ref _, upd H (s.heap.objs.size + 1) (.lst ws'), I.laid (t' := s.toks) (fun _ _ => PyProof.Rows.sortedAll_old) (Nat.le_succ _) ⟨hlen, out, ep, v1, he'⟩, rfl, p.lst k v2 (I.hok.fresh (Nat.le_succ _))⟩
theorem sorted_short {l : List D} {a : Addr} {ws : List V} (hs : l.length < 2) (k : Ok T kk O c H) (h1 : H a = some (.lst ws)) (r2 : Rps X.K X.mg T kk O H ws l) (p : Post X T kk O H c (.lst l) fr Q) : rCW X (.builtin "sorted") [.ref a] H Q := by
  intro pins s σ us I rv
  rw [Vals.ref1 rv]
  obtain ⟨its, r, hl, hz⟩ := I.list (.of h1)
  have hn : its.length < 2 := by rw [← r.length, r2.length]; exact hs
  refine SrtO.sorted_ord (ltv := SrtO.ltIv) SrtO.swo_int hl.isList (by rw [← r.length]; exact hz) (fun h2 => absurd h2 (by omega)) fun out g1 g2 => ?_
  have eo : out = its := by
    have hp := g2.perm
    match its, hn with
    | [], _ => exact List.perm_nil.mp hp
    | [x], _ => exact List.perm_singleton.mp hp
    | _ :: _ :: _, hn => exact absurd hn (by simp only [List.length_cons]; omega)
  obtain ⟨ep, he'⟩ := PyProof.Rows.sortedAll_at s.heap its out.toArray
  subst eo
  exact ⟨.ref _, upd H (s.heap.objs.size + 1) (.lst ws), I.laid (t' := s.toks) (fun _ _ => PyProof.Rows.sortedAll_old) (Nat.le_succ _) ⟨hz, out, ep, r, he'⟩, rfl, p.lst k r2 (I.hok.fresh (Nat.le_succ _))⟩
theorem bi_snd {b : Bi} {ds : List D} {vs : List V} (hc : X.calm = true) (hu : X.A.units + 64 < cLine) (e : biD b ds = some d) (k : Ok T kk O c H) (r : Rps X.K X.mg T kk O H vs ds) (p : Post X T kk O H c d fr Q) : rCW X b.val vs H Q := by
  unfold biD at e
  split at e
  · cases e
    obtain ⟨u, rfl, r1⟩ := Rps.one r
    obtain ⟨a, ws, rfl, h1, r2⟩ := tup_eq r1
    refine rCW_of call_len_seq ⟨a, ws, rfl, .inr h1, ?_⟩
    rw [r2.length]
    exact p.here k (.int _) (by intro l z; cases z)
  · cases e
    obtain ⟨u, rfl, r1⟩ := Rps.one r
    obtain ⟨a, ws, rfl, h1, _, _, r2⟩ := lst_eq r1
    refine rCW_of call_len_seq ⟨a, ws, rfl, .inl (.of h1), ?_⟩
    rw [r2.length]
    exact p.here k (.int _) (by intro l z; cases z)
  · split at e
    · rename_i hz
      cases e
      obtain ⟨u, rfl, r1⟩ := Rps.one r
      cases str_eq r1
      exact rCW_of call_len_str ⟨_, rfl, by rw [← lineN_eq]; exact hz, p.here k (.int _) (by intro l z; cases z)⟩
    · cases e
  · cases e
    obtain ⟨u, rfl, r1⟩ := Rps.one r
    cases int_eq r1
    exact rCW_of call_int1 (.inl ⟨_, rfl, p.here k (.int _) (by intro l z; cases z)⟩)
  · cases e
    obtain ⟨u, rfl, r1⟩ := Rps.one r
    cases bl_eq r1
    exact rCW_of call_int1 (.inr ⟨_, rfl, p.here k (.int _) (by intro l z; cases z)⟩)
  · cases e
    obtain ⟨u, rfl, r1⟩ := Rps.one r
    cases int_eq r1
    exact rCW_of call_abs ⟨_, rfl, p.here k (.int _) (by intro l z; cases z)⟩
  · obtain ⟨ns, e1, e2⟩ := Option.map_eq_some_iff.mp e
    subst e2
    obtain ⟨u, rfl, r1⟩ := Rps.one r
    obtain ⟨a, ws, rfl, h1, _, _, r2⟩ := lst_eq r1
    have e3 := Rps.ofInts e1 r2
    subst e3
    exact rCW_of (cr_sum hc) ⟨a, ns, rfl, .of h1, p.here k (.int _) (by intro l z; cases z)⟩
  · split at e
    · rename_i n ns e1
      cases e
      obtain ⟨u, rfl, r1⟩ := Rps.one r
      obtain ⟨a, ws, rfl, h1, _, _, r2⟩ := lst_eq r1
      have e3 := Rps.ofInts e1 r2
      subst e3
      refine rCW_of (cr_max hc) ⟨a, n :: ns, rfl, .of h1, by simp, fun m hm hb => ?_⟩
      obtain ⟨q1, q2⟩ := maxL_max ns n
      have : m = maxL n ns := Int.le_antisymm (q2 m hm) (hb _ q1)
      rw [this]
      exact p.here k (.int _) (by intro l z; cases z)
    · cases e
  · split at e
    · rename_i n ns e1
      cases e
      obtain ⟨u, rfl, r1⟩ := Rps.one r
      obtain ⟨a, ws, rfl, h1, _, _, r2⟩ := lst_eq r1
      have e3 := Rps.ofInts e1 r2
      subst e3
      refine rCW_of (cr_min hc) ⟨a, n :: ns, rfl, .of h1, by simp, fun m hm hb => ?_⟩
      obtain ⟨q1, q2⟩ := minL_min ns n
      have : m = minL n ns := Int.le_antisymm (hb _ q1) (q2 m hm)
      rw [this]
      exact p.here k (.int _) (by intro l z; cases z)
    · cases e
  · cases e
    obtain ⟨u, u', rfl, r1, r2⟩ := Rps.two r
    cases int_eq r1; cases int_eq r2
    exact rCW_of (call_max2 hc) ⟨_, _, rfl, p.here k (.int _) (by intro l z; cases z)⟩
  · cases e
    obtain ⟨u, u', rfl, r1, r2⟩ := Rps.two r
    cases int_eq r1; cases int_eq r2
    exact rCW_of (call_min2 hc) ⟨_, _, rfl, p.here k (.int _) (by intro l z; cases z)⟩
  · obtain ⟨ns, e1, e2⟩ := Option.map_eq_some_iff.mp e
    subst e2
    obtain ⟨u, rfl, r1⟩ := Rps.one r
    obtain ⟨a, ws, rfl, h1, _, _, r2⟩ := lst_eq r1
    have e3 := Rps.ofBls e1 r2
    subst e3
    exact rCW_of (cr_all hc) ⟨a, ns, rfl, .of h1, p.here k (.bl _) (by intro l z; cases z)⟩
  · obtain ⟨ns, e1, e2⟩ := Option.map_eq_some_iff.mp e
    subst e2
    obtain ⟨u, rfl, r1⟩ := Rps.one r
    obtain ⟨a, ws, rfl, h1, _, _, r2⟩ := lst_eq r1
    have e3 := Rps.ofBls e1 r2
    subst e3
    exact rCW_of (cr_any hc) ⟨a, ns, rfl, .of h1, p.here k (.bl _) (by intro l z; cases z)⟩
  · cases e
    obtain ⟨u, rfl, r1⟩ := Rps.one r
    obtain ⟨a, ws, rfl, h1, _, _, r2⟩ := lst_eq r1
    exact rCW_of call_tuple_of ⟨a, ws, rfl, .inl ⟨.of h1, fun q hq => p.tup k r2 hq⟩⟩
  · cases e
    obtain ⟨u, rfl, r1⟩ := Rps.one r
    obtain ⟨a, ws, rfl, h1, r2⟩ := tup_eq r1
    exact rCW_of call_tuple_of ⟨a, ws, rfl, .inr ⟨h1, p.here k r1 (by intro l z; cases z)⟩⟩
  · cases e
    obtain ⟨u, rfl, r1⟩ := Rps.one r
    obtain ⟨a, ws, rfl, h1, _, _, r2⟩ := lst_eq r1
    exact rCW_of call_list_of ⟨a, ws, rfl, .inl (.of h1), fun q hq => p.lst k r2 hq⟩
  · cases e
    obtain ⟨u, rfl, r1⟩ := Rps.one r
    rename_i ns
    cases r1 with
    | @scr a _ h1 => exact rCW_of call_list_of ⟨a, _, rfl, .inl h1.sq, fun q hq => p.lst k (rps_ints ns) hq⟩
  · cases e
    obtain ⟨u, rfl, r1⟩ := Rps.one r
    obtain ⟨a, ws, rfl, h1, r2⟩ := tup_eq r1
    exact rCW_of call_list_of ⟨a, ws, rfl, .inr h1, fun q hq => p.lst k r2 hq⟩
  · split at e
    · rename_i hz
      cases e
      obtain ⟨u, rfl, r1⟩ := Rps.one r
      cases int_eq r1
      exact rCW_of call_str_int ⟨_, rfl, hz, p.here k (.str _) (by intro l z; cases z)⟩
    · cases e
  · split at e
    · rename_i hz
      cases e
      obtain ⟨u, rfl, r1⟩ := Rps.one r
      obtain ⟨a, ws, rfl, h1, _, _, r2⟩ := lst_eq r1
      exact sorted_short hz k h1 r2 p
    · split at e
      · rename_i hz
        cases e
        obtain ⟨u, rfl, r1⟩ := Rps.one r
        obtain ⟨a, ws, rfl, h1, _, _, r2⟩ := lst_eq r1
        exact sorted_snd hu hz k h1 r2 p
      · cases e
  · obtain ⟨ns, e1, e2⟩ := Option.map_eq_some_iff.mp e
    subst e2
    obtain ⟨u, rfl, r1⟩ := Rps.one r
    obtain ⟨a, ws, rfl, h1, r2⟩ := tup_eq r1
    have e3 := Rps.ofInts e1 r2
    subst e3
    exact rCW_of (SeqT.cr_sumT hc) ⟨a, ns, rfl, h1, p.here k (.int _) (by intro l z; cases z)⟩
  · split at e
    · rename_i n ns e1
      cases e
      obtain ⟨u, rfl, r1⟩ := Rps.one r
      obtain ⟨a, ws, rfl, h1, r2⟩ := tup_eq r1
      have e3 := Rps.ofInts e1 r2
      subst e3
      refine rCW_of (SeqT.cr_maxT hc) ⟨a, n :: ns, rfl, h1, by simp, fun m hm hb => ?_⟩
      obtain ⟨q1, q2⟩ := maxL_max ns n
      have : m = maxL n ns := Int.le_antisymm (q2 m hm) (hb _ q1)
      rw [this]
      exact p.here k (.int _) (by intro l z; cases z)
    · cases e
  · split at e
    · rename_i n ns e1
      cases e
      obtain ⟨u, rfl, r1⟩ := Rps.one r
      obtain ⟨a, ws, rfl, h1, r2⟩ := tup_eq r1
      have e3 := Rps.ofInts e1 r2
      subst e3
      refine rCW_of (SeqT.cr_minT hc) ⟨a, n :: ns, rfl, h1, by simp, fun m hm hb => ?_⟩
      obtain ⟨q1, q2⟩ := minL_min ns n
      have : m = minL n ns := Int.le_antisymm (hb _ q1) (q2 m hm)
      rw [this]
      exact p.here k (.int _) (by intro l z; cases z)
    · cases e
  · cases e
theorem is_snd {x : D} {t : Ty} {vx : V} {b : Bool} (e : isD x t = some b) (rx : Rp X.K X.mg T kk O H vx x) (p : Q (.bl b) H) : rCW X (.builtin "isinstance") [vx, .ty t.nm] H Q := by
  have go : ∀ {u : String}, TyX X.K H vx (.type u) → kitB u t.nm = some b → rCW X (.builtin "isinstance") [vx, .ty t.nm] H Q := fun h q => rCW_of call_isi ⟨_, _, _, _, b, rfl, .ty _, h, kit_ty q, p⟩
  cases x with
  | non => cases rx; refine go (.base .non) ?_; cases t <;> (cases e; decide +kernel)
  | bl k => cases rx; refine go (.base (.bl _)) ?_; cases t <;> (cases e; decide +kernel)
  | int k => cases rx; refine go (.base (.int _)) ?_; cases t <;> (cases e; decide +kernel)
  | str k => cases rx; refine go (.base (.str _)) ?_; cases t <;> (cases e; decide +kernel)
  | tup l =>
    obtain ⟨a, vs, rfl, h1, _⟩ := tup_eq rx
    have hq : kitB "tuple" t.nm = some b := by cases t <;> (cases e; decide +kernel)
    rcases h1 with (h1 | ⟨o, h1⟩) | ⟨o, its, n, h1, h2, _⟩
    · exact go (.base (.tup h1)) hq
    · exact go (.fTuple h1) hq
    · exact go (.kTuple h1 h2) hq
  | lst l =>
    obtain ⟨a, vs, rfl, h1, _⟩ := lst_eq rx
    refine go (.base (.lst h1)) ?_; cases t <;> (cases e; decide +kernel)
  | fn i => cases e
  | cup => cases e
  | scr l => cases e
end
end Mn

set_option maxRecDepth 100000
set_option maxHeartbeats 4000000
namespace HT
open PySem PySem.Spec PyProof.Rows L2
section
variable {prog : Program} {w : World} {A : Around} {E : Value → Shared → Prop} {s : Shared}
/-- the places of a slice with a step -/
theorem sliceApplied_st {sl : Addr} {vl vu vs : Value} {lo hi : Option Int} {k : Int} {n : Nat} {Q : Int × Int × Nat → Shared → Prop} (hs : s.heap.IsSliceOf sl vl vu vs) (pl : IsPart vl lo) (pu : IsPart vu hi) (ps : IsPart vs (some k)) (hk : k ≠ 0)
    (h : Q ((Builtin.Slice.sliceAdjust lo hi k (n : Int)).1, k, Builtin.Slice.slicePlaces (Builtin.Slice.sliceAdjust lo hi k (n : Int)).1 (Builtin.Slice.sliceAdjust lo hi k (n : Int)).2 k) s) : wpAny (model prog w) A (Builtin.Slice.sliceApplied (.ref sl) (pure (n : Int))) Q E s := by
  obtain ⟨os, hos, hcs, hds⟩ := id hs
  unfold Builtin.Slice.sliceApplied Builtin.Slice.sliceFields
  refine wpAny_bind (wpAny_bind (wpAny_field hos hds (x := vl) rfl (wpAny_bind (wpAny_field hos hds (x := vu) rfl (wpAny_bind (wpAny_field hos hds (x := vs) rfl (wpAny_pure ?_)))))))
  refine wpAny_bind (slicePart_ ps ?_)
  show wpAny _ _ (if (k == 0) = true then _ else _) _ _ s
  rw [if_neg (by simpa using hk)]
  refine wpAny_bind (slicePart_ pl (wpAny_bind (slicePart_ pu (wpAny_bind (wpAny_pure ?_)))))
  exact wpAny_pure h
theorem getItem_tuple_st {t sl : Addr} {items : Array Value} {vl vu vs : Value} {lo hi : Option Int} {k : Int} {Q : Value → Shared → Prop} (ht : IsTup s.heap t items) (hs : s.heap.IsSliceOf sl vl vu vs) (pl : IsPart vl lo) (pu : IsPart vu hi) (ps : IsPart vs (some k)) (h0 : k ≠ 0) (h1 : k ≠ 1)
    (h : Q (.ref s.heap.objs.size) { s with heap := s.heap.push { cls := .type "tuple", data := .seq (Mn.pickI items.toList (Mn.idxT items.size lo hi k)).toArray } })
    (hsz : (Mn.pickI items.toList (Mn.idxT items.size lo hi k)).length ≤ sizeLine) : wpAny (model prog w) A (getItem (.ref t) (.ref sl)) Q E s := by
  have htake : sizeOk (.seq (Mn.pickI items.toList (Mn.idxT items.size lo hi k)).toArray) := by
    show (Mn.pickI items.toList (Mn.idxT items.size lo hi k)).toArray.size ≤ sizeLine
    rw [List.size_toArray]
    exact hsz
  obtain ⟨os, hos, hcs, hds⟩ := id hs
  have hTs : s.TypeIs (.ref sl) "slice" := ⟨os, hos, hcs⟩
  unfold getItem
  try with_reducible refine wpAny_holding ?_
  first | refine wpAny_bind (wpAny_pure ?_) | skip
  refine wpAny_bind (wpAny_sequenceKey ht.typeIs (by decide) ?_)
  refine wpAny_bind (wpAny_callSpecial?_slot (name := Str.ofString "__getitem__") ht.typeIs PyProof.Rows.slot_tuple_getitem
    (wpAny_call_entry PyProof.Rows.slot_tuple_getitem ht.typeIs entry_tuple_getitem ?_ (args_tuple_getitem _ _)))
  show wpAny _ _ (Builtin.Tuple.tupleItemsOf (.ref t) >>= _) _ _ s
  refine wpAny_bind (tupleItemsOf_ ht ?_)
  refine wpAny_bind (wpAny_typeOf hTs ?_)
  rw [if_pos (by decide)]
  refine wpAny_bind (sliceApplied_st hs pl pu ps h0 ?_)
  have hno : ∀ (i : Int) (c : Nat), ¬ ((i == 0 && k == 1 && c == items.size) = true) := fun i c q => by
    rw [Bool.and_eq_true, Bool.and_eq_true] at q
    exact h1 (eq_of_beq q.1.2)
  show wpAny _ _ (if ((Builtin.Slice.sliceAdjust lo hi k (items.size : Int)).1 == 0 && k == 1 && Builtin.Slice.slicePlaces (Builtin.Slice.sliceAdjust lo hi k (items.size : Int)).1 (Builtin.Slice.sliceAdjust lo hi k (items.size : Int)).2 k == items.size) = true then _ else _) _ _ s
  rw [if_neg (hno _ _)]
  have e : ((List.range (Builtin.Slice.slicePlaces (Builtin.Slice.sliceAdjust lo hi k (items.size : Int)).1 (Builtin.Slice.sliceAdjust lo hi k (items.size : Int)).2 k)).filterMap fun (m : Nat) => items[((Builtin.Slice.sliceAdjust lo hi k (items.size : Int)).1 + (m : Int) * k).toNat]?).toArray = (Mn.pickI items.toList (Mn.idxT items.size lo hi k)).toArray := by
    unfold Mn.pickI Mn.idxT
    rw [List.filterMap_map]
    congr 2
    funext m
    exact (Array.getElem?_toList).symm
  rw [e]
  first
    | exact wpAny_bind (m := Builtin.Tuple.tupleExact _) (wpAny_newObj_type (wpAny_pure ⟨_, rfl, wpAny_pure h⟩) htake)
    | exact wpAny_bind (m := Builtin.Tuple.tupleExact _) (wpAny_newObj_type (wpAny_bind (wpAny_pure (wpAny_pure ⟨_, rfl, wpAny_pure h⟩))) htake)
    | exact wpAny_bind (wpAny_bind (m := Builtin.Tuple.tupleExact _) (wpAny_newObj_type (wpAny_pure (wpAny_pure ⟨_, rfl, wpAny_pure h⟩)) htake))
    | exact wpAny_bind (wpAny_bind (m := Builtin.Tuple.tupleExact _) (wpAny_newObj_type (wpAny_pure ⟨_, rfl, wpAny_pure h⟩) htake))
end
end HT
namespace L2
open PySem PySem.Spec PyProof.Rows
def SlR3 (X : Cx) (r : V → Option Int → Option Int → Option Int → Hp → VK → Prop) : Prop :=
  ∀ (pins : List (Addr × Obj)) (s : Shared) (σ : St) (H : Hp) (x : V) (v vl vu vs : Value) (lo hi st : Option Int) (sl : Addr) (Q : VK), Inv X pins σ H s → RelV x v → s.heap.IsSliceOf sl vl vu vs → IsPart vl lo → IsPart vu hi → IsPart vs st → r x lo hi st H Q →
    ∃ T id, typeLookup (.type T) "__getitem__" = pure (some (.builtin id)) ∧ s.TypeIs v T ∧ wpAny (model X.prog X.w) X.A (getItem v (.ref sl)) (EP X pins σ Q) X.xe s
def tSl3 (r : V → Option Int → Option Int → Option Int → Hp → VK → Prop) (te : TE) (tl th ts : TO) : TE := fun σ H Q => te σ H fun x H1 => tl σ H1 fun l H2 => th σ H2 fun u H3 => ts σ H3 fun z H4 => r x l u z H4 Q
/-- a[lo:hi:st], any a -/
theorem pe_slice3 {X : Cx} {e st : Expr} {te : TE} {lo hi : Option Expr} {tl th ts : TO} {pos p2 : Pos} {r : V → Option Int → Option Int → Option Int → Hp → VK → Prop} (hr : SlR3 X r) (he : PE X e te) (hl : PO X lo tl) (hu : PO X hi th) (hs : PO X (some st) ts) : PE X (.Subscript e (.Slice lo hi (some st) p2) pos) (tSl3 r te tl th ts) := by
  refine ⟨fun pins s σ H Q I h => ?_⟩
  refine Subscript_ (thn (he.run pins s σ H _ I h) fun v s1 ⟨x, H1, I1, r1, q1⟩ => ?_)
  refine wpAny_Slice (thn (hl.run pins s1 σ H1 _ I1 q1) fun vl s2 ⟨l, H2, I2, pl, q2⟩ => thn (hu.run pins s2 σ H2 _ I2 q2) fun vu s3 ⟨u, H3, I3, pu, q3⟩ => thn (hs.run pins s3 σ H3 _ I3 q3) fun vs s4 ⟨z, H4, I4, ps, q4⟩ => ?_)
  have I5 : Inv X pins σ H4 { s4 with heap := s4.heap.push { cls := .type "slice", data := .fields #[vl, vu, vs] } } := I4.kept (t' := s4.toks) fun b ob q => Heap.get?_push_of_some _ q
  obtain ⟨T, id, hT, ht, hg⟩ := hr pins { s4 with heap := s4.heap.push { cls := .type "slice", data := .fields #[vl, vu, vs] } } σ H4 x v vl vu vs l u z s4.heap.objs.size Q I5 r1 (Heap.IsSliceOf.new ..) pl pu ps q4
  show wpAny (model X.prog X.w) X.A (subscriptTail e (.Slice lo hi (some st) p2) v (.ref s4.heap.objs.size)) (EP X pins σ Q) X.xe { s4 with heap := s4.heap.push { cls := .type "slice", data := .fields #[vl, vu, vs] } }
  exact tail_any (ops := [v, .ref s4.heap.objs.size]) ht hT hg (by with_unfolding_all rfl)
end L2
namespace Mn
open PySem PySem.Spec PyProof.Rows L2
def rS3 (X : Cx) : V → Option Int → Option Int → Option Int → Hp → VK → Prop := fun x lo hi st H Q => ∀ (pins : List (Addr × Obj)) (s : Shared) (σ : L2.St) (v vl vu vs : Value) (sl : Addr), Inv X pins σ H s → RelV x v → s.heap.IsSliceOf sl vl vu vs → IsPart vl lo → IsPart vu hi → IsPart vs st →
    ∃ T id, typeLookup (.type T) "__getitem__" = pure (some (.builtin id)) ∧ s.TypeIs v T ∧ wpAny (model X.prog X.w) X.A (getItem v (.ref sl)) (EP X pins σ Q) X.xe s
theorem rS3_sl {X : Cx} : SlR3 X (rS3 X) := fun pins s σ H x v vl vu vs lo hi st sl Q I a b c d e h => h pins s σ v vl vu vs sl I a b c d e
section
variable {X : Cx} {T : Tb} {kk : Option Addr} {O : Addr → Prop} {H : Hp} {c : Cup} {d : D} {fr : Bool} {Q : VK}
theorem pick_rps {vs : List V} {l : List D} (r : Rps X.K X.mg T kk O H vs l) : ∀ is : List Nat, Rps X.K X.mg T kk O H (pickI vs is) (pickI l is)
  | [] => .nil
  | i :: is => by
    unfold pickI
    rw [List.filterMap_cons, List.filterMap_cons]
    cases e : l[i]? with
    | none =>
      have : vs[i]? = none := by
        rw [List.getElem?_eq_none_iff] at e ⊢
        rw [r.length]
        exact e
      rw [this]
      exact pick_rps r is
    | some d =>
      obtain ⟨v, e1, e2⟩ := r.get e
      rw [e1]
      exact .cons e2 (pick_rps r is)
theorem pick_len {α : Type} (xs : List α) (is : List Nat) : (pickI xs is).length ≤ is.length := List.length_filterMap_le _ _
theorem pick_vals {vs : List V} {us : List Value} (r : Vals vs us) : ∀ is : List Nat, Vals (pickI vs is) (pickI us is)
  | [] => .nil
  | i :: is => by
    unfold pickI
    rw [List.filterMap_cons, List.filterMap_cons]
    cases e : vs[i]? with
    | none =>
      have : us[i]? = none := by
        rw [List.getElem?_eq_none_iff] at e ⊢
        rw [← r.length]
        exact e
      rw [this]
      exact pick_vals r is
    | some d =>
      obtain ⟨u, e1, e2⟩ := r.get e
      rw [e1]
      exact .cons e2 (pick_vals r is)
theorem sl_snd3 {x : D} {lo hi : Option D} {vx : V} {l h : Option Int} {j : Int} (el : partD lo = some l) (eh : partD hi = some h) (e : slD x lo hi (some (.int j)) = some d) (k : Ok T kk O c H) (rx : Rp X.K X.mg T kk O H vx x) (p : Post X T kk O H c d fr Q) : rS3 X vx l h (some j) H Q := by
  unfold slD at e
  rw [el, eh] at e
  dsimp only at e
  unfold slS at e
  intro pins s σ v vl vu vs sl I rv hs pl pu ps
  split at e
  · split at e
    · rename_i hc
      obtain ⟨h0, h1, h2⟩ := hc
      cases e
      obtain ⟨a, ws, rfl, g1, r1⟩ := tup_eq rx
      cases rv
      obtain ⟨its, r, ht, hz⟩ := I.tuple g1
      have hlen : its.toArray.size = ws.length := by rw [List.size_toArray]; exact r.length.symm
      refine ⟨"tuple", _, PyProof.Rows.slot_tuple_getitem.lookup, ht.typeIs, ?_⟩
      have hsz : (pickI its.toArray.toList (idxT its.toArray.size l h j)).length ≤ sizeLine := by
        refine Nat.le_trans (pick_len _ _) ?_
        rw [hlen, r1.length]
        exact Nat.le_trans h2 (Nat.le_of_eq lineN_eq)
      refine HT.getItem_tuple_st ht hs pl pu ps h0 h1 ?_ hsz
      refine ⟨.ref s.heap.objs.size, _, I.laid (t' := s.toks) (o := .tup (pickI ws (idxT ws.length l h j))) (fun b ob q => Heap.get?_push_of_some _ q) (Nat.le_refl _) ?_, rfl, ?_⟩
      · rw [hlen]
        exact ⟨by rw [hlen] at hsz; exact Nat.le_trans (pick_len _ _) (by rw [r1.length]; exact Nat.le_trans h2 (Nat.le_of_eq lineN_eq)), _, pick_vals r _, IsTup.new _ _⟩
      · rw [r1.length]
        exact p.tup k (pick_rps r1 _) (I.hok.fresh (Nat.le_refl _))
    · cases e
  · split at e
    · rename_i hc
      obtain ⟨h0, h2⟩ := hc
      cases e
      obtain ⟨a, ws, rfl, g1, _, _, r1⟩ := lst_eq rx
      cases rv
      obtain ⟨its, r, ht, hz⟩ := I.list (.of g1)
      have hlen : its.toArray.size = ws.length := by rw [List.size_toArray]; exact r.length.symm
      refine ⟨"list", _, PySem.slot_list_getitem.lookup, ht.isList.typeIs, ?_⟩
      refine wpAny_getItem_list_slice ht.isList hs pl pu ps (by simpa using h0) ?_ (by rw [hlen]; exact hz)
      have ep : slicePick its.toArray l h (some j) = (pickI its (idxL ws.length l h j)).toArray := by
        unfold slicePick pickI idxL
        rw [hlen]
        congr 2
        funext i
        exact (List.getElem?_toArray)
      rw [ep]
      refine ⟨.ref s.heap.objs.size, _, I.laid (t' := s.toks) (o := .lst (pickI ws (idxL ws.length l h j))) (fun b ob q => Heap.get?_push_of_some _ q) (Nat.le_refl _) ?_, rfl, ?_⟩
      · exact ⟨Nat.le_trans (pick_len _ _) (by rw [r1.length]; exact Nat.le_trans h2 (Nat.le_of_eq lineN_eq)), _, 0, pick_vals r _, Heap.get?_push_size _ rfl⟩
      · rw [r1.length]
        exact p.lst k (pick_rps r1 _) (I.hok.fresh (Nat.le_refl _))
    · cases e
  · cases e
end
end Mn

set_option maxRecDepth 100000
set_option maxHeartbeats 4000000
namespace Mn
open PySem PySem.Spec PyProof.Rows L2

abbrev Gm := Nat → List D → Cup → R D
/-- a def's promise: what the evaluator says of it -/
def spG (K : PySem.W.Frag) (mg : Str → Option Value) (T : Tb) (Γ : Gm) (i : Nat) : Sp := fun vs H Q _ => ∃ (kk : Option Addr) (O : Addr → Prop) (ds : List D) (c : Cup) (d : D) (c' : Cup),
  Rps K mg T kk O H vs ds ∧ Ok T kk O c H ∧ Γ i ds c = .ok d c' ∧ ∀ v H', Ext kk H H' → Cr T kk c' H' → Rp K mg T kk O H' v d → Q v H'
/-- .. an error of a class of the program, too -/
def spX (K : PySem.W.Frag) (mg : Str → Option Value) (T : Tb) (Γ : Gm) (i : Nat) : Sp := fun vs H Q E => ∃ (kk : Option Addr) (O : Addr → Prop) (ds : List D) (c : Cup), Rps K mg T kk O H vs ds ∧ Ok T kk O c H ∧
  ((∃ (d : D) (c' : Cup), Γ i ds c = .ok d c' ∧ ∀ v H', Ext kk H H' → Cr T kk c' H' → Rp K mg T kk O H' v d → Q v H') ∨
    (∃ (k : Nat) (xs : List D) (c' : Cup), Γ i ds c = .exc k xs c' ∧ ∀ (y : Str) (C : Addr), T.cls[k]? = some y → mg y = some (.ref C) → ∀ H', Ext kk H H' → Cr T kk c' H' → E (.ref C) none H'))
/-- what is written, as a value -/
def litV : D → Option V
  | .str s => some (.str s)
  | .int i => some (.int i)
  | .bl b => some (.bl b)
  | .non => some .non
  | _ => none
/-- what a def that tries a call wishes of an error -/
def tdW (mg : Str → Option Value) (T : Tb) (h : List D) (Q : VK) : XK := fun cls d H' => ∃ (k : Nat) (y : Str) (C : Addr) (e : D) (v : V), d = none ∧ cls = .ref C ∧ T.cls[k]? = some y ∧ mg y = some (.ref C) ∧ h[k]? = some e ∧ litV e = some v ∧ ∀ H2, Same H' H2 → Q v H2
/-- what a def that tries a call makes of it -/
def tdT (mg : Str → Option Value) (T : Tb) (h : List D) (r : D) : (XK → Hp → VK → Prop) → Hp → VK → Prop := fun tl H Q => tl (tdW mg T h Q) H (fun _ H' => ∃ v, litV r = some v ∧ Q v H')
structure TdOk (P : Program) (w : World) (K : PySem.W.Frag) (mg : Str → Option Value) (base : Heap) (T : Tb) (x : Str) (h : List D) (r : D) : Prop where
  ex : ∃ (g : Addr) (pg : Arguments) (bg : List Stmt) (sg : Scope) (dV kV doc pm cdv ct oc : Value) (an od : Option Addr) (osl : Array (Option Value)) (Ng : List Str) (a : Str),
    mg x = some (.ref g) ∧ PySem.W.keepIn K (.ref g) = true ∧ K.lookup g = some ⟨oc, od, .func (PySem.W.fnOf x x pg bg sg dV kV doc pm an cdv ct), osl⟩ ∧ PySem.W.codeIn K cdv x = true ∧
    L2.Binds K (PySem.W.fnOf x x pg bg sg dV kV doc pm an cdv ct) [a] [] ∧ FnScope Ng [a] sg ∧ Ng[0]? = some a ∧ Vis sg a ∧ nmB a = true ∧
    ∀ X : Cx, X.prog = P → X.w = w → X.K = K → X.mg = mg → X.base = base → ∀ q : Str, LamD.GivesToN X Ng x sg g cdv bg a q (tdT mg T h r)
def bltNames : List Str := ["len", "int", "abs", "sum", "max", "min", "all", "any", "tuple", "list", "str", "sorted", "range", "zip", "enumerate", "isinstance", "bool"]
/-- the context of a body whose callees keep what Γ says -/
structure Cn (T : Tb) (Γ : Gm) (n : Nat) (X : Cx) : Prop where
  nd : X.N.Nodup
  calm : X.calm = true
  room : Room (3 * n) X.A
  fns : ∀ i x, T.fns[i]? = some x → ∃ (a : Addr) (fd : FuncData) (ps : List Str), X.mg x = some (.ref a) ∧ PySem.W.keepIn X.K (.ref a) = true ∧ Binds X.K fd ps [] ∧ FnOk X.prog X.w X.K X.mg X.base CX0 (3 * n) a fd ps (spG X.K X.mg T Γ i)
  fnx : ∀ i x, T.fns[i]? = some x → ∃ (a : Addr) (fd : FuncData) (ps : List Str), X.mg x = some (.ref a) ∧ PySem.W.keepIn X.K (.ref a) = true ∧ Binds X.K fd ps [] ∧ FnOk X.prog X.w X.K X.mg X.base (L2N.CX X.prog X.w) (3 * n) a fd ps (spX X.K X.mg T Γ i)
  tds : ∀ t ∈ T.tds, TdOk X.prog X.w X.K X.mg X.base T t.1 t.2.1 t.2.2
  tab : cellB X.env.scope = true → Room (3 * n + 2) X.A ∧ ∃ c P, X.env.code = .ref c ∧ LamX.TabB X.base X.mg c P ∧ (P, X.env.qual ++ "<lambda>") ∈ T.tt ∧ ∀ p ∈ T.tt, p.1 = P → p.2 = X.env.qual ++ "<lambda>"
  cs : (∀ x i, (x, i) ∈ T.cs → ∃ t, X.mg x = some (.int i t)) ∧ ∀ x z, (x, z) ∈ T.ss → ∃ t, X.mg x = some (.str z t)
  blt : ∀ x ∈ bltNames, X.mg x = none
theorem Cn.units {T : Tb} {Γ : Gm} {n : Nat} {X : Cx} (C : Cn T Γ n X) : X.A.units + 65 < cLine := by have := C.room.un; omega

/-! ## readings as they are -/
def tW (X : Cx) (e : Expr) : TE := fun σ H Q => ∀ (pins : List (Addr × Obj)) (s : Shared), Inv X pins σ H s → wpAny (model X.prog X.w) X.A (eval e X.env) (EP X pins σ Q) X.xe s
theorem peW {X : Cx} {e : Expr} : PE X e (tW X e) := ⟨fun pins s σ H Q I h => h pins s I⟩
theorem tW_of {X : Cx} {e : Expr} {t : TE} (h : PE X e t) {σ : L2.St} {H : Hp} {Q : VK} (q : t σ H Q) : tW X e σ H Q := fun pins s I => h.run pins s σ H Q I q
def tTW (X : Cx) (e : Expr) : TT := fun σ H Q => ∀ (pins : List (Addr × Obj)) (s : Shared), Inv X pins σ H s → wpAny (model X.prog X.w) X.A (isTrue e X.env (eval e X.env)) (TP X pins σ Q) X.xe s
theorem ptW {X : Cx} {e : Expr} : PT X e (tTW X e) := ⟨fun pins s σ H Q I h => h pins s I⟩
theorem tTW_of {X : Cx} {e : Expr} {t : TT} (h : PT X e t) {σ : L2.St} {H : Hp} {Q : Bool → Hp → Prop} (q : t σ H Q) : tTW X e σ H Q := fun pins s I => h.run pins s σ H Q I q
def tAW (X : Cx) (es : List Expr) : TA := fun σ H Q => ∀ (pos : Pos) (pins : List (Addr × Obj)) (s : Shared), Inv X pins σ H s → wpAny (model X.prog X.w) X.A (spliced (backTo pos (starEach es X.env))) (AP X pins σ Q) X.xe s
theorem paW {X : Cx} {es : List Expr} : PA X es (tAW X es) := ⟨fun pos pins s σ H Q I h => h pos pins s I⟩
theorem tAW_of {X : Cx} {es : List Expr} {t : TA} (h : PA X es t) {σ : L2.St} {H : Hp} {Q : List V → Hp → Prop} (q : t σ H Q) : tAW X es σ H Q := fun pos pins s I => h.run pos pins s σ H Q I q
def tOW (X : Cx) (e : Option Expr) : TO := fun σ H Q => ∀ (pins : List (Addr × Obj)) (s : Shared), Inv X pins σ H s → wpAny (model X.prog X.w) X.A (evalPart e X.env) (fun u s' => ∃ o H', Inv X pins σ H' s' ∧ IsPart u o ∧ Q o H') X.xe s
theorem poW {X : Cx} {e : Option Expr} : PO X e (tOW X e) := ⟨fun pins s σ H Q I h => h pins s I⟩
theorem tOW_of {X : Cx} {e : Option Expr} {t : TO} (h : PO X e t) {σ : L2.St} {H : Hp} {Q : Option Int → Hp → Prop} (q : t σ H Q) : tOW X e σ H Q := fun pins s I => h.run pins s σ H Q I q
def tIW (X : Cx) (tg iter : Expr) : TI := fun σ H R => ∀ (pins : List (Addr × Obj)) (s : Shared), Inv X pins σ H s → wpAny (model X.prog X.w) X.A (eval iter X.env) (fun v s1 => wpAny (model X.prog X.w) X.A (pyIter v) (PIE X pins σ tg R) X.xe s1) X.xe s
theorem piW {X : Cx} {tg iter : Expr} : PI X tg iter (tIW X tg iter) := ⟨fun pins s σ H R I h => h pins s I⟩
theorem tIW_of {X : Cx} {tg iter : Expr} {t : TI} (h : PI X tg iter t) {σ : L2.St} {H : Hp} {R : L2.It → Hp → Prop} (q : t σ H R) : tIW X tg iter σ H R := fun pins s I => h.run pins s σ H R I q

/-! ## what an expression sees -/
def Er (X : Cx) (T : Tb) (kk : Option Addr) (O : Addr → Prop) (σ : L2.St) (ρ : Rho) (H : Hp) : Prop := ∀ (i : Nat) (d : D), ρ[i]?.bind id = some d → ∃ v, σ[i]? = some (some v) ∧ Rp X.K X.mg T kk O H v d
theorem Er.ext {X : Cx} {T : Tb} {kk : Option Addr} {O : Addr → Prop} {σ : L2.St} {ρ : Rho} {H H' : Hp} (r : Er X T kk O σ ρ H) (x : Ext kk H H') : Er X T kk O σ ρ H' := fun i d h => by
  obtain ⟨v, e, q⟩ := r i d h
  exact ⟨v, e, q.ext x⟩
theorem Er.mono {X : Cx} {T : Tb} {kk : Option Addr} {O O' : Addr → Prop} {σ : L2.St} {ρ : Rho} {H H' : Hp} (r : Er X T kk O σ ρ H) (x : Ext kk H H') (o : ∀ a, O' a → O a ∨ ¬ Oc H a) : Er X T kk O' σ ρ H' := fun i d h => by
  obtain ⟨v, e, q⟩ := r i d h
  exact ⟨v, e, q.mono x o⟩

section
variable (T : Tb) (Γ : Gm) (n : Nat)
def SE (c : Ex) : Prop := ∀ (X : Cx), Cn T Γ n X → ∀ (e : Expr) (ρ : Rho) (c0 : Cup) (d : D) (c1 : Cup), okE T X.N X.env.scope c e = true → ev Γ ρ c c0 = .ok d c1 →
  ∀ (kk : Option Addr) (O : Addr → Prop) (σ : L2.St) (H : Hp) (Q : VK), Er X T kk O σ ρ H → Ok T kk O c0 H → Post X T kk O H c1 d (fresh c) Q → tW X e σ H Q
def STt (c : Ex) : Prop := ∀ (X : Cx), Cn T Γ n X → ∀ (e : Expr) (ρ : Rho) (c0 : Cup) (b : Bool) (c1 : Cup), okE T X.N X.env.scope c e = true → ev Γ ρ c c0 = .ok (.bl b) c1 →
  ∀ (kk : Option Addr) (O : Addr → Prop) (σ : L2.St) (H : Hp) (Q : Bool → Hp → Prop), Er X T kk O σ ρ H → Ok T kk O c0 H → (∀ H', Ext kk H H' → Cr T kk c1 H' → Q b H') → tTW X e σ H Q
def SA (es : Exs) : Prop := ∀ (X : Cx), Cn T Γ n X → ∀ (vs : List Expr) (ρ : Rho) (c0 : Cup) (ds : List D) (c1 : Cup), okEs T X.N X.env.scope es vs = true → evs Γ ρ es c0 = .ok ds c1 →
  ∀ (kk : Option Addr) (O : Addr → Prop) (σ : L2.St) (H : Hp) (Q : List V → Hp → Prop), Er X T kk O σ ρ H → Ok T kk O c0 H → (∀ us H', Ext kk H H' → Cr T kk c1 H' → Rps X.K X.mg T kk O H' us ds → Q us H') → tAW X vs σ H Q
def SO (o : Eo) : Prop := ∀ (X : Cx), Cn T Γ n X → ∀ (v : Option Expr) (ρ : Rho) (c0 : Cup) (d : Option D) (l : Option Int) (c1 : Cup), okO T X.N X.env.scope o v = true → evo Γ ρ o c0 = .ok d c1 → partD d = some l →
  ∀ (kk : Option Addr) (O : Addr → Prop) (σ : L2.St) (H : Hp) (Q : Option Int → Hp → Prop), Er X T kk O σ ρ H → Ok T kk O c0 H → (∀ H', Ext kk H H' → Cr T kk c1 H' → Q l H') → tOW X v σ H Q
end
/-- J yields ds in a row, whatever is laid meanwhile -/
def ItR (K : PySem.W.Frag) (mg : Str → Option Value) (T : Tb) (kk : Option Addr) (O : Addr → Prop) (J : L2.It) (ds : List D) (H1 : Hp) : Prop :=
  ∀ i H, ExtO kk O H1 H → (∀ d, ds[i]? = some d → J.go i H ∧ ∀ x H', J.yld i H x H' → Same H H' ∧ Rp K mg T kk O H' x d) ∧ (ds.length ≤ i → J.stop i H)
section
variable (T : Tb) (Γ : Gm) (n : Nat)
def SI (it : Src) : Prop := ∀ (X : Cx), Cn T Γ n X → ∀ (tg v : Expr) (ρ : Rho) (c0 : Cup) (ds : List D) (c1 : Cup), okI T X.N X.env.scope tg it v = true → evi Γ ρ it c0 = .ok ds c1 →
  ∀ (kk : Option Addr) (O : Addr → Prop) (σ : L2.St) (H : Hp) (R : L2.It → Hp → Prop), Er X T kk O σ ρ H → Ok T kk O c0 H →
    (∀ J H1, Ext kk H H1 → Cr T kk c1 H1 → ds.length ≤ lineN → (∀ O', (itAny it = true ∨ ∀ a, O' a → O a ∨ ¬ Oc H1 a) → ItR X.K X.mg T kk O' J ds H1) → R J H1) → tIW X tg v σ H R
end

theorem vis_of {sc : Scope} {x : Str} (h : visB sc x = true) : Vis sc x := by
  unfold visB at h
  unfold Vis
  split at h <;> first | (rename_i q; exact .inl q) | (rename_i q; exact .inr (.inl q)) | (rename_i q; exact .inr (.inr q)) | cases h
theorem loc_of {sc : Scope} {x : Str} (h : locB sc x = true) : L2.Loc sc x := by
  unfold locB at h
  unfold L2.Loc
  split at h <;> first | (rename_i q; exact .inl q) | (rename_i q; exact .inr q) | cases h
theorem glo_of {X : Cx} {x : Str} (h : gloB X.env.scope x = true) : Gl X x := by
  unfold gloB at h
  split at h
  · rename_i q; exact q
  · cases h
theorem nm_of {x : Str} (h : nmB x = true) : (x == ("__debug__" : Str)) = false ∧ (x == ("__classdict__" : Str)) = false ∧ (x == ("__name__" : Str)) = false := by
  unfold nmB at h
  simpa using h
section
variable {T : Tb} {Γ : Gm} {n : Nat} {a b e t : Ex}
theorem SE.v (i : Nat) : SE T Γ n (.v i) := by
  intro X C e ρ c0 d c1 ho hv kk O σ H Q er k p
  unfold okE at ho
  split at ho
  · rename_i x pos
    obtain ⟨h1, h2, h3⟩ := and3 ho
    obtain ⟨n1, n2, n3⟩ := nm_of h3
    obtain ⟨e1, e2⟩ := opt_ok (show R.opt (ρ[i]?.bind id) c0 = .ok d c1 from hv)
    subst e2
    obtain ⟨v, e3, r⟩ := er i d e1
    exact tW_of (pe_var (eq_of_beq h1) (vis_of h2) n1 n2) ⟨v, e3, p v H (Ext.refl H) k.cr r fun z => by cases z⟩
  · cases ho
theorem SE.int (i : Int) : SE T Γ n (.int i) := by
  intro X C e ρ c0 d c1 ho hv kk O σ H Q er k p
  unfold okE at ho
  split at ho
  · cases of_decide_eq_true ho
    cases hv
    exact tW_of pe_int (p.here k (.int _) (by intro l z; cases z))
  · cases ho
theorem SE.str (i : Str) : SE T Γ n (.str i) := by
  intro X C e ρ c0 d c1 ho hv kk O σ H Q er k p
  unfold okE at ho
  split at ho
  · cases of_decide_eq_true ho
    cases hv
    exact tW_of pe_str (p.here k (.str _) (by intro l z; cases z))
  · cases ho
theorem SE.bl (i : Bool) : SE T Γ n (.bl i) := by
  intro X C e ρ c0 d c1 ho hv kk O σ H Q er k p
  unfold okE at ho
  split at ho
  · cases eq_of_beq ho
    cases hv
    exact tW_of pe_bl (p.here k (.bl _) (by intro l z; cases z))
  · cases ho
theorem SE.non : SE T Γ n .non := by
  intro X C e ρ c0 d c1 ho hv kk O σ H Q er k p
  unfold okE at ho
  split at ho
  · cases hv
    exact tW_of pe_non (p.here k .non (by intro l z; cases z))
  · cases ho
theorem SE.cst (x : Str) (i : Int) : SE T Γ n (.cst x i) := by
  intro X C e ρ c0 d c1 ho hv kk O σ H Q er k p
  unfold okE at ho
  split at ho
  · obtain ⟨h1, h2, h3, h4⟩ := and4 ho
    obtain ⟨n1, n2, n3⟩ := nm_of h3
    cases eq_of_beq h1
    obtain ⟨t, ht⟩ := C.cs.1 x i (List.contains_iff_mem.mp h4)
    cases hv
    exact tW_of (pe_glob (v := .int i) (glo_of h2) ht ⟨t, rfl⟩ n1) (p.here k (.int _) (by intro l z; cases z))
  · cases ho
theorem SE.css (x z : Str) : SE T Γ n (.css x z) := by
  intro X C e ρ c0 d c1 ho hv kk O σ H Q er k p
  unfold okE at ho
  split at ho
  · obtain ⟨h1, h2, h3, h4⟩ := and4 ho
    obtain ⟨n1, n2, n3⟩ := nm_of h3
    cases eq_of_beq h1
    obtain ⟨t, ht⟩ := C.cs.2 x z (List.contains_iff_mem.mp h4)
    cases hv
    exact tW_of (pe_glob (v := .str z) (glo_of h2) ht ⟨t, rfl⟩ n1) (p.here k (.str _) (by intro l z; cases z))
  · cases ho
theorem SE.bin (o : Bop) (ha : SE T Γ n a) (hb : SE T Γ n b) : SE T Γ n (.bin o a b) := by
  intro X C e ρ c0 d c1 ho hv kk O σ H Q er k p
  unfold okE at ho
  split at ho
  · obtain ⟨h1, h2, h3⟩ := and3 ho
    cases of_decide_eq_true h1
    unfold ev at hv
    obtain ⟨x, c2, e1, hv⟩ := bnd_ok hv
    obtain ⟨y, c3, e2, hv⟩ := bnd_ok hv
    obtain ⟨e3, e4⟩ := opt_ok hv
    subst e4
    refine tW_of (pe_op rW_op peW peW) (ha X C _ _ _ _ _ h2 e1 _ _ _ _ _ er k fun v H1 x1 r1 rx _ => hb X C _ _ _ _ _ h3 e2 _ _ _ _ _ (er.ext x1) (k.ext x1 r1) fun u H2 x2 r2 ry _ => ?_)
    exact bin_snd e3 ((k.ext x1 r1).ext x2 r2) (rx.ext x2) ry (p.after (x1.trans x2) r2)
  · cases ho

theorem SE.neg (ha : SE T Γ n a) : SE T Γ n (.neg a) := by
  intro X C e ρ c0 d c1 ho hv kk O σ H Q er k p
  unfold okE at ho
  split at ho
  · unfold ev at hv
    obtain ⟨x, c2, e1, hv⟩ := bnd_ok hv
    obtain ⟨e3, e4⟩ := opt_ok hv
    subst e4
    exact tW_of (pe_un rUW_u peW) (ha X C _ _ _ _ _ ho e1 _ _ _ _ _ er k fun v H1 x1 r1 rx _ => neg_snd e3 (k.ext x1 r1) rx (p.after x1 r1))
  · cases ho
/-- no set, no star: an expression of ours -/
def shapeB : Expr → Bool
  | .Set _ _ _ => false
  | .Starred _ _ => false
  | _ => true
theorem ok_shape {N : List Str} {sc : Scope} {c : Ex} {e : Expr} (h : okE T N sc c e = true) : shapeB e = true := by
  cases c <;> (unfold okE at h; split at h <;> first | rfl | cases h)
theorem nomark_of {op : CmpOp} {e : Expr} (h : shapeB e = true) : behindInMarks op e = false := by
  cases e <;> first | rfl | cases h
theorem nofold_of {e : Expr} {env : PySem.Env} (h : shapeB e = true) (x : Value) : foldedSetIterable e env x = pure x := by
  cases e <;> first | rfl | cases h
theorem star_of {e : Expr} {env : PySem.Env} {es : List Expr} (h : shapeB e = true) : starEach (e :: es) env = (false, eval e env) :: starEach es env := by
  cases e <;> first | rfl | cases h
theorem stars_of {N : List Str} {sc : Scope} {env : PySem.Env} {pos : Pos} : ∀ {es : Exs} {vs : List Expr}, okEs T N sc es vs = true → (backTo pos (starEach vs env)).any (·.1) = false
  | .nil, vs, h => by
    cases vs with
    | nil => rfl
    | cons v r => cases h
  | .cons c es, vs, h => by
    cases vs with
    | nil => cases h
    | cons v r =>
      have h' := and_t (show (okE T N sc c v && okEs T N sc es r) = true from h)
      rw [star_of (ok_shape h'.1)]
      show (false || (backTo pos (starEach r env)).any (·.1)) = false
      rw [stars_of h'.2]
      rfl
theorem SE.cmp (o : Cop) (ha : SE T Γ n a) (hb : SE T Γ n b) : SE T Γ n (.cmp o a b) := by
  intro X C e ρ c0 d c1 ho hv kk O σ H Q er k p
  unfold okE at ho
  split at ho
  · obtain ⟨h1, h2, h3⟩ := and3 ho
    cases of_decide_eq_true h1
    unfold ev at hv
    obtain ⟨x, c2, e1, hv⟩ := bnd_ok hv
    obtain ⟨y, c3, e2, hv⟩ := bnd_ok hv
    obtain ⟨e3, e4⟩ := opt_ok hv
    subst e4
    obtain ⟨b', e5, e6⟩ := Option.map_eq_some_iff.mp e3
    subst e6
    exact tW_of (pe_cmpR rW_op peW peW (nomark_of (ok_shape h3))) (ha X C _ _ _ _ _ h2 e1 _ _ _ _ _ er k fun v H1 x1 r1 rx _ => hb X C _ _ _ _ _ h3 e2 _ _ _ _ _ (er.ext x1) (k.ext x1 r1) fun u H2 x2 r2 ry _ =>
      cmp_snd C.units e5 ((k.ext x1 r1).ext x2 r2) (rx.ext x2) ry ((p.after (x1.trans x2) r2).here ((k.ext x1 r1).ext x2 r2) (.bl _) (by intro l z; cases z)))
  · cases ho
theorem STt.cmp (o : Cop) (ha : SE T Γ n a) (hb : SE T Γ n b) : STt T Γ n (.cmp o a b) := by
  intro X C e ρ c0 d c1 ho hv kk O σ H Q er k p
  unfold okE at ho
  split at ho
  · obtain ⟨h1, h2, h3⟩ := and3 ho
    cases of_decide_eq_true h1
    unfold ev at hv
    obtain ⟨x, c2, e1, hv⟩ := bnd_ok hv
    obtain ⟨y, c3, e2, hv⟩ := bnd_ok hv
    obtain ⟨e3, e4⟩ := opt_ok hv
    subst e4
    obtain ⟨b', e5, e6⟩ := Option.map_eq_some_iff.mp e3
    cases e6
    exact tTW_of (pt_cmpR rW_op peW peW (nomark_of (ok_shape h3))) (ha X C _ _ _ _ _ h2 e1 _ _ _ _ _ er k fun v H1 x1 r1 rx _ => hb X C _ _ _ _ _ h3 e2 _ _ _ _ _ (er.ext x1) (k.ext x1 r1) fun u H2 x2 r2 ry _ =>
      cmp_snd C.units e5 ((k.ext x1 r1).ext x2 r2) (rx.ext x2) ry ⟨_, rfl, p _ (x1.trans x2) r2⟩)
  · cases ho
theorem SE.cmp2 (o o' : Cop) (ha : SE T Γ n a) (hb : SE T Γ n b) (he : SE T Γ n e) : SE T Γ n (.cmp2 o o' a b e) := by
  intro X C e' ρ c0 d c1 ho hv kk O σ H Q er k p
  unfold okE at ho
  split at ho
  · obtain ⟨h1, h1', h2, h3, h4⟩ := and5 ho
    cases of_decide_eq_true h1
    cases of_decide_eq_true h1'
    unfold ev at hv
    obtain ⟨x, c2, e1, hv⟩ := bnd_ok hv
    obtain ⟨y, c3, e2, hv⟩ := bnd_ok hv
    obtain ⟨b', c4, e30, hv⟩ := bnd_ok hv
    obtain ⟨e3, e4⟩ := opt_ok e30
    subst e4
    refine tW_of (pe_chain rW_op rW_op peW peW peW (by rename_i r' _ ; exact nomark_of (ok_shape h4))) (ha X C _ _ _ _ _ h2 e1 _ _ _ _ _ er k fun v H1 x1 r1 rx _ => hb X C _ _ _ _ _ h3 e2 _ _ _ _ _ (er.ext x1) (k.ext x1 r1) fun u H2 x2 r2 ry _ =>
      cmp_snd C.units e3 ((k.ext x1 r1).ext x2 r2) (rx.ext x2) ry ⟨b', rfl, ?_⟩)
    cases b' with
    | false =>
      cases hv
      exact iteF ((p.after (x1.trans x2) r2).here ((k.ext x1 r1).ext x2 r2) (.bl _) (by intro l z; cases z))
    | true =>
      obtain ⟨z, c5, e5, hv⟩ := bnd_ok (show (ev Γ ρ e c4).bnd (fun z c4 => R.opt ((cmpD o' y z).map .bl) c4) = .ok d c1 from hv)
      obtain ⟨e6, e7⟩ := opt_ok hv
      subst e7
      obtain ⟨b2, e8, e9⟩ := Option.map_eq_some_iff.mp e6
      subst e9
      exact iteT (he X C _ _ _ _ _ h4 e5 _ _ _ _ _ ((er.ext x1).ext x2) ((k.ext x1 r1).ext x2 r2) fun w H3 x3 r3 rz _ =>
        cmp_snd C.units e8 (((k.ext x1 r1).ext x2 r2).ext x3 r3) (ry.ext x3) rz ((p.after ((x1.trans x2).trans x3) r3).here (((k.ext x1 r1).ext x2 r2).ext x3 r3) (.bl _) (by intro l z; cases z)))
  · cases ho
theorem tBl_ok {x : D} {b : Bool} (h : tBl x = some b) : x = .bl b := by
  unfold tBl at h
  split at h <;> cases h
  rfl
theorem SE.not (ha : STt T Γ n a) (ha' : SE T Γ n a) : SE T Γ n (.not a) := by
  intro X C e ρ c0 d c1 ho hv kk O σ H Q er k p
  unfold okE at ho
  split at ho
  · unfold ev at hv
    obtain ⟨x, c2, e1, hv⟩ := bnd_ok hv
    obtain ⟨b', c3, e30, hv⟩ := bnd_ok hv
    obtain ⟨e3, e4⟩ := opt_ok e30
    subst e4
    cases tBl_ok e3
    cases hv
    refine tW_of (pe_not peW) (ha' X C _ _ _ _ _ ho e1 _ _ _ _ _ er k fun v H1 x1 r1 rx _ => ?_)
    cases bl_eq rx
    exact ⟨_, rfl, (p.after x1 r1).here (k.ext x1 r1) (.bl _) (by intro l z; cases z)⟩
  · cases ho
theorem STt.not (ha : STt T Γ n a) : STt T Γ n (.not a) := by
  intro X C e ρ c0 d c1 ho hv kk O σ H Q er k p
  unfold okE at ho
  split at ho
  · unfold ev at hv
    obtain ⟨x, c2, e1, hv⟩ := bnd_ok hv
    obtain ⟨b', c3, e30, hv⟩ := bnd_ok hv
    obtain ⟨e3, e4⟩ := opt_ok e30
    subst e4
    cases tBl_ok e3
    cases hv
    exact tTW_of (pt_not ptW) (ha X C _ _ _ _ _ ho e1 _ _ _ _ _ er k p)
  · cases ho
theorem SE.ife (ht : STt T Γ n t) (ha : SE T Γ n a) (hb : SE T Γ n b) : SE T Γ n (.ife t a b) := by
  intro X C e ρ c0 d c1 ho hv kk O σ H Q er k p
  unfold okE at ho
  split at ho
  · obtain ⟨h1, h2, h3⟩ := and3 ho
    unfold ev at hv
    obtain ⟨x, c2, e1, hv⟩ := bnd_ok hv
    obtain ⟨b', c3, e30, hv⟩ := bnd_ok hv
    obtain ⟨e3, e4⟩ := opt_ok e30
    subst e4
    cases tBl_ok e3
    replace hv := cut_ok hv
    refine tW_of (pe_ifExp ptW peW peW) (ht X C _ _ _ _ _ h1 e1 _ _ _ _ _ er k fun H1 x1 r1 => ?_)
    have p' : Post X T kk O H1 c1 d false Q := p.after x1 r1
    cases b' with
    | true => exact iteT (ha X C _ _ _ _ _ h2 hv _ _ _ _ _ (er.ext x1) (k.ext x1 r1) p'.weak)
    | false => exact iteF (hb X C _ _ _ _ _ h3 hv _ _ _ _ _ (er.ext x1) (k.ext x1 r1) p'.weak)
  · cases ho
theorem STt.ife (ht : STt T Γ n t) (ha : STt T Γ n a) (hb : STt T Γ n b) : STt T Γ n (.ife t a b) := by
  intro X C e ρ c0 d c1 ho hv kk O σ H Q er k p
  unfold okE at ho
  split at ho
  · obtain ⟨h1, h2, h3⟩ := and3 ho
    unfold ev at hv
    obtain ⟨x, c2, e1, hv⟩ := bnd_ok hv
    obtain ⟨b', c3, e30, hv⟩ := bnd_ok hv
    obtain ⟨e3, e4⟩ := opt_ok e30
    subst e4
    cases tBl_ok e3
    replace hv := cut_ok hv
    rename_i l m r pos _ _
    intro pins s I
    show wpAny _ _ (do if ← isTrue l X.env (eval l X.env) then isTrue m X.env (eval m X.env) else isTrue r X.env (eval r X.env)) _ _ _
    refine wpAny_bind (thn (ht X C _ _ _ _ _ h1 e1 kk O σ H (fun b H1 => b = b' ∧ Ext kk H H1 ∧ Cr T kk c3 H1) er k (fun H1 x1 r1 => ⟨rfl, x1, r1⟩) pins s I) fun b1 s1 ⟨H1, I1, e5, x1, r1⟩ => ?_)
    subst e5
    cases b1 with
    | true => exact ha X C _ _ _ _ _ h2 hv _ _ _ _ _ (er.ext x1) (k.ext x1 r1) (fun H2 x2 r2 => p _ (x1.trans x2) r2) pins s1 I1
    | false => exact hb X C _ _ _ _ _ h3 hv _ _ _ _ _ (er.ext x1) (k.ext x1 r1) (fun H2 x2 r2 => p _ (x1.trans x2) r2) pins s1 I1
  · cases ho
/-- a test by its value -/
theorem STt.plain {c : Ex} (h : SE T Γ n c) (q : ∀ N sc e, okE T N sc c e = true → ∀ env whole, isTrue e env whole = (do let v ← whole; standAt e.pos; holding [v] (truthy v))) : STt T Γ n c := by
  intro X C e ρ c0 d c1 ho hv kk O σ H Q er k p
  refine tTW_of (pt_val peW (q _ _ _ ho _)) (h X C _ _ _ _ _ ho hv _ _ _ _ _ er k fun v H1 x1 r1 rx _ => ?_)
  cases bl_eq rx
  exact ⟨_, rfl, p _ x1 r1⟩
/-! ### lists of expressions -/
variable {es : Exs}
theorem SA.nil : SA T Γ n .nil := by
  intro X C vs ρ c0 ds c1 ho hv kk O σ H Q er k p
  cases vs with
  | nil =>
    cases hv
    exact tAW_of pa_nil (p _ _ (Ext.refl H) k.cr .nil)
  | cons v r => cases ho
theorem SA.cons (ha : SE T Γ n a) (hr : SA T Γ n es) : SA T Γ n (.cons a es) := by
  intro X C vs ρ c0 ds c1 ho hv kk O σ H Q er k p
  cases vs with
  | nil => cases ho
  | cons v r =>
    obtain ⟨h1, h2⟩ := and_t (show (okE T X.N X.env.scope a v && okEs T X.N X.env.scope es r) = true from ho)
    unfold evs at hv
    obtain ⟨x, c2, e1, hv⟩ := bnd_ok hv
    obtain ⟨y, c3, e2, hv⟩ := bnd_ok hv
    cases hv
    exact tAW_of (pa_cons peW paW (star_of (ok_shape h1))) (ha X C _ _ _ _ _ h1 e1 _ _ _ _ _ er k fun v H1 x1 r1 rx _ => hr X C _ _ _ _ _ h2 e2 _ _ _ _ _ (er.ext x1) (k.ext x1 r1) fun us H2 x2 r2 rs =>
      p _ _ (x1.trans x2) r2 (.cons (rx.ext x2) rs))
theorem evs_len {ρ : Rho} : ∀ {es : Exs} {c : Cup} {ds : List D} {c' : Cup}, evs Γ ρ es c = .ok ds c' → ds.length = es.len
  | .nil, c, ds, c', h => by cases h; rfl
  | .cons e es, c, ds, c', h => by
    unfold evs at h
    obtain ⟨x, c2, e1, h⟩ := bnd_ok h
    obtain ⟨y, c3, e2, h⟩ := bnd_ok h
    cases h
    simp [Exs.len, evs_len e2]
theorem SE.tup (hs : SA T Γ n es) : SE T Γ n (.tup es) := by
  intro X C e ρ c0 d c1 ho hv kk O σ H Q er k p
  unfold okE at ho
  split at ho
  · obtain ⟨h1, h2⟩ := and_t ho
    have h3 := of_decide_eq_true h2
    unfold ev at hv
    obtain ⟨ds, c2, e1, hv⟩ := bnd_ok hv
    cases hv
    refine tW_of (pe_tup paW) (hs X C _ _ _ _ _ h1 e1 _ _ _ _ _ er k fun us H1 x1 r1 rs => ⟨?_, fun q hq => (p.after x1 r1).tup (k.ext x1 r1) rs hq⟩)
    rw [rs.length, evs_len e1, sizeLine_eq]
    omega
  · cases ho
theorem SE.lst (hs : SA T Γ n es) : SE T Γ n (.lst es) := by
  intro X C e ρ c0 d c1 ho hv kk O σ H Q er k p
  unfold okE at ho
  split at ho
  · obtain ⟨h1, h2⟩ := and_t ho
    have h3 := of_decide_eq_true h2
    unfold ev at hv
    obtain ⟨ds, c2, e1, hv⟩ := bnd_ok hv
    cases hv
    refine tW_of (pe_lst paW) (hs X C _ _ _ _ _ h1 e1 _ _ _ _ _ er k fun us H1 x1 r1 rs => ⟨?_, fun q hq => (p.after x1 r1).lst (k.ext x1 r1) rs hq⟩)
    rw [rs.length, evs_len e1, sizeLine_eq]
    omega
  · cases ho
def noSl : Expr → Bool
  | .Slice _ _ _ _ => false
  | _ => true
theorem plainIx_of {e : Expr} (h : noSl e = true) : PlainIx e := by
  intro o i
  cases e <;> first | rfl | cases h
theorem ok_noslice {N : List Str} {sc : Scope} {c : Ex} {e : Expr} (h : okE T N sc c e = true) : noSl e = true := by
  cases c <;> (unfold okE at h; split at h <;> first | rfl | cases h)
theorem SE.ix (ha : SE T Γ n a) (hb : SE T Γ n b) : SE T Γ n (.ix a b) := by
  intro X C e ρ c0 d c1 ho hv kk O σ H Q er k p
  unfold okE at ho
  split at ho
  · obtain ⟨h2, h3⟩ := and_t ho
    unfold ev at hv
    obtain ⟨x, c2, e1, hv⟩ := bnd_ok hv
    obtain ⟨y, c3, e2, hv⟩ := bnd_ok hv
    obtain ⟨e3, e4⟩ := opt_ok hv
    subst e4
    exact tW_of (pe_ix rIW_ix peW peW (plainIx_of (ok_noslice h3))) (ha X C _ _ _ _ _ h2 e1 _ _ _ _ _ er k fun v H1 x1 r1 rx _ => hb X C _ _ _ _ _ h3 e2 _ _ _ _ _ (er.ext x1) (k.ext x1 r1) fun u H2 x2 r2 ry _ =>
      ix_snd e3 ((k.ext x1 r1).ext x2 r2) (rx.ext x2) ry (p.after (x1.trans x2) r2))
  · cases ho
theorem SO.no : SO T Γ n .no := by
  intro X C v ρ c0 d l c1 ho hv hp kk O σ H Q er k p
  cases v with
  | none =>
    cases hv
    cases hp
    exact tOW_of po_none (p _ (Ext.refl H) k.cr)
  | some v => cases ho
theorem SO.so (ha : SE T Γ n a) : SO T Γ n (.so a) := by
  intro X C v ρ c0 d l c1 ho hv hp kk O σ H Q er k p
  cases v with
  | none => cases ho
  | some v =>
    unfold evo at hv
    obtain ⟨x, c2, e1, hv⟩ := bnd_ok hv
    cases hv
    unfold partD at hp
    split at hp
    · rename_i z; cases z
    · rename_i i z
      cases z; cases hp
      refine tOW_of (po_some peW) (ha X C _ _ _ _ _ ho e1 _ _ _ _ _ er k fun v H1 x1 r1 rx _ => ?_)
      cases int_eq rx
      exact ⟨_, rfl, p _ x1 r1⟩
    · cases hp
theorem SE.sl {lo hi st : Eo} (ha : SE T Γ n a) (hl : SO T Γ n lo) (hh : SO T Γ n hi) (hs : SO T Γ n st) : SE T Γ n (.sl a lo hi st) := by
  intro X C e ρ c0 d c1 ho hv kk O σ H Q er k p
  unfold okE at ho
  split at ho
  · rename_i ex ox oy oz p2 pos
    obtain ⟨h1, h2, h3, h4⟩ := and4 ho
    unfold ev at hv
    obtain ⟨x, c2, e1, hv⟩ := bnd_ok hv
    obtain ⟨l, c3, e2, hv⟩ := bnd_ok hv
    obtain ⟨h, c4, e3, hv⟩ := bnd_ok hv
    obtain ⟨s, c5, e4, hv⟩ := bnd_ok hv
    obtain ⟨e5, e6⟩ := opt_ok hv
    subst e6
    have q1 : ∃ l', partD l = some l' := by
      cases z : partD l with
      | none => unfold slD at e5; rw [z] at e5; cases e5
      | some w => exact ⟨w, rfl⟩
    have q2 : ∃ l', partD h = some l' := by
      cases z : partD h with
      | none => unfold slD at e5; rw [z] at e5; cases w : partD l <;> rw [w] at e5 <;> cases e5
      | some w => exact ⟨w, rfl⟩
    obtain ⟨l', q1⟩ := q1
    obtain ⟨h', q2⟩ := q2
    cases st with
    | no =>
      cases oz with
      | some _ => unfold okO at h4; cases h4
      | none =>
        unfold evo at e4
        cases e4
        exact tW_of (pe_slice rSW_sl peW poW poW) (ha X C _ _ _ _ _ h1 e1 _ _ _ _ _ er k fun v H1 x1 r1 rx _ => hl X C _ _ _ _ _ _ h2 e2 q1 _ _ _ _ _ (er.ext x1) (k.ext x1 r1) fun H2 x2 r2 =>
          hh X C _ _ _ _ _ _ h3 e3 q2 _ _ _ _ _ ((er.ext x1).ext x2) ((k.ext x1 r1).ext x2 r2) fun H3 x3 r3 =>
            sl_snd q1 q2 e5 (((k.ext x1 r1).ext x2 r2).ext x3 r3) ((rx.ext x2).ext x3) (p.after ((x1.trans x2).trans x3) r3))
    | so se =>
      cases oz with
      | none => unfold okO at h4; cases h4
      | some z =>
        have q3 : ∃ j, s = some (.int j) := by
          unfold slD at e5
          rw [q1, q2] at e5
          cases s with
          | none => unfold evo at e4; obtain ⟨_, _, _, e4⟩ := bnd_ok e4; cases e4
          | some sd => cases sd <;> first | exact ⟨_, rfl⟩ | cases e5
        obtain ⟨j, rfl⟩ := q3
        exact tW_of (pe_slice3 rS3_sl peW poW poW poW) (ha X C _ _ _ _ _ h1 e1 _ _ _ _ _ er k fun v H1 x1 r1 rx _ => hl X C _ _ _ _ _ _ h2 e2 q1 _ _ _ _ _ (er.ext x1) (k.ext x1 r1) fun H2 x2 r2 =>
          hh X C _ _ _ _ _ _ h3 e3 q2 _ _ _ _ _ ((er.ext x1).ext x2) ((k.ext x1 r1).ext x2 r2) fun H3 x3 r3 =>
            hs X C _ _ _ _ _ _ h4 e4 rfl _ _ _ _ _ (((er.ext x1).ext x2).ext x3) (((k.ext x1 r1).ext x2 r2).ext x3 r3) fun H4 x4 r4 =>
              sl_snd3 q1 q2 e5 ((((k.ext x1 r1).ext x2 r2).ext x3 r3).ext x4 r4) (((rx.ext x2).ext x3).ext x4) (p.after (((x1.trans x2).trans x3).trans x4) r4))
  · cases ho
theorem SE.call (f : Nat) (hs : SA T Γ n es) : SE T Γ n (.call f es) := by
  intro X C e ρ c0 d c1 ho hv kk O σ H Q er k p
  unfold okE at ho
  split at ho
  · rename_i x px vs ks pos
    obtain ⟨hk, h1, h2, h3, h4⟩ := and5 ho
    obtain ⟨n1, n2, n3⟩ := nm_of h3
    cases ks with
    | cons _ _ => cases hk
    | nil =>
      obtain ⟨fa, fd, ps, m1, m2, m3, F⟩ := C.fns f x (eq_of_beq h1)
      unfold ev at hv
      obtain ⟨ds, c2, e1, hv⟩ := bnd_ok hv
      have fin : ∀ us H1, Ext kk H H1 → Cr T kk c2 H1 → Rps X.K X.mg T kk O H1 us ds → spG X.K X.mg T Γ f (us ++ []) H1 Q E0 := fun us H1 x1 r1 rs => by
        rw [List.append_nil]
        exact ⟨kk, O, ds, c2, d, c1, rs, k.ext x1 r1, hv, fun v H2 x2 r2 rv => (p.after x1 r1) v H2 x2 r2 rv fun z => by cases z⟩
      cases vs with
      | nil =>
        cases es with
        | cons _ _ => cases h4
        | nil =>
          cases e1
          exact tW_of (pe_call0 F C.room (glo_of h2) m1 m2 m3 .nil pass0 n1) (fin [] H (Ext.refl H) k.cr .nil)
      | cons v r =>
        cases es with
        | nil => cases h4
        | cons c' es' =>
          have h5 := and_t (show (okE T X.N X.env.scope c' v && okEs T X.N X.env.scope es' r) = true from h4)
          exact tW_of (pe_call F C.room (glo_of h2) m1 m2 m3 .nil pass0 paW n1 (star_of (ok_shape h5.1)) (stars_of h5.2)) (hs X C _ _ _ _ _ h4 e1 _ _ _ _ _ er k fin)
  · cases ho
theorem Bi.boot (b : Bi) : bootBuiltins b.nm = some b.val := by cases b <;> decide +kernel
theorem Bi.nm_ok (b : Bi) : b.nm ≠ "__name__" ∧ (b.nm == ("__debug__" : Str)) = false ∧ b.nm ∈ bltNames := by cases b <;> decide +kernel
theorem SE.bi (b : Bi) (hs : SA T Γ n es) : SE T Γ n (.bi b es) := by
  intro X C e ρ c0 d c1 ho hv kk O σ H Q er k p
  unfold okE at ho
  split at ho
  · rename_i x px vs ks pos
    obtain ⟨hk, h1, h2, h3, h4⟩ := and5 ho
    cases eq_of_beq h1
    obtain ⟨m1, m2, m3⟩ := Bi.nm_ok b
    cases ks with
    | cons _ _ => cases hk
    | nil =>
      unfold ev at hv
      obtain ⟨ds, c2, e1, hv⟩ := bnd_ok hv
      obtain ⟨e5, e6⟩ := opt_ok hv
      subst e6
      cases es with
      | nil => exact absurd rfl (of_decide_eq_true h3)
      | cons c' es' =>
        cases vs with
        | nil => cases h4
        | cons v r =>
          have h5 := and_t (show (okE T X.N X.env.scope c' v && okEs T X.N X.env.scope es' r) = true from h4)
          have q := hs X C _ _ _ _ _ h4 e1 kk O σ H (fun us H1 => rCW X b.val us H1 Q) er k fun us H1 x1 r1 rs => bi_snd C.calm (Nat.lt_of_succ_lt C.units) e5 (k.ext x1 r1) rs (p.after x1 r1)
          have hb := Bi.boot b
          cases b with
          | len | abs | sum | max | min | all | any | sorted => exact tW_of (pe_callB rCW_c (glo_of h2) (C.blt _ m3) hb paW m1 m2 (star_of (ok_shape h5.1)) (stars_of h5.2)) q
          | int | tuple | list | str => exact tW_of (pe_callTy rCW_c (glo_of h2) (C.blt _ m3) hb paW m1 m2 (star_of (ok_shape h5.1)) (stars_of h5.2)) q
  · cases ho
theorem Ty.boot (t : Ty) : bootBuiltins (Str.ofString t.nm) = some (.type t.nm) ∧ Str.ofString t.nm ≠ "__name__" ∧ (Str.ofString t.nm == ("__debug__" : Str)) = false ∧ Str.ofString t.nm ∈ bltNames := by cases t <;> decide +kernel
theorem SE.isi (t : Ty) (ha : SE T Γ n a) : SE T Γ n (.isi a t) := by
  intro X C e ρ c0 d c1 ho hv kk O σ H Q er k p
  unfold okE at ho
  split at ho
  · rename_i x px vs ks pos
    obtain ⟨hk, h1, h2, h3⟩ := and4 ho
    cases eq_of_beq h1
    cases ks with
    | cons _ _ => cases hk
    | nil =>
      split at h3
      · rename_i l y py
        obtain ⟨h3', h4, h5⟩ := and3 h3
        cases eq_of_beq h4
        obtain ⟨m1, m2, m3, m4⟩ := Ty.boot t
        unfold ev at hv
        obtain ⟨x, c2, e1, hv⟩ := bnd_ok hv
        obtain ⟨e5, e6⟩ := opt_ok hv
        subst e6
        obtain ⟨b', e7, e8⟩ := Option.map_eq_some_iff.mp e5
        subst e8
        refine tW_of (pe_callB (id := "isinstance") rCW_c (glo_of h2) (C.blt _ (by decide +kernel)) (by decide +kernel) (pa_cons peW (pa_cons (pe_bltn (v := .ty t.nm) (glo_of h5) (C.blt _ m4) m1 rfl m2 m3) pa_nil rfl) (star_of (ok_shape h3'))) (by decide +kernel) (by decide +kernel) (star_of (ok_shape h3')) rfl) ?_
        exact ha X C _ _ _ _ _ h3' e1 _ _ _ _ _ er k fun v H1 x1 r1 rx _ => is_snd e7 rx ((p.after x1 r1).here (k.ext x1 r1) (.bl _) (by intro l z; cases z))
      · cases h3
  · cases ho
end
end Mn

set_option maxRecDepth 100000
set_option maxHeartbeats 4000000
namespace Mn
open PySem PySem.Spec PyProof.Rows L2

section
variable (T : Tb) (Γ : Gm) (n : Nat)
/-- a row of and | or -/
def SAnd (es : Exs) : Prop := ∀ (X : Cx), Cn T Γ n X → ∀ (vs : List Expr) (pos : Pos) (ρ : Rho) (c0 : Cup) (d : D) (c1 : Cup), okEs T X.N X.env.scope es vs = true → evAnd Γ ρ es c0 = .ok d c1 →
  ∀ (kk : Option Addr) (O : Addr → Prop) (σ : L2.St) (H : Hp) (Q : VK), Er X T kk O σ ρ H → Ok T kk O c0 H → Post X T kk O H c1 d false Q → tW X (.BoolOp .And vs pos) σ H Q
def SOr (es : Exs) : Prop := ∀ (X : Cx), Cn T Γ n X → ∀ (vs : List Expr) (pos : Pos) (ρ : Rho) (c0 : Cup) (d : D) (c1 : Cup), okEs T X.N X.env.scope es vs = true → evOr Γ ρ es c0 = .ok d c1 →
  ∀ (kk : Option Addr) (O : Addr → Prop) (σ : L2.St) (H : Hp) (Q : VK), Er X T kk O σ ρ H → Ok T kk O c0 H → Post X T kk O H c1 d false Q → tW X (.BoolOp .Or vs pos) σ H Q
def tPW (X : Cx) (e : Expr) : TT := fun σ H Q => ∀ (whole : Sem Value) (pins : List (Addr × Obj)) (s : Shared), Inv X pins σ H s → wpAny (model X.prog X.w) X.A (isTrue e X.env whole) (TP X pins σ Q) X.xe s
theorem pwW {X : Cx} {e : Expr} : PW X e (tPW X e) := ⟨fun wh pins s σ H Q I h => h wh pins s I⟩
theorem tPW_of {X : Cx} {e : Expr} {t : TT} (h : PW X e t) {σ : L2.St} {H : Hp} {Q : Bool → Hp → Prop} (q : t σ H Q) : tPW X e σ H Q := fun wh pins s I => h.run wh pins s σ H Q I q
def SAndT (es : Exs) : Prop := ∀ (X : Cx), Cn T Γ n X → ∀ (vs : List Expr) (pos : Pos) (ρ : Rho) (c0 : Cup) (b : Bool) (c1 : Cup), okEs T X.N X.env.scope es vs = true → evAnd Γ ρ es c0 = .ok (.bl b) c1 →
  ∀ (kk : Option Addr) (O : Addr → Prop) (σ : L2.St) (H : Hp) (Q : Bool → Hp → Prop), Er X T kk O σ ρ H → Ok T kk O c0 H → (∀ H', Ext kk H H' → Cr T kk c1 H' → Q b H') → tPW X (.BoolOp .And vs pos) σ H Q
def SOrT (es : Exs) : Prop := ∀ (X : Cx), Cn T Γ n X → ∀ (vs : List Expr) (pos : Pos) (ρ : Rho) (c0 : Cup) (b : Bool) (c1 : Cup), okEs T X.N X.env.scope es vs = true → evOr Γ ρ es c0 = .ok (.bl b) c1 →
  ∀ (kk : Option Addr) (O : Addr → Prop) (σ : L2.St) (H : Hp) (Q : Bool → Hp → Prop), Er X T kk O σ ρ H → Ok T kk O c0 H → (∀ H', Ext kk H H' → Cr T kk c1 H' → Q b H') → tPW X (.BoolOp .Or vs pos) σ H Q
end
section
variable {T : Tb} {Γ : Gm} {n : Nat} {a b e t : Ex} {es : Exs}
theorem SAnd.cons (ha : SE T Γ n a) (hr : SAnd T Γ n es) : SAnd T Γ n (.cons a es) := by
  intro X C vs pos ρ c0 d c1 ho hv kk O σ H Q er k p
  cases vs with
  | nil => cases ho
  | cons v r =>
    obtain ⟨h1, h2⟩ := and_t (show (okE T X.N X.env.scope a v && okEs T X.N X.env.scope es r) = true from ho)
    cases es with
    | nil =>
      cases r with
      | cons _ _ => cases h2
      | nil => exact tW_of (pe_one peW) (ha X C _ _ _ _ _ h1 (by unfold evAnd at hv; exact cut_ok hv) _ _ _ _ _ er k p.weak)
    | cons e2 es2 =>
      cases r with
      | nil => cases h2
      | cons w s =>
        unfold evAnd at hv
        obtain ⟨x, c2, e1, hv⟩ := bnd_ok hv
        obtain ⟨b', c3, e30, hv⟩ := bnd_ok hv
        obtain ⟨e3, e4⟩ := opt_ok e30
        subst e4
        cases tBl_ok e3
        refine tW_of (pe_and peW peW) (ha X C _ _ _ _ _ h1 e1 _ _ _ _ _ er k fun u H1 x1 r1 rx _ => ?_)
        cases bl_eq rx
        refine ⟨b', rfl, ?_⟩
        cases b' with
        | true => exact iteT (hr X C _ _ _ _ _ _ h2 hv _ _ _ _ _ (er.ext x1) (k.ext x1 r1) (p.after x1 r1))
        | false =>
          cases hv
          exact iteF ((p.after x1 r1).here (k.ext x1 r1) (.bl _) (by intro l z; cases z))
theorem SOr.cons (ha : SE T Γ n a) (hr : SOr T Γ n es) : SOr T Γ n (.cons a es) := by
  intro X C vs pos ρ c0 d c1 ho hv kk O σ H Q er k p
  cases vs with
  | nil => cases ho
  | cons v r =>
    obtain ⟨h1, h2⟩ := and_t (show (okE T X.N X.env.scope a v && okEs T X.N X.env.scope es r) = true from ho)
    cases es with
    | nil =>
      cases r with
      | cons _ _ => cases h2
      | nil => exact tW_of (pe_one peW) (ha X C _ _ _ _ _ h1 (by unfold evOr at hv; exact cut_ok hv) _ _ _ _ _ er k p.weak)
    | cons e2 es2 =>
      cases r with
      | nil => cases h2
      | cons w s =>
        unfold evOr at hv
        obtain ⟨x, c2, e1, hv⟩ := bnd_ok hv
        obtain ⟨b', c3, e30, hv⟩ := bnd_ok hv
        obtain ⟨e3, e4⟩ := opt_ok e30
        subst e4
        cases tBl_ok e3
        refine tW_of (pe_or peW peW) (ha X C _ _ _ _ _ h1 e1 _ _ _ _ _ er k fun u H1 x1 r1 rx _ => ?_)
        cases bl_eq rx
        refine ⟨b', rfl, ?_⟩
        cases b' with
        | false => exact iteF (hr X C _ _ _ _ _ _ h2 hv _ _ _ _ _ (er.ext x1) (k.ext x1 r1) (p.after x1 r1))
        | true =>
          cases hv
          exact iteT ((p.after x1 r1).here (k.ext x1 r1) (.bl _) (by intro l z; cases z))
theorem SAndT.cons (ha : STt T Γ n a) (hr : SAndT T Γ n es) : SAndT T Γ n (.cons a es) := by
  intro X C vs pos ρ c0 d c1 ho hv kk O σ H Q er k p
  cases vs with
  | nil => cases ho
  | cons v r =>
    obtain ⟨h1, h2⟩ := and_t (show (okE T X.N X.env.scope a v && okEs T X.N X.env.scope es r) = true from ho)
    cases es with
    | nil =>
      cases r with
      | cons _ _ => cases h2
      | nil => exact tPW_of (pw_and1 ptW) (ha X C _ _ _ _ _ h1 (by unfold evAnd at hv; exact cut_ok hv) _ _ _ _ _ er k p)
    | cons e2 es2 =>
      cases r with
      | nil => cases h2
      | cons w s =>
        unfold evAnd at hv
        obtain ⟨x, c2, e1, hv⟩ := bnd_ok hv
        obtain ⟨b', c3, e30, hv⟩ := bnd_ok hv
        obtain ⟨e3, e4⟩ := opt_ok e30
        subst e4
        cases tBl_ok e3
        refine tPW_of (pw_and ptW pwW) (ha X C _ _ _ _ _ h1 e1 _ _ _ _ _ er k fun H1 x1 r1 => ?_)
        cases b' with
        | true => exact iteT (hr X C _ _ _ _ _ _ h2 hv _ _ _ _ _ (er.ext x1) (k.ext x1 r1) fun H2 x2 r2 => p _ (x1.trans x2) r2)
        | false =>
          cases hv
          exact iteF (p _ x1 r1)
theorem SOrT.cons (ha : STt T Γ n a) (hr : SOrT T Γ n es) : SOrT T Γ n (.cons a es) := by
  intro X C vs pos ρ c0 d c1 ho hv kk O σ H Q er k p
  cases vs with
  | nil => cases ho
  | cons v r =>
    obtain ⟨h1, h2⟩ := and_t (show (okE T X.N X.env.scope a v && okEs T X.N X.env.scope es r) = true from ho)
    cases es with
    | nil =>
      cases r with
      | cons _ _ => cases h2
      | nil => exact tPW_of (pw_or1 ptW) (ha X C _ _ _ _ _ h1 (by unfold evOr at hv; exact cut_ok hv) _ _ _ _ _ er k p)
    | cons e2 es2 =>
      cases r with
      | nil => cases h2
      | cons w s =>
        unfold evOr at hv
        obtain ⟨x, c2, e1, hv⟩ := bnd_ok hv
        obtain ⟨b', c3, e30, hv⟩ := bnd_ok hv
        obtain ⟨e3, e4⟩ := opt_ok e30
        subst e4
        cases tBl_ok e3
        refine tPW_of (pw_or ptW pwW) (ha X C _ _ _ _ _ h1 e1 _ _ _ _ _ er k fun H1 x1 r1 => ?_)
        cases b' with
        | false => exact iteF (hr X C _ _ _ _ _ _ h2 hv _ _ _ _ _ (er.ext x1) (k.ext x1 r1) fun H2 x2 r2 => p _ (x1.trans x2) r2)
        | true =>
          cases hv
          exact iteT (p _ x1 r1)
theorem SE.and (h : SAnd T Γ n es) : SE T Γ n (.and es) := by
  intro X C e ρ c0 d c1 ho hv kk O σ H Q er k p
  unfold okE at ho
  split at ho
  · exact h X C _ _ _ _ _ _ ho (by unfold ev at hv; exact hv) _ _ _ _ _ er k p
  · cases ho
theorem SE.or (h : SOr T Γ n es) : SE T Γ n (.or es) := by
  intro X C e ρ c0 d c1 ho hv kk O σ H Q er k p
  unfold okE at ho
  split at ho
  · exact h X C _ _ _ _ _ _ ho (by unfold ev at hv; exact hv) _ _ _ _ _ er k p
  · cases ho
theorem STt.and (h : SAndT T Γ n es) : STt T Γ n (.and es) := by
  intro X C e ρ c0 d c1 ho hv kk O σ H Q er k p
  unfold okE at ho
  split at ho
  · exact tTW_of (PW.pt pwW) (h X C _ _ _ _ _ _ ho (by unfold ev at hv; exact hv) _ _ _ _ _ er k p)
  · cases ho
theorem STt.or (h : SOrT T Γ n es) : STt T Γ n (.or es) := by
  intro X C e ρ c0 d c1 ho hv kk O σ H Q er k p
  unfold okE at ho
  split at ho
  · exact tTW_of (PW.pt pwW) (h X C _ _ _ _ _ _ ho (by unfold ev at hv; exact hv) _ _ _ _ _ er k p)
  · cases ho

/-! ### what is walked -/
/-- lists and tuples keep below the line -/
def Lens (X : Cx) (H : Hp) : Prop := (∀ a xs, SqL X.K H a xs → xs.length ≤ sizeLine) ∧ ∀ a xs, SqT X.K H a xs → xs.length ≤ sizeLine
theorem Lens.of {X : Cx} {pins : List (Addr × Obj)} {σ : L2.St} {H : Hp} {s : Shared} (I : Inv X pins σ H s) : Lens X H :=
  ⟨fun a xs h => let ⟨_, _, _, z⟩ := I.list h; z, fun a xs h => let ⟨_, _, _, z⟩ := I.tuple h; z⟩
theorem tW_len {X : Cx} {e : Expr} {σ : L2.St} {H : Hp} {Q : VK} (h : tW X e σ H fun v H' => Lens X H' → Q v H') : tW X e σ H Q := fun pins s I =>
  thn (h pins s I) fun u s' ⟨v, H', I', r, q⟩ => ⟨v, H', I', r, q (Lens.of I')⟩
theorem tAW_len {X : Cx} {es : List Expr} {σ : L2.St} {H : Hp} {Q : List V → Hp → Prop} (h : tAW X es σ H fun v H' => Lens X H' → Q v H') : tAW X es σ H Q := fun pos pins s I =>
  thn (h pos pins s I) fun u s' ⟨v, H', I', r, q⟩ => ⟨v, H', I', r, q (Lens.of I')⟩
theorem same_new {H : Hp} {p : Addr} {o : HO} (h : H p = none) : Same H (upd H p o) := fun b x e => by
  rw [upd_ne (ne_of_none e h)]
  exact e
variable {K : PySem.W.Frag} {mg : Str → Option Value} {kk : Option Addr} {O : Addr → Prop} {H1 : Hp}
theorem sqL_uniq {a : Addr} {vs xs : List V} {H : Hp} (h : H a = some (.lst vs)) (h' : SqL K H a xs) (hk : K.lookup a = none) : xs = vs := by
  rcases h' with (h' | ⟨o, h'⟩) | ⟨o, _, _, h', _⟩
  · rw [h] at h'; cases h'; rfl
  · rw [h] at h'; cases h'
  · rw [hk] at h'; cases h'
theorem itr_list {a : Addr} {vs : List V} {ds : List D} (h : H1 a = some (.lst vs)) (k : ¬ O a ∧ kk ≠ some a) (r : Rps K mg T kk O H1 vs ds) : ItR K mg T kk O (Itl K a) ds H1 := fun i H x => by
  have h2 : SqL K H a vs := .of (x _ _ h (.inl k) (fun ps z => by cases z))
  refine ⟨fun d e => ?_, fun e => ⟨vs, h2, by rw [r.length]; exact e⟩⟩
  obtain ⟨v, e1, e2⟩ := r.get e
  refine ⟨⟨vs, v, h2, e1⟩, fun y H' q => ?_⟩
  obtain ⟨rfl, q⟩ := q
  have := q vs h2
  rw [e1] at this
  cases this
  exact ⟨fun _ _ z => z, e2.chg x⟩
theorem itr_tup {a : Addr} {vs : List V} {ds : List D} (h : SqT K H1 a vs) (r : Rps K mg T kk O H1 vs ds) : ItR K mg T kk O (Itt K a) ds H1 := fun i H x => by
  have h2 : SqT K H a vs := x.sqT h
  refine ⟨fun d e => ?_, fun e => ⟨vs, h2, by rw [r.length]; exact e⟩⟩
  obtain ⟨v, e1, e2⟩ := r.get e
  refine ⟨⟨vs, v, h2, e1⟩, fun y H' q => ?_⟩
  obtain ⟨rfl, q⟩ := q
  have := q vs h2
  rw [e1] at this
  cases this
  exact ⟨fun _ _ z => z, e2.chg x⟩
theorem rngL_len : ∀ (n : Nat) (lo : Int), (rngL lo n).length = n
  | 0, _ => rfl
  | n + 1, lo => by simp [rngL, rngL_len n]
theorem rngL_get : ∀ (n : Nat) (lo : Int) (i : Nat) (d : D), (rngL lo n)[i]? = some d → i < n ∧ d = .int (lo + i)
  | 0, _, _, _, h => by simp [rngL] at h
  | n + 1, lo, 0, d, h => by simp [rngL] at h; exact ⟨by omega, by rw [← h]; simp⟩
  | n + 1, lo, i + 1, d, h => by
    obtain ⟨h1, h2⟩ := rngL_get n (lo + 1) i d (by simpa [rngL] using h)
    exact ⟨by omega, by rw [h2]; congr 1; push_cast; omega⟩
theorem itr_rng {lo : Int} {n : Nat} : ItR K mg T kk O (Itr lo n) (rngL lo n) H1 := fun i H x => by
  refine ⟨fun d e => ?_, fun e => by rw [rngL_len] at e; exact e⟩
  obtain ⟨h1, h2⟩ := rngL_get n lo i d e
  refine ⟨h1, fun y H' q => ?_⟩
  obtain ⟨rfl, rfl⟩ := q
  exact ⟨fun _ _ z => z, by rw [h2]; exact .int _⟩
theorem zip_get {xs ys : List D} {i : Nat} {d : D} (h : ((xs.zip ys).map fun p => D.tup [p.1, p.2])[i]? = some d) : ∃ x y, xs[i]? = some x ∧ ys[i]? = some y ∧ d = .tup [x, y] := by
  rw [List.getElem?_map] at h
  cases e : (xs.zip ys)[i]? with
  | none => rw [e] at h; cases h
  | some p =>
    rw [e] at h
    obtain ⟨h1, h2⟩ := List.getElem?_zip_eq_some.mp e
    cases h
    exact ⟨p.1, p.2, h1, h2, rfl⟩
theorem zip_len {xs ys : List D} {i : Nat} (h : ((xs.zip ys).map fun p => D.tup [p.1, p.2]).length ≤ i) : xs.length ≤ i ∨ ys.length ≤ i := by
  simp at h
  omega
theorem itr_zipT {a b : Addr} {vs us : List V} {ds es : List D} (h : SqT K H1 a vs) (h' : SqT K H1 b us) (r : Rps K mg T kk O H1 vs ds) (r' : Rps K mg T kk O H1 us es) :
    ItR K mg T kk O (RZ.ItzT K a b) ((ds.zip es).map fun p => .tup [p.1, p.2]) H1 := fun i H x => by
  have h2 := x.sqT h
  have h3 := x.sqT h'
  refine ⟨fun d e => ?_, fun e => ⟨vs, us, h2, h3, by rw [r.length, r'.length]; exact zip_len e⟩⟩
  obtain ⟨p, q, e1, e2, rfl⟩ := zip_get e
  obtain ⟨v, f1, f2⟩ := r.get e1
  obtain ⟨u, g1, g2⟩ := r'.get e2
  refine ⟨⟨vs, us, v, u, h2, h3, f1, g1⟩, fun y H' q => ?_⟩
  obtain ⟨T', y1, y2, rfl, hT, rfl, q1, q2⟩ := q
  have := q1 vs h2
  rw [f1] at this
  cases this
  have := q2 us h3
  rw [g1] at this
  cases this
  exact ⟨same_new hT, .tup (.of upd_same) (.cons ((f2.chg x).ext (Ext.new hT)) (.cons ((g2.chg x).ext (Ext.new hT)) .nil))⟩
theorem itr_zipL {a b : Addr} {vs us : List V} {ds es : List D} (h : H1 a = some (.lst vs)) (k : ¬ O a ∧ kk ≠ some a) (h' : H1 b = some (.lst us)) (k' : ¬ O b ∧ kk ≠ some b) (r : Rps K mg T kk O H1 vs ds) (r' : Rps K mg T kk O H1 us es) :
    ItR K mg T kk O (Itz K a b) ((ds.zip es).map fun p => .tup [p.1, p.2]) H1 := fun i H x => by
  have h2 : SqL K H a vs := .of (x _ _ h (.inl k) (fun ps z => by cases z))
  have h3 : SqL K H b us := .of (x _ _ h' (.inl k') (fun ps z => by cases z))
  refine ⟨fun d e => ?_, fun e => ⟨vs, us, h2, h3, by rw [r.length, r'.length]; exact zip_len e⟩⟩
  obtain ⟨p, q, e1, e2, rfl⟩ := zip_get e
  obtain ⟨v, f1, f2⟩ := r.get e1
  obtain ⟨u, g1, g2⟩ := r'.get e2
  refine ⟨⟨vs, us, v, u, h2, h3, f1, g1⟩, fun y H' q => ?_⟩
  obtain ⟨T', y1, y2, rfl, hT, rfl, q1, q2⟩ := q
  have := q1 vs h2
  rw [f1] at this
  cases this
  have := q2 us h3
  rw [g1] at this
  cases this
  exact ⟨same_new hT, .tup (.of upd_same) (.cons ((f2.chg x).ext (Ext.new hT)) (.cons ((g2.chg x).ext (Ext.new hT)) .nil))⟩
theorem enumL_len : ∀ (l : List D) (i : Int), (enumL i l).length = l.length
  | [], _ => rfl
  | d :: r, i => by simp [enumL, enumL_len r]
theorem enumL_get : ∀ (l : List D) (k : Int) (i : Nat) (d : D), (enumL k l)[i]? = some d → ∃ x, l[i]? = some x ∧ d = .tup [.int (k + i), x]
  | [], _, _, _, h => by simp [enumL] at h
  | x :: l, k, 0, d, h => by simp [enumL] at h; exact ⟨x, rfl, by rw [← h]; simp⟩
  | x :: l, k, i + 1, d, h => by
    obtain ⟨y, h1, h2⟩ := enumL_get l (k + 1) i d (by simpa [enumL] using h)
    exact ⟨y, by simpa using h1, by rw [h2]; congr 3; push_cast; omega⟩
theorem itr_enum {a : Addr} {vs : List V} {ds : List D} (h : H1 a = some (.lst vs)) (k : ¬ O a ∧ kk ≠ some a) (r : Rps K mg T kk O H1 vs ds) : ItR K mg T kk O (Ite K a) (enumL 0 ds) H1 := fun i H x => by
  have h2 : SqL K H a vs := .of (x _ _ h (.inl k) (fun ps z => by cases z))
  refine ⟨fun d e => ?_, fun e => ⟨vs, h2, by rw [enumL_len] at e; rw [r.length]; exact e⟩⟩
  obtain ⟨y, e1, rfl⟩ := enumL_get _ _ _ _ e
  obtain ⟨v, f1, f2⟩ := r.get e1
  refine ⟨⟨vs, v, h2, f1⟩, fun y H' q => ?_⟩
  obtain ⟨T', y1, rfl, hT, rfl, q1⟩ := q
  have := q1 vs h2
  rw [f1] at this
  cases this
  refine ⟨same_new hT, .tup (.of upd_same) (.cons ?_ (.cons ((f2.chg x).ext (Ext.new hT)) .nil))⟩
  rw [Int.zero_add]
  exact .int _
theorem itr_enumT {a : Addr} {vs : List V} {ds : List D} (h : SqT K H1 a vs) (r : Rps K mg T kk O H1 vs ds) : ItR K mg T kk O (SeqT.IteT K a) (enumL 0 ds) H1 := fun i H x => by
  have h2 : SqT K H a vs := x.sqT h
  refine ⟨fun d e => ?_, fun e => ⟨vs, h2, by rw [enumL_len] at e; rw [r.length]; exact e⟩⟩
  obtain ⟨y, e1, rfl⟩ := enumL_get _ _ _ _ e
  obtain ⟨v, f1, f2⟩ := r.get e1
  refine ⟨⟨vs, v, h2, f1⟩, fun y H' q => ?_⟩
  obtain ⟨T', y1, rfl, hT, rfl, q1⟩ := q
  have := q1 vs h2
  rw [f1] at this
  cases this
  refine ⟨same_new hT, .tup (.of upd_same) (.cons ?_ (.cons ((f2.chg x).ext (Ext.new hT)) .nil))⟩
  rw [Int.zero_add]
  exact .int _
theorem off {O' : Addr → Prop} {a : Addr} {vs : List V} (h : H1 a = some (.lst vs)) (n : ¬ O a) (k : kk ≠ some a) (hO : ∀ a, O' a → O a ∨ ¬ Oc H1 a) : ¬ O' a ∧ kk ≠ some a := ⟨fun z => (hO a z).elim n fun q => q (.lst h), k⟩
theorem no_any {P : Prop} {it : Src} (h : itAny it = true ∨ P) (n : itAny it = false) : P := h.elim (fun z => by rw [n] at z; cases z) id
theorem SI.ex (ha : SE T Γ n a) : SI T Γ n (.ex a) := by
  intro X C tg v ρ c0 ds c1 ho hv kk O σ H R er k p
  unfold okI at ho
  unfold evi at hv
  obtain ⟨x, c2, e1, hv⟩ := bnd_ok hv
  obtain ⟨e2, e3⟩ := opt_ok hv
  subst e3
  have hs := nofold_of (env := X.env) (ok_shape ho)
  unfold seqD at e2
  split at e2
  · cases e2
    refine tIW_of (pi_tup peW) (tW_len (ha X C _ _ _ _ _ ho e1 _ _ _ _ _ er k fun v H1 x1 r1 rx _ L => ?_))
    obtain ⟨a', vs, rfl, h1, r2⟩ := tup_eq rx
    refine ⟨a', rfl, ⟨vs, h1⟩, p _ _ x1 r1 ?_ fun O' hO => itr_tup h1 (r2.mono (Ext.refl _) (no_any hO rfl))⟩
    rw [← r2.length, lineN_eq]
    exact L.2 _ _ h1
  · cases e2
    refine tIW_of (pi_list peW) (tW_len (ha X C _ _ _ _ _ ho e1 _ _ _ _ _ er k fun v H1 x1 r1 rx _ L => ?_))
    obtain ⟨a', vs, rfl, h1, h2, h3, r2⟩ := lst_eq rx
    refine ⟨a', rfl, ⟨vs, .of h1⟩, p _ _ x1 r1 ?_ fun O' hO => itr_list h1 (off h1 h2 h3 (no_any hO rfl)) (r2.mono (Ext.refl _) (no_any hO rfl))⟩
    rw [← r2.length, lineN_eq]
    exact L.1 _ _ (.of h1)
  · cases e2
theorem SI.rng (hs : SA T Γ n es) : SI T Γ n (.rng es) := by
  intro X C tg v ρ c0 ds c1 ho hv kk O σ H R er k p
  unfold okI at ho
  split at ho
  · rename_i x px vs ks pos
    obtain ⟨hk, h1, h2, h3, h4⟩ := and5 ho
    cases eq_of_beq h1
    cases ks with
    | cons _ _ => cases hk
    | nil =>
      unfold evi at hv
      obtain ⟨as, c2, e1, hv⟩ := bnd_ok hv
      obtain ⟨e2, e3⟩ := opt_ok hv
      subst e3
      unfold rngD at e2
      split at e2
      · split at e2
        · rename_i j hz
          cases e2
          have hl := evs_len e1
          match es, vs, h4, hl with
          | .cons a1 .nil, [v1], h4, hl =>
            have h5 := and_t (show (okE T X.N X.env.scope a1 v1 && okEs T X.N X.env.scope .nil []) = true from h4)
            refine tIW_of (pi_range1 (glo_of h2) (C.blt _ (by decide +kernel)) paW (star_of (ok_shape h5.1))) (hs X C _ _ _ _ _ h4 e1 _ _ _ _ _ er k fun us H1 x1 r1 rs => ?_)
            obtain ⟨u, rfl, r2⟩ := Rps.one rs
            cases int_eq r2
            obtain ⟨z1, z2⟩ := hz
            have z3 := of_decide_eq_true z1
            refine ⟨j, rfl, by omega, by omega, p _ _ x1 r1 ?_ fun O' hO => itr_rng⟩
            rw [rngL_len]
            unfold lineN at z2 ⊢
            omega
          | .nil, _, _, hl => simp [Exs.len] at hl
          | .cons _ (.cons _ _), _, _, hl => simp [Exs.len] at hl
          | .cons _ .nil, [], h4, _ => cases h4
          | .cons _ .nil, _ :: _ :: _, h4, _ => exact absurd (and_t h4).2 Bool.false_ne_true
        · cases e2
      · split at e2
        · rename_i i j hz
          cases e2
          have hl := evs_len e1
          match es, vs, h4, hl with
          | .cons a1 (.cons a2 .nil), [v1, v2], h4, hl =>
            have h5 := and_t (show (okE T X.N X.env.scope a1 v1 && okEs T X.N X.env.scope (.cons a2 .nil) [v2]) = true from h4)
            have h6 := and_t (show (okE T X.N X.env.scope a2 v2 && okEs T X.N X.env.scope .nil []) = true from h5.2)
            refine tIW_of (pi_range2 (glo_of h2) (C.blt _ (by decide +kernel)) paW ?_ (star_of (ok_shape h6.1))) (hs X C _ _ _ _ _ h4 e1 _ _ _ _ _ er k fun us H1 x1 r1 rs => ?_)
            · rw [star_of (ok_shape h5.1), star_of (ok_shape h6.1)]; rfl
            obtain ⟨u, u', rfl, r2, r3⟩ := Rps.two rs
            cases int_eq r2; cases int_eq r3
            obtain ⟨z1, z2, z3⟩ := hz
            have z4 := of_decide_eq_true z1
            have z5 := of_decide_eq_true z2
            refine ⟨i, j, rfl, ⟨by omega, by omega, by omega, by omega⟩, p _ _ x1 r1 ?_ fun O' hO => itr_rng⟩
            rw [rngL_len]
            unfold lineN at z3 ⊢
            omega
          | .nil, _, _, hl => simp [Exs.len] at hl
          | .cons _ .nil, _, _, hl => simp [Exs.len] at hl
          | .cons _ (.cons _ (.cons _ _)), _, _, hl => simp [Exs.len] at hl
          | .cons _ (.cons _ .nil), [], h4, _ => cases h4
          | .cons _ (.cons _ .nil), [_], h4, _ => exact absurd (and_t h4).2 Bool.false_ne_true
          | .cons _ (.cons _ .nil), _ :: _ :: _ :: _, h4, _ => exact absurd (and_t (and_t h4).2).2 Bool.false_ne_true
        · cases e2
      · cases e2
  · cases ho
theorem SI.zip (ha : SE T Γ n a) (hb : SE T Γ n b) : SI T Γ n (.zip a b) := by
  intro X C tg v ρ c0 ds c1 ho hv kk O σ H R er k p
  unfold okI at ho
  split at ho
  · rename_i x px vs ks pos
    obtain ⟨hk, h1, h2, h3, h4⟩ := and5 ho
    cases eq_of_beq h1
    cases ks with
    | cons _ _ => cases hk
    | nil =>
      split at h4
      · rename_i l r
        obtain ⟨h5, h6⟩ := and_t h4
        cases tg with
        | Tuple elts tk tpos =>
          unfold evi at hv
          obtain ⟨x, c2, e1, hv⟩ := bnd_ok hv
          obtain ⟨y, c3, e2, hv⟩ := bnd_ok hv
          obtain ⟨e3, e4⟩ := opt_ok hv
          subst e4
          refine tIW_of (RZ.pi_zipA (glo_of h2) (C.blt _ (by decide +kernel)) (pa_cons peW (pa_cons peW pa_nil (star_of (ok_shape h6))) (star_of (ok_shape h5))) (star_of (ok_shape h5)) (by rw [star_of (ok_shape h6)]; rfl)) ?_
          refine ha X C _ _ _ _ _ h5 e1 _ _ _ _ _ er k fun v H1 x1 r1 rx _ => tW_len (hb X C _ _ _ _ _ h6 e2 _ _ _ _ _ (er.ext x1) (k.ext x1 r1) fun u H2 x2 r2 ry _ L => ?_)
          have rx2 := rx.ext x2
          unfold zipD at e3
          split at e3
          · cases e3
            obtain ⟨a', vs, rfl, g1, s1⟩ := tup_eq rx2
            obtain ⟨b', us, rfl, g2, s2⟩ := tup_eq ry
            refine ⟨a', b', vs, us, rfl, .inr ⟨g1, g2, p _ _ (x1.trans x2) r2 ?_ fun O' hO => itr_zipT g1 g2 (s1.mono (Ext.refl _) (no_any hO rfl)) (s2.mono (Ext.refl _) (no_any hO rfl))⟩⟩
            have := L.2 _ _ g1
            rw [s1.length, ← lineN_eq] at this
            simp
            omega
          · cases e3
            obtain ⟨a', vs, rfl, g1, g5, g3, s1⟩ := lst_eq rx2
            obtain ⟨b', us, rfl, g2, g6, g4, s2⟩ := lst_eq ry
            refine ⟨a', b', vs, us, rfl, .inl ⟨.of g1, .of g2, p _ _ (x1.trans x2) r2 ?_ fun O' hO => itr_zipL g1 (off g1 g5 g3 (no_any hO rfl)) g2 (off g2 g6 g4 (no_any hO rfl)) (s1.mono (Ext.refl _) (no_any hO rfl)) (s2.mono (Ext.refl _) (no_any hO rfl))⟩⟩
            have := L.1 _ _ (.of g1)
            rw [s1.length, ← lineN_eq] at this
            simp
            omega
          · cases e3
        | _ => cases h3
      · cases h4
  · cases ho
theorem SI.enum (ha : SE T Γ n a) : SI T Γ n (.enum a) := by
  intro X C tg v ρ c0 ds c1 ho hv kk O σ H R er k p
  unfold okI at ho
  split at ho
  · rename_i x px vs ks pos
    obtain ⟨hk, h1, h2, h3, h4⟩ := and5 ho
    cases eq_of_beq h1
    cases ks with
    | cons _ _ => cases hk
    | nil =>
      split at h4
      · rename_i l
        cases tg with
        | Tuple elts tk tpos =>
          unfold evi at hv
          obtain ⟨x, c2, e1, hv⟩ := bnd_ok hv
          obtain ⟨e3, e4⟩ := opt_ok hv
          subst e4
          refine tIW_of (SeqT.pi_enum2 (glo_of h2) (C.blt _ (by decide +kernel)) (pa_cons peW pa_nil (star_of (ok_shape h4))) (star_of (ok_shape h4))) ?_
          refine tW_len (ha X C _ _ _ _ _ h4 e1 _ _ _ _ _ er k fun v H1 x1 r1 rx _ L => ?_)
          unfold enumD at e3
          split at e3
          · cases e3
            obtain ⟨a', vs, rfl, g1, g5, g3, s1⟩ := lst_eq rx
            refine ⟨a', vs, rfl, .inl ⟨.of g1, p _ _ x1 r1 ?_ fun O' hO => itr_enum g1 (off g1 g5 g3 (no_any hO rfl)) (s1.mono (Ext.refl _) (no_any hO rfl))⟩⟩
            have := L.1 _ _ (.of g1)
            rw [enumL_len]
            rw [s1.length, ← lineN_eq] at this
            exact this
          · cases e3
            obtain ⟨a', vs, rfl, g1, s1⟩ := tup_eq rx
            refine ⟨a', vs, rfl, .inr ⟨g1, p _ _ x1 r1 ?_ fun O' hO => itr_enumT g1 (s1.mono (Ext.refl _) (no_any hO rfl))⟩⟩
            have := L.2 _ _ g1
            rw [enumL_len]
            rw [s1.length, ← lineN_eq] at this
            exact this
          · cases e3
        | _ => cases h3
      · cases h4
  · cases ho
end
end Mn

set_option maxRecDepth 100000
set_option maxHeartbeats 4000000
namespace Mn
open PySem PySem.Spec PyProof.Rows L2

/-! ### targets -/
def tGW (X : Cx) (tg : Expr) : TG := fun v σ H Q => ∀ (pins : List (Addr × Obj)) (s : Shared) (u : Value), Inv X pins σ H s → RelV v u → wpAny (model X.prog X.w) X.A (assign tg X.env u) (fun _ s' => ∃ σ' H', Inv X pins σ' H' s' ∧ Q σ' H') X.xe s
theorem pgW {X : Cx} {tg : Expr} : PG X tg (tGW X tg) := ⟨fun pins s σ H v u Q I r h => h pins s u I r⟩
theorem tGW_of {X : Cx} {tg : Expr} {t : TG} (h : PG X tg t) {v : V} {σ : L2.St} {H : Hp} {Q : L2.St → Hp → Prop} (q : t v σ H Q) : tGW X tg v σ H Q := fun pins s u I r => h.run pins s σ H v u Q I r q
def tGsW (X : Cx) (ts : List Expr) : TGs := fun vs σ H Q => ∀ (pins : List (Addr × Obj)) (s : Shared) (us : List Value), Inv X pins σ H s → Vals vs us → wpAny (model X.prog X.w) X.A (assignInOrder ((assignEach ts X.env).map (·.2)) us) (fun _ s' => ∃ σ' H', Inv X pins σ' H' s' ∧ Q σ' H') X.xe s
theorem pgsW {X : Cx} {ts : List Expr} : PGs X ts (tGsW X ts) := ⟨fun pins s σ H vs us Q I r h => h pins s us I r⟩
theorem tGsW_of {X : Cx} {ts : List Expr} {t : TGs} (h : PGs X ts t) {vs : List V} {σ : L2.St} {H : Hp} {Q : L2.St → Hp → Prop} (q : t vs σ H Q) : tGsW X ts vs σ H Q := fun pins s us I r => h.run pins s σ H vs us Q I r q
theorem tGW_len {X : Cx} {tg : Expr} {v : V} {σ : L2.St} {H : Hp} {Q : L2.St → Hp → Prop} (h : σ.length = X.N.length → tGW X tg v σ H Q) : tGW X tg v σ H Q := fun pins s u I r => h I.len pins s u I r
/-- the names that may be stored here -/
def Sto (X : Cx) (sc : Scope) : Prop := ∀ x, locB sc x = true → L2.Loc X.env.scope x ∧ (X.fn x = true ∨ X.env.scope.names.lookup x = some .local)
mutual
def tgSl : Tg → List Nat
  | .n i => [i]
  | .t ts => tgsSl ts
def tgsSl : Tgs → List Nat
  | .nil => []
  | .cons t ts => tgSl t ++ tgsSl ts
end
/-- as it stood but at is -/
def Agr (is : List Nat) (σ σ' : L2.St) : Prop := σ'.length = σ.length ∧ ∀ j, j ∉ is → σ'[j]? = σ[j]?
theorem Er.set {X : Cx} {T : Tb} {kk : Option Addr} {O : Addr → Prop} {σ : L2.St} {ρ : Rho} {H : Hp} (r : Er X T kk O σ ρ H) {i : Nat} {v : V} {d : D} (h : Rp X.K X.mg T kk O H v d) (hi : i < σ.length) : Er X T kk O (σ.set i (some v)) (ρ.set i (some d)) H := fun j e q => by
  by_cases hj : i = j
  · subst hj
    rw [List.getElem?_set] at q
    rw [if_pos rfl] at q
    split at q
    · cases q
      exact ⟨v, by rw [List.getElem?_set, if_pos rfl, if_pos hi], h⟩
    · cases q
  · rw [List.getElem?_set_ne hj] at q
    obtain ⟨w, e1, e2⟩ := r j e q
    exact ⟨w, by rw [List.getElem?_set_ne hj]; exact e1, e2⟩
theorem ok_notStar {N : List Str} {sc : Scope} {g : Tg} {e : Expr} (h : okTg N sc g e = true) : shapeB e = true := by
  cases g <;> (unfold okTg at h; split at h <;> first | rfl | cases h)
theorem asgEach_of {e : Expr} {es : List Expr} {env : PySem.Env} (h : shapeB e = true) : (assignEach (e :: es) env).map (·.2) = assign e env :: (assignEach es env).map (·.2) := by
  cases e <;> first | rfl | cases h
theorem asgs_of {N : List Str} {sc : Scope} {env : PySem.Env} : ∀ {ts : Tgs} {es : List Expr}, okTgs N sc ts es = true → (assignEach es env).length = es.length ∧ (assignEach es env).findIdx? (·.1) = none
  | .nil, es, h => by
    cases es with
    | nil => exact ⟨rfl, rfl⟩
    | cons v r => cases h
  | .cons t ts, es, h => by
    cases es with
    | nil => cases h
    | cons e r =>
      have h' := and_t (show (okTg N sc t e && okTgs N sc ts r) = true from h)
      obtain ⟨i1, i2⟩ := asgs_of (env := env) h'.2
      have hs := ok_notStar h'.1
      have e1 : assignEach (e :: r) env = (false, assign e env) :: assignEach r env := by cases e <;> first | rfl | cases hs
      rw [e1]
      refine ⟨by simp [i1], ?_⟩
      rw [List.findIdx?_cons, i2]
      rfl
section
variable {X : Cx} {T : Tb} {kk : Option Addr} {O : Addr → Prop} {H : Hp} {sc : Scope}
mutual
theorem sndG (nd : X.N.Nodup) (calm : X.calm = true) (st : Sto X sc) : ∀ (g : Tg) {tg : Expr} {d : D} {v : V} {σ : L2.St} {ρ ρ' : Rho} {Q : L2.St → Hp → Prop}, okTg X.N sc g tg = true → asg g d ρ = some ρ' → Er X T kk O σ ρ H → Rp X.K X.mg T kk O H v d →
    (∀ σ', Agr (tgSl g) σ σ' → Er X T kk O σ' ρ' H → Q σ' H) → tGW X tg v σ H Q
  | .n i, tg, d, v, σ, ρ, ρ', Q, ho, ha, er, r, q => by
    unfold okTg at ho
    split at ho
    · obtain ⟨h1, h2⟩ := and_t ho
      obtain ⟨s1, s2⟩ := st _ h2
      unfold asg at ha
      cases ha
      refine tGW_len fun hl => tGW_of (pg_name nd (eq_of_beq h1) s1 s2) ?_
      have hi : i < σ.length := by
        rw [hl]
        exact (List.getElem?_eq_some_iff.mp (eq_of_beq h1)).1
      refine q _ ⟨by simp, fun j hj => ?_⟩ (er.set r hi)
      rw [List.getElem?_set_ne]
      intro z
      exact hj (by simp [tgSl, z])
    · cases ho
  | .t ts, tg, d, v, σ, ρ, ρ', Q, ho, ha, er, r, q => by
    unfold okTg at ho
    split at ho
    · unfold asg at ha
      split at ha
      · obtain ⟨a, vs, rfl, h1, r1⟩ := tup_eq r
        obtain ⟨l1, l2⟩ := asgs_of (env := X.env) ho
        refine tGW_of (pg_tup (n := vs.length) calm pgsW ?_ l2) ⟨a, vs, rfl, h1, rfl, sndGs nd calm st ts ho ha er r1 q⟩
        rw [l1, r1.length]
        exact asgs_len ts ho ha
      · cases ha
    · cases ho
theorem sndGs (nd : X.N.Nodup) (calm : X.calm = true) (st : Sto X sc) : ∀ (ts : Tgs) {es : List Expr} {ds : List D} {vs : List V} {σ : L2.St} {ρ ρ' : Rho} {Q : L2.St → Hp → Prop}, okTgs X.N sc ts es = true → asgs ts ds ρ = some ρ' → Er X T kk O σ ρ H → Rps X.K X.mg T kk O H vs ds →
    (∀ σ', Agr (tgsSl ts) σ σ' → Er X T kk O σ' ρ' H → Q σ' H) → tGsW X es vs σ H Q
  | .nil, es, ds, vs, σ, ρ, ρ', Q, ho, ha, er, r, q => by
    cases es with
    | cons _ _ => cases ho
    | nil =>
      cases ds with
      | cons _ _ => cases ha
      | nil =>
        cases ha
        cases r
        exact tGsW_of pgs_nil ⟨rfl, q _ ⟨rfl, fun _ _ => rfl⟩ er⟩
  | .cons t ts, es, ds, vs, σ, ρ, ρ', Q, ho, ha, er, r, q => by
    cases es with
    | nil => cases ho
    | cons e es =>
      have h' := and_t (show (okTg X.N sc t e && okTgs X.N sc ts es) = true from ho)
      cases ds with
      | nil => cases ha
      | cons d ds =>
        unfold asgs at ha
        cases r with
        | cons r1 r2 =>
          dsimp only at ha
          split at ha
          · rename_i ρ1 e1
            refine tGsW_of (pgs_cons pgW pgsW (asgEach_of (ok_notStar h'.1))) ⟨_, _, rfl, sndG nd calm st t h'.1 e1 er r1 fun σ1 a1 er1 => sndGs nd calm st ts h'.2 ha er1 r2 fun σ2 a2 er2 => q _ ⟨a2.1.trans a1.1, fun j hj => ?_⟩ er2⟩
            rw [tgsSl, List.mem_append, not_or] at hj
            rw [a2.2 j hj.2, a1.2 j hj.1]
          · cases ha
theorem asgs_len : ∀ (ts : Tgs) {es : List Expr} {ds : List D} {ρ ρ' : Rho}, okTgs X.N sc ts es = true → asgs ts ds ρ = some ρ' → es.length = ds.length
  | .nil, es, ds, ρ, ρ', ho, ha => by
    cases es with
    | cons _ _ => cases ho
    | nil =>
      cases ds with
      | cons _ _ => cases ha
      | nil => rfl
  | .cons t ts, es, ds, ρ, ρ', ho, ha => by
    cases es with
    | nil => cases ho
    | cons e es =>
      have h' := and_t (show (okTg X.N sc t e && okTgs X.N sc ts es) = true from ho)
      cases ds with
      | nil => cases ha
      | cons d ds =>
        unfold asgs at ha
        dsimp only at ha
        split at ha
        · simp [asgs_len ts h'.2 ha]
        · cases ha
end
end
/-! ### the block of a comprehension -/
theorem wipe_get (σ : L2.St) : ∀ (vs : List Nat) (j : Nat), (L2.wipe σ vs)[j]? = if j ∈ vs then (if j < σ.length then some none else none) else σ[j]?
  | [], j => by simp [L2.wipe]
  | v :: vs, j => by
    rw [show L2.wipe σ (v :: vs) = (L2.wipe σ vs).set v none from rfl, List.getElem?_set, wipe_get σ vs j, L2.wipe_length]
    by_cases hv : v = j
    · subst hv
      simp
    · by_cases hj : j ∈ vs
      · simp [hv, hj]
      · simp [hv, hj, Ne.symm hv]
theorem wipe_agr {σ σ2 : L2.St} {vs is : List Nat} (a : Agr is (L2.wipe σ vs) σ2) (h : ∀ i ∈ is, i ∈ vs) : L2.wipe σ2 vs = L2.wipe σ vs := by
  apply List.ext_getElem?
  intro j
  have hl : σ2.length = σ.length := a.1.trans (L2.wipe_length _ _)
  rw [wipe_get, wipe_get, hl]
  by_cases hj : j ∈ vs
  · rw [if_pos hj, if_pos hj]
  · rw [if_neg hj, if_neg hj, a.2 j fun z => hj (h j z), wipe_get, if_neg hj]
theorem Er.wipe {X : Cx} {T : Tb} {kk : Option Addr} {O : Addr → Prop} {σ : L2.St} {ρ : Rho} {H : Hp} (r : Er X T kk O σ ρ H) : ∀ own : List (Str × Nat), Er X T kk O (L2.wipe σ (own.map (·.2))) (Mn.wipe own ρ) H
  | [] => r
  | p :: own => fun j d h => by
    rw [Mn.wipe, List.getElem?_set] at h
    split at h
    · split at h <;> cases h
    · rename_i hj
      obtain ⟨v, e1, e2⟩ := Er.wipe r own j d h
      refine ⟨v, ?_, e2⟩
      show ((L2.wipe σ (own.map (·.2))).set p.2 none)[j]? = _
      rw [List.getElem?_set_ne hj]
      exact e1
mutual
theorem tgIn_of {own : List (Str × Nat)} : ∀ {g : Tg}, tgIn own g = true → ∀ i ∈ tgSl g, i ∈ own.map (·.2)
  | .n i, h, j, hj => by
    have : j = i := by simpa [tgSl] using hj
    subst this
    obtain ⟨p, hp, e⟩ := List.any_eq_true.mp (show (own.any fun p => p.2 == j) = true from h)
    exact List.mem_map.mpr ⟨p, hp, by simpa using e⟩
  | .t ts, h, j, hj => tgsIn_of (ts := ts) (by simpa [tgIn] using h) j (by simpa [tgSl] using hj)
theorem tgsIn_of {own : List (Str × Nat)} : ∀ {ts : Tgs}, tgsIn own ts = true → ∀ i ∈ tgsSl ts, i ∈ own.map (·.2)
  | .nil, _, j, hj => by simp [tgsSl] at hj
  | .cons t ts, h, j, hj => by
    have h' := and_t (show (tgIn own t && tgsIn own ts) = true from h)
    rw [tgsSl, List.mem_append] at hj
    rcases hj with hj | hj
    · exact tgIn_of h'.1 j hj
    · exact tgsIn_of h'.2 j hj
end
def tTsW (X : Cx) (ifs : List Expr) : TT := fun σ H Q => ∀ (pins : List (Addr × Obj)) (s : Shared), Inv X pins σ H s →
    wpAny (model X.prog X.w) X.A (forIn ifs true fun c r => if r = true then do let ok ← isTrue c X.env (eval c X.env); pure (ForInStep.yield ok) else pure (ForInStep.yield r)) (TP X pins σ Q) X.xe s
theorem ptsW {X : Cx} {ifs : List Expr} : PTs X ifs (tTsW X ifs) := ⟨fun pins s σ H Q I h => h pins s I⟩
theorem tTsW_of {X : Cx} {ifs : List Expr} {t : TT} (h : PTs X ifs t) {σ : L2.St} {H : Hp} {Q : Bool → Hp → Prop} (q : t σ H Q) : tTsW X ifs σ H Q := fun pins s I => h.run pins s σ H Q I q
theorem lcL_cons {f : D → Cup → R (Option D)} {x : D} {xs : List D} {c : Cup} {r : List D} {c' : Cup} (h : lcL f (x :: xs) c = .ok r c') :
    ∃ o c1 r', f x c = .ok o c1 ∧ lcL f xs c1 = .ok r' c' ∧ r = (match o with | some y => y :: r' | none => r') := by
  unfold lcL at h
  obtain ⟨o, c1, e1, h⟩ := bnd_ok h
  obtain ⟨r', c2, e2, h⟩ := bnd_ok h
  cases h
  exact ⟨o, c1, r', e1, e2, rfl⟩
section
variable {T : Tb} {Γ : Gm} {n : Nat} {el : Ex} {i : Eo} {it : Src} {g : Tg} {own : List (Str × Nat)}
/-- the comprehension's test: none, or one -/
def STo (T : Tb) (Γ : Gm) (n : Nat) : Eo → Prop
  | .no => True
  | .so c => STt T Γ n c
theorem Cn.blk {X : Cx} (C : Cn T Γ n X) (s : Shared) (H : Hp) (scope : Scope) (cl : List (Str × Addr)) (C' : Addr) (fp : List Addr) (h : cellB (L2.relS scope X.env.scope) = false ∨ cellB X.env.scope = true) : Cn T Γ n (X.blk s H scope (compEnvC scope cl C' X.env) fp) :=
  ⟨C.nd, C.calm, C.room, C.fns, C.fnx, C.tds, fun e => C.tab (h.resolve_left fun z => by
    have e : cellB (L2.relS scope X.env.scope) = true := e
    rw [z] at e; cases e), C.cs, C.blt⟩
theorem relS_keep {scope sc : Scope} {x : Str} (h : locB scope x = true) : L2.Loc (L2.relS scope sc) x ∧ ((scope.names.lookup x == some .cell) = true ∨ (L2.relS scope sc).names.lookup x = some .local) := by
  rcases loc_of h with h | h
  · have := L2.lookup_relS_keep (sc := sc) (k := .local) (by decide) h
    exact ⟨.inl this, .inr this⟩
  · have := L2.lookup_relS_keep (sc := sc) (k := .cell) (by decide) h
    exact ⟨.inr this, .inl (by rw [h]; rfl)⟩
abbrev gB (X : Cx) (scope : Scope) (tg : Expr) : TG := fun v σ H Q => ∀ (s0 : Shared) (H0 : Hp) (C' : Addr) (cl : List (Str × Addr)) (fp : List Addr), tGW (X.blk s0 H0 scope (compEnvC scope cl C' X.env) fp) tg v σ H Q
abbrev ttB (X : Cx) (scope : Scope) (ifs : List Expr) : TT := fun σ H Q => ∀ (s0 : Shared) (H0 : Hp) (C' : Addr) (cl : List (Str × Addr)) (fp : List Addr), tTsW (X.blk s0 H0 scope (compEnvC scope cl C' X.env) fp) ifs σ H Q
abbrev teB (X : Cx) (scope : Scope) (elt : Expr) : TE := fun σ H Q => ∀ (s0 : Shared) (H0 : Hp) (C' : Addr) (cl : List (Str × Addr)) (fp : List Addr), tW (X.blk s0 H0 scope (compEnvC scope cl C' X.env) fp) elt σ H Q
/-- what is asked of a comprehension's text -/
structure LcOk (T : Tb) (X : Cx) (el : Ex) (own : List (Str × Nat)) (g : Tg) (it : Src) (i : Eo) (elt tg iter : Expr) (ifs : List Expr) (scope : Scope) : Prop where
  blk : blkC X.N X.env.scope scope own = true
  src : okI T X.N X.env.scope tg it iter = true
  tgt : okTg X.N scope g tg = true
  ins : tgIn own g = true
  elt : okE T X.N (L2.relS scope X.env.scope) el elt = true
  ifs : (match i, ifs with
        | .no, [] => true
        | .so c, [d] => okE T X.N (L2.relS scope X.env.scope) c d
        | _, _ => false) = true
  cel : cellB (L2.relS scope X.env.scope) = false ∨ cellB X.env.scope = true
theorem LcOk.nofold {X : Cx} {elt tg iter : Expr} {ifs : List Expr} {scope : Scope} (ok : LcOk T X el own g it i elt tg iter ifs scope) : ∀ x, foldedSetIterable iter X.env x = pure x := by
  have h2 := ok.src
  cases it with
  | ex a => exact nofold_of (ok_shape (show okE T X.N X.env.scope a iter = true from h2))
  | rng es => unfold okI at h2; split at h2 <;> first | (intro x; rfl) | cases h2
  | zip a b => unfold okI at h2; split at h2 <;> first | (intro x; rfl) | cases h2
  | enum a => unfold okI at h2; split at h2 <;> first | (intro x; rfl) | cases h2
theorem lc_read (hi : SI T Γ n it) (ht : STo T Γ n i) (he : SE T Γ n el) {X : Cx} (C : Cn T Γ n X) {elt tg iter : Expr} {ifs : List Expr} {scope : Scope} (ok : LcOk T X el own g it i elt tg iter ifs scope) {ρ : Rho} {c0 : Cup} {d : D} {c' : Cup} (hv : ev Γ ρ (.lc el own g it i) c0 = .ok d c')
    {kk : Option Addr} {O : Addr → Prop} {σ : L2.St} {H : Hp} {Q : VK} (er : Er X T kk O σ ρ H) (k : Ok T kk O c0 H) (p : Post X T kk O H c' d true Q) : tLc (tIW X tg iter) (gB X scope tg) (ttB X scope ifs) (teB X scope elt) (own.map (·.2)) σ H Q := by
  obtain ⟨h1, h2, h3, h4, h5, h6, h7⟩ := ok
  unfold ev at hv
  obtain ⟨ds, c1, e1, hv⟩ := bnd_ok hv
  obtain ⟨r, c2, e2, hv⟩ := bnd_ok hv
  cases hv
  have sto : ∀ (s0 : Shared) (H0 : Hp) (C' : Addr) (cl : List (Str × Addr)) (fp : List Addr), Sto (X.blk s0 H0 scope (compEnvC scope cl C' X.env) fp) scope := fun s0 H0 C' cl fp x hx => relS_keep hx
  refine hi X C tg iter _ _ _ _ h2 e1 kk O σ H _ er k fun J H1 x1 r1 hlen hJ D hD => ?_
  have kD : kk ≠ some D := fun z => by have := r1.at_ D z; rw [hD] at this; cases this
  let O' : Addr → Prop := fun b => O b ∨ b = D
  have hO' : ∀ a, O' a → O a ∨ ¬ Oc H1 a := fun a z => z.elim .inl fun e => .inr (by rw [e]; exact Oc.none hD)
  have it' := hJ O' (.inr hO')
  have k1 := k.ext x1 r1
  refine ⟨fun i' m Hc => m = ds.length - i' ∧ i' ≤ ds.length ∧ ∃ ci done rest vs, lcL (fun x c2 => lcOne (asg g x (wipe own ρ)) (fun ρ' => evt Γ ρ' i) (fun ρ' => ev Γ ρ' el) c2) (ds.drop i') ci = .ok rest c' ∧ r = done ++ rest ∧ Hc D = some (.lst vs) ∧ Rps X.K X.mg T kk O' Hc vs done ∧ Ext kk H1 Hc ∧ Cr T kk ci Hc ∧ done.length ≤ i',
    ⟨ds.length, by simp, by omega, c1, [], r, [], by simpa using e2, rfl, upd_same, .nil, Ext.new hD, r1.new hD, by simp⟩, ?_⟩
  rintro i' m Hc ⟨rfl, hle, ci, done, rest, vs, e3, e4, e5, e6, e7, e8, e9⟩
  by_cases hlt : i' < ds.length
  · have hd : ds.drop i' = ds[i'] :: ds.drop (i' + 1) := List.drop_eq_getElem_cons hlt
    rw [hd] at e3
    obtain ⟨o, c3, rest', f1, f2, f3⟩ := lcL_cons e3
    obtain ⟨go, yld⟩ := (it' i' Hc e7.o).1 ds[i'] (by simp [hlt])
    refine .inr ⟨go, fun Hn => ds.length - (i' + 1) = ds.length - (i' + 1) ∧ i' + 1 ≤ ds.length ∧ ∃ ci done rest vs, lcL (fun x c2 => lcOne (asg g x (wipe own ρ)) (fun ρ' => evt Γ ρ' i) (fun ρ' => ev Γ ρ' el) c2) (ds.drop (i' + 1)) ci = .ok rest c' ∧ r = done ++ rest ∧ Hn D = some (.lst vs) ∧ Rps X.K X.mg T kk O' Hn vs done ∧ Ext kk H1 Hn ∧ Cr T kk ci Hn ∧ done.length ≤ i' + 1,
      fun H' h => ⟨ds.length - (i' + 1), by omega, h⟩, fun x H' hy => ?_⟩
    obtain ⟨sm, rx⟩ := yld x H' hy
    have xs : Ext kk Hc H' := Ext.of sm
    have r' : Cr T kk ci H' := e8.same sm
    have erw : Er X T kk O' (L2.wipe σ (own.map (·.2))) (Mn.wipe own ρ) H' := (((er.ext x1).mono (e7.trans xs) hO')).wipe own
    have okD : ∀ {Hx : Hp} {cx : Cup}, Ext kk H1 Hx → Cr T kk cx Hx → Oc Hx D → Ok T kk O' cx Hx := fun xx rr hn => ⟨rr, fun a z => z.elim (fun z => xx.there rr (k1.od a z)) (fun z => by rw [z]; exact hn), fun a z => z.elim (k1.ok a) fun z => by rw [z]; exact kD⟩
    cases ha : asg g ds[i'] (wipe own ρ) with
    | none => rw [ha] at f1; cases f1
    | some ρ' =>
      rw [ha] at f1
      obtain ⟨b, c4, f4, f5⟩ := bnd_ok (show (evt Γ ρ' i ci).bnd (fun k c3 => if k then (ev Γ ρ' el c3).bnd fun y c4 => .ok (some y) c4 else .ok none c3) = .ok o c3 from f1)
      intro s0 H0 C' cl fp
      refine sndG (X := X.blk s0 H0 scope (compEnvC scope cl C' X.env) fp) C.nd C.calm (sto s0 H0 C' cl fp) g h3 ha erw rx fun σ2 a2 er2 => ⟨wipe_agr a2 (tgIn_of h4), ?_⟩
      intro s0 H0 C' cl fp
      have Cb := C.blk s0 H0 scope cl C' fp h7
      have eD' : H' D = some (.lst vs) := sm _ _ e5
      have ok' : Ok T kk O' ci H' := okD (e7.trans xs) r' (.lst eD')
      have fin : ∀ H3, Ext kk H' H3 → Cr T kk c4 H3 → (if b = true then (∀ (s0 : Shared) (H0 : Hp) (C' : Addr) (cl : List (Str × Addr)) (fp : List Addr), tW (X.blk s0 H0 scope (compEnvC scope cl C' X.env) fp) elt σ2 H3 fun y H4 => ∃ acc, H4 D = some (.lst acc) ∧ acc.length < sizeLine ∧ (ds.length - (i' + 1) = ds.length - (i' + 1) ∧ i' + 1 ≤ ds.length ∧ ∃ ci done rest vs, lcL (fun x c2 => lcOne (asg g x (wipe own ρ)) (fun ρ' => evt Γ ρ' i) (fun ρ' => ev Γ ρ' el) c2) (ds.drop (i' + 1)) ci = .ok rest c' ∧ r = done ++ rest ∧ (upd H4 D (.lst (acc ++ [y]))) D = some (.lst vs) ∧ Rps X.K X.mg T kk O' (upd H4 D (.lst (acc ++ [y]))) vs done ∧ Ext kk H1 (upd H4 D (.lst (acc ++ [y]))) ∧ Cr T kk ci (upd H4 D (.lst (acc ++ [y]))) ∧ done.length ≤ i' + 1))
          else (ds.length - (i' + 1) = ds.length - (i' + 1) ∧ i' + 1 ≤ ds.length ∧ ∃ ci done rest vs, lcL (fun x c2 => lcOne (asg g x (wipe own ρ)) (fun ρ' => evt Γ ρ' i) (fun ρ' => ev Γ ρ' el) c2) (ds.drop (i' + 1)) ci = .ok rest c' ∧ r = done ++ rest ∧ H3 D = some (.lst vs) ∧ Rps X.K X.mg T kk O' H3 vs done ∧ Ext kk H1 H3 ∧ Cr T kk ci H3 ∧ done.length ≤ i' + 1)) := fun H3 x3 r3 => by
        have eD3 : H3 D = some (.lst vs) := x3.lst eD' kD
        cases b with
        | false =>
          cases f5
          rw [if_neg Bool.false_ne_true]
          exact ⟨rfl, hlt, c3, done, rest', vs, f2, by rw [e4, f3], eD3, (e6.ext xs).ext x3, (e7.trans xs).trans x3, r3, by omega⟩
        | true =>
          rw [if_pos rfl]
          intro s0 H0 C' cl fp
          obtain ⟨y, c5, g1, g2⟩ := bnd_ok (show (ev Γ ρ' el c4).bnd (fun y c4 => .ok (some y) c4) = .ok o c3 from f5)
          cases g2
          refine he _ (C.blk s0 H0 scope cl C' fp h7) _ _ _ _ _ h5 g1 kk O' σ2 H3 _ (er2.ext x3) (ok'.ext x3 r3) fun w H4 x4 r4 rw _ => ?_
          have eD4 : H4 D = some (.lst vs) := x4.lst eD3 kD
          refine ⟨vs, eD4, ?_, rfl, hlt, c3, done ++ [y], rest', vs ++ [w], f2, by rw [e4, f3]; simp, upd_same, ?_, ?_, ?_, by simp; omega⟩
          · rw [e6.length, ← lineN_eq]; omega
          · refine Rps.chg (H := H4) (fun a o ha hc _ => ?_) ((((e6.ext xs).ext x3).ext x4).append (.cons rw .nil))
            rw [upd_ne]
            · exact ha
            · rintro rfl
              rcases hc with hc | hc
              · exact hc.1 (.inr rfl)
              · rw [eD4] at ha; cases ha; exact hc _ rfl
          · intro a o ha hc n
            rw [upd_ne (ne_of_none ha hD)]
            exact x4 a o (x3 a o (xs a o (e7 a o ha hc n) hc n) hc n) hc n
          · exact r4.wr eD4 kD
      cases i with
      | no =>
        cases ifs with
        | cons _ _ => cases h6
        | nil =>
          cases f4
          exact tTsW_of pts_nil (fin H' (Ext.refl _) r')
      | so c =>
        cases ifs with
        | nil => cases h6
        | cons q qs =>
          cases qs with
          | cons _ _ => cases h6
          | nil =>
            unfold evt at f4
            obtain ⟨x', c6, g1, g2⟩ := bnd_ok f4
            obtain ⟨g3, g4⟩ := opt_ok g2
            subst g4
            cases tBl_ok g3
            exact tTsW_of (pts_one ptW) (ht _ Cb _ _ _ _ _ h6 g1 kk O' σ2 H' _ er2 ok' fin)
  · have hi' : i' = ds.length := by omega
    subst hi'
    rw [List.drop_length] at e3
    cases e3
    rw [List.append_nil] at e4
    subst e4
    have rO : Rps X.K X.mg T kk O Hc vs r := e6.mono (Ext.refl _) fun a z => .inl (.inl z)
    exact .inl ⟨(it' ds.length Hc e7.o).2 (Nat.le_refl _), p _ _ (x1.trans e7) e8 (.lst e5 (k1.free hD) kD rO) fun _ l hl => by
      cases hl
      exact ⟨D, vs, rfl, fun q => Oc.none hD (x1.there r1 q), e5, kD, e6⟩⟩
theorem SE.lc (hi : SI T Γ n it) (ht : STo T Γ n i) (he : SE T Γ n el) : SE T Γ n (.lc el own g it i) := by
  intro X C e ρ c0 d c' ho hv kk O σ H Q er k p
  unfold okE at ho
  split at ho
  · rename_i elt gs scope pos
    split at ho
    · rename_i tg iter ifs z
      obtain ⟨h0, h1, h2, h3, h4, h5, h6⟩ := and7 ho
      obtain ⟨h0, h7⟩ := of_decide_eq_true h0
      cases h0
      have ok : LcOk T X el own g it i elt tg iter ifs scope := ⟨h1, h2, h3, h4, h5, h6, h7⟩
      exact tW_of (pe_lc (wi := tIW X tg iter) (g := gB X scope tg) (tt := ttB X scope ifs) (te := teB X scope elt)
        C.calm C.nd piW (blkOk_by h1) (fun s0 H0 C' cl fp => ⟨fun pins s σ H v u Q I r h => h s0 H0 C' cl fp pins s u I r⟩) (fun s0 H0 C' cl fp => ⟨fun pins s σ H Q I h => h s0 H0 C' cl fp pins s I⟩)
        (fun s0 H0 C' cl fp => ⟨fun pins s σ H Q I h => h s0 H0 C' cl fp pins s I⟩) ok.nofold) (lc_read hi ht he C ok hv er k p)
    · cases ho
  · cases ho
end
end Mn

set_option maxRecDepth 100000
set_option maxHeartbeats 4000000
namespace Mn
open PySem PySem.Spec PyProof.Rows L2
/-! ## comprehensions of two clauses -/
abbrev wiB (X : Cx) (scope : Scope) (tg iter : Expr) : TI := fun σ H R => ∀ (s0 : Shared) (H0 : Hp) (C' : Addr) (cl : List (Str × Addr)) (fp : List Addr), tIW (X.blk s0 H0 scope (compEnvC scope cl C' X.env) fp) tg iter σ H R
theorem lcF_cons {f : D → Cup → R (List D)} {x : D} {xs : List D} {c : Cup} {r : List D} {c' : Cup} (h : lcF f (x :: xs) c = .ok r c') : ∃ o c1 r', f x c = .ok o c1 ∧ lcF f xs c1 = .ok r' c' ∧ r = o ++ r' := by
  unfold lcF at h
  obtain ⟨o, c1, e1, h⟩ := bnd_ok h
  obtain ⟨r', c2, e2, h⟩ := bnd_ok h
  cases h
  exact ⟨o, c1, r', e1, e2, rfl⟩
/-- what has been gathered so far -/
def Acc (K : PySem.W.Frag) (mg : Str → Option Value) (T : Tb) (kk : Option Addr) (O : Addr → Prop) (H1 : Hp) (D0 : Addr) (done : List D) (c : Cup) (H : Hp) : Prop := ∃ vs, H D0 = some (.lst vs) ∧ Rps K mg T kk O H vs done ∧ Ext kk H1 H ∧ Cr T kk c H
section
variable {K : PySem.W.Frag} {mg : Str → Option Value} {T : Tb} {kk : Option Addr} {O : Addr → Prop} {H1 H H' : Hp} {D : Addr} {done : List Mn.D} {c c' : Cup}
theorem Acc.ext (a : Acc K mg T kk O H1 D done c H) (x : Ext kk H H') (r : Cr T kk c' H') (kD : kk ≠ some D) : Acc K mg T kk O H1 D done c' H' := by
  obtain ⟨vs, e1, e2, e3, e4⟩ := a
  exact ⟨vs, x.lst e1 kD, e2.ext x, e3.trans x, r⟩
theorem Acc.app (a : Acc K mg T kk O H1 D done c H) (kD : kk ≠ some D) (hO : O D) (hD : H1 D = none) {v : V} {d : Mn.D} (rv : Rp K mg T kk O H v d) : ∃ vs, H D = some (.lst vs) ∧ vs.length = done.length ∧ Acc K mg T kk O H1 D (done ++ [d]) c (upd H D (.lst (vs ++ [v]))) ∧ ExtO kk O H (upd H D (.lst (vs ++ [v]))) := by
  obtain ⟨vs, e1, e2, e3, e4⟩ := a
  have xo : ExtO kk O H (upd H D (.lst (vs ++ [v]))) := fun a o ha hc _ => by
    rw [upd_ne]
    · exact ha
    · rintro rfl
      rcases hc with hc | hc
      · exact hc.1 hO
      · rw [e1] at ha; cases ha; exact hc _ rfl
  refine ⟨vs, e1, e2.length, ⟨vs ++ [v], upd_same, Rps.chg xo (e2.append (.cons rv .nil)), fun a o ha hc n => ?_, e4.wr e1 kD⟩, xo⟩
  rw [upd_ne (ne_of_none ha hD)]
  exact e3 a o ha hc n
end
section
variable {T : Tb} {Γ : Gm} {n : Nat} {el : Ex} {i i1 : Eo} {it it1 : Src} {g g1 : Tg} {own own1 : List (Str × Nat)}
def okTs (T : Tb0) (N : List Str) (sc : Scope) : Eo → List Expr → Bool
  | .no, [] => true
  | .so c, [d] => okE T N sc c d
  | _, _ => false
/-- a clause's tests -/
theorem tests_snd (ht : STo T Γ n i) {Y : Cx} (C : Cn T Γ n Y) {ifs : List Expr} (h6 : okTs T Y.N Y.env.scope i ifs = true) {ρ : Rho} {c0 : Cup} {b : Bool} {c1 : Cup} (hv : evt Γ ρ i c0 = .ok b c1) {kk : Option Addr} {O : Addr → Prop} {σ : L2.St} {H : Hp} {Q : Bool → Hp → Prop} (er : Er Y T kk O σ ρ H) (k : Ok T kk O c0 H) (p : ∀ H', Ext kk H H' → Cr T kk c1 H' → Q b H') : tTsW Y ifs σ H Q := by
  cases i with
  | no =>
    cases ifs with
    | cons _ _ => cases h6
    | nil =>
      cases hv
      exact tTsW_of pts_nil (p H (Ext.refl _) k.cr)
  | so c =>
    cases ifs with
    | nil => cases h6
    | cons q qs =>
      cases qs with
      | cons _ _ => cases h6
      | nil =>
        unfold evt at hv
        obtain ⟨x', c6, g1, g2⟩ := bnd_ok hv
        obtain ⟨g3, g4⟩ := opt_ok g2
        subst g4
        cases tBl_ok g3
        exact tTsW_of (pts_one ptW) (ht _ C _ _ _ _ _ h6 g1 kk O σ H _ er k p)
/-- what is asked of such a text -/
structure Lc2Ok (T : Tb) (X : Cx) (el : Ex) (own own1 : List (Str × Nat)) (g : Tg) (it : Src) (i : Eo) (g1 : Tg) (it1 : Src) (i1 : Eo) (elt tg iter : Expr) (ifs : List Expr) (tg1 iter1 : Expr) (ifs1 : List Expr) (scope : Scope) : Prop where
  h1 : blkC X.N X.env.scope scope own = true
  h2 : okI T X.N X.env.scope tg it iter = true
  h3 : okTg X.N scope g tg = true
  h4 : tgIn own g = true
  h5 : okE T X.N (L2.relS scope X.env.scope) el elt = true
  h6 : okTs T X.N (L2.relS scope X.env.scope) i ifs = true
  h8 : own1.all own.contains = true
  h9 : okI T X.N (L2.relS scope X.env.scope) tg1 it1 iter1 = true
  h10 : okTg X.N scope g1 tg1 = true
  h11 : tgIn own1 g1 = true
  h12 : okTs T X.N (L2.relS scope X.env.scope) i1 ifs1 = true
  h7 : cellB (L2.relS scope X.env.scope) = false ∨ cellB X.env.scope = true
theorem okI_nofold {T : Tb} {N : List Str} {it : Src} {tg iter : Expr} {sc : Scope} {env : PySem.Env} (h2 : okI T N sc tg it iter = true) : ∀ x, foldedSetIterable iter env x = pure x := by
  cases it with
  | ex a => exact nofold_of (ok_shape (show okE T N sc a iter = true from h2))
  | rng es => unfold okI at h2; split at h2 <;> first | (intro x; rfl) | cases h2
  | zip a b => unfold okI at h2; split at h2 <;> first | (intro x; rfl) | cases h2
  | enum a => unfold okI at h2; split at h2 <;> first | (intro x; rfl) | cases h2
theorem Lc2Ok.sub {X : Cx} {elt tg iter tg1 iter1 : Expr} {ifs ifs1 : List Expr} {scope : Scope} (ok : Lc2Ok T X el own own1 g it i g1 it1 i1 elt tg iter ifs tg1 iter1 ifs1 scope) : ∀ j ∈ own1.map (·.2), j ∈ own.map (·.2) := fun j hj => by
  obtain ⟨q, hq, rfl⟩ := List.mem_map.mp hj
  exact List.mem_map.mpr ⟨q, List.contains_iff_mem.mp (List.all_eq_true.mp ok.h8 q hq), rfl⟩
theorem lc2_ok {X : Cx} {e : Expr} (ho : okE T X.N X.env.scope (.lc2 el own own1 g it i g1 it1 i1) e = true) : ∃ elt tg iter ifs tg1 iter1 ifs1 scope pos, e = .ListComp elt [⟨tg, iter, ifs, 0⟩, ⟨tg1, iter1, ifs1, 0⟩] scope pos ∧ Lc2Ok T X el own own1 g it i g1 it1 i1 elt tg iter ifs tg1 iter1 ifs1 scope := by
  unfold okE at ho
  split at ho
  · rename_i elt gs scope pos
    split at ho
    · rename_i tg iter ifs z tg1 iter1 ifs1 z1
      obtain ⟨h0, h1, h2, h3, h4, h5, hr⟩ := and7 ho
      obtain ⟨h6, h8, h9, h10, h11, h12⟩ := and6 hr
      obtain ⟨⟨z0, z10⟩, h7⟩ := of_decide_eq_true h0
      cases z0
      cases z10
      exact ⟨elt, tg, iter, ifs, tg1, iter1, ifs1, scope, pos, rfl, h1, h2, h3, h4, h5, h6, h8, h9, h10, h11, h12, h7⟩
    · cases ho
  · cases ho
theorem lc2_read (hi : SI T Γ n it) (ht : STo T Γ n i) (hi1 : SI T Γ n it1) (ht1 : STo T Γ n i1) (he : SE T Γ n el) {X : Cx} (C : Cn T Γ n X) {elt tg iter tg1 iter1 : Expr} {ifs ifs1 : List Expr} {scope : Scope} (ok : Lc2Ok T X el own own1 g it i g1 it1 i1 elt tg iter ifs tg1 iter1 ifs1 scope) {ρ : Rho} {c0 : Cup} {d : D} {c' : Cup} (hv : ev Γ ρ (.lc2 el own own1 g it i g1 it1 i1) c0 = .ok d c')
    {kk : Option Addr} {O : Addr → Prop} {σ : L2.St} {H : Hp} {Q : VK} (er : Er X T kk O σ ρ H) (k : Ok T kk O c0 H) (p : Post X T kk O H c' d true Q) : tLc2 (tIW X tg iter) (gB X scope tg) (ttB X scope ifs) (wiB X scope tg1 iter1) (gB X scope tg1) (ttB X scope ifs1) (teB X scope elt) (own.map (·.2)) (own1.map (·.2)) σ H Q := by
  obtain ⟨h1, h2, h3, h4, h5, h6, h8, h9, h10, h11, h12, h7⟩ := ok
  unfold ev at hv
  obtain ⟨ds, c1, e1, hv⟩ := bnd_ok hv
  obtain ⟨r, c2, e2, hv⟩ := bnd_ok hv
  split at hv
  · rename_i hlen0
    cases hv
    have sto : ∀ (s0 : Shared) (H0 : Hp) (C' : Addr) (cl : List (Str × Addr)) (fp : List Addr), Sto (X.blk s0 H0 scope (compEnvC scope cl C' X.env) fp) scope := fun s0 H0 C' cl fp x hx => relS_keep hx
    refine hi X C tg iter _ _ _ _ h2 e1 kk O σ H _ er k fun J H1 x1 r1 hlen hJ D hD => ?_
    have kD : kk ≠ some D := fun z => by have := r1.at_ D z; rw [hD] at this; cases this
    let O' : Addr → Prop := fun b => O b ∨ b = D
    have hO' : ∀ a, O' a → O a ∨ ¬ Oc H1 a := fun a z => z.elim .inl fun e => .inr (by rw [e]; exact Oc.none hD)
    have it' := hJ O' (.inr hO')
    have k1 := k.ext x1 r1
    have okD : ∀ {Hx : Hp} {cx : Cup}, Ext kk H1 Hx → Cr T kk cx Hx → Oc Hx D → Ok T kk O' cx Hx := fun xx rr hn => ⟨rr, fun a z => z.elim (fun z => xx.there rr (k1.od a z)) (fun z => by rw [z]; exact hn), fun a z => z.elim (k1.ok a) fun z => by rw [z]; exact kD⟩
    have okA : ∀ {Hx : Hp} {cx : Cup} {dn : List Mn.D}, Acc X.K X.mg T kk O' H1 D dn cx Hx → Ok T kk O' cx Hx := fun ⟨vs, q1, _, q3, q4⟩ => okD q3 q4 (.lst q1)
    generalize hF : (fun (x : Mn.D) (c2 : Cup) => lcIn (asg g x (wipe own ρ)) (fun ρ' => evt Γ ρ' i) (fun ρ' c3 => (evi Γ ρ' it1 c3).bnd fun ds1 c4 => lcL (fun y c5 => lcOne (asg g1 y (wipe own1 ρ')) (fun ρ2 => evt Γ ρ2 i1) (fun ρ2 => ev Γ ρ2 el) c5) ds1 c4) c2) = F at e2
    have a0 : Acc X.K X.mg T kk O' H1 D [] c1 (upd H1 D (.lst [])) := ⟨[], upd_same, .nil, Ext.new hD, r1.new hD⟩
    refine ⟨fun i' m Hc => m = ds.length - i' ∧ i' ≤ ds.length ∧ ∃ ci done rest, lcF F (ds.drop i') ci = .ok rest c' ∧ r = done ++ rest ∧ Acc X.K X.mg T kk O' H1 D done ci Hc, ⟨ds.length, by simp, by omega, c1, [], r, by simpa using e2, rfl, a0⟩, ?_⟩
    rintro i' m Hc ⟨rfl, hle, ci, done, rest, e3, e4, A⟩
    have xH : Ext kk H1 Hc := A.choose_spec.2.2.1
    by_cases hlt : i' < ds.length
    · have hd : ds.drop i' = ds[i'] :: ds.drop (i' + 1) := List.drop_eq_getElem_cons hlt
      rw [hd] at e3
      obtain ⟨o, c3, rest', f1, f2, f3⟩ := lcF_cons e3
      obtain ⟨go, yld⟩ := (it' i' Hc xH.o).1 ds[i'] (by simp [hlt])
      refine .inr ⟨go, fun Hn => i' < ds.length ∧ ∃ ci done rest, lcF F (ds.drop (i' + 1)) ci = .ok rest c' ∧ r = done ++ rest ∧ Acc X.K X.mg T kk O' H1 D done ci Hn,
        fun H' h => ⟨ds.length - (i' + 1), by omega, rfl, by omega, h.2⟩, fun x H' hy => ?_⟩
      obtain ⟨sm, rx⟩ := yld x H' hy
      have xs : Ext kk Hc H' := Ext.of sm
      have A' : Acc X.K X.mg T kk O' H1 D done ci H' := A.ext xs ((okA A).cr.same sm) kD
      have erw : Er X T kk O' (L2.wipe σ (own.map (·.2))) (Mn.wipe own ρ) H' := (((er.ext x1).mono (xH.trans xs) hO')).wipe own
      rw [← hF] at f1
      replace f1 : lcIn (asg g ds[i'] (wipe own ρ)) (fun ρ' => evt Γ ρ' i) (fun ρ' c3 => (evi Γ ρ' it1 c3).bnd fun ds1 c4 => lcL (fun y c5 => lcOne (asg g1 y (wipe own1 ρ')) (fun ρ2 => evt Γ ρ2 i1) (fun ρ2 => ev Γ ρ2 el) c5) ds1 c4) ci = .ok o c3 := f1
      cases ha : asg g ds[i'] (wipe own ρ) with
      | none => rw [ha] at f1; cases f1
      | some ρ' =>
        rw [ha] at f1
        obtain ⟨b, c4, f4, f5⟩ := bnd_ok (show (evt Γ ρ' i ci).bnd (fun k c3 => if k then _ else R.ok [] c3) = .ok o c3 from f1)
        intro s0 H0 C' cl fp
        refine sndG (X := X.blk s0 H0 scope (compEnvC scope cl C' X.env) fp) C.nd C.calm (sto s0 H0 C' cl fp) g h3 ha erw rx fun σ2 a2 er2 => ⟨wipe_agr a2 (tgIn_of h4), ?_⟩
        intro s0 H0 C' cl fp
        refine tests_snd ht (C.blk s0 H0 scope cl C' fp h7) h6 f4 er2 (okA A') fun H3 x3 r3 => ?_
        have A3 : Acc X.K X.mg T kk O' H1 D done c4 H3 := A'.ext x3 r3 kD
        cases b with
        | false =>
          cases f5
          rw [if_neg Bool.false_ne_true]
          exact ⟨hlt, c3, done, rest', f2, by rw [e4, f3]; simp, A3⟩
        | true =>
          rw [if_pos rfl]
          obtain ⟨ds1, c5, f6, f7⟩ := bnd_ok (show (evi Γ ρ' it1 c4).bnd (fun ds1 c4 => lcL (fun y c5 => lcOne (asg g1 y (wipe own1 ρ')) (fun ρ2 => evt Γ ρ2 i1) (fun ρ2 => ev Γ ρ2 el) c5) ds1 c4) = .ok o c3 from f5)
          intro s0 H0 C' cl fp
          refine hi1 _ (C.blk s0 H0 scope cl C' fp h7) tg1 iter1 _ _ _ _ h9 f6 kk O' σ2 H3 _ (er2.ext x3) (okA A3) fun J1 H4 x4 r4 hlen1 hJ1 => ?_
          have it1' := hJ1 O' (.inr fun a z => .inl z)
          have A4 : Acc X.K X.mg T kk O' H1 D done c5 H4 := A3.ext x4 r4 kD
          refine ⟨fun j m Hj => m = ds1.length - j ∧ j ≤ ds1.length ∧ ExtO kk O' H4 Hj ∧ ∃ cj dn rs, lcL (fun y c5 => lcOne (asg g1 y (wipe own1 ρ')) (fun ρ2 => evt Γ ρ2 i1) (fun ρ2 => ev Γ ρ2 el) c5) (ds1.drop j) cj = .ok rs c3 ∧ o = dn ++ rs ∧ Acc X.K X.mg T kk O' H1 D (done ++ dn) cj Hj,
            ⟨ds1.length, by simp, by omega, (Ext.refl H4).o, c5, [], o, by simpa using f7, rfl, by rw [List.append_nil]; exact A4⟩, ?_⟩
          rintro j m Hj ⟨rfl, hle1, xo, cj, dn, rs, u1, u2, B⟩
          by_cases hlt1 : j < ds1.length
          · have hd1 : ds1.drop j = ds1[j] :: ds1.drop (j + 1) := List.drop_eq_getElem_cons hlt1
            rw [hd1] at u1
            obtain ⟨q, c6, rs', w1, w2, w3⟩ := lcL_cons u1
            replace w1 : lcOne (asg g1 ds1[j] (wipe own1 ρ')) (fun ρ2 => evt Γ ρ2 i1) (fun ρ2 => ev Γ ρ2 el) cj = .ok q c6 := w1
            obtain ⟨go1, yld1⟩ := (it1' j Hj xo).1 ds1[j] (by simp [hlt1])
            refine .inr ⟨go1, fun Hn => j < ds1.length ∧ ExtO kk O' H4 Hn ∧ ∃ cj dn rs, lcL (fun y c5 => lcOne (asg g1 y (wipe own1 ρ')) (fun ρ2 => evt Γ ρ2 i1) (fun ρ2 => ev Γ ρ2 el) c5) (ds1.drop (j + 1)) cj = .ok rs c3 ∧ o = dn ++ rs ∧ Acc X.K X.mg T kk O' H1 D (done ++ dn) cj Hn,
              fun H' h => ⟨ds1.length - (j + 1), by omega, rfl, by omega, h.2⟩, fun y H' hy => ?_⟩
            obtain ⟨sm1, ry⟩ := yld1 y H' hy
            have xs1 : Ext kk Hj H' := Ext.of sm1
            have B' : Acc X.K X.mg T kk O' H1 D (done ++ dn) cj H' := B.ext xs1 ((okA B).cr.same sm1) kD
            have er3 : Er X T kk O' (L2.wipe σ2 (own1.map (·.2))) (Mn.wipe own1 ρ') H' := Er.wipe (X := X) (fun a d hd => by
              obtain ⟨v, g3, g4⟩ := er2 a d hd
              exact ⟨v, g3, ((g4.ext x3).ext x4).chg (xo.trans xs1.o)⟩) own1
            cases ha1 : asg g1 ds1[j] (wipe own1 ρ') with
            | none => rw [ha1] at w1; cases w1
            | some ρ2 =>
              rw [ha1] at w1
              obtain ⟨b1, c7, w4, w5⟩ := bnd_ok (show (evt Γ ρ2 i1 cj).bnd (fun k c3 => if k then (ev Γ ρ2 el c3).bnd fun y c4 => .ok (some y) c4 else .ok none c3) = .ok q c6 from w1)
              intro s0 H0 C' cl fp
              refine sndG (X := X.blk s0 H0 scope (compEnvC scope cl C' X.env) fp) C.nd C.calm (sto s0 H0 C' cl fp) g1 h10 ha1 er3 ry fun σ3 a3 er4 => ⟨wipe_agr a3 (tgIn_of h11), ?_⟩
              intro s0 H0 C' cl fp
              refine tests_snd ht1 (C.blk s0 H0 scope cl C' fp h7) h12 w4 er4 (okA B') fun H5 x5 r5 => ?_
              have B5 : Acc X.K X.mg T kk O' H1 D (done ++ dn) c7 H5 := B'.ext x5 r5 kD
              have xo5 : ExtO kk O' H4 H5 := (xo.trans xs1.o).trans x5.o
              cases b1 with
              | false =>
                cases w5
                rw [if_neg Bool.false_ne_true]
                exact ⟨hlt1, xo5, c6, dn, rs', w2, by rw [u2, w3], B5⟩
              | true =>
                rw [if_pos rfl]
                intro s0 H0 C' cl fp
                obtain ⟨yv, c8, g5, g6⟩ := bnd_ok (show (ev Γ ρ2 el c7).bnd (fun y c4 => .ok (some y) c4) = .ok q c6 from w5)
                cases g6
                refine he _ (C.blk s0 H0 scope cl C' fp h7) _ _ _ _ _ h5 g5 kk O' σ3 H5 _ (er4.ext x5) (okA B5) fun w H6 x6 r6 rw _ => ?_
                have B6 : Acc X.K X.mg T kk O' H1 D (done ++ dn) c6 H6 := B5.ext x6 r6 kD
                obtain ⟨vs, v1, v2, v3, v4⟩ := B6.app kD (.inr rfl) hD rw
                refine ⟨vs, v1, ?_, hlt1, (xo5.trans x6.o).trans v4, c6, dn ++ [yv], rs', w2, by rw [u2, w3]; simp, by rw [← List.append_assoc]; exact v3⟩
                rw [v2, ← lineN_eq]
                have : r.length = done.length + (dn.length + (1 + rs'.length) + rest'.length) := by rw [e4, f3, u2, w3]; simp; omega
                rw [List.length_append]
                omega
          · have hj' : j = ds1.length := by omega
            subst hj'
            rw [List.drop_length] at u1
            cases u1
            rw [List.append_nil] at u2
            subst u2
            exact .inl ⟨(it1' ds1.length Hj xo).2 (Nat.le_refl _), hlt, c3, done ++ o, rest', f2, by rw [e4, f3]; simp, B⟩
    · have hi' : i' = ds.length := by omega
      subst hi'
      rw [List.drop_length] at e3
      cases e3
      rw [List.append_nil] at e4
      subst e4
      obtain ⟨vs, q1, q2, q3, q4⟩ := A
      have rO : Rps X.K X.mg T kk O Hc vs r := q2.mono (Ext.refl _) fun a z => .inl (.inl z)
      exact .inl ⟨(it' ds.length Hc xH.o).2 (Nat.le_refl _), p _ _ (x1.trans q3) q4 (.lst q1 (k1.free hD) kD rO) fun _ l hl => by
        cases hl
        exact ⟨D, vs, rfl, fun q => Oc.none hD (x1.there r1 q), q1, kD, q2⟩⟩
  · cases hv
theorem SE.lc2 (hi : SI T Γ n it) (ht : STo T Γ n i) (hi1 : SI T Γ n it1) (ht1 : STo T Γ n i1) (he : SE T Γ n el) : SE T Γ n (.lc2 el own own1 g it i g1 it1 i1) := by
  intro X C e ρ c0 d c' ho hv kk O σ H Q er k p
  obtain ⟨elt, tg, iter, ifs, tg1, iter1, ifs1, scope, pos, rfl, ok⟩ := lc2_ok ho
  have q := lc2_read hi ht hi1 ht1 he C ok hv er k p
  refine tW_of (pe_lc2 (wi := tIW X tg iter) (g := gB X scope tg) (tt := ttB X scope ifs) (wi1 := wiB X scope tg1 iter1) (g1 := gB X scope tg1) (tt1 := ttB X scope ifs1) (te := teB X scope elt) (vs1 := own1.map (·.2))
    C.calm C.nd piW (blkOk_by ok.h1) ok.sub (fun s0 H0 C' cl fp => ⟨fun pins s σ H v u Q I r h => h s0 H0 C' cl fp pins s u I r⟩) (fun s0 H0 C' cl fp => ⟨fun pins s σ H Q I h => h s0 H0 C' cl fp pins s I⟩)
    (fun s0 H0 C' cl fp => ⟨fun pins s σ H R I h => h s0 H0 C' cl fp pins s I⟩) (fun s0 H0 C' cl fp => ⟨fun pins s σ H v u Q I r h => h s0 H0 C' cl fp pins s u I r⟩) (fun s0 H0 C' cl fp => ⟨fun pins s σ H Q I h => h s0 H0 C' cl fp pins s I⟩)
    (fun s0 H0 C' cl fp => ⟨fun pins s σ H Q I h => h s0 H0 C' cl fp pins s I⟩) (okI_nofold ok.h2) (fun env => okI_nofold ok.h9)) ?_
  exact q
end
end Mn

set_option maxRecDepth 100000
set_option maxHeartbeats 4000000
namespace Mn
open PySem PySem.Spec PyProof.Rows L2
section
variable {T : Tb} {Γ : Gm} {n : Nat} {a b e t : Ex}
theorem STt.cmp2 (o o' : Cop) (ha : SE T Γ n a) (hb : SE T Γ n b) (he : SE T Γ n e) : STt T Γ n (.cmp2 o o' a b e) := by
  intro X C e' ρ c0 d c1 ho hv kk O σ H Q er k p
  unfold okE at ho
  split at ho
  · obtain ⟨h1, h1', h2, h3, h4⟩ := and5 ho
    cases of_decide_eq_true h1
    cases of_decide_eq_true h1'
    unfold ev at hv
    obtain ⟨x, c2, e1, hv⟩ := bnd_ok hv
    obtain ⟨y, c3, e2, hv⟩ := bnd_ok hv
    obtain ⟨b', c4, e30, hv⟩ := bnd_ok hv
    obtain ⟨e3, e4⟩ := opt_ok e30
    subst e4
    refine tTW_of (pt_chain rW_op rW_op peW peW peW (nomark_of (ok_shape h4))) (ha X C _ _ _ _ _ h2 e1 _ _ _ _ _ er k fun v H1 x1 r1 rx _ => hb X C _ _ _ _ _ h3 e2 _ _ _ _ _ (er.ext x1) (k.ext x1 r1) fun u H2 x2 r2 ry _ =>
      cmp_snd C.units e3 ((k.ext x1 r1).ext x2 r2) (rx.ext x2) ry ⟨b', rfl, ?_⟩)
    cases b' with
    | false =>
      cases hv
      exact iteF ⟨_, rfl, p _ (x1.trans x2) r2⟩
    | true =>
      obtain ⟨z, c5, e5, hv⟩ := bnd_ok (show (ev Γ ρ e c4).bnd (fun z c4 => R.opt ((cmpD o' y z).map D.bl) c4) = R.ok (D.bl d) c1 from hv)
      obtain ⟨e6, e7⟩ := opt_ok hv
      subst e7
      obtain ⟨b2, e8, e9⟩ := Option.map_eq_some_iff.mp e6
      cases e9
      exact iteT (he X C _ _ _ _ _ h4 e5 _ _ _ _ _ ((er.ext x1).ext x2) ((k.ext x1 r1).ext x2 r2) fun w H3 x3 r3 rz _ =>
        cmp_snd C.units e8 (((k.ext x1 r1).ext x2 r2).ext x3 r3) (ry.ext x3) rz ⟨_, rfl, p _ ((x1.trans x2).trans x3) r3⟩)
  · cases ho
theorem SAnd.nil : SAnd T Γ n .nil := by
  intro X C vs pos ρ c0 d c1 ho hv
  cases hv
theorem SOr.nil : SOr T Γ n .nil := by
  intro X C vs pos ρ c0 d c1 ho hv
  cases hv
theorem SAndT.nil : SAndT T Γ n .nil := by
  intro X C vs pos ρ c0 d c1 ho hv
  cases hv
theorem SOrT.nil : SOrT T Γ n .nil := by
  intro X C vs pos ρ c0 d c1 ho hv
  cases hv
end
section
variable {T : Tb} {Γ : Gm} {n : Nat} {es : Exs}
theorem SE.fv (f : Nat) : SE T Γ n (.fv f) := by
  intro X C e ρ c0 d c1 ho hv kk O σ H Q er k p
  unfold okE at ho
  split at ho
  · rename_i x pos
    obtain ⟨h1, h2, h3⟩ := and3 ho
    obtain ⟨n1, n2, n3⟩ := nm_of h3
    obtain ⟨fa, fd, ps, m1, m2, m3, F⟩ := C.fns f x (eq_of_beq h1)
    cases hv
    exact tW_of (pe_glob (v := .ref fa) (glo_of h2) m1 rfl n1) (p.here k (.fn (eq_of_beq h1) m1) (by intro l z; cases z))
  · cases ho
/-- x(..), x a local name that holds a def -/
theorem pe_cv {X : Cx} {CX : CXT} {m i : Nat} {f : Addr} {fd : FuncData} {ps : List Str} {sp : Sp} {E : XK} {x : Str} {p pos : Pos} {e : Expr} {rest : List Expr} {t : TA} (hx : Passes CX X E) (hr : Room m X.A) (F : FnOk X.prog X.w X.K X.mg X.base CX m f fd ps sp) (hk : PySem.W.keepIn X.K (.ref f) = true)
    (hb : Binds X.K fd ps []) (hN : X.N[i]? = some x) (hv : visB X.env.scope x = true) (hn : nmB x = true) (ha : PA X (e :: rest) t) (h1 : starEach (e :: rest) X.env = (false, eval e X.env) :: starEach rest X.env) (h2 : (backTo pos (starEach rest X.env)).any (·.1) = false) :
    PE X (.Call (.Name x p) (e :: rest) [] pos) (fun σ H Q => σ[i]? = some (some (.ref f)) ∧ t σ H fun vs H1 => sp (vs ++ []) H1 Q E) := by
  constructor
  rintro pins s σ H Q I ⟨hs, h⟩
  have q := (pe_var (pos := p) hN (vis_of hv) (nm_of hn).1 (nm_of hn).2.1).run pins s σ H (fun v H1 => v = .ref f ∧ H1 = H) I ⟨.ref f, hs, rfl, rfl⟩
  refine wpAny_Call_Name_kw (thn q ?_)
  rintro u s1 ⟨v, H1, I1, r1, rfl, rfl⟩
  cases r1
  refine PySem.W.callWith_K (h₀ := X.base) I1.ok.mod.kin hk (thn (ha.run pos pins s1 σ H1 _ I1 h) ?_) h1 h2
  rintro us s2 ⟨vs, H2, I2, r2, q2⟩
  exact ⟨I2.kIn, run_fn F hr hb .nil hx I2 r2 q2⟩
theorem pe_cv0 {X : Cx} {CX : CXT} {m i : Nat} {f : Addr} {fd : FuncData} {ps : List Str} {sp : Sp} {E : XK} {x : Str} {p pos : Pos} (hx : Passes CX X E) (hr : Room m X.A) (F : FnOk X.prog X.w X.K X.mg X.base CX m f fd ps sp) (hk : PySem.W.keepIn X.K (.ref f) = true)
    (hb : Binds X.K fd ps []) (hN : X.N[i]? = some x) (hv : visB X.env.scope x = true) (hn : nmB x = true) :
    PE X (.Call (.Name x p) [] [] pos) (fun σ H Q => σ[i]? = some (some (.ref f)) ∧ sp ([] ++ []) H Q E) := by
  constructor
  rintro pins s σ H Q I ⟨hs, h⟩
  have q := (pe_var (pos := p) hN (vis_of hv) (nm_of hn).1 (nm_of hn).2.1).run pins s σ H (fun v H1 => v = .ref f ∧ H1 = H) I ⟨.ref f, hs, rfl, rfl⟩
  refine wpAny_Call_Name_kw (thn q ?_)
  rintro u s1 ⟨v, H1, I1, r1, rfl, rfl⟩
  cases r1
  exact PySem.W.callWith_K0 I1.kIn hk (run_fn (us := []) F hr hb .nil hx I1 .nil h)
/-- a call of any kind of callee: an answer or an error goes on -/
theorem call_gen (hs : SA T Γ n es) {X : Cx} (C : Cn T Γ n X) {CX : CXT} {E : XK} (hx : Passes CX X E) {sp : Nat → Sp} (fn : ∀ i x, T.fns[i]? = some x → ∃ (a : Addr) (fd : FuncData) (ps : List Str), X.mg x = some (.ref a) ∧ PySem.W.keepIn X.K (.ref a) = true ∧ Binds X.K fd ps [] ∧ FnOk X.prog X.w X.K X.mg X.base CX (3 * n) a fd ps (sp i))
    {e : Expr} {ρ : Rho} {c0 : Cup} {el : Ex} (hel : (∃ f, el = .call f es) ∨ ∃ i, el = .cv i es) (ho : okE T X.N X.env.scope el e = true) {kk : Option Addr} {O : Addr → Prop} {σ : L2.St} {H : Hp} {Q : VK} (er : Er X T kk O σ ρ H) (k : Ok T kk O c0 H) {ds : List D} {c2 : Cup} (e1 : evs Γ ρ es c0 = .ok ds c2)
    (fin : ∀ f, (el = .call f es ∨ ∃ i, el = .cv i es ∧ ρ[i]?.bind id = some (.fn f)) → ∀ us H1, Ext kk H H1 → Cr T kk c2 H1 → Rps X.K X.mg T kk O H1 us ds → sp f (us ++ []) H1 Q E) (hf : ∀ i, el = .cv i es → ∃ f, ρ[i]?.bind id = some (.fn f)) : tW X e σ H Q := by
  rcases hel with ⟨f, rfl⟩ | ⟨i, rfl⟩
  · unfold okE at ho
    split at ho
    · rename_i x px vs ks pos
      obtain ⟨hk, h1, h2, h3, h4⟩ := and5 ho
      obtain ⟨n1, n2, n3⟩ := nm_of h3
      cases ks with
      | cons _ _ => cases hk
      | nil =>
        obtain ⟨fa, fd, ps, m1, m2, m3, F⟩ := fn f x (eq_of_beq h1)
        replace fin := fin f (.inl rfl)
        cases vs with
        | nil =>
          cases es with
          | cons _ _ => cases h4
          | nil =>
            cases e1
            exact tW_of (pe_call0 F C.room (glo_of h2) m1 m2 m3 .nil hx n1) (fin [] H (Ext.refl H) k.cr .nil)
        | cons v r =>
          cases es with
          | nil => cases h4
          | cons c' es' =>
            have h5 := and_t (show (okE T X.N X.env.scope c' v && okEs T X.N X.env.scope es' r) = true from h4)
            exact tW_of (pe_call F C.room (glo_of h2) m1 m2 m3 .nil hx paW n1 (star_of (ok_shape h5.1)) (stars_of h5.2)) (hs X C _ _ _ _ _ h4 e1 _ _ _ _ _ er k fin)
    · cases ho
  · unfold okE at ho
    split at ho
    · rename_i x px vs ks pos
      obtain ⟨hk, h1, h2, h3, h4⟩ := and5 ho
      cases ks with
      | cons _ _ => cases hk
      | nil =>
        obtain ⟨f, ef⟩ := hf i rfl
        obtain ⟨v0, g1, g2⟩ := er i _ ef
        replace fin := fin f (.inr ⟨i, rfl, ef⟩)
        cases g2 with
        | @fn a _ x' g3 g4 =>
          obtain ⟨fa, fd, ps, m1, m2, m3, F⟩ := fn f x' g3
          rw [g4] at m1
          cases m1
          cases vs with
          | nil =>
            cases es with
            | cons _ _ => cases h4
            | nil =>
              cases e1
              exact tW_of (pe_cv0 hx C.room F m2 m3 (eq_of_beq h1) h2 h3) ⟨g1, fin [] H (Ext.refl H) k.cr .nil⟩
          | cons v r =>
            cases es with
            | nil => cases h4
            | cons c' es' =>
              have h5 := and_t (show (okE T X.N X.env.scope c' v && okEs T X.N X.env.scope es' r) = true from h4)
              exact tW_of (pe_cv hx C.room F m2 m3 (eq_of_beq h1) h2 h3 paW (star_of (ok_shape h5.1)) (stars_of h5.2)) ⟨g1, hs X C _ _ _ _ _ h4 e1 _ _ _ _ _ er k fin⟩
    · cases ho
theorem cv_ok {Γ : Gm} {ρ : Rho} {i : Nat} {es : Exs} {c0 : Cup} {r : R D} (hv : ev Γ ρ (.cv i es) c0 = r) (hr : r ≠ .bad) : ∃ f ds c2, ρ[i]?.bind id = some (.fn f) ∧ evs Γ ρ es c0 = .ok ds c2 ∧ Γ f ds c2 = r := by
  unfold ev at hv
  cases e1 : ρ[i]?.bind id with
  | none => rw [e1] at hv; exact absurd hv.symm hr
  | some x =>
    rw [e1] at hv
    have hv : ((evs Γ ρ es c0).bnd fun ds c2 => match x with | .fn f => Γ f ds c2 | _ => .bad) = r := hv
    cases e2 : evs Γ ρ es c0 with
    | ok ds c2 =>
      rw [e2] at hv
      cases x with
      | fn f => exact ⟨f, ds, c2, rfl, rfl, hv⟩
      | _ => exact absurd hv.symm hr
    | exc _ _ _ => rw [e2] at hv; exact absurd hv.symm hr
    | bad => rw [e2] at hv; exact absurd hv.symm hr
theorem call_ok {Γ : Gm} {ρ : Rho} {f : Nat} {es : Exs} {c0 : Cup} {r : R D} (hv : ev Γ ρ (.call f es) c0 = r) (hr : r ≠ .bad) : ∃ ds c2, evs Γ ρ es c0 = .ok ds c2 ∧ Γ f ds c2 = r := by
  unfold ev at hv
  cases e2 : evs Γ ρ es c0 with
  | ok ds c2 => rw [e2] at hv; exact ⟨ds, c2, rfl, hv⟩
  | exc _ _ _ => rw [e2] at hv; exact absurd hv.symm hr
  | bad => rw [e2] at hv; exact absurd hv.symm hr
theorem SE.cv (i : Nat) (hs : SA T Γ n es) : SE T Γ n (.cv i es) := by
  intro X C e ρ c0 d c1 ho hv kk O σ H Q er k p
  obtain ⟨f, ds, c2, h1, h2, h3⟩ := cv_ok hv (by intro z; cases z)
  refine call_gen hs C pass0 C.fns (.inr ⟨i, rfl⟩) ho er k h2 (fun g hg us H1 x1 r1 rs => ?_) (fun j z => by cases z; exact ⟨f, h1⟩)
  have : g = f := by
    rcases hg with z | ⟨j, z, w⟩
    · cases z
    · cases z
      rw [h1] at w
      cases w
      rfl
  subst this
  rw [List.append_nil]
  exact ⟨kk, O, ds, c2, d, c1, rs, k.ext x1 r1, h3, fun v H2 x2 r2 rv => (p.after x1 r1) v H2 x2 r2 rv fun z => by cases z⟩
/-- a call that ends in an error -/
theorem call_exc {el : Ex} (hs : SA T Γ n es) {X : Cx} (C : Cn T Γ n X) {E : XK} (hx : Passes (L2N.CX X.prog X.w) X E) {e : Expr} {ρ : Rho} {c0 : Cup} (hel : (∃ f, el = .call f es) ∨ ∃ i, el = .cv i es) (ho : okE T X.N X.env.scope el e = true)
    {kx : Nat} {xs : List D} {c1 : Cup} (hv : ev Γ ρ el c0 = .exc kx xs c1) {kk : Option Addr} {O : Addr → Prop} {σ : L2.St} {H : Hp} {Q : VK} (er : Er X T kk O σ ρ H) (k : Ok T kk O c0 H)
    (hE : ∀ (y : Str) (D : Addr), T.cls[kx]? = some y → X.mg y = some (.ref D) → ∀ H', Ext kk H H' → Cr T kk c1 H' → E (.ref D) none H') : tW X e σ H Q := by
  have key : ∃ f ds c2, evs Γ ρ es c0 = .ok ds c2 ∧ Γ f ds c2 = .exc kx xs c1 ∧ (∀ g, (el = .call g es ∨ ∃ i, el = .cv i es ∧ ρ[i]?.bind id = some (.fn g)) → g = f) ∧ ∀ i, el = .cv i es → ∃ f, ρ[i]?.bind id = some (.fn f) := by
    rcases hel with ⟨f, rfl⟩ | ⟨i, rfl⟩
    · obtain ⟨ds, c2, h1, h2⟩ := call_ok hv (by intro z; cases z)
      refine ⟨f, ds, c2, h1, h2, fun g z => ?_, fun i z => by cases z⟩
      rcases z with z | ⟨i, z, _⟩ <;> cases z
      rfl
    · obtain ⟨f, ds, c2, h1, h2, h3⟩ := cv_ok hv (by intro z; cases z)
      refine ⟨f, ds, c2, h2, h3, fun g z => ?_, fun j z => by cases z; exact ⟨f, h1⟩⟩
      rcases z with z | ⟨j, z, w⟩
      · cases z
      · cases z
        rw [h1] at w
        cases w
        rfl
  obtain ⟨f, ds, c2, h1, h2, h3, h4⟩ := key
  refine call_gen hs C hx C.fnx hel ho er k h1 (fun g hg us H1 x1 r1 rs => ?_) h4
  cases h3 g hg
  rw [List.append_nil]
  exact ⟨kk, O, ds, c2, rs, k.ext x1 r1, .inr ⟨kx, xs, c1, h2, fun y D e1 e2 H2 x2 r2 => hE y D e1 e2 H2 (x1.trans x2) r2⟩⟩
theorem litB_eq : ∀ {a b : D}, litB a b = true → a = b ∧ ∃ v, litV a = some v ∧ ∀ (K : PySem.W.Frag) (mg : Str → Option Value) (T : Tb) (kk : Option Addr) (O : Addr → Prop) (H : Hp), Rp K mg T kk O H v a := by
  intro a b h
  cases a <;> cases b <;> first | (cases h; done) | skip
  · exact ⟨rfl, _, rfl, fun _ _ _ _ _ _ => .non⟩
  · cases eq_of_beq (show (_ == _) = true from h); exact ⟨rfl, _, rfl, fun _ _ _ _ _ _ => .bl _⟩
  · cases of_decide_eq_true (show decide (_ = _) = true from h); exact ⟨rfl, _, rfl, fun _ _ _ _ _ _ => .int _⟩
  · cases of_decide_eq_true (show decide (_ = _) = true from h); exact ⟨rfl, _, rfl, fun _ _ _ _ _ _ => .str _⟩
theorem litsB_eq : ∀ {a b : List D}, litsB a b = true → a = b ∧ ∀ d ∈ a, litB d d = true
  | [], [], _ => ⟨rfl, fun d hd => by cases hd⟩
  | [], _ :: _, h => by cases h
  | _ :: _, [], h => by cases h
  | a :: r, b :: s, h => by
    obtain ⟨h1, h2⟩ := and_t (show (litB a b && litsB r s) = true from h)
    obtain ⟨e1, e2⟩ := litsB_eq h2
    have e3 := (litB_eq h1).1
    subst e3
    refine ⟨by rw [e1], fun d hd => ?_⟩
    rcases List.mem_cons.mp hd with rfl | hd
    · exact h1
    · exact e2 d hd
theorem noPs_bind (q : Str) (body : Expr) (scope : Scope) (cl : List (Str × Addr)) (pm cv ctv : Value) : bindArgs (PySem.W.kla_fn "<lambda>" q ⟨[], [], none, [], [], none, []⟩ body scope cl pm cv ctv) ⟨[], []⟩ = pure [] := by
  unfold bindArgs
  have e : seqItems? (Value.none) = pure none := rfl
  simp [e, List.forIn_nil]
theorem lam_nocell {sc scope : Scope} {bs : List Str} (L : LamD.LamG sc scope bs) : cellB scope = false := by
  cases q : cellB scope with
  | false => rfl
  | true =>
    obtain ⟨y, hy, e⟩ := List.any_eq_true.mp q
    have := (L.own y hy).1
    split at e
    · rename_i w; exact absurd w this
    · cases e
theorem SE.lam (x : Str) (hs : List D) (r : D) (e : Ex) (he : SE T Γ n e) (hA : ∀ es, ((∃ f, e = .call f es) ∨ ∃ i, e = .cv i es) → SA T Γ n es) : SE T Γ n (.lam x hs r e) := by
  intro X C ex ρ c0 d c1 ho hv kk O σ H Q er k p
  unfold okE at ho
  split at ho
  · rename_i x' px params body scope lpos pos
    obtain ⟨h1, h2, h3, h4, h5, h7, h8⟩ := and7 ho
    obtain ⟨h8, h9⟩ := and_t h8
    cases eq_of_beq h1
    obtain ⟨n1, n2, n3⟩ := nm_of h3
    obtain ⟨t, ht, h4⟩ := List.any_eq_true.mp h4
    obtain ⟨q1, q2, q3⟩ := and3 h4
    obtain ⟨q4, q5⟩ := litsB_eq q2
    obtain ⟨q6, vr, q7, q8⟩ := litB_eq q3
    have td := C.tds t ht
    rw [eq_of_beq q1, ← q4, ← q6] at td
    obtain ⟨g, pg, bg, sg, dV, kV, doc, pm, cdv, ct, oc, an, od, osl, Ng, a, m1, m2, m3, m4, m5, m6, m7, m8, m9, hG⟩ := td.ex
    obtain ⟨hr, c, P, g1, g2, g3, g4⟩ := C.tab h7
    obtain ⟨a1, a2, a3⟩ := nm_of m9
    have key : cellB scope = false ∧ PE X (.Call (.Name x px) [.Lambda params body scope lpos] [] pos) (LamX.tLam T.tt (tdT X.mg T hs r) fun E σ H Q => ∀ (A : Around) (outer : List PySem.Env) (s0 : Shared) (H0 : Hp) (f c' : Addr), Room (3 * n) (A.deeper (LamX.lamEnv X scope s0.heap.objs.size f c')) → tW (LamD.lamCxN X A outer s0 H0 E scope f c') body σ H Q) := by
      unfold lamPB at h5
      split at h5
      · have L := LamD.lamG_by h5
        exact ⟨lam_nocell L, LamD.pe_lamcallN (T := T.tt) (TT := tdT X.mg T hs r) (k := 3 * n) (glo_of h2) m1 m2 m3 m4 m5 m6 m7 m8 (hG X rfl rfl rfl rfl rfl _) (fun pins σ H s E Q I hT h => LamD.lam_make0 I g2 g1 g3 g4 hT (L.has I.ok) (fun q cl pm cv ctv => noPs_bind q body scope cl pm cv ctv) h) hr L (fun y hy => by cases hy) (fun A outer s H E f c' hr => ⟨fun pins s' σ' H' Q' I h => h A outer s H f c' hr pins s' I⟩) n1 a1 a2⟩
      · rename_i y0 pp d j dp
        obtain ⟨h5, hy⟩ := and_t h5
        have L := LamD.lamG_by h5
        have hbs : ∀ y ∈ [y0], y ∉ X.N := fun y hy' => by
          rw [List.mem_singleton.mp hy']
          exact fun z => by
            rw [List.contains_iff_mem.mpr z] at hy
            cases hy
        exact ⟨lam_nocell L, LamD.pe_lamcallN (T := T.tt) (TT := tdT X.mg T hs r) (k := 3 * n) (glo_of h2) m1 m2 m3 m4 m5 m6 m7 m8 (hG X rfl rfl rfl rfl rfl _) (fun pins σ H s E Q I hT h => LamD.lam_make3 I g2 g1 g3 g4 hT (L.has I.ok) h) hr L hbs (fun A outer s H E f c' hr => ⟨fun pins s' σ' H' Q' I h => h A outer s H f c' hr pins s' I⟩) n1 a1 a2⟩
      · cases h5
    refine tW_of key.2 ⟨k.cr.tb, fun H1 eN T1 => ?_⟩
    intro A outer s0 H0 f c' hr'
    have x1 : Ext kk H H1 := fun a o h _ nt => eN a o h nt
    have r1 : Cr T kk c0 H1 := ⟨fun a z => eN a _ (k.cr.at_ a z) (fun ps z => by cases z), T1⟩
    have Cl : ∀ E : XK, Cn T Γ n (LamD.lamCxN X A outer s0 H0 E scope f c') := fun E => ⟨C.nd, rfl, hr', C.fns, C.fnx, C.tds, fun z => absurd z (by rw [show cellB (LamD.lamCxN X A outer s0 H0 E scope f c').env.scope = false from key.1]; exact Bool.false_ne_true), C.cs, C.blt⟩
    have hv : lamR hs r (ev Γ ρ e c0) = .ok d c1 := hv
    cases e1 : ev Γ ρ e c0 with
    | ok d0 c2 =>
      rw [e1] at hv
      cases hv
      exact he _ (Cl _) body ρ c0 d0 c1 h9 e1 kk O σ H1 _ (er.ext x1) (k.ext x1 r1) fun v H2 x2 r2 rv _ => ⟨vr, q7, p vr H2 (x1.trans x2) r2 (q8 _ _ _ _ _ _) fun z => by cases z⟩
    | exc kx xs c2 =>
      rw [e1] at hv
      have hv : (match hs[kx]? with | some d => R.ok d c2 | none => .bad) = .ok d c1 := hv
      cases e2 : hs[kx]? with
      | none => rw [e2] at hv; cases hv
      | some d' =>
        rw [e2] at hv
        cases hv
        obtain ⟨_, vd, w1, w2⟩ := litB_eq (q5 _ (List.mem_of_getElem? e2))
        have fin : ∀ es, ((∃ f, e = .call f es) ∨ ∃ i, e = .cv i es) → tW (LamD.lamCxN X A outer s0 H0 (tdW X.mg T hs Q) scope f c') body σ H1 (fun _ H' => ∃ v, litV r = some v ∧ Q v H') := fun es hel => call_exc (el := e) (hA es hel) (Cl (tdW X.mg T hs Q)) (L2N.passes_call (L2N.takes_of (X := LamD.lamCxN X A outer s0 H0 (tdW X.mg T hs Q) scope f c') rfl rfl rfl rfl) (fun _ _ _ _ h => h)) hel h9 e1 (Q := fun _ H' => ∃ v, litV r = some v ∧ Q v H') (er.ext x1) (k.ext x1 r1) fun y D g5 g6 H2 x2 r2 => ⟨kx, y, D, _, vd, rfl, rfl, g5, g6, e2, w1, fun H3 s3 => p vd H3 ((x1.trans x2).trans (Ext.of s3)) (r2.same s3) (w2 _ _ _ _ _ _) fun z => by cases z⟩
        cases e with
        | call f es => exact fin es (.inl ⟨f, rfl⟩)
        | cv i es => exact fin es (.inr ⟨i, rfl⟩)
        | _ => cases h8
    | bad => rw [e1] at hv; cases hv
  · cases ho
end
/-- the lists of expressions, together -/
structure SAll (T : Tb) (Γ : Gm) (n : Nat) (es : Exs) : Prop where
  a : SA T Γ n es
  and : SAnd T Γ n es
  or : SOr T Γ n es
  andT : SAndT T Γ n es
  orT : SOrT T Γ n es
section
variable (T : Tb) (Γ : Gm) (n : Nat)
mutual
theorem sE : ∀ c : Ex, SE T Γ n c ∧ STt T Γ n c
  | .v i => ⟨.v i, .plain (.v i) fun N sc e h env whole => by unfold okE at h; split at h <;> first | rfl | cases h⟩
  | .int i => ⟨.int i, .plain (.int i) fun N sc e h env whole => by unfold okE at h; split at h <;> first | rfl | cases h⟩
  | .str i => ⟨.str i, .plain (.str i) fun N sc e h env whole => by unfold okE at h; split at h <;> first | rfl | cases h⟩
  | .bl i => ⟨.bl i, .plain (.bl i) fun N sc e h env whole => by unfold okE at h; split at h <;> first | rfl | cases h⟩
  | .non => ⟨.non, .plain .non fun N sc e h env whole => by unfold okE at h; split at h <;> first | rfl | cases h⟩
  | .cst x i => ⟨.cst x i, .plain (.cst x i) fun N sc e h env whole => by unfold okE at h; split at h <;> first | rfl | cases h⟩
  | .css x i => ⟨.css x i, .plain (.css x i) fun N sc e h env whole => by unfold okE at h; split at h <;> first | rfl | cases h⟩
  | .bin o a b =>
    have h := SE.bin o (sE a).1 (sE b).1
    ⟨h, .plain h fun N sc e h env whole => by unfold okE at h; split at h <;> first | rfl | cases h⟩
  | .neg a =>
    have h := SE.neg (sE a).1
    ⟨h, .plain h fun N sc e h env whole => by unfold okE at h; split at h <;> first | rfl | cases h⟩
  | .cmp o a b => ⟨.cmp o (sE a).1 (sE b).1, .cmp o (sE a).1 (sE b).1⟩
  | .cmp2 o p a b c => ⟨.cmp2 o p (sE a).1 (sE b).1 (sE c).1, .cmp2 o p (sE a).1 (sE b).1 (sE c).1⟩
  | .and es => ⟨.and (sA es).and, .and (sA es).andT⟩
  | .or es => ⟨.or (sA es).or, .or (sA es).orT⟩
  | .not a => ⟨.not (sE a).2 (sE a).1, .not (sE a).2⟩
  | .ife t a b => ⟨.ife (sE t).2 (sE a).1 (sE b).1, .ife (sE t).2 (sE a).2 (sE b).2⟩
  | .tup es =>
    have h := SE.tup (sA es).a
    ⟨h, .plain h fun N sc e h env whole => by unfold okE at h; split at h <;> first | rfl | cases h⟩
  | .lst es =>
    have h := SE.lst (sA es).a
    ⟨h, .plain h fun N sc e h env whole => by unfold okE at h; split at h <;> first | rfl | cases h⟩
  | .ix a b =>
    have h := SE.ix (sE a).1 (sE b).1
    ⟨h, .plain h fun N sc e h env whole => by unfold okE at h; split at h <;> first | rfl | cases h⟩
  | .sl a lo hi st =>
    have h := SE.sl (sE a).1 (sO lo) (sO hi) (sO st)
    ⟨h, .plain h fun N sc e h env whole => by unfold okE at h; split at h <;> first | rfl | cases h⟩
  | .call f es =>
    have h := SE.call f (sA es).a
    ⟨h, .plain h fun N sc e h env whole => by unfold okE at h; split at h <;> first | rfl | cases h⟩
  | .bi b es =>
    have h := SE.bi b (sA es).a
    ⟨h, .plain h fun N sc e h env whole => by unfold okE at h; split at h <;> first | rfl | cases h⟩
  | .isi a t =>
    have h := SE.isi t (sE a).1
    ⟨h, .plain h fun N sc e h env whole => by unfold okE at h; split at h <;> first | rfl | cases h⟩
  | .lc e own g it i =>
    have h := SE.lc (own := own) (g := g) (sI it) (sT i) (sE e).1
    ⟨h, .plain h fun N sc e h env whole => by unfold okE at h; split at h <;> first | rfl | cases h⟩
  | .lc2 e own own1 g it i g1 it1 i1 =>
    have h := SE.lc2 (own := own) (own1 := own1) (g := g) (g1 := g1) (sI it) (sT i) (sI it1) (sT i1) (sE e).1
    ⟨h, .plain h fun N sc e h env whole => by unfold okE at h; split at h <;> first | rfl | cases h⟩
  | .fv f =>
    have h := SE.fv f
    ⟨h, .plain h fun N sc e h env whole => by unfold okE at h; split at h <;> first | rfl | cases h⟩
  | .cv i es =>
    have h := SE.cv i (sA es).a
    ⟨h, .plain h fun N sc e h env whole => by unfold okE at h; split at h <;> first | rfl | cases h⟩
  | .lam x hs r e =>
    have h := SE.lam x hs r e (sE e).1 (sC e)
    ⟨h, .plain h fun N sc e h env whole => by unfold okE at h; split at h <;> first | rfl | cases h⟩
/-- a call's arguments -/
theorem sC : ∀ (c : Ex) (es : Exs), ((∃ f, c = .call f es) ∨ ∃ i, c = .cv i es) → SA T Γ n es
  | .call f es', es, h => by
    have : es' = es := by rcases h with ⟨_, h⟩ | ⟨_, h⟩ <;> first | (cases h; done) | (cases h; rfl)
    exact this ▸ (sA es').a
  | .cv i es', es, h => by
    have : es' = es := by rcases h with ⟨_, h⟩ | ⟨_, h⟩ <;> first | (cases h; done) | (cases h; rfl)
    exact this ▸ (sA es').a
  | .v _, _, h => by rcases h with ⟨_, h⟩ | ⟨_, h⟩ <;> cases h
  | .int _, _, h => by rcases h with ⟨_, h⟩ | ⟨_, h⟩ <;> cases h
  | .str _, _, h => by rcases h with ⟨_, h⟩ | ⟨_, h⟩ <;> cases h
  | .bl _, _, h => by rcases h with ⟨_, h⟩ | ⟨_, h⟩ <;> cases h
  | .non, _, h => by rcases h with ⟨_, h⟩ | ⟨_, h⟩ <;> cases h
  | .cst _ _, _, h => by rcases h with ⟨_, h⟩ | ⟨_, h⟩ <;> cases h
  | .css _ _, _, h => by rcases h with ⟨_, h⟩ | ⟨_, h⟩ <;> cases h
  | .bin _ _ _, _, h => by rcases h with ⟨_, h⟩ | ⟨_, h⟩ <;> cases h
  | .neg _, _, h => by rcases h with ⟨_, h⟩ | ⟨_, h⟩ <;> cases h
  | .cmp _ _ _, _, h => by rcases h with ⟨_, h⟩ | ⟨_, h⟩ <;> cases h
  | .cmp2 _ _ _ _ _, _, h => by rcases h with ⟨_, h⟩ | ⟨_, h⟩ <;> cases h
  | .and _, _, h => by rcases h with ⟨_, h⟩ | ⟨_, h⟩ <;> cases h
  | .or _, _, h => by rcases h with ⟨_, h⟩ | ⟨_, h⟩ <;> cases h
  | .not _, _, h => by rcases h with ⟨_, h⟩ | ⟨_, h⟩ <;> cases h
  | .ife _ _ _, _, h => by rcases h with ⟨_, h⟩ | ⟨_, h⟩ <;> cases h
  | .tup _, _, h => by rcases h with ⟨_, h⟩ | ⟨_, h⟩ <;> cases h
  | .lst _, _, h => by rcases h with ⟨_, h⟩ | ⟨_, h⟩ <;> cases h
  | .ix _ _, _, h => by rcases h with ⟨_, h⟩ | ⟨_, h⟩ <;> cases h
  | .sl _ _ _ _, _, h => by rcases h with ⟨_, h⟩ | ⟨_, h⟩ <;> cases h
  | .bi _ _, _, h => by rcases h with ⟨_, h⟩ | ⟨_, h⟩ <;> cases h
  | .isi _ _, _, h => by rcases h with ⟨_, h⟩ | ⟨_, h⟩ <;> cases h
  | .lc _ _ _ _ _, _, h => by rcases h with ⟨_, h⟩ | ⟨_, h⟩ <;> cases h
  | .lc2 _ _ _ _ _ _ _ _ _, _, h => by rcases h with ⟨_, h⟩ | ⟨_, h⟩ <;> cases h
  | .fv _, _, h => by rcases h with ⟨_, h⟩ | ⟨_, h⟩ <;> cases h
  | .lam _ _ _ _, _, h => by rcases h with ⟨_, h⟩ | ⟨_, h⟩ <;> cases h
theorem sA : ∀ es : Exs, SAll T Γ n es
  | .nil => ⟨.nil, .nil, .nil, .nil, .nil⟩
  | .cons e es => ⟨.cons (sE e).1 (sA es).a, .cons (sE e).1 (sA es).and, .cons (sE e).1 (sA es).or, .cons (sE e).2 (sA es).andT, .cons (sE e).2 (sA es).orT⟩
theorem sO : ∀ o : Eo, SO T Γ n o
  | .no => .no
  | .so e => .so (sE e).1
theorem sT : ∀ o : Eo, STo T Γ n o
  | .no => trivial
  | .so e => (sE e).2
theorem sI : ∀ it : Src, SI T Γ n it
  | .ex a => .ex (sE a).1
  | .rng es => .rng (sA es).a
  | .zip a b => .zip (sE a).1 (sE b).1
  | .enum a => .enum (sE a).1
end
end
end Mn

set_option maxRecDepth 100000
set_option maxHeartbeats 4000000
namespace Mn
open PySem PySem.Spec PyProof.Rows L2

/-! ## the state of a body -/
/-- the lists that names hold alone -/
def Ow (σ : L2.St) (env : Env) (a : Addr) : Prop := ∃ (i : Nat) (l : List D), env[i]? = some (.o l) ∧ σ[i]? = some (some (.ref a))
/-- a promise about the heap that a body's steps keep -/
structure Bs (kk : Option Addr) (P : Hp → (Addr → Prop) → Prop) : Prop where
  ext : ∀ H H' W W', P H W → Ext kk H H' → (∀ a, kk = some a → Oc H' a) → (∀ a, W' a → W a ∨ ¬ Oc H a) → P H' W'
  wr : ∀ H W a l vs, P H W → W a → kk ≠ some a → H a = some (.lst l) → P (upd H a (.lst vs)) W
structure Sr (X : Cx) (T : Tb) (kk : Option Addr) (U : Addr → Prop) (P : Hp → (Addr → Prop) → Prop) (σ : L2.St) (env : Env) (H : Hp) : Prop where
  fz : ∀ (i : Nat) (d : D), env[i]? = some (.f d) → ∃ v, σ[i]? = some (some v) ∧ Rp X.K X.mg T kk (fun a => U a ∨ Ow σ env a) H v d
  ow : ∀ (i : Nat) (l : List D), env[i]? = some (.o l) → ∃ a vs, σ[i]? = some (some (.ref a)) ∧ H a = some (.lst vs) ∧ ¬ U a ∧ kk ≠ some a ∧ Rps X.K X.mg T kk (fun a => U a ∨ Ow σ env a) H vs l
  inj : ∀ (i j : Nat) (l l' : List D) (a : Addr), env[i]? = some (.o l) → env[j]? = some (.o l') → σ[i]? = some (some (.ref a)) → σ[j]? = some (some (.ref a)) → i = j
  pr : P H (Ow σ env)
section
variable {X : Cx} {T : Tb} {kk : Option Addr} {U U' : Addr → Prop} {P : Hp → (Addr → Prop) → Prop} {σ : L2.St} {env : Env} {H H' : Hp} {c c' : Cup}
theorem Sr.there (s : Sr X T kk U P σ env H) {a : Addr} (w : Ow σ env a) : Oc H a ∧ kk ≠ some a ∧ ¬ U a := by
  obtain ⟨i, l, e1, e2⟩ := w
  obtain ⟨b, vs, e3, e4, e5, e6, _⟩ := s.ow i l e1
  rw [e2] at e3
  cases e3
  exact ⟨.lst e4, e6, e5⟩
/-- a step that lays things; what is kept off may grow by new addresses -/
theorem Sr.ext (B : Bs kk P) (s : Sr X T kk U P σ env H) (x : Ext kk H H') (r : Cr T kk c' H') (o : ∀ a, U' a → U a ∨ ¬ Oc H a) : Sr X T kk U' P σ env H' where
  fz := fun i d e => by
    obtain ⟨v, e1, e2⟩ := s.fz i d e
    exact ⟨v, e1, e2.mono x fun a z => z.elim (fun z => (o a z).imp .inl id) fun z => .inl (.inr z)⟩
  ow := fun i l e => by
    obtain ⟨a, vs, e1, e2, e3, e4, e5⟩ := s.ow i l e
    refine ⟨a, vs, e1, x.lst e2 e4, fun z => (o a z).elim e3 (fun z => z (.lst e2)), e4, e5.mono x fun a z => z.elim (fun z => (o a z).imp .inl id) fun z => .inl (.inr z)⟩
  inj := s.inj
  pr := B.ext _ _ _ _ s.pr x (fun a z => .lst (r.at_ a z)) fun a z => .inl z
/-- what an expression may not reach: the lists that it does not name -/
def Hid (U : Addr → Prop) (hs : List Nat) (σ : L2.St) (env : Env) (a : Addr) : Prop := U a ∨ ∃ (i : Nat) (l : List D), env[i]? = some (.o l) ∧ i ∉ hs ∧ σ[i]? = some (some (.ref a))
theorem see_get (hs : List Nat) : ∀ (env : Env) (k i : Nat), (seeFrom hs k env)[i]? = (env[i]?).map (Sl.seeAt (hs.contains (k + i)))
  | [], k, i => by simp [seeFrom]
  | s :: r, k, 0 => by simp [seeFrom]
  | s :: r, k, i + 1 => by
    rw [seeFrom, List.getElem?_cons_succ, List.getElem?_cons_succ, see_get hs r (k + 1) i]
    rw [show k + 1 + i = k + (i + 1) by omega]
theorem see_f {hs : List Nat} {env : Env} {i : Nat} {d : D} (h : (see hs env)[i]?.bind id = some d) : env[i]? = some (.f d) ∨ ∃ l, env[i]? = some (.o l) ∧ i ∈ hs ∧ d = .lst l := by
  unfold see at h
  rw [see_get] at h
  cases e : env[i]? with
  | none => rw [e] at h; cases h
  | some s =>
    rw [e] at h
    cases s with
    | u => cases h
    | f d' =>
      have : d' = d := Option.some.inj h
      rw [this]; exact .inl rfl
    | o l =>
      have h' : (if hs.contains (0 + i) then some (D.lst l) else none) = some d := h
      split at h'
      · rename_i q
        rw [Nat.zero_add] at q
        exact .inr ⟨l, rfl, List.contains_iff_mem.mp q, (Option.some.inj h').symm⟩
      · cases h'
theorem Sr.er (s : Sr X T kk U P σ env H) (hs : List Nat) : Er X T kk (Hid U hs σ env) σ (see hs env) H := fun i d h => by
  have sub : ∀ a, Hid U hs σ env a → (U a ∨ Ow σ env a) ∨ ¬ Oc H a := fun a z => z.elim (fun z => .inl (.inl z)) fun ⟨i, l, e1, _, e2⟩ => .inl (.inr ⟨i, l, e1, e2⟩)
  rcases see_f h with e | ⟨l, e, hi, rfl⟩
  · obtain ⟨v, e1, e2⟩ := s.fz i d e
    exact ⟨v, e1, e2.mono (Ext.refl H) sub⟩
  · obtain ⟨a, vs, e1, e2, e3, e4, e5⟩ := s.ow i l e
    refine ⟨_, e1, .lst e2 (fun z => ?_) e4 (e5.mono (Ext.refl H) sub)⟩
    rcases z with z | ⟨j, l', f1, f2, f3⟩
    · exact e3 z
    · exact f2 (s.inj _ _ _ _ _ e f1 e1 f3 ▸ hi)
theorem Sr.okH (s : Sr X T kk U P σ env H) (k : Ok T kk U c H) (hs : List Nat) : Ok T kk (Hid U hs σ env) c H := ⟨k.cr, fun a z => z.elim (k.od a) fun ⟨i, l, e1, _, e2⟩ => (s.there ⟨i, l, e1, e2⟩).1, fun a z => z.elim (k.ok a) fun ⟨i, l, e1, _, e2⟩ => (s.there ⟨i, l, e1, e2⟩).2.1⟩
theorem frz_get (hs : List Nat) : ∀ (env : Env) (k i : Nat), (frzFrom hs k env)[i]? = (env[i]?).map (Sl.frzAt (hs.contains (k + i)))
  | [], k, i => by simp [frzFrom]
  | s :: r, k, 0 => by simp [frzFrom]
  | s :: r, k, i + 1 => by
    rw [frzFrom, List.getElem?_cons_succ, List.getElem?_cons_succ, frz_get hs r (k + 1) i]
    rw [show k + 1 + i = k + (i + 1) by omega]
theorem frz_o {hs : List Nat} {i : Nat} {l : List D} : (frz hs env)[i]? = some (.o l) ↔ env[i]? = some (.o l) ∧ i ∉ hs := by
  unfold frz
  rw [frz_get]
  cases e : env[i]? with
  | none => simp
  | some s =>
    cases s with
    | u => simp [Sl.frzAt]
    | f d => simp [Sl.frzAt]
    | o l' =>
      simp only [Option.map_some, Nat.zero_add, Sl.frzAt]
      by_cases h : i ∈ hs
      · rw [if_pos (List.contains_iff_mem.mpr h)]; simp [h]
      · rw [if_neg (fun z => h (List.contains_iff_mem.mp z))]; simp [h]
theorem frz_f {hs : List Nat} {i : Nat} {d : D} (h : (frz hs env)[i]? = some (.f d)) : env[i]? = some (.f d) ∨ ∃ l, env[i]? = some (.o l) ∧ i ∈ hs ∧ d = .lst l := by
  unfold frz at h
  rw [frz_get] at h
  cases e : env[i]? with
  | none => rw [e] at h; cases h
  | some s =>
    rw [e] at h
    cases s with
    | u => cases h
    | f d' => exact .inl h
    | o l =>
      have h' : (if hs.contains (0 + i) then Sl.f (.lst l) else Sl.o l) = Sl.f d := Option.some.inj h
      split at h'
      · rename_i q
        rw [Nat.zero_add] at q
        cases h'
        exact .inr ⟨l, rfl, List.contains_iff_mem.mp q, rfl⟩
      · cases h'
theorem ow_frz {hs : List Nat} {a : Addr} : (U a ∨ Ow σ (frz hs env) a) ↔ Hid U hs σ env a := by
  unfold Hid Ow
  constructor
  · rintro (h | ⟨i, l, e1, e2⟩)
    · exact .inl h
    · exact .inr ⟨i, l, (frz_o.mp e1).1, (frz_o.mp e1).2, e2⟩
  · rintro (h | ⟨i, l, e1, e2, e3⟩)
    · exact .inl h
    · exact .inr ⟨i, l, frz_o.mpr ⟨e1, e2⟩, e3⟩
theorem Sr.frz (B : Bs kk P) (s : Sr X T kk U P σ env H) (r : Cr T kk c H) (hs : List Nat) : Sr X T kk U P σ (frz hs env) H where
  fz := fun i d e => by
    have er := s.er hs
    have q : (see hs env)[i]?.bind id = some d := by
      unfold see
      rw [see_get]
      rcases frz_f e with e9 | ⟨l, e9, hi, rfl⟩
      · rw [e9]; rfl
      · rw [e9]
        show (if hs.contains (0 + i) then some (D.lst l) else none) = some (.lst l)
        rw [if_pos (by rw [Nat.zero_add]; exact List.contains_iff_mem.mpr hi)]
    obtain ⟨v, e1, e2⟩ := er i d q
    exact ⟨v, e1, e2.mono (Ext.refl H) fun a z => .inl (ow_frz.mp z)⟩
  ow := fun i l e => by
    obtain ⟨a, vs, e1, e2, e3, e4, e5⟩ := s.ow i l (frz_o.mp e).1
    refine ⟨a, vs, e1, e2, e3, e4, e5.mono (Ext.refl H) fun a z => .inl (z.imp id fun ⟨i, l, e1, e2⟩ => ⟨i, l, (frz_o.mp e1).1, e2⟩)⟩
  inj := fun i j l l' a e1 e2 => s.inj i j l l' a (frz_o.mp e1).1 (frz_o.mp e2).1
  pr := B.ext _ _ _ _ s.pr (Ext.refl H) (fun a z => .lst (r.at_ a z)) fun a ⟨i, l, e1, e2⟩ => .inl ⟨i, l, (frz_o.mp e1).1, e2⟩
theorem ow_setF {i : Nat} {v : V} {d : D} {a : Addr} (hi : i < σ.length) (h : Ow (σ.set i (some v)) (env.set i (.f d)) a) : Ow σ env a := by
  obtain ⟨j, l, e1, e2⟩ := h
  by_cases hj : i = j
  · subst hj
    rw [List.getElem?_set, if_pos rfl] at e1
    split at e1 <;> cases e1
  · rw [List.getElem?_set_ne hj] at e1 e2
    exact ⟨j, l, e1, e2⟩
theorem Sr.setF (B : Bs kk P) (s : Sr X T kk U P σ env H) (r : Cr T kk c H) {i : Nat} {v : V} {d : D} (hi : i < σ.length) (h : Rp X.K X.mg T kk (fun a => U a ∨ Ow σ env a) H v d) : Sr X T kk U P (σ.set i (some v)) (env.set i (.f d)) H where
  fz := fun j e q => by
    by_cases hj : i = j
    · subst hj
      rw [List.getElem?_set, if_pos rfl] at q
      split at q
      · cases q
        exact ⟨v, by rw [List.getElem?_set, if_pos rfl, if_pos hi], h.mono (Ext.refl H) fun a z => .inl (z.imp id (ow_setF hi))⟩
      · cases q
    · rw [List.getElem?_set_ne hj] at q
      obtain ⟨w, e1, e2⟩ := s.fz j e q
      exact ⟨w, by rw [List.getElem?_set_ne hj]; exact e1, e2.mono (Ext.refl H) fun a z => .inl (z.imp id (ow_setF hi))⟩
  ow := fun j l q => by
    by_cases hj : i = j
    · subst hj
      rw [List.getElem?_set, if_pos rfl] at q
      split at q <;> cases q
    · rw [List.getElem?_set_ne hj] at q
      obtain ⟨a, vs, e1, e2, e3, e4, e5⟩ := s.ow j l q
      exact ⟨a, vs, by rw [List.getElem?_set_ne hj]; exact e1, e2, e3, e4, e5.mono (Ext.refl H) fun a z => .inl (z.imp id (ow_setF hi))⟩
  inj := fun j m l l' a e1 e2 e3 e4 => by
    have nj : i ≠ j := fun z => by subst z; rw [List.getElem?_set, if_pos rfl] at e1; split at e1 <;> cases e1
    have nm : i ≠ m := fun z => by subst z; rw [List.getElem?_set, if_pos rfl] at e2; split at e2 <;> cases e2
    rw [List.getElem?_set_ne nj] at e1 e3
    rw [List.getElem?_set_ne nm] at e2 e4
    exact s.inj _ _ _ _ _ e1 e2 e3 e4
  pr := B.ext _ _ _ _ s.pr (Ext.refl H) (fun a z => .lst (r.at_ a z)) fun a z => .inl (ow_setF hi z)
theorem ow_setO {i : Nat} {a : Addr} {l : List D} {b : Addr} (hi : i < σ.length) (h : Ow (σ.set i (some (.ref a))) (env.set i (.o l)) b) : Ow σ env b ∨ b = a := by
  obtain ⟨j, l', e1, e2⟩ := h
  by_cases hj : i = j
  · subst hj
    rw [List.getElem?_set, if_pos rfl, if_pos hi] at e2
    cases e2
    exact .inr rfl
  · rw [List.getElem?_set_ne hj] at e1 e2
    exact .inl ⟨j, l', e1, e2⟩
/-- a new list, kept off by U, goes to a name -/
theorem Sr.setO (B : Bs kk P) (s : Sr X T kk U P σ env H) {i : Nat} {a : Addr} {l : List D} {vs : List V} (hi : i < σ.length) (ha : U a) (e : H a = some (.lst vs)) (hk : kk ≠ some a) (h : Rps X.K X.mg T kk (fun b => U b ∨ Ow σ env b) H vs l)
    (hp : P H (Ow (σ.set i (some (.ref a))) (env.set i (.o l)))) : Sr X T kk (fun b => U b ∧ b ≠ a) P (σ.set i (some (.ref a))) (env.set i (.o l)) H := by
  have sub : ∀ b, ((U b ∧ b ≠ a) ∨ Ow (σ.set i (some (.ref a))) (env.set i (.o l)) b) → (U b ∨ Ow σ env b) ∨ ¬ Oc H b := fun b z => z.elim (fun z => .inl (.inl z.1)) fun z => (ow_setO hi z).elim (fun z => .inl (.inr z)) fun z => .inl (.inl (z ▸ ha))
  refine ⟨fun j d q => ?_, fun j l' q => ?_, fun j m l1 l2 b e1 e2 e3 e4 => ?_, hp⟩
  · by_cases hj : i = j
    · subst hj
      rw [List.getElem?_set, if_pos rfl] at q
      split at q <;> cases q
    · rw [List.getElem?_set_ne hj] at q
      obtain ⟨w, e1, e2⟩ := s.fz j d q
      exact ⟨w, by rw [List.getElem?_set_ne hj]; exact e1, e2.mono (Ext.refl H) sub⟩
  · by_cases hj : i = j
    · subst hj
      rw [List.getElem?_set, if_pos rfl] at q
      split at q
      · cases q
        exact ⟨a, vs, by rw [List.getElem?_set, if_pos rfl, if_pos hi], e, fun z => z.2 rfl, hk, h.mono (Ext.refl H) sub⟩
      · cases q
    · rw [List.getElem?_set_ne hj] at q
      obtain ⟨b, ws, e1, e2, e3, e4, e5⟩ := s.ow j l' q
      exact ⟨b, ws, by rw [List.getElem?_set_ne hj]; exact e1, e2, fun z => e3 z.1, e4, e5.mono (Ext.refl H) sub⟩
  · by_cases hj : i = j
    · subst hj
      rw [List.getElem?_set, if_pos rfl, if_pos hi] at e3
      cases e3
      by_cases hm : i = m
      · exact hm
      · rw [List.getElem?_set_ne hm] at e2 e4
        exact absurd ha (s.there ⟨m, l2, e2, e4⟩).2.2
    · rw [List.getElem?_set_ne hj] at e1 e3
      by_cases hm : i = m
      · subst hm
        rw [List.getElem?_set, if_pos rfl, if_pos hi] at e4
        cases e4
        exact absurd ha (s.there ⟨j, l1, e1, e3⟩).2.2
      · rw [List.getElem?_set_ne hm] at e2 e4
        exact s.inj _ _ _ _ _ e1 e2 e3 e4
/-- the list of a name is written -/
theorem Sr.wr (B : Bs kk P) (s : Sr X T kk U P σ env H) {i : Nat} {a : Addr} {l l' : List D} {vs : List V} (e : env[i]? = some (.o l)) (e' : σ[i]? = some (some (.ref a))) (h : Rps X.K X.mg T kk (fun b => U b ∨ Ow σ env b) H vs l') : Sr X T kk U P σ (env.set i (.o l')) (upd H a (.lst vs)) := by
  have hi : i < env.length := (List.getElem?_eq_some_iff.mp e).1
  have ha : Ow σ env a := ⟨i, l, e, e'⟩
  obtain ⟨b, ws, f1, f2, f3, f4, f5⟩ := s.ow i l e
  rw [e'] at f1
  cases f1
  have same : ∀ b, Ow σ (env.set i (.o l')) b ↔ Ow σ env b := fun b => by
    constructor
    · rintro ⟨j, m, g1, g2⟩
      by_cases hj : i = j
      · subst hj; exact ⟨i, l, e, g2⟩
      · rw [List.getElem?_set_ne hj] at g1; exact ⟨j, m, g1, g2⟩
    · rintro ⟨j, m, g1, g2⟩
      by_cases hj : i = j
      · subst hj; exact ⟨i, l', by rw [List.getElem?_set, if_pos rfl, if_pos hi], g2⟩
      · exact ⟨j, m, by rw [List.getElem?_set_ne hj]; exact g1, g2⟩
  have x : ExtO kk (fun b => U b ∨ Ow σ env b) H (upd H a (.lst vs)) := fun b o q hc _ => by
    rw [upd_ne]
    · exact q
    · rintro rfl
      rcases hc with hc | hc
      · exact hc.1 (.inr ha)
      · rw [f2] at q; cases q; exact hc _ rfl
  have eqU : (fun b => U b ∨ Ow σ (env.set i (.o l')) b) = fun b => U b ∨ Ow σ env b := funext fun b => propext (or_congr Iff.rfl (same b))
  refine ⟨fun j d q => ?_, fun j m q => ?_, fun j m l1 l2 b e1 e2 e3 e4 => ?_, ?_⟩
  · rw [eqU]
    by_cases hj : i = j
    · subst hj
      rw [List.getElem?_set, if_pos rfl] at q
      split at q <;> cases q
    · rw [List.getElem?_set_ne hj] at q
      obtain ⟨w, g1, g2⟩ := s.fz j d q
      exact ⟨w, g1, g2.chg x⟩
  · rw [eqU]
    by_cases hj : i = j
    · subst hj
      rw [List.getElem?_set, if_pos rfl, if_pos hi] at q
      cases q
      exact ⟨a, vs, e', upd_same, f3, f4, h.chg x⟩
    · rw [List.getElem?_set_ne hj] at q
      obtain ⟨b, us, g1, g2, g3, g4, g5⟩ := s.ow j m q
      refine ⟨b, us, g1, ?_, g3, g4, g5.chg x⟩
      rw [upd_ne]
      · exact g2
      · rintro rfl
        exact hj (s.inj _ _ _ _ _ e q e' g1)
  · have g1 : ∃ m', env[j]? = some (.o m') := by
      by_cases hj : i = j
      · subst hj; exact ⟨l, e⟩
      · rw [List.getElem?_set_ne hj] at e1; exact ⟨_, e1⟩
    have g2 : ∃ m', env[m]? = some (.o m') := by
      by_cases hj : i = m
      · subst hj; exact ⟨l, e⟩
      · rw [List.getElem?_set_ne hj] at e2; exact ⟨_, e2⟩
    obtain ⟨_, g1⟩ := g1
    obtain ⟨_, g2⟩ := g2
    exact s.inj _ _ _ _ _ g1 g2 e3 e4
  · have q : Ow σ (env.set i (.o l')) = Ow σ env := funext fun b => propext (same b)
    rw [q]
    exact B.wr _ _ _ _ _ s.pr ha f4 f2
/-- less is kept off -/
theorem Sr.less (s : Sr X T kk U P σ env H) (o : ∀ a, U' a → U a) : Sr X T kk U' P σ env H where
  fz := fun i d e => by
    obtain ⟨v, e1, e2⟩ := s.fz i d e
    exact ⟨v, e1, e2.mono (Ext.refl H) fun a z => .inl (z.imp (o a) id)⟩
  ow := fun i l e => by
    obtain ⟨a, vs, e1, e2, e3, e4, e5⟩ := s.ow i l e
    exact ⟨a, vs, e1, e2, fun z => e3 (o a z), e4, e5.mono (Ext.refl H) fun a z => .inl (z.imp (o a) id)⟩
  inj := s.inj
  pr := s.pr
/-- behind an expression -/
def aft (b : Bool) (hs : List Nat) (env : Env) : Env := if b then env else frz hs env
theorem Sr.aft (B : Bs kk P) (s : Sr X T kk U P σ env H) (x : Ext kk H H') (r : Cr T kk c' H') (b : Bool) (hs : List Nat) (o : ∀ a, U' a → U a ∨ ¬ Oc H a) : Sr X T kk U' P σ (aft b hs env) H' := by
  have s1 : Sr X T kk U' P σ env H' := s.ext B x r o
  cases b with
  | true => exact s1
  | false => exact s1.frz B r hs
/-- the value reaches no list of a name's own -/
theorem Sr.val (s : Sr X T kk U P σ env H) {hs : List Nat} {fr : Bool} {v : V} {d : D} (rv : Rp X.K X.mg T kk (Hid U hs σ env) H' v d) (nw : fr = true → New X.K X.mg T kk (Hid U hs σ env) H H' v d) : Rp X.K X.mg T kk (fun a => U a ∨ Ow σ (Mn.aft (safe fr d) hs env) a) H' v d := by
  cases q : safe fr d with
  | false => exact rv.mono (Ext.refl H') fun a z => .inl (ow_frz.mp z)
  | true =>
    by_cases nl : d.nl = true
    · exact rv.free nl
    · cases d with
      | lst l =>
        obtain ⟨q1, q2⟩ := and_t (show (fr && D.nls l) = true from q)
        obtain ⟨a, vs, rfl, e1, e2, e3, e4⟩ := nw q1 l rfl
        refine .lst e2 (fun z => ?_) e3 (Rps.free q2 e4)
        have z' : U a ∨ Ow σ env a := z
        rcases z' with z | z
        · cases rv with
          | lst g1 g2 g3 g4 => exact g2 (.inl z)
        · exact e1 (s.there z).1
      | tup l => exact absurd q nl
      | non => exact absurd q nl
      | bl _ => exact absurd q nl
      | int _ => exact absurd q nl
      | str _ => exact absurd q nl
      | fn _ => exact absurd q nl
      | cup => exact absurd q nl
      | scr _ => exact absurd q nl
end
end Mn

set_option maxRecDepth 100000
set_option maxHeartbeats 4000000
namespace Mn
open PySem PySem.Spec PyProof.Rows L2

def tSW (X : Cx) (st : Stmt) : TS := fun D σ H => ∀ (pins : List (Addr × Obj)) (s : Shared), Inv X pins σ H s → wpAny (model X.prog X.w) X.A (exec st X.env) (SP X pins D) X.xe s
theorem psW {X : Cx} {st : Stmt} : PS X st (tSW X st) := ⟨fun pins s σ H D I h => h pins s I⟩
theorem tSW_of {X : Cx} {st : Stmt} {t : TS} (h : PS X st t) {D : Ends} {σ : L2.St} {H : Hp} (q : t D σ H) : tSW X st D σ H := fun pins s I => h.run pins s σ H D I q
theorem tSW_len {X : Cx} {st : Stmt} {D : Ends} {σ : L2.St} {H : Hp} (h : σ.length = X.N.length → tSW X st D σ H) : tSW X st D σ H := fun pins s I => h I.len pins s I
def tSsW (X : Cx) (st : List Stmt) : TS := fun D σ H => ∀ (pins : List (Addr × Obj)) (s : Shared), Inv X pins σ H s → wpAny (model X.prog X.w) X.A (execs st X.env) (SP X pins D) X.xe s
theorem pssW {X : Cx} {st : List Stmt} : PSs X st (tSsW X st) := ⟨fun pins s σ H D I h => h pins s I⟩
theorem tSsW_of {X : Cx} {st : List Stmt} {t : TS} (h : PSs X st t) {D : Ends} {σ : L2.St} {H : Hp} (q : t D σ H) : tSsW X st D σ H := fun pins s I => h.run pins s σ H D I q
/-- a def's body -/
structure Cs (X : Cx) : Prop where
  sto : Sto X X.env.scope
  kind : X.env.scope.kind = .function
  pass : PassesOwn (model X.prog X.w) X.A X.env X.xe
/-- behind a statement -/
def PostS (X : Cx) (T : Tb) (kk : Option Addr) (U : Addr → Prop) (P : Hp → (Addr → Prop) → Prop) (c : Cup) (env' : Env) (D : Ends) : Fl → Prop
  | .nx => ∀ σ' H', Sr X T kk U P σ' env' H' → Ok T kk U c H' → D.nx σ' H'
  | .bk => ∀ σ' H', Sr X T kk U P σ' env' H' → Ok T kk U c H' → D.bk σ' H'
  | .ct => ∀ σ' H', Sr X T kk U P σ' env' H' → Ok T kk U c H' → D.ct σ' H'
  | .ret d => ∀ v σ' H', Sr X T kk U P σ' env' H' → Ok T kk U c H' → Rp X.K X.mg T kk U H' v d → D.rt v H'
section
variable (T : Tb) (Γ : Gm) (n : Nat)
def SS (s : St) : Prop := ∀ (X : Cx), Cn T Γ n X → Cs X → ∀ (st : Stmt) (env : Env) (c0 : Cup) (fl : Fl) (env' : Env) (c1 : Cup), okS T X.N X.env.scope s st = true → ex1 Γ s env c0 = .ok (fl, env') c1 →
  ∀ (kk : Option Addr) (U : Addr → Prop) (P : Hp → (Addr → Prop) → Prop) (σ : L2.St) (H : Hp) (D : Ends), Bs kk P → Sr X T kk U P σ env H → Ok T kk U c0 H → PostS X T kk U P c1 env' D fl → tSW X st D σ H
def SSs (ss : Sts) : Prop := ∀ (X : Cx), Cn T Γ n X → Cs X → ∀ (st : List Stmt) (env : Env) (c0 : Cup) (fl : Fl) (env' : Env) (c1 : Cup), okSs T X.N X.env.scope ss st = true → exs Γ ss env c0 = .ok (fl, env') c1 →
  ∀ (kk : Option Addr) (U : Addr → Prop) (P : Hp → (Addr → Prop) → Prop) (σ : L2.St) (H : Hp) (D : Ends), Bs kk P → Sr X T kk U P σ env H → Ok T kk U c0 H → PostS X T kk U P c1 env' D fl → tSsW X st D σ H
end
section
variable {X : Cx} {T : Tb} {kk : Option Addr} {U U' : Addr → Prop} {P : Hp → (Addr → Prop) → Prop} {σ : L2.St} {env : Env} {H H' : Hp} {c c' : Cup}
theorem ow_aft {b : Bool} {hs : List Nat} {a : Addr} (h : Ow σ (aft b hs env) a) : Ow σ env a := by
  cases b with
  | true => exact h
  | false =>
    obtain ⟨i, l, e1, e2⟩ := h
    exact ⟨i, l, (frz_o.mp e1).1, e2⟩
/-- a value goes to a name -/
theorem Sr.store (B : Bs kk P) (s : Sr X T kk U P σ env H) (k : Ok T kk U c H) {hs : List Nat} {fr : Bool} {v : V} {d : D} {i : Nat} (hi : i < σ.length) (x : Ext kk H H') (r : Cr T kk c' H') (rv : Rp X.K X.mg T kk (Hid U hs σ env) H' v d) (nw : fr = true → New X.K X.mg T kk (Hid U hs σ env) H H' v d) :
    Sr X T kk U P (σ.set i (some v)) ((Mn.aft (safe fr d) hs env).set i (newSl fr d)) H' := by
  by_cases q : fr = true ∧ ∃ l, d = .lst l
  · obtain ⟨rfl, l, rfl⟩ := q
    obtain ⟨a, vs, rfl, e1, e2, e3, e4⟩ := nw rfl l rfl
    have s1 : Sr X T kk (fun b => U b ∨ b = a) P σ (Mn.aft (safe true (.lst l)) hs env) H' := s.aft B x r _ hs fun b (z : U b ∨ b = a) => z.imp id fun (q : b = a) => by rw [q]; exact e1
    have s2 := s1.setO B (l := l) (vs := vs) hi (.inr rfl) e2 e3 (by
      cases q : safe true (.lst l) with
      | true => exact Rps.free (and_t (show (true && D.nls l) = true from q)).2 e4
      | false =>
        refine e4.mono (Ext.refl H') fun b z => .inl ?_
        rcases z with (z | z) | z
        · exact .inl (.inl z)
        · exact .inr z
        · exact .inl (ow_frz.mp (.inr z)))
      (B.ext _ _ _ _ s.pr x (fun a z => .lst (r.at_ a z)) fun b z => (ow_setO hi z).imp ow_aft fun (q : b = a) => by rw [q]; exact e1)
    exact s2.less fun b z => ⟨.inl z, fun (w : b = a) => e1 (w ▸ k.od b z)⟩
  · have e : newSl fr d = .f d := by
      cases d with
      | lst l =>
        cases fr with
        | true => exact absurd ⟨rfl, l, rfl⟩ q
        | false => rfl
      | _ => rfl
    rw [e]
    exact (s.aft B x r _ hs fun b z => .inl z).setF B r hi (s.val rv nw)
theorem sw_false {c : Ex} {N : List Str} {sc : Scope} {v : Expr} {tgt : Option Expr} {l : Nat} {env : PySem.Env} (h : okE T N sc c v = true) (n : ∀ a b d e f, c ≠ .lc a b d e f) (n2 : ∀ a b d e f g h i j, c ≠ .lc2 a b d e f g h i j) : swapsWith v tgt l env = pure false := by
  cases c with
  | lc a b d e f => exact absurd rfl (n a b d e f)
  | lc2 a b d e f g h2 i j => exact absurd rfl (n2 a b d e f g h2 i j)
  | _ => unfold okE at h; split at h <;> first | rfl | cases h
theorem swB_false {elt : Expr} {gs : List Comprehension} {scope : Scope} {pos py : Pos} {y : Str} {l : Nat} {env : PySem.Env} (h : swB env.scope y py (.ListComp elt gs scope pos) = false) : swapsWith (.ListComp elt gs scope pos) (some (.Name y py)) l env = pure false := by
  unfold swapsWith
  dsimp only
  have e : (env.blockKind == .function && env.kindOf y == some .local && py.line == (Expr.ListComp elt gs scope pos).pos.line && !(scope.names.any fun (n, k) => n == y && (k == .local || k == .cell))) = false := by
    unfold swB at h
    rw [Bool.and_eq_false_iff] at h
    rcases h with h | h
    · have q : (env.kindOf y == some .local) = false := by
        have h' := of_decide_eq_false h
        exact beq_eq_false_iff_ne.mpr h'
      rw [q, Bool.and_false, Bool.false_and, Bool.false_and]
    · show (env.blockKind == .function && env.kindOf y == some .local && py.line == pos.line && !(scope.names.any fun (n, k) => n == y && (k == .local || k == .cell))) = false
      rw [Bool.and_assoc, Bool.and_assoc]
      have h2 : ((py.line == pos.line) && !(scope.names.any fun (n, k) => n == y && (k == .local || k == .cell))) = false := h
      rw [h2, Bool.and_false, Bool.and_false]
  rw [e]
theorem swB_true {elt : Expr} {gs : List Comprehension} {scope : Scope} {pos py : Pos} {y : Str} {l : Nat} {env : PySem.Env} (hk : env.scope.kind = .function) (h : swB env.scope y py (.ListComp elt gs scope pos) = true) : env.scope.names.lookup y = some .local ∧ swapsWith (.ListComp elt gs scope pos) (some (.Name y py)) l env = pure true := by
  unfold swB at h
  obtain ⟨h1, h2, h3⟩ := and3 h
  have h1' := of_decide_eq_true h1
  refine ⟨h1', sw_true hk h1' h2 ?_⟩
  simpa using h3
end
section
variable {T : Tb} {Γ : Gm} {n : Nat}
theorem SS.set (i : Nat) (e : Ex) (hs : List Nat) : SS T Γ n (.set i e hs) := by
  intro X C S st env c0 fl env' c1 ho hv kk U P σ H D B s k p
  unfold okS at ho
  split at ho
  · rename_i x px v pos
    obtain ⟨h1, h2, h3⟩ := and3 ho
    have hN : X.N[i]? = some x := eq_of_beq h1
    obtain ⟨t1, t2⟩ := S.sto x h2
    unfold ex1 at hv
    obtain ⟨d, c2, e1, hv⟩ := bnx_ok hv
    cases hv
    refine tSW_len fun hl => ?_
    have hi : i < σ.length := by
      rw [hl]
      exact (List.getElem?_eq_some_iff.mp hN).1
    have fin : Post X T kk (Hid U hs σ env) H c1 d (fresh e) (fun x H1 => gName i x σ H1 D.nx) := fun v H' x r rv nw => p _ _ (s.store B k hi x r rv nw) (k.ext x r)
    have er := s.er hs
    have kh := s.okH k hs
    by_cases q : ∃ a b d e' f, e = .lc a b d e' f
    · obtain ⟨el, own, g, it, i', rfl⟩ := q
      have h4 := h3
      unfold okE at h4
      split at h4
      · rename_i elt gs scope pos'
        split at h4
        · rename_i tg iter ifs z
          obtain ⟨g0, g1, g2, g3, g4, g5, g6⟩ := and7 h4
          obtain ⟨g0, g7⟩ := of_decide_eq_true g0
          cases g0
          have ok : LcOk T X el own g it i' elt tg iter ifs scope := ⟨g1, g2, g3, g4, g5, g6, g7⟩
          cases hsw : swB X.env.scope x px (.ListComp elt [⟨tg, iter, ifs, 0⟩] scope pos') with
          | true =>
            obtain ⟨w1, w2⟩ := swB_true (l := pos.line) S.kind hsw
            exact tSW_of (ps_setLc (wi := tIW X tg iter) (g := gB X scope tg) (tt := ttB X scope ifs) (te := teB X scope elt) C.calm C.nd hN w1 w2 piW (blkOk_by g1) (fun s0 H0 C' cl fp => ⟨fun pins s σ H v u Q I r h => h s0 H0 C' cl fp pins s u I r⟩)
              (fun s0 H0 C' cl fp => ⟨fun pins s σ H Q I h => h s0 H0 C' cl fp pins s I⟩) (fun s0 H0 C' cl fp => ⟨fun pins s σ H Q I h => h s0 H0 C' cl fp pins s I⟩) ok.nofold) (lc_read (sI T Γ n it) (sT T Γ n i') (sE T Γ n el).1 C ok e1 er kh fin)
          | false => exact tSW_of (ps_set C.nd hN t1 peW (swB_false hsw) t2) ((sE T Γ n _).1 X C _ _ _ _ _ h3 e1 _ _ _ _ _ er kh fin)
        · cases h4
      · cases h4
    · by_cases q2 : ∃ a b d e' f g h i j, e = .lc2 a b d e' f g h i j
      · obtain ⟨el, own, own1, g, it, i', g1, it1, i1', rfl⟩ := q2
        obtain ⟨elt, tg, iter, ifs, tg1, iter1, ifs1, scope, pos', rfl, ok⟩ := lc2_ok h3
        cases hsw : swB X.env.scope x px (.ListComp elt [⟨tg, iter, ifs, 0⟩, ⟨tg1, iter1, ifs1, 0⟩] scope pos') with
        | true =>
          obtain ⟨w1, w2⟩ := swB_true (l := pos.line) S.kind hsw
          have q := lc2_read (sI T Γ n it) (sT T Γ n i') (sI T Γ n it1) (sT T Γ n i1') (sE T Γ n el).1 C ok e1 er kh fin
          refine tSW_of (ps_setLc2 (wi := tIW X tg iter) (g := gB X scope tg) (tt := ttB X scope ifs) (wi1 := wiB X scope tg1 iter1) (g1 := gB X scope tg1) (tt1 := ttB X scope ifs1) (te := teB X scope elt) (vs1 := own1.map (·.2))
            C.calm C.nd hN w1 w2 piW (blkOk_by ok.h1) ok.sub (fun s0 H0 C' cl fp => ⟨fun pins s σ H v u Q I r h => h s0 H0 C' cl fp pins s u I r⟩) (fun s0 H0 C' cl fp => ⟨fun pins s σ H Q I h => h s0 H0 C' cl fp pins s I⟩)
            (fun s0 H0 C' cl fp => ⟨fun pins s σ H R I h => h s0 H0 C' cl fp pins s I⟩) (fun s0 H0 C' cl fp => ⟨fun pins s σ H v u Q I r h => h s0 H0 C' cl fp pins s u I r⟩) (fun s0 H0 C' cl fp => ⟨fun pins s σ H Q I h => h s0 H0 C' cl fp pins s I⟩)
            (fun s0 H0 C' cl fp => ⟨fun pins s σ H Q I h => h s0 H0 C' cl fp pins s I⟩) (okI_nofold ok.h2) (fun env => okI_nofold ok.h9)) ?_
          exact q
        | false => exact tSW_of (ps_set C.nd hN t1 peW (swB_false hsw) t2) ((sE T Γ n _).1 X C _ _ _ _ _ h3 e1 _ _ _ _ _ er kh fin)
      · exact tSW_of (ps_set C.nd hN t1 peW (sw_false h3 (fun a b d e' f z => q ⟨a, b, d, e', f, z⟩) fun a b d e' f g h i j z => q2 ⟨a, b, d, e', f, g, h, i, j, z⟩) t2) ((sE T Γ n _).1 X C _ _ _ _ _ h3 e1 _ _ _ _ _ er kh fin)
  · cases ho
theorem SS.drop (e : Ex) (hs : List Nat) : SS T Γ n (.drop e hs) := by
  intro X C S st env c0 fl env' c1 ho hv kk U P σ H D B s k p
  unfold okS at ho
  split at ho
  · rename_i v pos
    obtain ⟨h1, h2⟩ := and_t ho
    unfold ex1 at hv
    obtain ⟨d, c2, e1, hv⟩ := bnx_ok hv
    cases hv
    refine tSW_of (ps_expr peW ?_) ((sE T Γ n e).1 X C _ _ _ _ _ h1 e1 _ _ _ _ _ (s.er hs) (s.okH k hs) fun v H' x r rv nw => p _ _ (s.ext B x r fun a z => .inl z) (k.ext x r))
    split at h2
    · rfl
    · cases h2
  · cases ho
theorem SS.ret (e : Ex) (hs : List Nat) : SS T Γ n (.ret e hs) := by
  intro X C S st env c0 fl env' c1 ho hv kk U P σ H D B s k p
  unfold okS at ho
  split at ho
  · unfold ex1 at hv
    obtain ⟨d, c2, e1, hv⟩ := bnx_ok hv
    cases hv
    exact tSW_of (ps_ret peW) ((sE T Γ n e).1 X C _ _ _ _ _ ho e1 _ _ _ _ _ (s.er hs) (s.okH k hs) fun v H' x r rv nw => p _ _ _ (s.ext B x r fun a z => .inl z) (k.ext x r) (rv.mono (Ext.refl H') fun a z => .inl (.inl z)))
  · cases ho
theorem SS.brk : SS T Γ n .brk := by
  intro X C S st env c0 fl env' c1 ho hv kk U P σ H D B s k p
  unfold okS at ho
  split at ho
  · cases hv
    exact tSW_of ps_break (p _ _ s k)
  · cases ho
theorem SS.cnt : SS T Γ n .cnt := by
  intro X C S st env c0 fl env' c1 ho hv kk U P σ H D B s k p
  unfold okS at ho
  split at ho
  · cases hv
    exact tSW_of ps_continue (p _ _ s k)
  · cases ho
theorem SS.pass : SS T Γ n .pass := by
  intro X C S st env c0 fl env' c1 ho hv kk U P σ H D B s k p
  unfold okS at ho
  split at ho
  · cases hv
    exact tSW_of ps_pass (p _ _ s k)
  · cases ho
theorem SS.raise (kx : Nat) : SS T Γ n (.raise kx) := by
  intro X C S st env c0 fl env' c1 ho hv
  cases hv
theorem SS.ife (t : Ex) (hs : List Nat) {a b : Sts} (ha : SSs T Γ n a) (hb : SSs T Γ n b) : SS T Γ n (.ife t hs a b) := by
  intro X C S st env c0 fl env' c1 ho hv kk U P σ H D B s k p
  unfold okS at ho
  split at ho
  · obtain ⟨h1, h2, h3⟩ := and3 ho
    unfold ex1 at hv
    obtain ⟨x, c2, e1, hv⟩ := bnd_ok hv
    obtain ⟨b', c3, e30, hv⟩ := bnd_ok hv
    obtain ⟨e3, e4⟩ := opt_ok e30
    subst e4
    cases tBl_ok e3
    refine tSW_of (ps_if ptW pssW pssW) ((sE T Γ n t).2 X C _ _ _ _ _ h1 e1 _ _ _ _ _ (s.er hs) (s.okH k hs) fun H1 x1 r1 => ?_)
    have s1 := s.ext B x1 r1 (U' := U) fun a z => .inl z
    cases b' with
    | true => exact iteT (ha X C S _ _ _ _ _ _ h2 hv _ _ _ _ _ _ B s1 (k.ext x1 r1) p)
    | false => exact iteF (hb X C S _ _ _ _ _ _ h3 hv _ _ _ _ _ _ B s1 (k.ext x1 r1) p)
  · cases ho
theorem SSs.nil : SSs T Γ n .nil := by
  intro X C S st env c0 fl env' c1 ho hv kk U P σ H D B s k p
  cases st with
  | cons _ _ => cases ho
  | nil =>
    cases hv
    exact tSsW_of pss_nil (p _ _ s k)
theorem SSs.cons {a : St} {as : Sts} (ha : SS T Γ n a) (hr : SSs T Γ n as) : SSs T Γ n (.cons a as) := by
  intro X C S st env c0 fl env' c1 ho hv kk U P σ H D B s k p
  cases st with
  | nil => cases ho
  | cons v r =>
    obtain ⟨h1, h2⟩ := and_t (show (okS T X.N X.env.scope a v && okSs T X.N X.env.scope as r) = true from ho)
    unfold exs at hv
    obtain ⟨⟨f1, env1⟩, c2, e1, hv⟩ := bnx_ok hv
    refine tSsW_of (pss_cons psW pssW) (ha X C S _ _ _ _ _ _ h1 e1 _ _ _ _ _ _ B s k ?_)
    cases f1 with
    | nx => exact fun σ' H' s' k' => hr X C S _ _ _ _ _ _ h2 hv _ _ _ _ _ _ B s' k' p
    | ret d => cases hv; exact p
    | bk => cases hv; exact p
    | ct => cases hv; exact p
/-! ### lists that a name holds are changed -/
theorem pv' {X : Cx} {i : Nat} {x : Str} {pos : Pos} (hN : X.N[i]? = some x) (hv : visB X.env.scope x = true) (h : nmB x = true) : PE X (.Name x pos) (tVar i) := pe_var hN (vis_of hv) (nm_of h).1 (nm_of h).2.1
theorem SS.app (i : Nat) (e : Ex) (hs : List Nat) : SS T Γ n (.app i e hs) := by
  intro X C S st env c0 fl env' c1 ho hv kk U P σ H D B s k p
  unfold okS at ho
  split at ho
  · rename_i x px m ap vs ks cp pos
    obtain ⟨h1, h2, h3, h4, h5, h6, h7⟩ := and7 ho
    cases eq_of_beq h1
    cases ks with
    | cons _ _ => cases h2
    | nil =>
      split at h7
      · rename_i v
        unfold ex1 at hv
        obtain ⟨d, c2, e1, hv⟩ := bnd_ok hv
        have hv' : (match (aft (safe (fresh e) d) hs env)[i]? with
          | some (.o l) => if l.length < lineN then R.ok (Fl.nx, (aft (safe (fresh e) d) hs env).set i (.o (l ++ [d]))) c2 else .bad
          | _ => .bad) = .ok (fl, env') c1 := hv
        split at hv'
        · rename_i l el
          split at hv'
          · rename_i hz
            cases hv'
            have el0 : env[i]? = some (.o l) := by
              cases q : safe (fresh e) d with
              | true => rw [q] at el; exact el
              | false => rw [q] at el; exact (frz_o.mp el).1
            obtain ⟨a, us, f1, f2, f3, f4, f5⟩ := s.ow i l el0
            refine tSW_of (ps_expr (pe_bm PySem.F.plainAttrs_list PySem.F.slot_list_append PySem.F.type_list_append mt_append (pv' (eq_of_beq h4) h5 h6) (pa_cons peW pa_nil (star_of (ok_shape h7))) rfl (by rw [star_of (ok_shape h7)]; rfl) h3 (star_of (ok_shape h7)) rfl) rfl) ?_
            refine ⟨_, f1, .inl ⟨rfl, _, .inl (.inl f2)⟩, ?_⟩
            refine (sE T Γ n e).1 X C _ _ _ _ _ h7 e1 _ _ _ _ _ (s.er hs) (s.okH k hs) fun w H' x r rv nw => ?_
            have s1 := s.aft B x r (safe (fresh e) d) hs (U' := U) fun a z => .inl z
            obtain ⟨a', us', g1, g2, g3, g4, g5⟩ := s1.ow i l el
            rw [f1] at g1
            cases g1
            refine ⟨a, us', w, rfl, rfl, g2, by rw [g5.length, ← lineN_eq]; exact hz, ?_⟩
            exact p _ _ (s1.wr B el f1 (g5.append (.cons (s.val rv nw) .nil))) ((k.ext x r).wr g2 f4)
          · cases hv'
        · cases hv'
      · cases h7
  · cases ho
theorem SS.ext (i : Nat) (e : Ex) (hs : List Nat) : SS T Γ n (.ext i e hs) := by
  intro X C S st env c0 fl env' c1 ho hv kk U P σ H D B s k p
  unfold okS at ho
  split at ho
  · rename_i x px m ap vs ks cp pos
    obtain ⟨h1, h2, h3, h4, h5, h6, h7⟩ := and7 ho
    cases eq_of_beq h1
    cases ks with
    | cons _ _ => cases h2
    | nil =>
      split at h7
      · rename_i v
        unfold ex1 at hv
        obtain ⟨d, c2, e1, hv⟩ := bnd_ok hv
        have hv' : (match (aft (safe (fresh e) d) hs env)[i]?, d with
          | some (.o l), .lst l' => if l.length + l'.length ≤ lineN then R.ok (Fl.nx, (aft (safe (fresh e) d) hs env).set i (.o (l ++ l'))) c2 else .bad
          | _, _ => .bad) = .ok (fl, env') c1 := hv
        split at hv'
        · rename_i l l' el
          split at hv'
          · rename_i hz
            cases hv'
            have el0 : env[i]? = some (.o l) := by
              cases q : safe (fresh e) (.lst l') with
              | true => rw [q] at el; exact el
              | false => rw [q] at el; exact (frz_o.mp el).1
            obtain ⟨a, us, f1, f2, f3, f4, f5⟩ := s.ow i l el0
            refine tSW_of (ps_expr (pe_bm PySem.F.plainAttrs_list PySem.F.slot_list_extend PySem.F.type_list_extend mt_extend (pv' (eq_of_beq h4) h5 h6) (pa_cons peW pa_nil (star_of (ok_shape h7))) rfl (by rw [star_of (ok_shape h7)]; rfl) h3 (star_of (ok_shape h7)) rfl) rfl) ?_
            refine ⟨_, f1, .inl ⟨rfl, _, .inl (.inl f2)⟩, ?_⟩
            refine (sE T Γ n e).1 X C _ _ _ _ _ h7 e1 _ _ _ _ _ (s.er hs) (s.okH k hs) fun w H' x r rv nw => ?_
            have s1 := s.aft B x r (safe (fresh e) (.lst l')) hs (U' := U) fun a z => .inl z
            obtain ⟨a', us', g1, g2, g3, g4, g5⟩ := s1.ow i l el
            rw [f1] at g1
            cases g1
            obtain ⟨b, ws, rfl, q1, q2, q3, q4⟩ := lst_eq (s.val rv nw)
            refine ⟨a, b, us', ws, rfl, rfl, g2, q1, by rw [g5.length, q4.length, ← lineN_eq]; exact hz, ?_⟩
            exact p _ _ (s1.wr B el f1 (g5.append q4)) ((k.ext x r).wr g2 f4)
          · cases hv'
        · cases hv'
      · cases h7
  · cases ho
end
end Mn

set_option maxRecDepth 100000
set_option maxHeartbeats 4000000
namespace Mn
open PySem PySem.Spec PyProof.Rows L2

theorem sole_sub {v o k : Expr} {p : Pos} {l : Nat} {env : PySem.Env} {T : Tb} {c : Ex} {N : List Str} {sc : Scope} (h : okE T N sc c v = true) : swapsWithSole [.Subscript o k p] v l env = pure false := by
  show swapsWith v (some (.Subscript o k p)) l env = pure false
  cases c <;> (unfold okE at h; split at h <;> first | rfl | cases h)
theorem stores_sub {v o k : Expr} {p : Pos} {env : PySem.Env} : swappedStores [.Subscript o k p] v env = pure none := by
  unfold swappedStores
  cases v <;> rfl
theorem asg_sub {o i : Expr} {pos : Pos} {env : PySem.Env} (h : noSl i = true) : ∀ v, assign (.Subscript o i pos) env v = (do
      let ov ← holding [v] (eval o env)
      let iv ← holding [v, ov] (eval i env)
      standAt pos
      holding [v, ov, iv] (setItem ov iv v)
      release [v, ov, iv] []) := by
  intro v
  cases i <;> first | rfl | cases h
section
variable {T : Tb} {Γ : Gm} {n : Nat}
theorem SS.six (i : Nat) (j e : Ex) (hs : List Nat) : SS T Γ n (.six i j e hs) := by
  intro X C S st env c0 fl env' c1 ho hv kk U P σ H D B s k p
  unfold okS at ho
  split at ho
  · rename_i x px kx psub v pos
    obtain ⟨h1, h2, h3, h4, h5⟩ := and5 ho
    unfold ex1 at hv
    obtain ⟨d, c2, e1, hv⟩ := bnd_ok hv
    have hv1 : ((ev Γ (see hs (aft (safe (fresh e) d) hs env)) j c2).bnd fun k c2 => match (aft (safe (fresh e) d) hs env)[i]?, k with
        | some (.o l), .int k => (match ixN l.length k with
          | some m => R.ok (Fl.nx, (aft (safe (fresh e) d) hs env).set i (.o (l.set m d))) c2
          | none => .bad)
        | _, _ => .bad) = .ok (fl, env') c1 := hv
    obtain ⟨q, c3, e2, hv2⟩ := bnd_ok hv1
    split at hv2
    · rename_i l kq el
      split at hv2
      · rename_i m em
        cases hv2
        have el0 : env[i]? = some (.o l) := by
          cases q : safe (fresh e) d with
          | true => rw [q] at el; exact el
          | false => rw [q] at el; exact (frz_o.mp el).1
        obtain ⟨a, us, f1, f2, f3, f4, f5⟩ := s.ow i l el0
        refine tSW_of (ps_asg peW (pg_sub (pv' (eq_of_beq h1) h2 h3) peW set_list (asg_sub (ok_noslice h4))) (sole_sub h5) stores_sub) ?_
        refine (sE T Γ n e).1 X C _ _ _ _ _ h5 e1 _ _ _ _ _ (s.er hs) (s.okH k hs) fun w H1 x1 r1 rv nw => ?_
        have s1 := s.aft B x1 r1 (safe (fresh e) d) hs (U' := U) fun a z => .inl z
        have k1 := k.ext x1 r1
        refine ⟨_, f1, ?_⟩
        refine (sE T Γ n j).1 X C _ _ _ _ _ h4 e2 _ _ _ _ _ (s1.er hs) (s1.okH k1 hs) fun y H2 x2 r2 ry _ => ?_
        cases int_eq ry
        have s2 := s1.ext B x2 r2 (U' := U) fun a z => .inl z
        obtain ⟨a', us', g1, g2, g3, g4, g5⟩ := s2.ow i l el
        rw [f1] at g1
        cases g1
        refine ⟨a, us', kq, m, rfl, rfl, g2, by rw [g5.length]; exact em, ?_⟩
        exact p _ _ (s2.wr B el f1 (Rps.set ((s.val rv nw).ext x2) m g5)) ((k1.ext x2 r2).wr g2 f4)
      · cases hv2
    · cases hv2
  · cases ho
theorem SS.cup (i : Nat) (j : Int) (e : Ex) (hs : List Nat) : SS T Γ n (.cup i j e hs) := by
  intro X C S st env c0 fl env' c1 ho hv kk U P σ H D B s k p
  unfold okS at ho
  split at ho
  · rename_i x px jj q1 q2 psub v pos
    obtain ⟨h1, h2, h3, h4, h5⟩ := and5 ho
    cases of_decide_eq_true h4
    unfold ex1 at hv
    obtain ⟨d, c2, e1, hv2⟩ := bnd_ok hv
    clear hv
    split at hv2
    · rename_i m el
      obtain ⟨w0, f1, f2⟩ := s.fz i _ el
      cases f2 with
      | @cup a ha =>
        refine tSW_of (ps_asg peW (pg_sub (pv' (eq_of_beq h1) h2 h3) pe_int set_list) (sole_sub h5) stores_sub) ?_
        refine (sE T Γ n e).1 X C _ _ _ _ _ h5 e1 _ _ _ _ _ (s.er hs) (s.okH k hs) fun w H1 x1 r1 rv nw => ?_
        cases int_eq rv
        have s1 := s.ext B x1 r1 (U' := U) fun a z => .inl z
        have k1 := k.ext x1 r1
        have ha1 := r1.at_ a ha
        refine ⟨_, f1, ?_⟩
        have fin : ∀ c' : Cup, Sr X T kk U P σ env (upd H1 a (.lst [.int c'.1, .int c'.2])) ∧ Ok T kk U c' (upd H1 a (.lst [.int c'.1, .int c'.2])) := fun c' => by
          have x2 : Ext kk H1 (upd H1 a (.lst [.int c'.1, .int c'.2])) := fun b o q hc _ => by
            rw [upd_ne]
            · exact q
            · rintro rfl
              rcases hc with hc | hc
              · exact hc ha
              · rw [ha1] at q; cases q; exact hc _ rfl
          have r2 : Cr T kk c' (upd H1 a (.lst [.int c'.1, .int c'.2])) := ⟨fun b z => by
            rw [ha] at z; cases z
            exact upd_same, tabs_wr r1.tb ha1⟩
          exact ⟨s1.ext B x2 r2 fun a z => .inl z, k1.ext x2 r2⟩
        split at hv2
        · rename_i hz
          subst hz
          cases hv2
          exact ⟨a, _, 0, 0, rfl, rfl, ha1, rfl, p _ _ (fin (m, c2.2)).1 (fin (m, c2.2)).2⟩
        · split at hv2
          · rename_i hz
            subst hz
            cases hv2
            exact ⟨a, _, 1, 1, rfl, rfl, ha1, rfl, p _ _ (fin (c2.1, m)).1 (fin (c2.1, m)).2⟩
          · cases hv2
    · cases hv2
  · cases ho
/-! ### targets of a statement -/
mutual
theorem sndS {X : Cx} {kk : Option Addr} {U : Addr → Prop} {P : Hp → (Addr → Prop) → Prop} {H : Hp} {c : Cup} (nd : X.N.Nodup) (calm : X.calm = true) (st : Sto X X.env.scope) (B : Bs kk P) (r : Cr T kk c H) : ∀ (g : Tg) {tg : Expr} {d : D} {v : V} {σ : L2.St} {env env' : Env} {Q : L2.St → Hp → Prop}, okTg X.N X.env.scope g tg = true → asgS g d env = some env' →
    Sr X T kk U P σ env H → Rp X.K X.mg T kk (fun a => U a ∨ Ow σ env a) H v d → (∀ σ', Sr X T kk U P σ' env' H → (∀ a, Ow σ' env' a → Ow σ env a) → Q σ' H) → tGW X tg v σ H Q
  | .n i, tg, d, v, σ, env, env', Q, ho, ha, s, rv, q => by
    unfold okTg at ho
    split at ho
    · obtain ⟨h1, h2⟩ := and_t ho
      obtain ⟨s1, s2⟩ := st _ h2
      unfold asgS at ha
      cases ha
      refine tGW_len fun hl => tGW_of (pg_name nd (eq_of_beq h1) s1 s2) ?_
      have hi : i < σ.length := by
        rw [hl]
        exact (List.getElem?_eq_some_iff.mp (eq_of_beq h1)).1
      exact q _ (s.setF B r hi rv) fun a z => ow_setF hi z
    · cases ho
  | .t ts, tg, d, v, σ, env, env', Q, ho, ha, s, rv, q => by
    unfold okTg at ho
    split at ho
    · unfold asgS at ha
      split at ha
      · obtain ⟨a, vs, rfl, h1, r1⟩ := tup_eq rv
        obtain ⟨l1, l2⟩ := asgs_of (env := X.env) ho
        refine tGW_of (pg_tup (n := vs.length) calm pgsW ?_ l2) ⟨a, vs, rfl, h1, rfl, sndSs nd calm st B r ts ho ha s r1 q⟩
        rw [l1, r1.length]
        exact asgSs_len ts ho ha
      · cases ha
    · cases ho
theorem sndSs {X : Cx} {kk : Option Addr} {U : Addr → Prop} {P : Hp → (Addr → Prop) → Prop} {H : Hp} {c : Cup} (nd : X.N.Nodup) (calm : X.calm = true) (st : Sto X X.env.scope) (B : Bs kk P) (r : Cr T kk c H) : ∀ (ts : Tgs) {es : List Expr} {ds : List D} {vs : List V} {σ : L2.St} {env env' : Env} {Q : L2.St → Hp → Prop}, okTgs X.N X.env.scope ts es = true → asgSs ts ds env = some env' →
    Sr X T kk U P σ env H → Rps X.K X.mg T kk (fun a => U a ∨ Ow σ env a) H vs ds → (∀ σ', Sr X T kk U P σ' env' H → (∀ a, Ow σ' env' a → Ow σ env a) → Q σ' H) → tGsW X es vs σ H Q
  | .nil, es, ds, vs, σ, env, env', Q, ho, ha, s, rv, q => by
    cases es with
    | cons _ _ => cases ho
    | nil =>
      cases ds with
      | cons _ _ => cases ha
      | nil =>
        cases ha
        cases rv
        exact tGsW_of pgs_nil ⟨rfl, q _ s fun a z => z⟩
  | .cons t ts, es, ds, vs, σ, env, env', Q, ho, ha, s, rv, q => by
    cases es with
    | nil => cases ho
    | cons e es =>
      have h' := and_t (show (okTg X.N X.env.scope t e && okTgs X.N X.env.scope ts es) = true from ho)
      cases ds with
      | nil => cases ha
      | cons d ds =>
        unfold asgSs at ha
        cases rv with
        | cons r1 r2 =>
          dsimp only at ha
          split at ha
          · rename_i env1 e1
            exact tGsW_of (pgs_cons pgW pgsW (asgEach_of (ok_notStar h'.1))) ⟨_, _, rfl, sndS nd calm st B r t h'.1 e1 s r1 fun σ1 s1 w1 => sndSs nd calm st B r ts h'.2 ha s1 (r2.mono (Ext.refl H) fun a z => .inl (z.imp id (w1 a))) fun σ2 s2 w2 => q _ s2 fun a z => w1 a (w2 a z)⟩
          · cases ha
theorem asgSs_len {X : Cx} : ∀ (ts : Tgs) {es : List Expr} {ds : List D} {ρ ρ' : Env}, okTgs X.N X.env.scope ts es = true → asgSs ts ds ρ = some ρ' → es.length = ds.length
  | .nil, es, ds, ρ, ρ', ho, ha => by
    cases es with
    | cons _ _ => cases ho
    | nil =>
      cases ds with
      | cons _ _ => cases ha
      | nil => rfl
  | .cons t ts, es, ds, ρ, ρ', ho, ha => by
    cases es with
    | nil => cases ho
    | cons e es =>
      have h' := and_t (show (okTg X.N X.env.scope t e && okTgs X.N X.env.scope ts es) = true from ho)
      cases ds with
      | nil => cases ha
      | cons d ds =>
        unfold asgSs at ha
        dsimp only at ha
        split at ha
        · simp [asgSs_len ts h'.2 ha]
        · cases ha
end
theorem stores_tup {ts : List Expr} {k : Nat} {p : Pos} {v : Expr} {env : PySem.Env} (h : isTup v = false) : swappedStores [.Tuple ts k p] v env = pure none := by
  unfold swappedStores
  cases v <;> first | rfl | cases h
theorem sole_tup {v : Expr} {ts : List Expr} {k : Nat} {p : Pos} {l : Nat} {env : PySem.Env} {c : Ex} {N : List Str} {sc : Scope} (h : okE T N sc c v = true) : swapsWithSole [.Tuple ts k p] v l env = pure false := by
  show swapsWith v (some (.Tuple ts k p)) l env = pure false
  cases c <;> (unfold okE at h; split at h <;> first | rfl | cases h)
theorem safe_nl {d : D} (h : safe false d = true) : d.nl = true := by
  cases d with
  | lst l => cases h
  | _ => exact h
theorem SS.tas (g : Tg) (e : Ex) (hs : List Nat) : SS T Γ n (.tas g e hs) := by
  intro X C S st env c0 fl env' c1 ho hv kk U P σ H D B s k p
  unfold okS at ho
  split at ho
  · rename_i ts tk tp v pos
    obtain ⟨h1, h2, h3⟩ := and3 ho
    unfold ex1 at hv
    obtain ⟨d, c2, e1, hv⟩ := bnd_ok hv
    obtain ⟨env1, c3, e2, hv⟩ := bnd_ok hv
    cases hv
    obtain ⟨e3, e4⟩ := opt_ok e2
    subst e4
    refine tSW_of (ps_asg peW pgW (sole_tup h2) (stores_tup (by simpa using h3))) ((sE T Γ n e).1 X C _ _ _ _ _ h2 e1 _ _ _ _ _ (s.er hs) (s.okH k hs) fun v H' x r rv nw => ?_)
    have s1 := s.aft B x r (safe false d) hs (U' := U) fun a z => .inl z
    have rv1 : Rp X.K X.mg T kk (fun a => U a ∨ Ow σ (aft (safe false d) hs env) a) H' v d := by
      cases q : safe false d with
      | true => exact rv.free (safe_nl q)
      | false => exact rv.mono (Ext.refl H') fun a z => .inl (ow_frz.mp z)
    exact sndS C.nd C.calm S.sto B r g h1 e3 s1 rv1 fun σ' s' _ => p _ _ s' (k.ext x r)
  · cases ho
end
end Mn

set_option maxRecDepth 100000
set_option maxHeartbeats 4000000
namespace Mn
open PySem PySem.Spec PyProof.Rows L2

/-! ### values in a row, on their way to names -/
inductive Hd (K : PySem.W.Frag) (mg : Str → Option Value) (T : Tb) (kk : Option Addr) (Z : Addr → Prop) (H : Hp) : List Addr → List Bool → List V → List D → Prop
  | nil : Hd K mg T kk Z H [] [] [] []
  | old {as : List Addr} {fr : Bool} {frs : List Bool} {v : V} {vs : List V} {d : D} {ds : List D} : (fr = true → ∀ l, d ≠ .lst l) → Rp K mg T kk Z H v d → Hd K mg T kk Z H as frs vs ds → Hd K mg T kk Z H as (fr :: frs) (v :: vs) (d :: ds)
  | new {a : Addr} {as : List Addr} {frs : List Bool} {ws : List V} {l : List D} {vs : List V} {ds : List D} : H a = some (.lst ws) → kk ≠ some a → Rps K mg T kk Z H ws l → Hd K mg T kk Z H as frs vs ds → Hd K mg T kk Z H (a :: as) (true :: frs) (.ref a :: vs) (.lst l :: ds)
theorem Hd.mono {K : PySem.W.Frag} {mg : Str → Option Value} {T : Tb} {kk : Option Addr} {Z Z' : Addr → Prop} {H H' : Hp} (x : Ext kk H H') (o : ∀ a, Z' a → Z a ∨ ¬ Oc H a) {as : List Addr} {frs : List Bool} {vs : List V} {ds : List D} (h : Hd K mg T kk Z H as frs vs ds) : Hd K mg T kk Z' H' as frs vs ds := by
  induction h with
  | nil => exact .nil
  | old h1 h2 _ ih => exact .old h1 (h2.mono x o) ih
  | new h1 h2 h3 _ ih => exact .new (x.lst h1 h2) h2 (h3.mono x o) ih
theorem Hd.safe {K : PySem.W.Frag} {mg : Str → Option Value} {T : Tb} {kk : Option Addr} {Z Z' : Addr → Prop} {H : Hp} {as : List Addr} {frs : List Bool} {vs : List V} {ds : List D} (h : Hd K mg T kk Z H as frs vs ds) (q : safes frs ds = true) : Hd K mg T kk Z' H as frs vs ds := by
  induction h with
  | nil => exact .nil
  | @old as fr frs v vs d ds h1 h2 _ ih =>
    obtain ⟨q1, q2⟩ := and_t (show (Mn.safe fr d && safes frs ds) = true from q)
    refine .old h1 (h2.free ?_) (ih q2)
    cases d with
    | lst l =>
      cases fr with
      | true => exact absurd rfl (h1 rfl l)
      | false => cases q1
    | _ => exact q1
  | @new a as frs ws l vs ds h1 h2 h3 _ ih =>
    obtain ⟨q1, q2⟩ := and_t (show (Mn.safe true (.lst l) && safes frs ds) = true from q)
    exact .new h1 h2 (Rps.free (and_t (show (true && D.nls l) = true from q1)).2 h3) (ih q2)
theorem Hd.len {K : PySem.W.Frag} {mg : Str → Option Value} {T : Tb} {kk : Option Addr} {Z : Addr → Prop} {H : Hp} {as : List Addr} {frs : List Bool} {vs : List V} {ds : List D} (h : Hd K mg T kk Z H as frs vs ds) : vs.length = ds.length := by
  induction h with
  | nil => rfl
  | old _ _ _ ih => simp [ih]
  | new _ _ _ _ ih => simp [ih]
section
variable {T : Tb} {Γ : Gm} {n : Nat}
theorem sH : ∀ (es : Exs) {X : Cx}, Cn T Γ n X → ∀ {vs : List Expr} {ρ : Rho} {c0 : Cup} {ds : List D} {c1 : Cup}, okEs T X.N X.env.scope es vs = true → evs Γ ρ es c0 = .ok ds c1 →
  ∀ {kk : Option Addr} {O : Addr → Prop} {σ : L2.St} {H : Hp} {Q : List V → Hp → Prop}, Er X T kk O σ ρ H → Ok T kk O c0 H →
    (∀ us H' as, Ext kk H H' → Cr T kk c1 H' → as.Nodup → (∀ a ∈ as, ¬ Oc H a) → Hd X.K X.mg T kk (fun b => O b ∨ b ∈ as) H' as (freshs es) us ds → Q us H') → tAW X vs σ H Q
  | .nil, X, C, vs, ρ, c0, ds, c1, ho, hv, kk, O, σ, H, Q, er, k, p => by
    cases vs with
    | nil =>
      cases hv
      exact tAW_of pa_nil (p _ _ [] (Ext.refl H) k.cr .nil (fun a z => by simp at z) .nil)
    | cons v r => cases ho
  | .cons e es, X, C, vs, ρ, c0, ds, c1, ho, hv, kk, O, σ, H, Q, er, k, p => by
    cases vs with
    | nil => cases ho
    | cons v r =>
      obtain ⟨h1, h2⟩ := and_t (show (okE T X.N X.env.scope e v && okEs T X.N X.env.scope es r) = true from ho)
      unfold evs at hv
      obtain ⟨x, c2, e1, hv⟩ := bnd_ok hv
      obtain ⟨y, c3, e2, hv⟩ := bnd_ok hv
      cases hv
      refine tAW_of (pa_cons peW paW (star_of (ok_shape h1))) ((sE T Γ n e).1 X C _ _ _ _ _ h1 e1 _ _ _ _ _ er k fun v H1 x1 r1 rx nw => ?_)
      by_cases q : fresh e = true ∧ ∃ l, x = .lst l
      · obtain ⟨q1, l, rfl⟩ := q
        obtain ⟨a, ws, rfl, g1, g2, g3, g4⟩ := nw q1 l rfl
        refine sH es C h2 e2 (O := fun b => O b ∨ b = a) (er.mono x1 fun b z => z.imp id fun (w : b = a) => by rw [w]; exact g1)
          ⟨r1, fun b z => z.elim (fun z => x1.there r1 (k.od b z)) (fun (w : b = a) => by rw [w]; exact .lst g2), fun b z => z.elim (k.ok b) (fun (w : b = a) => by rw [w]; exact g3)⟩ fun us H2 as x2 r2 nd ha hd => ?_
        have na : a ∉ as := fun z => ha a z (.lst g2)
        have h0 : ∀ b ∈ as, ¬ Oc H b := fun b z q => ha b z (x1.there r1 q)
        refine p (.ref a :: us) H2 (a :: as) (x1.trans x2) r2 (List.nodup_cons.mpr ⟨na, nd⟩) (fun b z => (List.mem_cons.mp z).elim (fun w => by rw [w]; exact g1) (h0 b)) ?_
        rw [freshs, q1]
        refine .new (x2.lst g2 g3) g3 (g4.mono x2 fun b z => ?_) (hd.mono (Ext.refl H2) fun b z => .inl ?_)
        · rcases z with z | z
          · exact .inl (.inl z)
          · rcases List.mem_cons.mp z with z | z
            · exact .inl (.inr z)
            · exact .inr (ha b z)
        · rcases z with z | z
          · exact .inl (.inl z)
          · rcases List.mem_cons.mp z with z | z
            · exact .inl (.inr z)
            · exact .inr z
      · refine sH es C h2 e2 (er.ext x1) (k.ext x1 r1) fun us H2 as x2 r2 nd ha hd => ?_
        have h0 : ∀ b ∈ as, ¬ Oc H b := fun b z q => ha b z (x1.there r1 q)
        refine p (v :: us) H2 as (x1.trans x2) r2 nd h0 ?_
        rw [freshs]
        exact .old (fun z l w => q ⟨z, l, w⟩) (rx.mono x2 fun b z => z.imp id (ha b)) hd
def setAll : L2.St → List Nat → List V → L2.St
  | σ, i :: is, v :: vs => setAll (σ.set i (some v)) is vs
  | σ, _, _ => σ
/-- .. and there -/
theorem parE_snd {X : Cx} {kk : Option Addr} {U : Addr → Prop} {P : Hp → (Addr → Prop) → Prop} {G H : Hp} {W0 : Addr → Prop} {c : Cup} (B : Bs kk P) (r : Cr T kk c H) (pr : P G W0) (x : Ext kk G H) (hU : ∀ a, U a → Oc G a) {Z : Addr → Prop} {as : List Addr} {frs : List Bool} {vs : List V} {ds : List D} (h : Hd X.K X.mg T kk Z H as frs vs ds) :
    ∀ {is : List Nat} {σ : L2.St} {env env' : Env}, parE frs is ds env = some env' → as.Nodup → Sr X T kk (fun b => U b ∨ b ∈ as) P σ env H → (∀ b, ((U b ∨ b ∈ as) ∨ Ow σ env b) → Z b) → (∀ a, Ow σ env a → W0 a ∨ ¬ Oc G a) → (∀ a ∈ as, ¬ Oc G a) → (∀ i ∈ is, i < σ.length) →
      Sr X T kk U P (setAll σ is vs) env' H ∧ is.length = vs.length := by
  induction h with
  | nil =>
    intro is σ env env' he nd s hZ hW ha hi
    cases is with
    | cons _ _ => cases he
    | nil =>
      cases he
      exact ⟨s.less fun a z => .inl z, rfl⟩
  | @old as fr frs v vs d ds h1 h2 _ ih =>
    intro is σ env env' he nd s hZ hW ha hi
    cases is with
    | nil => cases he
    | cons i is =>
      have e : newSl fr d = .f d := by
        cases d with
        | lst l =>
          cases fr with
          | true => exact absurd rfl (h1 rfl l)
          | false => rfl
        | _ => rfl
      have he' : parE frs is ds (env.set i (.f d)) = some env' := by rw [← e]; exact he
      have i1 : i < σ.length := hi i (by simp)
      obtain ⟨q1, q2⟩ := ih he' nd (s.setF B r i1 (h2.mono (Ext.refl H) fun a z => .inl (hZ a z))) (fun b z => hZ b (z.imp id (ow_setF i1))) (fun a z => hW a (ow_setF i1 z)) ha (fun j hj => by rw [List.length_set]; exact hi j (by simp [hj]))
      exact ⟨q1, by simp [q2]⟩
  | @new a as frs ws l vs ds h1 h2 h3 _ ih =>
    intro is σ env env' he nd s hZ hW ha hi
    cases is with
    | nil => cases he
    | cons i is =>
      have he' : parE frs is ds (env.set i (.o l)) = some env' := he
      have i1 : i < σ.length := hi i (by simp)
      obtain ⟨n1, n2⟩ := List.nodup_cons.mp nd
      have ga : ¬ Oc G a := ha a (by simp)
      have hW' : ∀ b, Ow (σ.set i (some (.ref a))) (env.set i (.o l)) b → W0 b ∨ ¬ Oc G b := fun b z => (ow_setO i1 z).elim (hW b) fun w => .inr (by rw [w]; exact ga)
      have s1 := s.setO B (i := i) (l := l) i1 (.inr (by simp)) h1 h2 (h3.mono (Ext.refl H) fun b z => .inl (hZ b z)) (B.ext _ _ _ _ pr x (fun b z => .lst (r.at_ b z)) hW')
      have s2 : Sr X T kk (fun b => U b ∨ b ∈ as) P (σ.set i (some (.ref a))) (env.set i (.o l)) H := s1.less fun b z => z.elim (fun z => ⟨.inl z, fun (w : b = a) => ga (by rw [← w]; exact hU b z)⟩) fun z => ⟨.inr (by simp [z]), fun w => n1 (by rw [← w]; exact z)⟩
      obtain ⟨q1, q2⟩ := ih he' n2 s2 (fun b z => z.elim (fun z => hZ b (.inl (z.imp id fun z => by simp [z]))) fun z => (ow_setO i1 z).elim (fun z => hZ b (.inr z)) fun w => hZ b (.inl (.inr (by simp [w])))) hW' (fun b z => ha b (by simp [z])) (fun j hj => by rw [List.length_set]; exact hi j (by simp [hj]))
      exact ⟨q1, by simp [q2]⟩
theorem esLen : ∀ {N : List Str} {sc : Scope} {es : Exs} {vs : List Expr}, okEs T N sc es vs = true → vs.length = es.len
  | _, _, .nil, vs, h => by
    cases vs with
    | nil => rfl
    | cons v r => cases h
  | _, _, .cons c es, vs, h => by
    cases vs with
    | nil => cases h
    | cons v r =>
      have h' := and_t (show (okE T _ _ c v && okEs T _ _ es r) = true from h)
      simp [Exs.len, esLen h'.2]
theorem sw2 {x y : Str} {px py pt pv : Pos} {k k2 : Nat} {a b : Expr} {env : PySem.Env} (hk : env.scope.kind = .function) (h : parB env.scope [.Name x px, .Name y py] [a, b] = true) (ha : shapeB a = true) (hb' : shapeB b = true) :
    swappedStores [.Tuple [.Name x px, .Name y py] k pt] (.Tuple [a, b] k2 pv) env = pure (some [x, y]) := by
  obtain ⟨h1, h2, h3, h4, h5⟩ := and5 (show (_ && (_ && (_ && (_ && _)))) = true from h)
  obtain ⟨h6, h7⟩ := and_t h5
  have e1 : env.kindOf x = some .local := of_decide_eq_true h1
  have e2 : env.kindOf y = some .local := of_decide_eq_true h2
  have hb : env.blockKind = .function := by unfold Env.blockKind; rw [hk]; rfl
  have e3 : py.line = px.line := (eq_of_beq h3).symm
  have e4 : (x == y) = false := by simpa using h4
  have e5 : (y == x) = false := by
    rw [beq_eq_false_iff_ne] at e4 ⊢
    exact fun z => e4 z.symm
  have h6' : ¬ (foldedForSure 8 a = true ∧ foldedForSure 8 b = true) := fun ⟨q1, q2⟩ => by simp [q1, q2] at h6
  have h7' : ¬ (constantsAlone 8 a = true ∧ constantsAlone 8 b = true) := fun ⟨q1, q2⟩ => by simp [q1, q2] at h7
  unfold swappedStores
  simp [hb, e1, e2, e3, Expr.pos, List.eraseDups_cons, e5]
  rw [if_neg, if_neg h6', if_neg h7']
  rintro (q | q)
  · cases a <;> first | (cases q; done) | (cases ha; done)
  · cases b <;> first | (cases q; done) | (cases hb'; done)
theorem sw3 {x y z : Str} {px py pz pt pv : Pos} {k k2 : Nat} {a b c : Expr} {env : PySem.Env} (hk : env.scope.kind = .function) (h : parB env.scope [.Name x px, .Name y py, .Name z pz] [a, b, c] = true) (ha : shapeB a = true) (hb' : shapeB b = true) (hc : shapeB c = true) :
    swappedStores [.Tuple [.Name x px, .Name y py, .Name z pz] k pt] (.Tuple [a, b, c] k2 pv) env = pure (some [x, y, z]) := by
  obtain ⟨h1, h2, h2', h3, h3', h4, h9⟩ := and7 (show (_ && (_ && (_ && (_ && (_ && (_ && _)))))) = true from h)
  obtain ⟨h4', h4'', h5⟩ := and3 h9
  obtain ⟨h6, h7⟩ := and_t h5
  have e1 : env.kindOf x = some .local := of_decide_eq_true h1
  have e2 : env.kindOf y = some .local := of_decide_eq_true h2
  have e2' : env.kindOf z = some .local := of_decide_eq_true h2'
  have hb : env.blockKind = .function := by unfold Env.blockKind; rw [hk]; rfl
  have e3 : py.line = px.line := (eq_of_beq h3).symm
  have e3' : pz.line = px.line := (eq_of_beq h3').symm
  have flip : ∀ {x y : Str}, (!(x == y)) = true → (y == x) = false := fun {x y} q => by
    have q' : (x == y) = false := by simpa using q
    rw [beq_eq_false_iff_ne] at q' ⊢
    exact fun z => q' z.symm
  have e5 := flip h4
  have e6 := flip h4'
  have e7 := flip h4''
  have h6' : ¬ (foldedForSure 8 a = true ∧ foldedForSure 8 b = true ∧ foldedForSure 8 c = true) := fun ⟨q1, q2, q3⟩ => by simp [q1, q2, q3] at h6
  have h7' : ¬ (constantsAlone 8 a = true ∧ constantsAlone 8 b = true ∧ constantsAlone 8 c = true) := fun ⟨q1, q2, q3⟩ => by simp [q1, q2, q3] at h7
  unfold swappedStores
  simp [hb, e1, e2, e2', e3, e3', Expr.pos, List.eraseDups_cons, e5, e6, e7]
  rw [if_neg, if_neg h6', if_neg h7']
  rintro (q | q | q)
  · cases a <;> first | (cases q; done) | (cases ha; done)
  · cases b <;> first | (cases q; done) | (cases hb'; done)
  · cases c <;> first | (cases q; done) | (cases hc; done)
theorem swN {ts vs : List Expr} {k k2 : Nat} {pt pv : Pos} {env : PySem.Env} (h : unparB env.scope ts vs = true) : swappedStores [.Tuple ts k pt] (.Tuple vs k2 pv) env = pure none := by
  unfold unparB at h
  split at h
  · rename_i x px y py
    unfold swappedStores
    simp [Expr.pos]
    intro _ _ _ hlen _ w hw hf
    exfalso
    rw [Bool.or_eq_true, Bool.or_eq_true, Bool.or_eq_true] at h
    rcases h with h | h | h | h
    · have q : env.kindOf x ≠ some .local := of_decide_eq_true h
      simp [List.filterMap_cons, q] at hlen
      split at hlen <;> simp at hlen
    · have q : env.kindOf y ≠ some .local := of_decide_eq_true h
      simp [List.filterMap_cons, q] at hlen
      split at hlen <;> simp at hlen
    · have q : ¬ py.line = px.line := fun z => by rw [z] at h; simp at h
      simp [List.filterMap_cons, q] at hlen
      split at hlen <;> simp at hlen
    · rw [List.all_eq_true.mp h w hw] at hf; cases hf
  · rename_i x px y py z pz
    unfold swappedStores
    simp [Expr.pos]
    intro _ _ _ hlen _ w hw hf
    exfalso
    have le : ∀ (p : Expr → Option Str) (l : List Expr), (l.filterMap p).length ≤ l.length := fun p l => List.length_filterMap_le p l
    rw [Bool.or_eq_true, Bool.or_eq_true, Bool.or_eq_true] at h
    rcases h with h | h | h | h
    · have q : env.kindOf x ≠ some .local := of_decide_eq_true h
      simp [List.filterMap_cons, q] at hlen
      split at hlen <;> split at hlen <;> simp at hlen
    · have q : env.kindOf y ≠ some .local := of_decide_eq_true h
      simp [List.filterMap_cons, q] at hlen
      split at hlen <;> split at hlen <;> simp at hlen
    · have q : env.kindOf z ≠ some .local := of_decide_eq_true h
      simp [List.filterMap_cons, q] at hlen
      split at hlen <;> split at hlen <;> simp at hlen
    · rw [List.all_eq_true.mp h w hw] at hf; cases hf
  · unfold swappedStores
    simp
  · unfold swappedStores
    simp
  · unfold swappedStores
    simp
  · cases h
end
end Mn

set_option maxRecDepth 100000
set_option maxHeartbeats 4000000
namespace Mn
open PySem PySem.Spec PyProof.Rows L2
section
variable {T : Tb} {Γ : Gm} {n : Nat}
theorem tgOf_cons {N : List Str} {sc : Scope} {i : Nat} {is : List Nat} {ts : List Expr} (h : okTgs N sc (tgOf (i :: is)) ts = true) : ∃ x p r, ts = .Name x p :: r ∧ N[i]? = some x ∧ locB sc x = true ∧ okTgs N sc (tgOf is) r = true := by
  cases ts with
  | nil => cases h
  | cons t r =>
    have h' := and_t (show (okTg N sc (.n i) t && okTgs N sc (tgOf is) r) = true from h)
    have h1 := h'.1
    unfold okTg at h1
    split at h1
    · obtain ⟨g1, g2⟩ := and_t h1
      exact ⟨_, _, _, rfl, eq_of_beq g1, g2, h'.2⟩
    · cases h1
theorem tgOf_nil {N : List Str} {sc : Scope} {ts : List Expr} (h : okTgs N sc (tgOf []) ts = true) : ts = [] := by
  cases ts with
  | nil => rfl
  | cons t r => cases h
theorem names_store {X : Cx} (C : Cn T Γ n X) (S : Cs X) : ∀ {is : List Nat} {ts : List Expr} {us : List V} {σ : L2.St} {H : Hp} {Q : L2.St → Hp → Prop}, okTgs X.N X.env.scope (tgOf is) ts = true → is.length = us.length → Q (setAll σ is us) H → tGsW X ts us σ H Q
  | [], ts, us, σ, H, Q, h, hl, q => by
    cases tgOf_nil h
    cases us with
    | nil => exact tGsW_of pgs_nil ⟨rfl, q⟩
    | cons _ _ => cases hl
  | i :: is, ts, us, σ, H, Q, h, hl, q => by
    obtain ⟨x, p, r, rfl, h1, h2, h3⟩ := tgOf_cons h
    cases us with
    | nil => cases hl
    | cons u us =>
      obtain ⟨s1, s2⟩ := S.sto x h2
      exact tGsW_of (pgs_cons (pg_name C.nd h1 s1 s2) pgsW rfl) ⟨_, _, rfl, names_store C S h3 (by simpa using hl) q⟩
theorem tgOf_lt {X : Cx} : ∀ {is : List Nat} {ts : List Expr}, okTgs X.N X.env.scope (tgOf is) ts = true → ∀ i ∈ is, i < X.N.length
  | [], ts, h, i, hi => by simp at hi
  | j :: is, ts, h, i, hi => by
    obtain ⟨x, p, r, rfl, h1, h2, h3⟩ := tgOf_cons h
    rcases List.mem_cons.mp hi with rfl | hi
    · exact (List.getElem?_eq_some_iff.mp h1).1
    · exact tgOf_lt h3 i hi
theorem SS.par (is : List Nat) (es : Exs) (hs : List Nat) : SS T Γ n (.par is es hs) := by
  intro X C S st env c0 fl env' c1 ho hv kk U P σ H D B s k p
  unfold okS at ho
  split at ho
  · rename_i ts tk tp vs vk vp pos
    obtain ⟨h1, h2, h3, h4, h5⟩ := and5 ho
    have h3' := of_decide_eq_true h3
    have h4' := of_decide_eq_true h4
    unfold ex1 at hv
    obtain ⟨ds, c2, e1, hv1⟩ := bnd_ok hv
    obtain ⟨env1, c3, e2, hv2⟩ := bnd_ok hv1
    cases hv2
    obtain ⟨e3, e4⟩ := opt_ok e2
    subst e4
    clear hv hv1 e2
    refine tSW_len fun hl => ?_
    have hlt : ∀ i ∈ is, i < σ.length := fun i hi => by rw [hl]; exact tgOf_lt h1 i hi
    have core : tAW X vs σ H fun us H' => Sr X T kk U P (setAll σ is us) env' H' ∧ is.length = us.length ∧ Ext kk H H' ∧ Cr T kk c1 H' := by
      refine sH es C h2 e1 (s.er hs) (s.okH k hs) fun us H' as x r nd ha hd => ?_
      have s1 : Sr X T kk (fun b => U b ∨ b ∈ as) P σ (aft (safes (freshs es) ds) hs env) H' := s.aft B x r _ hs fun b (z : U b ∨ b ∈ as) => z.imp id (ha b)
      have hd' : Hd X.K X.mg T kk (fun b => (U b ∨ b ∈ as) ∨ Ow σ (aft (safes (freshs es) ds) hs env) b) H' as (freshs es) us ds := by
        cases q : safes (freshs es) ds with
        | true => exact hd.safe q
        | false =>
          refine hd.mono (Ext.refl H') fun b z => .inl ?_
          rcases z with (z | z) | z
          · exact .inl (.inl z)
          · exact .inr z
          · exact .inl (ow_frz.mp (.inr z))
      obtain ⟨q1, q2⟩ := parE_snd B r s.pr x k.od hd' e3 nd s1 (fun b z => z) (fun a z => .inl (ow_aft z)) ha hlt
      exact ⟨q1, q2, x, r⟩
    have wk : ∀ (Q : List V → Hp → Prop), (∀ us H', Sr X T kk U P (setAll σ is us) env' H' → is.length = us.length → Ext kk H H' → Cr T kk c1 H' → Q us H') → tAW X vs σ H Q := fun Q q pos pins s0 I => thn (core pos pins s0 I) fun us s' ⟨vv, H', I', r, q1, q2, q3, q4⟩ => ⟨vv, H', I', r, q _ _ q1 q2 q3 q4⟩
    by_cases hp : parB X.env.scope ts vs = true
    · have hp0 := hp
      have hvl : vs.length = is.length := (esLen h2).trans h4'
      unfold parB at hp
      split at hp
      · rename_i x px y py
        match is, h1, hvl, hlt, wk with
        | [i, j], h1, hvl, hlt, wk =>
          obtain ⟨x', p', r', e1', n1, l1, h1'⟩ := tgOf_cons h1
          cases e1'
          obtain ⟨y', p', r', e1', n2, l2, h1''⟩ := tgOf_cons h1'
          cases e1'
          obtain ⟨a1, a2, a3, a4, a5⟩ := and5 hp
          have hxy : x ≠ y := by intro z; rw [z] at a4; simp at a4
          have hij : i ≠ j := fun z => hxy (by rw [z, n2] at n1; exact (Option.some.inj n1).symm)
          match vs, h2, hvl, hp0, wk with
          | [a, b], h2, hvl, hp0, wk =>
            match es, h2 with
            | .cons ea (.cons eb .nil), h2 =>
              obtain ⟨o1, o2⟩ := and_t (show (okE T _ _ ea a && okEs T _ _ (.cons eb .nil) [b]) = true from h2)
              obtain ⟨o3, o4⟩ := and_t (show (okE T _ _ eb b && okEs T _ _ .nil []) = true from o2)
              refine tSW_of (ps_par C.calm C.nd n1 n2 hij (of_decide_eq_true a1) (of_decide_eq_true a2) paW (sw2 S.kind hp0 (ok_shape o1) (ok_shape o3))) (wk _ fun us H' q1 q2 q3 q4 => ?_)
              match us, q2, q1 with
              | [u, w], q2, q1 => exact ⟨u, w, rfl, p _ _ q1 (k.ext q3 q4)⟩
            | .cons ea (.cons eb (.cons _ _)), h2 => exact absurd (and_t (and_t h2).2).2 Bool.false_ne_true
            | .cons ea .nil, h2 => exact absurd (and_t h2).2 Bool.false_ne_true
            | .nil, h2 => cases h2
        | [], h1, _, _, _ => cases tgOf_nil h1
        | [i], h1, _, _, _ =>
          obtain ⟨x', p', r', e1', n1, l1, h1'⟩ := tgOf_cons h1
          cases e1'
          cases tgOf_nil h1'
        | i :: j :: m :: r, h1, _, _, _ =>
          obtain ⟨x', p', r', e1', n1, l1, h1'⟩ := tgOf_cons h1
          cases e1'
          obtain ⟨y', p', r', e1', n2, l2, h1''⟩ := tgOf_cons h1'
          cases e1'
          obtain ⟨z', p', r', e1', _⟩ := tgOf_cons h1''
          cases e1'
      · rename_i x px y py z pz
        match is, h1, hvl, hlt, wk with
        | [i, j, m], h1, hvl, hlt, wk =>
          obtain ⟨x', p', r', e1', n1, l1, h1'⟩ := tgOf_cons h1
          cases e1'
          obtain ⟨y', p', r', e1', n2, l2, h1''⟩ := tgOf_cons h1'
          cases e1'
          obtain ⟨z', p', r', e1', n3, l3, h1'''⟩ := tgOf_cons h1''
          cases e1'
          obtain ⟨a1, a2, a3, a4, a5, a6, a7⟩ := and7 hp
          obtain ⟨a8, a9, a10⟩ := and3 a7
          have hxy : x ≠ y := by intro z; rw [z] at a6; simp at a6
          have hxz : x ≠ z := by intro z; rw [z] at a8; simp at a8
          have hyz : y ≠ z := by intro z; rw [z] at a9; simp at a9
          have hij : i ≠ j := fun z => hxy (by rw [z, n2] at n1; exact (Option.some.inj n1).symm)
          have him : i ≠ m := fun z => hxz (by rw [z, n3] at n1; exact (Option.some.inj n1).symm)
          have hjm : j ≠ m := fun z => hyz (by rw [z, n3] at n2; exact (Option.some.inj n2).symm)
          match vs, h2, hvl, hp0, wk with
          | [a, b, c], h2, hvl, hp0, wk =>
            match es, h2 with
            | .cons ea (.cons eb (.cons ec .nil)), h2 =>
              obtain ⟨o1, o2⟩ := and_t (show (okE T _ _ ea a && okEs T _ _ (.cons eb (.cons ec .nil)) [b, c]) = true from h2)
              obtain ⟨o3, o4⟩ := and_t (show (okE T _ _ eb b && okEs T _ _ (.cons ec .nil) [c]) = true from o2)
              obtain ⟨o5, o6⟩ := and_t (show (okE T _ _ ec c && okEs T _ _ .nil []) = true from o4)
              refine tSW_of (ps_par3 C.calm C.nd n1 n2 n3 hij him hjm (of_decide_eq_true a1) (of_decide_eq_true a2) (of_decide_eq_true a3) paW (sw3 S.kind hp0 (ok_shape o1) (ok_shape o3) (ok_shape o5))) (wk _ fun us H' q1 q2 q3 q4 => ?_)
              match us, q2, q1 with
              | [u, v, w], q2, q1 => exact ⟨u, v, w, rfl, p _ _ q1 (k.ext q3 q4)⟩
            | .cons ea (.cons eb (.cons _ (.cons _ _))), h2 => exact absurd (and_t (and_t (and_t h2).2).2).2 Bool.false_ne_true
            | .cons ea (.cons eb .nil), h2 => exact absurd (and_t (and_t h2).2).2 Bool.false_ne_true
            | .cons ea .nil, h2 => exact absurd (and_t h2).2 Bool.false_ne_true
            | .nil, h2 => cases h2
        | [], h1, _, _, _ => cases tgOf_nil h1
        | [i], h1, _, _, _ =>
          obtain ⟨x', p', r', e1', n1, l1, h1'⟩ := tgOf_cons h1
          cases e1'
          cases tgOf_nil h1'
        | [i, j], h1, _, _, _ =>
          obtain ⟨x', p', r', e1', n1, l1, h1'⟩ := tgOf_cons h1
          cases e1'
          obtain ⟨y', p', r', e1', n2, l2, h1''⟩ := tgOf_cons h1'
          cases e1'
          cases tgOf_nil h1''
        | i :: j :: m :: l :: r, h1, _, _, _ =>
          obtain ⟨x', p', r', e1', n1, l1, h1'⟩ := tgOf_cons h1
          cases e1'
          obtain ⟨y', p', r', e1', n2, l2, h1''⟩ := tgOf_cons h1'
          cases e1'
          obtain ⟨z', p', r', e1', n3, l3, h1'''⟩ := tgOf_cons h1''
          cases e1'
          obtain ⟨z', p', r', e1', _⟩ := tgOf_cons h1'''
          cases e1'
      · cases hp
    · have hu : unparB X.env.scope ts vs = true := by
        rcases Bool.or_eq_true_iff.mp h5 with h5 | h5
        · exact absurd h5 hp
        · exact h5
      obtain ⟨l1, l2⟩ := asgs_of (env := X.env) h1
      refine tSW_of (ps_asg (pe_tup paW) (pg_tup (n := is.length) C.calm pgsW ?_ l2) rfl (swN hu)) (wk _ fun us H' q1 q2 q3 q4 => ⟨?_, fun q hq => ?_⟩)
      · rw [l1]
        have : ∀ {is : List Nat} {ts : List Expr}, okTgs X.N X.env.scope (tgOf is) ts = true → ts.length = is.length := by
          intro is
          induction is with
          | nil => intro ts h; rw [tgOf_nil h]; rfl
          | cons i is ih =>
            intro ts h
            obtain ⟨x, p, r, rfl, _, _, h3⟩ := tgOf_cons h
            simp [ih h3]
        exact this h1
      · rw [← q2, ← h4', sizeLine_eq]; omega
      · refine ⟨q, us, rfl, .of upd_same, q2.symm, names_store C S h1 q2 (p _ _ (q1.ext B (Ext.new hq) (q4.new hq) fun a z => .inl z) ((k.ext q3 q4).ext (Ext.new hq) (q4.new hq)))⟩
  · cases ho
theorem forL_cons {f : D → Env → Cup → R (Fl × Env)} {x : D} {xs : List D} {env : Env} {c : Cup} {r : Fl × Env} {c' : Cup} (h : forL f (x :: xs) env c = .ok r c') :
    ∃ fl env1 c1, f x env c = .ok (fl, env1) c1 ∧ (((fl = .nx ∨ fl = .ct) ∧ forL f xs env1 c1 = .ok r c') ∨ (fl = .bk ∧ r = (.nx, env1) ∧ c' = c1) ∨ ∃ d, fl = .ret d ∧ r = (.ret d, env1) ∧ c' = c1) := by
  unfold forL at h
  obtain ⟨⟨fl, env1⟩, c1, e1, h⟩ := bnd_ok h
  refine ⟨fl, env1, c1, e1, ?_⟩
  cases fl with
  | nx => exact .inl ⟨.inl rfl, h⟩
  | ct => exact .inl ⟨.inr rfl, h⟩
  | bk => cases h; exact .inr (.inl ⟨rfl, rfl, rfl⟩)
  | ret d => cases h; exact .inr (.inr ⟨d, rfl, rfl, rfl⟩)
/-- the promise within a loop: what was there when it began, but the lists that were held then, stands -/
def PL (kk : Option Addr) (P : Hp → (Addr → Prop) → Prop) (G : Hp) (M : Addr → Prop) (H : Hp) (W : Addr → Prop) : Prop := P H W ∧ ExtO kk M G H ∧ (∀ a, W a → M a ∨ ¬ Oc G a) ∧ ∀ a, kk = some a → Oc H a
theorem PL.bs {kk : Option Addr} {P : Hp → (Addr → Prop) → Prop} (B : Bs kk P) (G : Hp) (M : Addr → Prop) : Bs kk (PL kk P G M) where
  ext := fun H H' W W' ⟨p, x, w, q⟩ x' k o => ⟨B.ext _ _ _ _ p x' k o, x.trans x'.o, (fun a z => by
    rcases o a z with z | z
    · exact w a z
    · by_cases hm : M a
      · exact .inl hm
      · refine .inr fun ⟨u, e, n⟩ => z ?_
        by_cases hk : kk = some a
        · exact q a hk
        · exact ⟨u, x a u e (.inl ⟨hm, hk⟩) n, n⟩), k⟩
  wr := fun H W a l vs ⟨p, x, w, q⟩ z hk e => ⟨B.wr _ _ _ _ _ p z hk e, (fun b o h c n => by
    by_cases hb : b = a
    · subst hb
      rcases c with c | c
      · rcases w b z with m | m
        · exact absurd m c.1
        · exact (m ⟨o, h, n⟩).elim
      · have := x b o h (.inr c) n
        rw [e] at this
        cases this
        exact absurd rfl (c l)
    · rw [upd_ne hb]; exact x b o h c n), w, fun b hb => by
    by_cases hb' : b = a
    · rw [hb']; exact .lst upd_same
    · obtain ⟨o, e1, e2⟩ := q b hb
      exact ⟨o, by rw [upd_ne hb']; exact e1, e2⟩⟩
theorem Sr.imp {X : Cx} {kk : Option Addr} {U : Addr → Prop} {P P' : Hp → (Addr → Prop) → Prop} {σ : L2.St} {env : Env} {H : Hp} (s : Sr X T kk U P σ env H) (h : P H (Ow σ env) → P' H (Ow σ env)) : Sr X T kk U P' σ env H := ⟨s.fz, s.ow, s.inj, h s.pr⟩
theorem SS.for (g : Tg) (it : Src) (hs : List Nat) {b : Sts} (hb : SSs T Γ n b) : SS T Γ n (.for g it hs b) := by
  intro X C S st env c0 fl env' c' ho hv kk U P σ H D B s k p
  unfold okS at ho
  split at ho
  · rename_i tg iter body orelse pos
    obtain ⟨h1, h2, h3, h4⟩ := and4 ho
    cases orelse with
    | cons _ _ => cases h1
    | nil =>
      unfold ex1 at hv
      obtain ⟨ds, c1, e1, hv1⟩ := bnd_ok hv
      clear hv
      have nf : ∀ x, foldedSetIterable iter X.env x = pure x := by
        cases it with
        | ex a => exact nofold_of (ok_shape (show okE T X.N X.env.scope a iter = true from h2))
        | rng es => unfold okI at h2; split at h2 <;> first | (intro x; rfl) | cases h2
        | zip a b => unfold okI at h2; split at h2 <;> first | (intro x; rfl) | cases h2
        | enum a => unfold okI at h2; split at h2 <;> first | (intro x; rfl) | cases h2
      refine tSW_of (ps_for S.pass C.calm piW pgW pssW nf) (sI T Γ n it X C tg iter _ _ _ _ h2 e1 kk (Hid U hs σ env) σ H _ (s.er hs) (s.okH k hs) fun J H1 x1 r1 hlen hJ => ?_)
      have hv' : forL (fun x env c => (R.opt (asgS g x env) c).bnd fun env' c1 => exs Γ b env' c1) ds (aft (itAny it) hs env) c1 = .ok (fl, env') c' := hv1
      generalize hf : (fun (x : Mn.D) (env : Env) (c : Cup) => (R.opt (asgS g x env) c).bnd fun env' c1 => exs Γ b env' c1) = f at hv'
      have s1 : Sr X T kk U P σ (aft (itAny it) hs env) H1 := s.aft B x1 r1 _ hs fun a z => .inl z
      have k1 := k.ext x1 r1
      generalize henv : aft (itAny it) hs env = env1 at hv' s1
      let M : Addr → Prop := Ow σ env1
      let O' : Addr → Prop := fun a => (U a ∨ M a) ∨ ¬ Oc H1 a
      have it' : ItR X.K X.mg T kk O' J ds H1 := by
        refine hJ O' ?_
        cases q : itAny it with
        | true => exact .inl rfl
        | false =>
          refine .inr fun a z => ?_
          rcases z with z | z
          · refine .inl ?_
            rw [q] at henv
            subst henv
            exact ow_frz.mp z
          · exact .inr z
      have BL := PL.bs B H1 M
      have sL : Sr X T kk U (PL kk P H1 M) σ env1 H1 := s1.imp fun pr => ⟨pr, fun a o h _ _ => h, fun a z => .inl z, fun a z => .lst (r1.at_ a z)⟩
      refine ⟨fun i m σ' Hc => m = ds.length - i ∧ i ≤ ds.length ∧ ∃ env2 ci, Sr X T kk U (PL kk P H1 M) σ' env2 Hc ∧ Ok T kk U ci Hc ∧ forL f (ds.drop i) env2 ci = .ok (fl, env') c', ⟨ds.length, by simp, by omega, env1, c1, sL, k1, by simpa using hv'⟩, ?_⟩
      rintro i m σ' Hc ⟨rfl, hle, env2, ci, s2, k2, e3⟩
      have xo : ExtO kk O' H1 Hc := fun a o h c n => s2.pr.2.1 a o h (c.imp (fun z => ⟨fun w => z.1 (.inl (.inr w)), z.2⟩) id) n
      by_cases hlt : i < ds.length
      · have hd : ds.drop i = ds[i] :: ds.drop (i + 1) := List.drop_eq_getElem_cons hlt
        rw [hd] at e3
        obtain ⟨fl1, env3, c3, f1, f2⟩ := forL_cons e3
        obtain ⟨go, yld⟩ := (it' i Hc xo).1 ds[i] (by simp [hlt])
        refine .inr ⟨go, fun σ3 H3 => ∃ env2 ci, Sr X T kk U (PL kk P H1 M) σ3 env2 H3 ∧ Ok T kk U ci H3 ∧ forL f (ds.drop (i + 1)) env2 ci = .ok (fl, env') c', fun σ3 H3 h => ⟨ds.length - (i + 1), by omega, rfl, hlt, h⟩, fun x H' hy => ?_⟩
        obtain ⟨sm, rx⟩ := yld x H' hy
        have xs : Ext kk Hc H' := Ext.of sm
        have r' : Cr T kk ci H' := k2.cr.same sm
        have s3 := s2.ext BL xs r' (U' := U) fun a z => .inl z
        rw [← hf] at f1
        obtain ⟨env4, c4, g1, g2⟩ := bnd_ok f1
        obtain ⟨g3, g4⟩ := opt_ok g1
        subst g4
        have rx' : Rp X.K X.mg T kk (fun a => U a ∨ Ow σ' env2 a) H' x ds[i] := rx.mono (Ext.refl H') fun a z => by
          rcases z with z | z
          · exact .inl (.inl (.inl z))
          · rcases s2.pr.2.2.1 a z with z | z
            · exact .inl (.inl (.inr z))
            · exact .inl (.inr z)
        refine sndS C.nd C.calm S.sto BL r' g h3 g3 s3 rx' fun σ4 s4 _ => ?_
        have back : ∀ {σ5 : L2.St} {env5 : Env} {H5 : Hp}, Sr X T kk U (PL kk P H1 M) σ5 env5 H5 → Sr X T kk U P σ5 env5 H5 := fun s => s.imp fun pr => pr.1
        refine hb X C S _ _ _ _ _ _ h4 g2 kk U _ σ4 H' _ BL s4 (k2.ext xs r') ?_
        rcases f2 with ⟨hfl, f2⟩ | ⟨rfl, f2, f3⟩ | ⟨d, rfl, f2, f3⟩
        · rcases hfl with rfl | rfl
          · exact fun σ5 H5 s5 k5 => ⟨_, _, s5, k5, f2⟩
          · exact fun σ5 H5 s5 k5 => ⟨_, _, s5, k5, f2⟩
        · cases f2
          subst f3
          exact fun σ5 H5 s5 k5 => p _ _ (back s5) k5
        · cases f2
          subst f3
          exact fun v σ5 H5 s5 k5 rv => p _ _ _ (back s5) k5 rv
      · have hi' : i = ds.length := by omega
        subst hi'
        rw [List.drop_length] at e3
        cases e3
        exact .inl ⟨(it' ds.length Hc xo).2 (Nat.le_refl _), p _ _ (s2.imp fun pr => pr.1) k2⟩
  · cases ho
theorem SS.while (t : Ex) (hs : List Nat) {b : Sts} (hb : SSs T Γ n b) : SS T Γ n (.while t hs b) := by
  intro X C S st env c0 fl env' c' ho hv kk U P σ H D B s k p
  unfold okS at ho
  split at ho
  · rename_i l body orelse pos
    obtain ⟨h1, h2, h3⟩ := and3 ho
    cases orelse with
    | cons _ _ => cases h1
    | nil =>
      unfold ex1 at hv
      generalize hw : wFuel = w at hv
      refine tSW_of (ps_while S.pass ptW pssW) ⟨fun m σ' Hc => ∃ env2 ci, Sr X T kk U P σ' env2 Hc ∧ Ok T kk U ci Hc ∧ whL (fun env c => (ev Γ (see hs env) t c).bnd fun x c1 => R.opt (tBl x) c1) (exs Γ b) m env2 ci = .ok (fl, env') c', ⟨w, env, c0, s, k, hv⟩, ?_⟩
      rintro m σ' Hc ⟨env2, ci, s2, k2, e3⟩
      cases m with
      | zero => cases e3
      | succ m =>
        unfold whL at e3
        obtain ⟨bb, c3, f1, f2⟩ := bnd_ok e3
        obtain ⟨x, c4, f3, f4⟩ := bnd_ok f1
        obtain ⟨f5, f6⟩ := opt_ok f4
        subst f6
        cases tBl_ok f5
        refine (sE T Γ n t).2 X C _ _ _ _ _ h2 f3 kk (Hid U hs σ' env2) σ' Hc _ (s2.er hs) (s2.okH k2 hs) fun H3 x3 r3 => ?_
        have s3 := s2.ext B x3 r3 (U' := U) fun a z => .inl z
        have k3 := k2.ext x3 r3
        cases bb with
        | false =>
          cases f2
          exact iteF (p _ _ s3 k3)
        | true =>
          obtain ⟨⟨fl1, env3⟩, c5, g1, g2⟩ := bnd_ok (show (exs Γ b env2 c3).bnd _ = _ from f2)
          refine iteT ⟨fun σ5 H5 => ∃ env2 ci, Sr X T kk U P σ5 env2 H5 ∧ Ok T kk U ci H5 ∧ whL (fun env c => (ev Γ (see hs env) t c).bnd fun x c1 => R.opt (tBl x) c1) (exs Γ b) m env2 ci = .ok (fl, env') c', fun σ5 H5 h => ⟨m, by omega, h⟩, ?_⟩
          refine hb X C S _ _ _ _ _ _ h3 g1 kk U P σ' H3 _ B s3 k3 ?_
          cases fl1 with
          | nx => exact fun σ5 H5 s5 k5 => ⟨_, _, s5, k5, g2⟩
          | ct => exact fun σ5 H5 s5 k5 => ⟨_, _, s5, k5, g2⟩
          | bk => cases g2; exact fun σ5 H5 s5 k5 => p _ _ s5 k5
          | ret d => cases g2; exact fun v σ5 H5 s5 k5 rv => p _ _ _ s5 k5 rv
  · cases ho
end
section
variable (T : Tb) (Γ : Gm) (n : Nat)
mutual
theorem sS : ∀ s : St, SS T Γ n s
  | .set i e hs => .set i e hs
  | .par is es hs => .par is es hs
  | .tas g e hs => .tas g e hs
  | .app i e hs => .app i e hs
  | .ext i e hs => .ext i e hs
  | .six i j e hs => .six i j e hs
  | .cup i k e hs => .cup i k e hs
  | .drop e hs => .drop e hs
  | .ret e hs => .ret e hs
  | .ife t hs a b => .ife t hs (sSs a) (sSs b)
  | .for g it hs b => .for g it hs (sSs b)
  | .while t hs b => .while t hs (sSs b)
  | .brk => .brk
  | .cnt => .cnt
  | .pass => .pass
  | .raise k => .raise k
theorem sSs : ∀ ss : Sts, SSs T Γ n ss
  | .nil => .nil
  | .cons s ss => .cons (sS s) (sSs ss)
end
end
end Mn

set_option maxRecDepth 100000
set_option maxHeartbeats 4000000
namespace Mn
open PySem PySem.Spec PyProof.Rows L2
/-! ## errors -/
theorem evAnd_nox {Γ : Gm} {ρ : Rho} : ∀ {es : Exs} {c : Cup} {k : Nat} {x : List D} {c' : Cup}, evAnd Γ ρ es c ≠ .exc k x c'
  | .nil, c, k, x, c', h => by unfold evAnd at h; cases h
  | .cons e .nil, c, k, x, c', h => by
    unfold evAnd at h
    obtain ⟨a, c1, _, h⟩ := bnd_exc h
    cases h
  | .cons e (.cons f es), c, k, x, c', h => by
    unfold evAnd at h
    obtain ⟨a, c1, _, h⟩ := bnd_exc h
    obtain ⟨b, c2, _, h⟩ := bnd_exc h
    cases b with
    | true => exact evAnd_nox (es := .cons f es) h
    | false => cases h
theorem evOr_nox {Γ : Gm} {ρ : Rho} : ∀ {es : Exs} {c : Cup} {k : Nat} {x : List D} {c' : Cup}, evOr Γ ρ es c ≠ .exc k x c'
  | .nil, c, k, x, c', h => by unfold evOr at h; cases h
  | .cons e .nil, c, k, x, c', h => by
    unfold evOr at h
    obtain ⟨a, c1, _, h⟩ := bnd_exc h
    cases h
  | .cons e (.cons f es), c, k, x, c', h => by
    unfold evOr at h
    obtain ⟨a, c1, _, h⟩ := bnd_exc h
    obtain ⟨b, c2, _, h⟩ := bnd_exc h
    cases b with
    | true => cases h
    | false => exact evOr_nox (es := .cons f es) h
theorem lamR_nox {α : Type} {h : List D} {r : D} {x : R α} {k : Nat} {y : List D} {c : Cup} : lamR h r x ≠ .exc k y c := by
  intro z
  unfold lamR at z
  split at z
  · cases z
  · split at z <;> cases z
  · cases z
/-- nothing but a call ends in an error -/
theorem exc_call {Γ : Gm} {ρ : Rho} {e : Ex} {c : Cup} {k : Nat} {x : List D} {c' : Cup} (h : ev Γ ρ e c = .exc k x c') : ∃ es, (∃ f, e = .call f es) ∨ ∃ i, e = .cv i es := by
  cases e with
  | call f es => exact ⟨es, .inl ⟨f, rfl⟩⟩
  | cv i es => exact ⟨es, .inr ⟨i, rfl⟩⟩
  | v i => unfold ev at h; exact (opt_exc h).elim
  | int _ => unfold ev at h; cases h
  | str _ => unfold ev at h; cases h
  | bl _ => unfold ev at h; cases h
  | non => unfold ev at h; cases h
  | cst _ _ => unfold ev at h; cases h
  | css _ _ => unfold ev at h; cases h
  | fv _ => unfold ev at h; cases h
  | and es => unfold ev at h; exact (evAnd_nox h).elim
  | or es => unfold ev at h; exact (evOr_nox h).elim
  | lam _ _ _ _ => unfold ev at h; exact (lamR_nox h).elim
  | bin o a b =>
    unfold ev at h
    obtain ⟨_, _, _, h⟩ := bnd_exc h
    obtain ⟨_, _, _, h⟩ := bnd_exc h
    exact (opt_exc h).elim
  | neg a =>
    unfold ev at h
    obtain ⟨_, _, _, h⟩ := bnd_exc h
    exact (opt_exc h).elim
  | cmp o a b =>
    unfold ev at h
    obtain ⟨_, _, _, h⟩ := bnd_exc h
    obtain ⟨_, _, _, h⟩ := bnd_exc h
    exact (opt_exc h).elim
  | cmp2 o p a b e =>
    unfold ev at h
    obtain ⟨_, _, _, h⟩ := bnd_exc h
    obtain ⟨_, _, _, h⟩ := bnd_exc h
    obtain ⟨b, _, _, h⟩ := bnd_exc h
    cases b with
    | true =>
      obtain ⟨_, _, _, h⟩ := bnd_exc h
      exact (opt_exc h).elim
    | false => cases h
  | not a =>
    unfold ev at h
    obtain ⟨_, _, _, h⟩ := bnd_exc h
    obtain ⟨_, _, _, h⟩ := bnd_exc h
    cases h
  | ife t a b =>
    unfold ev at h
    obtain ⟨_, _, _, h⟩ := bnd_exc h
    obtain ⟨_, _, _, h⟩ := bnd_exc h
    obtain ⟨_, _, _, h⟩ := bnd_exc h
    cases h
  | tup es =>
    unfold ev at h
    obtain ⟨_, _, _, h⟩ := bnd_exc h
    cases h
  | lst es =>
    unfold ev at h
    obtain ⟨_, _, _, h⟩ := bnd_exc h
    cases h
  | ix a b =>
    unfold ev at h
    obtain ⟨_, _, _, h⟩ := bnd_exc h
    obtain ⟨_, _, _, h⟩ := bnd_exc h
    exact (opt_exc h).elim
  | sl a lo hi st =>
    unfold ev at h
    obtain ⟨_, _, _, h⟩ := bnd_exc h
    obtain ⟨_, _, _, h⟩ := bnd_exc h
    obtain ⟨_, _, _, h⟩ := bnd_exc h
    obtain ⟨_, _, _, h⟩ := bnd_exc h
    exact (opt_exc h).elim
  | bi b es =>
    unfold ev at h
    obtain ⟨_, _, _, h⟩ := bnd_exc h
    exact (opt_exc h).elim
  | isi a t =>
    unfold ev at h
    obtain ⟨_, _, _, h⟩ := bnd_exc h
    exact (opt_exc h).elim
  | lc e own g it i =>
    unfold ev at h
    obtain ⟨_, _, _, h⟩ := bnd_exc h
    obtain ⟨_, _, _, h⟩ := bnd_exc h
    cases h
  | lc2 e own own1 g it i g1 it1 i1 =>
    unfold ev at h
    obtain ⟨_, _, _, h⟩ := bnd_exc h
    obtain ⟨_, _, _, h⟩ := bnd_exc h
    split at h <;> cases h
theorem forL_nox {f : D → Env → Cup → R (Fl × Env)} : ∀ {xs : List D} {env : Env} {c : Cup} {k : Nat} {x : List D} {c' : Cup}, forL f xs env c ≠ .exc k x c'
  | [], _, _, _, _, _, h => by cases h
  | a :: r, env, c, k, x, c', h => by
    unfold forL at h
    obtain ⟨⟨fl, e1⟩, c1, _, h⟩ := bnd_exc h
    cases fl with
    | nx => exact forL_nox h
    | ct => exact forL_nox h
    | bk => cases h
    | ret d => cases h
theorem whL_nox {t : Env → Cup → R Bool} {f : Env → Cup → R (Fl × Env)} : ∀ {n : Nat} {env : Env} {c : Cup} {k : Nat} {x : List D} {c' : Cup}, whL t f n env c ≠ .exc k x c'
  | 0, _, _, _, _, _, h => by cases h
  | n + 1, env, c, k, x, c', h => by
    unfold whL at h
    obtain ⟨b, c1, _, h⟩ := bnd_exc h
    cases b with
    | false => cases h
    | true =>
      obtain ⟨⟨fl, e1⟩, c2, _, h⟩ := bnd_exc h
      cases fl with
      | nx => exact whL_nox h
      | ct => exact whL_nox h
      | bk => cases h
      | ret d => cases h
/-- a class of errors, as the top made it -/
structure ClA (K : PySem.W.Frag) (D : Addr) : Prop where
  q : PySem.W.excIn K D He.veBase "ValueError.__new__" = true
  kp : PySem.W.keepIn K (.ref D) = true
  sub : PySem.W.subIn K (.ref D) (.type "BaseException") = some true
  ty : PySem.W.typeIn K (.ref D) = some (.type "type")
section
variable (T : Tb) (Γ : Gm) (n : Nat)
/-- what is wanted of an error -/
def PostX (X : Cx) (kk : Option Addr) (P : Hp → (Addr → Prop) → Prop) (k : Nat) (c : Cup) (W : WX) : Prop := ∀ (y : Str) (D : Addr), T.cls[k]? = some y → X.mg y = some (.ref D) → ∀ σ H U, P H U → Cr T kk c H → W (.ref D) none σ H
def SXs (ss : Sts) : Prop := ∀ (X : Cx), Cn T Γ n X → Cs X → (∀ (k : Nat) (y : Str), T.cls[k]? = some y → ∃ D, X.mg y = some (.ref D) ∧ ClA X.K D) → ∀ (W : WX), L2N.Takes X W → ∀ (st : List Stmt) (env : Env) (c0 : Cup) (k : Nat) (xs : List D) (c1 : Cup), okSs T X.N X.env.scope ss st = true → exs Γ ss env c0 = .exc k xs c1 →
  ∀ (kk : Option Addr) (U : Addr → Prop) (P : Hp → (Addr → Prop) → Prop) (σ : L2.St) (H : Hp) (D : Ends), Bs kk P → Sr X T kk U P σ env H → Ok T kk U c0 H → PostX T X kk P k c1 W → tSsW X st D σ H
def SX (s : St) : Prop := ∀ (X : Cx), Cn T Γ n X → Cs X → (∀ (k : Nat) (y : Str), T.cls[k]? = some y → ∃ D, X.mg y = some (.ref D) ∧ ClA X.K D) → ∀ (W : WX), L2N.Takes X W → ∀ (st : Stmt) (env : Env) (c0 : Cup) (k : Nat) (xs : List D) (c1 : Cup), okS T X.N X.env.scope s st = true → ex1 Γ s env c0 = .exc k xs c1 →
  ∀ (kk : Option Addr) (U : Addr → Prop) (P : Hp → (Addr → Prop) → Prop) (σ : L2.St) (H : Hp) (D : Ends), Bs kk P → Sr X T kk U P σ env H → Ok T kk U c0 H → PostX T X kk P k c1 W → tSW X st D σ H
end
section
variable {T : Tb} {Γ : Gm} {n : Nat}
/-- a call in a statement -/
theorem st_exc {X : Cx} (C : Cn T Γ n X) {W : WX} (tk : L2N.Takes X W) {e : Ex} {v : Expr} (ho : okE T X.N X.env.scope e v = true) {hs : List Nat} {env : Env} {c0 : Cup} {k : Nat} {xs : List D} {c1 : Cup} (hv : ev Γ (see hs env) e c0 = .exc k xs c1) {kk : Option Addr} {U : Addr → Prop} {P : Hp → (Addr → Prop) → Prop} {σ : L2.St} {H : Hp}
    (B : Bs kk P) (s : Sr X T kk U P σ env H) (o : Ok T kk U c0 H) (p : PostX T X kk P k c1 W) (Q : VK) : tW X v σ H Q := by
  obtain ⟨es, hel⟩ := exc_call hv
  refine call_exc (E := fun cls d H' => ∀ σ', W cls d σ' H') (sA T Γ n es).a C (L2N.passes_call tk fun _ _ σ' _ h => h σ') hel ho hv (s.er hs) (s.okH o hs) fun y D e1 e2 H' x r σ' => p y D e1 e2 σ' H' _ (B.ext _ _ _ _ s.pr x (fun a z => .lst (r.at_ a z)) fun a z => .inl z) r
theorem SX.raise (k : Nat) : SX T Γ n (.raise k) := by
  intro X C S cl W tk st env c0 k' xs c1 ho hv kk U P σ H D B s o p
  unfold ex1 at hv
  cases hv
  unfold okS at ho
  split at ho
  · rename_i x px m j pm pc pos
    obtain ⟨h1, h2, h3⟩ := and3 ho
    obtain ⟨n1, n2, n3⟩ := nm_of h3
    have e1 := eq_of_beq h1
    obtain ⟨D, m1, A⟩ := cl k x e1
    exact tSW_of (L2N.ps_raise C.calm tk (L2N.pmk_own PySem.F.excBase_ValueError A.q m1 A.kp (raises_own A.sub A.ty) (glo_of h2) n1)) (p x D e1 m1 σ H _ s.pr o.cr)
  · cases ho
theorem SX.ret (e : Ex) (hs : List Nat) : SX T Γ n (.ret e hs) := by
  intro X C S cl W tk st env c0 k xs c1 ho hv kk U P σ H D B s o p
  unfold okS at ho
  split at ho
  · unfold ex1 at hv
    rcases bnx_exc hv with h | ⟨_, _, _, h⟩
    · exact tSW_of (ps_ret peW) (st_exc C tk ho h B s o p _)
    · cases h
  · cases ho
theorem SX.drop (e : Ex) (hs : List Nat) : SX T Γ n (.drop e hs) := by
  intro X C S cl W tk st env c0 k xs c1 ho hv kk U P σ H D B s o p
  unfold okS at ho
  split at ho
  · rename_i v pos
    obtain ⟨h1, h2⟩ := and_t ho
    unfold ex1 at hv
    rcases bnx_exc hv with h | ⟨_, _, _, h⟩
    · refine tSW_of (ps_expr peW ?_) (st_exc C tk h1 h B s o p _)
      split at h2
      · rfl
      · cases h2
    · cases h
  · cases ho
theorem SX.set (i : Nat) (e : Ex) (hs : List Nat) : SX T Γ n (.set i e hs) := by
  intro X C S cl W tk st env c0 k xs c1 ho hv kk U P σ H D B s o p
  unfold okS at ho
  split at ho
  · rename_i x px v pos
    obtain ⟨h1, h2, h3⟩ := and3 ho
    unfold ex1 at hv
    rcases bnx_exc hv with h | ⟨_, _, _, h⟩
    · refine tSW_of (ps_set C.nd (eq_of_beq h1) (S.sto x h2).1 peW (sw_false h3 (fun a b d e' f z => ?_) fun a b c d e' f g j k z => ?_) (S.sto x h2).2) (st_exc C tk h3 h B s o p _)
      · subst z
        obtain ⟨es, ⟨f', w⟩ | ⟨i', w⟩⟩ := exc_call h <;> cases w
      · subst z
        obtain ⟨es, ⟨f', w⟩ | ⟨i', w⟩⟩ := exc_call h <;> cases w
    · cases h
  · cases ho
theorem SX.ife (t : Ex) (hs : List Nat) {a b : Sts} (ha : SXs T Γ n a) (hb : SXs T Γ n b) : SX T Γ n (.ife t hs a b) := by
  intro X C S cl W tk st env c0 k xs c1 ho hv kk U P σ H D B s o p
  unfold okS at ho
  split at ho
  · obtain ⟨h1, h2, h3⟩ := and3 ho
    unfold ex1 at hv
    obtain ⟨x, c2, e1, hv⟩ := bnd_exc hv
    obtain ⟨b', c3, e30, hv⟩ := bnd_exc hv
    obtain ⟨e3, e4⟩ := opt_ok e30
    subst e4
    cases tBl_ok e3
    refine tSW_of (ps_if ptW pssW pssW) ((sE T Γ n t).2 X C _ _ _ _ _ h1 e1 _ _ _ _ _ (s.er hs) (s.okH o hs) fun H1 x1 r1 => ?_)
    have s1 := s.ext B x1 r1 (U' := U) fun a z => .inl z
    cases b' with
    | true => exact iteT (ha X C S cl W tk _ _ _ _ _ _ h2 hv kk U P σ H1 D B s1 (o.ext x1 r1) p)
    | false => exact iteF (hb X C S cl W tk _ _ _ _ _ _ h3 hv kk U P σ H1 D B s1 (o.ext x1 r1) p)
  · cases ho
theorem SXs.cons {a : St} {as : Sts} (ha : SX T Γ n a) (hr : SXs T Γ n as) : SXs T Γ n (.cons a as) := by
  intro X C S cl W tk st env c0 k xs c1 ho hv kk U P σ H D B s o p
  cases st with
  | nil => cases ho
  | cons v r =>
    obtain ⟨h1, h2⟩ := and_t (show (okS T X.N X.env.scope a v && okSs T X.N X.env.scope as r) = true from ho)
    unfold exs at hv
    rcases bnx_exc hv with h | ⟨⟨f1, env1⟩, c2, e1, hv2⟩
    · exact tSsW_of (pss_cons psW pssW) (ha X C S cl W tk _ _ _ _ _ _ h1 h kk U P σ H _ B s o p)
    · refine tSsW_of (pss_cons psW pssW) (sS T Γ n a X C S _ _ _ _ _ _ h1 e1 _ _ _ _ _ _ B s o ?_)
      cases f1 with
      | nx => exact fun σ' H' s' k' => hr X C S cl W tk _ _ _ _ _ _ h2 hv2 kk U P σ' H' D B s' k' p
      | ret d => cases hv2
      | bk => cases hv2
      | ct => cases hv2
end
section
variable (T : Tb) (Γ : Gm) (n : Nat)
mutual
theorem sX : ∀ s : St, SX T Γ n s
  | .raise k => .raise k
  | .ret e hs => .ret e hs
  | .drop e hs => .drop e hs
  | .set i e hs => .set i e hs
  | .ife t hs a b => .ife t hs (sXs a) (sXs b)
  | .par is es hs => by
    intro X C S cl W tk st env c0 k xs c1 ho hv
    unfold ex1 at hv
    obtain ⟨_, _, _, h⟩ := bnd_exc hv
    obtain ⟨_, _, _, h⟩ := bnd_exc h
    cases h
  | .tas g e hs => by
    intro X C S cl W tk st env c0 k xs c1 ho hv
    unfold ex1 at hv
    obtain ⟨_, _, _, h⟩ := bnd_exc hv
    obtain ⟨_, _, _, h⟩ := bnd_exc h
    cases h
  | .app i e hs => by
    intro X C S cl W tk st env c0 k xs c1 ho hv
    unfold ex1 at hv
    obtain ⟨_, _, _, h⟩ := bnd_exc hv
    dsimp only at h
    split at h
    · split at h <;> cases h
    · cases h
  | .ext i e hs => by
    intro X C S cl W tk st env c0 k xs c1 ho hv
    unfold ex1 at hv
    obtain ⟨_, _, _, h⟩ := bnd_exc hv
    dsimp only at h
    split at h
    · split at h <;> cases h
    · cases h
  | .six i j e hs => by
    intro X C S cl W tk st env c0 k xs c1 ho hv
    unfold ex1 at hv
    obtain ⟨_, _, _, h⟩ := bnd_exc hv
    dsimp only at h
    obtain ⟨_, _, _, h⟩ := bnd_exc h
    split at h
    · split at h <;> cases h
    · cases h
  | .cup i j e hs => by
    intro X C S cl W tk st env c0 k xs c1 ho hv
    unfold ex1 at hv
    obtain ⟨_, _, _, h⟩ := bnd_exc hv
    split at h
    · split at h
      · cases h
      · split at h <;> cases h
    · cases h
  | .for g it hs b => by
    intro X C S cl W tk st env c0 k xs c1 ho hv
    unfold ex1 at hv
    obtain ⟨_, _, _, h⟩ := bnd_exc hv
    exact (forL_nox h).elim
  | .while t hs b => by
    intro X C S cl W tk st env c0 k xs c1 ho hv
    unfold ex1 at hv
    exact (whL_nox hv).elim
  | .brk => by
    intro X C S cl W tk st env c0 k xs c1 ho hv
    cases hv
  | .cnt => by
    intro X C S cl W tk st env c0 k xs c1 ho hv
    cases hv
  | .pass => by
    intro X C S cl W tk st env c0 k xs c1 ho hv
    cases hv
theorem sXs : ∀ ss : Sts, SXs T Γ n ss
  | .nil => by
    intro X C S cl W tk st env c0 k xs c1 ho hv
    cases hv
  | .cons s ss => .cons (sX s) (sXs ss)
end
end
end Mn

set_option maxRecDepth 100000
set_option maxHeartbeats 4000000
namespace Mn
open PySem PySem.Spec PyProof.Rows L2

/-! ## defs -/
/-- parameters by name alone -/
def plainPs (p : Arguments) : Bool := p.posonlyargs.isEmpty && (p.vararg.isNone && (p.kwonlyargs.isEmpty && (p.kw_defaults.isEmpty && (p.kwarg.isNone && p.defaults.isEmpty))))
theorem plainPs_eq {p : Arguments} (h : plainPs p = true) : p = ⟨[], p.args, none, [], [], none, []⟩ := by
  obtain ⟨a, b, c, d, e, f, g⟩ := p
  obtain ⟨h1, h2, h3, h4, h5, h6⟩ := and6 h
  simp at h1 h2 h3 h4 h5 h6
  subst h1 h2 h3 h4 h5 h6
  rfl
theorem zip_has : ∀ {ns : List Str} {us : List Value} {x : Str}, us.length = ns.length → x ∈ ns → ((ns.zip us).lookup x).isNone = false
  | [], _, x, _, h => by simp at h
  | n :: ns, [], x, hl, _ => by simp at hl
  | n :: ns, u :: us, x, hl, h => by
    rw [List.zip_cons_cons, List.lookup_cons]
    cases e : (x == n) with
    | true => rfl
    | false =>
      rcases List.mem_cons.mp h with h | h
      · subst h; simp at e
      · exact zip_has (by simpa using hl) h
theorem miss_nil {ns : List Str} {us : List Value} (hl : us.length = ns.length) : ns.filter (fun n => ((ns.zip us).lookup n).isNone) = [] := by
  rw [List.filter_eq_nil_iff]
  intro x hx
  rw [zip_has hl hx]
  simp
theorem zip_lk : ∀ {ns : List Str} {us : List Value}, ns.Nodup → us.length = ns.length → ns.filterMap (fun n => ((ns.zip us).lookup n).map fun v => (n, v)) = ns.zip us
  | [], _, _, _ => rfl
  | n :: ns, [], _, hl => by simp at hl
  | n :: ns, u :: us, nd, hl => by
    obtain ⟨h1, h2⟩ := List.nodup_cons.mp nd
    rw [List.zip_cons_cons, List.filterMap_cons]
    have e : ((n, u) :: ns.zip us).lookup n = some u := by rw [List.lookup_cons]; simp
    rw [e]
    show (n, u) :: _ = _
    congr 1
    have cg : ∀ (l : List Str) (f g : Str → Option (Str × Value)), (∀ x ∈ l, f x = g x) → l.filterMap f = l.filterMap g := by
      intro l f g h
      induction l with
      | nil => rfl
      | cons a l ih => rw [List.filterMap_cons, List.filterMap_cons, h a (by simp), ih fun x hx => h x (by simp [hx])]
    refine (cg _ _ (fun m => ((ns.zip us).lookup m).map fun v => (m, v)) fun m hm => ?_).trans (zip_lk h2 (by simpa using hl))
    rw [List.lookup_cons]
    have : (m == n) = false := beq_eq_false_iff_ne.mpr fun z => h1 (z ▸ hm)
    rw [this]
theorem bind_plain {x qual : Str} {body : List Stmt} {scope : Scope} {kV doc pm cdv ct : Value} {an : Option Addr} (as : List Arg) (us : List Value) (hl : us.length = as.length) (nd : (as.map (·.arg)).Nodup) :
    bindArgs (PySem.W.fnOf x qual ⟨[], as, none, [], [], none, []⟩ body scope .none kV doc pm an cdv ct) ⟨us, []⟩ = pure ((as.map (·.arg)).zip us) := by
  have hl' : us.length = (as.map (·.arg)).length := by rw [hl, List.length_map]
  have m := miss_nil hl'
  have z := zip_lk nd hl'
  rw [List.filterMap_map] at z
  unfold bindArgs
  have e : seqItems? (Value.none) = pure none := rfl
  simp [PySem.W.fnOf, hl, e, List.forIn_nil]
  rw [if_neg]
  · rw [z]
  · simp only [List.map_nil, List.nil_append, List.drop_nil, List.length_nil, Nat.sub_zero, List.take_length]
    rw [m]
    simp
def nofreeB (sc : Scope) : Bool := sc.names.all fun y => match y.2 with
  | .free => false
  | _ => true
/-- is the def at st the compact def fd, in a module of T? -/
def okF (T : Tb0) (fd : Fd) (st : Stmt) : Bool :=
  plainPs (defArgs st) && (decide ((defArgs st).args.map (·.arg)).Nodup && (decide ((defArgs st).args.map (·.arg) = fd.N.take fd.np) && (decide (fd.np ≤ fd.N.length) && (
    decide ((defScope st).kind = .function) && (!(defScope st).isCoroutine && (!(defScope st).isGenerator && (decide fd.N.Nodup && ((fd.N.take fd.np).all (locB (defScope st)) && (nofreeB (defScope st) && okSs T fd.N (defScope st) fd.body (defBody st))))))))))
theorem okF_scope {T : Tb0} {fd : Fd} {st : Stmt} (h : okF T fd st = true) : FnScope fd.N (fd.N.take fd.np) (defScope st) ∧ okSs T fd.N (defScope st) fd.body (defBody st) = true ∧ (fd.N.take fd.np).length = fd.np := by
  obtain ⟨h1, h2, h3, h4, h5, h6, hr⟩ := and7 h
  obtain ⟨h7, h8, h9, h10, h11⟩ := and5 hr
  have e4 := of_decide_eq_true h4
  have el : (fd.N.take fd.np).length = fd.np := by rw [List.length_take]; omega
  refine ⟨⟨of_decide_eq_true h5, by simpa using h6, by simpa using h7, of_decide_eq_true h8, by rw [el], fun x hx => loc_of (List.all_eq_true.mp h9 x hx), fun y hy e => ?_⟩, h11, el⟩
  have := List.all_eq_true.mp h10 y hy
  rw [e] at this
  cases this
theorem okF_bind {T : Tb0} {fd : Fd} {st : Stmt} (h : okF T fd st = true) {x qual : Str} {kV doc pm cdv ct : Value} {an : Option Addr} (us : List Value) (hl : us.length = (fd.N.take fd.np).length) :
    bindArgs (PySem.W.fnOf x qual (defArgs st) (defBody st) (defScope st) .none kV doc pm an cdv ct) ⟨us, []⟩ = pure ((fd.N.take fd.np).zip us) := by
  obtain ⟨h1, h2, h3, _⟩ := and4 h
  have e3 := of_decide_eq_true h3
  rw [plainPs_eq h1]
  have := bind_plain (x := x) (qual := qual) (body := defBody st) (scope := defScope st) (kV := kV) (doc := doc) (pm := pm) (cdv := cdv) (ct := ct) (an := an) (defArgs st).args us (by rw [hl, ← e3, List.length_map]) (of_decide_eq_true h2)
  rw [e3] at this
  exact this
/-- the table of a def whose names a lambda catches -/
def TabOk (T : Tb) (mg : Str → Option Value) (base : Heap) (x : Str) (sc : Scope) (cd : Value) : Prop := cellB sc = true → ∃ c P, cd = .ref c ∧ LamX.TabB base mg c P ∧ (P, x ++ ".<locals>." ++ "<lambda>") ∈ T.tt ∧ ∀ p ∈ T.tt, p.1 = P → p.2 = x ++ ".<locals>." ++ "<lambda>"
/-- the defs of a module as they stand: by the place in the table -/
structure World1 (T : Tb) (defs : List Fd) (P : Program) (w : World) (K : PySem.W.Frag) (mg : Str → Option Value) (base : Heap) : Prop where
  fns : ∀ (i : Nat) (x : Str), T.fns[i]? = some x → ∃ (fd : Fd) (st : Stmt) (f : Addr) (fdv : FuncData), defs[i]? = some fd ∧ okF T fd st = true ∧ FunD K x x (defArgs st) (defBody st) (defScope st) [] [] f fdv ∧ mg x = some (.ref f) ∧ TabOk T mg base x (defScope st) fdv.code
  cs : (∀ x i, (x, i) ∈ T.cs → ∃ t, mg x = some (.int i t)) ∧ ∀ x z, (x, z) ∈ T.ss → ∃ t, mg x = some (.str z t)
  blt : ∀ x ∈ bltNames, mg x = none
  cls : ∀ (k : Nat) (y : Str), T.cls[k]? = some y → ∃ D, mg y = some (.ref D) ∧ ClA K D
  tds : ∀ t ∈ T.tds, TdOk P w K mg base T t.1 t.2.1 t.2.2
/-- the rule for a def, its code object told -/
theorem fun_okc {P : Program} {w : World} {K : PySem.W.Frag} {mg : Str → Option Value} {base : Heap} {x qual : Str} {params : Arguments} {body : List Stmt} {scope : Scope} {dvs : List V} {kws : List (Str × V)} {f : Addr} {fd : FuncData} {CX : CXT} {N ps : List Str} {k : Nat} {sp : Sp}
    (F : FunD K x qual params body scope dvs kws f fd) (S : FnScope N ps scope) (len : ∀ vs H Q E, sp vs H Q E → vs.length = ps.length)
    (hb : ∀ (A : Around) (outer : List PySem.Env) (s : Shared) (H : Hp) (vs : List V) (Q : VK) (E : XK), Room k (A.deeper (envOfC qual scope s.heap.objs.size f fd.code)) → sp vs H Q E →
      ∃ t, PSs (cxOf CX P w K mg base N qual scope f fd.code A outer s H E) body t ∧ t { nx := fun _ H' => Q .non H', rt := Q } (L2.start N vs) H) : FnOk P w K mg base CX (k + 1) f fd ps sp := by
  obtain ⟨o1, o2, v1, v2, v3, v4, v5, v6, v7, v8, e, l, c, _, _⟩ := F.ex
  subst e
  exact fn_of l c S len hb
theorem entry_get {fd : Fd} {ds : List D} (hl : ds.length ≤ fd.N.length) {i : Nat} : (entry fd ds)[i]? = if i < ds.length then (ds[i]?).map .f else if i < fd.N.length then some .u else none := by
  unfold entry
  rw [List.getElem?_append]
  simp only [List.length_map]
  by_cases h : i < ds.length
  · rw [if_pos h, if_pos h, List.getElem?_map]
  · rw [if_neg h, if_neg h, List.getElem?_replicate]
    split <;> split <;> first | rfl | omega
theorem start_get {N : List Str} {vs : List V} {i : Nat} {v : V} (h : vs[i]? = some v) : (L2.start N vs)[i]? = some (some v) := by
  unfold L2.start
  rw [List.getElem?_append_left (by rw [List.length_map]; exact (List.getElem?_eq_some_iff.mp h).1), List.getElem?_map, h]
  rfl
/-- the promise of a def's heap: what stood at the call stands -/
def P0 (kk : Option Addr) (G H : Hp) (W : Addr → Prop) : Prop := Ext kk G H ∧ (∀ a, W a → ¬ Oc G a) ∧ ∀ a, kk = some a → Oc H a
theorem P0.bs (kk : Option Addr) (G : Hp) : Bs kk (P0 kk G) where
  ext := fun H H' W W' ⟨x, w, q⟩ x' k o => ⟨x.trans x', (fun a z => by
    rcases o a z with z | z
    · exact w a z
    · rintro ⟨u, e, n⟩
      refine z ?_
      by_cases hk : kk = some a
      · exact q a hk
      · exact ⟨u, x a u e (.inl hk) n, n⟩), k⟩
  wr := fun H W a l vs ⟨x, w, q⟩ z hk e => ⟨(fun b o h c n => by
    rw [upd_ne]
    · exact x b o h c n
    · rintro rfl
      exact w b z ⟨o, h, n⟩), w, fun b hb => by
    by_cases hb' : b = a
    · rw [hb']; exact .lst upd_same
    · obtain ⟨o, e1, e2⟩ := q b hb
      exact ⟨o, by rw [upd_ne hb']; exact e1, e2⟩⟩
theorem callN_ok {defs : List Fd} {n f : Nat} {ds : List D} {c : Cup} {d : D} {c' : Cup} (h : callN defs (n + 1) f ds c = .ok d c') : ∃ fd, defs[f]? = some fd ∧ ds.length = fd.np ∧ ∃ fl env', exs (callN defs n) fd.body (entry fd ds) c = .ok (fl, env') c' ∧ ((fl = .nx ∧ d = .non) ∨ fl = .ret d) := by
  unfold callN at h
  split at h
  · cases h
  · rename_i fd e
    unfold runF at h
    split at h
    · rename_i hl
      obtain ⟨⟨fl, env'⟩, c1, e1, h⟩ := bnx_ok h
      refine ⟨fd, e, hl, fl, env', ?_⟩
      cases fl with
      | nx => cases h; exact ⟨e1, .inl ⟨rfl, rfl⟩⟩
      | ret d => cases h; exact ⟨e1, .inr rfl⟩
      | bk => cases h
      | ct => cases h
    · cases h
theorem callN_exc {defs : List Fd} {n f : Nat} {ds : List D} {c : Cup} {k : Nat} {xs : List D} {c' : Cup} (h : callN defs (n + 1) f ds c = .exc k xs c') : ∃ fd, defs[f]? = some fd ∧ ds.length = fd.np ∧ exs (callN defs n) fd.body (entry fd ds) c = .exc k xs c' := by
  unfold callN at h
  split at h
  · cases h
  · rename_i fd e
    unfold runF at h
    split at h
    · rename_i hl
      rcases bnx_exc h with h | ⟨⟨fl, env'⟩, c1, e1, h⟩
      · exact ⟨fd, e, hl, h⟩
      · cases fl <;> cases h
    · cases h
section
variable {P : Program} {w : World} {K : PySem.W.Frag} {mg : Str → Option Value} {base : Heap} {T : Tb} {defs : List Fd}
theorem entry_sr {X : Cx} {fd : Fd} {ds : List D} {vs : List V} {kk : Option Addr} {O : Addr → Prop} {c : Cup} {H : Hp} (np : fd.np ≤ fd.N.length) (hl : ds.length = fd.np) (r : Rps X.K X.mg T kk O H vs ds) (k : Ok T kk O c H) : Sr X T kk O (P0 kk H) (L2.start fd.N vs) (entry fd ds) H := by
  have noO : ∀ (i : Nat) (l : List D), (entry fd ds)[i]? ≠ some (.o l) := fun i l z => by
    rw [entry_get (by omega)] at z
    split at z
    · cases e : ds[i]? <;> rw [e] at z <;> cases z
    · split at z <;> cases z
  have noW : ∀ a, ¬ Ow (L2.start fd.N vs) (entry fd ds) a := fun a ⟨i, l, z, _⟩ => noO i l z
  refine ⟨fun i d z => ?_, fun i l z => absurd z (noO i l), fun i j l l' a z => absurd z (noO i l), Ext.refl H, fun a z => absurd z (noW a), fun a z => .lst (k.cr.at_ a z)⟩
  rw [entry_get (by omega)] at z
  split at z
  · cases e : ds[i]? with
    | none => rw [e] at z; cases z
    | some d' =>
      rw [e] at z
      cases z
      obtain ⟨v, f1, f2⟩ := r.get e
      exact ⟨v, start_get f1, f2.mono (Ext.refl H) fun a z => z.elim (fun z => .inl z) fun z => absurd z (noW a)⟩
  · split at z <;> cases z
/-- a promise without errors is one with errors -/
theorem FnOk.up {n : Nat} {f : Addr} {fd : FuncData} {ps : List Str} {sp : Sp} (F : FnOk P w K mg base CX0 n f fd ps sp) : FnOk P w K mg base (L2N.CX P w) n f fd ps sp := ⟨F.len, fun A outer s H args us vs Q E hr he hb hv hs => codeAny_mono (F.run A outer s H args us vs Q E hr he hb hv hs) fun r s' h => by
  cases r with
  | ok fl => cases fl <;> exact h
  | error e => exact False.elim h⟩
/-- WHAT THE EVALUATOR ANSWERS, THE DEFS DO -/
theorem fnb_ok (Wd : World1 T defs P w K mg base) : ∀ (n i : Nat) (x : Str), T.fns[i]? = some x → ∃ (a : Addr) (fd : FuncData) (ps : List Str), mg x = some (.ref a) ∧ PySem.W.keepIn K (.ref a) = true ∧ Binds K fd ps [] ∧ FnOk P w K mg base CX0 (3 * n) a fd ps (spG K mg T (callN defs n) i) ∧ FnOk P w K mg base (L2N.CX P w) (3 * n) a fd ps (spX K mg T (callN defs n) i)
  | 0, i, x, h => by
    obtain ⟨fd, st, f, fdv, e1, e2, e3, e4, e5⟩ := Wd.fns i x h
    refine ⟨f, fdv, fd.N.take fd.np, e4, e3.kp, e3.bindsN fun _ _ _ _ _ _ us hl => okF_bind e2 us hl, ⟨fun vs H Q E h => ?_, fun A outer s H args us vs Q E _ _ _ _ h => ?_⟩, ⟨fun vs H Q E h => ?_, fun A outer s H args us vs Q E _ _ _ _ h => ?_⟩⟩
    · obtain ⟨kk, O, ds, c, d, c', _, _, z, _⟩ := h
      cases z
    · obtain ⟨kk, O, ds, c, d, c', _, _, z, _⟩ := h
      cases z
    · obtain ⟨kk, O, ds, c, _, _, ⟨d, c', z, _⟩ | ⟨k, xs, c', z, _⟩⟩ := h <;> cases z
    · obtain ⟨kk, O, ds, c, _, _, ⟨d, c', z, _⟩ | ⟨k, xs, c', z, _⟩⟩ := h <;> cases z
  | n + 1, i, x, h => by
    obtain ⟨fd, st, f, fdv, e1, e2, e3, e4, e5⟩ := Wd.fns i x h
    obtain ⟨S, ok, hl⟩ := okF_scope e2
    have np : fd.np ≤ fd.N.length := by
      have := hl
      rw [List.length_take] at this
      omega
    have lenOf : ∀ {ds : List D} {c : Cup} {d : D} {c' : Cup}, callN defs (n + 1) i ds c = .ok d c' → ds.length = fd.np := fun {ds c d c'} z => by
      obtain ⟨fd', g1, g2, _⟩ := callN_ok z
      rw [e1] at g1
      cases g1
      exact g2
    have lenOfX : ∀ {ds : List D} {c : Cup} {k : Nat} {xs : List D} {c' : Cup}, callN defs (n + 1) i ds c = .exc k xs c' → ds.length = fd.np := fun {ds c k xs c'} z => by
      obtain ⟨fd', g1, g2, _⟩ := callN_exc z
      rw [e1] at g1
      cases g1
      exact g2
    have fns : ∀ (i : Nat) (x : Str), T.fns[i]? = some x → ∃ (a : Addr) (fd : FuncData) (ps : List Str), mg x = some (.ref a) ∧ PySem.W.keepIn K (.ref a) = true ∧ Binds K fd ps [] ∧ FnOk P w K mg base CX0 (3 * n) a fd ps (spG K mg T (callN defs n) i) := fun i x h => by
      obtain ⟨a, fd, ps, h1, h2, h3, h4, h5⟩ := fnb_ok Wd n i x h
      exact ⟨a, fd, ps, h1, h2, h3, h4⟩
    have fnx : ∀ (i : Nat) (x : Str), T.fns[i]? = some x → ∃ (a : Addr) (fd : FuncData) (ps : List Str), mg x = some (.ref a) ∧ PySem.W.keepIn K (.ref a) = true ∧ Binds K fd ps [] ∧ FnOk P w K mg base (L2N.CX P w) (3 * n) a fd ps (spX K mg T (callN defs n) i) := fun i x h => by
      obtain ⟨a, fd, ps, h1, h2, h3, h4, h5⟩ := fnb_ok Wd n i x h
      exact ⟨a, fd, ps, h1, h2, h3, h5⟩
    have F1 : FnOk P w K mg base CX0 (3 * n + 2 + 1) f fdv (fd.N.take fd.np) (spG K mg T (callN defs (n + 1)) i) := by
      refine fun_okc e3 S (fun vs H Q E h => ?_) (fun A outer s H vs Q E hr h => ?_)
      · obtain ⟨kk, O, ds, c, d, c', r, _, z, _⟩ := h
        rw [hl, r.length, lenOf z]
      · obtain ⟨kk, O, ds, c, d, c', r, k, z, q⟩ := h
        obtain ⟨fd', g1, g2, fl, env', g3, g4⟩ := callN_ok z
        rw [e1] at g1
        cases g1
        refine ⟨tSsW _ (defBody st), PSs.nox pssW, ?_⟩
        have C : Cn T (callN defs n) n (cxOf CX0 P w K mg base fd.N x (defScope st) f fdv.code A outer s H E).nox := ⟨S.nd, rfl, hr.mono (by omega), fns, fnx, Wd.tds, fun e => ⟨hr, e5 e⟩, Wd.cs, Wd.blt⟩
        have Cs' : Cs (cxOf CX0 P w K mg base fd.N x (defScope st) f fdv.code A outer s H E).nox := ⟨fun x hx => ⟨loc_of hx, .inl rfl⟩, S.kind, PassesOwn.never⟩
        refine sSs T (callN defs n) n fd.body _ C Cs' _ _ _ _ _ _ ok g3 kk O (P0 kk H) (L2.start fd.N vs) H _ (P0.bs kk H) (entry_sr np g2 r k) k ?_
        rcases g4 with ⟨rfl, rfl⟩ | rfl
        · exact fun σ' H' s' k' => q _ _ s'.pr.1 k'.cr .non
        · exact fun v σ' H' s' k' rv => q _ _ s'.pr.1 k'.cr rv
    have F2 : FnOk P w K mg base (L2N.CX P w) (3 * n + 2 + 1) f fdv (fd.N.take fd.np) (fun vs H Q E => ∃ (kk : Option Addr) (O : Addr → Prop) (ds : List D) (c : Cup), Rps K mg T kk O H vs ds ∧ Ok T kk O c H ∧ ∃ (k : Nat) (xs : List D) (c' : Cup), callN defs (n + 1) i ds c = .exc k xs c' ∧ ∀ (y : Str) (C : Addr), T.cls[k]? = some y → mg y = some (.ref C) → ∀ H', Ext kk H H' → Cr T kk c' H' → E (.ref C) none H') := by
      refine fun_okc e3 S (fun vs H Q E h => ?_) (fun A outer s H vs Q E hr h => ?_)
      · obtain ⟨kk, O, ds, c, r, _, k, xs, c', z, _⟩ := h
        rw [hl, r.length, lenOfX z]
      · obtain ⟨kk, O, ds, c, r, k, kx, xs, c', z, q⟩ := h
        obtain ⟨fd', g1, g2, g3⟩ := callN_exc z
        rw [e1] at g1
        cases g1
        refine ⟨tSsW _ (defBody st), pssW, ?_⟩
        have C : Cn T (callN defs n) n (cxOf (L2N.CX P w) P w K mg base fd.N x (defScope st) f fdv.code A outer s H E) := ⟨S.nd, rfl, hr.mono (by omega), fns, fnx, Wd.tds, fun e => ⟨hr, e5 e⟩, Wd.cs, Wd.blt⟩
        have Cs' : Cs (cxOf (L2N.CX P w) P w K mg base fd.N x (defScope st) f fdv.code A outer s H E) := ⟨fun x hx => ⟨loc_of hx, .inl rfl⟩, S.kind, passes_of rfl⟩
        exact sXs T (callN defs n) n fd.body _ C Cs' Wd.cls _ (L2N.takes_of rfl rfl rfl rfl) _ _ _ _ _ _ ok g3 kk O (P0 kk H) (L2.start fd.N vs) H _ (P0.bs kk H) (entry_sr np g2 r k) k fun y D w1 w2 σ' H' U p r' => q y D w1 w2 H' p.1 r'
    refine ⟨f, fdv, fd.N.take fd.np, e4, e3.kp, e3.bindsN fun _ _ _ _ _ _ us hl => okF_bind e2 us hl, F1, ⟨fun vs H Q E h => ?_, fun A outer s H args us vs Q E hr he hb hv h => ?_⟩⟩
    · obtain ⟨kk, O, ds, c, r, _, ⟨d, c', z, _⟩ | ⟨k, xs, c', z, _⟩⟩ := h
      · rw [hl, r.length, lenOf z]
      · rw [hl, r.length, lenOfX z]
    · obtain ⟨kk, O, ds, c, r, k, ⟨d, c', z, q⟩ | ⟨kx, xs, c', z, q⟩⟩ := h
      · exact (FnOk.up F1).run A outer s H args us vs Q E hr he hb hv ⟨kk, O, ds, c, d, c', r, k, z, q⟩
      · exact F2.run A outer s H args us vs Q E hr he hb hv ⟨kk, O, ds, c, r, k, kx, xs, c', z, q⟩
end
end Mn

set_option maxRecDepth 100000
set_option maxHeartbeats 4000000
/-! ## lists walked, tuples unpacked and comprehensions while an error is handled -/
namespace HotL
open PySem PySem.Spec PyProof.Rows L2 HotX L2H
section
variable {prog : Program} {w : World} {A : Around} {E : Value → Shared → Prop} {s : Shared}
/-- an iterator's record has no third field -/
theorem hot_ne {x1 it l : Addr} {i : Int} {o : Obj} (hot : HotAt A x1 s.heap) (ho : s.heap.get? it = some o) (hd : o.data = .fields #[.ref l, .int i 0]) : x1 ≠ it := fun z => by
  obtain ⟨_, o1, vs1, h1, d1, c1⟩ := hot
  rw [z, ho] at h1
  cases h1
  rw [hd] at d1
  cases d1
  simp at c1
theorem next_list_end_hot {it l x1 : Addr} {i : Nat} {items : Array Value} {Q : Option Value → Shared → Prop} (hot : HotAt A x1 s.heap) (hit : s.heap.IsListIter it l i) (hl : s.heap.IsList l items) (hx : items[i]? = none)
    (hQ : ∀ h', Heap.ExtBut it s.heap h' → Q none { s with heap := h' }) : wpAny (model prog w) A (pyNext (.ref it)) Q E s := by
  obtain ⟨o, ho, hc, hd⟩ := id hit
  have hne : x1 ≠ it := hot_ne hot ho hd
  obtain ⟨hh, o1, vs1, h1, d1, c1⟩ := hot
  obtain ⟨ol, hol, _, nl, hdl⟩ := hl
  unfold pyNext
  refine wpAny_bind (wpAny_attempt (wpAny_callSpecial?_slot (name := Str.ofString "__next__") hit.typeIs slot_listiter_next
    (wpAny_call_entry slot_listiter_next hit.typeIs entry_listiter_next ?_ (args_listiter_next _))))
  show wpAny _ _ (field (.ref it) 0 >>= _) _ _ s
  refine wpAny_bind (wpAny_field ho hd (x := .ref l) rfl ?_)
  show wpAny _ _ (if (Value.ref l == Value.none) = true then _ else _) _ _ s
  rw [if_neg (show ¬ ((Value.ref l == Value.none) = true) from Bool.false_ne_true)]
  show wpAny _ _ (field (.ref it) 1 >>= _) _ _ s
  refine wpAny_bind (wpAny_field ho hd (x := .int i 0) rfl ?_)
  show wpAny _ _ (seqItems? (.ref l) >>= _) _ _ s
  refine wpAny_bind (wpAny_seqItems hol hdl ?_)
  simp only [Int.toNat_natCast, hx]
  refine wpAny_bind (wpAny_rule (wpAny_bind (wpAny_setField ho hd (by simp) ?_)))
  have hu : Heap.ExtBut it s.heap (s.heap.update it (Obj.mapFields (·.setIfInBounds 0 .none))) := (Heap.SameBut.update ..).extBut
  show wpAny _ _ (newExc (.type "StopIteration") [] >>= _) _ _ _
  refine wpAny_bind ?_
  simp only [newExc, newTuple]
  refine wpAny_bind (wpAny_newObj_type ?_ (by size_fits))
  refine wpAny_bind (m := firstArgMember _ _) (wpAny_of_eq (a := Value.none) (by first | rfl | (simp only [firstArgMember]; rfl)) ?_)
  refine wpAny_newObj_type ?_ (by size_fits)
  have k1 := Heap.get?_push_of_some { cls := .type "tuple", data := .seq ([] : List Value).toArray } (hu x1 _ hne h1)
  refine raiseNew_hot ⟨hh, o1, vs1, Heap.get?_push_of_some _ k1, d1, c1⟩ (Nat.ne_of_lt (Heap.lt_size k1)) (Heap.get?_push_size _ rfl) rfl (by first | (simp; done) | (simp; omega) | (simp only [Array.size_append]; simp; omega)) ?_
  refine wpAny_bind (wpAny_isInstance (T := "StopIteration") (b := true) ⟨_, Heap.get?_update_self _ (Heap.get?_push_size _ rfl) rfl, rfl⟩ isSubtype_stop ?_)
  refine wpAny_pure (hQ _ fun b o hb e => ?_)
  have k2 := Heap.get?_push_of_some { cls := .type "tuple", data := .seq ([] : List Value).toArray } (hu b o hb e)
  rw [Heap.get?_update_other _ _ (Nat.ne_of_gt (Heap.lt_size k2))]
  exact Heap.get?_push_of_some _ k2
theorem next_tuple_end_hot {it l x1 : Addr} {i : Nat} {items : Array Value} {Q : Option Value → Shared → Prop} (hot : HotAt A x1 s.heap) (hit : IsTupIter s.heap it l i) (hl : IsTup s.heap l items) (hx : items[i]? = none)
    (hQ : ∀ h', Heap.ExtBut it s.heap h' → Q none { s with heap := h' }) : wpAny (model prog w) A (pyNext (.ref it)) Q E s := by
  obtain ⟨o, ho, hc, hd⟩ := id hit
  have hne : x1 ≠ it := hot_ne hot ho hd
  obtain ⟨hh, o1, vs1, h1, d1, c1⟩ := hot
  obtain ⟨ol, hol, _, nl, hdl⟩ := hl
  unfold pyNext
  refine wpAny_bind (wpAny_attempt (wpAny_callSpecial?_slot (name := Str.ofString "__next__") hit.typeIs slot_tupleiter_next
    (wpAny_call_entry slot_tupleiter_next hit.typeIs entry_tupleiter_next ?_ (args_tupleiter_next _))))
  show wpAny _ _ (field (.ref it) 0 >>= _) _ _ s
  refine wpAny_bind (wpAny_field ho hd (x := .ref l) rfl ?_)
  show wpAny _ _ (if (Value.ref l == Value.none) = true then _ else _) _ _ s
  rw [if_neg (show ¬ ((Value.ref l == Value.none) = true) from Bool.false_ne_true)]
  show wpAny _ _ (field (.ref it) 1 >>= _) _ _ s
  refine wpAny_bind (wpAny_field ho hd (x := .int i 0) rfl ?_)
  show wpAny _ _ (seqItems? (.ref l) >>= _) _ _ s
  refine wpAny_bind (wpAny_seqItems hol hdl ?_)
  simp only [Int.toNat_natCast, hx]
  refine wpAny_bind (wpAny_rule (wpAny_bind (wpAny_setField ho hd (by simp) ?_)))
  have hu : Heap.ExtBut it s.heap (s.heap.update it (Obj.mapFields (·.setIfInBounds 0 .none))) := (Heap.SameBut.update ..).extBut
  show wpAny _ _ (newExc (.type "StopIteration") [] >>= _) _ _ _
  refine wpAny_bind ?_
  simp only [newExc, newTuple]
  refine wpAny_bind (wpAny_newObj_type ?_ (by size_fits))
  refine wpAny_bind (m := firstArgMember _ _) (wpAny_of_eq (a := Value.none) (by first | rfl | (simp only [firstArgMember]; rfl)) ?_)
  refine wpAny_newObj_type ?_ (by size_fits)
  have k1 := Heap.get?_push_of_some { cls := .type "tuple", data := .seq ([] : List Value).toArray } (hu x1 _ hne h1)
  refine raiseNew_hot ⟨hh, o1, vs1, Heap.get?_push_of_some _ k1, d1, c1⟩ (Nat.ne_of_lt (Heap.lt_size k1)) (Heap.get?_push_size _ rfl) rfl (by first | (simp; done) | (simp; omega) | (simp only [Array.size_append]; simp; omega)) ?_
  refine wpAny_bind (wpAny_isInstance (T := "StopIteration") (b := true) ⟨_, Heap.get?_update_self _ (Heap.get?_push_size _ rfl) rfl, rfl⟩ isSubtype_stop ?_)
  refine wpAny_pure (hQ _ fun b o hb e => ?_)
  have k2 := Heap.get?_push_of_some { cls := .type "tuple", data := .seq ([] : List Value).toArray } (hu b o hb e)
  rw [Heap.get?_update_other _ _ (Nat.ne_of_gt (Heap.lt_size k2))]
  exact Heap.get?_push_of_some _ k2
theorem unpack_hot {t x1 : Addr} {items : Array Value} {Q : List Value → Shared → Prop} (hot : HotAt A x1 s.heap) (ht : IsTup s.heap t items)
    (hQ : ∀ h', Heap.ExtBut s.heap.objs.size s.heap h' → Q items.toList { s with heap := h' }) : wpAny (model prog w) A (unpackItems (.ref t) items.size none) Q E s := by
  have hlt : t ≠ s.heap.objs.size := by obtain ⟨o, ho, _⟩ := ht; exact Nat.ne_of_lt (Heap.lt_size ho)
  unfold unpackItems notIterableAtAll
  refine wpAny_bind (wpAny_bind (wpAny_specialOf ht.typeIs slot_tuple_iter.lookup (wpAny_pure ?_)))
  simp only [Bool.false_eq_true, if_false]
  refine wpAny_bind (wpAny_holding (iter_tuple ht (wpAny_bind (wpAny_holding (draw_tuple hlt items.size 0 _ _ ⟨_, Heap.get?_push_size _ rfl, rfl, rfl⟩ (ht.push _) (by omega) fun h₁ hit₁ hs₁ => ?_)))))
  have hall : List.take items.size (List.drop 0 items.toList) = items.toList := by rw [List.drop_zero]; exact List.take_of_length_le (by simp)
  rw [hall, if_neg (by simp)]
  have k : Heap.ExtBut s.heap.objs.size s.heap h₁ := fun b o hb e => hs₁.extBut b o hb (Heap.get?_push_of_some _ e)
  obtain ⟨hh, o1, vs1, h1, d1, c1⟩ := hot
  refine wpAny_bind (wpAny_holding (next_tuple_end_hot (x1 := x1) ⟨hh, o1, vs1, k x1 _ (Nat.ne_of_lt (Heap.lt_size h1)) h1, d1, c1⟩ hit₁ ((ht.push _).extBut hs₁.extBut hlt) (by simp) fun h₂ he₂ => ?_))
  simp only [Option.isSome_none, Bool.false_eq_true, if_false]
  exact wpAny_pure (hQ h₂ fun b o hb e => he₂ b o hb (k b o hb e))
theorem assign_tup_hot {env : Env} {elts : List Expr} {x1 : Addr} {kk : Nat} {pos : Pos} {t : Addr} {items : Array Value} {Q : Unit → Shared → Prop} (hot : HotAt A x1 s.heap) (ht : IsTup s.heap t items)
    (hn : (assignEach elts env).length = items.size) (hstar : (assignEach elts env).findIdx? (·.1) = none)
    (h : ∀ h', Heap.ExtBut s.heap.objs.size s.heap h' → wpAny (model prog w) A (assignInOrder ((assignEach elts env).map (·.2)) items.toList) Q E { s with heap := h' }) :
    wpAny (model prog w) A (assign (.Tuple elts kk pos) env (.ref t)) Q E s := by
  rw [assign_Tuple]
  refine wpAny_bind (wpAny_standAt ?_)
  unfold unpack
  rw [hn, hstar]
  exact wpAny_bind (wpAny_holding (unpack_hot hot ht h))
end
/-! ### contexts in which an error is handled -/
/-- every state of the context has the handled error, its context None -/
def HotI (X : Cx) : Prop := ∀ (pins : List (Addr × Obj)) (σ : L2.St) (H : Hp) (s : Shared), Inv X pins σ H s → ∃ x1, HotAt X.A x1 s.heap
theorem HotC.hotI {X : Cx} (c : HotC X) : HotI X := fun _ _ _ _ I => c.at I
section
variable {X : Cx}
theorem pg_tupH {es : List Expr} {k : Nat} {pos : Pos} {t : TGs} {n : Nat} (hc : HotI X) (h : PGs X es t)
    (hn : (assignEach es X.env).length = n := by rfl) (hst : (assignEach es X.env).findIdx? (·.1) = none := by rfl) : PG X (.Tuple es k pos) (gTup X.K n t) := by
  refine ⟨fun pins s σ H v u Q I r ⟨a, xs, e1, hq, hl, hw⟩ => ?_⟩
  subst e1
  cases r
  obtain ⟨its, rv, ht, hz⟩ := I.tuple hq
  obtain ⟨x1, hot⟩ := hc _ _ _ _ I
  refine assign_tup_hot hot ht (by simp [hn, ← hl, rv.length]) hst fun h' hx => ?_
  have I1 : Inv X pins σ H { s with heap := h' } := I.kept (t' := s.toks) fun b o e => hx b o (Nat.ne_of_lt (Heap.lt_size e)) e
  exact h.run pins _ σ H xs _ Q I1 (by simpa using rv) hw
end
section
variable {X : Cx}
/-- a comprehension's block bears the handled error, too -/
theorem hot_blk {pins : List (Addr × Obj)} {σ : L2.St} {H : Hp} {s : Shared} {scope : Scope} {cenv : Env} {fp : List Addr} (hc : HotC X) (I : Inv X pins σ H s) (hf : ∀ b ∈ fp, FpOk X pins H b) : HotI (X.blk s H scope cenv fp) := fun pins' σ' H' s' I' => by
  obtain ⟨p, ⟨hh, v1, e1, c1⟩, hp⟩ := hc
  obtain ⟨q1, q2, q3, q4, _⟩ := I.pin p (List.mem_append_left _ hp)
  refine ⟨p.1, hh, p.2, v1, I'.base.keep p.1 p.2 q1 q2 (fun z => ?_) (fun z => ?_), e1, c1⟩
  · rcases List.mem_cons.mp (I.stkSub p.1 z) with e | e
    · exact q3 e
    · exact q4 e
  · exact (hf p.1 z).2.2.2.2.2 p (List.mem_append_left _ hp) rfl
/-- [elt for tg in l if c], l a list: P i is what stands behind i turns -/
def tLcL (K : PySem.W.Frag) (tl : TE) (g : TG) (tt : TT) (te : TE) (vs : List Nat) : TE := fun σ H Q => tl σ H fun v H1 => ∃ (a : Addr) (xs : List V), v = .ref a ∧ SqL K H1 a xs ∧ ∀ D, H1 D = none → ∃ P : Nat → Hp → Prop, P 0 (upd H1 D (.lst [])) ∧ (∀ i H', P i H' → SqL K H' a xs) ∧ (∀ H', P xs.length H' → Q (.ref D) H') ∧
  ∀ (i : Nat) (x : V) (H' : Hp), xs[i]? = some x → P i H' → g x (wipe σ vs) H' fun σ2 H2 => wipe σ2 vs = wipe σ vs ∧ tt σ2 H2 fun b H3 => if b = true then te σ2 H3 fun y H4 => ∃ acc, H4 D = some (.lst acc) ∧ acc.length < sizeLine ∧ P (i + 1) (upd H4 D (.lst (acc ++ [y]))) else P (i + 1) H3
theorem pe_lcL {elt tg l c : Expr} {scope : Scope} {own : List (Str × Nat)} {pos : Pos} {tl : TE} {g : TG} {tt : TT} {te : TE} (hc : HotC X) (hN : X.N.Nodup) (hl : PE X l tl) (ok : BlkOk X.N X.env.scope scope own)
    (hg : ∀ (s : Shared) (H : Hp) (C : Addr) (cl : List (Str × Addr)) (fp : List Addr), HotI (X.blk s H scope (compEnvC scope cl C X.env) fp) → PG (X.blk s H scope (compEnvC scope cl C X.env) fp) tg g)
    (ht : ∀ (s : Shared) (H : Hp) (C : Addr) (cl : List (Str × Addr)) (fp : List Addr), PT (X.blk s H scope (compEnvC scope cl C X.env) fp) c tt)
    (he : ∀ (s : Shared) (H : Hp) (C : Addr) (cl : List (Str × Addr)) (fp : List Addr), PE (X.blk s H scope (compEnvC scope cl C X.env) fp) elt te) (hs : ∀ x, foldedSetIterable l X.env x = pure x) :
    PE X (.ListComp elt [⟨tg, l, [c], 0⟩] scope pos) (tLcL X.K tl g tt te (own.map (·.2))) := by
  refine ⟨fun pins s σ H Q I h => ?_⟩
  have caught : ∀ y ∈ scope.names, y.2 = .free → ∃ c, X.env.cells.lookup y.1 = some c := fun y hy e => (ok.free y hy e).elim (fun k => I.ok.has _ (.inl k)) fun k => I.ok.has _ (.inr k)
  rw [eval_ListComp]
  refine wpAny_comprehension_free (use := none) rfl hs (closure_ok caught) ok.kind (fun y hy e => by rw [ok.uniq y hy, e]) (thn (hl.run pins s σ H _ I h) fun u s1 ⟨v, H1, I1, r1, a, xs, ev, hq, q⟩ => ?_)
  subst ev
  cases r1
  obtain ⟨its, rv, pl, _⟩ := I1.list hq
  refine wpAny_pyIter_list pl.isList ?_
  -- the iterator at j, the new list at D
  obtain ⟨j, hj⟩ : ∃ j, j = s1.heap.objs.size := ⟨_, rfl⟩
  obtain ⟨s2, e2⟩ : ∃ s2 : Shared, s2 = { s1 with heap := s1.heap.push { cls := .type "list_iterator", data := .fields #[.ref a, .int 0 0] } } := ⟨_, rfl⟩
  have I2 : Inv X pins σ H1 s2 := by
    rw [e2]
    exact I1.kept (t' := s1.toks) fun b o e => Heap.get?_push_of_some _ e
  have z2 : s2.heap.objs.size = j + 1 := by
    rw [e2, hj]
    exact Heap.size_push _ _
  have it2 : s2.heap.IsListIter j a 0 := by
    rw [e2, hj]
    exact ⟨_, Heap.get?_push_size _ rfl, rfl, rfl⟩
  have fj : FpOk X pins H1 j := I1.fpOk (Nat.le_of_eq hj.symm) (I1.hok.fresh (Nat.le_of_eq hj.symm))
  rw [← e2, ← hj]
  refine wpAny_newObj_type (newEnv_comp ?_) (by show 0 ≤ sizeLine; decide)
  obtain ⟨D, hD⟩ : ∃ D, D = s2.heap.objs.size := ⟨_, rfl⟩
  have nD : H1 D = none := I2.hok.fresh (Nat.le_of_eq hD.symm)
  obtain ⟨P, p0, pq, pe, step⟩ := q D nD
  obtain ⟨s3, e3⟩ : ∃ s3 : Shared, s3 = { s2 with heap := s2.heap.push { cls := .type "list", data := .seq ([] : List Value).toArray } } := ⟨_, rfl⟩
  have up3 : ∀ b o, s2.heap.get? b = some o → s3.heap.get? b = some o := fun b o e => by
    rw [e3]
    exact Heap.get?_push_of_some _ e
  have hDj : j ≠ D := by
    rw [hD, z2]
    exact Nat.ne_of_lt (Nat.lt_succ_self j)
  have I3 : Inv X pins σ (upd H1 D (.lst [])) s3 := by
    rw [e3]
    exact I2.laid (t' := s2.toks) (fun b o e => Heap.get?_push_of_some _ e) (Nat.le_of_eq hD.symm) ⟨Nat.zero_le _, [], 0, .nil, by rw [hD]; exact Heap.get?_push_size _ rfl⟩
  have f3 : ∀ b ∈ [j], FpOk X pins (upd H1 D (.lst [])) b ∧ b < s3.heap.objs.size := fun b hb => by
    rw [List.mem_singleton.mp hb]
    refine ⟨⟨by rw [upd_ne hDj]; exact fj.1, fj.2⟩, ?_⟩
    obtain ⟨o, ho, _⟩ := it2
    exact Heap.lt_size (up3 _ _ ho)
  have it3 : s3.heap.IsListIter j a 0 := it2.at fun o e => up3 _ _ e
  rw [← hD, ← e3]
  have I4 := block_start I3 ok hN f3
  have hot := hot_blk hc I3 (scope := scope) (cenv := compEnvC scope (cellsFrom (s3.heap.objs.size + 1) scope.names (cloFrom X.env.cells scope.names [])) s3.heap.objs.size X.env) fun b hb => (f3 b hb).1
  have PGb := hg s3 (upd H1 D (.lst [])) s3.heap.objs.size (cellsFrom (s3.heap.objs.size + 1) scope.names (cloFrom X.env.cells scope.names [])) [j] hot
  have PTb := pts_one (ht s3 (upd H1 D (.lst [])) s3.heap.objs.size (cellsFrom (s3.heap.objs.size + 1) scope.names (cloFrom X.env.cells scope.names [])) [j])
  have PEb := he s3 (upd H1 D (.lst [])) s3.heap.objs.size (cellsFrom (s3.heap.objs.size + 1) scope.names (cloFrom X.env.cells scope.names [])) [j]
  show codeAny _ _ (.compStart (.ListComp elt [⟨tg, l, [c], 0⟩] scope pos) 0 (.ref j) (.ref D) (compEnvC scope (cellsFrom (s3.heap.objs.size + 1) scope.names (cloFrom X.env.cells scope.names [])) s3.heap.objs.size X.env)) (compPost (model X.prog X.w) X.A X.xe none (EP X pins σ Q) (.ref D) s3.heap.objs.size) { s3 with heap := pushCells (s3.heap.push { cls := .type "dict", data := .dict #[] }) scope.names }
  have ceL : (compEnvC scope (cellsFrom (s3.heap.objs.size + 1) scope.names (cloFrom X.env.cells scope.names [])) s3.heap.objs.size X.env).locals = s3.heap.objs.size := rfl
  generalize compEnvC scope (cellsFrom (s3.heap.objs.size + 1) scope.names (cloFrom X.env.cells scope.names [])) s3.heap.objs.size X.env = ce at I4 hot PGb PTb PEb ceL ⊢
  generalize upd H1 D (.lst []) = H3 at p0 I3 f3 I4 hot PGb PTb PEb
  obtain ⟨s4, e4⟩ : ∃ s4 : Shared, s4 = { s3 with heap := pushCells (s3.heap.push { cls := .type "dict", data := .dict #[] }) scope.names } := ⟨_, rfl⟩
  have it4 : s4.heap.IsListIter j a 0 := it3.at fun o e => by
    rw [e4]
    exact pushCells_keeps _ _ _ _ (Heap.get?_push_of_some _ e)
  rw [← e4] at I4 ⊢
  -- j in the block's states
  have fB : ∀ {σ' : L2.St} {H' : Hp} {s' : Shared}, Inv (X.blk s3 H3 scope ce [j]) [] σ' H' s' → H' j = none → FpOk (X.blk s3 H3 scope ce [j]) [] H' j := fun {σ' H' s'} J n =>
    ⟨n, (J.ok.exf j List.mem_cons_self).1, J.ok.exfs j List.mem_cons_self, .inl List.mem_cons_self, fun x c e => (J.ok.exf j List.mem_cons_self).2 x c e, fun p hp => by cases hp⟩
  have loop : codeAny (model X.prog X.w) X.A (.compLoop (.ListComp elt [⟨tg, l, [c], 0⟩] scope pos) 0 (.ref j) (.ref D) ce) (compPost (model X.prog X.w) X.A X.xe none (EP X pins σ Q) (.ref D) s3.heap.objs.size) s4 := by
    refine compLoop_any (fun n s' => ∃ i H', n + i = xs.length ∧ Inv (X.blk s3 H3 scope ce [j]) [] (wipe σ (own.map (·.2))) H' s' ∧ s'.heap.IsListIter j a i ∧ H' j = none ∧ P i H') ?_ xs.length ⟨0, H3, rfl, I4, it4, (f3 j List.mem_cons_self).1.1, p0⟩
    rintro n s5 ⟨i, H5, hn, I5, it5, n5, p5⟩
    obtain ⟨its5, rv5, pl5, _⟩ := I5.list (pq i H5 p5)
    have hlen := rv5.length
    cases n with
    | zero =>
      obtain ⟨x1, h1⟩ := hot _ _ _ _ I5
      have hi : i = xs.length := by omega
      refine next_list_end_hot h1 it5 pl5.isList (by simp; omega) fun h' eb => ?_
      have I6 := I5.turned (t' := s5.toks) (fun b o hb e => eb b o hb e) (fB I5 n5).1 (fB I5 n5).2.1 (fB I5 n5).2.2.2.1 (fB I5 n5).2.2.2.2.1 (fB I5 n5).2.2.2.2.2
      have I7 : Inv X pins σ H5 { s5 with heap := h', toks := s5.toks } := I3.call' (ch := [j]) I6.os I6.base I6.hok I6.bare fun b hb => ⟨(f3 b hb).1.2.2.2.1, (f3 b hb).1.2.1, (f3 b hb).1.2.2.2.2.1, (f3 b hb).1.2.2.2.2.2⟩
      have nC : H5 s3.heap.objs.size = none := by
        rw [← ceL]
        exact I6.free
      obtain ⟨m, hm, _⟩ := I6.loc
      have hm : h'.Ns ce.locals m := hm
      rw [ceL] at hm
      obtain ⟨c0, c1, c2, c3, c4, c5⟩ := I3.fpOk (Nat.le_refl _) nC
      exact ⟨m, hm, fun h'' sb => ⟨.ref D, H5, I7.turned (t' := s5.toks) (fun b o hb e => (sb.2 b hb).trans e) c0 c1 c3 c4 c5, rfl, pe H5 (by rw [← hi]; exact p5)⟩⟩
    | succ n =>
      have hx : xs[i]? = some (xs[i]'(by omega)) := List.getElem?_eq_getElem (by omega)
      generalize xs[i]'(by omega) = x at hx
      obtain ⟨u, hu, ru⟩ := rv5.get hx
      refine wpAny_pyNext_list_item it5 pl5.isList (x := u) (by simpa using hu) fun h' it6 sb => ?_
      have I6 := I5.turned (t' := s5.toks) (fun b o hb e => (sb.2 b hb).trans e) (fB I5 n5).1 (fB I5 n5).2.1 (fB I5 n5).2.2.2.1 (fB I5 n5).2.2.2.2.1 (fB I5 n5).2.2.2.2.2
      obtain ⟨o, eo, co, dO⟩ := id it6
      have I6' := I6.pinned (fp := [j]) (fun b hb => by rw [List.mem_singleton.mp hb]; exact fB I6 n5) (fun b hb => by rw [List.mem_singleton.mp hb]; exact ⟨o, eo, fun v z => by rw [dO] at z; cases z⟩)
      refine go_of eo co dO (by decide) (thnF (PGb.run _ _ _ H5 x u _ I6' ru (step i x H5 hx p5)) fun _ s8 ⟨σ8, H8, I8, w8, q8⟩ => thnF (PTb.run _ s8 σ8 H8 _ I8 q8) fun bb s9 ⟨H9, I9, q9⟩ => ?_)
      have fin : ∀ {s' : Shared} {H' : Hp}, Inv (X.blk s3 H3 scope ce [j]) ([] ++ pinsAt [j] h') σ8 H' s' → P (i + 1) H' → ∃ m, m < n + 1 ∧ ∃ i H', m + i = xs.length ∧ Inv (X.blk s3 H3 scope ce [j]) [] (wipe σ (own.map (·.2))) H' s' ∧ s'.heap.IsListIter j a i ∧ H' j = none ∧ P i H' := fun {s' H'} J nx => by
        have pj := J.pin (j, o) (List.mem_append_right _ (List.mem_append_right _ (mem_pinsAt List.mem_cons_self eo)))
        refine ⟨n, Nat.lt_succ_self n, i + 1, H', by omega, (J.unpinned (pins := [])).weak (by rw [← w8, wipe_length]) (fun k v e => ?_), it6.at fun o' e => ?_, pj.2.1, nx⟩
        · rw [← w8] at e
          exact (wipe_some e).1
        · have : o' = o := Option.some.inj (e.symm.trans eo)
          rw [this]
          exact pj.1
      cases bb with
      | false => exact fin I9 q9
      | true => exact thnF (PEb.run _ s9 σ8 H9 _ I9 q9) fun z s10 ⟨y, H10, I10, r10, acc, hd10, hz10, nx⟩ => app_ok (X := X.blk s3 H3 scope ce [j]) I10 hd10 hz10 r10 fun s11 I11 => fin I11 nx
  exact codeAny_compStart_list loop (wpAny_pyIter_listiter it4 loop)
end
end HotL

set_option maxRecDepth 100000
set_option maxHeartbeats 4000000
namespace Mn
open PySem PySem.Spec PyProof.Rows L2
/-! ## a def that tries a call -/
def ixOf (x : Str) : List Str → Option Nat
  | [] => none
  | y :: r => if y == x then some 0 else (ixOf x r).map (· + 1)
theorem ixOf_get {x : Str} : ∀ {l : List Str} {j : Nat}, ixOf x l = some j → l[j]? = some x
  | [], j, h => by cases h
  | y :: r, j, h => by
    unfold ixOf at h
    split at h
    · rename_i q
      cases h
      rw [← eq_of_beq q]; rfl
    · obtain ⟨i, e, rfl⟩ := Option.map_eq_some_iff.mp h
      rw [List.getElem?_cons_succ]
      exact ixOf_get e
def subAt (T : Tb0) (k j : Nat) : Option Bool := (T.sub[k]?).bind (·[j]?)
def litX : Expr → Option D
  | .Constant (.str s) _ _ => some (.str s)
  | .Constant (.int i) _ _ => some (.int i)
  | .Constant (.bool b) _ _ => some (.bl b)
  | .Constant .none _ _ => some .non
  | .UnaryOp .USub (.Constant (.int i) _ _) _ => some (.int (-i))
  | _ => none
/-- isinstance(e, C), e an error of the class k -/
def isEV (T : Tb0) (sc : Scope) (e : Str) (k : Nat) : Expr → Option Bool
  | .Call (.Name f _) vs ks _ => (match vs with
    | [.Name e' _, .Name C _] => if ks.isEmpty && (f == ("isinstance" : Str) && (gloB sc f && (e' == e && (visB sc e && (nmB e && (gloB sc C && nmB C)))))) then (ixOf C T.cls).bind fun j => subAt T k j else none
    | _ => none)
  | _ => none
def hxV (T : Tb0) (sc : Scope) (e : Str) (k : Nat) : Nat → Expr → Option D
  | 0, _ => none
  | n + 1, x => match litX x with
    | some d => some d
    | none => match isEV T sc e k x with
      | some b => some (.bl b)
      | none => match x with
        | .IfExp t a b _ => (isEV T sc e k t).bind fun c => if c then hxV T sc e k n a else hxV T sc e k n b
        | _ => none
/-- what the classes of errors are to one another -/
structure ClW (T : Tb) (K : PySem.W.Frag) (mg : Str → Option Value) : Prop where
  ec : ∀ (k : Nat) (y : Str) (D : Addr), T.cls[k]? = some y → mg y = some (.ref D) → ExcC K D
  kit : ∀ (k j : Nat) (y z : Str) (D E : Addr) (b : Bool), T.cls[k]? = some y → T.cls[j]? = some z → mg y = some (.ref D) → mg z = some (.ref E) → subAt T k j = some b → PySem.W.kitOne K (.ref D) (.ref E) = some b ∧ PySem.W.exmOne K (.ref D) (.ref E) = some b
  mgs : ∀ (k : Nat) (y : Str), T.cls[k]? = some y → ∃ D, mg y = some (.ref D)
section
variable {X : Cx} {T : Tb}
theorem lit_pe {x : Expr} {d : D} (h : litX x = some d) : PE X x (fun σ H Q => ∃ v, litV d = some v ∧ Q v H) := by
  unfold litX at h
  split at h
  · cases h
    exact ⟨fun pins s σ H Q I ⟨v, e, q⟩ => by cases e; exact pe_str.run pins s σ H Q I q⟩
  · cases h
    exact ⟨fun pins s σ H Q I ⟨v, e, q⟩ => by cases e; exact pe_int.run pins s σ H Q I q⟩
  · cases h
    exact ⟨fun pins s σ H Q I ⟨v, e, q⟩ => by cases e; exact pe_bl.run pins s σ H Q I q⟩
  · cases h
    exact ⟨fun pins s σ H Q I ⟨v, e, q⟩ => by cases e; exact pe_non.run pins s σ H Q I q⟩
  · cases h
    exact ⟨fun pins s σ H Q I ⟨v, e, q⟩ => by
      cases e
      exact (pe_un rUW_u pe_int).run pins s σ H Q I (rUW_of un_neg ⟨_, rfl, q⟩)⟩
  · cases h
/-- what an except suite sees -/
structure SuW (T : Tb) (Y : Cx) (a : Addr) (k : Nat) (e : Str) : Prop where
  cr : ∃ D, (∀ j z E b, T.cls[j]? = some z → Y.mg z = some (.ref E) → subAt T k j = some b → PySem.W.kitOne Y.K (.ref D) (.ref E) = some b) ∧ CallR Y (.builtin "isinstance") (rIsE Y.K D a)
  mgs : ∀ (k : Nat) (y : Str), T.cls[k]? = some y → ∃ D, Y.mg y = some (.ref D)
  nm : Y.N[1]? = some e
  is : Y.mg "isinstance" = none
theorem isE_pe {Y : Cx} {a : Addr} {k : Nat} {e : Str} (S : SuW T Y a k e) {x : Expr} {b : Bool} (h : isEV T Y.env.scope e k x = some b) :
    PE Y x (fun σ H Q => σ[1]? = some (some (.ref a)) ∧ Q (.bl b) H) ∧ ∀ whole, isTrue x Y.env whole = (do let v ← whole; standAt x.pos; holding [v] (truthy v)) := by
  unfold isEV at h
  split at h
  · rename_i f pf vs ks pos
    split at h
    · rename_i e' pe C pc
      split at h
      · rename_i q
        obtain ⟨q0, q1, q2, q3, q4, q5, q67⟩ := and7 q
        obtain ⟨q6, q7⟩ := and_t q67
        cases eq_of_beq q1
        cases eq_of_beq q3
        cases ks with
        | cons _ _ => cases q0
        | nil =>
          obtain ⟨j, e1, e2⟩ := Option.bind_eq_some_iff.mp h
          have e3 := ixOf_get e1
          obtain ⟨E, m1⟩ := S.mgs j C e3
          obtain ⟨D, g1, g2⟩ := S.cr
          refine ⟨⟨fun pins s σ H Q I ⟨hs, hq⟩ => ?_⟩, fun whole => rfl⟩
          have p1 : PE Y (.Name e pe) (tVar 1) := pe_var S.nm (vis_of q4) (nm_of q5).1 (nm_of q5).2.1
          have p2 : PE Y (.Name C pc) (tC (.ref E)) := pe_glob (v := .ref E) (glo_of q6) m1 rfl (nm_of q7).1
          refine (pe_callB (id := "isinstance") g2 (glo_of q2) S.is (by decide +kernel) (pa_cons p1 (pa_cons p2 pa_nil rfl) rfl) (by decide +kernel) (by decide +kernel) rfl rfl).run pins s σ H Q I ?_
          exact ⟨_, hs, .ref E, .ref E, b, rfl, fun u r => (by cases r; rfl), g1 j C E b e3 m1 e2, hq⟩
      · cases h
    · cases h
  · cases h
theorem hx_pe {Y : Cx} {a : Addr} {k : Nat} {e : Str} (S : SuW T Y a k e) : ∀ (n : Nat) {x : Expr} {d : D}, hxV T Y.env.scope e k n x = some d → PE Y x (fun σ H Q => σ[1]? = some (some (.ref a)) ∧ ∃ v, litV d = some v ∧ Q v H)
  | 0, x, d, h => by cases h
  | n + 1, x, d, h => by
    unfold hxV at h
    split at h
    · rename_i d' e1
      cases h
      exact ⟨fun pins s σ H Q I q => (lit_pe e1).run pins s σ H Q I q.2⟩
    · split at h
      · rename_i b e1
        cases h
        exact ⟨fun pins s σ H Q I ⟨q1, v, q2, q3⟩ => by cases q2; exact (isE_pe S e1).1.run pins s σ H Q I ⟨q1, q3⟩⟩
      · split at h
        · rename_i t x1 x2 pos _ _
          obtain ⟨b, e1, e2⟩ := Option.bind_eq_some_iff.mp h
          obtain ⟨g1, g2⟩ := isE_pe S e1
          refine ⟨fun pins s σ H Q I q => ?_⟩
          cases b with
          | true =>
            have := hx_pe S n (x := x1) (d := d) (by simpa using e2)
            exact (pe_ifExp (pt_val g1 g2) this (peW (e := x2))).run pins s σ H Q I ⟨q.1, true, rfl, iteT q⟩
          | false =>
            have := hx_pe S n (x := x2) (d := d) (by simpa using e2)
            exact (pe_ifExp (pt_val g1 g2) (peW (e := x1)) this).run pins s σ H Q I ⟨q.1, false, rfl, iteF q⟩
        · cases h
end
/-! ### a suite that joins the words of the classes that fit -/
/-- (word, isinstance(e, C)) -/
def pvE (T : Tb0) (sc : Scope) (e : Str) (k : Nat) : Expr → Option (Str × Bool)
  | .Tuple [.Constant (.str w) _ _, x] _ _ => (isEV T sc e k x).map fun b => (w, b)
  | _ => none
def pvL (T : Tb0) (sc : Scope) (e : Str) (k : Nat) : List Expr → Option (List (Str × Bool))
  | [] => some []
  | x :: r => (pvE T sc e k x).bind fun p => (pvL T sc e k r).map (p :: ·)
section
variable {T : Tb}
theorem Same.trans {H H1 H2 : Hp} (a : Same H H1) (b : Same H1 H2) : Same H H2 := fun x o h => b x o (a x o h)
theorem Same.put {H : Hp} {p : Addr} {o : HO} (h : H p = none) : Same H (upd H p o) := fun a u e => by
  rw [upd_ne (ne_of_none e h)]
  exact e
theorem Same.sqT {H H' : Hp} (s : Same H H') {K : PySem.W.Frag} {a : Addr} {vs : List V} (h : SqT K H a vs) : SqT K H' a vs := (Ext.of (kk := none) s).sqT h
/-- the words' tuples, made one behind another -/
theorem words_pa {Y : Cx} {a : Addr} {k : Nat} {e : Str} (S : SuW T Y a k e) : ∀ (es : List Expr) (ws : List (Str × Bool)), pvL T Y.env.scope e k es = some ws →
    PA Y es (fun σ H Q => σ[1]? = some (some (.ref a)) ∧ ∀ (as : List Addr) (H' : Hp), Same H H' → Paired (fun p wb => SqT Y.K H' p [.str wb.1, .bl wb.2]) as ws → Q (as.map V.ref) H')
  | [], ws, h => by
    cases h
    exact ⟨fun pos pins s σ H Q I q => pa_nil.run pos pins s σ H Q I (q.2 [] H (fun _ _ z => z) .nil)⟩
  | x :: es, ws, h => by
    obtain ⟨p, e1, h⟩ := Option.bind_eq_some_iff.mp h
    obtain ⟨ws', e2, rfl⟩ := Option.map_eq_some_iff.mp h
    have ih := words_pa S es ws' e2
    unfold pvE at e1
    split at e1
    · rename_i w j jp y kk tp
      obtain ⟨b, e3, rfl⟩ := Option.map_eq_some_iff.mp e1
      have py := (isE_pe S e3).1
      have pys : starEach [y] Y.env = (false, eval y Y.env) :: starEach [] Y.env := by
        unfold isEV at e3
        split at e3
        · rfl
        · cases e3
      refine ⟨fun pos pins s σ H Q I q => (pa_cons (pe_tup (pa_cons pe_str (pa_cons py pa_nil pys))) ih).run pos pins s σ H Q I ?_⟩
      refine ⟨q.1, by show 2 ≤ sizeLine; decide, fun p np => ⟨q.1, fun as H' s' pr => ?_⟩⟩
      exact q.2 (p :: as) H' (Same.trans (Same.put np) s') (.cons (Same.sqT s' (.of upd_same)) pr)
    · cases e1
end
section
variable {T : Tb}
theorem paired_get {α β : Type} {R : α → β → Prop} : ∀ {as : List α} {bs : List β}, Paired R as bs → ∀ {i : Nat} {a : α}, as[i]? = some a → ∃ b, bs[i]? = some b ∧ R a b
  | _, _, .nil, i, a, h => by simp at h
  | _, _, .cons r p, 0, a, h => by
    cases h
    exact ⟨_, rfl, r⟩
  | _, _, .cons r p, i + 1, a, h => by
    rw [List.getElem?_cons_succ] at h ⊢
    exact paired_get p h
theorem wipe2 (σ : L2.St) (v u : V) (h : 4 ≤ σ.length) : L2.wipe (((L2.wipe σ [2, 3]).set 2 (some v)).set 3 (some u)) [2, 3] = L2.wipe σ [2, 3] := by
  refine wipe_agr (is := [2, 3]) ⟨by rw [List.length_set, List.length_set], fun j hj => ?_⟩ fun i hi => hi
  have h2 : j ≠ 2 := fun z => hj (by rw [z]; simp)
  have h3 : j ≠ 3 := fun z => hj (by rw [z]; simp)
  rw [List.getElem?_set_ne (Ne.symm h3), List.getElem?_set_ne (Ne.symm h2)]
/-- p = [(word, isinstance(e, C)), ..]; return sep.join([w for w, b in p if b]) -/
theorem words_ps {Y : Cx} {a : Addr} {k : Nat} {e w b p : Str} {sep : Str} (S : SuW T Y a k e) (hot : L2H.HotC Y) (hN : Y.N.Nodup) (n2 : Y.N[2]? = some w) (n3 : Y.N[3]? = some b) (n4 : Y.N[4]? = some p) (hp : Y.env.scope.names.lookup p = some .local) (pn : nmB p = true) (wn : nmB w = true) (bn : nmB b = true)
    {scope : Scope} (blk : blkC Y.N Y.env.scope scope [(w, 2), (b, 3)] = true) (hw : scope.names.lookup w = some .local) (hb : scope.names.lookup b = some .local) {es : List Expr} {ws : List (Str × Bool)} (hes : pvL T Y.env.scope e k es = some ws) (hl : ws.length ≤ 1000)
    (hj : ((((ws.filter (·.2)).map (·.1)).map (·.length)).sum + ((ws.filter (·.2)).map (·.1)).length * sep.length) ≤ 16777216)
    {pp lp ap p1 p2 p3 p4 p5 p6 p7 at' cp rp sp : Pos} {j kk : Nat} (hline : (at'.endLine == cp.line) = true) :
    PSs Y [.Assign [.Name p pp] (.List es lp) ap, .Return (some (.Call (.Attribute (.Constant (.str sep) j sp) "join" at') [.ListComp (.Name w p1) [⟨.Tuple [.Name w p2, .Name b p3] kk p4, .Name p p5, [.Name b p6], 0⟩] scope p7] [] cp)) rp]
      (fun D σ H => (σ[1]? = some (some (.ref a)) ∧ 5 ≤ σ.length) ∧ ∀ H2, Same H H2 → D.rt (.str (Txt.join sep ((ws.filter (·.2)).map (·.1)))) H2) := by
  refine ⟨fun pins s σ H D I ⟨⟨h1, hlen⟩, hQ⟩ => ?_⟩
  have keep : ∀ {x : Str}, scope.names.lookup x = some .local → (L2.relS scope Y.env.scope).names.lookup x = some .local := fun h => lookup_relS_keep (by decide) h
  obtain ⟨w1, w2, _⟩ := nm_of wn
  obtain ⟨b1, b2, _⟩ := nm_of bn
  obtain ⟨q1, q2, _⟩ := nm_of pn
  have lc := HotL.pe_lcL (X := Y) (elt := .Name w p1) (tg := .Tuple [.Name w p2, .Name b p3] kk p4) (l := .Name p p5) (c := .Name b p6) (pos := p7) (own := [(w, 2), (b, 3)]) (tl := tVar 4) (g := gTup Y.K 2 (gCons (gName 2) (gCons (gName 3) gNil))) (tt := tB (tVar 3)) (te := tVar 2) hot hN (pe_var n4 (.inl hp) q1 q2) (blkOk_by blk)
    (fun s' H' C cl fp hI => HotL.pg_tupH (X := Y.blk s' H' scope (compEnvC scope cl C Y.env) fp) (n := 2) hI (pgs_cons (pg_name hN n2 (.inl (keep hw)) (.inr (keep hw))) (pgs_cons (pg_name hN n3 (.inl (keep hb)) (.inr (keep hb))) pgs_nil)))
    (fun s' H' C cl fp => pt_val (pe_var (X := Y.blk s' H' scope (compEnvC scope cl C Y.env) fp) n3 (.inl (keep hb)) b1 b2))
    (fun s' H' C cl fp => pe_var (X := Y.blk s' H' scope (compEnvC scope cl C Y.env) fp) n2 (.inl (keep hw)) w1 w2) (fun _ => rfl)
  refine (pss_cons (ps_set (X := Y) hN n4 (.inl hp) (pe_lst (words_pa S es ws hes)) rfl (.inr hp)) (pss_one (ps_ret (pe_join pe_str lc rfl rfl hline)))).run pins s σ H D I ?_
  refine ⟨h1, fun as H' sm pr => ?_⟩
  have hal : as.length = ws.length := pr.length
  refine ⟨by rw [List.length_map, hal, sizeLine_eq]; omega, fun L nL => ⟨⟨sep, rfl⟩, .ref L, ?_, L, as.map V.ref, rfl, .of upd_same, fun Dn nD => ?_⟩⟩
  · rw [List.getElem?_set, if_pos rfl, if_pos (by omega)]
  · have hLD : L ≠ Dn := fun z => by
      rw [z, upd_same] at nD
      cases nD
    have up : ∀ (l : List V), Same H' (upd (upd H' L (.lst (as.map V.ref))) Dn (.lst l)) := fun l => Same.trans (Same.put nL) (Same.put nD)
    refine ⟨fun i Hc => Hc = upd (upd H' L (.lst (as.map V.ref))) Dn (.lst ((((ws.take i).filter (·.2)).map (·.1)).map V.str)), rfl, ?_, ?_, ?_⟩
    · rintro i Hc rfl
      exact .of (by rw [upd_ne hLD, upd_same])
    · rintro Hc rfl
      rw [List.length_map, hal, List.take_length]
      exact ⟨sep, Dn, _, rfl, rfl, .inl (.of upd_same), hj, hQ _ (Same.trans sm (up _))⟩
    · rintro i x Hc hx rfl
      rw [List.getElem?_map] at hx
      obtain ⟨pi, hpi, rfl⟩ := Option.map_eq_some_iff.mp hx
      have hi : i < ws.length := by
        rw [← hal]
        exact (List.getElem?_eq_some_iff.mp hpi).1
      obtain ⟨wb, hwb, hsq⟩ := paired_get pr hpi
      refine ⟨pi, [.str wb.1, .bl wb.2], rfl, Same.sqT (up _) hsq, rfl, .str wb.1, [.bl wb.2], rfl, .bl wb.2, [], rfl, rfl, ?_, .bl wb.2, ?_, wb.2, rfl, ?_⟩
      · exact wipe2 _ _ _ (by rw [List.length_set]; omega)
      · rw [List.getElem?_set, if_pos rfl, if_pos (by rw [List.length_set, L2.wipe_length, List.length_set]; omega)]
      · have e1 : ws.take (i + 1) = ws.take i ++ [wb] := by rw [List.take_succ, hwb]; rfl
        show (if wb.2 = true then tVar 2 _ _ fun y H4 => ∃ acc, H4 Dn = some (.lst acc) ∧ acc.length < sizeLine ∧ upd H4 Dn (.lst (acc ++ [y])) = upd (upd H' L (.lst (as.map V.ref))) Dn (.lst ((((ws.take (i + 1)).filter (·.2)).map (·.1)).map V.str))
          else upd (upd H' L (.lst (as.map V.ref))) Dn (.lst ((((ws.take i).filter (·.2)).map (·.1)).map V.str)) = upd (upd H' L (.lst (as.map V.ref))) Dn (.lst ((((ws.take (i + 1)).filter (·.2)).map (·.1)).map V.str)))
        rw [e1, List.filter_append]
        cases h2 : wb.2 with
        | false =>
          rw [if_neg Bool.false_ne_true]
          simp [h2]
        | true =>
          rw [if_pos rfl]
          refine ⟨.str wb.1, ?_, _, upd_same, ?_, ?_⟩
          · rw [List.getElem?_set_ne (by decide), List.getElem?_set, if_pos rfl, if_pos (by rw [L2.wipe_length, List.length_set]; omega)]
          · have : ((ws.take i).filter (·.2)).length ≤ (ws.take i).length := List.length_filter_le _ _
            rw [List.length_map, List.length_map, sizeLine_eq]
            rw [List.length_take] at this
            omega
          · rw [upd_upd]
            simp [h2]
end
/-- the names of such a def: what it calls, the error, and those of a comprehension -/
def suN (a e : Str) : List Stmt → List Str
  | [.Assign [.Name p _] _ _, .Return (some (.Call _ [.ListComp _ [⟨.Tuple [.Name w _, .Name b _] _ _, _, _, _⟩] _ _] _ _)) _] => [a, e, w, b, p]
  | _ => [a, e]
theorem suN_two (a e : Str) (su : List Stmt) : (suN a e su)[0]? = some a ∧ (suN a e su)[1]? = some e ∧ (suN a e su).take 1 = [a] ∧ 2 ≤ (suN a e su).length := by
  unfold suN
  split <;> exact ⟨rfl, rfl, rfl, by simp⟩
/-- what the suite hands out for an error of the class k -/
def suD (T : Tb0) (N : List Str) (sc : Scope) (e : Str) (k : Nat) : List Stmt → Option D
  | [.Return (some hx) _] => hxV T sc e k 9 hx
  | [.Assign [.Name p _] (.List es _) _, .Return (some (.Call (.Attribute (.Constant (.str sep) _ _) m at') [.ListComp (.Name w1 _) [⟨.Tuple [.Name w _, .Name b _] _ _, .Name p1 _, [.Name b1 _], 0⟩] scope _] [] cp)) _] =>
    if (m == "join" && (w1 == w && (b1 == b && (p1 == p && (at'.endLine == cp.line && (decide (N[2]? = some w) && (decide (N[3]? = some b) && (decide (N[4]? = some p) && (decide (sc.names.lookup p = some .local) && (nmB p && (nmB w && (nmB b && (blkC N sc scope [(w, 2), (b, 3)] && (decide (scope.names.lookup w = some .local) && decide (scope.names.lookup b = some .local))))))))))))))) then
      (pvL T sc e k es).bind fun ws => if ws.length ≤ 1000 ∧ ((((ws.filter (·.2)).map (·.1)).map (·.length)).sum + ((ws.filter (·.2)).map (·.1)).length * sep.length) ≤ 16777216 then some (.str (Txt.join sep ((ws.filter (·.2)).map (·.1)))) else none
    else none
  | _ => none
section
variable {T : Tb}
theorem su_ps {Y : Cx} {a : Addr} {k : Nat} {e : Str} (S : SuW T Y a k e) (hot : L2H.HotC Y) (hN : Y.N.Nodup) {su : List Stmt} {d : D} (h : suD T.toTb0 Y.N Y.env.scope e k su = some d) :
    PSs Y su (fun D σ H => (σ[1]? = some (some (.ref a)) ∧ σ.length = Y.N.length) ∧ ∃ v, litV d = some v ∧ ∀ H2, Same H H2 → D.rt v H2) := by
  unfold suD at h
  split at h
  · exact ⟨fun pins s σ H D I ⟨⟨q1, q2⟩, v, q3, q4⟩ => (pss_one (ps_ret (hx_pe S 9 h))).run pins s σ H D I ⟨q1, v, q3, q4 H fun _ _ z => z⟩⟩
  · rename_i p pp es lp ap sep j sp m at' w1 p1 w p2 b p3 kk p4 pn p5 b1 p6 scope p7 cp rp
    split at h
    · rename_i g
      simp only [Bool.and_eq_true, decide_eq_true_eq] at g
      obtain ⟨g1, g2, g3, g4, g5, g6, g7, g8, g9, g10, g11, g12, g13, g14, g15⟩ := g
      obtain ⟨ws, e1, e2⟩ := Option.bind_eq_some_iff.mp h
      split at e2
      · rename_i l
        cases e2
        cases eq_of_beq g1
        cases eq_of_beq g2
        cases eq_of_beq g3
        cases eq_of_beq g4
        have n5 : 5 ≤ Y.N.length := by
          have := (List.getElem?_eq_some_iff.mp g8).1
          omega
        have q := words_ps (T := T) (at' := at') (cp := cp) S hot hN g6 g7 g8 g9 g10 g11 g12 g13 g14 g15 e1 l.1 l.2 g5 (pp := pp) (lp := lp) (ap := ap) (p1 := p1) (p2 := p2) (p3 := p3) (p4 := p4) (p5 := p5) (p6 := p6) (p7 := p7) (rp := rp) (sp := sp) (j := j) (kk := kk)
        exact ⟨fun pins s σ H D I ⟨⟨q1, q2⟩, v, q3, q4⟩ => q.run pins s σ H D I ⟨⟨q1, by omega⟩, fun H2 s2 => by cases q3; exact q4 H2 s2⟩⟩
      · cases e2
    · cases h
  · cases h
end
/-- the parts of such a def: the name that it calls, the class that it catches, the error's name, its suite, what it hands out -/
def tdBody : List Stmt → Option (Str × Str × Str × Stmt × List Stmt × Expr)
  | [.Try [.Expr (.Call (.Name a _) [] [] _) _] hs [] [] _, .Return (some rx) _] => (match hs with
    | [.ExceptHandler (some (.Name E _)) (some e) (s0 :: su) _] => some (a, E, e, s0, su, rx)
    | _ => none)
  | _ => none
def allIx (f : Nat → Bool) : Nat → Bool
  | 0 => true
  | n + 1 => f n && allIx f n
theorem allIx_get {f : Nat → Bool} : ∀ {n i : Nat}, allIx f n = true → i < n → f i = true
  | n + 1, i, h, hi => by
    obtain ⟨h1, h2⟩ := and_t (show (f n && allIx f n) = true from h)
    by_cases q : i = n
    · rw [q]; exact h1
    · exact allIx_get h2 (by omega)
/-- is the def at st one that tries a call, with such answers? -/
def okTd (T : Tb0) (h : List D) (r : D) (st : Stmt) : Bool := match tdBody (defBody st) with
  | none => false
  | some (a, E, e, s0, su, rx) => plainPs (defArgs st) && (decide ((defArgs st).args.map (·.arg) = [a]) && (decide ((suN a e (s0 :: su)).Nodup) && (decide ((defScope st).kind = .function) && (!(defScope st).isCoroutine && (!(defScope st).isGenerator && (locB (defScope st) a && (nmB a && (
      nofreeB (defScope st) && (decide ((defScope st).names.lookup e = some .local) && (gloB (defScope st) E && (nmB E && (decide (h.length = T.cls.length) && ((match ixOf E T.cls with
        | some j => allIx (fun k => decide (subAt T k j = some true)) T.cls.length
        | none => false) && (allIx (fun k => match suD T (suN a e (s0 :: su)) (defScope st) e k (s0 :: su), h[k]? with
          | some d, some d' => litB d d'
          | _, _ => false) T.cls.length && (match litX rx with
            | some d => litB d r
            | none => false)))))))))))))))
theorem tdBody_eq {bd : List Stmt} {a E e : Str} {s0 : Stmt} {su : List Stmt} {rx : Expr} (h : tdBody bd = some (a, E, e, s0, su, rx)) : ∃ p1 p2 p3 p4 p6 p7 p8, bd = [.Try [.Expr (.Call (.Name a p1) [] [] p2) p3] [.ExceptHandler (some (.Name E p4)) (some e) (s0 :: su) p6] [] [] p7, .Return (some rx) p8] := by
  unfold tdBody at h
  split at h
  · split at h
    · cases h
      exact ⟨_, _, _, _, _, _, _, rfl⟩
    · cases h
  · cases h
section
variable {P : Program} {w : World} {K : PySem.W.Frag} {mg : Str → Option Value} {base : Heap} {T : Tb}
theorem td_bind {p : Arguments} {a x qual : Str} {body : List Stmt} {scope : Scope} {kV doc pm cdv ct : Value} {an : Option Addr} (h1 : plainPs p = true) (h2 : p.args.map (·.arg) = [a]) (us : List Value) (hu : us.length = ([a] : List Str).length) : bindArgs (PySem.W.fnOf x qual p body scope .none kV doc pm an cdv ct) ⟨us, []⟩ = pure (([a] : List Str).zip us) := by
  have e := plainPs_eq h1
  generalize p.args = as at e h2
  subst e
  have := bind_plain (x := x) (qual := qual) (body := body) (scope := scope) (kV := kV) (doc := doc) (pm := pm) (cdv := cdv) (ct := ct) (an := an) as us (by rw [hu, ← h2, List.length_map]) (by rw [h2]; exact List.nodup_cons.mpr ⟨by simp, List.nodup_nil⟩)
  rw [h2] at this
  exact this
theorem takes0N {X : Cx} : L2N.Takes X (fun _ _ _ _ => False) := fun _ _ x => by
  obtain ⟨_, _, _, _, _, _, _, _, _, _, _, _, _, _, _, _, z⟩ := x
  exact z.elim
theorem td_ok (W : ClW T K mg) (hi : mg "isinstance" = none) {x : Str} {h : List D} {r : D} {st : Stmt} (ho : okTd T h r st = true) {f : Addr} {fdv : FuncData} (F : FunD K x x (defArgs st) (defBody st) (defScope st) [] [] f fdv) (hm : mg x = some (.ref f)) : TdOk P w K mg base T x h r := by
  unfold okTd at ho
  split at ho
  · cases ho
  · rename_i a E e s0 su rx eb
    obtain ⟨h1, h2, h3, h4, h5, h6, hr⟩ := and7 ho
    obtain ⟨h7, h8, h9, h10, h11, h12, hr⟩ := and7 hr
    obtain ⟨h13, h14, h15, h16⟩ := and4 hr
    obtain ⟨p1, p2, p3, p4, p6, p7, p8, eb⟩ := tdBody_eq eb
    obtain ⟨nA, nE, nT, nL⟩ := suN_two a e (s0 :: su)
    generalize suN a e (s0 :: su) = N at h3 h15 nA nE nT nL
    have h2 := of_decide_eq_true h2
    have nd : N.Nodup := of_decide_eq_true h3
    have hel := of_decide_eq_true h10
    have h13 := of_decide_eq_true h13
    obtain ⟨c1, c2, c3⟩ := nm_of h8
    obtain ⟨d1, d2, d3⟩ := nm_of h12
    have S : FnScope N [a] (defScope st) := ⟨of_decide_eq_true h4, by simpa using h5, by simpa using h6, nd, nT, fun y hy => by
      have : y = a := by simpa using hy
      rw [this]; exact loc_of h7, fun y hy z => by
      have := List.all_eq_true.mp h9 y hy
      rw [z] at this
      cases this⟩
    split at h14
    · rename_i jE ejE
      have ejE := ixOf_get ejE
      obtain ⟨DE, mE⟩ := W.mgs jE E ejE
      have bnd : L2.Binds K fdv [a] [] := F.bindsN fun _ _ _ _ _ _ us hu => td_bind h1 h2 us hu
      obtain ⟨o1, o2, v1, v2, v3, v4, v5, v6, v7, v8, ef, l, c, _, _⟩ := F.ex
      subst ef
      refine ⟨f, defArgs st, defBody st, defScope st, v1, v2, v3, v4, v6, v7, o1, v5, o2, v8, N, a, hm, F.kp, l, c, bnd, S, nA, ?_, h8, ?_⟩
      · rcases loc_of h7 with z | z
        · exact .inl z
        · exact .inr (.inl z)
      · rintro X rfl rfl rfl rfl rfl q fl c' s H Q tl act hc hT
        rw [eb]
        let Z := cxOf C8.CX0 X.prog X.w X.K X.mg X.base N x (defScope st) f v6 X.A X.stack s H C8.E0
        have kindE : Z.nox.env.kindOf e = some .local := hel
        refine ⟨_, pss_cons (L2N.ps_try_as (X := Z.nox) (i := 1) (c := .ref DE) (Wout := fun _ _ _ _ => False) (tb := fun W D σ H => ∃ V : XK, (∀ cls d σ' H', V cls d H' → W cls d σ' H') ∧ σ[0]? = some (some (.ref fl)) ∧ H c' = some (LamX.CodeO c' q) ∧ tl V H (fun _ H1 => D.nx σ H1))
          (ts := fun b cls d D σ H => ∃ σ0 : L2.St, σ = σ0.set 1 (some (.ref b)) ∧ tdW X.mg T h D.rt cls d H)
          rfl rfl nd nE kindE ⟨glo_of (X := Z.nox) h11, d1, .inl mE⟩ takes0N (fun W pn xe tk _ => pss_one ⟨fun pins s' σ H' D I z => ?_⟩) (fun b oe cls d pn hz hf => ⟨fun pins s' σ H' D I z => ?_⟩))
          (pss_one (t := fun D σ H => ∃ v, litV r = some v ∧ D.rt v H) ⟨fun pins s' σ H' D I z => ?_⟩), ?_⟩
        · obtain ⟨V, z1, z2, z3, z4⟩ := z
          exact (ps_expr (act W pn xe V p1 p2 tk z1)).run pins s' σ H' D I ⟨z2, z3, z4⟩
        · obtain ⟨σ0, z1, k, y, C, dd, v, rfl, rfl, z4, z5, z6, z7, z8⟩ := z
          have kl : k < T.cls.length := (List.getElem?_eq_some_iff.mp z4).1
          have h15' := allIx_get h15 kl
          rw [z6] at h15'
          split at h15'
          · rename_i d0 d0' w1 w2
            cases w2
            have w3 := (litB_eq h15').1
            subst w3
            have Su : SuW T (Z.nox.suite b ((b, oe) :: pn)) b k e := ⟨⟨C, fun j z' E' b' g1 g2 g3 => (W.kit k j y z' C E' b' z4 g1 z5 g2 g3).1, call_isE (X := Z.nox) (W.ec k y C z4 z5) hz.zc hf⟩, W.mgs, nE, hi⟩
            obtain ⟨vs, hd⟩ := hf
            have hot : L2H.HotC (Z.nox.suite b ((b, oe) :: pn)) := ⟨(b, oe), ⟨rfl, vs, hd, hz.2.2 vs hd⟩, List.mem_cons_self⟩
            refine (su_ps Su hot nd w1).run pins s' σ H' D I ⟨⟨?_, I.len⟩, v, z7, z8⟩
            have l2 : σ.length = N.length := I.len
            rw [z1] at l2 ⊢
            rw [List.length_set] at l2
            rw [List.getElem?_set, if_pos rfl, if_pos (by omega)]
          · cases h15'
        · split at h16
          · rename_i d0 w1
            obtain ⟨v, z1, z2⟩ := z
            have w3 := (litB_eq h16).1
            subst w3
            exact (ps_ret (lit_pe w1)).run pins s' σ H' D I ⟨v, z1, z2⟩
          · cases h16
        · refine ⟨tdW X.mg T h Q, fun cls d σ' H' z => ?_, rfl, hc, hT⟩
          obtain ⟨k, y, C, dd, v, rfl, rfl, z4, z5, z6, z7, z8⟩ := z
          have kl : k < T.cls.length := (List.getElem?_eq_some_iff.mp z4).1
          have sub := of_decide_eq_true (allIx_get h14 kl)
          exact ⟨true, (W.kit k jE y E C DE true z4 ejE z5 mE sub).2, fun _ b _ => ⟨σ', rfl, k, y, C, dd, v, rfl, rfl, z4, z5, z6, z7, z8⟩, fun z => by cases z⟩
    · cases h14
end
end Mn

set_option maxRecDepth 100000
set_option maxHeartbeats 4000000
namespace Mn
open PySem PySem.Spec PyProof.Rows L2

def stsLen : Sts → Nat
  | .nil => 0
  | .cons _ ss => stsLen ss + 1
def isCall : Ex → Bool
  | .call _ _ => true
  | _ => false
/-- is the def at st the law l? -/
def okL (T : Tb0) (l : Lw) (st : Stmt) : Bool :=
  plainPs (defArgs st) && (decide ((defArgs st).args.map (·.arg) = [("script" : Str)]) && (decide (l.N.take 1 = [("script" : Str)]) && (
    decide ((defScope st).kind = .function) && (!(defScope st).isCoroutine && (!(defScope st).isGenerator && (decide l.N.Nodup && (locB (defScope st) "script" && ((nofreeB (defScope st) && !cellB (defScope st)) && (
      okSs T l.N (defScope st) l.pre ((defBody st).take (stsLen l.pre)) && (match (defBody st).drop (stsLen l.pre) with
        | s :: r => okS T l.N (defScope st) (.set l.i l.e []) s && (okSs T l.N (defScope st) l.post r && isCall l.e)
        | [] => false))))))))))
section
variable {T : Tb} {Γ : Gm} {n : Nat}
/-- a block's beginning, then what stands behind it -/
theorem pre_snd : ∀ (ss : Sts) {X : Cx}, Cn T Γ n X → Cs X → ∀ {st rest : List Stmt} {env : Env} {c0 : Cup} {fl : Fl} {env' : Env} {c1 : Cup}, okSs T X.N X.env.scope ss st = true → exs Γ ss env c0 = .ok (fl, env') c1 →
    ∀ {kk : Option Addr} {U : Addr → Prop} {P : Hp → (Addr → Prop) → Prop} {σ : L2.St} {H : Hp} {D : Ends}, Bs kk P → Sr X T kk U P σ env H → Ok T kk U c0 H →
      (fl = .nx → ∀ σ' H', Sr X T kk U P σ' env' H' → Ok T kk U c1 H' → tSsW X rest D σ' H') → (fl ≠ .nx → PostS X T kk U P c1 env' D fl) → tSsW X (st ++ rest) D σ H
  | .nil, X, C, S, st, rest, env, c0, fl, env', c1, ho, hv, kk, U, P, σ, H, D, B, s, k, p, q => by
    cases st with
    | cons _ _ => cases ho
    | nil =>
      cases hv
      exact p rfl σ H s k
  | .cons a as, X, C, S, st, rest, env, c0, fl, env', c1, ho, hv, kk, U, P, σ, H, D, B, s, k, p, q => by
    cases st with
    | nil => cases ho
    | cons v r =>
      obtain ⟨h1, h2⟩ := and_t (show (okS T X.N X.env.scope a v && okSs T X.N X.env.scope as r) = true from ho)
      unfold exs at hv
      obtain ⟨⟨f1, env1⟩, c2, e1, hv2⟩ := bnx_ok hv
      refine tSsW_of (pss_cons psW pssW) (sS T Γ n a X C S _ _ _ _ _ _ h1 e1 _ _ _ _ _ _ B s k ?_)
      cases f1 with
      | nx => exact fun σ' H' s' k' => pre_snd as C S h2 hv2 B s' k' p q
      | ret d => cases hv2; exact q (fun z => nomatch z)
      | bk => cases hv2; exact q (fun z => nomatch z)
      | ct => cases hv2; exact q (fun z => nomatch z)
end
/-- nothing is promised of the heap -/
theorem bs_true (kk : Option Addr) : Bs kk (fun _ _ => True) := ⟨fun _ _ _ _ _ _ _ _ => trivial, fun _ _ _ _ _ _ _ _ _ => trivial⟩
mutual
theorem rp_kk {K : PySem.W.Frag} {mg : Str → Option Value} {T : Tb} {kk : Option Addr} {O O' : Addr → Prop} {H : Hp} : ∀ {d : D} {v : V}, d.nl = true → Rp K mg T none O H v d → Rp K mg T kk O' H v d
  | .non, _, _, h => by cases h; exact .non
  | .bl _, _, _, h => by cases h; exact .bl _
  | .int _, _, _, h => by cases h; exact .int _
  | .str _, _, _, h => by cases h; exact .str _
  | .tup ds, _, n, h => by
    cases h with
    | tup h1 h2 => exact .tup h1 (rps_kk (ds := ds) (by simpa [D.nl] using n) h2)
  | .lst ds, _, n, h => by simp [D.nl] at n
  | .fn _, _, _, h => by cases h with | fn h1 h2 => exact .fn h1 h2
  | .cup, _, _, h => by cases h with | cup h1 => cases h1
  | .scr ns, _, _, h => by cases h with | scr h1 => exact .scr h1
theorem rps_kk {K : PySem.W.Frag} {mg : Str → Option Value} {T : Tb} {kk : Option Addr} {O O' : Addr → Prop} {H : Hp} : ∀ {ds : List D} {vs : List V}, D.nls ds = true → Rps K mg T none O H vs ds → Rps K mg T kk O' H vs ds
  | [], _, _, h => by cases h; exact .nil
  | d :: ds, _, n, h => by
    have n' : d.nl = true ∧ D.nls ds = true := by simpa [D.nls] using n
    cases h with
    | cons h1 h2 => exact .cons (rp_kk n'.1 h1) (rps_kk n'.2 h2)
end
/-- the law's promise: the script goes in, True comes out -/
def spL (T : Tb) (K : PySem.W.Frag) : Sp := fun vs H Q _ => ∃ (a : Addr) (ns : List Int), vs = [.ref a] ∧ ns.length ≤ 63 ∧ ScrAt K H a ns ∧ LamX.Tabs T.tt H ∧ ∀ H', Q (.bl true) H'
/-- .. whether the script's list is known to its object or not -/
def spS (T : Tb) (K : PySem.W.Frag) : Sp := fun vs H Q _ => ∃ (a : Addr) (ns : List Int), vs = [.ref a] ∧ ns.length ≤ 63 ∧ SqL K H a (ns.map V.int) ∧ LamX.Tabs T.tt H ∧ ∀ H', Q (.bl true) H'
theorem hok_frz {P : Program} {w : World} {H : Hp} {h : Heap} {a : Addr} {xs : List V} {o : Obj} (k : HOk P w H h) (e : H a = some (.lst xs)) (g : h.get? a = some o) : HOk P w (upd H a (.frz o (.lst xs))) h := by
  have st : ∀ b u, H b = some u → ObjOk P w (upd H a (.frz o (.lst xs))) h b u := fun b u q => (k b u q).stay (fun _ _ _ r => r) (fun d r => by
    rw [upd_ne]
    · exact r
    · rintro rfl; rw [e] at r; cases r) fun d ys r => by
    rw [upd_ne]
    · exact r
    · rintro rfl; rw [e] at r; cases r
  intro b u q
  by_cases hb : b = a
  · rw [hb, upd_same] at q
    cases q
    rw [hb]
    exact ⟨g, st a _ e⟩
  · rw [upd_ne hb] at q
    exact st b u q
theorem tabs_frz {tt : List (Addr × Str)} {H : Hp} {D : Addr} {l : List V} {u : HO} (t : LamX.Tabs tt H) (e : H D = some (.lst l)) : LamX.Tabs tt (upd H D u) := fun p hp => by
  obtain ⟨ps, h1, h2, h3⟩ := t p hp
  refine ⟨ps, ?_, h2, fun pos cv hc => ?_⟩
  · rw [upd_ne]
    · exact h1
    · rintro rfl; rw [e] at h1; cases h1
  · obtain ⟨c, e1, e2⟩ := h3 pos cv hc
    refine ⟨c, e1, ?_⟩
    rw [upd_ne]
    · exact e2
    · rintro rfl
      rw [e] at e2
      unfold LamX.CodeO at e2
      cases e2
theorem frz_run {P : Program} {w : World} {K : PySem.W.Frag} {mg : Str → Option Value} {base : Heap} {T : Tb} {k : Nat} {f : Addr} {fd : FuncData} {ps : List Str} (F : FnOk P w K mg base CX0 k f fd ps (spL T K)) (hl : ps.length = 1) : FnOk P w K mg base CX0 k f fd ps (spS T K) := by
  refine ⟨fun vs H Q E ⟨a, ns, h, _⟩ => by rw [h, hl]; rfl, fun A outer s H args us vs Q E hr e0 hb hv h => ?_⟩
  obtain ⟨a, ns, h1, h2, h3, h4, h5⟩ := h
  rcases h3 with (h3 | h3) | h3
  · obtain ⟨o, ho⟩ : ∃ o, s.heap.get? a = some o := by
      obtain ⟨_, its, n, _, e⟩ := e0.hok a _ h3
      exact ⟨_, e⟩
    have nn : ∀ b, H b = none ↔ upd H a (.frz o (.lst (ns.map V.int))) b = none := fun b => by
      by_cases hb : b = a
      · rw [hb, h3, upd_same]; exact ⟨fun z => (by cases z), fun z => (by cases z)⟩
      · rw [upd_ne hb]
    have e1 : Env0 P w K mg base A outer s (upd H a (.frz o (.lst (ns.map V.int)))) := ⟨e0.frames, e0.mod, fun b u r => ⟨(e0.bs b u r).1, (nn b).mp (e0.bs b u r).2⟩, e0.bsz, e0.funs, fun b r => (nn b).mp (e0.frf b r), hok_frz e0.hok h3 ho, e0.bare⟩
    refine codeAny_mono (F.run A outer s _ args us vs Q E hr e1 hb hv ⟨a, ns, h1, h2, .inl ⟨o, upd_same⟩, tabs_frz h4 h3, h5⟩) fun r s' q => ?_
    cases r with
    | error e => exact q
    | ok fl =>
      cases fl with
      | ret u =>
        obtain ⟨v, H2, q1, q2, q3, q4, q5, q6⟩ := q
        have un : Un (frs outer) [] H H2 s.heap s'.heap := ⟨fun b u r n => q3.keep b u r ((nn b).mp n), fun b u r n => q3.slot b u r ((nn b).mp n), fun b u r n => q3.free b u r ((nn b).mp n), q3.there, fun b xs r => q3.tups b xs (by
          rw [upd_ne]
          · exact r
          · rintro rfl; rw [h3] at r; cases r), fun b o' u r => q3.frzs b o' u (by
          rw [upd_ne]
          · exact r
          · rintro rfl; rw [h3] at r; cases r), fun b ps r => q3.tbls b ps (by
          rw [upd_ne]
          · exact r
          · rintro rfl; rw [h3] at r; cases r)⟩
        exact ⟨v, H2, q1, q2, un, q4, q5, q6⟩
      | next => exact q
      | brk => exact q
      | cont => exact q
  · exact F.run A outer s H args us vs Q E hr e0 hb hv ⟨a, ns, h1, h2, .inl h3, h4, h5⟩
  · exact F.run A outer s H args us vs Q E hr e0 hb hv ⟨a, ns, h1, h2, .inr h3, h4, h5⟩
section
variable {P : Program} {w : World} {K : PySem.W.Frag} {mg : Str → Option Value} {base : Heap} {T : Tb} {defs : List Fd}
theorem law_ok (Wd : World1 T defs P w K mg base) {n : Nat} {l : Lw} {st : Stmt} (hL : okL T l st = true) (hrun : ∀ ns : List Int, ns.length ≤ 63 → runL (callN defs n) l ns = some (.bl true)) {f : Addr} {fdv : FuncData} (F : FunD K "law" "law" (defArgs st) (defBody st) (defScope st) [] [] f fdv) :
    FnOk P w K mg base CX0 (3 * n + 1) f fdv ["script"] (spL T K) := by
  obtain ⟨h1, h2, h3, h4, h5, h6, hr⟩ := and7 hL
  obtain ⟨h7, h8, h9, h10, h11⟩ := and5 hr
  obtain ⟨h9, h12⟩ := and_t h9
  have e3 : l.N.take 1 = [("script" : Str)] := of_decide_eq_true h3
  have S : FnScope l.N ["script"] (defScope st) := ⟨of_decide_eq_true h4, by simpa using h5, by simpa using h6, of_decide_eq_true h7, e3, fun x hx => by
    have : x = "script" := by simpa using hx
    rw [this]; exact loc_of h8, fun y hy e => by
    have := List.all_eq_true.mp h9 y hy
    rw [e] at this
    cases this⟩
  refine F.ok S (fun vs H Q E h => ?_) (fun cdv A outer s H vs Q E hr h => ?_)
  · obtain ⟨a, ns, rfl, _⟩ := h
    rfl
  · obtain ⟨a, ns, rfl, hlen, hS, hT, hQ⟩ := h
    refine ⟨tSsW _ (defBody st), PSs.nox pssW, ?_⟩
    have C : Cn T (callN defs n) n (cxOf CX0 P w K mg base l.N "law" (defScope st) f cdv A outer s H E).nox := ⟨S.nd, rfl, hr, fun i x h => (by
      obtain ⟨a, fd, ps, h1, h2, h3, h4, h5⟩ := fnb_ok Wd n i x h
      exact ⟨a, fd, ps, h1, h2, h3, h4⟩), fun i x h => (by
      obtain ⟨a, fd, ps, h1, h2, h3, h4, h5⟩ := fnb_ok Wd n i x h
      exact ⟨a, fd, ps, h1, h2, h3, h5⟩), Wd.tds, fun e => absurd (show cellB (defScope st) = true from e) (by rw [show cellB (defScope st) = false by simpa using h12]; exact Bool.false_ne_true), Wd.cs, Wd.blt⟩
    have Cs' : Cs (cxOf CX0 P w K mg base l.N "law" (defScope st) f cdv A outer s H E).nox := ⟨fun x hx => ⟨loc_of hx, .inl rfl⟩, S.kind, PassesOwn.never⟩
    have hN : 1 ≤ l.N.length := by
      have := congrArg List.length e3
      rw [List.length_take] at this
      simp at this
      omega
    have run := hrun ns hlen
    unfold runL at run
    have noO : ∀ (i : Nat) (l' : List D), ((Sl.f (.scr ns) :: List.replicate (l.N.length - 1) .u : Env))[i]? ≠ some (.o l') := fun i l' z => by
      cases i with
      | zero => cases z
      | succ i =>
        rw [List.getElem?_cons_succ, List.getElem?_replicate] at z
        split at z <;> cases z
    have noW : ∀ a', ¬ Ow (L2.start l.N [V.ref a]) (Sl.f (.scr ns) :: List.replicate (l.N.length - 1) .u) a' := fun a' ⟨i, l', z, _⟩ => noO i l' z
    have sr : Sr (cxOf CX0 P w K mg base l.N "law" (defScope st) f cdv A outer s H E).nox T none (fun _ => False) (fun _ _ => True) (L2.start l.N [V.ref a]) (Sl.f (.scr ns) :: List.replicate (l.N.length - 1) .u) H := by
      refine ⟨fun i d z => ?_, fun i l' z => absurd z (noO i l'), fun i j l' l'' a' z => absurd z (noO i l'), trivial⟩
      cases i with
      | zero =>
        cases z
        exact ⟨.ref a, start_get rfl, .scr hS⟩
      | succ i =>
        rw [List.getElem?_cons_succ, List.getElem?_replicate] at z
        split at z <;> cases z
    have k0 : Ok T none (fun _ => False) (0, 0) H := ⟨⟨(fun a z => by cases z), hT⟩, fun a z => z.elim, fun a z => z.elim⟩
    have hsplit : defBody st = (defBody st).take (stsLen l.pre) ++ (defBody st).drop (stsLen l.pre) := (List.take_append_drop _ _).symm
    rw [hsplit]
    split at run
    · rename_i d env' c' e1
      cases run
      exact pre_snd l.pre C Cs' h10 e1 (bs_true none) sr k0 (fun z => nomatch z) fun _ v σ' H' s' k' rv => by
        cases bl_eq rv
        exact hQ H'
    · rename_i env' c' e1
      split at run
      · rename_i hnl
        split at run
        · rename_i d c2 e2
          split at run
          · rename_i ab e3'
            split at run
            · rename_i d' env2 c3 e4
              cases run
              refine pre_snd l.pre C Cs' h10 e1 (bs_true none) sr k0 (fun _ σ1 H1 s1 k1 => ?_) (fun z => absurd rfl z)
              split at h11
              · rename_i st0 rest0 hd
                obtain ⟨g1, g2, g3⟩ := and3 h11
                rw [hd]
                unfold okS at g1
                split at g1
                · rename_i x px v pos
                  obtain ⟨m1, m2, m3⟩ := and3 g1
                  have hNx : l.N[l.i]? = some x := eq_of_beq m1
                  obtain ⟨t1, t2⟩ := Cs'.sto x m2
                  refine tSsW_of (pss_cons psW pssW) (tSW_len fun hl => ?_)
                  have hi : l.i < σ1.length := by
                    rw [hl]
                    exact (List.getElem?_eq_some_iff.mp hNx).1
                  have nlc : ∀ a b c d e, l.e ≠ .lc a b c d e := fun a b c d e z => by rw [z] at g3; cases g3
                  have nlc2 : ∀ a b c d e f g h i, l.e ≠ .lc2 a b c d e f g h i := fun a b c d e f g h i z => by rw [z] at g3; cases g3
                  refine tSW_of (ps_set C.nd hNx t1 peW (sw_false m3 nlc nlc2) t2) ((sE T _ n l.e).1 _ C _ _ _ _ _ m3 e2 none (Hid (fun _ => False) [] σ1 env') σ1 H1 _ (s1.er []) (s1.okH k1 []) fun v2 H2 x2 r2 rv _ => ?_)
                  unfold intP at e3'
                  split at e3'
                  · rename_i a1 b1 _
                    cases e3'
                    obtain ⟨a2, vs2, rfl, q1, q2, q3, q4⟩ := lst_eq rv
                    obtain ⟨u1, u2, rfl, q5, q6⟩ := Rps.two q4
                    cases int_eq q5
                    cases int_eq q6
                    have noO2 : ∀ (i : Nat) (l' : List D), (env'.set l.i (.f .cup))[i]? ≠ some (.o l') := fun i l' z => by
                      by_cases hj : l.i = i
                      · subst hj
                        rw [List.getElem?_set, if_pos rfl] at z
                        split at z <;> cases z
                      · rw [List.getElem?_set_ne hj] at z
                        have := List.all_eq_true.mp hnl _ (List.mem_of_getElem? z)
                        cases this
                    have s2 : Sr (cxOf CX0 P w K mg base l.N "law" (defScope st) f cdv A outer s H E).nox T (some a2) (fun _ => False) (fun _ _ => True) (σ1.set l.i (some (.ref a2))) (env'.set l.i (.f .cup)) H2 := by
                      refine ⟨fun i d z => ?_, fun i l' z => absurd z (noO2 i l'), fun i j l' l'' a' z => absurd z (noO2 i l'), trivial⟩
                      by_cases hj : l.i = i
                      · subst hj
                        rw [List.getElem?_set, if_pos rfl] at z
                        split at z
                        · cases z
                          exact ⟨_, by rw [List.getElem?_set, if_pos rfl, if_pos hi], .cup rfl⟩
                        · cases z
                      · rw [List.getElem?_set_ne hj] at z
                        obtain ⟨w1, f1, f2⟩ := s1.fz i d z
                        have nl := List.all_eq_true.mp hnl _ (List.mem_of_getElem? z)
                        exact ⟨w1, by rw [List.getElem?_set_ne hj]; exact f1, rp_kk nl (f2.ext x2)⟩
                    have k2 : Ok T (some a2) (fun _ => False) (a1, b1) H2 := ⟨⟨(fun a z => by cases z; exact q1), r2.tb⟩, fun a z => z.elim, fun a z => z.elim⟩
                    exact sSs T _ n l.post _ C Cs' _ _ _ _ _ _ g2 e4 (some a2) (fun _ => False) (fun _ _ => True) _ H2 _ (bs_true _) s2 k2 fun v σ' H' s' k' rv => by
                      cases bl_eq rv
                      exact hQ H'
                  · cases e3'
                · cases g1
              · cases h11
            · cases run
          · cases run
        · cases run
      · cases run
    · cases run
end
end Mn

set_option maxRecDepth 100000
set_option maxHeartbeats 4000000
namespace Mn
open PySem PySem.Spec PyProof.Rows L2

/-! ## the head's facts, for all defs at once -/
def mkD (n : Str) (st : Stmt) : He.DefD := ⟨(n, none), n, n, defArgs st, defBody st, defScope st, [], []⟩
def mkFn (top : Nat → Stmt) : List Str → List Nat → List He.DefD
  | [], _ => []
  | _ :: _, [] => []
  | x :: xs, i :: is => mkD x (top i) :: mkFn top xs is
def litPairs (cls : List Str) : List He.Fa := cls.flatMap fun x => cls.map fun y => .exm x y true
def mkFa (fns tds : List Str) (cls : List Str) (cs : List (Str × Int)) (ss : List (Str × Str)) : List He.Fa := .glo "law" :: (fns.map .glo ++ (bltNames.map .free ++ ((cs.map (fun p => .int p.1 p.2) ++ ss.map (fun p => .str p.1 p.2)) ++ (tds.map .glo ++ (cls.map .glo ++ cls.map .exc)))))
/-- what must hold of the classes and of the tables -/
def exB (T : Tb0) (K : PySem.W.Frag) : Bool :=
  (T.cls.all fun x => eB K (He.ga K x)) && (allIx (fun k => allIx (fun j => match T.cls[k]?, T.cls[j]?, subAt T k j with
    | some x, some y, some b => decide (PySem.W.kitOne K (.ref (He.ga K x)) (.ref (He.ga K y)) = some b) && decide (PySem.W.exmOne K (.ref (He.ga K x)) (.ref (He.ga K y)) = some b)
    | _, _, _ => false) T.cls.length) T.cls.length && (decide ((T.lams.map fun x => (He.cT K (x, none)).2).Nodup) && !((T.lams.map fun x => (He.cT K (x, none)).2).contains mainGlobals)))
where eB (K : PySem.W.Frag) (D : Addr) : Bool := decide (PySem.W.findIn K (.ref D) "__getattribute__" = some (some (.builtin "BaseException.__getattribute__"))) && (decide (PySem.W.findIn K (.ref D) "__getattr__" = some none) && (decide (PySem.W.subIn K (.ref D) (.type "BaseException") = some true) && (PySem.W.hasDictIn K D && (
  decide (PySem.W.findIn K (.ref D) "__class__" = some (some (.builtin "object.__class__"))) && (decide (PySem.W.specialIn K (.builtin "object.__class__") "__get__" = some (some (.builtin "getset_descriptor.__get__"))) && (decide (PySem.W.takesIn K (.builtin "object.__class__") = some true) && decide (PySem.W.mroIn K D (.type "object") = some true)))))))
def okAll (T : Tb0) (top : Nat → Stmt) : List Str → List Fd → List Nat → Bool
  | [], [], [] => true
  | x :: xs, fd :: fds, i :: is => (okF T fd (top i) && (!cellB (defScope (top i)) || T.lams.contains x)) && okAll T top xs fds is
  | _, _, _ => false
theorem okAll_get {T : Tb0} {top : Nat → Stmt} : ∀ {fns : List Str} {fds : List Fd} {is : List Nat}, okAll T top fns fds is = true → ∀ {j : Nat} {x : Str}, fns[j]? = some x → ∃ fd i, fds[j]? = some fd ∧ okF T fd (top i) = true ∧ (cellB (defScope (top i)) = true → x ∈ T.lams) ∧ (mkFn top fns is)[j]? = some (mkD x (top i))
  | [], [], [], _, j, x, h => by simp at h
  | y :: xs, fd :: fds, i :: is, h, j, x, hj => by
    obtain ⟨h0, h2⟩ := and_t (show ((okF T fd (top i) && (!cellB (defScope (top i)) || T.lams.contains y)) && okAll T top xs fds is) = true from h)
    obtain ⟨h1, h3⟩ := and_t h0
    cases j with
    | zero =>
      rw [List.getElem?_cons_zero] at hj
      cases hj
      exact ⟨fd, i, rfl, h1, fun e => by
        rw [e] at h3
        exact List.contains_iff_mem.mp (by simpa using h3), rfl⟩
    | succ j =>
      rw [List.getElem?_cons_succ] at hj
      obtain ⟨fd', i', e1, e2, e4, e3⟩ := okAll_get h2 hj
      exact ⟨fd', i', e1, e2, e4, e3⟩
  | [], [], _ :: _, h, _, _, _ => nomatch h
  | [], _ :: _, _, h, _, _, _ => nomatch h
  | _ :: _, [], _, h, _, _, _ => nomatch h
  | _ :: _, _ :: _, [], h, _, _, _ => nomatch h
/-- the defs that try a call -/
def okTds (T : Tb0) (top : Nat → Stmt) : List (Str × List D × D) → List Nat → Bool
  | [], [] => true
  | t :: r, i :: is => okTd T t.2.1 t.2.2 (top i) && okTds T top r is
  | _, _ => false
theorem okTds_get {T : Tb0} {top : Nat → Stmt} : ∀ {l : List (Str × List D × D)} {is : List Nat}, okTds T top l is = true → ∀ t ∈ l, ∃ i, okTd T t.2.1 t.2.2 (top i) = true ∧ mkD t.1 (top i) ∈ mkFn top (l.map (·.1)) is
  | [], _, _, t, ht => by cases ht
  | _ :: _, [], h, t, _ => nomatch h
  | t0 :: r, i :: is, h, t, ht => by
    obtain ⟨h1, h2⟩ := and_t (show (okTd T t0.2.1 t0.2.2 (top i) && okTds T top r is) = true from h)
    rcases List.mem_cons.mp ht with rfl | ht
    · exact ⟨i, h1, List.mem_cons_self⟩
    · obtain ⟨j, e1, e2⟩ := okTds_get h2 t ht
      exact ⟨j, e1, List.mem_cons_of_mem _ e2⟩
theorem fact_of {fa : List He.Fa} {fn : List He.DefD} {K : PySem.W.Frag} (c : He.SaysD fa fn K) {f : He.Fa} (h : f ∈ fa) : f.ok K = true := by
  obtain ⟨i, hi, e⟩ := List.mem_iff_getElem.mp h
  exact c.fact i (f := f) (by rw [List.getElem?_eq_getElem hi, e])
theorem okL_bind {T : Tb0} {l : Lw} {st : Stmt} (h : okL T l st = true) {x qual : Str} {kV doc pm cdv ct : Value} {an : Option Addr} (us : List Value) (hl : us.length = ([("script" : Str)] : List Str).length) :
    bindArgs (PySem.W.fnOf x qual (defArgs st) (defBody st) (defScope st) .none kV doc pm an cdv ct) ⟨us, []⟩ = pure ([("script" : Str)].zip us) := by
  obtain ⟨h1, h2, _⟩ := and3 h
  have e3 := of_decide_eq_true h2
  rw [plainPs_eq h1]
  have := bind_plain (x := x) (qual := qual) (body := defBody st) (scope := defScope st) (kV := kV) (doc := doc) (pm := pm) (cdv := cdv) (ct := ct) (an := an) (defArgs st).args us (by rw [hl, ← e3, List.length_map]) (by rw [e3]; exact List.nodup_cons.mpr ⟨by simp, List.nodup_nil⟩)
  rw [e3] at this
  exact this
theorem nodup_inj {α β : Type} {f : α → β} : ∀ {l : List α}, (l.map f).Nodup → ∀ {a b : α}, a ∈ l → b ∈ l → f a = f b → a = b
  | [], _, a, _, h, _, _ => by cases h
  | x :: r, nd, a, b, ha, hb, e => by
    obtain ⟨n1, n2⟩ := List.nodup_cons.mp nd
    rcases List.mem_cons.mp ha with ea | ha2
    · rcases List.mem_cons.mp hb with eb | hb2
      · rw [ea, eb]
      · exact absurd (List.mem_map.mpr ⟨b, hb2, by rw [← e, ea]⟩) n1
    · rcases List.mem_cons.mp hb with eb | hb2
      · exact absurd (List.mem_map.mpr ⟨a, ha2, by rw [e, eb]⟩) n1
      · exact nodup_inj n2 ha2 hb2 e
/-- the tables, by the defs' names -/
def tabs (T : Tb0) (K : PySem.W.Frag) : List (Addr × Str) := T.lams.map fun x => ((He.cT K (x, none)).2, x ++ ".<locals>." ++ "<lambda>")
def tbl (T : Tb0) (K : PySem.W.Frag) : Tb := { toTb0 := T, tt := tabs T K }
def codes (T : Tb0) (K : PySem.W.Frag) : List (Addr × Addr) := T.lams.map fun x => He.cT K (x, none)
theorem clw_of {T : Tb0} {K : PySem.W.Frag} {mg : Str → Option Value} (hx : exB T K = true) (hm : ∀ y ∈ T.cls, mg y = some (.ref (He.ga K y))) : ClW (tbl T K) K mg := by
  obtain ⟨h1, h2, _⟩ := and3 hx
  refine ⟨fun k y D e m => ?_, fun k j y z D E b e1 e2 m1 m2 hs => ?_, fun k y e => ⟨_, hm y (List.mem_of_getElem? e)⟩⟩
  · have hy := List.mem_of_getElem? e
    rw [hm y hy] at m
    cases m
    have := List.all_eq_true.mp h1 y hy
    obtain ⟨g1, g2, g3, g4, g5, g6, g78⟩ := and7 this
    obtain ⟨g7, g8⟩ := and_t g78
    exact ⟨of_decide_eq_true g1, of_decide_eq_true g2, of_decide_eq_true g3, g4, of_decide_eq_true g5, of_decide_eq_true g6, of_decide_eq_true g7, of_decide_eq_true g8⟩
  · rw [hm y (List.mem_of_getElem? e1)] at m1
    rw [hm z (List.mem_of_getElem? e2)] at m2
    cases m1
    cases m2
    have h2' := allIx_get (i := k) h2 (List.getElem?_eq_some_iff.mp e1).1
    have := allIx_get (i := j) h2' (List.getElem?_eq_some_iff.mp e2).1
    have e1 : T.cls[k]? = some y := e1
    have e2 : T.cls[j]? = some z := e2
    have hs : subAt T k j = some b := hs
    rw [e1, e2, hs] at this
    obtain ⟨q1, q2⟩ := and_t this
    exact ⟨of_decide_eq_true q1, of_decide_eq_true q2⟩

theorem tab_of {T : Tb0} {K : PySem.W.Frag} {mg : Str → Option Value} {base : Heap} {st : Stmt} {x : Str} {fdv : FuncData} (hx : exB T K = true) (hb : ∀ p ∈ codes T K, LamX.TabB base mg p.1 p.2) (hc : cellB (defScope st) = true → x ∈ T.lams) (F : FunD K x x (defArgs st) (defBody st) (defScope st) [] [] (He.ga K x) fdv) : TabOk (tbl T K) mg base x (defScope st) fdv.code := fun e => by
  obtain ⟨_, _, h3⟩ := and3 hx
  obtain ⟨h3, _⟩ := and_t h3
  have hm := hc e
  obtain ⟨o1, o2, v1, v2, v3, v4, v5, v6, v7, v8, ef, l, c, _, _⟩ := F.ex
  obtain ⟨cd, ec⟩ := He.codeIn_ref c
  have ec' : fdv.code = .ref cd := by rw [ef]; exact ec
  have e1 : He.codeOf K (x, none) = cd := He.codeOf_eq (p := (x, none)) l ec'
  refine ⟨cd, (He.cT K (x, none)).2, ec', ?_, List.mem_map.mpr ⟨x, hm, rfl⟩, fun p hp ep => ?_⟩
  · have := hb (He.cT K (x, none)) (List.mem_map.mpr ⟨x, hm, rfl⟩)
    rw [show (He.cT K (x, none)).1 = cd from e1] at this
    exact this
  · obtain ⟨y, hy, rfl⟩ := List.mem_map.mp hp
    have := nodup_inj (f := fun x => (He.cT K (x, none)).2) (of_decide_eq_true h3) hy hm ep
    rw [this]
theorem tabs_of {T : Tb0} {K : PySem.W.Frag} {H : Hp} (h : ∀ p ∈ codes T K, H p.2 = some (.tbl #[])) : LamX.Tabs (tbl T K).tt H := fun p hp => by
  obtain ⟨x, hx, rfl⟩ := List.mem_map.mp hp
  exact LamX.TabS.nil (h _ (List.mem_map.mpr ⟨x, hx, rfl⟩))
/-- THE HEAD'S PROMISE -/
theorem facts_of {l : PySem.W.OpenLaw} {w : World} {K : PySem.W.Frag} {h : Heap} {mg : Str → Option Value} {f : Addr} {T : Tb0} {defs : List Fd} {top : Nat → Stmt} {tops ttops : List Nat} {lawS : Stmt} {lw : Lw} {n m : Nat} (X : K.In h) (G : h.Ns mainGlobals mg) (hfa : mg ("law" : Str) = some (.ref f))
    (c : He.SaysX (mkFa T.fns (T.tds.map (·.1)) T.cls T.cs T.ss) (mkFn top T.fns tops ++ (mkFn top (T.tds.map (·.1)) ttops ++ [mkD "law" lawS])) [] (T.lams.map fun x => (x, none)) (exB T) w h K)
    (ho : okAll T top T.fns defs tops = true) (ht : okTds T top T.tds ttops = true) (hl : okL T lw lawS = true) (hrun : ∀ ns : List Int, ns.length ≤ 63 → runL (callN defs n) lw ns = some (.bl true)) (hm : m ≤ 63) : LamX.LawAtS l w K CX0 (3 * n + 1) m "script" mg f h := by
  have d := c.t.d
  have fact := fun {f : He.Fa} (hf : f ∈ mkFa T.fns (T.tds.map (·.1)) T.cls T.cs T.ss) => d.facts hf
  have gl : ∀ x ∈ T.fns, mg x = some (.ref (He.ga K x)) := fun x hx => He.glo_ok X G (fact (f := .glo x) (List.mem_cons_of_mem _ (List.mem_append_left _ (List.mem_map.mpr ⟨x, hx, rfl⟩))))
  have gb : ∀ x ∈ bltNames, mg x = none := fun x hx => He.free_ok X G (fact (f := .free x) (List.mem_cons_of_mem _ (List.mem_append_right _ (List.mem_append_left _ (List.mem_map.mpr ⟨x, hx, rfl⟩)))))
  have gi : ∀ x i, (x, i) ∈ T.cs → ∃ t, mg x = some (.int i t) := fun x i hx => He.int_ok X G (fact (f := .int x i) (List.mem_cons_of_mem _ (List.mem_append_right _ (List.mem_append_right _ (List.mem_append_left _ (List.mem_append_left _ (List.mem_map.mpr ⟨(x, i), hx, rfl⟩)))))))
  have gs : ∀ x z, (x, z) ∈ T.ss → ∃ t, mg x = some (.str z t) := fun x z hx => He.str_ok X G (fact (f := .str x z) (List.mem_cons_of_mem _ (List.mem_append_right _ (List.mem_append_right _ (List.mem_append_left _ (List.mem_append_right _ (List.mem_map.mpr ⟨(x, z), hx, rfl⟩)))))))
  have gt : ∀ x ∈ T.tds.map (·.1), mg x = some (.ref (He.ga K x)) := fun x hx => He.glo_ok X G (fact (f := .glo x) (List.mem_cons_of_mem _ (List.mem_append_right _ (List.mem_append_right _ (List.mem_append_right _ (List.mem_append_left _ (List.mem_map.mpr ⟨x, hx, rfl⟩)))))))
  have gc : ∀ x ∈ T.cls, mg x = some (.ref (He.ga K x)) := fun x hx => He.glo_ok X G (fact (f := .glo x) (List.mem_cons_of_mem _ (List.mem_append_right _ (List.mem_append_right _ (List.mem_append_right _ (List.mem_append_right _ (List.mem_append_left _ (List.mem_map.mpr ⟨x, hx, rfl⟩))))))))
  have gx : ∀ x ∈ T.cls, ClA K (He.ga K x) := fun x hx => by
    obtain ⟨a1, a2, a3, a4⟩ := He.exc_ok (fact (f := .exc x) (List.mem_cons_of_mem _ (List.mem_append_right _ (List.mem_append_right _ (List.mem_append_right _ (List.mem_append_right _ (List.mem_append_right _ (List.mem_map.mpr ⟨x, hx, rfl⟩))))))))
    exact ⟨a1, a2, a3, a4⟩
  have W := clw_of c.more gc
  obtain ⟨fdv, F⟩ := d.defs (d := mkD "law" lawS) (List.mem_append_right _ (List.mem_append_right _ List.mem_cons_self))
  have e := hfa.symm.trans (He.glo_ok X G (fact (f := .glo "law") List.mem_cons_self))
  cases e
  have b := FunD.bindsA (ps := ["script"]) F fun _ _ _ _ _ _ us hu => okL_bind hl us hu
  refine ⟨fdv, codes T K, spS (tbl T K) K, fun p hp => ?_, fun p hp => ?_, fun p hp => ?_, fun s u => b s [u] rfl, fun H a ns hn _ hH hS => ⟨a, ns, rfl, by omega, hS, tabs_of hH, fun _ => rfl⟩, fun base hB hG hT => ?_⟩
  · obtain ⟨x, hx, rfl⟩ := List.mem_map.mp hp
    exact c.empty (x, none) (List.mem_map.mpr ⟨x, hx, rfl⟩)
  · obtain ⟨x, hx, rfl⟩ := List.mem_map.mp hp
    exact c.out (x, none) (List.mem_map.mpr ⟨x, hx, rfl⟩)
  · obtain ⟨x, hx, rfl⟩ := List.mem_map.mp hp
    exact PySem.W.codeHd_of_K X (c.hd (x, none) (List.mem_map.mpr ⟨x, hx, rfl⟩))
  · have Wd : World1 (tbl T K) defs l.prog w K mg base := by
      refine ⟨fun i x hx => ?_, ⟨gi, gs⟩, gb, fun k y hy => ⟨_, gc y (List.mem_of_getElem? hy), gx y (List.mem_of_getElem? hy)⟩, fun t htd => ?_⟩
      · have hx : T.fns[i]? = some x := hx
        obtain ⟨fd, j, e1, e2, e4, e3⟩ := okAll_get ho hx
        obtain ⟨fdv, F⟩ := d.defs (d := mkD x (top j)) (List.mem_append_left _ (List.mem_of_getElem? e3))
        exact ⟨fd, top j, _, fdv, e1, e2, F, gl x (List.mem_of_getElem? hx), tab_of c.more hT e4 F⟩
      · obtain ⟨i, e1, e2⟩ := okTds_get ht t htd
        obtain ⟨fdv, F⟩ := d.defs (d := mkD t.1 (top i)) (List.mem_append_right _ (List.mem_append_left _ e2))
        exact td_ok W (gb _ (by decide +kernel)) e1 F (gt _ (List.mem_map.mpr ⟨t, htd, rfl⟩))
    exact frz_run (law_ok Wd hl hrun F) rfl
end Mn

set_option maxRecDepth 100000
set_option maxHeartbeats 4000000
namespace Mn
open PySem

/-! ## execution by simp: what stands behind a step is kept shut until its value is there -/
structure Tok {α : Type} (_ : α) : Type where
def tok {α : Type} {a : α} : Tok a := ⟨⟩
def bndT {α β : Type} (r : R α) (f : α → Cup → R β) (_ : Tok f) : R β := r.bnd f
@[simp ↓] theorem bnd_T {α β : Type} (r : R α) (f : α → Cup → R β) : R.bnd r f = bndT r f tok := (rfl)
@[simp] theorem bndT_ok {α β : Type} (a : α) (c : Cup) (f : α → Cup → R β) (h : Tok f) : bndT (.ok a c) f h = f a c := (rfl)
@[simp] theorem bndT_bad {α β : Type} (f : α → Cup → R β) (h : Tok f) : bndT .bad f h = .bad := (rfl)
@[simp] theorem bndT_exc {α β : Type} (k : Nat) (x : List D) (c : Cup) (f : α → Cup → R β) (h : Tok f) : bndT (.exc k x c) f h = .bad := (rfl)
def bnxT {α β : Type} (r : R α) (f : α → Cup → R β) (_ : Tok f) : R β := r.bnx f
@[simp ↓] theorem bnx_T {α β : Type} (r : R α) (f : α → Cup → R β) : R.bnx r f = bnxT r f tok := (rfl)
@[simp] theorem bnxT_ok {α β : Type} (a : α) (c : Cup) (f : α → Cup → R β) (h : Tok f) : bnxT (.ok a c) f h = f a c := (rfl)
@[simp] theorem bnxT_exc {α β : Type} (k : Nat) (x : List D) (c : Cup) (f : α → Cup → R β) (h : Tok f) : bnxT (.exc k x c) f h = .exc k x c := (rfl)
@[simp] theorem bnxT_bad {α β : Type} (f : α → Cup → R β) (h : Tok f) : bnxT .bad f h = .bad := (rfl)
@[simp] theorem lamR_ok {α : Type} (h : List D) (r : D) (a : α) (c : Cup) : lamR h r (.ok a c) = .ok r c := (rfl)
@[simp] theorem lamR_exc {α : Type} (h : List D) (r : D) (k : Nat) (x : List D) (c : Cup) : lamR h r (R.exc (α := α) k x c) = match h[k]? with | some d => .ok d c | none => .bad := (rfl)
@[simp] theorem opt_some {α : Type} (a : α) (c : Cup) : R.opt (some a) c = .ok a c := (rfl)
def forT (f : D → Env → Cup → R (Fl × Env)) (xs : List D) (env : Env) (c : Cup) (_ : Tok f) : R (Fl × Env) := forL f xs env c
@[simp ↓] theorem for_T (f : D → Env → Cup → R (Fl × Env)) (xs : List D) (env : Env) (c : Cup) : forL f xs env c = forT f xs env c tok := (rfl)
def whT (t : Env → Cup → R Bool) (f : Env → Cup → R (Fl × Env)) (n : Nat) (env : Env) (c : Cup) (_ : Tok t) (_ : Tok f) : R (Fl × Env) := whL t f n env c
@[simp ↓] theorem wh_T (t : Env → Cup → R Bool) (f : Env → Cup → R (Fl × Env)) (n : Nat) (env : Env) (c : Cup) : whL t f n env c = whT t f n env c tok tok := (rfl)
def lcT (f : D → Cup → R (Option D)) (xs : List D) (c : Cup) (_ : Tok f) : R (List D) := lcL f xs c
@[simp ↓] theorem lc_T (f : D → Cup → R (Option D)) (xs : List D) (c : Cup) : lcL f xs c = lcT f xs c tok := (rfl)
def oneT (o : Option Rho) (t : Rho → Cup → R Bool) (f : Rho → Cup → R D) (c : Cup) (_ : Tok t) (_ : Tok f) : R (Option D) := lcOne o t f c
@[simp ↓] theorem one_T (o : Option Rho) (t : Rho → Cup → R Bool) (f : Rho → Cup → R D) (c : Cup) : lcOne o t f c = oneT o t f c tok tok := (rfl)
@[simp] theorem oneT_some (ρ : Rho) (t : Rho → Cup → R Bool) (f : Rho → Cup → R D) (c : Cup) (h : Tok t) (h' : Tok f) : oneT (some ρ) t f c h h' = (t ρ c).bnd fun k c3 => if k then (f ρ c3).bnd fun y c4 => .ok (some y) c4 else .ok none c3 := (rfl)
/-- some answer, of which Q -/
def W {α : Type} (r : R α) (Q : α → Cup → Prop) (_ : Tok Q) : Prop := ∃ a c, r = .ok a c ∧ Q a c
@[simp] theorem W_ok {α : Type} (a : α) (c : Cup) (Q : α → Cup → Prop) (h : Tok Q) : W (.ok a c) Q h ↔ Q a c := ⟨fun ⟨_, _, e, q⟩ => by cases e; exact q, fun q => ⟨_, _, rfl, q⟩⟩
@[simp ↓] theorem W_bnd {α β : Type} (r : R α) (f : α → Cup → R β) (h' : Tok f) (Q : β → Cup → Prop) (h : Tok Q) : W (bndT r f h') Q h ↔ W r (fun a c => W (f a c) Q tok) tok := by
  constructor
  · rintro ⟨a, c, e, q⟩
    cases r with
    | ok b c1 => exact ⟨b, c1, rfl, a, c, e, q⟩
    | exc _ _ _ => cases e
    | bad => cases e
  · rintro ⟨b, c1, rfl, a, c, e, q⟩
    exact ⟨a, c, e, q⟩
@[simp ↓] theorem W_bnx {α β : Type} (r : R α) (f : α → Cup → R β) (h' : Tok f) (Q : β → Cup → Prop) (h : Tok Q) : W (bnxT r f h') Q h ↔ W r (fun a c => W (f a c) Q tok) tok := by
  constructor
  · rintro ⟨a, c, e, q⟩
    cases r with
    | ok b c1 => exact ⟨b, c1, rfl, a, c, e, q⟩
    | exc _ _ _ => cases e
    | bad => cases e
  · rintro ⟨b, c1, rfl, a, c, e, q⟩
    exact ⟨a, c, e, q⟩
theorem W_mono {α : Type} {r : R α} {Q Q' : α → Cup → Prop} {h : Tok Q} {h' : Tok Q'} (w : W r Q h) (m : ∀ a c, Q a c → Q' a c) : W r Q' h' := by
  obtain ⟨a, c, e, q⟩ := w
  exact ⟨a, c, e, m _ _ q⟩
theorem W_eq {α : Type} {r : R α} {a : α} {c : Cup} : r = .ok a c ↔ W r (fun a' c' => a' = a ∧ c' = c) tok := ⟨fun e => ⟨_, _, e, rfl, rfl⟩, fun ⟨_, _, e, h1, h2⟩ => by rw [e, h1, h2]⟩
theorem W_for {α : Type} {f : D → Env → Cup → R (Fl × Env)} {env : Env} {c : Cup} {h : Tok f} {Q : Fl × Env → Cup → Prop} {h' : Tok Q} (q : α → D) (as : List α) (I : List α → Env → Cup → Prop) (h0 : I [] env c)
    (hs : ∀ (l : List α) (a : α) (r : List α), as = l ++ a :: r → ∀ env c, I l env c → W (f (q a) env c) (fun r c' => (r.1 = .nx ∨ r.1 = .ct) ∧ I (l ++ [a]) r.2 c') tok) (hk : ∀ env c, I as env c → Q (.nx, env) c) : W (forT f (as.map q) env c h) Q h' := by
  have key : ∀ (r l : List α) (env : Env) (c : Cup), as = l ++ r → I l env c → W (forL f (r.map q) env c) Q h' := by
    intro r
    induction r with
    | nil =>
      intro l env c e i
      rw [List.append_nil] at e
      subst e
      exact ⟨_, _, rfl, hk _ _ i⟩
    | cons a r ih =>
      intro l env c e i
      obtain ⟨⟨fl, env1⟩, c1, e1, f1, i1⟩ := hs l a r e env c i
      obtain ⟨x, c2, e2, q2⟩ := ih (l ++ [a]) env1 c1 (by rw [e]; simp) i1
      refine ⟨x, c2, ?_, q2⟩
      show (f (q a) env c).bnd _ = _
      rw [e1]
      rcases f1 with f1 | f1 <;> (cases f1; exact e2)
  exact key as [] env c rfl h0
/-- a loop that may return -/
theorem W_for2 {α : Type} {f : D → Env → Cup → R (Fl × Env)} {env : Env} {c : Cup} {h : Tok f} {Q : Fl × Env → Cup → Prop} {h' : Tok Q} (q : α → D) (as : List α) (I : List α → Env → Cup → Prop) (h0 : I [] env c)
    (hs : ∀ (l : List α) (a : α) (r : List α), as = l ++ a :: r → ∀ env c, I l env c → W (f (q a) env c) (fun r c' => ((r.1 = .nx ∨ r.1 = .ct) ∧ I (l ++ [a]) r.2 c') ∨ (∃ d, r.1 = .ret d ∧ Q (.ret d, r.2) c')) tok) (hk : ∀ env c, I as env c → Q (.nx, env) c) : W (forT f (as.map q) env c h) Q h' := by
  have key : ∀ (r l : List α) (env : Env) (c : Cup), as = l ++ r → I l env c → W (forL f (r.map q) env c) Q h' := by
    intro r
    induction r with
    | nil =>
      intro l env c e i
      rw [List.append_nil] at e
      subst e
      exact ⟨_, _, rfl, hk _ _ i⟩
    | cons a r ih =>
      intro l env c e i
      obtain ⟨⟨fl, env1⟩, c1, e1, h1⟩ := hs l a r e env c i
      rcases h1 with ⟨f1, i1⟩ | ⟨d, f1, q1⟩
      · obtain ⟨x, c2, e2, q2⟩ := ih (l ++ [a]) env1 c1 (by rw [e]; simp) i1
        refine ⟨x, c2, ?_, q2⟩
        show (f (q a) env c).bnd _ = _
        rw [e1]
        rcases f1 with f1 | f1 <;> (cases f1; exact e2)
      · cases f1
        refine ⟨_, c1, ?_, q1⟩
        show (f (q a) env c).bnd _ = _
        rw [e1]
        rfl
  exact key as [] env c rfl h0
theorem W_fori {f : D → Env → Cup → R (Fl × Env)} {as : List D} {env : Env} {c : Cup} {h : Tok f} {Q : Fl × Env → Cup → Prop} {h' : Tok Q} (I : List D → Env → Cup → Prop) (h0 : I [] env c)
    (hs : ∀ (l : List D) (a : D) (r : List D), as = l ++ a :: r → ∀ env c, I l env c → W (f a env c) (fun r c' => ((r.1 = .nx ∨ r.1 = .ct) ∧ I (l ++ [a]) r.2 c') ∨ (∃ d, r.1 = .ret d ∧ Q (.ret d, r.2) c')) tok) (hk : ∀ env c, I as env c → Q (.nx, env) c) : W (forT f as env c h) Q h' := by
  have := W_for2 (f := f) (env := env) (c := c) (h := h) (Q := Q) (h' := h') id as I h0 hs hk
  rwa [List.map_id] at this
/-- a pass of which nothing but its count is asked -/
theorem W_lc {α : Type} {f : D → Cup → R (Option D)} {c : Cup} {h : Tok f} (q : α → D) (as : List α) (g : α → Option D) (hs : ∀ a ∈ as, f (q a) c = .ok (g a) c) : lcT f (as.map q) c h = .ok (as.filterMap g) c := by
  show lcL f (as.map q) c = _
  induction as with
  | nil => rfl
  | cons a r ih =>
    show (f (q a) c).bnd _ = _
    rw [hs a List.mem_cons_self]
    show (lcL f (r.map q) c).bnd _ = _
    rw [ih fun b hb => hs b (List.mem_cons_of_mem _ hb), List.filterMap_cons]
    cases g a <;> rfl
theorem W_lcm {α : Type} {f : D → Cup → R (Option D)} {c : Cup} {h : Tok f} (q : α → D) (as : List α) (g : α → D) (hs : ∀ a ∈ as, f (q a) c = .ok (some (g a)) c) : lcT f (as.map q) c h = .ok (as.map g) c := by
  rw [W_lc q as (fun a => some (g a)) hs, List.filterMap_eq_map']
theorem W_lci {f : D → Cup → R (Option D)} {c : Cup} {h : Tok f} {as : List D} (g : D → D) (hs : ∀ a ∈ as, f a c = .ok (some (g a)) c) : lcT f as c h = .ok (as.map g) c := by
  have := W_lcm (f := f) (c := c) (h := h) id as g hs
  rwa [List.map_id] at this
theorem W_lcn {f : D → Cup → R (Option D)} {c : Cup} {h : Tok f} {as : List D} (g : D → Option D) (hs : ∀ a ∈ as, f a c = .ok (g a) c) : lcT f as c h = .ok (as.filterMap g) c := by
  have := W_lc (f := f) (c := c) (h := h) id as g hs
  rwa [List.map_id] at this
def lcFT (f : D → Cup → R (List D)) (xs : List D) (c : Cup) (_ : Tok f) : R (List D) := lcF f xs c
@[simp ↓] theorem lcF_T (f : D → Cup → R (List D)) (xs : List D) (c : Cup) : lcF f xs c = lcFT f xs c tok := (rfl)
def inT (o : Option Rho) (t : Rho → Cup → R Bool) (f : Rho → Cup → R (List D)) (c : Cup) (_ : Tok t) (_ : Tok f) : R (List D) := lcIn o t f c
@[simp ↓] theorem in_T (o : Option Rho) (t : Rho → Cup → R Bool) (f : Rho → Cup → R (List D)) (c : Cup) : lcIn o t f c = inT o t f c tok tok := (rfl)
@[simp] theorem inT_some (ρ : Rho) (t : Rho → Cup → R Bool) (f : Rho → Cup → R (List D)) (c : Cup) (h : Tok t) (h' : Tok f) : inT (some ρ) t f c h h' = (t ρ c).bnd fun k c3 => if k then f ρ c3 else .ok [] c3 := (rfl)
theorem W_lcF {α : Type} {f : D → Cup → R (List D)} {c : Cup} {h : Tok f} (q : α → D) (as : List α) (g : α → List D) (hs : ∀ a ∈ as, f (q a) c = .ok (g a) c) : lcFT f (as.map q) c h = .ok (as.flatMap g) c := by
  show lcF f (as.map q) c = _
  induction as with
  | nil => rfl
  | cons a r ih =>
    show (f (q a) c).bnd _ = _
    rw [hs a List.mem_cons_self]
    show (lcF f (r.map q) c).bnd _ = _
    rw [ih fun b hb => hs b (List.mem_cons_of_mem _ hb), List.flatMap_cons]
    rfl
/-- a comprehension that draws -/
theorem W_lcx {α : Type} {f : D → Cup → R (Option D)} {c : Cup} {h : Tok f} {Q : List D → Cup → Prop} {h' : Tok Q} (q : α → D) (as : List α) (I : List α → List D → Prop) (h0 : I [] [])
    (hs : ∀ (l : List α) (a : α) (r : List α), as = l ++ a :: r → ∀ L c, I l L → W (f (q a) c) (fun o _ => ∃ d, o = some d ∧ I (l ++ [a]) (L ++ [d])) tok) (hk : ∀ L c, I as L → Q L c) : W (lcT f (as.map q) c h) Q h' := by
  have key : ∀ (r l : List α) (L : List D) (c : Cup), as = l ++ r → I l L → W (lcL f (r.map q) c) (fun L' _ => I as (L ++ L')) tok := by
    intro r
    induction r with
    | nil =>
      intro l L c e i
      rw [List.append_nil] at e
      subst e
      exact ⟨[], c, rfl, by show I as (L ++ []); rw [List.append_nil]; exact i⟩
    | cons a r ih =>
      intro l L c e i
      obtain ⟨o, c1, e1, d, rfl, i1⟩ := hs l a r e L c i
      obtain ⟨L', c2, e2, i2⟩ := ih (l ++ [a]) (L ++ [d]) c1 (by rw [e]; simp) i1
      refine ⟨d :: L', c2, ?_, by rw [List.append_assoc] at i2; exact i2⟩
      show (f (q a) c).bnd _ = _
      rw [e1]
      show (lcL f (r.map q) c1).bnd _ = _
      rw [e2]
      rfl
  obtain ⟨L, c1, e, i⟩ := key as [] [] c rfl h0
  exact ⟨L, c1, e, hk L c1 i⟩
section
variable {α : Type} (a0 a1 a2 a3 a4 a5 a6 a7 a8 a9 a10 a11 x : α) (l : List α)
@[simp] theorem g0 : (a0 :: l)[0]? = some a0 := (rfl)
@[simp] theorem g1 : (a0 :: a1 :: l)[1]? = some a1 := (rfl)
@[simp] theorem g2 : (a0 :: a1 :: a2 :: l)[2]? = some a2 := (rfl)
@[simp] theorem g3 : (a0 :: a1 :: a2 :: a3 :: l)[3]? = some a3 := (rfl)
@[simp] theorem g4 : (a0 :: a1 :: a2 :: a3 :: a4 :: l)[4]? = some a4 := (rfl)
@[simp] theorem g5 : (a0 :: a1 :: a2 :: a3 :: a4 :: a5 :: l)[5]? = some a5 := (rfl)
@[simp] theorem g6 : (a0 :: a1 :: a2 :: a3 :: a4 :: a5 :: a6 :: l)[6]? = some a6 := (rfl)
@[simp] theorem g7 : (a0 :: a1 :: a2 :: a3 :: a4 :: a5 :: a6 :: a7 :: l)[7]? = some a7 := (rfl)
@[simp] theorem g8 : (a0 :: a1 :: a2 :: a3 :: a4 :: a5 :: a6 :: a7 :: a8 :: l)[8]? = some a8 := (rfl)
@[simp] theorem g9 : (a0 :: a1 :: a2 :: a3 :: a4 :: a5 :: a6 :: a7 :: a8 :: a9 :: l)[9]? = some a9 := (rfl)
@[simp] theorem g10 : (a0 :: a1 :: a2 :: a3 :: a4 :: a5 :: a6 :: a7 :: a8 :: a9 :: a10 :: l)[10]? = some a10 := (rfl)
@[simp] theorem g11 : (a0 :: a1 :: a2 :: a3 :: a4 :: a5 :: a6 :: a7 :: a8 :: a9 :: a10 :: a11 :: l)[11]? = some a11 := (rfl)
@[simp] theorem s0 : (a0 :: l).set 0 x = x :: l := (rfl)
@[simp] theorem s1 : (a0 :: a1 :: l).set 1 x = a0 :: x :: l := (rfl)
@[simp] theorem s2 : (a0 :: a1 :: a2 :: l).set 2 x = a0 :: a1 :: x :: l := (rfl)
@[simp] theorem s3 : (a0 :: a1 :: a2 :: a3 :: l).set 3 x = a0 :: a1 :: a2 :: x :: l := (rfl)
@[simp] theorem s4 : (a0 :: a1 :: a2 :: a3 :: a4 :: l).set 4 x = a0 :: a1 :: a2 :: a3 :: x :: l := (rfl)
@[simp] theorem s5 : (a0 :: a1 :: a2 :: a3 :: a4 :: a5 :: l).set 5 x = a0 :: a1 :: a2 :: a3 :: a4 :: x :: l := (rfl)
@[simp] theorem s6 : (a0 :: a1 :: a2 :: a3 :: a4 :: a5 :: a6 :: l).set 6 x = a0 :: a1 :: a2 :: a3 :: a4 :: a5 :: x :: l := (rfl)
@[simp] theorem s7 : (a0 :: a1 :: a2 :: a3 :: a4 :: a5 :: a6 :: a7 :: l).set 7 x = a0 :: a1 :: a2 :: a3 :: a4 :: a5 :: a6 :: x :: l := (rfl)
@[simp] theorem s8 : (a0 :: a1 :: a2 :: a3 :: a4 :: a5 :: a6 :: a7 :: a8 :: l).set 8 x = a0 :: a1 :: a2 :: a3 :: a4 :: a5 :: a6 :: a7 :: x :: l := (rfl)
@[simp] theorem s9 : (a0 :: a1 :: a2 :: a3 :: a4 :: a5 :: a6 :: a7 :: a8 :: a9 :: l).set 9 x = a0 :: a1 :: a2 :: a3 :: a4 :: a5 :: a6 :: a7 :: a8 :: x :: l := (rfl)
@[simp] theorem s10 : (a0 :: a1 :: a2 :: a3 :: a4 :: a5 :: a6 :: a7 :: a8 :: a9 :: a10 :: l).set 10 x = a0 :: a1 :: a2 :: a3 :: a4 :: a5 :: a6 :: a7 :: a8 :: a9 :: x :: l := (rfl)
end
theorem entry_eq (np : Nat) (N : List Str) (b : Sts) (ds : List D) : entry ⟨np, N, b⟩ ds = ds.map .f ++ List.replicate (N.length - ds.length) .u := (rfl)
@[simp] theorem frz_nil (env : Env) : frz [] env = env := by
  have : ∀ (i : Nat) (env : Env), frzFrom [] i env = env := by
    intro i env
    induction env generalizing i with
    | nil => rfl
    | cons s r ih =>
      show Sl.frzAt false s :: frzFrom [] (i + 1) r = s :: r
      rw [ih]
      cases s <;> rfl
  exact this 0 env
theorem nls_map {α : Type} (f : α → D) (l : List α) (h : ∀ a, (f a).nl = true) : D.nls (l.map f) = true := by
  induction l with
  | nil => rfl
  | cons a r ih => simp [D.nls, h a, ih]
@[simp] theorem ints_map (l : List Int) : intsD (l.map .int) = some l := by
  induction l with
  | nil => rfl
  | cons a r ih => simp [intsD, ih]
@[simp] theorem bls_map {α : Type} (f : α → Bool) (l : List α) : blsD (l.map fun a => .bl (f a)) = some (l.map f) := by
  induction l with
  | nil => rfl
  | cons a r ih => simp [blsD, ih]
@[simp ↓] theorem x_v (Γ : Nat → List D → Cup → R D) (ρ : Rho) (c : Cup) (i : Nat) : ev Γ ρ (.v i) c = R.opt (ρ[i]?.bind id) c := (rfl)
@[simp ↓] theorem x_int (Γ : Nat → List D → Cup → R D) (ρ : Rho) (c : Cup) (i : Int) : ev Γ ρ (.int i) c = .ok (.int i) c := (rfl)
@[simp ↓] theorem x_str (Γ : Nat → List D → Cup → R D) (ρ : Rho) (c : Cup) (i : Str) : ev Γ ρ (.str i) c = .ok (.str i) c := (rfl)
@[simp ↓] theorem x_bl (Γ : Nat → List D → Cup → R D) (ρ : Rho) (c : Cup) (i : Bool) : ev Γ ρ (.bl i) c = .ok (.bl i) c := (rfl)
@[simp ↓] theorem x_non (Γ : Nat → List D → Cup → R D) (ρ : Rho) (c : Cup) : ev Γ ρ .non c = .ok .non c := (rfl)
@[simp ↓] theorem x_css (Γ : Nat → List D → Cup → R D) (ρ : Rho) (c : Cup) (x z : Str) : ev Γ ρ (.css x z) c = .ok (.str z) c := (rfl)
@[simp ↓] theorem x_cst (Γ : Nat → List D → Cup → R D) (ρ : Rho) (c : Cup) (x : Str) (i : Int) : ev Γ ρ (.cst x i) c = .ok (.int i) c := (rfl)
@[simp ↓] theorem x_bin (Γ : Nat → List D → Cup → R D) (ρ : Rho) (c : Cup) (o : Bop) (a b : Ex) : ev Γ ρ (.bin o a b) c = (ev Γ ρ a c).bnd fun x c1 => (ev Γ ρ b c1).bnd fun y c2 => R.opt (binD o x y) c2 := (rfl)
@[simp ↓] theorem x_neg (Γ : Nat → List D → Cup → R D) (ρ : Rho) (c : Cup) (a : Ex) : ev Γ ρ (.neg a) c = (ev Γ ρ a c).bnd fun x c1 => R.opt (negD x) c1 := (rfl)
@[simp ↓] theorem x_cmp (Γ : Nat → List D → Cup → R D) (ρ : Rho) (c : Cup) (o : Cop) (a b : Ex) : ev Γ ρ (.cmp o a b) c = (ev Γ ρ a c).bnd fun x c1 => (ev Γ ρ b c1).bnd fun y c2 => R.opt ((cmpD o x y).map .bl) c2 := (rfl)
@[simp ↓] theorem x_cmp2 (Γ : Nat → List D → Cup → R D) (ρ : Rho) (c : Cup) (o p : Cop) (a b e : Ex) : ev Γ ρ (.cmp2 o p a b e) c = (ev Γ ρ a c).bnd fun x c1 => (ev Γ ρ b c1).bnd fun y c2 => (R.opt (cmpD o x y) c2).bnd fun k c3 => if k then (ev Γ ρ e c3).bnd fun z c4 => R.opt ((cmpD p y z).map .bl) c4 else .ok (.bl false) c3 := (rfl)
@[simp ↓] theorem x_and (Γ : Nat → List D → Cup → R D) (ρ : Rho) (c : Cup) (es : Exs) : ev Γ ρ (.and es) c = evAnd Γ ρ es c := (rfl)
@[simp ↓] theorem x_or (Γ : Nat → List D → Cup → R D) (ρ : Rho) (c : Cup) (es : Exs) : ev Γ ρ (.or es) c = evOr Γ ρ es c := (rfl)
@[simp ↓] theorem x_not (Γ : Nat → List D → Cup → R D) (ρ : Rho) (c : Cup) (a : Ex) : ev Γ ρ (.not a) c = (ev Γ ρ a c).bnd fun x c1 => (R.opt (tBl x) c1).bnd fun k c2 => .ok (.bl (!k)) c2 := (rfl)
@[simp ↓] theorem x_ife (Γ : Nat → List D → Cup → R D) (ρ : Rho) (c : Cup) (t a b : Ex) : ev Γ ρ (.ife t a b) c = (ev Γ ρ t c).bnd fun x c1 => (R.opt (tBl x) c1).bnd fun k c2 => (if k then ev Γ ρ a c2 else ev Γ ρ b c2).bnd .ok := (rfl)
@[simp ↓] theorem x_tup (Γ : Nat → List D → Cup → R D) (ρ : Rho) (c : Cup) (es : Exs) : ev Γ ρ (.tup es) c = (evs Γ ρ es c).bnd fun ds c1 => .ok (.tup ds) c1 := (rfl)
@[simp ↓] theorem x_lst (Γ : Nat → List D → Cup → R D) (ρ : Rho) (c : Cup) (es : Exs) : ev Γ ρ (.lst es) c = (evs Γ ρ es c).bnd fun ds c1 => .ok (.lst ds) c1 := (rfl)
@[simp ↓] theorem x_ix (Γ : Nat → List D → Cup → R D) (ρ : Rho) (c : Cup) (a b : Ex) : ev Γ ρ (.ix a b) c = (ev Γ ρ a c).bnd fun x c1 => (ev Γ ρ b c1).bnd fun y c2 => R.opt (ixD c2 x y) c2 := (rfl)
@[simp ↓] theorem x_sl (Γ : Nat → List D → Cup → R D) (ρ : Rho) (c : Cup) (a : Ex) (lo hi st : Eo) : ev Γ ρ (.sl a lo hi st) c = (ev Γ ρ a c).bnd fun x c1 => (evo Γ ρ lo c1).bnd fun l c2 => (evo Γ ρ hi c2).bnd fun h c3 => (evo Γ ρ st c3).bnd fun s c4 => R.opt (slD x l h s) c4 := (rfl)
@[simp ↓] theorem x_call (Γ : Nat → List D → Cup → R D) (ρ : Rho) (c : Cup) (f : Nat) (es : Exs) : ev Γ ρ (.call f es) c = (evs Γ ρ es c).bnd fun ds c1 => Γ f ds c1 := (rfl)
@[simp ↓] theorem x_bi (Γ : Nat → List D → Cup → R D) (ρ : Rho) (c : Cup) (b : Bi) (es : Exs) : ev Γ ρ (.bi b es) c = (evs Γ ρ es c).bnd fun ds c1 => R.opt (biD b ds) c1 := (rfl)
@[simp ↓] theorem x_isi (Γ : Nat → List D → Cup → R D) (ρ : Rho) (c : Cup) (a : Ex) (t : Ty) : ev Γ ρ (.isi a t) c = (ev Γ ρ a c).bnd fun x c1 => R.opt ((isD x t).map .bl) c1 := (rfl)
@[simp ↓] theorem x_lc (Γ : Nat → List D → Cup → R D) (ρ : Rho) (c : Cup) (e : Ex) (own : List (Str × Nat)) (g : Tg) (it : Src) (i : Eo) : ev Γ ρ (.lc e own g it i) c = (evi Γ ρ it c).bnd fun ds c1 => (lcL (fun x c2 => lcOne (asg g x (wipe own ρ)) (fun ρ' => evt Γ ρ' i) (fun ρ' => ev Γ ρ' e) c2) ds c1).bnd fun r c2 => .ok (.lst r) c2 := (rfl)
@[simp ↓] theorem x_and1 (Γ : Nat → List D → Cup → R D) (ρ : Rho) (c : Cup) (e : Ex) : evAnd Γ ρ (.cons e .nil) c = (ev Γ ρ e c).bnd .ok := (rfl)
@[simp ↓] theorem x_and2 (Γ : Nat → List D → Cup → R D) (ρ : Rho) (c : Cup) (e f : Ex) (es : Exs) : evAnd Γ ρ (.cons e (.cons f es)) c = (ev Γ ρ e c).bnd fun x c1 => (R.opt (tBl x) c1).bnd fun k c2 => if k then evAnd Γ ρ (.cons f es) c2 else .ok (.bl false) c2 := (rfl)
@[simp ↓] theorem x_or1 (Γ : Nat → List D → Cup → R D) (ρ : Rho) (c : Cup) (e : Ex) : evOr Γ ρ (.cons e .nil) c = (ev Γ ρ e c).bnd .ok := (rfl)
@[simp ↓] theorem x_or2 (Γ : Nat → List D → Cup → R D) (ρ : Rho) (c : Cup) (e f : Ex) (es : Exs) : evOr Γ ρ (.cons e (.cons f es)) c = (ev Γ ρ e c).bnd fun x c1 => (R.opt (tBl x) c1).bnd fun k c2 => if k then .ok (.bl true) c2 else evOr Γ ρ (.cons f es) c2 := (rfl)
@[simp ↓] theorem x_s0 (Γ : Nat → List D → Cup → R D) (ρ : Rho) (c : Cup) : evs Γ ρ .nil c = .ok [] c := (rfl)
@[simp ↓] theorem x_s1 (Γ : Nat → List D → Cup → R D) (ρ : Rho) (c : Cup) (e : Ex) (es : Exs) : evs Γ ρ (.cons e es) c = (ev Γ ρ e c).bnd fun x c1 => (evs Γ ρ es c1).bnd fun r c2 => .ok (x :: r) c2 := (rfl)
@[simp ↓] theorem x_o0 (Γ : Nat → List D → Cup → R D) (ρ : Rho) (c : Cup) : evo Γ ρ .no c = .ok none c := (rfl)
@[simp ↓] theorem x_o1 (Γ : Nat → List D → Cup → R D) (ρ : Rho) (c : Cup) (e : Ex) : evo Γ ρ (.so e) c = (ev Γ ρ e c).bnd fun x c1 => .ok (some x) c1 := (rfl)
@[simp ↓] theorem x_t0 (Γ : Nat → List D → Cup → R D) (ρ : Rho) (c : Cup) : evt Γ ρ .no c = .ok true c := (rfl)
@[simp ↓] theorem x_t1 (Γ : Nat → List D → Cup → R D) (ρ : Rho) (c : Cup) (e : Ex) : evt Γ ρ (.so e) c = (ev Γ ρ e c).bnd fun x c1 => R.opt (tBl x) c1 := (rfl)
@[simp ↓] theorem x_i0 (Γ : Nat → List D → Cup → R D) (ρ : Rho) (c : Cup) (e : Ex) : evi Γ ρ (.ex e) c = (ev Γ ρ e c).bnd fun x c1 => R.opt (seqD x) c1 := (rfl)
@[simp ↓] theorem x_i1 (Γ : Nat → List D → Cup → R D) (ρ : Rho) (c : Cup) (es : Exs) : evi Γ ρ (.rng es) c = (evs Γ ρ es c).bnd fun ds c1 => R.opt (rngD ds) c1 := (rfl)
@[simp ↓] theorem x_i2 (Γ : Nat → List D → Cup → R D) (ρ : Rho) (c : Cup) (a b : Ex) : evi Γ ρ (.zip a b) c = (ev Γ ρ a c).bnd fun x c1 => (ev Γ ρ b c1).bnd fun y c2 => R.opt (zipD x y) c2 := (rfl)
@[simp ↓] theorem x_i3 (Γ : Nat → List D → Cup → R D) (ρ : Rho) (c : Cup) (a : Ex) : evi Γ ρ (.enum a) c = (ev Γ ρ a c).bnd fun x c1 => R.opt (enumD x) c1 := (rfl)
@[simp ↓] theorem x_set (Γ : Nat → List D → Cup → R D) (env : Env) (c : Cup) (hs : List Nat) (i : Nat) (e : Ex) : ex1 Γ (.set i e hs) env c = (ev Γ (see hs env) e c).bnx fun d c1 => .ok (.nx, (if safe (fresh e) d then env else frz hs env).set i (newSl (fresh e) d)) c1 := (rfl)
@[simp ↓] theorem x_par (Γ : Nat → List D → Cup → R D) (env : Env) (c : Cup) (hs : List Nat) (is : List Nat) (es : Exs) : ex1 Γ (.par is es hs) env c = (evs Γ (see hs env) es c).bnd fun ds c1 => (R.opt (parE (freshs es) is ds (if safes (freshs es) ds then env else frz hs env)) c1).bnd fun env' c2 => .ok (.nx, env') c2 := (rfl)
@[simp ↓] theorem x_tas (Γ : Nat → List D → Cup → R D) (env : Env) (c : Cup) (hs : List Nat) (g : Tg) (e : Ex) : ex1 Γ (.tas g e hs) env c = (ev Γ (see hs env) e c).bnd fun d c1 => (R.opt (asgS g d (if safe false d then env else frz hs env)) c1).bnd fun env' c2 => .ok (.nx, env') c2 := (rfl)
def appK (env : Env) (i : Nat) (d : D) (c : Cup) : R (Fl × Env) := match env[i]? with
  | some (.o l) => if l.length < lineN then .ok (.nx, env.set i (.o (l ++ [d]))) c else .bad
  | _ => .bad
def extK (env : Env) (i : Nat) (d : D) (c : Cup) : R (Fl × Env) := match env[i]?, d with
  | some (.o l), .lst l' => if l.length + l'.length ≤ lineN then .ok (.nx, env.set i (.o (l ++ l'))) c else .bad
  | _, _ => .bad
def sixK (env : Env) (i : Nat) (k d : D) (c : Cup) : R (Fl × Env) := match env[i]?, k with
  | some (.o l), .int k => (match ixN l.length k with
    | some m => .ok (.nx, env.set i (.o (l.set m d))) c
    | none => .bad)
  | _, _ => .bad
def cupK (env : Env) (i : Nat) (k : Int) (d : D) (c1 : Cup) : R (Fl × Env) := match env[i]?, d with
  | some (.f .cup), .int n => if k = 0 then .ok (.nx, env) (n, c1.2) else if k = 1 then .ok (.nx, env) (c1.1, n) else .bad
  | _, _ => .bad
@[simp ↓] theorem x_app (Γ : Nat → List D → Cup → R D) (env : Env) (c : Cup) (hs : List Nat) (i : Nat) (e : Ex) : ex1 Γ (.app i e hs) env c = (ev Γ (see hs env) e c).bnd fun d c1 => appK (if safe (fresh e) d then env else frz hs env) i d c1 := (rfl)
@[simp ↓] theorem x_ext (Γ : Nat → List D → Cup → R D) (env : Env) (c : Cup) (hs : List Nat) (i : Nat) (e : Ex) : ex1 Γ (.ext i e hs) env c = (ev Γ (see hs env) e c).bnd fun d c1 => extK (if safe (fresh e) d then env else frz hs env) i d c1 := (rfl)
@[simp ↓] theorem x_six (Γ : Nat → List D → Cup → R D) (env : Env) (c : Cup) (hs : List Nat) (i : Nat) (j e : Ex) : ex1 Γ (.six i j e hs) env c = (ev Γ (see hs env) e c).bnd fun d c1 => (ev Γ (see hs (if safe (fresh e) d then env else frz hs env)) j c1).bnd fun k c2 => sixK (if safe (fresh e) d then env else frz hs env) i k d c2 := (rfl)
@[simp ↓] theorem x_cup (Γ : Nat → List D → Cup → R D) (env : Env) (c : Cup) (hs : List Nat) (i : Nat) (k : Int) (e : Ex) : ex1 Γ (.cup i k e hs) env c = (ev Γ (see hs env) e c).bnd fun d c1 => cupK env i k d c1 := (rfl)
@[simp ↓] theorem x_drop (Γ : Nat → List D → Cup → R D) (env : Env) (c : Cup) (hs : List Nat) (e : Ex) : ex1 Γ (.drop e hs) env c = (ev Γ (see hs env) e c).bnx fun d c1 => .ok (.nx, env) c1 := (rfl)
@[simp ↓] theorem x_ret (Γ : Nat → List D → Cup → R D) (env : Env) (c : Cup) (hs : List Nat) (e : Ex) : ex1 Γ (.ret e hs) env c = (ev Γ (see hs env) e c).bnx fun d c1 => .ok (.ret d, env) c1 := (rfl)
@[simp ↓] theorem x_if_ (Γ : Nat → List D → Cup → R D) (env : Env) (c : Cup) (hs : List Nat) (t : Ex) (a b : Sts) : ex1 Γ (.ife t hs a b) env c = (ev Γ (see hs env) t c).bnd fun x c1 => (R.opt (tBl x) c1).bnd fun k c2 => if k then exs Γ a env c2 else exs Γ b env c2 := (rfl)
@[simp ↓] theorem x_for_ (Γ : Nat → List D → Cup → R D) (env : Env) (c : Cup) (hs : List Nat) (g : Tg) (it : Src) (b : Sts) : ex1 Γ (.for g it hs b) env c = (evi Γ (see hs env) it c).bnd fun ds c1 => forL (fun x env c => (R.opt (asgS g x env) c).bnd fun env' c1 => exs Γ b env' c1) ds (if itAny it then env else frz hs env) c1 := (rfl)
@[simp ↓] theorem x_wh (Γ : Nat → List D → Cup → R D) (env : Env) (c : Cup) (hs : List Nat) (t : Ex) (b : Sts) : ex1 Γ (.while t hs b) env c = whL (fun env c => (ev Γ (see hs env) t c).bnd fun x c1 => R.opt (tBl x) c1) (exs Γ b) wFuel env c := (rfl)
@[simp ↓] theorem x_raise (Γ : Nat → List D → Cup → R D) (env : Env) (c : Cup) (k : Nat) : ex1 Γ (.raise k) env c = .exc k [] c := (rfl)
@[simp ↓] theorem x_lc2 (Γ : Nat → List D → Cup → R D) (ρ : Rho) (c : Cup) (e : Ex) (own own1 : List (Str × Nat)) (g : Tg) (it : Src) (i : Eo) (g1 : Tg) (it1 : Src) (i1 : Eo) : ev Γ ρ (.lc2 e own own1 g it i g1 it1 i1) c = (evi Γ ρ it c).bnd fun ds c1 => (lcF (fun x c2 => lcIn (asg g x (wipe own ρ)) (fun ρ' => evt Γ ρ' i) (fun ρ' c3 => (evi Γ ρ' it1 c3).bnd fun ds1 c4 => lcL (fun y c5 => lcOne (asg g1 y (wipe own1 ρ')) (fun ρ2 => evt Γ ρ2 i1) (fun ρ2 => ev Γ ρ2 e) c5) ds1 c4) c2) ds c1).bnd fun r c2 => if r.length ≤ lineN then .ok (.lst r) c2 else .bad := (rfl)
@[simp] theorem y_frlc2 (e : Ex) (own own1 : List (Str × Nat)) (g : Tg) (it : Src) (i : Eo) (g1 : Tg) (it1 : Src) (i1 : Eo) : fresh (.lc2 e own own1 g it i g1 it1 i1) = true := (rfl)
@[simp ↓] theorem x_fv (Γ : Nat → List D → Cup → R D) (ρ : Rho) (c : Cup) (f : Nat) : ev Γ ρ (.fv f) c = .ok (.fn f) c := (rfl)
def cvK (Γ : Nat → List D → Cup → R D) (x : D) (ds : List D) (c : Cup) : R D := match x with
  | .fn f => Γ f ds c
  | _ => .bad
@[simp] theorem cvK_fn (Γ : Nat → List D → Cup → R D) (f : Nat) (ds : List D) (c : Cup) : cvK Γ (.fn f) ds c = Γ f ds c := (rfl)
@[simp ↓] theorem x_cv (Γ : Nat → List D → Cup → R D) (ρ : Rho) (c : Cup) (i : Nat) (es : Exs) : ev Γ ρ (.cv i es) c = (R.opt (ρ[i]?.bind id) c).bnd fun x c1 => (evs Γ ρ es c1).bnd fun ds c2 => cvK Γ x ds c2 := (rfl)
@[simp ↓] theorem x_lam (Γ : Nat → List D → Cup → R D) (ρ : Rho) (c : Cup) (y : Str) (h : List D) (r : D) (e : Ex) : ev Γ ρ (.lam y h r e) c = lamR h r (ev Γ ρ e c) := (rfl)
@[simp] theorem y_frv (f : Nat) : fresh (.fv f) = false := (rfl)
@[simp] theorem y_frcv (i : Nat) (es : Exs) : fresh (.cv i es) = false := (rfl)
@[simp] theorem y_frlam (y : Str) (h : List D) (r : D) (e : Ex) : fresh (.lam y h r e) = false := (rfl)
@[simp ↓] theorem x_brk (Γ : Nat → List D → Cup → R D) (env : Env) (c : Cup) : ex1 Γ .brk env c = .ok (.bk, env) c := (rfl)
@[simp ↓] theorem x_cnt (Γ : Nat → List D → Cup → R D) (env : Env) (c : Cup) : ex1 Γ .cnt env c = .ok (.ct, env) c := (rfl)
@[simp ↓] theorem x_pass (Γ : Nat → List D → Cup → R D) (env : Env) (c : Cup) : ex1 Γ .pass env c = .ok (.nx, env) c := (rfl)
def goOn (Γ : Nat → List D → Cup → R D) (ss : Sts) (r : Fl × Env) (c1 : Cup) : R (Fl × Env) := match r.1 with
  | .nx => exs Γ ss r.2 c1
  | .ret d => .ok (.ret d, r.2) c1
  | .bk => .ok (.bk, r.2) c1
  | .ct => .ok (.ct, r.2) c1
@[simp ↓] theorem x_x0 (Γ : Nat → List D → Cup → R D) (env : Env) (c : Cup) : exs Γ .nil env c = .ok (.nx, env) c := (rfl)
@[simp ↓] theorem x_x1 (Γ : Nat → List D → Cup → R D) (env : Env) (c : Cup) (s : St) (ss : Sts) : exs Γ (.cons s ss) env c = (ex1 Γ s env c).bnx fun r c1 => goOn Γ ss r c1 := (rfl)
@[simp ↓] theorem x_g0 (Γ : Nat → List D → Cup → R D) (env : Env) (c : Cup) (ss : Sts) : goOn Γ ss (.nx, env) c = exs Γ ss env c := (rfl)
@[simp ↓] theorem x_g1 (Γ : Nat → List D → Cup → R D) (env : Env) (c : Cup) (ss : Sts) (d : D) : goOn Γ ss (.ret d, env) c = .ok (.ret d, env) c := (rfl)
@[simp ↓] theorem x_g2 (Γ : Nat → List D → Cup → R D) (env : Env) (c : Cup) (ss : Sts) : goOn Γ ss (.bk, env) c = .ok (.bk, env) c := (rfl)
@[simp ↓] theorem x_g3 (Γ : Nat → List D → Cup → R D) (env : Env) (c : Cup) (ss : Sts) : goOn Γ ss (.ct, env) c = .ok (.ct, env) c := (rfl)
def endF (r : Fl × Env) (c1 : Cup) : R D := match r.1 with
  | .ret d => .ok d c1
  | .nx => .ok .non c1
  | .bk => .bad
  | .ct => .bad
@[simp] theorem e_0 (env : Env) (c : Cup) (d : D) : endF (.ret d, env) c = .ok d c := (rfl)
@[simp] theorem e_1 (env : Env) (c : Cup) : endF (.nx, env) c = .ok .non c := (rfl)
theorem call_x {defs : List Fd} {n f np : Nat} {N : List Str} {b : Sts} {ds : List D} {c : Cup} (h : defs[f]? = some ⟨np, N, b⟩) (hl : ds.length = np) : callN defs (n + 1) f ds c = (exs (callN defs n) b (ds.map .f ++ List.replicate (N.length - ds.length) .u) c).bnx fun r c1 => endF r c1 := by
  show (match defs[f]? with | none => R.bad | some fd => runF (callN defs n) fd ds c) = _
  rw [h]
  show (if ds.length = np then _ else _) = _
  rw [if_pos hl]
  rfl
@[simp] theorem see_e (hs : List Nat) (env : Env) : see hs env = seeFrom hs 0 env := (rfl)
@[simp] theorem see_0 (hs : List Nat) (i : Nat) : seeFrom hs i [] = [] := (rfl)
@[simp] theorem see_1 (hs : List Nat) (i : Nat) (s : Sl) (r : Env) : seeFrom hs i (s :: r) = s.seeAt (hs.contains i) :: seeFrom hs (i + 1) r := (rfl)
@[simp] theorem frz_e (i : Nat) (hs : List Nat) (env : Env) : frz (i :: hs) env = frzFrom (i :: hs) 0 env := (rfl)
@[simp] theorem frz_0 (hs : List Nat) (i : Nat) : frzFrom hs i [] = [] := (rfl)
@[simp] theorem frz_1 (hs : List Nat) (i : Nat) (s : Sl) (r : Env) : frzFrom hs i (s :: r) = s.frzAt (hs.contains i) :: frzFrom hs (i + 1) r := (rfl)
@[simp] theorem y_sa0 (b : Bool) : Sl.seeAt b .u = none := (rfl)
@[simp] theorem y_sa1 (b : Bool) (d : D) : Sl.seeAt b (.f d) = some d := (rfl)
@[simp] theorem y_sa2 (l : List D) : Sl.seeAt true (.o l) = some (.lst l) := (rfl)
@[simp] theorem y_sa3 (l : List D) : Sl.seeAt false (.o l) = none := (rfl)
@[simp] theorem y_fa0 (b : Bool) : Sl.frzAt b .u = .u := (rfl)
@[simp] theorem y_fa1 (b : Bool) (d : D) : Sl.frzAt b (.f d) = .f d := (rfl)
@[simp] theorem y_fa2 (l : List D) : Sl.frzAt true (.o l) = .f (.lst l) := (rfl)
@[simp] theorem y_fa3 (l : List D) : Sl.frzAt false (.o l) = .o l := (rfl)
@[simp] theorem y_as0 (i : Nat) (d : D) (ρ : Rho) : asg (.n i) d ρ = some (ρ.set i (some d)) := (rfl)
@[simp] theorem y_as1 (ts : Tgs) (l : List D) (ρ : Rho) : asg (.t ts) (.tup l) ρ = asgs ts l ρ := (rfl)
@[simp] theorem y_as2 (ρ : Rho) : asgs .nil [] ρ = some ρ := (rfl)
@[simp] theorem y_as3 (t : Tg) (ts : Tgs) (d : D) (r : List D) (ρ : Rho) : asgs (.cons t ts) (d :: r) ρ = match asg t d ρ with | some ρ' => asgs ts r ρ' | none => none := (rfl)
@[simp] theorem y_bs0 (i : Nat) (d : D) (ρ : Env) : asgS (.n i) d ρ = some (ρ.set i (.f d)) := (rfl)
@[simp] theorem y_bs1 (ts : Tgs) (l : List D) (ρ : Env) : asgS (.t ts) (.tup l) ρ = asgSs ts l ρ := (rfl)
@[simp] theorem y_bs2 (ρ : Env) : asgSs .nil [] ρ = some ρ := (rfl)
@[simp] theorem y_bs3 (t : Tg) (ts : Tgs) (d : D) (r : List D) (ρ : Env) : asgSs (.cons t ts) (d :: r) ρ = match asgS t d ρ with | some ρ' => asgSs ts r ρ' | none => none := (rfl)
@[simp] theorem y_w0 (ρ : Rho) : wipe [] ρ = ρ := (rfl)
@[simp] theorem y_w1 (p : Str × Nat) (r : List (Str × Nat)) (ρ : Rho) : wipe (p :: r) ρ = (wipe r ρ).set p.2 none := (rfl)
@[simp] theorem y_fr0 (es : Exs) : fresh (.lst es) = true := (rfl)
@[simp] theorem y_fr1 (e : Ex) (o : List (Str × Nat)) (g : Tg) (it : Src) (i : Eo) : fresh (.lc e o g it i) = true := (rfl)
@[simp] theorem y_fr2 (a b : Ex) : fresh (.bin .add a b) = true := (rfl)
@[simp] theorem y_fr3 (a b : Ex) : fresh (.bin .mul a b) = true := (rfl)
@[simp] theorem y_fr4 (a : Ex) (x y z : Eo) : fresh (.sl a x y z) = true := (rfl)
@[simp] theorem y_fr5 (i : Nat) : fresh (.v i) = false := (rfl)
@[simp] theorem y_fr6 (i : Int) : fresh (.int i) = false := (rfl)
@[simp] theorem y_fr7 (i : Str) : fresh (.str i) = false := (rfl)
@[simp] theorem y_fr8 (i : Bool) : fresh (.bl i) = false := (rfl)
@[simp] theorem y_fr9 : fresh .non = false := (rfl)
@[simp] theorem y_fr10 (f : Nat) (es : Exs) : fresh (.call f es) = false := (rfl)
@[simp] theorem y_fr11 (es : Exs) : fresh (.tup es) = false := (rfl)
@[simp] theorem y_fr12 (a b : Ex) : fresh (.ix a b) = false := (rfl)
@[simp] theorem y_fr13 (t a b : Ex) : fresh (.ife t a b) = false := (rfl)
@[simp] theorem y_fr14s (x z : Str) : fresh (.css x z) = false := (rfl)
@[simp] theorem y_fr14 (x : Str) (i : Int) : fresh (.cst x i) = false := (rfl)
@[simp] theorem y_fr15 (a : Ex) : fresh (.neg a) = false := (rfl)
@[simp] theorem y_fr16 (es : Exs) : fresh (.and es) = false := (rfl)
@[simp] theorem y_fr17 (es : Exs) : fresh (.or es) = false := (rfl)
@[simp] theorem y_fr18 (a : Ex) : fresh (.not a) = false := (rfl)
@[simp] theorem y_fr19 (o : Cop) (a b : Ex) : fresh (.cmp o a b) = false := (rfl)
@[simp] theorem y_fr20 (o p : Cop) (a b c : Ex) : fresh (.cmp2 o p a b c) = false := (rfl)
@[simp] theorem y_fr21 (a : Ex) (t : Ty) : fresh (.isi a t) = false := (rfl)
@[simp] theorem y_fb0 (a b : Ex) : fresh (.bin .sub a b) = false := (rfl)
@[simp] theorem y_fb1 (a b : Ex) : fresh (.bin .fdiv a b) = false := (rfl)
@[simp] theorem y_fb2 (a b : Ex) : fresh (.bin .mod a b) = false := (rfl)
@[simp] theorem y_fb3 (a b : Ex) : fresh (.bin .pow a b) = false := (rfl)
@[simp] theorem y_fi0 (es : Exs) : fresh (.bi .len es) = false := (rfl)
@[simp] theorem y_fi1 (es : Exs) : fresh (.bi .int es) = false := (rfl)
@[simp] theorem y_fi2 (es : Exs) : fresh (.bi .abs es) = false := (rfl)
@[simp] theorem y_fi3 (es : Exs) : fresh (.bi .sum es) = false := (rfl)
@[simp] theorem y_fi4 (es : Exs) : fresh (.bi .max es) = false := (rfl)
@[simp] theorem y_fi5 (es : Exs) : fresh (.bi .min es) = false := (rfl)
@[simp] theorem y_fi6 (es : Exs) : fresh (.bi .all es) = false := (rfl)
@[simp] theorem y_fi7 (es : Exs) : fresh (.bi .any es) = false := (rfl)
@[simp] theorem y_fi8 (es : Exs) : fresh (.bi .tuple es) = false := (rfl)
@[simp] theorem y_fi9 (es : Exs) : fresh (.bi .list es) = true := (rfl)
@[simp] theorem y_fi10 (es : Exs) : fresh (.bi .str es) = false := (rfl)
@[simp] theorem y_fi11 (es : Exs) : fresh (.bi .sorted es) = true := (rfl)
@[simp] theorem y_sf0 (fr : Bool) (l : List D) : safe fr (.lst l) = (fr && D.nls l) := (rfl)
@[simp] theorem y_sf1 (fr : Bool) : safe fr .non = true := (rfl)
@[simp] theorem y_sf2 (fr : Bool) (b : Bool) : safe fr (.bl b) = true := (rfl)
@[simp] theorem y_sf3 (fr : Bool) (b : Int) : safe fr (.int b) = true := (rfl)
@[simp] theorem y_sf4 (fr : Bool) (b : Str) : safe fr (.str b) = true := (rfl)
@[simp] theorem y_sf5 (fr : Bool) (b : List D) : safe fr (.tup b) = D.nls b := (rfl)
@[simp] theorem y_sf6 (fr : Bool) : safe fr .cup = true := (rfl)
@[simp] theorem y_ns0 (l : List D) : newSl true (.lst l) = .o l := (rfl)
@[simp] theorem y_ns1 (l : List D) : newSl false (.lst l) = .f (.lst l) := (rfl)
@[simp] theorem y_ns2 (fr : Bool) : newSl fr .non = .f .non := (rfl)
@[simp] theorem y_ns3 (fr : Bool) (b : Bool) : newSl fr (.bl b) = .f (.bl b) := (rfl)
@[simp] theorem y_ns4 (fr : Bool) (b : Int) : newSl fr (.int b) = .f (.int b) := (rfl)
@[simp] theorem y_ns5 (fr : Bool) (b : Str) : newSl fr (.str b) = .f (.str b) := (rfl)
@[simp] theorem y_ns6 (fr : Bool) (b : List D) : newSl fr (.tup b) = .f (.tup b) := (rfl)
@[simp] theorem y_nl0 (l : List D) : D.nl (.tup l) = D.nls l := (rfl)
@[simp] theorem y_nl1 (l : List D) : D.nl (.lst l) = false := (rfl)
@[simp] theorem y_nl2 : D.nl .non = true := (rfl)
@[simp] theorem y_nl3 (b : Bool) : D.nl (.bl b) = true := (rfl)
@[simp] theorem y_nl4 (b : Int) : D.nl (.int b) = true := (rfl)
@[simp] theorem y_nl5 (b : Str) : D.nl (.str b) = true := (rfl)
@[simp] theorem y_nl6 : D.nls [] = true := (rfl)
@[simp] theorem y_nl7 (d : D) (r : List D) : D.nls (d :: r) = (D.nl d && D.nls r) := (rfl)
@[simp] theorem y_ia0 (es : Exs) : itAny (.rng es) = true := (rfl)
@[simp] theorem y_ia1 (e : Ex) : itAny (.ex e) = false := (rfl)
@[simp] theorem y_ia2 (a b : Ex) : itAny (.zip a b) = false := (rfl)
@[simp] theorem y_ia3 (a : Ex) : itAny (.enum a) = false := (rfl)
@[simp] theorem y_tb (b : Bool) : tBl (.bl b) = some b := (rfl)
@[simp] theorem y_sq0 (l : List D) : seqD (.tup l) = some l := (rfl)
@[simp] theorem y_sq1 (l : List D) : seqD (.lst l) = some l := (rfl)
@[simp] theorem y_zp0 (a b : List D) : zipD (.tup a) (.tup b) = some ((a.zip b).map fun p => .tup [p.1, p.2]) := (rfl)
@[simp] theorem y_zp1 (a b : List D) : zipD (.lst a) (.lst b) = some ((a.zip b).map fun p => .tup [p.1, p.2]) := (rfl)
@[simp] theorem y_en (a : List D) : enumD (.lst a) = some (enumL 0 a) := (rfl)
@[simp] theorem y_enT (a : List D) : enumD (.tup a) = some (enumL 0 a) := (rfl)
@[simp] theorem y_ak (env : Env) (i : Nat) (d : D) (c : Cup) : appK env i d c = match env[i]? with
  | some (.o l) => if l.length < lineN then .ok (.nx, env.set i (.o (l ++ [d]))) c else .bad
  | _ => .bad := (rfl)
@[simp] theorem y_ek (env : Env) (i : Nat) (d : D) (c : Cup) : extK env i d c = match env[i]?, d with
  | some (.o l), .lst l' => if l.length + l'.length ≤ lineN then .ok (.nx, env.set i (.o (l ++ l'))) c else .bad
  | _, _ => .bad := (rfl)
@[simp] theorem y_ck (env : Env) (i : Nat) (k : Int) (d : D) (c1 : Cup) : cupK env i k d c1 = match env[i]?, d with
  | some (.f .cup), .int n => if k = 0 then .ok (.nx, env) (n, c1.2) else if k = 1 then .ok (.nx, env) (c1.1, n) else .bad
  | _, _ => .bad := (rfl)
@[simp] theorem y_pe0 (fr : List Bool) (env : Env) : parE fr [] [] env = some env := (rfl)
@[simp] theorem y_pe1 (fr : List Bool) (i : Nat) (is : List Nat) (d : D) (r : List D) (env : Env) : parE fr (i :: is) (d :: r) env = parE fr.tail is r (env.set i (newSl (fr.headD false) d)) := (rfl)
@[simp] theorem y_fs0 : freshs .nil = [] := (rfl)
@[simp] theorem y_fs1 (e : Ex) (es : Exs) : freshs (.cons e es) = fresh e :: freshs es := (rfl)
@[simp] theorem y_ss0 (fr : List Bool) : safes fr [] = true := (rfl)
@[simp] theorem y_ss1 (fr : List Bool) (d : D) (r : List D) : safes fr (d :: r) = (safe (fr.headD false) d && safes fr.tail r) := (rfl)
@[simp] theorem y_b0 (i j : Int) : binD .add (.int i) (.int j) = some (.int (i + j)) := (rfl)
@[simp] theorem y_b1 (i j : Int) : binD .sub (.int i) (.int j) = some (.int (i - j)) := (rfl)
@[simp] theorem y_b2 (i j : Int) : binD .mul (.int i) (.int j) = if (i.natAbs < 18446744073709551616 ∨ j.natAbs < 18446744073709551616) then some (.int (i * j)) else none := (rfl)
@[simp] theorem y_b3 (i j : Int) : binD .fdiv (.int i) (.int j) = if 0 < j ∧ j.natAbs.log2 < 9000 then some (.int (i / j)) else none := (rfl)
@[simp] theorem y_b4 (i j : Int) : binD .mod (.int i) (.int j) = if 0 < j then some (.int (i % j)) else none := (rfl)
@[simp] theorem y_b5 (i j : Int) : binD .pow (.int i) (.int j) = if 0 ≤ j ∧ j ≤ 1000000 ∧ i.natAbs < 18446744073709551616 then some (.int (i ^ j.toNat)) else none := (rfl)
@[simp] theorem y_b6 (a b : List D) : binD .add (.lst a) (.lst b) = if a.length + b.length ≤ lineN then some (.lst (a ++ b)) else none := (rfl)
@[simp] theorem y_b7 (a b : List D) : binD .add (.tup a) (.tup b) = if a.length + b.length ≤ lineN then some (.tup (a ++ b)) else none := (rfl)
@[simp] theorem y_b8 (a : List D) (j : Int) : binD .mul (.tup a) (.int j) = if 2 ≤ j ∧ j < 16777217 ∧ a.isEmpty = false ∧ a.length * j.toNat ≤ lineN then some (.tup (List.replicate j.toNat a).flatten) else none := (rfl)
@[simp] theorem y_b9 (a : List D) (j : Int) : binD .mul (.lst a) (.int j) = if j.natAbs < 16777217 ∧ a.length * j.toNat ≤ lineN then some (.lst (List.replicate j.toNat a).flatten) else none := (rfl)
@[simp] theorem y_n0 (i : Int) : negD (.int i) = some (.int (-i)) := (rfl)
@[simp] theorem y_c0 (i j : Int) : cmpD .lt (.int i) (.int j) = some (decide (i < j)) := (rfl)
@[simp] theorem y_c1 (i j : Int) : cmpD .le (.int i) (.int j) = some (decide (i ≤ j)) := (rfl)
@[simp] theorem y_c2 (i j : Int) : cmpD .gt (.int i) (.int j) = some (decide (j < i)) := (rfl)
@[simp] theorem y_c3 (i j : Int) : cmpD .ge (.int i) (.int j) = some (decide (j ≤ i)) := (rfl)
@[simp] theorem y_c4 (i j : Int) : cmpD .eq (.int i) (.int j) = some (i == j) := (rfl)
@[simp] theorem y_c5 (i j : Int) : cmpD .ne (.int i) (.int j) = some (!(i == j)) := (rfl)
@[simp] theorem y_x0_ (c : Cup) (l : List D) (i : Int) : ixD c (.tup l) (.int i) = atI l i := (rfl)
@[simp] theorem y_x1_ (c : Cup) (l : List D) (i : Int) : ixD c (.lst l) (.int i) = atI l i := (rfl)
@[simp] theorem y_x2_ (c : Cup) : ixD c .cup (.int 0) = some (.int c.1) := (rfl)
@[simp] theorem y_x3_ (c : Cup) : ixD c .cup (.int 1) = some (.int c.2) := (rfl)
@[simp] theorem y_l0 (l : List D) : biD .len [.tup l] = some (.int l.length) := (rfl)
@[simp] theorem y_l1 (l : List D) : biD .len [.lst l] = some (.int l.length) := (rfl)
@[simp] theorem y_l2 (i : Int) : biD .int [.int i] = some (.int i) := (rfl)
@[simp] theorem y_l3 (b : Bool) : biD .int [.bl b] = some (.int (if b then 1 else 0)) := (rfl)
@[simp] theorem y_l4 (i : Int) : biD .abs [.int i] = some (.int (if i < 0 then -i else i)) := (rfl)
@[simp] theorem y_l5 (l : List D) : biD .sum [.lst l] = (intsD l).map fun ns => .int ns.sum := (rfl)
@[simp] theorem y_l5T (l : List D) : biD .sum [.tup l] = (intsD l).map fun ns => .int ns.sum := (rfl)
theorem y_l6 (l : List D) : biD .all [.lst l] = (blsD l).map fun bs => .bl (bs.all id) := (rfl)
theorem y_l7 (l : List D) : biD .any [.lst l] = (blsD l).map fun bs => .bl (bs.any id) := (rfl)
@[simp] theorem y_l8 (l : List D) : biD .tuple [.lst l] = some (.tup l) := (rfl)
@[simp] theorem y_l9 (l : List D) : biD .tuple [.tup l] = some (.tup l) := (rfl)
@[simp] theorem y_l10 (l : List D) : biD .list [.lst l] = some (.lst l) := (rfl)
@[simp] theorem y_l11 (l : List D) : biD .list [.tup l] = some (.lst l) := (rfl)
@[simp] theorem y_l12 (l : List Int) : biD .list [.scr l] = some (.lst (l.map .int)) := (rfl)
@[simp] theorem y_l13 (i : Int) : biD .str [.int i] = if i.natAbs.log2 < 1920 then some (.str (toString i)) else none := (rfl)
@[simp] theorem y_l14 (i j : Int) : biD .max [.int i, .int j] = some (.int (if j > i then j else i)) := (rfl)
@[simp] theorem y_l15 (i j : Int) : biD .min [.int i, .int j] = some (.int (if j < i then j else i)) := (rfl)
@[simp] theorem all_bls {α : Type} (f : α → Bool) (l : List α) : biD .all [.lst (l.map fun a => .bl (f a))] = some (.bl (l.all f)) := by
  rw [y_l6, bls_map]
  simp [List.all_map, Function.comp_def]
@[simp] theorem any_bls {α : Type} (f : α → Bool) (l : List α) : biD .any [.lst (l.map fun a => .bl (f a))] = some (.bl (l.any f)) := by
  rw [y_l7, bls_map]
  simp [List.any_map, Function.comp_def]
theorem plains_iff {l : List D} : D.plains l = true ↔ ∀ d ∈ l, d.plain = true := by
  induction l with
  | nil => simp [D.plains]
  | cons d r ih => simp [D.plains, ih]
theorem deeps_iff {l : List D} {k : Nat} : D.deeps l ≤ k ↔ ∀ d ∈ l, d.deep ≤ k := by
  induction l with
  | nil => simp [D.deeps]
  | cons d r ih => simp only [D.deeps, List.forall_mem_cons, ← ih]; omega
theorem fits_sub {l l' : List D} (h : (D.tup l).fits = true) (s : ∀ d ∈ l', d ∈ l) : (D.lst l').fits = true := by
  unfold D.fits at h ⊢
  obtain ⟨h1, h2⟩ := and_t h
  have h1 : D.plains l = true := h1
  have h2 : D.deeps l + 1 ≤ 64 := of_decide_eq_true h2
  have e1 : D.plains l' = true := plains_iff.mpr fun d hd => plains_iff.mp h1 d (s d hd)
  have e2 : D.deeps l' ≤ 63 := deeps_iff.mpr fun d hd => (deeps_iff (k := 63)).mp (by omega) d (s d hd)
  have e3 : D.plain (.lst l') = true := e1
  have e4 : D.deep (.lst l') = D.deeps l' + 1 := (rfl)
  rw [e3, e4, decide_eq_true (by omega)]
  rfl
theorem eq_nil {l : List D} (h : (D.lst l).fits = true) : cmpD .eq (.lst l) (.lst []) = some l.isEmpty := by
  show (if (D.lst l).fits && (D.lst []).fits then _ else _) = _
  rw [h, if_pos (by decide)]
  cases l <;> rfl
theorem ne_nil {l : List D} (h : (D.lst l).fits = true) : cmpD .ne (.lst l) (.lst []) = some (!l.isEmpty) := by
  show (if (D.lst l).fits && (D.lst []).fits then _ else _) = _
  rw [h, if_pos (by decide)]
  cases l <;> rfl
theorem ix_lit {n k : Nat} (h : k < n) : ixN n (k : Int) = some k := by
  unfold ixN L2.ixN
  rw [if_pos (by omega), if_pos (by omega)]
  simp
theorem at_lit {l : List D} {k : Nat} {d : D} (h : l[k]? = some d) : atI l (k : Int) = some d := by
  unfold atI
  rw [ix_lit (List.getElem?_eq_some_iff.mp h).1]
  exact h
@[simp] theorem at_m1 (l : List D) (d : D) : atI (l ++ [d]) (-1) = some d := by
  have : ixN (l ++ [d]).length (-1) = some l.length := by
    unfold ixN L2.ixN
    rw [if_neg (by omega), if_pos (by simp; omega)]
    simp
    omega
  unfold atI
  rw [this]
  simp
@[simp] theorem at_0 (d0 : D) (l : List D) : atI (d0 :: l) 0 = some d0 := at_lit (k := 0) rfl
@[simp] theorem at_1 (d0 d1 : D) (l : List D) : atI (d0 :: d1 :: l) 1 = some d1 := at_lit (k := 1) rfl
@[simp] theorem at_2 (d0 d1 d2 : D) (l : List D) : atI (d0 :: d1 :: d2 :: l) 2 = some d2 := at_lit (k := 2) rfl
@[simp] theorem at_3 (d0 d1 d2 d3 : D) (l : List D) : atI (d0 :: d1 :: d2 :: d3 :: l) 3 = some d3 := at_lit (k := 3) rfl
end Mn

set_option maxRecDepth 100000
set_option maxHeartbeats 4000000
namespace Mn
open PySem
/-- is_integer(value) : 0=value -/
def d0 : Fd := ⟨1, ["value"],
  (.cons (.ret (.and (.cons (.isi (.v 0) .int) (.cons (.not (.isi (.v 0) .bool)) .nil))) []) .nil)⟩
/-- is_number(value, low, high) : 0=value 1=low 2=high -/
def d1 : Fd := ⟨3, ["value", "low", "high"],
  (.cons (.ret (.and (.cons (.call 0 (.cons (.v 0) .nil)) (.cons (.cmp2 .le .le (.v 1) (.v 0) (.v 2)) .nil))) []) .nil)⟩
/-- is_tuple_of(value, low, high) : 0=value 1=low 2=high -/
def d2 : Fd := ⟨3, ["value", "low", "high"],
  (.cons (.ret (.and (.cons (.isi (.v 0) .tuple) (.cons (.cmp2 .le .le (.v 1) (.bi .len (.cons (.v 0) .nil)) (.v 2)) .nil))) []) .nil)⟩
/-- number_in(sizes) : 0=sizes 1=found 2=size -/
def d3 : Fd := ⟨1, ["sizes", "found", "size"],
  (.cons (.set 1 (.int 1) []) (.cons (.for (.n 2) (.ex (.v 0)) [] (.cons (.set 1 (.bin .mul (.v 1) (.v 2)) [1]) .nil)) (.cons (.ret (.v 1) [1]) .nil)))⟩
/-- sizes_in(pairs) : 0=pairs 1=size 2=step -/
def d4 : Fd := ⟨1, ["pairs", "size", "step"],
  (.cons (.ret (.bi .tuple (.cons (.lc (.v 1) [("size", 1), ("step", 2)] (.t (.cons (.n 1) (.cons (.n 2) .nil))) (.ex (.v 0)) .no) .nil)) []) .nil)⟩
/-- fits_shape(value) : 0=value 1=size -/
def d5 : Fd := ⟨1, ["value", "size"],
  (.cons (.ife (.or (.cons (.not (.call 2 (.cons (.v 0) (.cons (.int 0) (.cons (.cst "MOST_PAIRS" 16) .nil))))) (.cons (.not (.bi .all (.cons (.lc (.call 1 (.cons (.v 1) (.cons (.int 1) (.cons (.cst "MOST_PLACES" 5000) .nil)))) [("size", 1)] (.n 1) (.ex (.v 0)) .no) .nil))) .nil))) [] (.cons (.ret (.bl false) []) .nil) .nil) (.cons (.ret (.cmp .le (.call 3 (.cons (.v 0) .nil)) (.cst "MOST_PLACES" 5000)) []) .nil))⟩
/-- fits_pairs(value) : 0=value 1=pair 2=size 3=step -/
def d6 : Fd := ⟨1, ["value", "pair", "size", "step"],
  (.cons (.ife (.or (.cons (.not (.call 2 (.cons (.v 0) (.cons (.int 0) (.cons (.cst "MOST_PAIRS" 16) .nil))))) (.cons (.not (.bi .all (.cons (.lc (.call 2 (.cons (.v 1) (.cons (.int 2) (.cons (.int 2) .nil)))) [("pair", 1)] (.n 1) (.ex (.v 0)) .no) .nil))) .nil))) [] (.cons (.ret (.bl false) []) .nil) .nil) (.cons (.ret (.and (.cons (.bi .all (.cons (.lc (.call 0 (.cons (.v 3) .nil)) [("size", 2), ("step", 3)] (.t (.cons (.n 2) (.cons (.n 3) .nil))) (.ex (.v 0)) .no) .nil)) (.cons (.call 5 (.cons (.call 4 (.cons (.v 0) .nil)) .nil)) .nil))) []) .nil))⟩
/-- fits_walk(value) : 0=value -/
def d7 : Fd := ⟨1, ["value"],
  (.cons (.ret (.and (.cons (.call 2 (.cons (.v 0) (.cons (.int 2) (.cons (.int 2) .nil)))) (.cons (.call 0 (.cons (.ix (.v 0) (.int 0)) .nil)) (.cons (.call 6 (.cons (.ix (.v 0) (.int 1)) .nil)) .nil)))) []) .nil)⟩
/-- need_walk(value) : 0=value -/
def d8 : Fd := ⟨1, ["value"],
  (.cons (.ife (.not (.call 7 (.cons (.v 0) .nil))) [] (.cons (.raise 1) .nil) .nil) .nil)⟩
/-- deeds_in(pairs) : 0=pairs 1=found 2=at -/
def d9 : Fd := ⟨1, ["pairs", "found", "at"],
  (.cons (.set 1 (.lst .nil) []) (.cons (.for (.n 2) (.rng (.cons (.bin .sub (.bi .len (.cons (.v 0) .nil)) (.int 1)) .nil)) [] (.cons (.ife (.cmp .eq (.ix (.ix (.v 0) (.bin .add (.v 2) (.int 1))) (.int 1)) (.bin .mul (.ix (.ix (.v 0) (.v 2)) (.int 0)) (.ix (.ix (.v 0) (.v 2)) (.int 1)))) [] (.cons (.app 1 (.tup (.cons (.css "JOIN" "join") (.cons (.v 2) .nil))) []) .nil) .nil) .nil)) (.cons (.ret (.bin .add (.v 1) (.lc (.tup (.cons (.css "STRIKE" "strike") (.cons (.v 2) .nil))) [("at", 2)] (.n 2) (.rng (.cons (.bi .len (.cons (.v 0) .nil)) .nil)) (.so (.cmp .eq (.ix (.ix (.v 0) (.v 2)) (.int 0)) (.int 1))))) [1]) .nil)))⟩
/-- pairs_by(pairs, deed) : 0=pairs 1=deed 2=word 3=at -/
def d10 : Fd := ⟨2, ["pairs", "deed", "word", "at"],
  (.cons (.tas (.t (.cons (.n 2) (.cons (.n 3) .nil))) (.v 1) []) (.cons (.ife (.cmp .eq (.v 2) (.css "STRIKE" "strike")) [] (.cons (.ret (.bin .add (.sl (.v 0) .no (.so (.v 3)) .no) (.sl (.v 0) (.so (.bin .add (.v 3) (.int 1))) .no .no)) []) .nil) .nil) (.cons (.ret (.bin .add (.bin .add (.sl (.v 0) .no (.so (.v 3)) .no) (.tup (.cons (.tup (.cons (.bin .mul (.ix (.ix (.v 0) (.v 3)) (.int 0)) (.ix (.ix (.v 0) (.bin .add (.v 3) (.int 1))) (.int 0))) (.cons (.ix (.ix (.v 0) (.v 3)) (.int 1)) .nil))) .nil))) (.sl (.v 0) (.so (.bin .add (.v 3) (.int 2))) .no .no)) []) .nil)))⟩
/-- fits_deed(pairs, value) : 0=pairs 1=value -/
def d11 : Fd := ⟨2, ["pairs", "value"],
  (.cons (.ife (.or (.cons (.not (.call 2 (.cons (.v 1) (.cons (.int 2) (.cons (.int 2) .nil))))) (.cons (.not (.isi (.ix (.v 1) (.int 0)) .str)) (.cons (.not (.call 0 (.cons (.ix (.v 1) (.int 1)) .nil))) .nil)))) [] (.cons (.ret (.bl false) []) .nil) .nil) (.cons (.ret (.cmp .inn (.v 1) (.call 9 (.cons (.v 0) .nil))) []) .nil))⟩
/-- is_plain_in(pairs) : 0=pairs 1=size 2=step -/
def d12 : Fd := ⟨1, ["pairs", "size", "step"],
  (.cons (.ret (.bi .all (.cons (.lc (.cmp .gt (.v 1) (.int 1)) [("size", 1), ("step", 2)] (.t (.cons (.n 1) (.cons (.n 2) .nil))) (.ex (.v 0)) .no) .nil)) []) .nil)⟩
/-- short_deeds(walk) : 0=walk -/
def d13 : Fd := ⟨1, ["walk"],
  (.cons (.drop (.call 8 (.cons (.v 0) .nil)) []) (.cons (.ret (.bi .tuple (.cons (.call 9 (.cons (.ix (.v 0) (.int 1)) .nil)) .nil)) []) .nil))⟩
/-- is_short_deed(walk, value) : 0=walk 1=value -/
def d14 : Fd := ⟨2, ["walk", "value"],
  (.cons (.drop (.call 8 (.cons (.v 0) .nil)) []) (.cons (.ret (.call 11 (.cons (.ix (.v 0) (.int 1)) (.cons (.v 1) .nil))) []) .nil))⟩
/-- walk_by_deed(walk, deed) : 0=walk 1=deed -/
def d15 : Fd := ⟨2, ["walk", "deed"],
  (.cons (.drop (.call 8 (.cons (.v 0) .nil)) []) (.cons (.ife (.not (.call 11 (.cons (.ix (.v 0) (.int 1)) (.cons (.v 1) .nil)))) [] (.cons (.raise 2) .nil) .nil) (.cons (.ret (.tup (.cons (.ix (.v 0) (.int 0)) (.cons (.call 10 (.cons (.ix (.v 0) (.int 1)) (.cons (.v 1) .nil))) .nil))) []) .nil)))⟩
/-- is_short(walk) : 0=walk -/
def d16 : Fd := ⟨1, ["walk"],
  (.cons (.drop (.call 8 (.cons (.v 0) .nil)) []) (.cons (.ret (.cmp .eq (.call 9 (.cons (.ix (.v 0) (.int 1)) .nil)) (.lst .nil)) []) .nil))⟩
/-- is_plain(walk) : 0=walk -/
def d17 : Fd := ⟨1, ["walk"],
  (.cons (.drop (.call 8 (.cons (.v 0) .nil)) []) (.cons (.ret (.call 12 (.cons (.ix (.v 0) (.int 1)) .nil)) []) .nil))⟩
/-- list_in(walk) : 0=walk 1=found 2=size 3=step 4=longer 5=digit 6=own -/
def d18 : Fd := ⟨1, ["walk", "found", "size", "step", "longer", "digit", "own"],
  (.cons (.set 1 (.lst (.cons (.ix (.v 0) (.int 0)) .nil)) []) (.cons (.for (.t (.cons (.n 2) (.cons (.n 3) .nil))) (.ex (.ix (.v 0) (.int 1))) [] (.cons (.set 4 (.lst .nil) []) (.cons (.for (.n 5) (.rng (.cons (.v 2) .nil)) [] (.cons (.ext 4 (.lc (.bin .add (.v 6) (.bin .mul (.v 5) (.v 3))) [("own", 6)] (.n 6) (.ex (.v 1)) .no) [1]) .nil)) (.cons (.set 1 (.v 4) [4]) .nil)))) (.cons (.ret (.bi .tuple (.cons (.v 1) .nil)) [1]) .nil)))⟩
/-- walk_list(walk) : 0=walk -/
def d19 : Fd := ⟨1, ["walk"],
  (.cons (.drop (.call 8 (.cons (.v 0) .nil)) []) (.cons (.ret (.call 18 (.cons (.v 0) .nil)) []) .nil))⟩
/-- _law_cup(script) : 0=script 1=cell -/
def d20 : Fd := ⟨1, ["script", "cell"],
  (.cons (.set 1 (.bi .abs (.cons (.ix (.bin .add (.bi .list (.cons (.v 0) .nil)) (.lst (.cons (.int 0) .nil))) (.int 0)) .nil)) []) (.cons (.ret (.lst (.cons (.ife (.cmp .ge (.v 1) (.bin .pow (.int 10) (.int 18))) (.bin .fdiv (.v 1) (.int 83)) (.int 0)) (.cons (.bin .add (.bin .mod (.bi .int (.cons (.bin .add (.bin .mul (.v 1) (.int 311)) (.int 4683)) .nil)) (.int 2077503221)) (.int 181)) .nil))) []) .nil))⟩
/-- _law_roll(cup, many) : 0=cup 1=many 2=deep 3=found -/
def d21 : Fd := ⟨2, ["cup", "many", "deep", "found"],
  (.cons (.ife (.cmp .gt (.ix (.v 0) (.int 0)) (.int 0)) [] (.cons (.set 3 (.bin .mod (.bi .int (.cons (.ix (.v 0) (.int 0)) .nil)) (.v 1)) []) (.cons (.cup 0 0 (.bin .fdiv (.ix (.v 0) (.int 0)) (.v 1)) []) (.cons (.ret (.v 3) []) .nil))) .nil) (.cons (.cup 0 1 (.bin .mod (.bi .int (.cons (.bin .add (.bin .mul (.ix (.v 0) (.int 1)) (.int 30983)) (.int 8039)) .nil)) (.int 2147483549)) []) (.cons (.set 2 (.bin .mod (.bi .int (.cons (.bin .mul (.ix (.v 0) (.int 1)) (.bin .add (.ix (.v 0) (.int 1)) (.int 241))) .nil)) (.int 2147483563)) []) (.cons (.ret (.bin .mod (.bi .int (.cons (.bin .fdiv (.v 2) (.int 839)) .nil)) (.v 1)) []) .nil))))⟩
/-- _law_some(cup, things) : 0=cup 1=things -/
def d22 : Fd := ⟨2, ["cup", "things"],
  (.cons (.ret (.ix (.v 1) (.call 21 (.cons (.v 0) (.cons (.bi .len (.cons (.v 1) .nil)) .nil)))) []) .nil)⟩
/-- _law_sort(value) : 0=value -/
def d23 : Fd := ⟨1, ["value"],
  (.cons (.ife (.or (.cons (.cmp .is (.v 0) .non) (.cons (.isi (.v 0) .bool) .nil))) [] (.cons (.ret (.ife (.cmp .is (.v 0) .non) (.int 0) (.int 1)) []) .nil) .nil) (.cons (.ife (.or (.cons (.isi (.v 0) .int) (.cons (.isi (.v 0) .str) .nil))) [] (.cons (.ret (.ife (.isi (.v 0) .int) (.int 2) (.int 3)) []) .nil) .nil) (.cons (.ret (.ife (.isi (.v 0) .tuple) (.int 4) (.ife (.isi (.v 0) .list) (.int 5) (.int 6))) []) .nil)))⟩
/-- _law_like(one, other) : 0=one 1=other 2=sort 3=first 4=second -/
def d24 : Fd := ⟨2, ["one", "other", "sort", "first", "second"],
  (.cons (.set 2 (.call 23 (.cons (.v 1) .nil)) []) (.cons (.ife (.or (.cons (.cmp .ne (.call 23 (.cons (.v 0) .nil)) (.v 2)) (.cons (.cmp .eq (.v 2) (.int 6)) .nil))) [] (.cons (.ret (.bl false) []) .nil) .nil) (.cons (.ife (.cmp .inn (.v 2) (.tup (.cons (.int 4) (.cons (.int 5) .nil)))) [] (.cons (.ret (.and (.cons (.cmp .eq (.bi .len (.cons (.v 0) .nil)) (.bi .len (.cons (.v 1) .nil))) (.cons (.cmp .eq (.lc (.int 1) [("first", 3), ("second", 4)] (.t (.cons (.n 3) (.cons (.n 4) .nil))) (.zip (.v 0) (.v 1)) (.so (.not (.call 24 (.cons (.v 3) (.cons (.v 4) .nil)))))) (.lst .nil)) .nil))) []) .nil) .nil) (.cons (.ret (.cmp .eq (.v 0) (.v 1)) []) .nil))))⟩
/-- _law_number(sizes) : 0=sizes 1=found 2=size -/
def d25 : Fd := ⟨1, ["sizes", "found", "size"],
  (.cons (.set 1 (.int 1) []) (.cons (.for (.n 2) (.ex (.v 0)) [] (.cons (.set 1 (.bin .mul (.v 1) (.v 2)) [1]) .nil)) (.cons (.ret (.v 1) [1]) .nil)))⟩
/-- _law_sizes(cup, most) : 0=cup 1=most 2=found 3=turn 4=size -/
def d26 : Fd := ⟨2, ["cup", "most", "found", "turn", "size"],
  (.cons (.set 2 (.lst .nil) []) (.cons (.for (.n 3) (.rng (.cons (.call 22 (.cons (.v 0) (.cons (.lst (.cons (.int 0) (.cons (.int 1) (.cons (.int 2) (.cons (.int 2) (.cons (.int 3) (.cons (.int 3) (.cons (.int 4) (.cons (.int 5) .nil))))))))) .nil))) .nil)) [] (.cons (.set 4 (.call 22 (.cons (.v 0) (.cons (.lst (.cons (.int 1) (.cons (.int 2) (.cons (.int 2) (.cons (.int 2) (.cons (.int 3) (.cons (.int 3) (.cons (.int 4) (.cons (.int 5) (.cons (.int 6) .nil)))))))))) .nil))) []) (.cons (.ife (.cmp .le (.bin .mul (.call 25 (.cons (.v 2) .nil)) (.v 4)) (.v 1)) [2] (.cons (.app 2 (.v 4) []) .nil) .nil) .nil))) (.cons (.ret (.bi .tuple (.cons (.v 2) .nil)) [2]) .nil)))⟩
/-- _law_step(cup) : 0=cup -/
def d27 : Fd := ⟨1, ["cup"],
  (.cons (.ret (.call 22 (.cons (.v 0) (.cons (.lst (.cons (.int 1) (.cons (.int 1) (.cons (.int 1) (.cons (.int 2) (.cons (.int 3) (.cons (.neg (.int 1)) (.cons (.neg (.int 2)) (.cons (.int 0) (.cons (.int 4) (.cons (.int 5) (.cons (.int 6) (.cons (.int 8) (.cons (.int 10) (.cons (.neg (.int 7)) (.cons (.int 12) (.cons (.int 1000) .nil))))))))))))))))) .nil))) []) .nil)⟩
/-- _law_pairs(cup, sizes) : 0=cup 1=sizes 2=found 3=size 4=step -/
def d28 : Fd := ⟨2, ["cup", "sizes", "found", "size", "step"],
  (.cons (.set 2 (.lst .nil) []) (.cons (.for (.n 3) (.ex (.v 1)) [] (.cons (.set 4 (.call 27 (.cons (.v 0) .nil)) []) (.cons (.ife (.and (.cons (.cmp .ne (.v 2) (.lst .nil)) (.cons (.cmp .eq (.call 21 (.cons (.v 0) (.cons (.int 3) .nil))) (.int 0)) .nil))) [2] (.cons (.set 4 (.bin .mul (.ix (.ix (.v 2) (.neg (.int 1))) (.int 0)) (.ix (.ix (.v 2) (.neg (.int 1))) (.int 1))) [2]) .nil) .nil) (.cons (.app 2 (.tup (.cons (.v 3) (.cons (.v 4) .nil))) [4]) .nil)))) (.cons (.ret (.bi .tuple (.cons (.v 2) .nil)) [2]) .nil)))⟩
/-- _law_walk(cup, most) : 0=cup 1=most -/
def d29 : Fd := ⟨2, ["cup", "most"],
  (.cons (.ret (.tup (.cons (.call 22 (.cons (.v 0) (.cons (.lst (.cons (.int 0) (.cons (.int 0) (.cons (.int 0) (.cons (.int 1) (.cons (.int 5) (.cons (.neg (.int 3)) (.cons (.int 100) .nil)))))))) .nil))) (.cons (.call 28 (.cons (.v 0) (.cons (.call 26 (.cons (.v 0) (.cons (.v 1) .nil))) .nil))) .nil))) []) .nil)⟩
/-- _law_digits(sizes, place) : 0=sizes 1=place 2=found 3=size -/
def d30 : Fd := ⟨2, ["sizes", "place", "found", "size"],
  (.cons (.set 2 (.lst .nil) []) (.cons (.for (.n 3) (.ex (.v 0)) [] (.cons (.app 2 (.bin .mod (.bi .int (.cons (.v 1) .nil)) (.v 3)) []) (.cons (.set 1 (.bin .fdiv (.v 1) (.v 3)) []) .nil))) (.cons (.ret (.bi .tuple (.cons (.v 2) .nil)) [2]) .nil)))⟩
/-- _law_list(walk) : 0=walk 1=place 2=sizes 3=found 4=size 5=step 6=digit 7=pair -/
def d31 : Fd := ⟨1, ["walk", "place", "sizes", "found", "size", "step", "digit", "pair"],
  (.cons (.par [2, 3] (.cons (.lc (.v 4) [("size", 4), ("step", 5)] (.t (.cons (.n 4) (.cons (.n 5) .nil))) (.ex (.ix (.v 0) (.int 1))) .no) (.cons (.lst .nil) .nil)) []) (.cons (.for (.n 1) (.rng (.cons (.call 25 (.cons (.v 2) .nil)) .nil)) [2] (.cons (.app 3 (.bin .add (.ix (.v 0) (.int 0)) (.bi .sum (.cons (.lc (.bin .mul (.v 6) (.ix (.v 7) (.int 1))) [("digit", 6), ("pair", 7)] (.t (.cons (.n 6) (.cons (.n 7) .nil))) (.zip (.call 30 (.cons (.v 2) (.cons (.v 1) .nil))) (.ix (.v 0) (.int 1))) .no) .nil))) [2]) .nil)) (.cons (.ret (.bi .tuple (.cons (.v 3) .nil)) [3]) .nil)))⟩
/-- _law_deeds(pairs) : 0=pairs 1=joins 2=at 3=pair -/
def d32 : Fd := ⟨1, ["pairs", "joins", "at", "pair"],
  (.cons (.set 1 (.lc (.tup (.cons (.str "join") (.cons (.v 2) .nil))) [("at", 2)] (.n 2) (.rng (.cons (.bin .sub (.bi .len (.cons (.v 0) .nil)) (.int 1)) .nil)) (.so (.cmp .eq (.ix (.ix (.v 0) (.bin .add (.v 2) (.int 1))) (.int 1)) (.bin .mul (.ix (.ix (.v 0) (.v 2)) (.int 1)) (.ix (.ix (.v 0) (.v 2)) (.int 0)))))) []) (.cons (.ret (.bi .tuple (.cons (.bin .add (.v 1) (.lc (.tup (.cons (.str "strike") (.cons (.v 2) .nil))) [("at", 2), ("pair", 3)] (.t (.cons (.n 2) (.cons (.n 3) .nil))) (.enum (.v 0)) (.so (.cmp .eq (.ix (.v 3) (.int 0)) (.int 1))))) .nil)) [1]) .nil))⟩
/-- _law_by(pairs, deed) : 0=pairs 1=deed 2=found 3=at 4=spot 5=pair -/
def d33 : Fd := ⟨2, ["pairs", "deed", "found", "at", "spot", "pair"],
  (.cons (.par [2, 3] (.cons (.lst .nil) (.cons (.ix (.v 1) (.int 1)) .nil)) []) (.cons (.for (.t (.cons (.n 4) (.cons (.n 5) .nil))) (.enum (.v 0)) [] (.cons (.ife (.and (.cons (.cmp .eq (.ix (.v 1) (.int 0)) (.str "join")) (.cons (.cmp .eq (.v 4) (.v 3)) .nil))) [] (.cons (.app 2 (.tup (.cons (.bin .mul (.ix (.v 5) (.int 0)) (.ix (.ix (.v 0) (.bin .add (.v 3) (.int 1))) (.int 0))) (.cons (.ix (.v 5) (.int 1)) .nil))) []) .nil) (.cons (.ife (.and (.cons (.cmp .ne (.v 4) (.v 3)) (.cons (.or (.cons (.cmp .ne (.ix (.v 1) (.int 0)) (.str "join")) (.cons (.cmp .ne (.v 4) (.bin .add (.v 3) (.int 1))) .nil))) .nil))) [] (.cons (.app 2 (.v 5) []) .nil) .nil) .nil)) .nil)) (.cons (.ret (.bi .tuple (.cons (.v 2) .nil)) [2]) .nil)))⟩
/-- _law_right(walk) : 0=walk 1=told 2=deed 3=values 4=word 5=value 6=deeds 7=numbers 8=later 9=fits 10=at 11=pair -/
def d34 : Fd := ⟨1, ["walk", "told", "deed", "values", "word", "value", "deeds", "numbers", "later", "fits", "at", "pair"],
  (.cons (.par [6, 7] (.cons (.call 32 (.cons (.ix (.v 0) (.int 1)) .nil)) (.cons (.call 31 (.cons (.v 0) .nil)) .nil)) []) (.cons (.set 1 (.lst (.cons (.call 13 (.cons (.v 0) .nil)) (.cons (.call 16 (.cons (.v 0) .nil)) (.cons (.call 17 (.cons (.v 0) .nil)) (.cons (.call 19 (.cons (.v 0) .nil)) .nil))))) []) (.cons (.ife (.not (.call 24 (.cons (.v 1) (.cons (.lst (.cons (.v 6) (.cons (.cmp .eq (.v 6) (.tup .nil)) (.cons (.cmp .eq (.lc (.v 11) [("pair", 11)] (.n 11) (.ex (.ix (.v 0) (.int 1))) (.so (.cmp .eq (.ix (.v 11) (.int 0)) (.int 1)))) (.lst .nil)) (.cons (.v 7) .nil))))) .nil)))) [1] (.cons (.ret (.bl false) []) .nil) .nil) (.cons (.for (.n 2) (.ex (.v 6)) [] (.cons (.set 8 (.tup (.cons (.ix (.v 0) (.int 0)) (.cons (.call 33 (.cons (.ix (.v 0) (.int 1)) (.cons (.v 2) .nil))) .nil))) []) (.cons (.ife (.not (.call 24 (.cons (.lst (.cons (.call 15 (.cons (.v 0) (.cons (.v 2) .nil))) (.cons (.call 31 (.cons (.v 8) .nil)) (.cons (.call 14 (.cons (.v 0) (.cons (.v 2) .nil))) .nil)))) (.cons (.lst (.cons (.v 8) (.cons (.v 7) (.cons (.bl true) .nil)))) .nil)))) [] (.cons (.ret (.bl false) []) .nil) .nil) .nil))) (.cons (.set 3 (.lst .nil) []) (.cons (.for (.n 4) (.ex (.tup (.cons (.str "join") (.cons (.str "strike") (.cons (.str "part") .nil))))) [] (.cons (.set 3 (.bin .add (.v 3) (.lc (.tup (.cons (.v 4) (.cons (.v 10) .nil))) [("at", 10)] (.n 10) (.rng (.cons (.neg (.int 2)) (.cons (.bin .add (.bi .len (.cons (.ix (.v 0) (.int 1)) .nil)) (.int 2)) .nil))) .no)) [3]) .nil)) (.cons (.set 3 (.bin .add (.bin .add (.v 3) (.lc (.bin .add (.v 2) (.tup (.cons (.int 0) .nil))) [("deed", 2)] (.n 2) (.ex (.v 6)) .no)) (.lc (.bi .list (.cons (.v 2) .nil)) [("deed", 2)] (.n 2) (.ex (.v 6)) .no)) [3]) (.cons (.set 3 (.bin .add (.bin .add (.v 3) (.lc (.tup (.cons (.v 2) .nil)) [("deed", 2)] (.n 2) (.ex (.v 6)) .no)) (.lc (.tup (.cons (.ix (.v 2) (.int 1)) (.cons (.ix (.v 2) (.int 0)) .nil))) [("deed", 2)] (.n 2) (.ex (.v 6)) .no)) [3]) (.cons (.set 3 (.bin .add (.v 3) (.lst (.cons .non (.cons (.tup .nil) (.cons (.str "join") (.cons (.int 0) (.cons (.tup (.cons (.str "join") .nil)) (.cons (.tup (.cons (.str "strike") (.cons .non .nil))) (.cons (.tup (.cons (.str "join") (.cons (.str "0") .nil))) (.cons (.tup (.cons (.str "strike") (.cons (.bl true) .nil))) (.cons (.tup (.cons .non (.cons (.int 0) .nil))) (.cons (.tup (.cons (.str "join") (.cons (.tup (.cons (.int 0) .nil)) .nil))) .nil)))))))))))) [3]) (.cons (.for (.n 5) (.ex (.v 3)) [3] (.cons (.set 9 (.and (.cons (.cmp .eq (.call 23 (.cons (.v 5) .nil)) (.int 4)) (.cons (.cmp .eq (.bi .len (.cons (.v 5) .nil)) (.int 2)) (.cons (.cmp .eq (.call 23 (.cons (.ix (.v 5) (.int 1)) .nil)) (.int 2)) (.cons (.cmp .eq (.call 23 (.cons (.ix (.v 5) (.int 0)) .nil)) (.int 3)) (.cons (.cmp .inn (.v 5) (.v 6)) .nil)))))) []) (.cons (.ife (.or (.cons (.not (.call 24 (.cons (.call 14 (.cons (.v 0) (.cons (.v 5) .nil))) (.cons (.v 9) .nil)))) (.cons (.and (.cons (.not (.v 9)) (.cons (.cmp .ne (.lam "_law_error" [(.str ""), (.str "walk"), (.str "deed")] (.str "none") (.call 15 (.cons (.v 0) (.cons (.v 5) .nil)))) (.str "deed")) .nil))) .nil))) [] (.cons (.ret (.bl false) []) .nil) .nil) .nil))) (.cons (.ret (.bl true) []) .nil)))))))))))⟩
/-- _law_errors_right() : 0=words 1=odds 2=odd 3=call -/
def d35 : Fd := ⟨0, ["words", "odds", "odd", "call"],
  (.cons (.set 0 (.lst .nil) []) (.cons (.set 1 (.lst (.cons .non (.cons (.int 0) (.cons (.str "4 by 1") (.cons (.lst .nil) (.cons (.tup (.cons (.int 0) .nil)) (.cons (.tup (.cons (.int 0) (.cons (.lst .nil) (.cons (.tup .nil) .nil)))) (.cons (.lst (.cons (.int 0) (.cons (.tup .nil) .nil))) (.cons (.tup (.cons (.int 0) (.cons (.tup (.cons (.tup (.cons (.int 0) (.cons (.int 1) .nil))) .nil)) .nil))) (.cons (.tup (.cons (.int 0) (.cons (.tup (.cons (.tup (.cons (.int 2) (.cons (.int 1) (.cons (.int 1) .nil)))) .nil)) .nil))) (.cons (.tup (.cons (.int 0) (.cons (.tup (.cons (.int 2) (.cons (.int 1) .nil))) .nil))) (.cons (.tup (.cons (.bl true) (.cons (.tup .nil) .nil))) .nil)))))))))))) []) (.cons (.for (.n 2) (.ex (.bin .add (.v 1) (.lst (.cons (.tup (.cons (.int 0) (.cons (.tup (.cons (.tup (.cons (.bl true) (.cons (.int 1) .nil))) .nil)) .nil))) (.cons (.tup (.cons (.int 0) (.cons (.tup (.cons (.tup (.cons (.int 2) (.cons .non .nil))) .nil)) .nil))) (.cons (.tup (.cons (.int 0) (.cons (.tup (.cons (.tup (.cons (.int 71) (.cons (.int 1) .nil))) (.cons (.tup (.cons (.int 71) (.cons (.int 1) .nil))) .nil))) .nil))) (.cons (.tup (.cons (.int 0) (.cons (.bin .mul (.tup (.cons (.tup (.cons (.int 1) (.cons (.int 1) .nil))) .nil)) (.int 17)) .nil))) .nil))))))) [1] (.cons (.set 0 (.bin .add (.v 0) (.lc (.lam "_law_error" [(.str ""), (.str "walk"), (.str "deed")] (.str "none") (.cv 3 (.cons (.v 2) .nil))) [("call", 3)] (.n 3) (.ex (.tup (.cons (.fv 13) (.cons (.fv 16) (.cons (.fv 17) .nil))))) .no)) [0]) (.cons (.set 0 (.bin .add (.v 0) (.lc (.lam "_law_error" [(.str ""), (.str "walk"), (.str "deed")] (.str "none") (.cv 3 (.cons (.v 2) (.cons .non .nil)))) [("call", 3)] (.n 3) (.ex (.tup (.cons (.fv 14) (.cons (.fv 15) .nil)))) .no)) [0]) .nil))) (.cons (.ret (.cmp .eq (.v 0) (.bin .mul (.lst (.cons (.str "walk") .nil)) (.int 75))) [0]) .nil))))⟩
/-- _law_written_right() : 0=told 1=due 2=one 3=other -/
def d36 : Fd := ⟨0, ["told", "due", "one", "other"],
  (.cons (.par [2, 3] (.cons (.tup (.cons (.int 3) (.cons (.tup (.cons (.tup (.cons (.int 4) (.cons (.int 1) .nil))) (.cons (.tup (.cons (.int 1) (.cons (.int 7) .nil))) (.cons (.tup (.cons (.int 3) (.cons (.int 4) .nil))) (.cons (.tup (.cons (.int 2) (.cons (.neg (.int 8)) .nil))) .nil))))) .nil))) (.cons (.tup (.cons (.int 0) (.cons (.tup (.cons (.tup (.cons (.int 2) (.cons (.int 5) .nil))) (.cons (.tup (.cons (.int 2) (.cons (.int 10) .nil))) (.cons (.tup (.cons (.int 3) (.cons (.int 20) .nil))) .nil)))) .nil))) .nil)) []) (.cons (.ife (.not (.call 24 (.cons (.lst (.cons (.call 13 (.cons (.v 2) .nil)) (.cons (.call 13 (.cons (.v 3) .nil)) .nil))) (.cons (.lst (.cons (.tup (.cons (.tup (.cons (.str "strike") (.cons (.int 1) .nil))) .nil)) (.cons (.tup (.cons (.tup (.cons (.str "join") (.cons (.int 0) .nil))) (.cons (.tup (.cons (.str "join") (.cons (.int 1) .nil))) .nil))) .nil))) .nil)))) [] (.cons (.ret (.bl false) []) .nil) .nil) (.cons (.set 0 (.lst (.cons (.call 13 (.cons (.v 2) .nil)) (.cons (.call 15 (.cons (.v 2) (.cons (.tup (.cons (.str "strike") (.cons (.int 1) .nil))) .nil))) (.cons (.call 13 (.cons (.v 3) .nil)) (.cons (.call 15 (.cons (.v 3) (.cons (.tup (.cons (.str "join") (.cons (.int 1) .nil))) .nil))) (.cons (.call 13 (.cons (.tup (.cons (.int 0) (.cons (.tup (.cons (.tup (.cons (.int 1) (.cons (.int 5) .nil))) (.cons (.tup (.cons (.int 3) (.cons (.int 5) .nil))) .nil))) .nil))) .nil)) (.cons (.call 13 (.cons (.tup (.cons (.int 0) (.cons (.tup (.cons (.tup (.cons (.int 2) (.cons (.int 0) .nil))) (.cons (.tup (.cons (.int 3) (.cons (.int 0) .nil))) .nil))) .nil))) .nil)) .nil))))))) []) (.cons (.set 1 (.lst (.cons (.tup (.cons (.tup (.cons (.str "strike") (.cons (.int 1) .nil))) .nil)) (.cons (.tup (.cons (.int 3) (.cons (.tup (.cons (.tup (.cons (.int 4) (.cons (.int 1) .nil))) (.cons (.tup (.cons (.int 3) (.cons (.int 4) .nil))) (.cons (.tup (.cons (.int 2) (.cons (.neg (.int 8)) .nil))) .nil)))) .nil))) (.cons (.tup (.cons (.tup (.cons (.str "join") (.cons (.int 0) .nil))) (.cons (.tup (.cons (.str "join") (.cons (.int 1) .nil))) .nil))) (.cons (.tup (.cons (.int 0) (.cons (.tup (.cons (.tup (.cons (.int 2) (.cons (.int 5) .nil))) (.cons (.tup (.cons (.int 6) (.cons (.int 10) .nil))) .nil))) .nil))) (.cons (.tup (.cons (.tup (.cons (.str "join") (.cons (.int 0) .nil))) (.cons (.tup (.cons (.str "strike") (.cons (.int 0) .nil))) .nil))) (.cons (.tup (.cons (.tup (.cons (.str "join") (.cons (.int 0) .nil))) .nil)) .nil))))))) []) (.cons (.set 0 (.bin .add (.v 0) (.lst (.cons (.call 16 (.cons (.tup (.cons (.int 3) (.cons (.tup (.cons (.tup (.cons (.int 12) (.cons (.int 1) .nil))) (.cons (.tup (.cons (.int 2) (.cons (.neg (.int 8)) .nil))) .nil))) .nil))) .nil)) (.cons (.call 16 (.cons (.v 3) .nil)) (.cons (.call 16 (.cons (.tup (.cons (.int 7) (.cons (.tup .nil) .nil))) .nil)) (.cons (.call 16 (.cons (.tup (.cons (.int 7) (.cons (.tup (.cons (.tup (.cons (.int 1) (.cons (.int 0) .nil))) .nil)) .nil))) .nil)) (.cons (.call 17 (.cons (.v 3) .nil)) .nil))))))) [0]) (.cons (.set 0 (.bin .add (.v 0) (.lst (.cons (.call 17 (.cons (.v 2) .nil)) (.cons (.call 14 (.cons (.v 2) (.cons (.tup (.cons (.str "join") (.cons (.int 0) .nil))) .nil))) (.cons (.call 14 (.cons (.v 3) (.cons (.tup (.cons (.str "join") (.cons (.bl true) .nil))) .nil))) (.cons (.call 14 (.cons (.v 3) (.cons (.lst (.cons (.str "join") (.cons (.int 0) .nil))) .nil))) .nil)))))) [0]) (.cons (.set 1 (.bin .add (.v 1) (.lst (.cons (.bl true) (.cons (.bl false) (.cons (.bl true) (.cons (.bl false) (.cons (.bl true) (.cons (.bl false) (.cons (.bl false) (.cons (.bl false) (.cons (.bl false) .nil))))))))))) [1]) (.cons (.set 0 (.bin .add (.v 0) (.lst (.cons (.call 13 (.cons (.tup (.cons (.int 1) (.cons (.tup (.cons (.tup (.cons (.int 2) (.cons (.neg (.int 3)) .nil))) (.cons (.tup (.cons (.int 2) (.cons (.neg (.int 6)) .nil))) .nil))) .nil))) .nil)) (.cons (.call 13 (.cons (.tup (.cons (.int 1) (.cons (.tup (.cons (.tup (.cons (.int 2) (.cons (.int 0) .nil))) (.cons (.tup (.cons (.int 1) (.cons (.int 9) .nil))) (.cons (.tup (.cons (.int 3) (.cons (.int 0) .nil))) .nil)))) .nil))) .nil)) (.cons (.call 13 (.cons (.tup (.cons (.int 0) (.cons (.tup (.cons (.tup (.cons (.int 2) (.cons (.int 1) .nil))) (.cons (.tup (.cons (.int 3) (.cons (.int 5) .nil))) (.cons (.tup (.cons (.int 2) (.cons (.int 2) .nil))) .nil)))) .nil))) .nil)) .nil))))) [0]) (.cons (.set 0 (.bin .add (.v 0) (.lst (.cons (.bi .len (.cons (.call 13 (.cons (.tup (.cons (.int 0) (.cons (.bin .mul (.tup (.cons (.tup (.cons (.int 1) (.cons (.int 4) .nil))) .nil)) (.int 16)) .nil))) .nil)) .nil)) (.cons (.call 15 (.cons (.tup (.cons (.int 2) (.cons (.tup (.cons (.tup (.cons (.int 1) (.cons (.int 0) .nil))) (.cons (.tup (.cons (.int 1) (.cons (.int 0) .nil))) .nil))) .nil))) (.cons (.tup (.cons (.str "join") (.cons (.int 0) .nil))) .nil))) (.cons (.call 15 (.cons (.tup (.cons (.int 2) (.cons (.tup (.cons (.tup (.cons (.int 1) (.cons (.int 6) .nil))) (.cons (.tup (.cons (.int 1) (.cons (.int 7) .nil))) .nil))) .nil))) (.cons (.tup (.cons (.str "strike") (.cons (.int 0) .nil))) .nil))) .nil))))) [0]) (.cons (.set 1 (.bin .add (.v 1) (.lst (.cons (.tup (.cons (.tup (.cons (.str "join") (.cons (.int 0) .nil))) .nil)) (.cons (.tup (.cons (.tup (.cons (.str "strike") (.cons (.int 1) .nil))) .nil)) (.cons (.tup .nil) (.cons (.int 31) (.cons (.tup (.cons (.int 2) (.cons (.tup (.cons (.tup (.cons (.int 1) (.cons (.int 0) .nil))) .nil)) .nil))) (.cons (.tup (.cons (.int 2) (.cons (.tup (.cons (.tup (.cons (.int 1) (.cons (.int 7) .nil))) .nil)) .nil))) .nil)))))))) [1]) (.cons (.ret (.call 24 (.cons (.v 0) (.cons (.v 1) .nil))) [0, 1]) .nil)))))))))))⟩
def defs : List Fd := [d0, d1, d2, d3, d4, d5, d6, d7, d8, d9, d10, d11, d12, d13, d14, d15, d16, d17, d18, d19, d20, d21, d22, d23, d24, d25, d26, d27, d28, d29, d30, d31, d32, d33, d34, d35, d36]
/-- law(script) : 0=script 1=cup 2=turn -/
def lw : Lw := ⟨["script", "cup", "turn"],
  (.cons (.ife (.or (.cons (.not (.call 36 .nil)) (.cons (.not (.call 35 .nil)) .nil))) [] (.cons (.ret (.bl false) []) .nil) .nil) .nil), 1, (.call 20 (.cons (.v 0) .nil)),
  (.cons (.for (.n 2) (.rng (.cons (.int 20) .nil)) [] (.cons (.ife (.not (.call 34 (.cons (.call 29 (.cons (.v 1) (.cons (.int 120) .nil))) .nil))) [] (.cons (.ret (.bl false) []) .nil) .nil) .nil)) (.cons (.ret (.bl true) []) .nil))⟩

end Mn


set_option maxRecDepth 100000
set_option maxHeartbeats 4000000
namespace Mn
open PySem
/-! ## plain facts -/
def nI (n : Nat) : D := .int (n : Int)
def pr (p : Nat × Int) : D := .tup [.int (p.1 : Int), .int p.2]
def prodN : List Nat → Nat
  | [] => 1
  | s :: r => s * prodN r
@[simp] theorem prodN_snoc (l : List Nat) (a : Nat) : prodN (l ++ [a]) = prodN l * a := by
  induction l with
  | nil => simp [prodN]
  | cons s r ih => simp [prodN, ih, Nat.mul_assoc]
theorem prodN_app (l r : List Nat) : prodN (l ++ r) = prodN l * prodN r := by
  induction l with
  | nil => simp [prodN]
  | cons s l ih => simp [prodN, ih, Nat.mul_assoc]
theorem prodN_pos {l : List Nat} (h : ∀ x ∈ l, 1 ≤ x) : 1 ≤ prodN l := by
  induction l with
  | nil => simp [prodN]
  | cons s r ih =>
    have := h s (by simp)
    have := ih fun x hx => h x (by simp [hx])
    exact Nat.mul_le_mul ‹1 ≤ s› this
theorem le_prodN {l : List Nat} (h : ∀ x ∈ l, 1 ≤ x) : ∀ x ∈ l, x ≤ prodN l := by
  induction l with
  | nil => intro x hx; simp at hx
  | cons s r ih =>
    intro x hx
    have p := prodN_pos fun x hx => h x (List.mem_cons_of_mem s hx)
    rcases List.mem_cons.mp hx with rfl | hx
    · exact Nat.le_mul_of_pos_right _ p
    · exact Nat.le_trans (ih (fun x hx => h x (by simp [hx])) x hx) (Nat.le_mul_of_pos_left _ (h s (by simp)))
@[simp] theorem nl_pr (p : Nat × Int) : (pr p).nl = true := (rfl)
@[simp] theorem nl_prs (l : List (Nat × Int)) : D.nls (l.map pr) = true := nls_map _ _ fun _ => rfl
@[simp] theorem nl_ints (l : List Int) : D.nls (l.map .int) = true := nls_map _ _ fun _ => rfl
@[simp] theorem nl_nats (l : List Nat) : D.nls (l.map nI) = true := nls_map _ _ fun _ => rfl
@[simp] theorem nl_nI (n : Nat) : (nI n).nl = true := (rfl)
/-- number_in, _law_number -/
theorem k3 (n : Nat) (c : Cup) (l : List Nat) (h : ∀ x ∈ l, x < 18446744073709551616) : callN defs (n + 1) 3 [.tup (l.map nI)] c = .ok (nI (prodN l)) c := by
  rw [call_x (f := 3) rfl rfl]
  rw [W_eq]
  simp (config := {dsimp := false})
  refine W_for nI l (fun done env c' => c' = c ∧ ∃ s, env = [.f (.tup (l.map nI)), .f (nI (prodN done)), s]) ⟨rfl, _, rfl⟩ ?_ ?_
  · rintro l1 a r e env c' ⟨rfl, s, rfl⟩
    have := h a (by rw [e]; simp)
    simp (config := {dsimp := false}) [this, nI]
  · rintro env c' ⟨rfl, s, rfl⟩
    simp (config := {dsimp := false})
theorem k25 (n : Nat) (c : Cup) (l : List Nat) (v : D) (hv : v = .tup (l.map nI) ∨ v = .lst (l.map nI)) (h : ∀ x ∈ l, x < 18446744073709551616) : callN defs (n + 1) 25 [v] c = .ok (nI (prodN l)) c := by
  rw [call_x (f := 25) rfl rfl]
  rw [W_eq]
  rcases hv with rfl | rfl
  all_goals
    simp (config := {dsimp := false})
    refine W_for nI l (fun done env c' => c' = c ∧ ∃ s z, env = [z, .f (nI (prodN done)), s]) ⟨rfl, _, _, rfl⟩ ?_ ?_
    · rintro l1 a r e env c' ⟨rfl, s, z, rfl⟩
      have := h a (by rw [e]; simp)
      simp (config := {dsimp := false}) [this, nI]
    · rintro env c' ⟨rfl, s, z, rfl⟩
      simp (config := {dsimp := false})
theorem k4 (n : Nat) (c : Cup) (l : List (Nat × Int)) : callN defs (n + 1) 4 [.tup (l.map pr)] c = .ok (.tup ((l.map (·.1)).map nI)) c := by
  rw [call_x (f := 4) rfl rfl]
  simp (config := {dsimp := false})
  rw [W_lcm pr l (fun p => nI p.1)]
  · simp (config := {dsimp := false})
  · intro p hp
    simp (config := {dsimp := false}) [pr, nI]
/-! ## any data -/
mutual
def D.dt : D → Bool
  | .tup l => D.dts l
  | .lst l => D.dts l
  | .fn _ => false
  | .cup => false
  | .scr _ => false
  | _ => true
def D.dts : List D → Bool
  | [] => true
  | d :: r => D.dt d && D.dts r
end
theorem dts_all : ∀ {l : List D}, D.dts l = true → ∀ d ∈ l, d.dt = true
  | d :: r, h, x, hx => by
    obtain ⟨h1, h2⟩ := and_t (show (D.dt d && D.dts r) = true from h)
    rcases List.mem_cons.mp hx with rfl | hx
    · exact h1
    · exact dts_all h2 x hx
def sortD : D → Int
  | .non => 0 | .bl _ => 1 | .int _ => 2 | .str _ => 3 | .tup _ => 4 | .lst _ => 5 | _ => 6
def isI : D → Bool
  | .int _ => true
  | _ => false
def isT (lo hi : Int) : D → Bool
  | .tup l => decide (lo ≤ l.length) && decide ((l.length : Int) ≤ hi)
  | _ => false
def isN (lo hi : Int) : D → Bool
  | .int i => decide (lo ≤ i) && decide (i ≤ hi)
  | _ => false
theorem k23 (n : Nat) (c : Cup) (d : D) (h : d.dt = true) : callN defs (n + 1) 23 [d] c = .ok (.int (sortD d)) c := by
  rw [call_x (f := 23) rfl rfl]
  cases d <;> first | (cases h; done) | simp (config := {dsimp := false}) [isD, cmpD, D.isNon, sortD, inD]
theorem k0 (n : Nat) (c : Cup) (d : D) (h : d.dt = true) : callN defs (n + 1) 0 [d] c = .ok (.bl (isI d)) c := by
  rw [call_x (f := 0) rfl rfl]
  cases d <;> first | (cases h; done) | simp (config := {dsimp := false}) [isD, isI]
theorem k2 (n : Nat) (c : Cup) (d : D) (lo hi : Int) (h : d.dt = true) : callN defs (n + 1) 2 [d, .int lo, .int hi] c = .ok (.bl (isT lo hi d)) c := by
  rw [call_x (f := 2) rfl rfl]
  cases d with
  | tup l =>
    simp (config := {dsimp := false}) [isD, isT]
    by_cases h : lo ≤ (l.length : Int) <;> simp (config := {dsimp := false}) [h]
  | _ => first | (cases h; done) | simp (config := {dsimp := false}) [isD, isT]
theorem k1 (n : Nat) (c : Cup) (d : D) (lo hi : Int) (h : d.dt = true) : callN defs (n + 2) 1 [d, .int lo, .int hi] c = .ok (.bl (isN lo hi d)) c := by
  rw [call_x (f := 1) rfl rfl]
  simp (config := {dsimp := false}) [k0 n c d h]
  cases d with
  | int i =>
    simp (config := {dsimp := false}) [isN, isI]
    by_cases h : lo ≤ i <;> simp (config := {dsimp := false}) [h]
  | _ => first | (cases h; done) | simp (config := {dsimp := false}) [isI, isN]
def toN : D → Nat
  | .int i => i.toNat
  | _ => 0
def fitsS (l : List D) : Bool := decide (l.length ≤ 16) && (l.all (isN 1 5000) && decide (prodN (l.map toN) ≤ 5000))
theorem toN_all {l : List D} (h : l.all (isN 1 5000) = true) : l = (l.map toN).map nI ∧ ∀ x ∈ l.map toN, 1 ≤ x ∧ x ≤ 5000 := by
  induction l with
  | nil => exact ⟨rfl, fun x hx => by simp at hx⟩
  | cons d r ih =>
    obtain ⟨h1, h2⟩ := and_t (show (isN 1 5000 d && r.all (isN 1 5000)) = true from h)
    obtain ⟨i1, i2⟩ := ih h2
    cases d with
    | int i =>
      obtain ⟨u, v⟩ := and_t (show (decide (1 ≤ i) && decide (i ≤ 5000)) = true from h1)
      have u := of_decide_eq_true u
      have v := of_decide_eq_true v
      refine ⟨?_, fun x hx => ?_⟩
      · rw [List.map_cons, List.map_cons, ← i1]
        show _ = D.int ((i.toNat : Nat) : Int) :: r
        rw [Int.toNat_of_nonneg (by omega)]
      · rcases List.mem_cons.mp hx with rfl | hx
        · show 1 ≤ i.toNat ∧ i.toNat ≤ 5000
          omega
        · exact i2 x hx
    | _ => cases h1
theorem k5 (n : Nat) (c : Cup) (l : List D) (h : D.dts l = true) : callN defs (n + 3) 5 [.tup l] c = .ok (.bl (fitsS l)) c := by
  rw [call_x (f := 5) rfl rfl]
  have hd := dts_all h
  simp (config := {dsimp := false}) [k2 (n + 1) c (.tup l) 0 16 h]
  cases hl : isT 0 16 (.tup l) with
  | false =>
    have : ¬ l.length ≤ 16 := fun z => by simp [isT] at hl; omega
    simp (config := {dsimp := false}) [fitsS, this]
  | true =>
    have : l.length ≤ 16 := by simp [isT] at hl; omega
    simp (config := {dsimp := false})
    rw [W_lci (fun d => .bl (isN 1 5000 d))]
    · cases ha : l.all (isN 1 5000) with
      | true =>
        obtain ⟨q1, q2⟩ := toN_all ha
        have e4 := fun n => k3 n c (l.map toN) fun x hx => by have := (q2 x hx).2; omega
        rw [← q1] at e4
        simp (config := {dsimp := false}) [e4, ha, nI]
        rw [fitsS, ha, decide_eq_true this, Bool.true_and, Bool.true_and, decide_eq_decide]
        omega
      | false =>
        simp (config := {dsimp := false}) [ha]
        simp [fitsS, this, ha]
    · intro d hx
      simp (config := {dsimp := false}) [k1 n c d 1 5000 (hd d hx)]

def is2 : D → Bool
  | .tup [_, _] => true
  | _ => false
def fstD : D → D
  | .tup (a :: _) => a
  | _ => .non
def sndD : D → D
  | .tup [_, b] => b
  | _ => .non
theorem is2_T (d : D) : isT 2 2 d = is2 d := by
  cases d with
  | tup l =>
    match l with
    | [] => rfl
    | [_] => rfl
    | [_, _] => rfl
    | _ :: _ :: _ :: r =>
      show (decide _ && decide _) = false
      simp
      omega
  | _ => rfl
theorem is2_eq {d : D} (h : is2 d = true) : ∃ a b, d = .tup [a, b] := by
  unfold is2 at h
  split at h
  · exact ⟨_, _, rfl⟩
  · cases h
def fitsL (l : List D) : Bool := decide (l.length ≤ 16) && (l.all is2 && (l.all (fun p => isI (sndD p)) && fitsS (l.map fstD)))
def fitsP : D → Bool
  | .tup l => fitsL l
  | _ => false
def fitsW : D → Bool
  | .tup [b, p] => isI b && fitsP p
  | _ => false
theorem k4g (n : Nat) (c : Cup) (l : List D) (h : l.all is2 = true) : callN defs (n + 1) 4 [.tup l] c = .ok (.tup (l.map fstD)) c := by
  rw [call_x (f := 4) rfl rfl]
  simp (config := {dsimp := false})
  rw [W_lci fstD]
  · simp (config := {dsimp := false})
  · intro p hp
    obtain ⟨a, b, rfl⟩ := is2_eq (List.all_eq_true.mp h p hp)
    simp (config := {dsimp := false}) [fstD]
theorem dts_fst {l : List D} (h : D.dts l = true) : D.dts (l.map fstD) = true := by
  induction l with
  | nil => rfl
  | cons d r ih =>
    obtain ⟨h1, h2⟩ := and_t (show (D.dt d && D.dts r) = true from h)
    show (D.dt (fstD d) && D.dts (r.map fstD)) = true
    rw [ih h2, Bool.and_true]
    unfold fstD
    split
    · exact (and_t (show (D.dt _ && D.dts _) = true from h1)).1
    · rfl
theorem dt_snd {d : D} (h : d.dt = true) : (sndD d).dt = true := by
  unfold sndD
  split
  · obtain ⟨h1, h2⟩ := and_t (show (D.dt _ && D.dts _) = true from h)
    exact (and_t (show (D.dt _ && D.dts _) = true from h2)).1
  · rfl
theorem k6 (n : Nat) (c : Cup) (d : D) (h : d.dt = true) : callN defs (n + 4) 6 [d] c = .ok (.bl (fitsP d)) c := by
  rw [call_x (f := 6) rfl rfl]
  simp (config := {dsimp := false}) [k2 (n + 2) c d 0 16 h]
  cases hl : isT 0 16 d with
  | false =>
    have : fitsP d = false := by
      cases d with
      | tup l =>
        have : ¬ l.length ≤ 16 := fun z => by simp [isT] at hl; omega
        simp [fitsP, fitsL, this]
      | _ => rfl
    simp (config := {dsimp := false}) [this]
  | true =>
    cases d with
    | tup l =>
      have hd := dts_all (show D.dts l = true from h)
      have h16 : l.length ≤ 16 := by simp [isT] at hl; omega
      simp (config := {dsimp := false})
      rw [W_lci (fun d => .bl (is2 d))]
      · cases ha : l.all is2 with
        | false =>
          simp (config := {dsimp := false}) [ha]
          simp [fitsP, fitsL, ha]
        | true =>
          simp (config := {dsimp := false}) [ha]
          rw [W_lci (fun d => .bl (isI (sndD d)))]
          · cases hb : l.all (fun p => isI (sndD p)) with
            | false =>
              simp (config := {dsimp := false}) [hb]
              simp [fitsP, fitsL, hb]
            | true =>
              simp (config := {dsimp := false}) [hb, k4g (n + 2) c l ha, k5 n c _ (dts_fst (show D.dts l = true from h))]
              simp only [fitsP, fitsL, ha, hb, decide_eq_true h16, Bool.true_and]
          · intro p hp
            obtain ⟨a, b, rfl⟩ := is2_eq (List.all_eq_true.mp ha p hp)
            simp (config := {dsimp := false}) [sndD, k0 (n + 2) c b (dt_snd (hd _ hp))]
      · intro p hp
        simp (config := {dsimp := false}) [k2 (n + 2) c p 2 2 (hd p hp), is2_T]
    | _ => cases hl
theorem k7 (n : Nat) (c : Cup) (d : D) (h : d.dt = true) : callN defs (n + 5) 7 [d] c = .ok (.bl (fitsW d)) c := by
  rw [call_x (f := 7) rfl rfl]
  simp (config := {dsimp := false}) [k2 (n + 3) c d 2 2 h, is2_T]
  cases hl : is2 d with
  | false =>
    have : fitsW d = false := by
      unfold fitsW
      split
      · cases hl
      · rfl
    simp (config := {dsimp := false}) [this]
  | true =>
    obtain ⟨a, b, rfl⟩ := is2_eq hl
    obtain ⟨h1, h2⟩ := and_t (show (D.dt a && D.dts _) = true from h)
    have h2 := (and_t (show (D.dt b && D.dts _) = true from h2)).1
    simp (config := {dsimp := false}) [k0 (n + 3) c a h1, k6 n c b h2, fitsW]
    cases isI a <;> simp
def okp : D → Bool
  | .tup [.int x, .int _] => decide (1 ≤ x)
  | _ => false
def lawL (l : List D) : Bool := decide (l.length ≤ 16) && (l.all okp && decide (prodN ((l.map fstD).map toN) ≤ 5000))
theorem okp_eq {d : D} (h : okp d = true) : ∃ x y : Int, d = .tup [.int x, .int y] ∧ 1 ≤ x := by
  unfold okp at h
  split at h
  · exact ⟨_, _, rfl, of_decide_eq_true h⟩
  · cases h
theorem fitsL_law (l : List D) : fitsL l = lawL l := by
  cases hp : l.all okp with
  | true =>
    have hp' := List.all_eq_true.mp hp
    have a1 : l.all is2 = true := List.all_eq_true.mpr fun d hd => by
      obtain ⟨x, y, rfl, _⟩ := okp_eq (hp' d hd); rfl
    have a2 : l.all (fun p => isI (sndD p)) = true := List.all_eq_true.mpr fun d hd => by
      obtain ⟨x, y, rfl, _⟩ := okp_eq (hp' d hd); rfl
    have p1 : ∀ x ∈ (l.map fstD).map toN, 1 ≤ x := fun x hx => by
      obtain ⟨e, he, rfl⟩ := List.mem_map.mp hx
      obtain ⟨d, hd, rfl⟩ := List.mem_map.mp he
      obtain ⟨x, y, rfl, h1⟩ := okp_eq (hp' d hd)
      show 1 ≤ x.toNat
      omega
    unfold fitsL lawL fitsS
    rw [hp, a1, a2, List.length_map]
    cases h16 : decide (l.length ≤ 16) with
    | false => rfl
    | true =>
      simp only [Bool.true_and]
      cases h5 : decide (prodN ((l.map fstD).map toN) ≤ 5000) with
      | false => rw [Bool.and_false]
      | true =>
        rw [Bool.and_true]
        refine List.all_eq_true.mpr fun e he => ?_
        obtain ⟨d, hd, rfl⟩ := List.mem_map.mp he
        obtain ⟨x, y, rfl, h1⟩ := okp_eq (hp' d hd)
        have := le_prodN p1 _ (List.mem_map.mpr ⟨_, he, rfl⟩)
        have h5 := of_decide_eq_true h5
        have : x.toNat ≤ 5000 := Nat.le_trans this h5
        show (decide (1 ≤ x) && decide (x ≤ 5000)) = true
        simp
        omega
  | false =>
    have : lawL l = false := by unfold lawL; rw [hp, Bool.false_and, Bool.and_false]
    rw [this]
    cases hf : fitsL l with
    | false => rfl
    | true =>
      exfalso
      obtain ⟨_, h2⟩ := and_t hf
      obtain ⟨h2, h3⟩ := and_t h2
      obtain ⟨h3, h4⟩ := and_t h3
      obtain ⟨_, h4⟩ := and_t h4
      obtain ⟨h4, _⟩ := and_t h4
      have : l.all okp = true := List.all_eq_true.mpr fun d hd => by
        obtain ⟨a, b, rfl⟩ := is2_eq (List.all_eq_true.mp h2 d hd)
        have q3 : isI b = true := List.all_eq_true.mp h3 _ hd
        have q4 : isN 1 5000 a = true := List.all_eq_true.mp h4 _ (List.mem_map.mpr ⟨_, hd, rfl⟩)
        cases b <;> first | (cases q3; done) | skip
        cases a <;> first | (cases q4; done) | skip
        exact (and_t q4).1
      rw [hp] at this
      cases this
end Mn




set_option maxRecDepth 100000
set_option maxHeartbeats 4000000
namespace Mn
open PySem
theorem rngL_eq (k : Nat) : ∀ (lo : Int), rngL lo k = (List.range k).map fun i => .int (lo + (i : Int)) := by
  induction k with
  | zero => intro lo; rfl
  | succ k ih =>
    intro lo
    rw [List.range_succ_eq_map]
    show D.int lo :: rngL (lo + 1) k = _
    rw [ih]
    simp [Function.comp_def]
    intro a _
    omega
@[simp] theorem rng1 (k : Nat) (h : k ≤ 16777216) : rngD [.int (k : Int)] = some ((List.range k).map nI) := by
  have : rngD [.int (k : Int)] = if small62 k ∧ (k : Int) ≤ lineN then some (rngL 0 (k : Int).toNat) else none := rfl
  rw [this, if_pos (by simp [small62, lineN]; omega), rngL_eq]
  exact congrArg some (List.map_congr_left fun j _ => by show D.int _ = D.int _; rw [Int.zero_add])
@[simp] theorem rng2 (i k : Nat) (h : k ≤ 16777216) (hi : i ≤ 16777216) : rngD [.int (i : Int), .int (k : Int)] = some ((List.range (k - i)).map fun j => nI (i + j)) := by
  have : rngD [.int (i : Int), .int (k : Int)] = if small62 i ∧ small62 k ∧ (k : Int) - i ≤ lineN then some (rngL i ((k : Int) - i).toNat) else none := rfl
  rw [this, if_pos (by simp [small62, lineN]; omega), rngL_eq]
  have e : ((k : Int) - i).toNat = k - i := by omega
  rw [e]
  exact congrArg some (List.map_congr_left fun j _ => by show D.int _ = D.int _; rw [Int.natCast_add])
/-! ### the draws -/
theorem k20 (n : Nat) (c : Cup) (ns : List Int) (h : ns.length ≤ 63) : ∃ a b : Int, callN defs (n + 1) 20 [.scr ns] c = .ok (.lst [.int a, .int b]) c := by
  rw [call_x (f := 20) rfl rfl]
  have : ∃ (x : Int) (r : List D), ns.map D.int ++ [.int 0] = .int x :: r := by
    cases ns with
    | nil => exact ⟨0, [], rfl⟩
    | cons x r => exact ⟨x, r.map .int ++ [.int 0], rfl⟩
  obtain ⟨x, r, e⟩ := this
  have hl : ns.length + 1 ≤ lineN := by unfold lineN; omega
  have p1 : (D.nls (ns.map D.int)) = true := nls_map _ _ fun _ => rfl
  simp (config := {dsimp := false}) [hl, e]
  generalize (if x < 0 then -x else x) = z
  have : Nat.log2 83 < 9000 := by decide
  by_cases hz : (1000000000000000000 : Int) ≤ z <;> simp (config := {dsimp := false}) [hz, this]
theorem k21 (n : Nat) (c : Cup) (m : Nat) (h0 : 0 < m) (h1 : m < 18446744073709551616) : W (callN defs (n + 1) 21 [.cup, .int (m : Int)] c) (fun d _ => ∃ k : Nat, k < m ∧ d = nI k) tok := by
  rw [call_x (f := 21) rfl rfl]
  have hlog : Nat.log2 m < 9000 := by
    have : Nat.log2 m < 64 := (Nat.log2_lt (by omega)).mpr h1
    omega
  have q0 : (0 : Int) < m := by omega
  have fin : ∀ z : Int, ∃ k : Nat, k < m ∧ D.int (z % m) = nI k := fun z => ⟨(z % m).toNat, by
    have := Int.emod_lt_of_pos z q0
    have := Int.emod_nonneg z (b := m) (by omega)
    omega, by
    have := Int.emod_nonneg z (b := m) (by omega)
    show _ = D.int _
    rw [Int.toNat_of_nonneg this]⟩
  simp (config := {dsimp := false})
  by_cases hc : 0 < c.1
  · simp (config := {dsimp := false}) [hc, h0, hlog]
    exact fin _
  · have hx : ∀ x : Int, (x % 2147483549).natAbs < 18446744073709551616 := fun x => by omega
    have hl2 : Nat.log2 839 < 9000 := by decide
    simp (config := {dsimp := false}) [hc, h0, hlog, hx, hl2]
    exact fin _
theorem k22 (n : Nat) (c : Cup) (v : D) (l : List D) (hv : v = .lst l ∨ v = .tup l) (h0 : l ≠ []) (h1 : l.length < 18446744073709551616) : W (callN defs (n + 2) 22 [.cup, v] c) (fun d _ => d ∈ l) tok := by
  rw [call_x (f := 22) rfl rfl]
  have hp : 0 < l.length := List.length_pos_iff.mpr h0
  have key : ∀ k : Nat, k < l.length → atI l (k : Int) = some (l[k]?.getD .non) ∧ (l[k]?.getD .non) ∈ l := fun k hk => by
    have e : l[k]? = some l[k] := List.getElem?_eq_getElem hk
    refine ⟨?_, ?_⟩
    · rw [at_lit e, e]; rfl
    · rw [e]; exact List.getElem_mem hk
  rcases hv with rfl | rfl
  all_goals
    simp (config := {dsimp := false})
    refine W_mono (k21 n c l.length hp h1) ?_
    rintro d c' ⟨k, hk, rfl⟩
    obtain ⟨e1, e2⟩ := key k hk
    simp (config := {dsimp := false}) [nI, e1]
    exact e2

theorem k27 (n : Nat) (c : Cup) : W (callN defs (n + 3) 27 [.cup] c) (fun d _ => ∃ t : Int, d = .int t ∧ t.natAbs ≤ 1000) tok := by
  rw [call_x (f := 27) rfl rfl]
  simp (config := {dsimp := false})
  refine W_mono (k22 n c _ _ (.inl rfl) (by simp) (by simp)) ?_
  intro d c' hd
  simp at hd
  rcases hd with h | h | h | h | h | h | h | h | h | h | h | h | h | h <;> subst h <;> simp (config := {dsimp := false})
theorem k26 (n : Nat) (c : Cup) (most : Nat) : W (callN defs (n + 3) 26 [.cup, .int (most : Int)] c) (fun d _ => ∃ l : List Nat, d = .tup (l.map nI) ∧ l.length ≤ 5 ∧ (∀ x ∈ l, 1 ≤ x ∧ x ≤ 6) ∧ (prodN l ≤ most ∨ l = [])) tok := by
  rw [call_x (f := 26) rfl rfl]
  simp (config := {dsimp := false})
  refine W_mono (k22 n c _ _ (.inl rfl) (by simp) (by simp)) ?_
  intro d c' hd
  have : ∃ k : Nat, k ≤ 5 ∧ d = .int (k : Int) := by
    simp at hd
    rcases hd with h | h | h | h | h | h <;> subst h
    · exact ⟨0, by omega, rfl⟩
    · exact ⟨1, by omega, rfl⟩
    · exact ⟨2, by omega, rfl⟩
    · exact ⟨3, by omega, rfl⟩
    · exact ⟨4, by omega, rfl⟩
    · exact ⟨5, by omega, rfl⟩
  obtain ⟨k, hk, rfl⟩ := this
  have hk2 : k ≤ 16777216 := by omega
  simp (config := {dsimp := false}) [hk2]
  refine W_for nI (List.range k) (fun done env _ => ∃ l : List Nat, (l.length ≤ done.length ∧ (∀ x ∈ l, 1 ≤ x ∧ x ≤ 6) ∧ (prodN l ≤ most ∨ l = [])) ∧ ∃ s t, env = [.f .cup, .f (.int (most : Int)), .o (l.map nI), s, t]) ⟨[], ⟨by simp, by simp, .inr rfl⟩, _, _, rfl⟩ ?_ ?_
  · rintro l1 a r e env c1 ⟨l, ⟨g1, g2, g3⟩, s, t, rfl⟩
    have hlen : l1.length < 5 := by
      have := congrArg List.length e
      simp at this
      omega
    simp (config := {dsimp := false})
    refine W_mono (k22 n c1 _ _ (.inl rfl) (by simp) (by simp)) ?_
    intro d c2 hd
    have : ∃ k : Nat, (1 ≤ k ∧ k ≤ 6) ∧ d = .int (k : Int) := by
      simp at hd
      rcases hd with h | h | h | h | h | h <;> subst h
      · exact ⟨1, by omega, rfl⟩
      · exact ⟨2, by omega, rfl⟩
      · exact ⟨3, by omega, rfl⟩
      · exact ⟨4, by omega, rfl⟩
      · exact ⟨5, by omega, rfl⟩
      · exact ⟨6, by omega, rfl⟩
    obtain ⟨x, hx, rfl⟩ := this
    have e4 := fun n => k25 n c2 l (.lst (l.map nI)) (.inr rfl) fun y hy => by have := g2 y hy; omega
    have hx2 : x < 18446744073709551616 := by omega
    simp (config := {dsimp := false}) [e4]
    simp (config := {dsimp := false}) [nI, hx2]
    have hll : l.length < lineN := by unfold lineN; omega
    by_cases hm : (prodN l : Int) * (x : Int) ≤ most
    · simp (config := {dsimp := false}) [hm, hll]
      refine ⟨l ++ [x], ⟨by simp; omega, ?_, .inl ?_⟩, by simp [nI]⟩
      · intro y hy
        rcases List.mem_append.mp hy with hy | hy
        · exact g2 y hy
        · simp at hy; omega
      · rw [prodN_snoc]
        exact_mod_cast hm
    · simp (config := {dsimp := false}) [hm]
      exact ⟨l, ⟨by omega, g2, g3⟩, rfl⟩
  · rintro env c1 ⟨l, ⟨g1, g2, g3⟩, s, t, rfl⟩
    simp (config := {dsimp := false})
    exact ⟨l, rfl, by simp at g1; omega, g2, g3⟩
theorem fits_prs (l : List (Nat × Int)) : (D.lst (l.map pr)).fits = true := by
  have h1 : D.plains (l.map pr) = true := plains_iff.mpr fun d hd => by
    obtain ⟨p, _, rfl⟩ := List.mem_map.mp hd
    rfl
  have h2 : D.deeps (l.map pr) ≤ 1 := deeps_iff.mpr fun d hd => by
    obtain ⟨p, _, rfl⟩ := List.mem_map.mp hd
    exact Nat.le_refl 1
  show (D.plains (l.map pr) && decide (D.deeps (l.map pr) + 1 ≤ 64)) = true
  rw [h1, decide_eq_true (by omega)]
  rfl
theorem k28 (n : Nat) (c : Cup) (sz : List Nat) (hs : ∀ x ∈ sz, 1 ≤ x ∧ x ≤ 6) (hl : sz.length ≤ 5) : W (callN defs (n + 4) 28 [.cup, .tup (sz.map nI)] c) (fun d _ => ∃ l : List (Nat × Int), d = .tup (l.map pr) ∧ l.map (·.1) = sz) tok := by
  rw [call_x (f := 28) rfl rfl]
  simp (config := {dsimp := false})
  refine W_for nI sz (fun done env _ => ∃ l : List (Nat × Int), l.map (·.1) = done ∧ ∃ s t, env = [.f .cup, .f (.tup (sz.map nI)), .o (l.map pr), s, t]) ⟨[], rfl, _, _, rfl⟩ ?_ ?_
  · rintro l1 a r e env c1 ⟨l, g1, s, t, rfl⟩
    have hl1 : l.length < lineN := by
      have h1 := congrArg List.length e
      have h2 := congrArg List.length g1
      simp at h1 h2
      unfold lineN
      omega
    have fin : ∀ (s : Sl) (z : Int) (c : Cup), ∃ l' : List (Nat × Int), l'.map (·.1) = l1 ++ [a] ∧ ∃ s' t', [Sl.f .cup, .f (.tup (sz.map nI)), .o (l.map pr ++ [.tup [nI a, .int z]]), s, .f (.int z)] = [Sl.f .cup, .f (.tup (sz.map nI)), .o (l'.map pr), s', t'] := fun s z c =>
      ⟨l ++ [(a, z)], by simp [g1], s, .f (.int z), by simp [pr, nI]⟩
    simp (config := {dsimp := false})
    refine W_mono (k27 n c1) ?_
    rintro d c2 ⟨t, rfl, ht⟩
    simp (config := {dsimp := false}) [ne_nil (fits_prs l)]
    rcases List.eq_nil_or_concat l with rfl | ⟨l0, q, rfl⟩
    · simp (config := {dsimp := false}) [lineN]
      exact ⟨[(a, t)], by simpa using g1, by simp [pr, nI]⟩
    · have hl2 : l0.length + 1 < lineN := by simpa using hl1
      simp (config := {dsimp := false})
      refine W_mono (k21 (n + 2) c2 3 (by omega) (by omega)) ?_
      rintro d c3 ⟨k, hk, rfl⟩
      have hq : q.1 < 18446744073709551616 := by
        have : q.1 ∈ sz := by
          rw [e, ← g1]
          simp
        have := hs _ this
        omega
      by_cases hk0 : k = 0
      · simp (config := {dsimp := false}) [nI, hk0, pr, hq]
        simp (config := {dsimp := false}) [hl2]
        have := fin (.f (nI a)) ((q.1 : Int) * q.2) c3
        simpa [pr, nI] using this
      · simp (config := {dsimp := false}) [nI, hk0]
        simp (config := {dsimp := false}) [hl2]
        have := fin (.f (nI a)) t c3
        simpa [pr, nI] using this
  · rintro env c1 ⟨l, g1, s, t, rfl⟩
    simp (config := {dsimp := false})
    exact ⟨l, rfl, g1⟩
end Mn




set_option maxRecDepth 100000
set_option maxHeartbeats 4000000
namespace Mn
open PySem
theorem cut_m1 {α : Type} (xs : List α) : cutL xs none (some (-1)) = xs.dropLast := by
  unfold cutL HT.sIx
  simp [List.dropLast_eq_take]
  congr 1
  omega
theorem cut_to {α : Type} (xs : List α) (k : Nat) (h : k ≤ xs.length) : cutL xs none (some (k : Int)) = xs.take k := by
  unfold cutL
  rw [HT.sIx_none, HT.sIx_nat, Nat.min_eq_left h]
  simp
theorem cut_from {α : Type} (xs : List α) (k : Nat) (h : k ≤ xs.length) : cutL xs (some (k : Int)) none = xs.drop k := by
  unfold cutL
  rw [HT.sIx_none, HT.sIx_nat, Nat.min_eq_left h]
  rw [List.take_of_length_le (by simp)]
@[simp] theorem sl_tup (xs : List D) (lo hi : Option D) : slD (.tup xs) lo hi none = match partD lo, partD hi with
  | some l, some h => some (.tup (cutL xs l h))
  | _, _ => none := by
  unfold slD
  cases partD lo <;> cases partD hi <;> rfl
@[simp] theorem sl_lst (xs : List D) (lo hi : Option D) : slD (.lst xs) lo hi none = match partD lo, partD hi with
  | some l, some h => some (.lst (cutL xs l h))
  | _, _ => none := by
  unfold slD
  cases partD lo <;> cases partD hi <;> rfl
@[simp] theorem part_n : partD none = some none := (rfl)
@[simp] theorem part_i (i : Int) : partD (some (.int i)) = some (some i) := (rfl)
/-! ### walks -/
def WD (b : Int) (ps : List (Nat × Int)) : D := .tup [.int b, .tup (ps.map pr)]
def szs (ps : List (Nat × Int)) : List Nat := ps.map (·.1)
structure GW (ps : List (Nat × Int)) : Prop where
  len : ps.length ≤ 16
  pos : ∀ x ∈ szs ps, 1 ≤ x
  prod : prodN (szs ps) ≤ 5000
theorem GW.le {ps : List (Nat × Int)} (g : GW ps) : ∀ x ∈ szs ps, x ≤ 5000 := fun x hx => Nat.le_trans (le_prodN g.pos x hx) g.prod
theorem GW.sm {ps : List (Nat × Int)} (g : GW ps) : ∀ x ∈ szs ps, x < 18446744073709551616 := fun x hx => by have := g.le x hx; omega
theorem dts_iff {l : List D} : D.dts l = true ↔ ∀ d ∈ l, d.dt = true := by
  induction l with
  | nil => simp [D.dts]
  | cons d r ih => simp [D.dts, ih]
theorem dt_pr (p : Nat × Int) : (pr p).dt = true := rfl
theorem dts_prs (ps : List (Nat × Int)) : D.dts (ps.map pr) = true := dts_iff.mpr fun d hd => by
  obtain ⟨p, _, rfl⟩ := List.mem_map.mp hd
  rfl
theorem dt_WD (b : Int) (ps : List (Nat × Int)) : (WD b ps).dt = true := by
  show (true && (D.dts (ps.map pr) && true)) = true
  rw [dts_prs]
  rfl
theorem toN_prs (ps : List (Nat × Int)) : ((ps.map pr).map fstD).map toN = szs ps := by
  rw [List.map_map, List.map_map]
  rfl
theorem GW.fits {ps : List (Nat × Int)} (g : GW ps) (b : Int) : fitsW (WD b ps) = true := by
  show (true && fitsL (ps.map pr)) = true
  rw [fitsL_law]
  have h1 : (ps.map pr).all okp = true := List.all_eq_true.mpr fun d hd => by
    obtain ⟨p, hp, rfl⟩ := List.mem_map.mp hd
    have := g.pos p.1 (List.mem_map.mpr ⟨p, hp, rfl⟩)
    exact decide_eq_true (by omega)
  unfold lawL
  rw [h1, toN_prs, decide_eq_true g.prod, List.length_map, decide_eq_true g.len]
  rfl
theorem k8 (n : Nat) (c : Cup) (b : Int) (ps : List (Nat × Int)) (g : GW ps) : callN defs (n + 6) 8 [WD b ps] c = .ok .non c := by
  rw [call_x (f := 8) rfl rfl]
  simp (config := {dsimp := false}) [k7 n c _ (dt_WD b ps), g.fits b]
theorem len_flat {α β : Type} {k : Nat} (l : List α) (f : α → List β) (h : ∀ a, (f a).length = k) : (l.flatMap f).length = l.length * k := by
  induction l with
  | nil => simp
  | cons a r ih => rw [List.flatMap_cons, List.length_append, ih, h, List.length_cons, Nat.add_mul]; omega
def stepL (f : List Int) (p : Nat × Int) : List Int := (List.range p.1).flatMap fun (d : Nat) => f.map fun o => o + (d : Int) * p.2
theorem len_step (f : List Int) (p : Nat × Int) : (stepL f p).length = p.1 * f.length := by
  unfold stepL
  rw [len_flat (k := f.length) _ _ fun a => List.length_map _, List.length_range]
end Mn




set_option maxRecDepth 100000
set_option maxHeartbeats 4000000
namespace Mn
open PySem
theorem sum_const {α : Type} (l : List α) (k : Nat) : (l.map fun _ => k).sum = l.length * k := by
  induction l with
  | nil => simp
  | cons a r ih => rw [List.map_cons, List.sum_cons, ih, List.length_cons, Nat.add_mul]; omega
theorem k18 (n : Nat) (c : Cup) (b : Int) (ps : List (Nat × Int)) (g : GW ps) : callN defs (n + 1) 18 [WD b ps] c = .ok (.tup ((ps.foldl stepL [b]).map .int)) c := by
  rw [call_x (f := 18) rfl rfl]
  rw [W_eq]
  simp (config := {dsimp := false}) [WD]
  refine W_for pr ps (fun done env c' => c' = c ∧ (done.foldl stepL [b]).length = prodN (szs done) ∧ ∃ x s1 s2 s3 s4 s5, (x = .o ((done.foldl stepL [b]).map .int) ∨ x = .f (.lst ((done.foldl stepL [b]).map .int))) ∧ env = [.f (.tup [.int b, .tup (ps.map pr)]), x, s1, s2, s3, s4, s5]) ⟨rfl, rfl, _, _, _, _, _, _, .inl rfl, rfl⟩ ?_ ?_
  · rintro l1 p r e env c1 ⟨rfl, hL, x, s1, s2, s3, s4, s5, hx, rfl⟩
    rw [List.foldl_append]
    generalize l1.foldl stepL [b] = f at hx hL ⊢
    have hsz : szs ps = szs l1 ++ p.1 :: szs r := by rw [e]; simp [szs]
    have hp1 : p.1 ≤ 5000 := g.le p.1 (by rw [hsz]; simp)
    have hpr : prodN (szs l1) * p.1 ≤ 5000 := by
      have h1 := g.prod
      rw [hsz, prodN_app] at h1
      have h2 : prodN (p.1 :: szs r) = p.1 * prodN (szs r) := rfl
      have h3 : 1 ≤ prodN (szs r) := prodN_pos fun x hx => g.pos x (by rw [hsz]; simp [hx])
      rw [h2, ← Nat.mul_assoc] at h1
      exact Nat.le_trans (Nat.le_mul_of_pos_right _ h3) h1
    have hp2 : p.1 ≤ 16777216 := by omega
    have hlen : p.1 * f.length ≤ 5000 := by rw [hL, Nat.mul_comm]; exact hpr
    have fin : (f.length = prodN (szs l1)) → (stepL f p).length = prodN (szs (l1 ++ [p])) := fun z => by
      rw [len_step, z]
      simp [szs, Nat.mul_comm]
    simp (config := {dsimp := false}) [pr, hp2]
    refine W_for nI (List.range p.1) (fun done env c' => c' = c1 ∧ ∃ s5 s6, env = [.f (.tup [.int b, .tup (ps.map pr)]), x, .f (.int (p.1 : Int)), .f (.int p.2), .o ((done.flatMap fun (d : Nat) => f.map fun o => o + (d : Int) * p.2).map .int), s5, s6]) ⟨rfl, _, _, rfl⟩ ?_ ?_
    · rintro l2 d r2 e2 env c2 ⟨rfl, s5, s6, rfl⟩
      have hd : d < p.1 := by
        have : d ∈ List.range p.1 := by rw [e2]; simp
        exact List.mem_range.mp this
      have hl2 : l2.length ≤ p.1 := by
        have := congrArg List.length e2
        simp at this
        omega
      have hd2 : d < 18446744073709551616 := by omega
      have hll : l2.length * f.length + f.length ≤ lineN := by
        have h3 : (l2.length + 1) * f.length ≤ p.1 * f.length := Nat.mul_le_mul_right _ (by
          have := congrArg List.length e2
          simp at this
          omega)
        rw [Nat.add_mul] at h3
        unfold lineN
        omega
      have hsl : Sl.seeAt true x = some (.lst (f.map .int)) := by rcases hx with rfl | rfl <;> rfl
      have e6 : (fun (o : Int) => o + (d : Int) * p.2) = fun o => o + (d : Int) * p.2 := rfl
      simp (config := {dsimp := false}) [hsl]
      rw [W_lcm D.int f (fun o => .int (o + (d : Int) * p.2))]
      · have q1 : D.nls (f.map fun o => .int (o + (d : Int) * p.2)) = true := nls_map _ _ fun _ => rfl
        have q2 : (l2.flatMap fun (d : Nat) => f.map fun o => o + (d : Int) * p.2).length = l2.length * f.length := len_flat _ _ fun a => List.length_map _
        have e9 : (f.map fun o => D.int (o + (d : Int) * p.2)).length = f.length := List.length_map _
        simp (config := {dsimp := false}) [q1, nI]
        rw [if_pos (by rw [sum_const]; exact hll)]
        simp (config := {dsimp := false}) [Function.comp_def]
      · intro o ho
        simp (config := {dsimp := false}) [nI, hd2]
    · rintro env c2 ⟨rfl, s5, s6, rfl⟩
      simp (config := {dsimp := false})
      exact ⟨fin hL, rfl⟩
  · rintro env c1 ⟨rfl, hL, x, s1, s2, s3, s4, s5, hx, rfl⟩
    rcases hx with rfl | rfl <;> simp (config := {dsimp := false})

theorem k19 (n : Nat) (c : Cup) (b : Int) (ps : List (Nat × Int)) (g : GW ps) : callN defs (n + 7) 19 [WD b ps] c = .ok (.tup ((ps.foldl stepL [b]).map .int)) c := by
  rw [call_x (f := 19) rfl rfl]
  simp (config := {dsimp := false}) [k8 n c b ps g, fun n => k18 n c b ps g]
/-! ### breaks -/
def brk (l : List Nat) : List Nat := (List.range (l.length - 1)).map fun i => prodN (l.take (i + 1))
theorem GW.szl {ps : List (Nat × Int)} (g : GW ps) : (szs ps).length ≤ 5000 := by
  have := g.len
  unfold szs
  rw [List.length_map]
  omega
end Mn




set_option maxRecDepth 100000
set_option maxHeartbeats 4000000
namespace Mn
open PySem

/-! ### digits -/
def digsN : List Nat → Nat → List Nat
  | [], _ => []
  | s :: r, p => p % s :: digsN r (p / s)
def atW : List (Nat × Int) → Nat → Int
  | [], _ => 0
  | q :: r, p => ((p % q.1 : Nat) : Int) * q.2 + atW r (p / q.1)
theorem digs_snoc (l : List Nat) (a p : Nat) : digsN (l ++ [a]) p = digsN l p ++ [l.foldl (· / ·) p % a] := by
  induction l generalizing p with
  | nil => rfl
  | cons s r ih => simp [digsN, ih]
theorem log_lt {x : Nat} (h : x < 18446744073709551616) : Nat.log2 x < 9000 := by
  by_cases h0 : x = 0
  · subst h0; decide
  · have : Nat.log2 x < 64 := (Nat.log2_lt h0).mpr h
    omega
theorem k30 (n : Nat) (c : Cup) (l : List Nat) (v : D) (hv : v = .tup (l.map nI) ∨ v = .lst (l.map nI)) (p : Nat) (h : ∀ x ∈ l, 1 ≤ x ∧ x < 18446744073709551616) (hl : l.length ≤ 5000) : callN defs (n + 1) 30 [v, .int (p : Int)] c = .ok (.tup ((digsN l p).map nI)) c := by
  rw [call_x (f := 30) rfl rfl]
  rw [W_eq]
  rcases hv with rfl | rfl
  all_goals
    simp (config := {dsimp := false})
    refine W_for nI l (fun done env c' => c' = c ∧ ∃ z s, env = [z, .f (.int ((done.foldl (· / ·) p : Nat) : Int)), .o ((digsN done p).map nI), s]) ⟨rfl, _, _, rfl⟩ ?_ ?_
    · rintro l1 a r e env c' ⟨rfl, z, s, rfl⟩
      obtain ⟨ha, hb⟩ := h a (by rw [e]; simp)
      have hc := log_lt hb
      have hlen : ∀ (l : List Nat) (p : Nat), (digsN l p).length = l.length := fun l => by
        induction l with
        | nil => intro p; rfl
        | cons a r ih => intro p; simp [digsN, ih]
      have hll : (digsN l1 p).length < lineN := by
        have := congrArg List.length e
        simp at this
        rw [hlen]
        unfold lineN
        omega
      have ha' : 0 < a := by omega
      simp (config := {dsimp := false}) [nI, ha', hll, hc, digs_snoc]
    · rintro env c' ⟨rfl, z, s, rfl⟩
      simp (config := {dsimp := false})
/-- the pass over digits and pairs -/
def zipDP : List Nat → List (Nat × Int) → List (Nat × Nat × Int)
  | d :: ds, q :: ps => (d, q) :: zipDP ds ps
  | _, _ => []
theorem zip_dp : ∀ (ds : List Nat) (ps : List (Nat × Int)), (((ds.map nI).zip (ps.map pr)).map fun p => D.tup [p.1, p.2]) = (zipDP ds ps).map fun z => D.tup [nI z.1, pr z.2]
  | [], ps => by simp [zipDP]
  | d :: ds, [] => by simp [zipDP]
  | d :: ds, q :: ps => by simp [zipDP, ← zip_dp ds ps]
theorem sum_dp : ∀ (ps : List (Nat × Int)) (p : Nat), ((zipDP (digsN (szs ps) p) ps).map fun z => (z.1 : Int) * z.2.2).sum = atW ps p
  | [], p => rfl
  | q :: ps, p => by
    show (((p % q.1 : Nat) : Int) * q.2 :: ((zipDP (digsN (szs ps) (p / q.1)) ps).map fun z => (z.1 : Int) * z.2.2)).sum = _
    rw [List.sum_cons, sum_dp ps (p / q.1)]
    rfl
theorem dp_lt : ∀ (ps : List (Nat × Int)) (p : Nat), (∀ x ∈ szs ps, 1 ≤ x ∧ x < 18446744073709551616) → ∀ z ∈ zipDP (digsN (szs ps) p) ps, z.1 < 18446744073709551616
  | [], p, _, z, hz => by simp [szs, digsN, zipDP] at hz
  | q :: ps, p, h, z, hz => by
    rcases List.mem_cons.mp (show z ∈ (p % q.1, q) :: zipDP (digsN (szs ps) (p / q.1)) ps from hz) with rfl | hz
    · obtain ⟨h1, h2⟩ := h q.1 (by simp [szs])
      have := Nat.mod_lt p (show 0 < q.1 by omega)
      show p % q.1 < _
      omega
    · exact dp_lt ps _ (fun x hx => h x (by simp [szs] at hx ⊢; exact .inr hx)) z hz
theorem GW.both {ps : List (Nat × Int)} (g : GW ps) : ∀ x ∈ szs ps, 1 ≤ x ∧ x < 18446744073709551616 := fun x hx => ⟨g.pos x hx, g.sm x hx⟩
end Mn




set_option maxRecDepth 100000
set_option maxHeartbeats 4000000
namespace Mn
open PySem


/-! ### lists -/
theorem step_map (L : Nat) (hL : 0 < L) (g : Nat → Int) (t : Int) : ∀ s : Nat, (List.range s).flatMap (fun (d : Nat) => ((List.range L).map g).map fun o => o + (d : Int) * t) = (List.range (s * L)).map fun q => g (q % L) + ((q / L : Nat) : Int) * t
  | 0 => by simp
  | s + 1 => by
    rw [List.range_succ, List.flatMap_append, step_map L hL g t s, Nat.add_mul, Nat.one_mul, List.range_add, List.map_append]
    congr 1
    simp only [List.flatMap_cons, List.flatMap_nil, List.append_nil, List.map_map]
    refine List.map_congr_left fun i hi => ?_
    have hi := List.mem_range.mp hi
    show g i + _ = g ((s * L + i) % L) + (((s * L + i) / L : Nat) : Int) * t
    have e1 : (s * L + i) % L = i := by rw [Nat.mul_comm, Nat.mul_add_mod, Nat.mod_eq_of_lt hi]
    have e2 : (s * L + i) / L = s := by rw [Nat.mul_comm, Nat.mul_add_div hL, Nat.div_eq_of_lt hi, Nat.add_zero]
    rw [e1, e2]
theorem fold_map : ∀ (ps : List (Nat × Int)), (∀ x ∈ szs ps, 1 ≤ x) → ∀ (L : Nat) (hL : 0 < L) (g : Nat → Int), ps.foldl stepL ((List.range L).map g) = (List.range (L * prodN (szs ps))).map fun p => g (p % L) + atW ps (p / L)
  | [], _, L, hL, g => by
    show (List.range L).map g = (List.range (L * 1)).map _
    rw [Nat.mul_one]
    refine List.map_congr_left fun i hi => ?_
    have hi := List.mem_range.mp hi
    show g i = g (i % L) + 0
    rw [Nat.mod_eq_of_lt hi, Int.add_zero]
  | (s, t) :: r, h, L, hL, g => by
    have hs : 1 ≤ s := h s (by simp [szs])
    show r.foldl stepL (stepL ((List.range L).map g) (s, t)) = _
    have e : stepL ((List.range L).map g) (s, t) = (List.range (s * L)).map fun q => g (q % L) + ((q / L : Nat) : Int) * t := step_map L hL g t s
    rw [e, fold_map r (fun x hx => h x (by simp [szs] at hx ⊢; exact .inr hx)) (s * L) (Nat.mul_pos hs hL)]
    have e2 : s * L * prodN (szs r) = L * prodN (szs ((s, t) :: r)) := by
      show _ = L * (s * prodN (szs r))
      rw [Nat.mul_comm s L, Nat.mul_assoc]
    rw [e2]
    refine List.map_congr_left fun p _ => ?_
    show g (p % (s * L) % L) + ((p % (s * L) / L : Nat) : Int) * t + atW r (p / (s * L)) = g (p % L) + (((p / L % s : Nat) : Int) * t + atW r (p / L / s))
    have e3 : p % (s * L) % L = p % L := Nat.mod_mod_of_dvd p ⟨s, Nat.mul_comm s L⟩
    have e4 : p % (s * L) / L = p / L % s := by rw [Nat.mul_comm s L, Nat.mod_mul_right_div_self]
    have e5 : p / (s * L) = p / L / s := by rw [Nat.div_div_eq_div_mul, Nat.mul_comm]
    rw [e3, e4, e5, Int.add_assoc]
def nums (b : Int) (ps : List (Nat × Int)) : List D := (List.range (prodN (szs ps))).map fun p => .int (b + atW ps p)
theorem fold_nums (b : Int) (ps : List (Nat × Int)) (h : ∀ x ∈ szs ps, 1 ≤ x) : (ps.foldl stepL [b]).map .int = nums b ps := by
  have := fold_map ps h 1 (by omega) (fun _ => b)
  rw [show ([b] : List Int) = (List.range 1).map (fun _ => b) from rfl, this, Nat.one_mul, List.map_map]
  exact List.map_congr_left fun p _ => by show D.int (b + atW ps (p / 1)) = _; rw [Nat.div_one]
theorem k31 (n : Nat) (c : Cup) (b : Int) (ps : List (Nat × Int)) (g : GW ps) : callN defs (n + 2) 31 [WD b ps] c = .ok (.tup (nums b ps)) c := by
  rw [call_x (f := 31) rfl rfl]
  rw [W_eq]
  simp (config := {dsimp := false}) [WD]
  rw [W_lcm pr ps fun p => nI p.1]
  · have e4 := fun n => k25 n c (szs ps) (.lst (ps.map fun p => nI p.1)) (.inr (by simp [szs, Function.comp_def])) g.sm
    have q1 : D.nls (ps.map fun p => nI p.1) = true := nls_map _ _ fun _ => rfl
    have hN : prodN (szs ps) ≤ 16777216 := by have := g.prod; omega
    simp (config := {dsimp := false}) [q1, e4]
    rw [show nI (prodN (szs ps)) = .int ((prodN (szs ps) : Nat) : Int) from rfl, rng1 _ hN]
    simp (config := {dsimp := false})
    refine W_for nI (List.range (prodN (szs ps))) (fun done env c' => c' = c ∧ ∃ s, env = [.f (.tup [.int b, .tup (ps.map pr)]), s, .o (ps.map fun p => nI p.1), .o (done.map fun p => .int (b + atW ps p)), .u, .u, .u, .u]) ⟨rfl, _, rfl⟩ ?_ ?_
    · rintro l1 p r e env c' ⟨rfl, s, rfl⟩
      have hll : l1.length < lineN := by
        have := congrArg List.length e
        simp at this
        unfold lineN
        omega
      have e30 : ∀ n, callN defs (n + 1) 30 [.lst (ps.map fun p => nI p.1), nI p] c' = .ok (.tup ((digsN (szs ps) p).map nI)) c' := fun n => k30 n c' (szs ps) (.lst (ps.map fun p => nI p.1)) (.inr (by simp [szs, Function.comp_def])) p g.both g.szl
      simp (config := {dsimp := false}) [e30]
      rw [zip_dp]
      rw [W_lcm (fun z : Nat × Nat × Int => D.tup [nI z.1, pr z.2]) (zipDP (digsN (szs ps) p) ps) fun z => .int ((z.1 : Int) * z.2.2)]
      · have := sum_dp ps p
        have e := ints_map ((zipDP (digsN (szs ps) p) ps).map fun z => (z.1 : Int) * z.2.2)
        rw [List.map_map] at e
        simp (config := {dsimp := false}) [show ∀ l : List (Nat × Nat × Int), (l.map fun z => D.int ((z.1 : Int) * z.2.2)) = l.map (D.int ∘ fun z => (z.1 : Int) * z.2.2) from fun _ => rfl, e, this, hll]
      · intro z hz
        have := dp_lt ps p g.both z hz
        simp (config := {dsimp := false}) [nI, pr, this]
    · rintro env c' ⟨rfl, s, rfl⟩
      simp (config := {dsimp := false}) [nums]
  · intro p hp
    simp (config := {dsimp := false}) [pr, nI]
/-! ### likeness -/
mutual
def D.lk : D → Bool
  | .tup l => D.lks l
  | .lst l => D.lks l
  | .non => true
  | .bl _ => true
  | .int _ => true
  | .str s => PyData.strOk s
  | _ => false
def D.lks : List D → Bool
  | [] => true
  | d :: r => D.lk d && D.lks r
end
theorem lks_iff {l : List D} : D.lks l = true ↔ ∀ d ∈ l, d.lk = true := by
  induction l with
  | nil => simp [D.lks]
  | cons d r ih => simp [D.lks, ih]
theorem lk_dt : ∀ {d : D}, d.lk = true → d.dt = true
  | .tup l, h => dts_iff.mpr fun d hd => lk_dt (lks_iff.mp (show D.lks l = true from h) d hd)
  | .lst l, h => dts_iff.mpr fun d hd => lk_dt (lks_iff.mp (show D.lks l = true from h) d hd)
  | .non, _ => rfl
  | .bl _, _ => rfl
  | .int _, _ => rfl
  | .str _, _ => rfl
@[simp] theorem fm_none {α β : Type} (l : List α) : l.filterMap (fun _ => (none : Option β)) = [] := by
  induction l with
  | nil => rfl
  | cons a r ih => rw [List.filterMap_cons, ih]
theorem in_tup (a : D) (l : List D) : cmpD .inn a (.tup l) = inD a l := (rfl)
theorem zip_self' (l : List D) : ((l.zip l).map fun p => D.tup [p.1, p.2]) = l.map fun x => D.tup [x, x] := by
  induction l with
  | nil => rfl
  | cons a r ih => simp [ih]
theorem k24 : ∀ (k : Nat) (d : D), d.lk = true → d.deep ≤ k → ∀ (n : Nat) (c : Cup), callN defs (n + k + 2) 24 [d, d] c = .ok (.bl true) c := by
  intro k
  induction k with
  | zero =>
    intro d h hd n c
    rw [call_x (f := 24) rfl rfl]
    have e := k23 (n + 0) c d (lk_dt h)
    simp (config := {dsimp := false}) [e]
    cases d with
    | tup l => simp [D.deep] at hd
    | lst l => simp [D.deep] at hd
    | bl b => cases b <;> simp (config := {dsimp := false}) [sortD, cmpD, inD, D.flat, D.eqv, D.fits, D.plain, D.deep]
    | str s =>
      have h : PyData.strOk s = true := h
      simp (config := {dsimp := false}) [sortD, cmpD, inD, D.flat, D.eqv, D.fits, D.plain, D.deep, h]
    | _ => first | (cases h; done) | simp (config := {dsimp := false}) [sortD, cmpD, inD, D.flat, D.eqv, D.fits, D.plain, D.deep]
  | succ k ih =>
    intro d h hd n c
    rw [call_x (f := 24) rfl rfl]
    have e := k23 (n + (k + 1)) c d (lk_dt h)
    simp (config := {dsimp := false}) [e]
    cases d with
    | tup l =>
      simp (config := {dsimp := false}) [sortD, in_tup, inD, D.flat, D.eqv]
      rw [zip_self', W_lc (fun x => D.tup [x, x]) l fun _ => none]
      · simp (config := {dsimp := false}) [eq_nil (l := []) (by decide)]
      · intro x hx
        have h1 := lks_iff.mp (show D.lks l = true from h) x hx
        have h2 : x.deep ≤ k := deeps_iff.mp (show D.deeps l ≤ k by simp [D.deep] at hd; exact hd) x hx
        have e := ih x h1 h2 n c
        rw [show n + k + 2 = n + (k + 1) + 1 by omega] at e
        simp (config := {dsimp := false}) [e]
    | lst l =>
      simp (config := {dsimp := false}) [sortD, in_tup, inD, D.flat, D.eqv]
      rw [zip_self', W_lc (fun x => D.tup [x, x]) l fun _ => none]
      · simp (config := {dsimp := false}) [eq_nil (l := []) (by decide)]
      · intro x hx
        have h1 := lks_iff.mp (show D.lks l = true from h) x hx
        have h2 : x.deep ≤ k := deeps_iff.mp (show D.deeps l ≤ k by simp [D.deep] at hd; exact hd) x hx
        have e := ih x h1 h2 n c
        rw [show n + k + 2 = n + (k + 1) + 1 by omega] at e
        simp (config := {dsimp := false}) [e]
    | bl b => cases b <;> simp (config := {dsimp := false}) [sortD, cmpD, inD, D.flat, D.eqv, D.fits, D.plain, D.deep]
    | str s =>
      have h : PyData.strOk s = true := h
      simp (config := {dsimp := false}) [sortD, cmpD, inD, D.flat, D.eqv, D.fits, D.plain, D.deep, h]
    | _ => first | (cases h; done) | simp (config := {dsimp := false}) [sortD, cmpD, inD, D.flat, D.eqv, D.fits, D.plain, D.deep]
/-! ### walk_at -/
end Mn




set_option maxRecDepth 100000
set_option maxHeartbeats 4000000
namespace Mn
open PySem



/-! ### parted -/
def ways (s : Nat) : List Nat := ((List.range (s - 2)).map (2 + ·)).filter fun o => s % o == 0
def cnt (s : Nat) : Nat := if (ways s).isEmpty then 1 else 2
def cnts : List Nat → Nat
  | [] => 0
  | s :: r => cnt s + cnts r
theorem cnts_app (l r : List Nat) : cnts (l ++ r) = cnts l + cnts r := by
  induction l with
  | nil => simp [cnts]
  | cons a l ih => simp [cnts, ih, Nat.add_assoc]
theorem atW_app : ∀ (a b : List (Nat × Int)) (p : Nat), atW (a ++ b) p = atW a p + atW b (p / prodN (szs a))
  | [], b, p => by simp [atW, szs, prodN]
  | q :: a, b, p => by
    show ((p % q.1 : Nat) : Int) * q.2 + atW (a ++ b) (p / q.1) = _ + atW b (p / (q.1 * prodN (szs a)))
    rw [atW_app a b (p / q.1), Nat.div_div_eq_div_mul]
    show _ = ((p % q.1 : Nat) : Int) * q.2 + atW a (p / q.1) + _
    rw [Int.add_assoc]
theorem szs_app (a b : List (Nat × Int)) : szs (a ++ b) = szs a ++ szs b := by simp [szs]
/-- a pair in two -/
theorem at_two (o s : Nat) (t : Int) (ho : s % o = 0) (h1 : 1 ≤ o) (p : Nat) : atW [(o, t), (s / o, (o : Int) * t)] p = atW [(s, t)] p := by
  obtain ⟨m, rfl⟩ := Nat.dvd_of_mod_eq_zero ho
  have e : o * m / o = m := by rw [Nat.mul_div_cancel_left _ (by omega)]
  rw [e]
  show ((p % o : Nat) : Int) * t + (((p / o % m : Nat) : Int) * ((o : Int) * t) + 0) = ((p % (o * m) : Nat) : Int) * t + 0
  have e2 : p % (o * m) = p % o + o * (p / o % m) := Nat.mod_mul
  rw [e2, Int.add_zero, Int.add_zero, Int.natCast_add, Int.natCast_mul, Int.add_mul]
  congr 1
  rw [Int.mul_assoc, Int.mul_left_comm]
theorem fits_nats (l : List Nat) : (D.lst (l.map nI)).fits = true := by
  have h1 : D.plains (l.map nI) = true := plains_iff.mpr fun d hd => by
    obtain ⟨p, _, rfl⟩ := List.mem_map.mp hd
    rfl
  have h2 : D.deeps (l.map nI) ≤ 0 := deeps_iff.mpr fun d hd => by
    obtain ⟨p, _, rfl⟩ := List.mem_map.mp hd
    exact Nat.le_refl 0
  show (D.plains (l.map nI) && decide (D.deeps (l.map nI) + 1 ≤ 64)) = true
  rw [h1, decide_eq_true (by omega)]
  rfl
@[simp] theorem nls_app (a b : List D) : D.nls (a ++ b) = (D.nls a && D.nls b) := by
  induction a with
  | nil => rfl
  | cons x a ih => simp [D.nls, ih, Bool.and_assoc]
structure Pt (done qs : List (Nat × Int)) : Prop where
  prod : prodN (szs qs) = prodN (szs done)
  pos : ∀ x ∈ szs qs, 1 ≤ x
  at_ : ∀ p, atW qs p = atW done p
  len : qs.length ≤ cnts (szs done)
theorem Pt.add {done qs xs : List (Nat × Int)} {q : Nat × Int} (h : Pt done qs) (h1 : prodN (szs xs) = q.1) (h2 : ∀ x ∈ szs xs, 1 ≤ x) (h3 : ∀ p, atW xs p = atW [q] p) (h4 : xs.length ≤ cnt q.1) : Pt (done ++ [q]) (qs ++ xs) where
  prod := by
    rw [szs_app, szs_app, prodN_app, prodN_app, h.prod, h1]
    show _ = _ * (q.1 * 1)
    rw [Nat.mul_one]
  pos := fun x hx => by
    rw [szs_app] at hx
    rcases List.mem_append.mp hx with hx | hx
    · exact h.pos x hx
    · exact h2 x hx
  at_ := fun p => by rw [atW_app, atW_app, h.at_, h.prod, h3]
  len := by
    rw [szs_app, cnts_app, List.length_append]
    have := h.len
    show _ ≤ _ + (cnt q.1 + 0)
    omega
end Mn




set_option maxRecDepth 100000
set_option maxHeartbeats 4000000
namespace Mn
open PySem




/-! ### the law's questions -/
@[simp] theorem wd_nl (b : Int) (ps : List (Nat × Int)) : D.nl (WD b ps) = true := by
  show (true && (D.nls (ps.map pr) && true)) = true
  rw [nl_prs]; rfl
@[simp] theorem wd_sf (f : Bool) (b : Int) (ps : List (Nat × Int)) : safe f (WD b ps) = true := by
  show (true && (D.nls (ps.map pr) && true)) = true
  rw [nl_prs]; rfl
@[simp] theorem wd_ns (f : Bool) (b : Int) (ps : List (Nat × Int)) : newSl f (WD b ps) = .f (WD b ps) := (rfl)
@[simp] theorem wd_0 (c : Cup) (b : Int) (ps : List (Nat × Int)) : ixD c (WD b ps) (.int 0) = some (.int b) := (rfl)
@[simp] theorem wd_1 (c : Cup) (b : Int) (ps : List (Nat × Int)) : ixD c (WD b ps) (.int 1) = some (.tup (ps.map pr)) := (rfl)
theorem k29 (n : Nat) (c : Cup) (most : Nat) (hm : most ≤ 300) : W (callN defs (n + 5) 29 [.cup, .int (most : Int)] c) (fun d _ => ∃ b ps, d = WD b ps ∧ b.natAbs ≤ 100 ∧ GW ps ∧ ps.length ≤ 5) tok := by
  rw [call_x (f := 29) rfl rfl]
  simp (config := {dsimp := false})
  refine W_mono (k22 (n + 2) c _ _ (.inl rfl) (by simp) (by simp)) ?_
  intro d c1 hd
  have : ∃ b : Int, d = .int b ∧ b.natAbs ≤ 100 := by
    simp at hd
    rcases hd with h | h | h | h | h <;> subst h <;> exact ⟨_, rfl, by decide⟩
  obtain ⟨b, rfl, hb⟩ := this
  simp (config := {dsimp := false})
  refine W_mono (k26 (n + 1) c1 most) ?_
  rintro d c2 ⟨l, rfl, hl1, hl2, hl3⟩
  simp (config := {dsimp := false})
  refine W_mono (k28 n c2 l hl2 hl1) ?_
  rintro d c3 ⟨ps, rfl, hps⟩
  simp (config := {dsimp := false})
  have hlen : ps.length ≤ 5 := by
    have := congrArg List.length hps
    simp at this
    omega
  refine ⟨b, ps, rfl, hb, ⟨by omega, fun x hx => ?_, ?_⟩, hlen⟩
  · exact (hl2 x (by rw [← hps]; exact hx)).1
  · show prodN (ps.map (·.1)) ≤ 5000
    rw [hps]
    rcases hl3 with h | h
    · omega
    · rw [h]; decide
theorem k24c (n : Nat) (d : D) (c : Cup) (h : d.lk = true) (hd : d.deep ≤ 3) : callN defs (n + 5) 24 [d, d] c = .ok (.bl true) c := k24 3 d h hd n c
@[simp] theorem lk_nats (l : List Nat) : D.lks (l.map nI) = true := lks_iff.mpr fun d hd => by
  obtain ⟨p, _, rfl⟩ := List.mem_map.mp hd
  rfl
@[simp] theorem deep_nats (l : List Nat) : D.deeps (l.map nI) = 0 := Nat.le_zero.mp (deeps_iff.mpr fun d hd => by
  obtain ⟨p, _, rfl⟩ := List.mem_map.mp hd
  exact Nat.le_refl 0)
@[simp] theorem lk_nums (b : Int) (ps : List (Nat × Int)) : D.lks (nums b ps) = true := lks_iff.mpr fun d hd => by
  obtain ⟨p, _, rfl⟩ := List.mem_map.mp hd
  rfl
@[simp] theorem deep_nums (b : Int) (ps : List (Nat × Int)) : D.deeps (nums b ps) = 0 := Nat.le_zero.mp (deeps_iff.mpr fun d hd => by
  obtain ⟨p, _, rfl⟩ := List.mem_map.mp hd
  exact Nat.le_refl 0)
@[simp] theorem nl_nums (b : Int) (ps : List (Nat × Int)) : D.nls (nums b ps) = true := nls_map _ _ fun _ => rfl
@[simp] theorem len_nums (b : Int) (ps : List (Nat × Int)) : (nums b ps).length = prodN (szs ps) := by simp [nums]
theorem atW_0 : ∀ ps : List (Nat × Int), atW ps 0 = 0
  | [] => rfl
  | q :: r => by simp [atW, atW_0 r]
theorem nums_get (b : Int) (ps : List (Nat × Int)) (p : Nat) (h : p < prodN (szs ps)) : (nums b ps)[p]? = some (.int (b + atW ps p)) := by
  unfold nums
  rw [List.getElem?_map, List.getElem?_range h]
  rfl
theorem at_last (l : List D) (n : Nat) (h : l.length = n + 1) : atI l (-1) = l[n]? := by
  have : ixN l.length (-1) = some n := by
    unfold ixN L2.ixN
    rw [if_neg (by omega), if_pos (by omega)]
    congr 1
    omega
  unfold atI
  rw [this]
  rfl
end Mn




set_option maxRecDepth 100000
set_option maxHeartbeats 4000000
namespace Mn
open PySem
/-! ## short forms: one for each list; where two lists part -/
abbrev Pr := Nat × Int
def Sh : List Pr → Prop
  | [] => True
  | [q] => 2 ≤ q.1
  | q :: r :: l => 2 ≤ q.1 ∧ r.2 ≠ (q.1 : Int) * q.2 ∧ Sh (r :: l)
theorem Sh.head {q : Pr} {l : List Pr} (h : Sh (q :: l)) : 2 ≤ q.1 := by
  cases l with
  | nil => exact h
  | cons r l => exact h.1
theorem Sh.tail {q : Pr} {l : List Pr} (h : Sh (q :: l)) : Sh l := by
  cases l with
  | nil => trivial
  | cons r l => exact h.2.2
theorem Sh.two : ∀ {qs : List Pr}, Sh qs → ∀ q ∈ qs, 2 ≤ q.1
  | [], _, _, h => by cases h
  | q :: l, h, x, hx => by
    rcases List.mem_cons.mp hx with rfl | hx
    · exact h.head
    · exact Sh.two h.tail x hx
theorem Sh.pos {qs : List Pr} (h : Sh qs) : ∀ x ∈ szs qs, 1 ≤ x := fun x hx => by
  obtain ⟨q, hq, rfl⟩ := List.mem_map.mp hx
  have := h.two q hq
  omega
theorem Sh.one {qs : List Pr} (h : Sh qs) : 1 ≤ prodN (szs qs) := prodN_pos h.pos
theorem pN_cons (q : Pr) (l : List Pr) : prodN (szs (q :: l)) = q.1 * prodN (szs l) := rfl
theorem atW_blk (q : Pr) (r : List Pr) (j i : Nat) (hi : i < q.1) : atW (q :: r) (q.1 * j + i) = (i : Int) * q.2 + atW r j := by
  show (((q.1 * j + i) % q.1 : Nat) : Int) * q.2 + atW r ((q.1 * j + i) / q.1) = _
  rw [Nat.mul_add_mod, Nat.mod_eq_of_lt hi, Nat.mul_add_div (by omega), Nat.div_eq_of_lt hi, Nat.add_zero]
theorem atW_low (q : Pr) (r : List Pr) (i : Nat) (hi : i < q.1) : atW (q :: r) i = (i : Int) * q.2 := by
  have := atW_blk q r 0 i hi
  rw [Nat.mul_zero, Nat.zero_add, atW_0, Int.add_zero] at this
  exact this
theorem atW_mul (q : Pr) (r : List Pr) (j : Nat) (hq : 0 < q.1) : atW (q :: r) (q.1 * j) = atW r j := by
  have := atW_blk q r j 0 hq
  rw [Nat.add_zero] at this
  rw [this]
  simp
theorem atW_1 (q : Pr) (r : List Pr) (h : 2 ≤ q.1) : atW (q :: r) 1 = q.2 := by
  rw [atW_low q r 1 (by omega)]
  simp
/-- a step further: the next pair's step stands at the first pair's size -/
theorem Sh.turn {q r : Pr} {l : List Pr} (h : Sh (q :: r :: l)) : atW (q :: r :: l) q.1 = r.2 ∧ r.2 ≠ (q.1 : Int) * q.2 ∧ q.1 < prodN (szs (q :: r :: l)) := by
  have h1 := h.head
  have h2 := h.tail.head
  have e := atW_mul q (r :: l) 1 (by omega)
  rw [Nat.mul_one, atW_1 r l h2] at e
  refine ⟨e, h.2.1, ?_⟩
  rw [pN_cons, pN_cons]
  have h3 := Sh.one h.tail.tail
  have h4 : 2 ≤ r.1 * prodN (szs l) := Nat.le_trans h2 (Nat.le_mul_of_pos_right _ h3)
  calc q.1 < q.1 * 2 := by omega
    _ ≤ _ := Nat.mul_le_mul_left _ h4
def pds : List Pr → List Nat
  | [] => [1]
  | q :: r => 1 :: (pds r).map (q.1 * ·)
theorem pds_one (qs : List Pr) : 1 ∈ pds qs := by cases qs <;> simp [pds]
structure Df (qs rs : List Pr) (p : Nat) : Prop where
  l : p < prodN (szs qs)
  r : p < prodN (szs rs)
  ne : atW qs p ≠ atW rs p
  eq : ∀ i, i < p → atW qs i = atW rs i
theorem Df.symm {qs rs : List Pr} {p : Nat} (h : Df qs rs p) : Df rs qs p := ⟨h.r, h.l, fun z => h.ne z.symm, fun i hi => (h.eq i hi).symm⟩
theorem Df.half {S T : Nat} {t : Int} {q' r' : List Pr} {p : Nat} (h : Df ((S, t) :: q') ((T, t) :: r') p) (h1 : Sh ((S, t) :: q')) (h2 : Sh ((T, t) :: r')) (hlt : S < T) : p = S ∧ S ∈ pds ((S, t) :: q') := by
  have lo : ¬ p < S := fun hp => h.ne (by rw [atW_low _ _ _ hp, atW_low _ _ _ (by show p < T; omega)])
  cases q' with
  | nil =>
    have := h.l
    rw [pN_cons] at this
    have this : p < S * 1 := this
    omega
  | cons q q' =>
    obtain ⟨e1, e2, e3⟩ := h1.turn
    have e4 : atW ((T, t) :: r') S = (S : Int) * t := atW_low _ _ _ hlt
    have : ¬ S < p := fun hp => e2 (by rw [← e1, ← e4]; exact h.eq S hp)
    refine ⟨by omega, ?_⟩
    show S ∈ 1 :: (pds (q :: q')).map (S * ·)
    exact List.mem_cons_of_mem _ (List.mem_map.mpr ⟨1, pds_one _, Nat.mul_one S⟩)
theorem Df.mem : ∀ (qs rs : List Pr) (p : Nat), Sh qs → Sh rs → Df qs rs p → p ∈ pds qs ∨ p ∈ pds rs
  | [], rs, p, _, _, h => by
    have := h.l
    have this : p < 1 := this
    have : p = 0 := by omega
    subst this
    exact absurd (by rw [atW_0, atW_0]) h.ne
  | _ :: _, [], p, _, _, h => by
    have := h.r
    have this : p < 1 := this
    have : p = 0 := by omega
    subst this
    exact absurd (by rw [atW_0, atW_0]) h.ne
  | (S, t) :: q', (T, u) :: r', p, h1, h2, h => by
    have g1 : 2 ≤ S := h1.head
    have g2 : 2 ≤ T := h2.head
    have p0 : p ≠ 0 := fun z => h.ne (by rw [z, atW_0, atW_0])
    by_cases ht : t = u
    · subst ht
      rcases Nat.lt_trichotomy S T with hl | hl | hl
      · obtain ⟨rfl, hm⟩ := h.half h1 h2 hl
        exact .inl hm
      · subst hl
        have hp : p = S * (p / S) + p % S := (Nat.div_add_mod p S).symm
        have hi : p % S < S := Nat.mod_lt _ (by omega)
        generalize p / S = j at hp
        generalize p % S = i at hp hi
        have b1 : atW ((S, t) :: q') p = (i : Int) * t + atW q' j := by rw [hp]; exact atW_blk (S, t) q' j i hi
        have b2 : atW ((S, t) :: r') p = (i : Int) * t + atW r' j := by rw [hp]; exact atW_blk (S, t) r' j i hi
        have c1 : atW ((S, t) :: q') (S * j) = atW q' j := atW_mul (S, t) q' j (by show 0 < S; omega)
        have c2 : atW ((S, t) :: r') (S * j) = atW r' j := atW_mul (S, t) r' j (by show 0 < S; omega)
        have hne : atW q' j ≠ atW r' j := fun z => h.ne (by rw [b1, b2, z])
        have hi0 : i = 0 := by
          rcases Nat.eq_zero_or_pos i with z | z
          · exact z
          · exact absurd (by rw [← c1, ← c2]; exact h.eq _ (by omega)) hne
        rw [hi0, Nat.add_zero] at hp
        have k1 := h.l
        have k2 := h.r
        rw [pN_cons, hp] at k1 k2
        have hd : Df q' r' j := ⟨Nat.lt_of_mul_lt_mul_left k1, Nat.lt_of_mul_lt_mul_left k2, hne, fun i' hi' => by
          have e1 := atW_mul (S, t) q' i' (by show 0 < S; omega)
          have e2 := atW_mul (S, t) r' i' (by show 0 < S; omega)
          rw [← e1, ← e2]
          refine h.eq _ ?_
          rw [hp]
          exact Nat.mul_lt_mul_of_pos_left hi' (by omega)⟩
        rcases Df.mem q' r' j h1.tail h2.tail hd with hm | hm
        · exact .inl (by rw [hp]; exact List.mem_cons_of_mem _ (List.mem_map.mpr ⟨j, hm, rfl⟩))
        · exact .inr (by rw [hp]; exact List.mem_cons_of_mem _ (List.mem_map.mpr ⟨j, hm, rfl⟩))
      · obtain ⟨rfl, hm⟩ := h.symm.half h2 h1 hl
        exact .inr hm
    · have : ¬ 1 < p := fun hp => ht (by
        have := h.eq 1 hp
        rw [atW_1 _ _ g1, atW_1 _ _ g2] at this
        exact this)
      have : p = 1 := by omega
      subst this
      exact .inl (pds_one _)
theorem Sh.uniq : ∀ (qs rs : List Pr), Sh qs → Sh rs → prodN (szs qs) = prodN (szs rs) → (∀ p, p < prodN (szs qs) → atW qs p = atW rs p) → qs = rs
  | [], [], _, _, _, _ => rfl
  | [], r :: rs, _, h2, e, _ => by
    have h3 := h2.head
    have h4 := h2.tail.one
    rw [pN_cons] at e
    have e : 1 = r.1 * prodN (szs rs) := e
    have : 2 ≤ r.1 * prodN (szs rs) := Nat.le_trans h3 (Nat.le_mul_of_pos_right _ h4)
    omega
  | q :: qs, [], h1, _, e, _ => by
    have h3 := h1.head
    have h4 := h1.tail.one
    rw [pN_cons] at e
    have e : q.1 * prodN (szs qs) = 1 := e
    have : 2 ≤ q.1 * prodN (szs qs) := Nat.le_trans h3 (Nat.le_mul_of_pos_right _ h4)
    omega
  | (S, t) :: qs, (T, u) :: rs, h1, h2, e, h => by
    have g1 : 2 ≤ S := h1.head
    have g2 : 2 ≤ T := h2.head
    have n1 : S ≤ prodN (szs ((S, t) :: qs)) := Nat.le_mul_of_pos_right _ h1.tail.one
    have n2 : T ≤ prodN (szs ((T, u) :: rs)) := Nat.le_mul_of_pos_right _ h2.tail.one
    have ht : t = u := by
      have := h 1 (by omega)
      rw [atW_1 _ _ g1, atW_1 _ _ g2] at this
      exact this
    subst ht
    have lt : ∀ {S T : Nat} {qs rs : List Pr}, Sh ((S, t) :: qs) → Sh ((T, t) :: rs) → prodN (szs ((S, t) :: qs)) = prodN (szs ((T, t) :: rs)) → (∀ p, p < prodN (szs ((S, t) :: qs)) → atW ((S, t) :: qs) p = atW ((T, t) :: rs) p) → ¬ S < T := by
      intro S T qs rs h1 h2 e h hl
      cases qs with
      | nil =>
        have n2 : T ≤ prodN (szs ((T, t) :: rs)) := Nat.le_mul_of_pos_right _ h2.tail.one
        rw [← e] at n2
        have n2 : T ≤ S * 1 := n2
        omega
      | cons q qs =>
        obtain ⟨e1, e2, e3⟩ := h1.turn
        have e4 : atW ((T, t) :: rs) S = (S : Int) * t := atW_low _ _ _ hl
        exact e2 (by rw [← e1, ← e4]; exact h S e3)
    have hST : S = T := by
      have a := lt h1 h2 e h
      have b := lt h2 h1 e.symm fun p hp => (h p (by rw [e]; exact hp)).symm
      omega
    subst hST
    have e' : prodN (szs qs) = prodN (szs rs) := Nat.eq_of_mul_eq_mul_left (show 0 < S by omega) e
    rw [Sh.uniq qs rs h1.tail h2.tail e' fun p hp => by
      have e1 := atW_mul (S, t) qs p (by show 0 < S; omega)
      have e2 := atW_mul (S, t) rs p (by show 0 < S; omega)
      rw [← e1, ← e2]
      refine h _ ?_
      rw [pN_cons]
      exact Nat.mul_lt_mul_of_pos_left hp (show 0 < S by omega)]
end Mn



set_option maxRecDepth 100000
set_option maxHeartbeats 4000000
namespace Mn
open PySem
theorem six_m1 {env : Env} {i : Nat} {l : List D} {x d : D} {c : Cup} (h : env[i]? = some (.o (l ++ [x]))) : sixK env i (.int (-1)) d c = .ok (.nx, env.set i (.o (l ++ [d]))) c := by
  unfold sixK
  rw [h]
  have : ixN (l ++ [x]).length (-1) = some l.length := by
    unfold ixN L2.ixN
    rw [if_neg (by omega), if_pos (by simp; omega)]
    simp
    omega
  simp only [this]
  congr 3
  rw [List.set_append_right _ _ (Nat.le_refl _), Nat.sub_self]
  rfl
/-! ## the short form -/
structure Sq (ps qs : List (Nat × Int)) : Prop where
  prod : prodN (szs qs) = prodN (szs ps)
  two : ∀ q ∈ qs, 2 ≤ q.1
  at_ : ∀ p, atW qs p = atW ps p
  len : qs.length ≤ ps.length
theorem Sq.start : ∀ (ps : List (Nat × Int)), (∀ x ∈ szs ps, 1 ≤ x) → Sq ps (ps.filter fun q => decide (1 < q.1))
  | [], _ => ⟨rfl, fun _ h => (by cases h), fun _ => rfl, Nat.le_refl _⟩
  | q :: r, h => by
    have ih := Sq.start r fun x hx => h x (List.mem_cons_of_mem _ hx)
    have h1 := h q.1 (by show q.1 ∈ q.1 :: szs r; exact List.mem_cons_self)
    by_cases g : 1 < q.1
    · rw [List.filter_cons_of_pos (by simpa using g)]
      refine ⟨?_, ?_, ?_, ?_⟩
      · exact congrArg (q.1 * ·) ih.prod
      · intro x hx
        rcases List.mem_cons.mp hx with rfl | hx
        · omega
        · exact ih.two x hx
      · intro p
        show _ + _ = _ + _
        rw [ih.at_]
      · exact Nat.succ_le_succ ih.len
    · rw [List.filter_cons_of_neg (by simpa using g)]
      have e : q.1 = 1 := by omega
      refine ⟨?_, ih.two, ?_, ?_⟩
      · show _ = q.1 * _
        rw [ih.prod, e, Nat.one_mul]
        rfl
      · intro p
        show _ = ((p % q.1 : Nat) : Int) * q.2 + atW r (p / q.1)
        rw [ih.at_, e, Nat.mod_one, Nat.div_one]
        simp
      · exact Nat.le_succ_of_le ih.len
theorem Sq.merge {ps A B : List (Nat × Int)} {a b : Nat} {t u : Int} (h : Sq ps (A ++ (a, t) :: (b, u) :: B)) (hu : u = (a : Int) * t) : Sq ps (A ++ (a * b, t) :: B) := by
  subst hu
  have ha : 2 ≤ a := h.two (a, t) (by simp)
  have hb : 2 ≤ b := h.two (b, (a : Int) * t) (by simp)
  refine ⟨?_, ?_, ?_, ?_⟩
  · rw [← h.prod, szs_app, szs_app, prodN_app, prodN_app]
    congr 1
    show a * b * _ = a * (b * _)
    rw [Nat.mul_assoc]
  · intro q hq
    rcases List.mem_append.mp hq with hq | hq
    · exact h.two q (by simp [hq])
    · rcases List.mem_cons.mp hq with rfl | hq
      · show 2 ≤ a * b
        exact Nat.le_trans ha (Nat.le_mul_of_pos_right _ (by omega))
      · exact h.two q (by simp [hq])
  · intro p
    rw [← h.at_ p, atW_app, atW_app]
    congr 1
    generalize p / prodN (szs A) = p'
    have h2 := at_two a (a * b) t (by simp) (by omega) p'
    rw [Nat.mul_div_cancel_left _ (by omega : 0 < a)] at h2
    have h3 := atW_app [(a * b, t)] B p'
    have h4 := atW_app [(a, t), (b, (a : Int) * t)] B p'
    have e1 : prodN (szs [(a * b, t)]) = a * b := by show a * b * 1 = _; rw [Nat.mul_one]
    have e2 : prodN (szs [(a, t), (b, (a : Int) * t)]) = a * b := by show a * (b * 1) = _; rw [Nat.mul_one]
    rw [e1] at h3
    rw [e2, h2] at h4
    exact h3.trans h4.symm
  · have := h.len
    simp at this ⊢
    omega
def gp (qs : List (Nat × Int)) (k : Nat) : Nat × Int := qs.getD k (0, 0)
theorem gp_get {qs : List (Nat × Int)} {k : Nat} (h : k < qs.length) : gp qs k = qs[k] := by
  unfold gp
  rw [List.getD_eq_getElem?_getD, List.getElem?_eq_getElem h]
  rfl
theorem at_pr {qs : List (Nat × Int)} {k : Nat} (h : k < qs.length) : atI (qs.map pr) (k : Int) = some (pr (gp qs k)) := at_lit (by
  rw [List.getElem?_map, List.getElem?_eq_getElem h, gp_get h]
  rfl)
theorem split2 {qs : List (Nat × Int)} {k : Nat} (h : k + 1 < qs.length) : qs = qs.take k ++ gp qs k :: gp qs (k + 1) :: qs.drop (k + 2) := by
  rw [gp_get (by omega : k < qs.length), gp_get h]
  rw [← List.drop_eq_getElem_cons h, ← List.drop_eq_getElem_cons (by omega), List.take_append_drop]
theorem Sq.small {ps qs : List (Nat × Int)} (h : Sq ps qs) (g : GW ps) : ∀ q ∈ qs, q.1 ≤ 5000 := fun q hq => by
  have h1 : ∀ x ∈ szs qs, 1 ≤ x := fun x hx => by
    obtain ⟨q, hq, rfl⟩ := List.mem_map.mp hx
    have := h.two q hq
    omega
  have := le_prodN h1 q.1 (List.mem_map.mpr ⟨q, hq, rfl⟩)
  rw [h.prod] at this
  exact Nat.le_trans this g.prod
theorem fm_filter {α β : Type} (P : α → Prop) [DecidablePred P] (f : α → β) (l : List α) : (l.filterMap fun x => if P x then some (f x) else none) = (l.filter fun x => decide (P x)).map f := by
  induction l with
  | nil => rfl
  | cons q r ih => by_cases h : P q <;> simp [h, ih]
def NoS (qs : List Pr) : Prop := ∀ k, k + 1 < qs.length → (gp qs (k + 1)).2 ≠ ((gp qs k).1 : Int) * (gp qs k).2
theorem sh_of : ∀ {qs : List Pr}, (∀ q ∈ qs, 2 ≤ q.1) → NoS qs → Sh qs
  | [], _, _ => trivial
  | [q], h, _ => h q List.mem_cons_self
  | q :: r :: l, h, hn => ⟨h q List.mem_cons_self, hn 0 (by simp), sh_of (fun x hx => h x (List.mem_cons_of_mem _ hx)) fun k hk => hn (k + 1) (by simp at hk ⊢; omega)⟩
theorem Sh.snoc : ∀ {F : List Pr} {q : Pr}, Sh F → 2 ≤ q.1 → (∀ R l, F = R ++ [l] → q.2 ≠ (l.1 : Int) * l.2) → Sh (F ++ [q])
  | [], q, _, h, _ => h
  | [a], q, h1, h, h2 => ⟨h1, h2 [] a rfl, h⟩
  | a :: b :: F, q, h1, h, h2 => ⟨h1.1, h1.2.1, Sh.snoc (F := b :: F) h1.2.2 h fun R l e => h2 (a :: R) l (by rw [e]; rfl)⟩
theorem Sh.grow : ∀ {R : List Pr} {l : Pr} {m : Nat}, Sh (R ++ [l]) → 2 ≤ m → Sh (R ++ [(m, l.2)])
  | [], _, _, _, h => h
  | [a], _, _, h1, h => ⟨h1.1, h1.2.1, h⟩
  | a :: b :: R, l, m, h1, h => ⟨h1.1, h1.2.1, Sh.grow (R := b :: R) h1.2.2 h⟩
structure Sp (done F : List Pr) : Prop where
  prod : prodN (szs F) = prodN (szs done)
  sh : Sh F
  at_ : ∀ p, atW F p = atW done p
  len : F.length ≤ done.length
theorem Sp.skip {done F : List Pr} {q : Pr} (h : Sp done F) (e : q.1 = 1) : Sp (done ++ [q]) F where
  prod := by
    rw [szs_app, prodN_app, h.prod]
    show _ = _ * (q.1 * 1)
    rw [e, Nat.mul_one]
  sh := h.sh
  at_ := fun p => by
    rw [atW_app, h.at_]
    show _ = _ + (((p / prodN (szs done) % q.1 : Nat) : Int) * q.2 + 0)
    rw [e, Nat.mod_one]
    simp
  len := by
    have := h.len
    rw [List.length_append]
    omega
theorem Sp.add {done F : List Pr} {q : Pr} (h : Sp done F) (e : 2 ≤ q.1) (hn : ∀ R l, F = R ++ [l] → q.2 ≠ (l.1 : Int) * l.2) : Sp (done ++ [q]) (F ++ [q]) where
  prod := by rw [szs_app, prodN_app, szs_app, prodN_app, h.prod]
  sh := h.sh.snoc e hn
  at_ := fun p => by rw [atW_app, atW_app, h.at_, h.prod]
  len := by
    have := h.len
    rw [List.length_append, List.length_append]
    omega
theorem Sp.join {done R : List Pr} {l q : Pr} (h : Sp done (R ++ [l])) (e : 2 ≤ q.1) (hq : q.2 = (l.1 : Int) * l.2) : Sp (done ++ [q]) (R ++ [(l.1 * q.1, l.2)]) where
  prod := by
    have h1 := h.prod
    rw [szs_app, prodN_app] at h1
    rw [szs_app, prodN_app, szs_app, prodN_app, ← h1, Nat.mul_assoc]
    congr 1
    show l.1 * q.1 * 1 = l.1 * 1 * (q.1 * 1)
    rw [Nat.mul_one, Nat.mul_one, Nat.mul_one]
  sh := h.sh.grow (by
    have := h.sh.two l (by simp)
    exact Nat.le_trans this (Nat.le_mul_of_pos_right _ (by omega)))
  at_ := fun p => by
    have hl := h.sh.two l (by simp)
    have h2 := fun x => at_two l.1 (l.1 * q.1) l.2 (by simp) (by omega) x
    rw [Nat.mul_div_cancel_left _ (by omega : 0 < l.1)] at h2
    have e1 := atW_app (R ++ [l]) [q] p
    rw [List.append_assoc, atW_app R ([l] ++ [q]) p] at e1
    have e2 : ([l] ++ [q] : List Pr) = [(l.1, l.2), (q.1, (l.1 : Int) * l.2)] := by rw [← hq]; rfl
    rw [e2, h2, ← atW_app, h.at_, h.prod, ← atW_app] at e1
    exact e1
  len := by
    have := h.len
    rw [List.length_append] at this ⊢
    rw [List.length_append]
    simp at this ⊢
    omega
theorem rng_m1 : rngD [.int (-1)] = some [] := by rfl
theorem Sp.small {ps qs : List Pr} (h : Sp ps qs) (g : prodN (szs ps) ≤ 5000) : ∀ q ∈ qs, q.1 ≤ 5000 := fun q hq => by
  have := le_prodN h.sh.pos q.1 (List.mem_map.mpr ⟨q, hq, rfl⟩)
  rw [h.prod] at this
  exact Nat.le_trans this g
theorem pN_take {ps a b : List Pr} (g : GW ps) (e : ps = a ++ b) : prodN (szs a) ≤ 5000 := by
  have h := g.prod
  rw [e, szs_app, prodN_app] at h
  have hb : 1 ≤ prodN (szs b) := prodN_pos fun x hx => g.pos x (by rw [e, szs_app]; exact List.mem_append_right _ hx)
  exact Nat.le_trans (Nat.le_mul_of_pos_right _ hb) h
end Mn


set_option maxRecDepth 100000
set_option maxHeartbeats 4000000
namespace Mn
open PySem
/-! ## deeds, listed by the program and by the law -/
def dJ (k : Nat) : D := .tup [.str "join", .int (k : Int)]
def dS (k : Nat) : D := .tup [.str "strike", .int (k : Int)]
def isJ (ps : List Pr) (k : Nat) : Prop := (gp ps (k + 1)).2 = ((gp ps k).1 : Int) * (gp ps k).2
instance (ps : List Pr) (k : Nat) : Decidable (isJ ps k) := inferInstanceAs (Decidable (_ = _))
def jns (ps : List Pr) : List Nat := (List.range (ps.length - 1)).filter fun k => decide (isJ ps k)
def sks (ps : List Pr) : List Nat := (List.range ps.length).filter fun k => decide ((gp ps k).1 = 1)
def deedsD (ps : List Pr) : List D := (jns ps).map dJ ++ (sks ps).map dS
theorem rng_m (k : Nat) (h : k ≤ 16777216) : rngD [.int ((k : Int) - 1)] = some ((List.range (k - 1)).map nI) := by
  cases k with
  | zero => exact rng_m1
  | succ k =>
    rw [show (((k + 1 : Nat) : Int) - 1) = (k : Int) by omega]
    exact rng1 k (by omega)
theorem jns_len (ps : List Pr) : (jns ps).length ≤ ps.length := by
  have := List.length_filter_le (fun k => decide (isJ ps k)) (List.range (ps.length - 1))
  rw [List.length_range] at this
  unfold jns
  omega
theorem sks_len (ps : List Pr) : (sks ps).length ≤ ps.length := by
  have := List.length_filter_le (fun k => decide ((gp ps k).1 = 1)) (List.range ps.length)
  rw [List.length_range] at this
  exact this
@[simp] theorem nl_dJ (l : List Nat) : D.nls (l.map dJ) = true := nls_map _ _ fun _ => rfl
@[simp] theorem nl_dS (l : List Nat) : D.nls (l.map dS) = true := nls_map _ _ fun _ => rfl
theorem nI_eq (k : Nat) : nI k = .int (k : Int) := rfl
theorem pr_eq (q : Pr) : pr q = .tup [.int (q.1 : Int), .int q.2] := rfl
theorem gp_sm {ps : List Pr} (g : GW ps) (k : Nat) : (gp ps k).1 < 18446744073709551616 := by
  unfold gp
  rw [List.getD_eq_getElem?_getD]
  cases h : ps[k]? with
  | none => decide
  | some q => exact g.sm q.1 (List.mem_map.mpr ⟨q, List.mem_of_getElem? h, rfl⟩)
theorem at_ps {ps : List Pr} {k : Nat} (h : k < ps.length) : atI (ps.map pr) (k : Int) = some (.tup [.int ((gp ps k).1 : Int), .int (gp ps k).2]) := at_pr h
theorem at_ps1 {ps : List Pr} {k : Nat} (h : k + 1 < ps.length) : atI (ps.map pr) ((k : Int) + 1) = some (.tup [.int ((gp ps (k + 1)).1 : Int), .int (gp ps (k + 1)).2]) := at_pr h
theorem k9 (n : Nat) (c : Cup) (ps : List Pr) (g : GW ps) : callN defs (n + 1) 9 [.tup (ps.map pr)] c = .ok (.lst (deedsD ps)) c := by
  have hl := g.len
  rw [call_x (f := 9) rfl rfl, W_eq]
  simp (config := {dsimp := false})
  rw [rng_m _ (by omega)]
  simp (config := {dsimp := false}) only [opt_some, W_ok, y_ia0, if_true, for_T, bndT_ok, bnxT_ok]
  refine W_for nI (List.range (ps.length - 1)) (fun done env c' => c' = c ∧ ∃ x, env = [.f (.tup (ps.map pr)), .o ((done.filter fun k => decide (isJ ps k)).map dJ), x]) ⟨rfl, _, rfl⟩ ?_ ?_
  · rintro l1 k r e env c' ⟨rfl, x, rfl⟩
    have hk : k + 1 < ps.length := by
      have : k ∈ List.range (ps.length - 1) := by rw [e]; simp
      have := List.mem_range.mp this
      omega
    have h1 : l1.length + 1 ≤ ps.length := by
      have := congrArg List.length e
      simp at this
      omega
    have h2 : ((l1.filter fun k => decide (isJ ps k)).map dJ).length < lineN := by
      have := List.length_filter_le (fun k => decide (isJ ps k)) l1
      rw [List.length_map]
      unfold lineN
      omega
    have c3 : ((gp ps k).1 < 18446744073709551616 ∨ (gp ps k).2.natAbs < 18446744073709551616) := .inl (gp_sm g k)
    rw [nI_eq]
    by_cases hj : isJ ps k
    · have hj' : (gp ps (k + 1)).2 = ((gp ps k).1 : Int) * (gp ps k).2 := hj
      have h2' := h2
      rw [List.length_map] at h2'
      simp (config := {dsimp := false}) [at_ps (show k < ps.length by omega), at_ps1 hk, c3, hj', hj, h2']
      rfl
    · have hj' : ¬ (gp ps (k + 1)).2 = ((gp ps k).1 : Int) * (gp ps k).2 := hj
      simp (config := {dsimp := false}) [at_ps (show k < ps.length by omega), at_ps1 hk, c3, hj', hj]
  · rintro env c' ⟨rfl, x, rfl⟩
    simp (config := {dsimp := false})
    rw [rng1 _ (by omega)]
    simp (config := {dsimp := false})
    rw [W_lc nI (List.range ps.length) fun k => if (gp ps k).1 = 1 then some (dS k) else none]
    · have h1 := jns_len ps
      have h2 := sks_len ps
      have hz : (jns ps).length + (sks ps).length ≤ lineN := by unfold lineN; omega
      rw [fm_filter (fun k => (gp ps k).1 = 1) dS]
      simp (config := {dsimp := false}) [show (List.filter (fun k => decide (isJ ps k)) (List.range (ps.length - 1))) = jns ps from rfl, show (List.filter (fun k => decide ((gp ps k).1 = 1)) (List.range ps.length)) = sks ps from rfl, hz]
      rfl
    · intro k hk
      have hk := List.mem_range.mp hk
      rw [nI_eq]
      by_cases h1 : (gp ps k).1 = 1
      · simp (config := {dsimp := false}) [at_ps hk, h1]
        rfl
      · have h1' : ¬ ((gp ps k).1 : Int) = 1 := by omega
        simp (config := {dsimp := false}) [at_ps hk, h1, h1']
theorem enum_ps (ps : List Pr) : enumL 0 (ps.map pr) = (List.range ps.length).map fun k => .tup [nI k, pr (gp ps k)] := by
  have key : ∀ (qs : List Pr) (i : Nat), enumL i (qs.map pr) = (List.range qs.length).map fun k => .tup [nI (i + k), pr (gp qs k)] := by
    intro qs
    induction qs with
    | nil => intro i; rfl
    | cons q r ih =>
      intro i
      show D.tup [.int (i : Int), pr q] :: enumL ((i : Int) + 1) (r.map pr) = _
      rw [show ((i : Int) + 1) = ((i + 1 : Nat) : Int) by omega, ih (i + 1), List.length_cons, List.range_succ_eq_map, List.map_cons, List.map_map]
      congr 1
      refine List.map_congr_left fun k _ => ?_
      show _ = D.tup [nI (i + (k + 1)), pr (gp r k)]
      rw [show i + 1 + k = i + (k + 1) by omega]
  rw [show (0 : Int) = ((0 : Nat) : Int) from rfl, key ps 0]
  refine List.map_congr_left fun k _ => ?_
  rw [Nat.zero_add]
theorem k32 (n : Nat) (c : Cup) (ps : List Pr) (g : GW ps) : callN defs (n + 1) 32 [.tup (ps.map pr)] c = .ok (.tup (deedsD ps)) c := by
  have hl := g.len
  rw [call_x (f := 32) rfl rfl]
  simp (config := {dsimp := false})
  rw [rng_m _ (by omega)]
  simp (config := {dsimp := false})
  rw [W_lc nI (List.range (ps.length - 1)) fun k => if isJ ps k then some (dJ k) else none]
  · rw [fm_filter (fun k => isJ ps k) dJ]
    simp (config := {dsimp := false}) [enum_ps]
    rw [W_lc (fun k => D.tup [nI k, pr (gp ps k)]) (List.range ps.length) fun k => if (gp ps k).1 = 1 then some (dS k) else none]
    · have h1 := jns_len ps
      have h2 := sks_len ps
      have hz : (jns ps).length + (sks ps).length ≤ lineN := by unfold lineN; omega
      rw [fm_filter (fun k => (gp ps k).1 = 1) dS]
      simp (config := {dsimp := false}) [show (List.filter (fun k => decide (isJ ps k)) (List.range (ps.length - 1))) = jns ps from rfl, show (List.filter (fun k => decide ((gp ps k).1 = 1)) (List.range ps.length)) = sks ps from rfl, hz]
      rfl
    · intro k hk
      have hk := List.mem_range.mp hk
      rw [nI_eq, pr_eq]
      by_cases h1 : (gp ps k).1 = 1
      · simp (config := {dsimp := false}) [h1]
        rfl
      · have h1' : ¬ ((gp ps k).1 : Int) = 1 := by omega
        simp (config := {dsimp := false}) [h1, h1']
  · intro k hk
    have hk := List.mem_range.mp hk
    have hk1 : k + 1 < ps.length := by omega
    have c3 : ((gp ps k).2.natAbs < 18446744073709551616 ∨ (gp ps k).1 < 18446744073709551616) := .inr (gp_sm g k)
    rw [nI_eq]
    by_cases hj : isJ ps k
    · have hj' : (gp ps (k + 1)).2 = (gp ps k).2 * ((gp ps k).1 : Int) := by rw [Int.mul_comm]; exact hj
      simp (config := {dsimp := false}) [at_ps (show k < ps.length by omega), at_ps1 hk1, c3, hj', hj]
      rfl
    · have hj' : ¬ (gp ps (k + 1)).2 = (gp ps k).2 * ((gp ps k).1 : Int) := by rw [Int.mul_comm]; exact hj
      simp (config := {dsimp := false}) [at_ps (show k < ps.length by omega), at_ps1 hk1, c3, hj', hj]
end Mn

set_option maxRecDepth 100000
set_option maxHeartbeats 4000000
namespace Mn
open PySem
/-! ## pairs behind a deed -/
def byJ (ps : List Pr) (k : Nat) : List Pr := ps.take k ++ ((gp ps k).1 * (gp ps (k + 1)).1, (gp ps k).2) :: ps.drop (k + 2)
def byS (ps : List Pr) (k : Nat) : List Pr := ps.take k ++ ps.drop (k + 1)
theorem split1 {qs : List Pr} {k : Nat} (h : k < qs.length) : qs = qs.take k ++ gp qs k :: qs.drop (k + 1) := by
  rw [gp_get h, ← List.drop_eq_getElem_cons h, List.take_append_drop]
/-- the same list by other pairs -/
structure Sm (ps qs : List Pr) : Prop where
  prod : prodN (szs qs) = prodN (szs ps)
  pos : ∀ x ∈ szs qs, 1 ≤ x
  at_ : ∀ p, atW qs p = atW ps p
  len : qs.length ≤ ps.length
theorem Sm.gw {ps qs : List Pr} (h : Sm ps qs) (g : GW ps) : GW qs := ⟨Nat.le_trans h.len g.len, h.pos, by show prodN (szs qs) ≤ 5000; rw [h.prod]; exact g.prod⟩
theorem Sm.numsE {ps qs : List Pr} (h : Sm ps qs) (b : Int) : nums b qs = nums b ps := by
  unfold nums
  rw [h.prod]
  exact List.map_congr_left fun p _ => by rw [h.at_]
theorem sm_J {ps : List Pr} (g : GW ps) {k : Nat} (hk : k + 1 < ps.length) (hj : isJ ps k) : Sm ps (byJ ps k) := by
  have e := split2 hk
  have hj : (gp ps (k + 1)).2 = ((gp ps k).1 : Int) * (gp ps k).2 := hj
  have g1 := g.pos
  unfold byJ
  generalize gp ps k = a at *
  generalize hr : gp ps (k + 1) = r at *
  generalize ps.take k = A at *
  generalize ps.drop (k + 2) = B at *
  obtain ⟨a, t⟩ := a
  obtain ⟨b, u⟩ := r
  dsimp only at hj
  subst hj
  have ha : 1 ≤ a := g1 a (by rw [e]; simp [szs])
  have hb : 1 ≤ b := g1 b (by rw [e]; simp [szs])
  rw [e] at g1 ⊢
  refine ⟨?_, ?_, ?_, ?_⟩
  · rw [szs_app, szs_app, prodN_app, prodN_app]
    congr 1
    show a * b * _ = a * (b * _)
    rw [Nat.mul_assoc]
  · intro x hx
    rw [szs_app] at hx
    rcases List.mem_append.mp hx with hx | hx
    · exact g1 x (by rw [szs_app]; exact List.mem_append_left _ hx)
    · rcases List.mem_cons.mp hx with rfl | hx
      · exact Nat.le_trans ha (Nat.le_mul_of_pos_right _ hb)
      · exact g1 x (by rw [szs_app]; exact List.mem_append_right _ (List.mem_cons_of_mem _ (List.mem_cons_of_mem _ hx)))
  · intro p
    rw [atW_app, atW_app]
    congr 1
    generalize p / prodN (szs A) = p'
    have h2 := at_two a (a * b) t (by simp) ha p'
    rw [Nat.mul_div_cancel_left _ (by omega : 0 < a)] at h2
    have h3 := atW_app [(a * b, t)] B p'
    have h4 := atW_app [(a, t), (b, (a : Int) * t)] B p'
    have e1 : prodN (szs [(a * b, t)]) = a * b := by show a * b * 1 = _; rw [Nat.mul_one]
    have e2 : prodN (szs [(a, t), (b, (a : Int) * t)]) = a * b := by show a * (b * 1) = _; rw [Nat.mul_one]
    rw [e1] at h3
    rw [e2, h2] at h4
    exact h3.trans h4.symm
  · simp
theorem sm_S {ps : List Pr} (g : GW ps) {k : Nat} (hk : k < ps.length) (hj : (gp ps k).1 = 1) : Sm ps (byS ps k) := by
  have e := split1 hk
  have g1 := g.pos
  unfold byS
  generalize gp ps k = a at *
  generalize ps.take k = A at *
  generalize ps.drop (k + 1) = B at *
  obtain ⟨a, t⟩ := a
  dsimp only at hj
  subst hj
  rw [e] at g1 ⊢
  refine ⟨?_, ?_, ?_, ?_⟩
  · rw [szs_app, szs_app, prodN_app, prodN_app]
    congr 1
    show _ = 1 * prodN (szs B)
    rw [Nat.one_mul]
  · intro x hx
    rw [szs_app] at hx
    rcases List.mem_append.mp hx with hx | hx
    · exact g1 x (by rw [szs_app]; exact List.mem_append_left _ hx)
    · exact g1 x (by rw [szs_app]; exact List.mem_append_right _ (List.mem_cons_of_mem _ hx))
  · intro p
    rw [atW_app, atW_app]
    congr 1
    generalize p / prodN (szs A) = p'
    show _ = ((p' % 1 : Nat) : Int) * t + atW B (p' / 1)
    rw [Nat.mod_one, Nat.div_one]
    simp
  · simp
theorem map_gp (ps : List Pr) {k : Nat} (h : k ≤ ps.length) : (List.range k).map (gp ps) = ps.take k := by
  refine List.ext_getElem (by simp; omega) fun i h1 h2 => ?_
  simp at h1
  rw [List.getElem_map, List.getElem_range, List.getElem_take, gp_get (by omega)]
theorem map_gp2 (ps : List Pr) {m : Nat} (h : m ≤ ps.length) : (List.range (ps.length - m)).map (fun j => gp ps (m + j)) = ps.drop m := by
  refine List.ext_getElem (by simp) fun i h1 h2 => ?_
  simp at h1
  rw [List.getElem_map, List.getElem_range, List.getElem_drop, gp_get (by omega)]
theorem flat_one {α β : Type} (f : α → List β) (g : α → β) (l : List α) (h : ∀ a ∈ l, f a = [g a]) : l.flatMap f = l.map g := by
  induction l with
  | nil => rfl
  | cons a l ih =>
    rw [List.flatMap_cons, h a List.mem_cons_self, ih fun x hx => h x (List.mem_cons_of_mem _ hx)]
    rfl
def fJ (ps : List Pr) (k j : Nat) : List Pr := if j = k then [((gp ps k).1 * (gp ps (k + 1)).1, (gp ps k).2)] else if j = k + 1 then [] else [gp ps j]
def fS (ps : List Pr) (k j : Nat) : List Pr := if j = k then [] else [gp ps j]
theorem fJ_all (ps : List Pr) {k : Nat} (h : k + 1 < ps.length) : (List.range ps.length).flatMap (fJ ps k) = byJ ps k := by
  have e : ps.length = k + 2 + (ps.length - (k + 2)) := by omega
  rw [e, List.range_add, List.range_add, List.flatMap_append, List.flatMap_append]
  rw [flat_one (fJ ps k) (gp ps) (List.range k) fun j hj => by
    have := List.mem_range.mp hj
    unfold fJ
    rw [if_neg (by omega), if_neg (by omega)]]
  rw [flat_one (fJ ps k) (gp ps) ((List.range (ps.length - (k + 2))).map (k + 2 + ·)) fun j hj => by
    obtain ⟨i, _, rfl⟩ := List.mem_map.mp hj
    unfold fJ
    rw [if_neg (by omega), if_neg (by omega)]]
  rw [map_gp ps (by omega), List.map_map]
  rw [show (List.range (ps.length - (k + 2))).map (gp ps ∘ (k + 2 + ·)) = ps.drop (k + 2) from map_gp2 ps (by omega)]
  have : (List.map (fun x => k + x) (List.range 2)).flatMap (fJ ps k) = [((gp ps k).1 * (gp ps (k + 1)).1, (gp ps k).2)] := by
    show fJ ps k (k + 0) ++ (fJ ps k (k + 1) ++ []) = _
    unfold fJ
    rw [if_pos (by omega), if_neg (by omega), if_pos rfl]
    rfl
  rw [this]
  unfold byJ
  simp
theorem fS_all (ps : List Pr) {k : Nat} (h : k < ps.length) : (List.range ps.length).flatMap (fS ps k) = byS ps k := by
  have e : ps.length = k + 1 + (ps.length - (k + 1)) := by omega
  rw [e, List.range_add, List.range_add, List.flatMap_append, List.flatMap_append]
  rw [flat_one (fS ps k) (gp ps) (List.range k) fun j hj => by
    have := List.mem_range.mp hj
    unfold fS
    rw [if_neg (by omega)]]
  rw [flat_one (fS ps k) (gp ps) ((List.range (ps.length - (k + 1))).map (k + 1 + ·)) fun j hj => by
    obtain ⟨i, _, rfl⟩ := List.mem_map.mp hj
    unfold fS
    rw [if_neg (by omega)]]
  rw [map_gp ps (by omega), List.map_map]
  rw [show (List.range (ps.length - (k + 1))).map (gp ps ∘ (k + 1 + ·)) = ps.drop (k + 1) from map_gp2 ps (by omega)]
  have : (List.map (fun x => k + x) (List.range 1)).flatMap (fS ps k) = [] := by
    show fS ps k (k + 0) ++ [] = _
    unfold fS
    rw [if_pos (by omega)]
    rfl
  rw [this]
  unfold byS
  simp
theorem cut_toP (ps : List Pr) {k : Nat} (h : k ≤ ps.length) : cutL (ps.map pr) none (some (k : Int)) = (ps.take k).map pr := by
  rw [cut_to _ _ (by rw [List.length_map]; exact h), List.map_take]
theorem cut_fromP (ps : List Pr) {k : Nat} (j : Int) (hj : j = (k : Int)) (h : k ≤ ps.length) : cutL (ps.map pr) (some j) none = (ps.drop k).map pr := by
  rw [hj, cut_from _ _ (by rw [List.length_map]; exact h), List.map_drop]
theorem k10J (n : Nat) (c : Cup) (ps : List Pr) (g : GW ps) (k : Nat) (hk : k + 1 < ps.length) : callN defs (n + 1) 10 [.tup (ps.map pr), dJ k] c = .ok (.tup ((byJ ps k).map pr)) c := by
  have hl := g.len
  have e0 : cmpD .eq (.str "join") (.str "strike") = some false := by kernel_rfl
  have c1 := cut_toP ps (show k ≤ ps.length by omega)
  have c2 := cut_fromP ps ((k : Int) + 2) (show (k : Int) + 2 = ((k + 2 : Nat) : Int) by omega) (show k + 2 ≤ ps.length by omega)
  have c3 : ((gp ps k).1 < 18446744073709551616 ∨ (gp ps (k + 1)).1 < 18446744073709551616) := .inl (gp_sm g k)
  have s1 : min k ps.length + 1 ≤ lineN := by unfold lineN; omega
  have s2 : min k ps.length + 1 + (ps.length - (k + 2)) ≤ lineN := by unfold lineN; omega
  rw [call_x (f := 10) rfl rfl]
  unfold dJ
  simp (config := {dsimp := false}) [e0, c1, c2, at_ps (show k < ps.length by omega), at_ps1 hk, c3, s1, s2]
  simp [byJ, pr]
theorem k10S (n : Nat) (c : Cup) (ps : List Pr) (g : GW ps) (k : Nat) (hk : k < ps.length) : callN defs (n + 1) 10 [.tup (ps.map pr), dS k] c = .ok (.tup ((byS ps k).map pr)) c := by
  have hl := g.len
  have e0 : cmpD .eq (.str "strike") (.str "strike") = some true := by kernel_rfl
  have c1 := cut_toP ps (show k ≤ ps.length by omega)
  have c2 := cut_fromP ps ((k : Int) + 1) (show (k : Int) + 1 = ((k + 1 : Nat) : Int) by omega) (show k + 1 ≤ ps.length by omega)
  have s1 : min k ps.length + (ps.length - (k + 1)) ≤ lineN := by unfold lineN; omega
  rw [call_x (f := 10) rfl rfl]
  unfold dS
  simp (config := {dsimp := false}) [e0, c1, c2, s1]
  simp [byS]
theorem flat_len {α β : Type} (f : α → List β) (l : List α) (h : ∀ a ∈ l, (f a).length ≤ 1) : (l.flatMap f).length ≤ l.length := by
  induction l with
  | nil => exact Nat.le_refl 0
  | cons a l ih =>
    have h1 := h a List.mem_cons_self
    have h2 := ih fun x hx => h x (List.mem_cons_of_mem _ hx)
    rw [List.flatMap_cons, List.length_append, List.length_cons]
    omega
theorem k33J (n : Nat) (c : Cup) (ps : List Pr) (g : GW ps) (k : Nat) (hk : k + 1 < ps.length) : callN defs (n + 1) 33 [.tup (ps.map pr), dJ k] c = .ok (.tup ((byJ ps k).map pr)) c := by
  have hl := g.len
  have e0 : cmpD .eq (.str "join") (.str "join") = some true := by kernel_rfl
  have e1 : cmpD .ne (.str "join") (.str "join") = some false := by kernel_rfl
  rw [call_x (f := 33) rfl rfl, W_eq]
  unfold dJ
  simp (config := {dsimp := false}) [enum_ps]
  refine W_for (fun j => D.tup [nI j, pr (gp ps j)]) (List.range ps.length) (fun done env c' => c' = c ∧ ∃ (L : List Pr) (x y : Sl), L = done.flatMap (fJ ps k) ∧ env = [.f (.tup (ps.map pr)), .f (.tup [.str "join", .int (k : Int)]), .o (L.map pr), .f (.int (k : Int)), x, y]) ⟨rfl, _, _, _, rfl, rfl⟩ ?_ ?_
  · rintro l1 j r e env c' ⟨rfl, L, x, y, hL, rfl⟩
    have hln : L.length < lineN := by
      have h1 := flat_len (fJ ps k) l1 fun a _ => by unfold fJ; split; (· exact Nat.le_refl 1); split <;> simp
      have h2 := congrArg List.length e
      simp at h2
      rw [hL]
      unfold lineN
      omega
    have hfs : (l1 ++ [j]).flatMap (fJ ps k) = L ++ fJ ps k j := by rw [hL]; simp
    have c3 : ((gp ps k).1 < 18446744073709551616 ∨ (gp ps (k + 1)).1 < 18446744073709551616) := .inl (gp_sm g k)
    rw [nI_eq, pr_eq, hfs]
    by_cases h1 : j = k
    · subst h1
      have hq : (L ++ [((gp ps j).1 * (gp ps (j + 1)).1, (gp ps j).2)]).map pr = L.map pr ++ [D.tup [D.int (((gp ps j).1 : Int) * ((gp ps (j + 1)).1 : Int)), D.int (gp ps j).2]] := by simp [pr]
      simp (config := {dsimp := false}) [e0, e1, at_ps1 hk, c3, hln]
      unfold fJ
      rw [if_pos rfl]
      simp [pr]
    · have h1' : ¬ (j : Int) = (k : Int) := by omega
      by_cases h2 : j = k + 1
      · subst h2
        have h3 : ((k + 1 : Nat) : Int) = (k : Int) + 1 := by omega
        have h4 : ¬ ((k : Int) + 1 = (k : Int)) := by omega
        simp (config := {dsimp := false}) [e0, e1, h3, h4]
        unfold fJ
        rw [if_neg h1, if_pos rfl]
      · have h2' : ¬ (j : Int) = (k : Int) + 1 := by omega
        simp (config := {dsimp := false}) [e0, e1, h1', h2', hln, h1]
        unfold fJ
        rw [if_neg h1, if_neg h2]
        simp [pr]
  · rintro env c' ⟨rfl, L, x, y, hL, rfl⟩
    rw [fJ_all ps hk] at hL
    subst hL
    simp (config := {dsimp := false})
theorem k33S (n : Nat) (c : Cup) (ps : List Pr) (g : GW ps) (k : Nat) (hk : k < ps.length) : callN defs (n + 1) 33 [.tup (ps.map pr), dS k] c = .ok (.tup ((byS ps k).map pr)) c := by
  have hl := g.len
  have e0 : cmpD .eq (.str "strike") (.str "join") = some false := by kernel_rfl
  have e1 : cmpD .ne (.str "strike") (.str "join") = some true := by kernel_rfl
  rw [call_x (f := 33) rfl rfl, W_eq]
  unfold dS
  simp (config := {dsimp := false}) [enum_ps]
  refine W_for (fun j => D.tup [nI j, pr (gp ps j)]) (List.range ps.length) (fun done env c' => c' = c ∧ ∃ (L : List Pr) (x y : Sl), L = done.flatMap (fS ps k) ∧ env = [.f (.tup (ps.map pr)), .f (.tup [.str "strike", .int (k : Int)]), .o (L.map pr), .f (.int (k : Int)), x, y]) ⟨rfl, _, _, _, rfl, rfl⟩ ?_ ?_
  · rintro l1 j r e env c' ⟨rfl, L, x, y, hL, rfl⟩
    have hln : L.length < lineN := by
      have h1 := flat_len (fS ps k) l1 fun a _ => by unfold fS; split <;> simp
      have h2 := congrArg List.length e
      simp at h2
      rw [hL]
      unfold lineN
      omega
    have hfs : (l1 ++ [j]).flatMap (fS ps k) = L ++ fS ps k j := by rw [hL]; simp
    rw [nI_eq, pr_eq, hfs]
    by_cases h1 : j = k
    · subst h1
      simp (config := {dsimp := false}) [e0, e1]
      unfold fS
      rw [if_pos rfl]
    · have h1' : ¬ (j : Int) = (k : Int) := by omega
      simp (config := {dsimp := false}) [e0, e1, h1', hln, h1]
      unfold fS
      rw [if_neg h1]
      simp [pr]
  · rintro env c' ⟨rfl, L, x, y, hL, rfl⟩
    rw [fS_all ps hk] at hL
    subst hL
    simp (config := {dsimp := false})
end Mn

set_option maxRecDepth 100000
set_option maxHeartbeats 4000000
namespace Mn
open PySem
/-! ## deeds as values -/
abbrev Dd := Bool × Nat
def wd (b : Bool) : Str := if b then "join" else "strike"
def dd (x : Dd) : D := .tup [.str (wd x.1), .int (x.2 : Int)]
def dds (ps : List Pr) : List Dd := (jns ps).map (fun k => (true, k)) ++ (sks ps).map (fun k => (false, k))
theorem deeds_eq (ps : List Pr) : deedsD ps = (dds ps).map dd := by
  unfold deedsD dds
  rw [List.map_append, List.map_map, List.map_map]
  rfl
theorem dds_len (ps : List Pr) : (dds ps).length ≤ 2 * ps.length := by
  have h1 := jns_len ps
  have h2 := sks_len ps
  unfold dds
  rw [List.length_append, List.length_map, List.length_map]
  omega
theorem wd_ok (b : Bool) : PyData.strOk (wd b) = true := by cases b <;> kernel_rfl
theorem fits_dds (l : List Dd) : (D.lst (l.map dd)).fits = true := by
  have h1 : D.plains (l.map dd) = true := plains_iff.mpr fun d hd => by
    obtain ⟨p, _, rfl⟩ := List.mem_map.mp hd
    show (PyData.strOk (wd p.1) && (true && true)) = true
    rw [wd_ok]
    rfl
  have h2 : D.deeps (l.map dd) ≤ 1 := deeps_iff.mpr fun d hd => by
    obtain ⟨p, _, rfl⟩ := List.mem_map.mp hd
    exact Nat.le_refl 1
  show (D.plains (l.map dd) && decide (D.deeps (l.map dd) + 1 ≤ 64)) = true
  rw [h1, decide_eq_true (by omega)]
  rfl
theorem lk_dds (l : List Dd) : D.lks (l.map dd) = true := lks_iff.mpr fun d hd => by
  obtain ⟨p, _, rfl⟩ := List.mem_map.mp hd
  show (PyData.strOk (wd p.1) && (true && true)) = true
  rw [wd_ok]
  rfl
theorem deep_dds (l : List Dd) : D.deeps (l.map dd) ≤ 1 := deeps_iff.mpr fun d hd => by
  obtain ⟨p, _, rfl⟩ := List.mem_map.mp hd
  exact Nat.le_refl 1
/-- what a deed leads to -/
def byD (ps : List Pr) (x : Dd) : List Pr := if x.1 then byJ ps x.2 else byS ps x.2
structure Good (ps : List Pr) (x : Dd) : Prop where
  sm : Sm ps (byD ps x)
  k10 : ∀ n c, callN defs (n + 1) 10 [.tup (ps.map pr), dd x] c = .ok (.tup ((byD ps x).map pr)) c
  k33 : ∀ n c, callN defs (n + 1) 33 [.tup (ps.map pr), dd x] c = .ok (.tup ((byD ps x).map pr)) c
theorem good {ps : List Pr} (g : GW ps) {x : Dd} (hx : x ∈ dds ps) : Good ps x := by
  rcases List.mem_append.mp hx with hx | hx
  · obtain ⟨k, hk, rfl⟩ := List.mem_map.mp hx
    obtain ⟨h1, h2⟩ := List.mem_filter.mp hk
    have h1 := List.mem_range.mp h1
    have h2 := of_decide_eq_true h2
    have h3 : k + 1 < ps.length := by omega
    exact ⟨sm_J g h3 h2, fun n c => k10J n c ps g k h3, fun n c => k33J n c ps g k h3⟩
  · obtain ⟨k, hk, rfl⟩ := List.mem_map.mp hx
    obtain ⟨h1, h2⟩ := List.mem_filter.mp hk
    have h1 := List.mem_range.mp h1
    have h2 := of_decide_eq_true h2
    exact ⟨sm_S g h1 h2, fun n c => k10S n c ps g k h1, fun n c => k33S n c ps g k h1⟩
/-! ### values told -/
/-- what kinds of values there are, and whether they are deeds -/
inductive Kind (L : List D) : D → Bool → Prop
  | no {v : D} (h : sortD v ≠ 4) : Kind L v false
  | len {l : List D} (h : l.length ≠ 2) : Kind L (.tup l) false
  | snd {a b : D} (ha : a.dt = true) (hb : b.dt = true) (h : sortD b ≠ 2) : Kind L (.tup [a, b]) false
  | fst {a : D} {i : Int} (ha : a.dt = true) (h : sortD a ≠ 3) : Kind L (.tup [a, .int i]) false
  | ok {s : Str} {i : Int} (h : PyData.strOk s = true) : Kind L (.tup [.str s, .int i]) (L.any fun y => y.eqv (.tup [.str s, .int i]))
theorem kind_of {v : D} (L : List D) (h : v.dt = true) (hf : v.plain = true) : ∃ b, Kind L v b := by
  by_cases h4 : sortD v = 4
  · cases v with
    | tup l =>
      by_cases h2 : l.length = 2
      · match l, h2 with
        | [a, b], _ =>
          have ha := dts_iff.mp (show D.dts [a, b] = true from h) a (by simp)
          have hb := dts_iff.mp (show D.dts [a, b] = true from h) b (by simp)
          have pa := plains_iff.mp (show D.plains [a, b] = true from hf) a (by simp)
          by_cases hb2 : sortD b = 2
          · cases b <;> first | (cases hb2; done) | skip
            by_cases ha3 : sortD a = 3
            · cases a <;> first | (cases ha3; done) | skip
              exact ⟨_, .ok pa⟩
            · exact ⟨_, .fst ha ha3⟩
          · exact ⟨_, .snd ha hb hb2⟩
      · exact ⟨_, .len h2⟩
    | _ => cases h4
  · exact ⟨_, .no h4⟩
theorem isI_no {d : D} (h : sortD d ≠ 2) : isI d = false := by cases d <;> first | rfl | exact absurd rfl h
theorem is2_no {d : D} (h : sortD d ≠ 4) : is2 d = false := by cases d <;> first | rfl | exact absurd rfl h
theorem is2_len {l : List D} (h : l.length ≠ 2) : is2 (.tup l) = false := by
  match l, h with
  | [], _ => rfl
  | [a], _ => rfl
  | [a, b], h => exact absurd rfl h
  | a :: b :: c :: r, _ => rfl
theorem in_fits {x : D} {l : List D} (h1 : x.flat = false) (h2 : x.fits = true) (h3 : (D.lst l).fits = true) : inD x l = some (l.any fun y => y.eqv x) := by
  unfold inD
  rw [h1, h2, h3]
  rfl
theorem deed_fits {s : Str} (i : Int) (h : PyData.strOk s = true) : (D.tup [.str s, .int i]).fits = true := by
  show ((PyData.strOk s && (true && true)) && decide (max 0 (max 0 0) + 1 ≤ 64)) = true
  rw [h]
  rfl
theorem in_l (a : D) (l : List D) : cmpD .inn a (.lst l) = inD a l := (rfl)
theorem k11 (n : Nat) (c : Cup) (ps : List Pr) (g : GW ps) (v : D) (b : Bool) (hv : v.dt = true) (k : Kind (deedsD ps) v b) : callN defs (n + 2) 11 [.tup (ps.map pr), v] c = .ok (.bl b) c := by
  have e2 := fun n c => k2 n c v 2 2 hv
  have e9 := fun n c => k9 n c ps g
  rw [is2_T] at e2
  rw [call_x (f := 11) rfl rfl]
  cases k with
  | no h => rw [is2_no h] at e2; simp (config := {dsimp := false}) [e2]
  | len h => rw [is2_len h] at e2; simp (config := {dsimp := false}) [e2]
  | @snd a b ha hb h =>
    have e0 := fun n c => k0 n c b hb
    rw [isI_no h] at e0
    have e2 : ∀ n c, callN defs (n + 1) 2 [.tup [a, b], .int 2, .int 2] c = .ok (.bl true) c := e2
    cases a <;> first | (cases ha; done) | simp (config := {dsimp := false}) [e2, e0, isD]
  | @fst a i ha h =>
    have e2 : ∀ n c, callN defs (n + 1) 2 [.tup [a, .int i], .int 2, .int 2] c = .ok (.bl true) c := e2
    cases a <;> first | (cases ha; done) | (exact absurd rfl h) | simp (config := {dsimp := false}) [e2, isD]
  | @ok s i h =>
    have e2 : ∀ n c, callN defs (n + 1) 2 [.tup [.str s, .int i], .int 2, .int 2] c = .ok (.bl true) c := e2
    have e0 : ∀ n c, callN defs (n + 1) 0 [.int i] c = .ok (.bl true) c := fun n c => k0 n c (.int i) rfl
    have hi := in_fits (x := .tup [.str s, .int i]) (l := deedsD ps) rfl (deed_fits i h) (by rw [deeds_eq]; exact fits_dds _)
    simp (config := {dsimp := false}) [e2, e0, e9, in_l, hi, isD]
theorem kind_dd (ps : List Pr) {x : Dd} (hx : x ∈ dds ps) : Kind (deedsD ps) (dd x) true := by
  have h : (deedsD ps).any (fun y => y.eqv (dd x)) = true := List.any_eq_true.mpr ⟨dd x, by rw [deeds_eq]; exact List.mem_map.mpr ⟨x, hx, rfl⟩, by simp [dd, D.eqv, D.eqvs]⟩
  have k := Kind.ok (L := deedsD ps) (s := wd x.1) (i := x.2) (wd_ok x.1)
  rw [← h]
  exact k
/-! ### the program's calls -/
theorem k13 (n : Nat) (c : Cup) (b : Int) (ps : List Pr) (g : GW ps) : callN defs (n + 7) 13 [WD b ps] c = .ok (.tup (deedsD ps)) c := by
  have e8 := fun n c => k8 n c b ps g
  have e9 := fun n c => k9 n c ps g
  have hl := g.len
  have hz : (deedsD ps).length ≤ lineN := by
    rw [deeds_eq, List.length_map]
    have := dds_len ps
    unfold lineN
    omega
  rw [call_x (f := 13) rfl rfl]
  simp (config := {dsimp := false}) [e8, e9, hz]
  try rw [deeds_eq]
  try simp
theorem k14 (n : Nat) (c : Cup) (b : Int) (ps : List Pr) (g : GW ps) (v : D) (r : Bool) (hv : v.dt = true) (k : Kind (deedsD ps) v r) : callN defs (n + 7) 14 [WD b ps, v] c = .ok (.bl r) c := by
  have e8 := fun n c => k8 n c b ps g
  have e11 := fun n c => k11 n c ps g v r hv k
  rw [call_x (f := 14) rfl rfl]
  simp (config := {dsimp := false}) [e8, e11]
theorem k15x (n : Nat) (c : Cup) (b : Int) (ps : List Pr) (g : GW ps) (v : D) (hv : v.dt = true) (k : Kind (deedsD ps) v false) : callN defs (n + 7) 15 [WD b ps, v] c = .exc 2 [] c := by
  have e8 := fun n c => k8 n c b ps g
  have e11 := fun n c => k11 n c ps g v false hv k
  rw [call_x (f := 15) rfl rfl]
  simp (config := {dsimp := false}) [e8, e11]
theorem k15 (n : Nat) (c : Cup) (b : Int) (ps : List Pr) (g : GW ps) (x : Dd) (hx : x ∈ dds ps) : callN defs (n + 7) 15 [WD b ps, dd x] c = .ok (WD b (byD ps x)) c := by
  have e8 := fun n c => k8 n c b ps g
  have e11 := fun n c => k11 n c ps g (dd x) true rfl (kind_dd ps hx)
  have e10 := (good g hx).k10
  rw [call_x (f := 15) rfl rfl]
  simp (config := {dsimp := false}) [e8, e11, e10]
  try rfl
theorem k16 (n : Nat) (c : Cup) (b : Int) (ps : List Pr) (g : GW ps) : callN defs (n + 7) 16 [WD b ps] c = .ok (.bl (deedsD ps).isEmpty) c := by
  have e8 := fun n c => k8 n c b ps g
  have e9 := fun n c => k9 n c ps g
  have hq := eq_nil (l := deedsD ps) (by rw [deeds_eq]; exact fits_dds _)
  rw [call_x (f := 16) rfl rfl]
  simp (config := {dsimp := false}) [e8, e9, hq]
def plainB (ps : List Pr) : Bool := ps.all fun q => decide (1 < q.1)
theorem k12 (n : Nat) (c : Cup) (ps : List Pr) : callN defs (n + 1) 12 [.tup (ps.map pr)] c = .ok (.bl (plainB ps)) c := by
  rw [call_x (f := 12) rfl rfl]
  simp (config := {dsimp := false})
  rw [W_lcm pr ps fun q => .bl (decide (1 < q.1))]
  · simp (config := {dsimp := false})
    rfl
  · intro q hq
    simp (config := {dsimp := false}) [pr]
    omega
theorem k17 (n : Nat) (c : Cup) (b : Int) (ps : List Pr) (g : GW ps) : callN defs (n + 7) 17 [WD b ps] c = .ok (.bl (plainB ps)) c := by
  have e8 := fun n c => k8 n c b ps g
  have e12 := fun n c => k12 n c ps
  rw [call_x (f := 17) rfl rfl]
  simp (config := {dsimp := false}) [e8, e12]
end Mn

set_option maxRecDepth 100000
set_option maxHeartbeats 4000000
namespace Mn
open PySem
/-! ## a walk, asked -/
theorem plain_law {ps : List Pr} (g : GW ps) : ((ps.filter fun q => decide (q.1 = 1)).map pr).isEmpty = plainB ps := by
  have h : ∀ q ∈ ps, 1 ≤ q.1 := fun q hq => g.pos q.1 (List.mem_map.mpr ⟨q, hq, rfl⟩)
  clear g
  unfold plainB
  induction ps with
  | nil => rfl
  | cons q r ih =>
    have h1 := h q List.mem_cons_self
    have ih := ih fun x hx => h x (List.mem_cons_of_mem _ hx)
    by_cases hq : q.1 = 1
    · simp [hq]
    · have : 1 < q.1 := by omega
      rw [List.filter_cons_of_neg (by simpa using hq), ih]
      simp [this]
theorem eq_t0 (l : List Dd) : cmpD .eq (.tup (l.map dd)) (.tup []) = some (l.map dd).isEmpty := by
  show (if (D.tup (l.map dd)).fits && (D.tup []).fits then _ else _) = _
  rw [show (D.tup (l.map dd)).fits = true from fits_dds l, if_pos (by decide)]
  cases l <;> rfl
theorem rng_v (k : Nat) (h : k ≤ 1000) : rngD [.int (-2), .int ((k : Int) + 2)] = some ((List.range (k + 4)).map fun i => .int (-2 + (i : Int))) := by
  show (if small62 (-2) ∧ small62 ((k : Int) + 2) ∧ ((k : Int) + 2) - (-2) ≤ lineN then some (rngL (-2) (((k : Int) + 2) - (-2)).toNat) else none) = _
  rw [if_pos (by simp [small62, lineN]; omega), rngL_eq, show (((k : Int) + 2) - (-2)).toNat = k + 4 by omega]
structure Vok (v : D) : Prop where
  dt : v.dt = true
  pl : v.plain = true
def takeS : Nat → Sts → Sts
  | k + 1, .cons s r => .cons s (takeS k r)
  | _, _ => .nil
def dropS : Nat → Sts → Sts
  | k + 1, .cons _ r => dropS k r
  | _, s => s
theorem bnx_assoc {α β γ : Type} (r : R α) (f : α → Cup → R β) (g : β → Cup → R γ) : (r.bnx f).bnx g = r.bnx fun a c => (f a c).bnx g := by
  cases r <;> rfl
theorem exs_split (Γ : Nat → List D → Cup → R D) : ∀ (k : Nat) (ss : Sts) (env : Env) (c : Cup), exs Γ ss env c = (exs Γ (takeS k ss) env c).bnx fun r c1 => goOn Γ (dropS k ss) r c1
  | 0, ss, env, c => by cases ss <;> rfl
  | k + 1, .nil, env, c => rfl
  | k + 1, .cons s r, env, c => by
    show exs Γ (.cons s r) env c = (exs Γ (.cons s (takeS k r)) env c).bnx fun r' c1 => goOn Γ (dropS k r) r' c1
    rw [x_x1, x_x1, bnx_assoc]
    congr 1
    funext ⟨fl, e⟩ c1
    cases fl with
    | nx => exact exs_split Γ k r e c1
    | _ => rfl
/-- what stands behind each part of the questions -/
structure P34 (b : Int) (ps : List Pr) (m : Nat) (env : Env) : Prop where
  h : ∃ (s1 s2 s4 s5 s8 s9 : Sl) (V : List D), env = [.f (WD b ps), s1, s2, .o V, s4, s5, .f (.tup ((dds ps).map dd)), .f (.tup (nums b ps)), s8, s9, .u, .u] ∧ (∀ v ∈ V, Vok v) ∧ V.length ≤ m
theorem part34 (Γ : Nat → List D → Cup → R D) (k j : Nat) (b : Int) (ps : List Pr) (m m' : Nat) {ss : Sts} {env : Env} {c : Cup} {Q : Fl × Env → Cup → Prop} {t : Tok Q} (h : W (exs Γ (takeS k ss) env c) (fun r c' => r.1 = .nx ∧ c' = c ∧ P34 b ps m' r.2) tok) (hk : ∀ env', P34 b ps m' env' → W (exs Γ (dropS k ss) env' c) Q tok) : W (exs Γ ss env c) Q t := by
  rw [exs_split Γ k ss]
  obtain ⟨⟨fl, e'⟩, c', e, h1, h2, h3⟩ := h
  cases h1
  subst h2
  rw [e]
  exact hk e' h3
theorem k34a (n : Nat) (c : Cup) (b : Int) (ps : List Pr) (g : GW ps) : W (exs (callN defs (n + 9)) (takeS 6 d34.body) [.f (WD b ps), .u, .u, .u, .u, .u, .u, .u, .u, .u, .u, .u] c) (fun r c' => r.1 = .nx ∧ c' = c ∧ P34 b ps 60 r.2) tok := by
  have e32 := fun n c => k32 n c ps g
  have e31 := fun n c => k31 n c b ps g
  have e13 := fun n c => k13 n c b ps g
  have e16 := fun n c => k16 n c b ps g
  have e17 := fun n c => k17 n c b ps g
  have e19 := fun n c => k19 n c b ps g
  rw [fold_nums b ps g.pos] at e19
  have e0 := eq_t0 (dds ps)
  have hlen := dds_len ps
  have hl := g.len
  have e14 : ∀ x ∈ dds ps, ∀ n c, callN defs (n + 7) 14 [WD b ps, dd x] c = .ok (.bl true) c := fun x hx n c => k14 n c b ps g (dd x) true rfl (kind_dd ps hx)
  have e15 : ∀ x ∈ dds ps, ∀ n c, callN defs (n + 7) 15 [WD b ps, dd x] c = .ok (WD b (byD ps x)) c := fun x hx n c => k15 n c b ps g x hx
  have hlike : ∀ n c (x y : Bool), callN defs (n + 5) 24 [.lst [.tup (deedsD ps), .bl x, .bl y, .tup (nums b ps)], .lst [.tup (deedsD ps), .bl x, .bl y, .tup (nums b ps)]] c = .ok (.bl true) c := fun n c x y => by
    refine k24c n _ c ?_ ?_
    · show (D.lks (deedsD ps) && (true && (true && (D.lks (nums b ps) && true)))) = true
      rw [deeds_eq, lk_dds, lk_nums]
      rfl
    · have := deep_dds (dds ps)
      show max (D.deeps (deedsD ps) + 1) (max 0 (max 0 (max (D.deeps (nums b ps) + 1) 0))) + 1 ≤ 3
      rw [deeds_eq, deep_nums]
      omega
  have nld : D.nls (deedsD ps) = true := by rw [deeds_eq]; exact nls_map _ _ fun _ => rfl
  rw [← deeds_eq] at e0
  unfold d34
  simp (config := {dsimp := false}) only [takeS]
  simp (config := {dsimp := false}) [e32, e31, e13, e16, e17, e19, e0, nld]
  rw [W_lc pr ps fun q => if q.1 = 1 then some (pr q) else none]
  · rw [fm_filter (fun q : Pr => q.1 = 1) pr]
    have hq := eq_nil (l := (ps.filter fun q => decide (q.1 = 1)).map pr) (fits_prs _)
    rw [plain_law g] at hq
    simp (config := {dsimp := false}) [hq, hlike]
    rw [deeds_eq]
    refine W_for2 dd (dds ps) (fun done env c' => c' = c ∧ ∃ x2 x8, env = [.f (WD b ps), .o [.tup ((dds ps).map dd), .bl ((dds ps).map dd).isEmpty, .bl (plainB ps), .tup (nums b ps)], x2, .u, .u, .u, .f (.tup ((dds ps).map dd)), .f (.tup (nums b ps)), x8, .u, .u, .u]) ⟨rfl, _, _, rfl⟩ ?_ ?_
    · rintro l1 x r e env c' ⟨rfl, x2, x8, rfl⟩
      have hx : x ∈ dds ps := by rw [e]; simp
      have gd := good g hx
      have g2 := gd.sm.gw g
      have e33 := gd.k33
      have e31' := fun n c => k31 n c b (byD ps x) g2
      rw [gd.sm.numsE b] at e31'
      have hlike2 : ∀ n c, callN defs (n + 6) 24 [.lst [WD b (byD ps x), .tup (nums b ps), .bl true], .lst [WD b (byD ps x), .tup (nums b ps), .bl true]] c = .ok (.bl true) c := fun n c => by
        refine k24 4 _ ?_ ?_ n c
        · show ((true && (D.lks ((byD ps x).map pr) && true)) && (D.lks (nums b ps) && (true && true))) = true
          rw [lk_nums, lks_iff.mpr fun d hd => by
            obtain ⟨q, _, rfl⟩ := List.mem_map.mp hd
            exact (rfl : (pr q).lk = true)]
          rfl
        · have h1 : D.deeps ((byD ps x).map pr) ≤ 1 := deeps_iff.mpr fun d hd => by
            obtain ⟨q, _, rfl⟩ := List.mem_map.mp hd
            exact Nat.le_refl 1
          show max (max 0 (max (D.deeps ((byD ps x).map pr) + 1) 0) + 1) (max (D.deeps (nums b ps) + 1) (max 0 0)) + 1 ≤ 4
          rw [deep_nums]
          omega
      have hW : D.tup [.int b, .tup ((byD ps x).map pr)] = WD b (byD ps x) := rfl
      simp (config := {dsimp := false}) [e33, hW, e31', e14 x hx, e15 x hx, hlike2]
    · rintro env c' ⟨rfl, x2, x8, rfl⟩
      simp (config := {dsimp := false})
      refine W_fori (fun done env c'' => c'' = c' ∧ ∃ (V : List D) (x4 : Sl), env = [.f (WD b ps), .o [.tup ((dds ps).map dd), .bl (dds ps).isEmpty, .bl (plainB ps), .tup (nums b ps)], x2, .o V, x4, .u, .f (.tup ((dds ps).map dd)), .f (.tup (nums b ps)), x8, .u, .u, .u] ∧ (∀ v ∈ V, Vok v) ∧ D.nls V = true ∧ V.length ≤ done.length * 20) ⟨rfl, [], _, rfl, by simp, rfl, by simp⟩ ?_ ?_
      · rintro l1 w r e env c'' ⟨rfl, V, x4, rfl, hV, hnl, hVl⟩
        have hw : ∃ s : Str, w = .str s ∧ PyData.strOk s = true := by
          have : w ∈ [D.str "join", D.str "strike", D.str "part"] := by rw [e]; simp
          simp at this
          rcases this with rfl | rfl | rfl <;> exact ⟨_, rfl, by kernel_rfl⟩
        obtain ⟨s, rfl, hs⟩ := hw
        have h1 : l1.length ≤ 3 := by have := congrArg List.length e; simp at this; omega
        simp (config := {dsimp := false}) [rng_v ps.length (by omega)]
        rw [W_lcm (fun i : Nat => D.int (-2 + (i : Int))) (List.range (ps.length + 4)) fun i => .tup [.str s, .int (-2 + (i : Int))]]
        · have z1 : V.length + (ps.length + 4) ≤ lineN := by unfold lineN; omega
          have z2 : D.nls ((List.range (ps.length + 4)).map fun i : Nat => D.tup [D.str s, D.int (-2 + (i : Int))]) = true := nls_map _ _ fun _ => rfl
          simp (config := {dsimp := false}) [z1, z2, hnl]
          refine ⟨fun v hv => ?_, by rw [Nat.add_mul]; omega⟩
          rcases hv with hv | ⟨i, hi, rfl⟩
          · exact hV v hv
          · exact ⟨rfl, by show (PyData.strOk s && (true && true)) = true; rw [hs]; rfl⟩
        · intro i hi
          simp (config := {dsimp := false})
      · rintro env c'' ⟨rfl, V, x4, rfl, hV, hnl, hVl⟩
        have hVl : V.length ≤ 60 := by simpa using hVl
        simp (config := {dsimp := false})
        exact ⟨⟨_, _, _, _, _, _, V, rfl, hV, hVl⟩⟩
  · intro q hq
    by_cases h1 : q.1 = 1
    · simp (config := {dsimp := false}) [pr, h1]
    · have h1' : ¬ (q.1 : Int) = 1 := by omega
      simp (config := {dsimp := false}) [pr, h1, h1']
theorem k34b (n : Nat) (c : Cup) (b : Int) (ps : List Pr) (g : GW ps) (env : Env) (h : P34 b ps 60 env) : W (exs (callN defs (n + 9)) (takeS 1 (dropS 6 d34.body)) env c) (fun r c' => r.1 = .nx ∧ c' = c ∧ P34 b ps 124 r.2) tok := by
  obtain ⟨s1, s2, s4, s5, s8, s9, V, rfl, hV, hVl⟩ := h.h
  have hl := g.len
  have hlen := dds_len ps
  unfold d34
  simp (config := {dsimp := false}) only [takeS, dropS]
  simp (config := {dsimp := false})
  rw [W_lcm dd (dds ps) fun x => .tup [.str (wd x.1), .int x.2, .int 0]]
  · have z1 : V.length + (dds ps).length ≤ lineN := by unfold lineN; omega
    simp (config := {dsimp := false}) [z1]
    rw [W_lcm dd (dds ps) fun x => .lst [.str (wd x.1), .int x.2]]
    · have z2 : V.length + (dds ps).length + (dds ps).length ≤ lineN := by unfold lineN; omega
      have hV' : ∀ v ∈ V ++ ((dds ps).map (fun x => D.tup [D.str (wd x.1), D.int x.2, D.int 0]) ++ (dds ps).map fun x => D.lst [D.str (wd x.1), D.int x.2]), Vok v := fun v hv => by
        rcases List.mem_append.mp hv with hv | hv
        · exact hV v hv
        · rcases List.mem_append.mp hv with hv | hv
          · obtain ⟨x, _, rfl⟩ := List.mem_map.mp hv
            exact ⟨rfl, by show (PyData.strOk (wd x.1) && (true && (true && true))) = true; rw [wd_ok]; rfl⟩
          · obtain ⟨x, _, rfl⟩ := List.mem_map.mp hv
            exact ⟨rfl, by show (PyData.strOk (wd x.1) && (true && true)) = true; rw [wd_ok]; rfl⟩
      simp (config := {dsimp := false}) [z2]
      split <;> exact ⟨⟨_, _, _, _, _, _, _, rfl, hV', by simp; omega⟩⟩
    · intro x hx
      simp (config := {dsimp := false}) [dd]
  · intro x hx
    have z : 3 ≤ lineN := by decide
    simp (config := {dsimp := false}) [dd, z]
theorem k34c (n : Nat) (c : Cup) (b : Int) (ps : List Pr) (g : GW ps) (env : Env) (h : P34 b ps 124 env) : W (exs (callN defs (n + 9)) (takeS 1 (dropS 1 (dropS 6 d34.body))) env c) (fun r c' => r.1 = .nx ∧ c' = c ∧ P34 b ps 188 r.2) tok := by
  obtain ⟨s1, s2, s4, s5, s8, s9, V, rfl, hV, hVl⟩ := h.h
  have hl := g.len
  have hlen := dds_len ps
  unfold d34
  simp (config := {dsimp := false}) only [takeS, dropS]
  simp (config := {dsimp := false})
  rw [W_lcm dd (dds ps) fun x => .tup [.tup [.str (wd x.1), .int x.2]]]
  · have z1 : V.length + (dds ps).length ≤ lineN := by unfold lineN; omega
    simp (config := {dsimp := false}) [z1]
    rw [W_lcm dd (dds ps) fun x => .tup [.int x.2, .str (wd x.1)]]
    · have z2 : V.length + (dds ps).length + (dds ps).length ≤ lineN := by unfold lineN; omega
      have hV' : ∀ v ∈ V ++ ((dds ps).map (fun x => D.tup [D.tup [D.str (wd x.1), D.int x.2]]) ++ (dds ps).map fun x => D.tup [D.int x.2, D.str (wd x.1)]), Vok v := fun v hv => by
        rcases List.mem_append.mp hv with hv | hv
        · exact hV v hv
        · rcases List.mem_append.mp hv with hv | hv
          · obtain ⟨x, _, rfl⟩ := List.mem_map.mp hv
            exact ⟨rfl, by show ((PyData.strOk (wd x.1) && (true && true)) && true) = true; rw [wd_ok]; rfl⟩
          · obtain ⟨x, _, rfl⟩ := List.mem_map.mp hv
            exact ⟨rfl, by show (true && (PyData.strOk (wd x.1) && true)) = true; rw [wd_ok]; rfl⟩
      simp (config := {dsimp := false}) [z2]
      split <;> exact ⟨⟨_, _, _, _, _, _, _, rfl, hV', by simp; omega⟩⟩
    · intro x hx
      simp (config := {dsimp := false}) [dd]
  · intro x hx
    simp (config := {dsimp := false}) [dd]
theorem k34d (n : Nat) (c : Cup) (b : Int) (ps : List Pr) (g : GW ps) (env : Env) (h : P34 b ps 188 env) : W (exs (callN defs (n + 9)) (takeS 1 (dropS 1 (dropS 1 (dropS 6 d34.body)))) env c) (fun r c' => r.1 = .nx ∧ c' = c ∧ P34 b ps 198 r.2) tok := by
  obtain ⟨s1, s2, s4, s5, s8, s9, V, rfl, hV, hVl⟩ := h.h
  unfold d34
  simp (config := {dsimp := false}) only [takeS, dropS]
  have z2 : V.length + 10 ≤ lineN := by unfold lineN; omega
  simp (config := {dsimp := false}) [z2]
  have hq : ∀ v ∈ [D.non, D.tup [], D.str "join", D.int 0, D.tup [D.str "join"], D.tup [D.str "strike", D.non], D.tup [D.str "join", D.str "0"], D.tup [D.str "strike", D.bl true], D.tup [D.non, D.int 0], D.tup [D.str "join", D.tup [D.int 0]]], Vok v := fun v hv => by
    simp only [List.mem_cons, List.not_mem_nil, or_false] at hv
    rcases hv with rfl | rfl | rfl | rfl | rfl | rfl | rfl | rfl | rfl | rfl <;> exact ⟨by kernel_rfl, by kernel_rfl⟩
  have hV' : ∀ v ∈ V ++ [D.non, D.tup [], D.str "join", D.int 0, D.tup [D.str "join"], D.tup [D.str "strike", D.non], D.tup [D.str "join", D.str "0"], D.tup [D.str "strike", D.bl true], D.tup [D.non, D.int 0], D.tup [D.str "join", D.tup [D.int 0]]], Vok v := fun v hv => by
    rcases List.mem_append.mp hv with hv | hv
    · exact hV v hv
    · exact hq v hv
  try split
  all_goals exact ⟨⟨_, _, _, _, _, _, _, rfl, hV', by simp; omega⟩⟩
end Mn

set_option maxRecDepth 100000
set_option maxHeartbeats 4000000
namespace Mn
open PySem
/-! ## values judged; the whole question of a walk -/
theorem k34e (n : Nat) (c : Cup) (b : Int) (ps : List Pr) (g : GW ps) (env : Env) (h : P34 b ps 198 env) : W (exs (callN defs (n + 9)) (dropS 1 (dropS 1 (dropS 1 (dropS 6 d34.body)))) env c) (fun r c' => r.1 = .ret (.bl true) ∧ c' = c) tok := by
  obtain ⟨s1, s2, s4, s5, s8, s9, V, rfl, hV, hVl⟩ := h.h
  have hne : cmpD .ne (.str "deed") (.str "deed") = some false := by kernel_rfl
  unfold d34
  simp (config := {dsimp := false}) only [dropS]
  simp (config := {dsimp := false})
  refine W_fori (fun done env c' => c' = c ∧ ∃ s1 s2 s4 s5 s8 s9, env = [.f (WD b ps), s1, s2, .f (.lst V), s4, s5, .f (.tup ((dds ps).map dd)), .f (.tup (nums b ps)), s8, s9, .u, .u]) ⟨rfl, _, _, _, _, _, _, rfl⟩ ?_ ?_
  · rintro l1 v r e env c' ⟨rfl, s1, s2, s4, s5, s8, s9, rfl⟩
    have hv : Vok v := hV v (by rw [e]; simp)
    obtain ⟨t, k⟩ := kind_of (deedsD ps) hv.dt hv.pl
    have e23 : ∀ d : D, d.dt = true → ∀ n c, callN defs (n + 1) 23 [d] c = .ok (.int (sortD d)) c := fun d hd n c => k23 n c d hd
    have e14 := fun n c => k14 n c b ps g v t hv.dt k
    have e15 : t = false → ∀ n c, callN defs (n + 7) 15 [WD b ps, v] c = .exc 2 [] c := fun ht n c => k15x n c b ps g v hv.dt (ht ▸ k)
    have e24 := fun n c => k24c n (.bl t) c rfl (Nat.zero_le _)
    have s4 : ∀ l : List D, sortD (.tup l) = 4 := fun _ => rfl
    have s2 : ∀ i : Int, sortD (.int i) = 2 := fun _ => rfl
    have s3 : ∀ s : Str, sortD (.str s) = 3 := fun _ => rfl
    cases k with
    | no h =>
      simp (config := {dsimp := false}) [e23 v hv.dt, h, e14, e24, e15 rfl, hne]
    | @len l h =>
      have h' : ¬ (l.length : Int) = 2 := by omega
      simp (config := {dsimp := false}) [e23 _ hv.dt, h', s4, e14, e24, e15 rfl, hne]
    | snd ha hb h =>
      simp (config := {dsimp := false}) [e23 _ hv.dt, e23 _ ha, e23 _ hb, h, s4, e14, e24, e15 rfl, hne]
    | @fst a i ha h =>
      simp (config := {dsimp := false}) [e23 _ hv.dt, e23 _ ha, e23 (.int i) rfl, h, s4, s2, e14, e24, e15 rfl, hne]
    | @ok s i h =>
      have hin := in_fits (x := .tup [.str s, .int i]) (l := (dds ps).map dd) rfl (deed_fits i h) (fits_dds _)
      rw [← in_tup] at hin
      rw [← deeds_eq] at hin ⊢
      generalize (deedsD ps).any (fun y => y.eqv (.tup [.str s, .int i])) = t at *
      cases t with
      | true => simp (config := {dsimp := false}) [e23 _ hv.dt, e23 (.str s) rfl, e23 (.int i) rfl, s4, s2, s3, hin, e14, e24, hne]
      | false => simp (config := {dsimp := false}) [e23 _ hv.dt, e23 (.str s) rfl, e23 (.int i) rfl, s4, s2, s3, hin, e14, e24, e15 rfl, hne]
  · rintro env c' ⟨rfl, s1, s2, s4, s5, s8, s9, rfl⟩
    simp (config := {dsimp := false})
theorem k34 (n : Nat) (c : Cup) (b : Int) (ps : List Pr) (g : GW ps) : callN defs (n + 10) 34 [WD b ps] c = .ok (.bl true) c := by
  rw [call_x (defs := defs) (n := n + 9) (f := 34) (np := 1) (N := d34.N) (b := d34.body) (ds := [WD b ps]) (c := c) rfl rfl]
  rw [show (([WD b ps] : List D).map Sl.f ++ List.replicate (d34.N.length - ([WD b ps] : List D).length) Sl.u) = [.f (WD b ps), .u, .u, .u, .u, .u, .u, .u, .u, .u, .u, .u] from rfl]
  have h : W (exs (callN defs (n + 9)) d34.body [.f (WD b ps), .u, .u, .u, .u, .u, .u, .u, .u, .u, .u, .u] c) (fun r c' => r.1 = .ret (.bl true) ∧ c' = c) tok := by
    refine part34 _ 6 0 b ps 0 60 (k34a n c b ps g) fun env h => ?_
    refine part34 _ 1 0 b ps 0 124 (k34b n c b ps g env h) fun env h => ?_
    refine part34 _ 1 0 b ps 0 188 (k34c n c b ps g env h) fun env h => ?_
    refine part34 _ 1 0 b ps 0 198 (k34d n c b ps g env h) fun env h => ?_
    exact k34e n c b ps g env h
  obtain ⟨⟨fl, env⟩, c', e, h, rfl⟩ := h
  cases h
  rw [e]
  rfl
end Mn

set_option maxRecDepth 100000
set_option maxHeartbeats 4000000
namespace Mn
open PySem
/-! ## the law -/
theorem k35 (c : Cup) : callN defs 40 35 [] c = .ok (.bl true) c := by kernel_rfl
theorem k36 (c : Cup) : callN defs 40 36 [] c = .ok (.bl true) c := by kernel_rfl
def lawN : Nat := 40
theorem pre_ok (Γ : Nat → List D → Cup → R D) (h36 : ∀ c, Γ 36 [] c = .ok (.bl true) c) (h35 : ∀ c, Γ 35 [] c = .ok (.bl true) c) (ns : List Int) : exs Γ lw.pre [.f (.scr ns), .u, .u] (0, 0) = .ok (.nx, [.f (.scr ns), .u, .u]) (0, 0) := by
  unfold lw
  simp (config := {dsimp := false}) [h36, h35]
theorem main_ok (n : Nat) (ns : List Int) (a b : Int) : W (exs (callN defs (n + 12)) lw.post [.f (.scr ns), .f .cup, .u] (a, b)) (fun r _ => r.1 = .ret (.bl true)) tok := by
  unfold lw
  simp (config := {dsimp := false})
  rw [show (20 : Int) = ((20 : Nat) : Int) from rfl, rng1 20 (by omega)]
  simp (config := {dsimp := false}) only [opt_some, W_ok, y_ia0, if_true, for_T]
  refine W_for nI (List.range 20) (fun done env _ => ∃ s1, env = [.f (.scr ns), .f .cup, s1]) ⟨_, rfl⟩ ?_ ?_
  · rintro l1 d r e env c ⟨s1, rfl⟩
    simp (config := {dsimp := false})
    refine W_mono (k29 (n + 7) c 120 (by omega)) ?_
    rintro d c1 ⟨b, ps, rfl, hb, g, hl⟩
    have e1 := fun c => k34 (n + 2) c b ps g
    simp (config := {dsimp := false}) [e1]
  · rintro env c ⟨s1, rfl⟩
    simp (config := {dsimp := false})
theorem e_ok (Γ : Nat → List D → Cup → R D) (ns : List Int) (a b : Int) (h : Γ 20 [.scr ns] (0, 0) = .ok (.lst [.int a, .int b]) (0, 0)) : ev Γ (see [] [.f (.scr ns), .u, .u]) lw.e (0, 0) = .ok (.lst [.int a, .int b]) (0, 0) := by
  unfold lw
  simp (config := {dsimp := false}) [h]
theorem runL_ok (Γ : Nat → List D → Cup → R D) (ns : List Int) (a b : Int) (e0 : exs Γ lw.pre [.f (.scr ns), .u, .u] (0, 0) = .ok (.nx, [.f (.scr ns), .u, .u]) (0, 0)) (e1 : ev Γ (see [] [.f (.scr ns), .u, .u]) lw.e (0, 0) = .ok (.lst [.int a, .int b]) (0, 0)) (h : W (exs Γ lw.post [.f (.scr ns), .f .cup, .u] (a, b)) (fun r _ => r.1 = .ret (.bl true)) tok) : runL Γ lw ns = some (.bl true) := by
  obtain ⟨⟨fl, env⟩, c, e, h⟩ := h
  cases h
  unfold runL
  rw [show exs Γ lw.pre (.f (.scr ns) :: List.replicate (lw.N.length - 1) .u) (0, 0) = _ from e0]
  dsimp only
  rw [if_pos (show (([.f (.scr ns), .u, .u] : Env).all slNl) = true from rfl), e1]
  dsimp only [intP]
  rw [show (([.f (.scr ns), .u, .u] : Env).set lw.i (.f .cup)) = [.f (.scr ns), .f .cup, .u] from rfl, e]
theorem law_true (ns : List Int) (hn : ns.length ≤ 63) : runL (callN defs lawN) lw ns = some (.bl true) := by
  obtain ⟨a, b, e20⟩ := k20 39 (0, 0) ns hn
  exact runL_ok (callN defs lawN) ns a b (pre_ok (callN defs lawN) k36 k35 ns) (e_ok (callN defs lawN) ns a b e20) (main_ok 28 ns a b)
end Mn

set_option maxHeartbeats 0
namespace Mn
open PySem PySem.Spec PyProof.Rows L2
def rowName : String := "walkstrides_k08_whole_shortening_deeds"
def topS (i : Nat) : Stmt := PySem.Challenge.pw_walkstrides_k08_whole_shortening_deeds.main.body.getD i (.Pass ⟨0, 0, 0, 0⟩)
def fn0 : List Str := ["is_integer", "is_number", "is_tuple_of", "number_in", "sizes_in", "fits_shape", "fits_pairs", "fits_walk", "need_walk", "deeds_in", "pairs_by", "fits_deed", "is_plain_in", "short_deeds", "is_short_deed", "walk_by_deed", "is_short", "is_plain", "list_in", "walk_list"]
def fn1 : List Str := ["_law_cup", "_law_roll", "_law_some", "_law_sort", "_law_like", "_law_number", "_law_sizes", "_law_step", "_law_pairs", "_law_walk", "_law_digits", "_law_list", "_law_deeds", "_law_by", "_law_right", "_law_errors_right", "_law_written_right"]
def fnsL : List Str := fn0 ++ fn1
def csL : List (Str × Int) := [("MOST_PAIRS", 16), ("MOST_PLACES", 5000)]
def ssL : List (Str × Str) := [("JOIN", "join"), ("STRIKE", "strike")]
def clsL : List Str := ["StrideError", "InvalidWalk", "InvalidDeed"]
def topsL : List Nat := [5, 6, 7, 11, 12, 13, 14, 15, 16, 20, 21, 22, 23, 24, 25, 26, 27, 28, 30, 32, 34, 35, 36, 37, 38, 39, 40, 41, 42, 43, 44, 45, 47, 48, 49, 50, 51]
def lamsL : List Str := ((fnsL.zip topsL).filter fun p => cellB (defScope (topS p.2))).map (·.1)
def TT : Tb0 := { fns := fnsL, cs := csL, cls := clsL, sub := [[true, false, false], [true, true, false], [true, false, true]], tds := [("_law_error", [(.str ""), (.str "walk"), (.str "deed")], (.str "none"))], lams := lamsL, ss := ssL }
def ttopsL : List Nat := [46]
abbrev lawS : Stmt := topS 52
def fn : List He.DefD := mkFn topS TT.fns topsL ++ (mkFn topS (TT.tds.map (·.1)) ttopsL ++ [mkD "law" lawS])
def fa : List He.Fa := mkFa TT.fns (TT.tds.map (·.1)) TT.cls TT.cs TT.ss
def tf : List He.Defn := TT.lams.map fun x => (x, none)
abbrev RR : PySem.W.OpenRow := PySem.W.OpenLaw.row PySem.Challenge.rw_walkstrides_k08_whole_shortening_deeds
abbrev hk : PySem.W.Hook := He.hookX 4 fa fn [] tf (exB TT)
def ob (s : PySem.W.SharedT) : He.AlX := He.obsX 4 fa fn [] tf (exB TT) (HandSHeadRun.getT s)
theorem ob_eq (s : PySem.W.SharedT) : ob s = hk.obs s.abs := He.obsX_eq (HandSHeadRun.getT_eq s)
def nm0 : List Str := ["StrideError", "InvalidWalk", "InvalidDeed", "is_integer", "is_number", "is_tuple_of", "MOST_PAIRS", "MOST_PLACES", "number_in", "sizes_in", "fits_shape", "fits_pairs", "fits_walk", "need_walk", "JOIN", "STRIKE", "deeds_in", "pairs_by", "fits_deed", "is_plain_in", "short_deeds", "is_short_deed", "walk_by_deed", "is_short", "is_plain", "list_in", "walk_list", "_law_cup", "_law_roll", "_law_some"]
def nm1 : List Str := ["_law_sort", "_law_like", "_law_number", "_law_sizes", "_law_step", "_law_pairs", "_law_walk", "_law_digits", "_law_list", "_law_error", "_law_deeds", "_law_by", "_law_right", "_law_errors_right", "_law_written_right"]
def loose : List Str := nm0 ++ nm1
theorem okAll_ : okAll TT topS TT.fns defs topsL = true := by decide +kernel
theorem okTds_ : okTds TT topS TT.tds ttopsL = true := by decide +kernel
theorem okLaw_ : okL TT lw lawS = true := by decide +kernel
theorem run (w : World) : HandSHeadRun.RunEq RR (PySem.W.view RR.prog [52]) hk ob 40000 loose w := by
  intro os
  kernel_rfl
theorem facts {w : World} {K : PySem.W.Frag} {h : Heap} {mg : Str → Option Value} {f : Addr} (X : K.In h) (G : h.Ns mainGlobals mg) (hfa : mg ("law" : Str) = some (.ref f)) (c : He.SaysX fa fn [] tf (exB TT) w h K) : LamX.LawAtS PySem.Challenge.rw_walkstrides_k08_whole_shortening_deeds w K CX0 (3 * lawN + 1) 63 "script" mg f h :=
  facts_of (T := TT) (top := topS) (tops := topsL) (ttops := ttopsL) (lawS := lawS) (defs := defs) X G hfa c okAll_ okTds_ okLaw_ law_true (by decide)

end Mn

open PySem PySem.W PySem.Calls PyProof.Rows
theorem PySem.Challenge.cw_walkstrides_k08_whole_shortening_deeds_holds : PySem.Challenge.rw_walkstrides_k08_whole_shortening_deeds.Holds := by
  w_on; o_law
  refine HandSHeadRun.head_any (r := OpenLaw.row PySem.Challenge.rw_walkstrides_k08_whole_shortening_deeds) (q := view (OpenLaw.row PySem.Challenge.rw_walkstrides_k08_whole_shortening_deeds).prog [52]) (H := Mn.hk) (ob := Mn.ob) (M := 40000) (loose := Mn.loose) (d := HandSHeadRun.topDef (OpenLaw.row PySem.Challenge.rw_walkstrides_k08_whole_shortening_deeds).prog 52) (kwd := []) Mn.ob_eq
    (by kernel_rfl) (fun s => by kernel_rfl) Mn.run (by kernel_rfl) (by kernel_rfl) (by kernel_rfl) (by rfl) (by first | assumption | decide +kernel) (by decide +kernel) ⟨rfl, rfl, rfl, rfl, rfl, by decide +kernel⟩ ?hw ?hc
  case hw => w_witness2
  case hc =>
    refine LamX.walk_ofTsE (l := PySem.Challenge.rw_walkstrides_k08_whole_shortening_deeds) (n := 63) (k := 3 * Mn.lawN + 1) (x := "script") (CX := fun _ => L2.CX0) rfl (by decide) (by kernel_rfl) ⟨rfl, by decide, by decide⟩ ?F (fun _ _ _ _ _ z => z)
    intro w mg fa h Y G hmg0
    obtain ⟨K, KX, c⟩ := Y
    have hmg : mg ("law" : PySem.Str) = some (.ref fa) := by
      have e : (HandSHeadRun.topDef (OpenLaw.row PySem.Challenge.rw_walkstrides_k08_whole_shortening_deeds).prog 52).name = ("law" : PySem.Str) := by kernel_rfl
      rw [← e]
      exact hmg0
    exact ⟨K, KX, Mn.facts KX G hmg c⟩

