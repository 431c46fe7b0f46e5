import PyProof.Rows.All
import Wide.All
import OpenK.AllK
import Wide.FinOn
import HandS.Base
import HandS.Call
import HandS.List
import KE.SortData
import HandS.Comp
import HandS.Words
import HandS.WordsList
import HandS.Wide
import HandS.Style
import HandS.TupAny
import HandS.Walk
import HandS.IsInst
import HandS.SortInts
import HandS.RaiseMore
import HandS.Remove
import PyProof.ReprRoads
import HandS.SetFor
import KE.KTupSum
import HandS.Zip
import KE.GoesEnum
import KE.KDictZip
import HandS.Dict
import HandS.Ends
import HandS.Defaults
import HandS.HeadEnd
import HandS.Conv
import KE.KStateDown
import HandS.More
import HandS.WordsExc
import HandS.Head0
import HandS.Head1
import HandS.Head2
import HandS.HeadHook1
import HandS.HeadHook2
import PySem.Challenge.RW_betsalong_k13_whole_trees_cut_and_parts
section
set_option Elab.async false
set_option linter.all false
set_option maxRecDepth 100000
set_option autoImplicit false
/-! PVa: a small core language of data, and its evaluator -/
namespace PV
open PySem

abbrev D := PyData

/-- what a slot or a result holds: data that nobody changes; an own list; a list by reference -/
inductive W where
  | d (x : D) | o (xs : List D) | r (xs : List D) | t (xss : List (List D))
def W.data : W → D
  | .d x => x
  | .o xs => .list xs
  | .r xs => .list xs
  | .t xss => .tuple (xss.map .list)
/-- own lists in a told tuple become data -/
def W.frz : W → W
  | .t xss => .d (.tuple (xss.map .list))
  | w => w
def W.live : W → Bool
  | .d _ => false
  | .t _ => false
  | _ => true
abbrev DE := List (Option W)

inductive BOp where
  | add | sub | mul | fdiv | mod | pow
inductive COp where
  | eq | ne | lt | le | gt | ge | isin | notin | is_ | isnot
inductive Ty where
  | int | bool | list | tuple | str
inductive Bi where
  | len | abs | max2 | min2 | maxl | minl | int | divmod | list | tuple | sorted | sum | sum2 | all | any | repr | rev | lset | dzip
inductive Me where
  | index | count

mutual
inductive CE where
  | var (i : Nat)
  | cst (d : D)
  | tup (es : CEs) | lst (es : CEs)
  | neg (a : CE) | not (a : CE)
  | bin (op : BOp) (a b : CE)
  | cmp (op : COp) (a b : CE)
  | chn (op op' : COp) (a b c : CE)
  | and (a b : CE) | or (a b : CE)
  | ite (c a b : CE)
  | idx (a i : CE)
  | slc (a : CE) (lo hi : CO)
  | bi1 (f : Bi) (a : CE)
  | bi2 (f : Bi) (a b : CE)
  | rpt (a b : CE)
  | sm2 (a b : CE)
  | isi (ts : List Ty) (a : CE)
  | lrg (a b : CE)
  | call (f : Nat) (es : CEs) (perm : List Nat)
  | callr (f : Nat) (p : CE) (es : CEs)
  | mth (m : Me) (a : CE) (b : CE)
  | dct0
  | comp (own : List Nat) (tg : CT) (it : CI) (cond : CO) (elt : CE)
inductive CEs where
  | nil | cons (e : CE) (r : CEs)
inductive CO where
  | no | yes (e : CE)
inductive CI where
  | seq (e : CE) | own (i : Nat) | rng (a b : CE) | rngd (a b : CE) | enum (e : CE) | zip (a b : CE)
inductive CT where
  | v (i : Nat) | t (ts : CTs)
inductive CTs where
  | nil | cons (a : CT) (r : CTs)
end
inductive Fl where
  | nx | bk | ct | rt (w : W)
mutual
inductive CS where
  | set (i : Nat) (e : CE)
  | par (is : List Nat) (es : CEs)
  | unp (tg : CT) (e : CE)
  | dvm (i : Nat) (k : CE) (j : Nat) (e : CE)
  | six (i : Nat) (k e : CE)
  | app (i : Nat) (e : CE)
  | ext (i : Nat) (e : CE)
  | pop (i : Nat) | rem (i : Nat) (e : CE)
  | apt (a e : CE)
  | ex (e : CE)
  | ifs (c : CE) (a b : CSs)
  | fr (tg : CT) (it : CI) (b : CSs)
  | wh (c : CE) (b : CSs)
  | ret (e : CE)
  | retN
  | retT (es : CEs)
  | retC (f : Nat) (es : CEs) (perm : List Nat)
  | retZ (own : List Nat) (tg : CT) (a : CE) (i : Nat) (cond : CO) (elt : CE)
  | tap1 (f : Nat) (es : CEs) (perm : List Nat) (k : Nat) (e : CE)
  | tap2 (i : Nat) (f : Nat) (es : CEs) (perm : List Nat)
  | pass | brk | cnt | stuck
inductive CSs where
  | nil | cons (s : CS) (r : CSs)
end

/-! ### environments -/
def lim : Nat := 1000000
/-- the value of a slot, looked at -/
def peek (E : DE) (i : Nat) : Option D := match E[i]? with
  | some (some w) => some w.data
  | _ => none
/-- the value of a slot, taken: an own list is frozen -/
def take1 (E : DE) (i : Nat) : Option (W × DE) := match E[i]? with
  | some (some (.d x)) => some (.d x, E)
  | some (some (.o xs)) => some (.d (.list xs), E.set i (some (.d (.list xs))))
  | _ => none
def put (E : DE) (i : Nat) (w : W) : Option DE := match E[i]? with
  | some (some (.r _)) => none
  | some _ => some (E.set i (some w))
  | none => none
/-- an own list's contents, and new contents -/
def getL (E : DE) (i : Nat) : Option (List D) := match E[i]? with
  | some (some (.o xs)) => some xs
  | some (some (.r xs)) => some xs
  | _ => none
def setL (E : DE) (i : Nat) (xs : List D) : DE := match E[i]? with
  | some (some (.o _)) => E.set i (some (.o xs))
  | some (some (.r _)) => E.set i (some (.r xs))
  | _ => E
def wipeE (E : DE) : List Nat → DE
  | [] => E
  | v :: vs => (wipeE E vs).set v none
/-- the slots vs as in E0 -/
def backE (E E0 : DE) : List Nat → DE
  | [] => E
  | v :: vs => (backE E E0 vs).set v (E0[v]?.getD none)

/-! ### operations on data -/
def isFlat : D → Bool
  | .none | .bool _ | .int _ | .str _ => true
  | _ => false
def ixOf (n : Nat) (i : Int) : Option Nat := L2.ixN n i
def dAt (xs : List D) (i : Int) : Option D := (ixOf xs.length i).bind fun j => xs[j]?
def mkL (xs : List D) : Option W := if xs.length ≤ lim then some (.o xs) else none
def mkT (xs : List D) : Option W := if xs.length ≤ lim then some (.d (.tuple xs)) else none
def binD : BOp → D → D → Option W
  | .add, .int i, .int j => some (.d (.int (i + j)))
  | .add, .list xs, .list ys => mkL (xs ++ ys)
  | .add, .tuple xs, .tuple ys => mkT (xs ++ ys)
  | .sub, .int i, .int j => some (.d (.int (i - j)))
  | .mul, .int i, .int j => if i.natAbs.log2 + j.natAbs.log2 < 1000000 then some (.d (.int (i * j))) else none
  | .fdiv, .int i, .int j => if 0 < j ∧ j.natAbs.log2 < 9000 then some (.d (.int (i / j))) else none
  | .mod, .int i, .int j => if 0 < j then some (.d (.int (i % j))) else none
  | .pow, .int i, .int j => if 0 ≤ j ∧ j ≤ 1000000 ∧ i.natAbs < 2 ^ 64 then some (.d (.int (i ^ j.toNat))) else none
  | _, _, _ => none
def eqD : D → D → Option Bool
  | .str x, .str y => some (decide (x = y))
  | a, b => if SeqAt.shaped a && SeqAt.shaped b then some (PyData.eqv a b) else none
/-- x in a list, a tuple -/
def inD (x : D) (ys : List D) : Option Bool := if isFlat x && ys.all isFlat then some (ys.any fun y => PyData.eqv y x) else none
def isD : D → D → Option Bool
  | .bool a, .bool b => some (decide (a = b))
  | .none, .none => some true
  | .bool _, .none | .int _, .none | .str _, .none | .list _, .none | .tuple _, .none => some false
  | _, _ => none
def cmpD : COp → D → D → Option Bool
  | .eq, a, b => eqD a b
  | .ne, a, b => (eqD a b).map (!·)
  | .lt, .int i, .int j => some (decide (i < j))
  | .le, .int i, .int j => some (decide (i ≤ j))
  | .gt, .int i, .int j => some (decide (j < i))
  | .ge, .int i, .int j => some (decide (j ≤ i))
  | .isin, x, .list ys => inD x ys
  | .isin, x, .tuple ys => inD x ys
  | .notin, x, .list ys => (inD x ys).map (!·)
  | .notin, x, .tuple ys => (inD x ys).map (!·)
  | .is_, a, b => isD a b
  | .isnot, a, b => (isD a b).map (!·)
  | _, _, _ => none
def tyIs : Ty → D → Bool
  | .int, .int _ => true
  | .int, .bool _ => true
  | .bool, .bool _ => true
  | .list, .list _ => true
  | .tuple, .tuple _ => true
  | .str, .str _ => true
  | _, _ => false
def findK : List (D × D) → Int → Option D
  | [], _ => none
  | (.int j, d) :: r, i => if j = i then some d else findK r i
  | _ :: r, i => findK r i
def idxD : D → D → Option D
  | .list xs, .int i => dAt xs i
  | .tuple xs, .int i => dAt xs i
  | .dict es, .int i => findK es i
  | _, _ => none
/-- xs[lo:hi] -/
def cutD (xs : List D) (lo hi : Option Int) : List D := (xs.drop (HT.sIx xs.length 0 lo)).take (HT.sIx xs.length xs.length hi - HT.sIx xs.length 0 lo)
def slcD : D → Option Int → Option Int → Option W
  | .list xs, lo, hi => some (.o (cutD xs lo hi))
  | .tuple xs, lo, hi => some (.d (.tuple (cutD xs lo hi)))
  | _, _, _ => none
def intsD : List D → Option (List Int)
  | [] => some []
  | .int i :: r => (intsD r).map (i :: ·)
  | _ => none
def boolsD : List D → Option (List Bool)
  | [] => some []
  | .bool i :: r => (boolsD r).map (i :: ·)
  | _ => none
def listsD : List D → Option (List (List D))
  | [] => some []
  | .list xs :: r => (listsD r).map (xs :: ·)
  | _ => none
mutual
def rsz : D → Nat
  | .none => 4
  | .bool _ => 5
  | .int _ => 1921
  | .str x => (PyData.shown (.str x)).length
  | .list xs => 3 + rszAll xs
  | .tuple xs => 3 + rszAll xs
  | .dict _ => 20000000
def rszAll : List D → Nat
  | [] => 0
  | x :: r => rsz x + 2 + rszAll r
end
def isort (ns : List Int) : List Int := ns.mergeSort (fun a b => decide (a ≤ b))
def maxI : List Int → Option Int
  | [] => none
  | [x] => some x
  | x :: r => (maxI r).map (max x)
def minI : List Int → Option Int
  | [] => none
  | [x] => some x
  | x :: r => (minI r).map (min x)
/-- tuples, each with an item, that can be compared place by place; or tuples with none -/
def tupsOk (xs : List D) : Bool :=
  xs.all (fun d => match d with
    | .tuple [] => true
    | _ => false) ||
  (xs.all (fun d => match d with
    | .tuple (_ :: _) => true
    | _ => false) && xs.all (fun d => xs.all fun d' => PySem.W.alike d d') && xs.all fun d => d.canLay0 && decide (d.depth ≤ 60))
def sortD (xs : List D) : List D := xs.mergeSort (PySem.W.dataLe false id)
/-- how many numbers are told apart -/
def distN (ns : List Int) : Nat := (PyProof.Rows.firstMet (fun i => ns.getD i 0) ns.length).length
def bi1D : Bi → D → Option W
  | .len, .list xs => some (.d (.int xs.length))
  | .len, .tuple xs => some (.d (.int xs.length))
  | .abs, .int i => some (.d (.int (if i < 0 then -i else i)))
  | .maxl, .list xs => (intsD xs).bind fun ns => (maxI ns).map fun m => .d (.int m)
  | .minl, .list xs => (intsD xs).bind fun ns => (minI ns).map fun m => .d (.int m)
  | .int, .int i => some (.d (.int i))
  | .int, .bool b => some (.d (.int (if b then 1 else 0)))
  | .list, .list xs => some (.o xs)
  | .list, .tuple xs => some (.o xs)
  | .tuple, .list xs => some (.d (.tuple xs))
  | .tuple, .tuple xs => some (.d (.tuple xs))
  | .sorted, .list xs => match intsD xs with
    | some ns => if ns.length ≤ lim then some (.o ((isort ns).map .int)) else none
    | none => if tupsOk xs && decide (xs.length ≤ lim) then some (.o (sortD xs)) else none
  | .sum, .list xs => (intsD xs).map fun ns => .d (.int ns.sum)
  | .sum, .tuple xs => (intsD xs).map fun ns => .d (.int ns.sum)
  | .all, .list xs => (boolsD xs).map fun bs => .d (.bool (bs.all id))
  | .any, .list xs => (boolsD xs).map fun bs => .d (.bool (bs.any id))
  | .rev, .list xs => some (.o xs.reverse)
  | .lset, .list xs => (intsD xs).bind fun ns => if ns.length ≤ 3000 then some (.d (.int (distN ns))) else none
  | .repr, .none => some (.d (.str (PyData.shown .none)))
  | .repr, .bool b => some (.d (.str (PyData.shown (.bool b))))
  | .repr, .int i => if i.natAbs.log2 < 1920 then some (.d (.str (PyData.shown (.int i)))) else none
  | .repr, .str x => if (PyData.shown (.str x)).length ≤ 1000000 then some (.d (.str (PyData.shown (.str x)))) else none
  | .repr, .dict [] => some (.d (.str (PyData.shown (.dict []))))
  | .repr, .list xs => if SeqAt.shaped (.list xs) && (PyData.list xs).showable && decide (rsz (.list xs) ≤ 16000000) then some (.d (.str (PyData.list xs).shown)) else none
  | .repr, .tuple xs => if SeqAt.shaped (.tuple xs) && (PyData.tuple xs).showable && decide (rsz (.tuple xs) ≤ 16000000) then some (.d (.str (PyData.tuple xs).shown)) else none
  | _, _ => none
def seqD : D → Option (List D)
  | .list xs => some xs
  | .tuple xs => some xs
  | _ => none
/-- dict(zip(xs, ys)), the keys numbers, each once -/
def dzipD (xs ys : List D) : Option W := (intsD xs).bind fun ns => if ns.Nodup ∧ ns.length ≤ lim then some (.d (.dict (List.zipWith (fun n y => (PyData.int n, y)) ns ys))) else none
def bi2D : Bi → D → D → Option W
  | .max2, .int i, .int j => some (.d (.int (if j > i then j else i)))
  | .min2, .int i, .int j => some (.d (.int (if j < i then j else i)))
  | .divmod, .int i, .int j => if 0 < j ∧ j < 1073741824 then some (.d (.tuple [.int (i / j), .int (i % j)])) else none
  | .sum2, .list xs, .list ys => (listsD xs).bind fun ls => if ys.length + (ls.map List.length).sum ≤ lim then some (.o (ys ++ ls.flatten)) else none
  | .dzip, x, y => (seqD x).bind fun xs => (seqD y).bind fun ys => dzipD xs ys
  | _, _, _ => none
/-- the place of the first that equals -/
def mthD : Me → D → D → Option D
  | .index, .list xs, x => if isFlat x && xs.all isFlat then (xs.findIdx? fun y => PyData.eqv y x).map fun (k : Nat) => .int k else none
  | _, _, _ => none
def rngD (a b : Int) : List D := (List.range (b - a).toNat).map fun (k : Nat) => .int (a + k)
/-- a, a - 1, .. down to b, without b -/
def rngdD (a b : Int) : List D := (List.range (a - b).toNat).map fun (k : Nat) => .int (a + (k : Nat) * (-1))
def enumD (xs : List D) : List D := xs.mapIdx fun k x => .tuple [.int k, x]
def zipD (xs ys : List D) : List D := List.zipWith (fun x y => .tuple [x, y]) xs ys
/-- is it a list -/
def lstD : D → Option (List D)
  | .list xs => some xs
  | _ => none
/-- two, each a list or a tuple -/
def zip2 (x y : D) : Option (List D × List D) := (seqD x).bind fun xs => (seqD y).map fun ys => (xs, ys)
mutual
def slotsT : CT → List Nat
  | .v i => [i]
  | .t ts => slotsTs ts
def slotsTs : CTs → List Nat
  | .nil => []
  | .cons a r => slotsT a ++ slotsTs r
end
mutual
def bindT : CT → D → DE → Option DE
  | .v i, x, E => put E i (.d x)
  | .t ts, .tuple xs, E => bindTs ts xs E
  | .t _, _, _ => none
def bindTs : CTs → List D → DE → Option DE
  | .nil, [], E => some E
  | .cons a r, x :: xs, E => (bindT a x E).bind (bindTs r xs)
  | _, _, _ => none
end
def bindWs : List Nat → List W → DE → Option DE
  | [], [], E => some E
  | i :: is, w :: ws, E => (put E i w).bind (bindWs is ws)
  | _, _, _ => none

/-! ### the evaluator -/
abbrev Fn := Nat → Option (List D) → List D → Option (W × Option (List D))
def permD (ds : List D) : List Nat → Option (List D)
  | [] => some []
  | k :: r => match ds[k]? with
    | some d => (permD ds r).map (d :: ·)
    | none => none
/-- an operand: a name is looked at, and again where it is used -/
def opd (c : CE) (r : Option (W × DE)) (E : DE) : Option (D × DE) := match c with
  | .var i => (peek E i).map fun x => (x, E)
  | _ => r.map fun p => (p.1.data, p.2)
def rep (c : CE) (x : D) (E : DE) : Option D := match c with
  | .var i => peek E i
  | _ => some x
def asB : W → Option Bool
  | .d (.bool b) => some b
  | _ => none
def asI : W → Option Int
  | .d (.int b) => some b
  | _ => none
def lcGo (bind : D → DE → Option DE) (cond : DE → Option (Bool × DE)) (elt : DE → Option (W × DE)) (vs : List Nat) : List D → DE → Option (List D × DE)
  | [], E => some ([], E)
  | x :: r, E => (bind x E).bind fun E1 => (cond E1).bind fun (b, E2) =>
    if b then (elt E2).bind fun (w, E3) => (lcGo bind cond elt vs r (wipeE E3 vs)).map fun (ys, E4) => (w.data :: ys, E4)
    else lcGo bind cond elt vs r (wipeE E2 vs)
/-- over an own list, as it stands at each turn -/
def lcOwn (i : Nat) (bind : D → DE → Option DE) (cond : DE → Option (Bool × DE)) (elt : DE → Option (W × DE)) (vs : List Nat) : Nat → Nat → DE → Option (List D × DE)
  | 0, _, _ => none
  | n + 1, k, E => (getL E i).bind fun xs => match xs[k]? with
    | none => some ([], E)
    | some x => (bind x E).bind fun E1 => (cond E1).bind fun (b, E2) =>
      if b then (elt E2).bind fun (w, E3) => (lcOwn i bind cond elt vs n (k + 1) (wipeE E3 vs)).map fun (ys, E4) => (w.data :: ys, E4)
      else lcOwn i bind cond elt vs n (k + 1) (wipeE E2 vs)
mutual
def ev (F : Fn) : CE → DE → Option (W × DE)
  | .var i, E => take1 E i
  | .cst d, E => some (.d d, E)
  | .dct0, E => some (.d (.dict []), E)
  | .tup es, E => (evs F es E).bind fun (ds, E') => (mkT ds).map (·, E')
  | .lst es, E => (evs F es E).bind fun (ds, E') => (mkL ds).map (·, E')
  | .neg a, E => (ev F a E).bind fun (w, E') => (asI w).map fun i => (.d (.int (-i)), E')
  | .not a, E => (ev F a E).bind fun (w, E') => (asB w).map fun b => (.d (.bool (!b)), E')
  | .bin op a b, E => (opd a (ev F a E) E).bind fun (x, E1) => (opd b (ev F b E1) E1).bind fun (y, E2) => (rep a x E2).bind fun x => (binD op x y).map (·, E2)
  | .cmp op a b, E => (opd a (ev F a E) E).bind fun (x, E1) => (opd b (ev F b E1) E1).bind fun (y, E2) => (rep a x E2).bind fun x => (cmpD op x y).map fun k => (.d (.bool k), E2)
  | .chn op op' a b c, E => (opd a (ev F a E) E).bind fun (x, E1) => (opd b (ev F b E1) E1).bind fun (y, E2) => (rep a x E2).bind fun x => (cmpD op x y).bind fun k =>
      if k then (opd c (ev F c E2) E2).bind fun (z, E3) => (rep b y E3).bind fun y => (cmpD op' y z).map fun k => (.d (.bool k), E3) else some (.d (.bool false), E2)
  | .and a b, E => (ev F a E).bind fun (w, E1) => (asB w).bind fun k => if k then ev F b E1 else some (.d (.bool false), E1)
  | .or a b, E => (ev F a E).bind fun (w, E1) => (asB w).bind fun k => if k then some (.d (.bool true), E1) else ev F b E1
  | .ite c a b, E => (ev F c E).bind fun (w, E1) => (asB w).bind fun k => if k then ev F a E1 else ev F b E1
  | .idx a i, E => (opd a (ev F a E) E).bind fun (x, E1) => (opd i (ev F i E1) E1).bind fun (y, E2) => (rep a x E2).bind fun x => (idxD x y).map fun z => (.d z, E2)
  | .slc a lo hi, E => (opd a (ev F a E) E).bind fun (x, E1) => (evo F lo E1).bind fun (l, E2) => (evo F hi E2).bind fun (h, E3) => (rep a x E3).bind fun x => (slcD x l h).map (·, E3)
  | .bi1 f a, E => (opd a (ev F a E) E).bind fun (x, E1) => (bi1D f x).map (·, E1)
  | .bi2 f a b, E => (ev F a E).bind fun (v, E1) => (ev F b E1).bind fun (w, E2) => (bi2D f v.data w.data).map (·, E2)
  | .rpt a b, E => (ev F a E).bind fun (w, E1) => (ev F b E1).bind fun (v, E2) => match w, v with
      | .o xs, .d (.int k) => if k ≤ 1000000 ∧ xs.length * k.toNat ≤ lim ∧ -1000000 ≤ k then some (.o (List.replicate k.toNat xs).flatten, E2) else none
      | _, _ => none
  | .sm2 a b, E => (ev F a E).bind fun (v, E1) => (ev F b E1).bind fun (w, E2) => match v.data, w with
      | .list xs, .o ys => (listsD xs).bind fun ls => if ys.length + (ls.map List.length).sum ≤ lim then some (.o (ys ++ ls.flatten), E2) else none
      | _, _ => none
  | .isi ts a, E => (opd a (ev F a E) E).map fun (x, E1) => (.d (.bool (ts.any (tyIs · x))), E1)
  | .lrg a b, E => (ev F a E).bind fun (v, E1) => (ev F b E1).bind fun (w, E2) => (asI v).bind fun i => (asI w).bind fun j => if -1000000 ≤ i ∧ j ≤ 1000000 ∧ i ≤ 1000000 ∧ -1000000 ≤ j then (mkL (rngD i j)).map (·, E2) else none
  | .call f es perm, E => (evs F es E).bind fun (ds, E') => (permD ds perm).bind fun ds' => (F f none ds').bind fun r => match r.2 with
      | none => some (r.1.frz, E')
      | some _ => none
  | .callr f p es, E => (match p with
      | .var i => (getL E i).bind fun _ => (evs F es E).bind fun (ds, E') => (getL E' i).bind fun xs => (F f (some xs) ds).bind fun r => match r.2 with
          | some xs' => some (r.1.frz, setL E' i xs')
          | none => none
      | p => (ev F p E).bind fun (w, E1) => match w with
          | .o xs => (evs F es E1).bind fun (ds, E2) => (F f (some xs) ds).bind fun r => match r.2 with
              | some _ => some (r.1.frz, E2)
              | none => none
          | _ => none)
  | .mth m a b, E => (opd a (ev F a E) E).bind fun (x, E1) => (lstD x).bind fun _ => (opd b (ev F b E1) E1).bind fun (y, E2) => (rep a x E2).bind fun x => (mthD m x y).map fun z => (.d z, E2)
  | .comp own tg it cond elt, E => (match it with
      | .own i => (match E[i]? with
          | some (some (.d x)) => (seqD x).bind fun xs => if xs.length ≤ lim then (lcGo (bindT tg) (evc F cond) (ev F elt) own xs (wipeE E own)).map fun (ys, E4) => (.o ys, backE E4 E own) else none
          | _ => (lcOwn i (bindT tg) (evc F cond) (ev F elt) own lim 0 (wipeE E own)).map fun (ys, E4) => (.o ys, backE E4 E own))
      | it => (evi F it E).bind fun (xs, E1) => (lcGo (bindT tg) (evc F cond) (ev F elt) own xs (wipeE E1 own)).map fun (ys, E4) => (.o ys, backE E4 E1 own))
def evs (F : Fn) : CEs → DE → Option (List D × DE)
  | .nil, E => some ([], E)
  | .cons a r, E => (ev F a E).bind fun (w, E1) => (evs F r E1).map fun (ds, E2) => (w.data :: ds, E2)
def evo (F : Fn) : CO → DE → Option (Option Int × DE)
  | .no, E => some (none, E)
  | .yes a, E => (ev F a E).bind fun (w, E1) => (asI w).map fun i => (some i, E1)
/-- a comprehension's test -/
def evc (F : Fn) : CO → DE → Option (Bool × DE)
  | .no, E => some (true, E)
  | .yes a, E => (ev F a E).bind fun (w, E1) => (asB w).map fun i => (i, E1)
/-- what a loop walks -/
def evi (F : Fn) : CI → DE → Option (List D × DE)
  | .seq a, E => (ev F a E).bind fun (w, E1) => (seqD w.data).bind fun xs => if xs.length ≤ lim then some (xs, E1) else none
  | .own _, _ => none
  | .rng a b, E => (ev F a E).bind fun (v, E1) => (ev F b E1).bind fun (w, E2) => (asI v).bind fun i => (asI w).bind fun j => if -1000000 ≤ i ∧ j ≤ 1000000 ∧ i ≤ 1000000 ∧ -1000000 ≤ j then some (rngD i j, E2) else none
  | .rngd a b, E => (ev F a E).bind fun (v, E1) => (ev F b E1).bind fun (w, E2) => (asI v).bind fun i => (asI w).bind fun j => if -1000000 ≤ i ∧ j ≤ 1000000 ∧ i ≤ 1000000 ∧ -1000000 ≤ j then some (rngdD i j, E2) else none
  | .enum a, E => (ev F a E).bind fun (w, E1) => (seqD w.data).bind fun xs => if xs.length ≤ lim then some (enumD xs, E1) else none
  | .zip a b, E => (ev F a E).bind fun (v, E1) => (ev F b E1).bind fun (w, E2) => (zip2 v.data w.data).bind fun p => if p.1.length ≤ lim ∧ p.2.length ≤ lim then some (zipD p.1 p.2, E2) else none
end
/-- the values of a row of targets, each as it is -/
def evws (F : Fn) : CEs → DE → Option (List W × DE)
  | .nil, E => some ([], E)
  | .cons a r, E => (ev F a E).bind fun (w, E1) => (evws F r E1).map fun (ws, E2) => (w :: ws, E2)

/-- over pairs out of xs and of an own list, as it stands at each turn -/
def lcZO (i : Nat) (xs : List D) (bind : D → DE → Option DE) (cond : DE → Option (Bool × DE)) (elt : DE → Option (W × DE)) (vs : List Nat) : Nat → Nat → DE → Option (List D × DE)
  | 0, _, _ => none
  | n + 1, k, E => (getL E i).bind fun ys => match xs[k]?, ys[k]? with
    | some x, some y => (bind (.tuple [x, y]) E).bind fun E1 => (cond E1).bind fun (b, E2) =>
      if b then (elt E2).bind fun (w, E3) => (lcZO i xs bind cond elt vs n (k + 1) (wipeE E3 vs)).map fun (ys, E4) => (w.data :: ys, E4)
      else lcZO i xs bind cond elt vs n (k + 1) (wipeE E2 vs)
    | _, _ => if k ≤ xs.length ∧ k ≤ ys.length then some ([], E) else none
/-- an expression whose value is an own list, always -/
def mkE : CE → Bool
  | .lst _ => true
  | .comp .. => true
  | .bi1 .list _ => true
  | _ => false
/-- are they all own lists -/
def ownable : CEs → DE → Bool
  | .nil, _ => true
  | .cons (.var i) r, E => (match E[i]? with
    | some (some (.o _)) => ownable r E
    | _ => false)
  | .cons e r, E => mkE e && ownable r E
/-- a call's answer as it is -/
def evcall (F : Fn) (f : Nat) (es : CEs) (perm : List Nat) (E : DE) : Option (W × DE) := (evs F es E).bind fun (ds, E') => (permD ds perm).bind fun ds' => (F f none ds').bind fun r => match r.2 with
  | none => some (r.1, E')
  | some _ => none
/-- one own list, handed out -/
def ev1T (F : Fn) (e : CE) (E : DE) : Option (List D × DE) := match e with
  | .var i => (match E[i]? with
    | some (some (.o xs)) => some (xs, E.set i none)
    | _ => none)
  | e => (ev F e E).bind fun (w, E1) => match w with
    | .o xs => some (xs, E1)
    | _ => none
/-- own lists, handed out -/
def evT (F : Fn) : CEs → DE → Option (List (List D) × DE)
  | .nil, E => some ([], E)
  | .cons e r, E => (ev1T F e E).bind fun (xs, E1) => (evT F r E1).map fun (xss, E2) => (xs :: xss, E2)

def frGo (bind : D → DE → Option DE) (body : DE → Option (Fl × DE)) : List D → DE → Option (Fl × DE)
  | [], E => some (.nx, E)
  | x :: r, E => (bind x E).bind fun E1 => (body E1).bind fun (fl, E2) => match fl with
    | .nx => frGo bind body r E2
    | .ct => frGo bind body r E2
    | .bk => some (.nx, E2)
    | .rt w => some (.rt w, E2)
def whGo (cond : DE → Option (Bool × DE)) (body : DE → Option (Fl × DE)) : Nat → DE → Option (Fl × DE)
  | 0, _ => none
  | n + 1, E => (cond E).bind fun (b, E1) => if b then (body E1).bind fun (fl, E2) => match fl with
      | .nx => whGo cond body n E2
      | .ct => whGo cond body n E2
      | .bk => some (.nx, E2)
      | .rt w => some (.rt w, E2)
    else some (.nx, E1)
def evb (F : Fn) (c : CE) (E : DE) : Option (Bool × DE) := (ev F c E).bind fun (w, E1) => (asB w).map (·, E1)
/-- a list without its first k -/
def remD (xs : List D) (k : Int) : Option (List D) := (intsD xs).bind fun ns => if ns.contains k then some ((ns.erase k).map .int) else none
mutual
def exec (F : Fn) : CS → DE → Option (Fl × DE)
  | .set i e, E => (ev F e E).bind fun (w, E1) => (put E1 i w).map (Fl.nx, ·)
  | .par is es, E => (evws F es E).bind fun (ws, E1) => (bindWs is ws E1).map (Fl.nx, ·)
  | .unp tg e, E => (ev F e E).bind fun (w, E1) => (bindT tg w.data E1).map (Fl.nx, ·)
  | .dvm i k j e, E => (ev F e E).bind fun (w, E1) => match w with
      | .d (.tuple [x, y]) => (getL E1 i).bind fun xs => (ev F k E1).bind fun (kw, E2) => (asI kw).bind fun k => match getL E2 i with
          | some xs => (ixOf xs.length k).bind fun n => (put (setL E2 i (xs.set n x)) j (.d y)).map (Fl.nx, ·)
          | none => none
      | _ => none
  | .six i k e, E => (ev F e E).bind fun (w, E1) => (getL E1 i).bind fun _ => (ev F k E1).bind fun (kw, E2) => (asI kw).bind fun k => (getL E2 i).bind fun xs => (ixOf xs.length k).map fun n => (Fl.nx, setL E2 i (xs.set n w.data))
  | .app i e, E => (getL E i).bind fun _ => (ev F e E).bind fun (w, E1) => (getL E1 i).bind fun xs => if xs.length < lim then some (Fl.nx, setL E1 i (xs ++ [w.data])) else none
  | .ext i e, E => (getL E i).bind fun _ => (ev F e E).bind fun (w, E1) => (getL E1 i).bind fun xs => (match w with | .o ys => some ys | _ => none).bind fun ys => if xs.length + ys.length ≤ lim then some (Fl.nx, setL E1 i (xs ++ ys)) else none
  | .apt a e, E => (ev F a E).bind fun (w, E1) => match w with
      | .o xs => (ev F e E1).bind fun (_, E2) => if xs.length < lim then some (Fl.nx, E2) else none
      | _ => none
  | .rem i e, E => (getL E i).bind fun _ => (ev F e E).bind fun (w, E1) => (asI w).bind fun k => (getL E1 i).bind fun xs => (remD xs k).map fun ys => (Fl.nx, setL E1 i ys)
  | .pop i, E => (getL E i).bind fun xs => if xs.isEmpty then none else some (Fl.nx, setL E i xs.dropLast)
  | .ex e, E => (ev F e E).map fun (_, E1) => (Fl.nx, E1)
  | .ifs c a b, E => (evb F c E).bind fun (k, E1) => if k then execs F a E1 else execs F b E1
  | .fr tg it b, E => (evi F it E).bind fun (xs, E1) => frGo (bindT tg) (execs F b) xs E1
  | .wh c b, E => whGo (evb F c) (execs F b) lim E
  | .ret e, E => (match e with
      | .var i => (match E[i]? with
          | some (some (.o xs)) => some (Fl.rt (.o xs), E.set i none)
          | _ => (ev F (.var i) E).map fun (w, E1) => (Fl.rt w, E1))
      | e => (ev F e E).map fun (w, E1) => (Fl.rt w, E1))
  | .retN, E => some (Fl.rt (.d .none), E)
  | .retT es, E => if ownable es E then (evT F es E).bind fun (xss, E1) => if xss.length ≤ lim then some (Fl.rt (.t xss), E1) else none else (ev F (.tup es) E).map fun (w, E1) => (Fl.rt w, E1)
  | .retZ own tg a i cond elt, E => (ev F a E).bind fun (w, E1) => (seqD w.data).bind fun xs => (lcZO i xs (bindT tg) (evc F cond) (ev F elt) own lim 0 (wipeE E1 own)).bind fun (ys, E4) => match (backE E4 E1 own)[i]? with
      | some (some (.o zs)) => some (Fl.rt (.t [ys, zs]), (backE E4 E1 own).set i none)
      | _ => none
  | .retC f es perm, E => (evcall F f es perm E).map fun (w, E1) => (Fl.rt w, E1)
  | .tap1 f es perm k d, E => (evcall F f es perm E).bind fun (w, E1) => match w with
      | .t xss => (ev F d E1).bind fun (_, E2) => match xss[k]? with
          | some xs => if xs.length < lim then some (Fl.nx, E2) else none
          | none => none
      | _ => none
  | .tap2 i f es perm, E => (evcall F f es perm E).bind fun (w, E1) => match w with
      | .t [xs, ys] => (put E1 i (.d .none)).bind fun E2 => if xs.length < lim ∧ ys.length < lim then some (Fl.nx, E2.set i none) else none
      | _ => none
  | .pass, E => some (Fl.nx, E)
  | .brk, E => some (Fl.bk, E)
  | .cnt, E => some (Fl.ct, E)
  | .stuck, _ => none
def execs (F : Fn) : CSs → DE → Option (Fl × DE)
  | .nil, E => some (Fl.nx, E)
  | .cons s r, E => (exec F s E).bind fun (fl, E1) => match fl with
    | .nx => execs F r E1
    | fl => some (fl, E1)
end

/-! ### programs -/
structure CDef where
  name : Str
  names : List Str
  params : List Str
  byref : Bool
  body : CSs
abbrev Core := List CDef
def argE (p : Option (List D)) (ds : List D) : DE := (match p with | some xs => [some (.r xs)] | none => []) ++ ds.map fun d => some (.d d)
def endP (p : Option (List D)) (E : DE) : Option (Option (List D)) := match p with
  | none => some none
  | some _ => match E[0]? with
    | some (some (W.r xs)) => some (some xs)
    | _ => none
def callF (C : Core) : Nat → Fn
  | 0, _, _, _ => none
  | n + 1, f, p, ds => match C[f]? with
    | none => none
    | some df => if p.isSome = df.byref ∧ (argE p ds).length = df.params.length ∧ df.params.length ≤ df.names.length then
        (execs (callF C n) df.body (argE p ds ++ List.replicate (df.names.length - df.params.length) none)).bind fun (fl, E) =>
          match fl with
          | .rt w => (endP p E).map fun q => (w, q)
          | .nx => (endP p E).map fun q => (.d .none, q)
          | _ => none
      else none
end PV
end

section
set_option Elab.async false
set_option linter.all false
set_option maxRecDepth 100000
set_option autoImplicit false
/-! PVb: from a text's terms to the core language -/
namespace PV
open PySem

structure Glob where
  N : List Str
  fns : List (Str × List Str × Bool)
  consts : List (Str × D)
  free : List Str

def visB (sc : Scope) (x : Str) : Bool := match sc.names.lookup x with
  | some .local => true
  | some .cell => true
  | some .free => true
  | _ => false
def locB (sc : Scope) (x : Str) : Bool := match sc.names.lookup x with
  | some .local => true
  | some .cell => true
  | _ => false
def lclB (sc : Scope) (x : Str) : Bool := match sc.names.lookup x with
  | some .local => true
  | _ => false
def gloB (sc : Scope) (x : Str) : Bool := match sc.names.lookup x with
  | some .globalImplicit => true
  | _ => false
def okName (x : Str) : Bool := !(x == ("__debug__" : Str)) && !(x == ("__classdict__" : Str)) && !decide (x = ("__name__" : Str))
def ixS : List Str → Str → Option Nat
  | [], _ => none
  | y :: r, x => if y = x then some 0 else (ixS r x).map (· + 1)
/-- a built-in's name -/
def bltB (G : Glob) (sc : Scope) (x y : Str) : Bool := decide (x = y) && gloB sc x && okName x && decide (x ∈ G.free)
def slotOf (G : Glob) (sc : Scope) (x : Str) : Option Nat := if visB sc x && okName x then ixS G.N x else none
def slotSt (G : Glob) (sc : Scope) (x : Str) : Option Nat := if locB sc x && okName x then ixS G.N x else none
def fnIx : List (Str × List Str × Bool) → Str → Option Nat
  | [], _ => none
  | y :: r, x => if y.1 = x then some 0 else (fnIx r x).map (· + 1)
def allS : List (Option CE) → Option CEs
  | [] => some .nil
  | some c :: r => (allS r).map (.cons c)
  | none :: _ => none
def bop : Operator → Option BOp
  | .Add => some .add
  | .Sub => some .sub
  | .Mult => some .mul
  | .FloorDiv => some .fdiv
  | .Mod => some .mod
  | .Pow => some .pow
  | _ => none
def cop : CmpOp → Option COp
  | .Eq => some .eq
  | .NotEq => some .ne
  | .Lt => some .lt
  | .LtE => some .le
  | .Gt => some .gt
  | .GtE => some .ge
  | .In => some .isin
  | .NotIn => some .notin
  | .Is => some .is_
  | .IsNot => some .isnot
def tyOf (G : Glob) (sc : Scope) : Expr → Option Ty
  | .Name x _ => if bltB G sc x "int" then some .int else if bltB G sc x "bool" then some .bool else if bltB G sc x "list" then some .list else if bltB G sc x "tuple" then some .tuple else if bltB G sc x "str" then some .str else none
  | _ => none
def isStar : Expr → Bool
  | .Starred .. => true
  | _ => false
mutual
/-- a test whose truth is told: no conditional expression in a test's place -/
def tOK : Expr → Bool
  | .UnaryOp op x _ => match op with
    | .Not => tOK x
    | _ => true
  | .BoolOp _ es _ => tOKs es
  | .IfExp .. => false
  | _ => true
def tOKs : List Expr → Bool
  | [] => true
  | e :: r => tOK e && tOKs r
end
/-- not super() -/
def plainO : Expr → Bool
  | .Call (.Name ..) [] [] _ => false
  | _ => true
def isDisp : Expr → Bool
  | .List .. => true
  | _ => false
/-- the built-in functions and types of some values -/
def bltTab : List (Str × Nat × Bi) :=
  [("len", 1, .len), ("abs", 1, .abs), ("max", 2, .max2), ("min", 2, .min2), ("max", 1, .maxl), ("min", 1, .minl), ("int", 1, .int), ("divmod", 2, .divmod), ("list", 1, .list), ("tuple", 1, .tuple),
   ("sorted", 1, .sorted), ("sum", 1, .sum), ("all", 1, .all), ("any", 1, .any), ("repr", 1, .repr)]
def bltOf (x : Str) (n : Nat) : List (Str × Nat × Bi) → Option Bi
  | [] => none
  | (y, m, b) :: r => if x = y ∧ n = m then some b else bltOf x n r
/-- where each parameter's value stands among the keywords -/
def permOf (ks : List Str) : List Str → Option (List Nat)
  | [] => some []
  | p :: r => match ixS ks p, permOf ks r with
    | some k, some q => some (k :: q)
    | _, _ => none
def kwNames : List Keyword → Option (List Str)
  | [] => some []
  | ⟨some n, _, _⟩ :: r => (kwNames r).map (n :: ·)
  | _ => none
def ids : Nat → List Nat := List.range
/-- two, the second a written list -/
def sum2B : List Expr → Bool
  | [_, .List ..] => true
  | _ => false
/-- range(..) alone -/
def lrgB (G : Glob) (sc : Scope) : List Expr → Bool
  | [.Call (.Name y _) b [] _] => bltB G sc y "range" && (b.length == 1 || b.length == 2) && !b.any isStar
  | _ => false
/-- set(..) alone -/
def lsetB (G : Glob) (sc : Scope) : List Expr → Bool
  | [.Call (.Name y _) b [] _] => bltB G sc y "set" && b.length == 1 && !b.any isStar
  | _ => false
/-- zip(.., ..) alone -/
def dzipB (G : Glob) (sc : Scope) : List Expr → Bool
  | [.Call (.Name y _) b [] _] => bltB G sc y "zip" && b.length == 2 && !b.any isStar
  | _ => false
/-- a call by the parts already turned: f the called one, args as; kws ks; o the receiver; as2 the arguments of the first argument -/
def mkCall (G : Glob) (sc : Scope) (pos : Pos) (f : Expr) (args : List Expr) (kws : List Keyword) (as ks : List (Option CE)) (o : Option CE) (as2 : List (Option CE)) : Option CE :=
  if args.any isStar then none else match f with
  | .Name x _ =>
    if gloB sc x && okName x then
      match fnIx G.fns x with
      | some fi => (match G.fns[fi]?, kws with
        | some (_, ps, false), [] => if args.length = ps.length then (allS as).map fun es => .call fi es (ids ps.length) else none
        | some (_, ps, true), [] => if args.length = ps.length then (match as with
            | some p :: r => (allS r).map fun es => .callr fi p es
            | _ => none) else none
        | some (_, ps, false), _ :: _ => if args.isEmpty then (kwNames kws).bind fun ns => if decide ns.Nodup && decide (ns.length = ps.length) && ns.all (fun n => decide (n ∈ ps)) then (permOf ns ps).bind fun q => (allS ks).map fun es => .call fi es q else none else none
        | _, _ => none)
      | none =>
        if kws.isEmpty && decide (x ∈ G.free) then
          if x = ("len" : Str) && lsetB G sc args then (match as2 with
            | [some a] => some (.bi1 .lset a)
            | _ => none)
          else if x = ("dict" : Str) && dzipB G sc args then (match as2 with
            | [some a, some b] => some (.bi2 .dzip a b)
            | _ => none)
          else if x = ("isinstance" : Str) then (match as, args with
            | [some a, _], [_, t] => (match t with
              | .Tuple ts _ _ => if ts.length ≤ 100 then (ts.mapM (tyOf G sc)).map fun l => .isi l a else none
              | t => (tyOf G sc t).map fun y => .isi [y] a)
            | _, _ => none)
          else if x = ("list" : Str) && lrgB G sc args then (match as2 with
              | [some b] => some (.lrg (.cst (.int 0)) b)
              | [some a, some b] => some (.lrg a b)
              | _ => none)
          else if x = ("sum" : Str) && sum2B args then (match as with
            | [some a, some b] => some (.sm2 a b)
            | _ => none)
          else (bltOf x args.length bltTab).bind fun b => match as with
            | [some a] => some (.bi1 b a)
            | [some a, some c] => some (.bi2 b a c)
            | _ => none
        else none
    else none
  | .Attribute oe m ap => if !kws.isEmpty || !plainO oe || !(ap.endLine == pos.line) then none else (match o, as with
    | some r, [some a] => if m = ("index" : Str) then some (.mth .index r a) else none
    | _, _ => none)
  | _ => none
/-- what a loop walks, by the parts already turned -/
def mkIter (G : Glob) (sc : Scope) (it : Expr) (whole : Option CE) (as : List (Option CE)) : Option CI := match it with
  | .Call (.Name x _) args [] _ =>
    if args.any isStar then none else
    if bltB G sc x "range" then (match as with
      | [some b] => some (.rng (.cst (.int 0)) b)
      | [some a, some b] => some (.rng a b)
      | [some a, some b, some (.neg (.cst (.int 1)))] => some (.rngd a b)
      | _ => none)
    else if bltB G sc x "enumerate" then (match as with
      | [some a] => some (.enum a)
      | _ => none)
    else if bltB G sc x "zip" then (match as with
      | [some a, some b] => some (.zip a b)
      | _ => none)
    else whole.map .seq
  | .Set .. => none
  | _ => whole.map .seq
mutual
def cT (G : Glob) (sc : Scope) : Expr → Option CT
  | .Name x _ => (slotSt G sc x).map .v
  | .Tuple ts _ _ => (cTs G sc ts).map .t
  | _ => none
def cTs (G : Glob) (sc : Scope) : List Expr → Option CTs
  | [] => some .nil
  | t :: r => match cT G sc t, cTs G sc r with
    | some a, some b => some (.cons a b)
    | _, _ => none
end
def isTup : CT → Bool
  | .t _ => true
  | _ => false
/-- walked pairs go to a row of targets -/
def fitT : CI → CT → Bool
  | .enum _, .v _ => false
  | .zip _ _, .v _ => false
  | _, _ => true
def ownOf (N : List Str) (scope : Scope) : List (Str × Nat) := scope.names.filterMap fun y => match y.2 with
  | .local => (ixS N y.1).map fun k => (y.1, k)
  | .cell => (ixS N y.1).map fun k => (y.1, k)
  | _ => none
def srcOf (G : Glob) (sc : Scope) (it : Expr) (whole : Option CE) (as : List (Option CE)) : Option CI := match it with
  | .Name x _ => (match slotOf G sc x with
    | some i => some (CI.own i)
    | none => mkIter G sc it whole as)
  | it => mkIter G sc it whole as
mutual
def cE (G : Glob) (sc : Scope) : Expr → Option CE
  | .Name x _ => match slotOf G sc x with
    | some i => some (.var i)
    | none => if gloB sc x && okName x then (G.consts.lookup x).map .cst else none
  | .Constant c _ _ => match c with
    | .int i => some (.cst (.int i))
    | .bool b => some (.cst (.bool b))
    | .none => some (.cst .none)
    | .str x => some (.cst (.str x))
    | _ => none
  | .Tuple es _ _ => if es.any isStar then none else (allS (cL G sc es)).map .tup
  | .List es _ => if es.any isStar then none else (allS (cL G sc es)).map .lst
  | .Dict ks vs _ => match ks, vs with
    | [], [] => some .dct0
    | _, _ => none
  | .UnaryOp op a _ => match op, cE G sc a with
    | .USub, some x => some (.neg x)
    | .Not, some x => some (.not x)
    | _, _ => none
  | .BinOp a op b _ => match bop op, cE G sc a, cE G sc b with
    | some o, some x, some y => some (match o, isDisp a with
      | .mul, true => .rpt x y
      | o, _ => .bin o x y)
    | _, _, _ => none
  | .Compare a ops bs _ => match ops, bs.any (fun b => match b with | .Set .. => true | _ => false), cE G sc a, cL G sc bs with
    | [o], false, some x, [some y] => (cop o).map fun p => .cmp p x y
    | [o, o2], false, some x, [some y, some z] => match cop o, cop o2 with
      | some p, some q => some (.chn p q x y z)
      | _, _ => none
    | _, _, _, _ => none
  | .BoolOp op vs _ => cB G sc op vs
  | .IfExp c a b _ => if tOK c then match cE G sc c, cE G sc a, cE G sc b with
    | some x, some y, some z => some (.ite x y z)
    | _, _, _ => none else none
  | .Subscript a s _ => match s with
    | .Slice lo hi none _ => match cE G sc a, cO G sc lo, cO G sc hi with
      | some x, some l, some h => some (.slc x l h)
      | _, _, _ => none
    | .Slice none none (some (.UnaryOp .USub (.Constant (.int 1) _ _) _)) _ => (cE G sc a).map fun x => .bi1 .rev x
    | .Slice .. => none
    | s => match cE G sc a, cE G sc s with
      | some x, some y => some (.idx x y)
      | _, _ => none
  | .Call f args kws pos => mkCall G sc pos f args kws (cL G sc args) (cK G sc kws) (cR G sc f) (cA1 G sc args)
  | .ListComp elt gens scope _ => match gens with
    | [⟨tg, it, ifs, a⟩] =>
      if a = 0 && L2.blkC G.N sc scope (ownOf G.N scope) then
        match cT G scope tg, srcOf G sc it (cE G sc it) (cA G sc it), cC G scope ifs, cE G scope elt with
        | some tg', some it', some cd, some e => if fitT it' tg' && (slotsT tg').all (fun k => decide (k ∈ (ownOf G.N scope).map (·.2))) && ifs.all tOK then some (.comp ((ownOf G.N scope).map (·.2)) tg' it' cd e) else none
        | _, _, _, _ => none
      else none
    | _ => none
  | _ => none
def cL (G : Glob) (sc : Scope) : List Expr → List (Option CE)
  | [] => []
  | e :: r => cE G sc e :: cL G sc r
def cO (G : Glob) (sc : Scope) : Option Expr → Option CO
  | none => some .no
  | some e => (cE G sc e).map .yes
def cC (G : Glob) (sc : Scope) : List Expr → Option CO
  | [] => some .no
  | [t] => (cE G sc t).map .yes
  | _ => none
/-- a call's arguments; the receiver of a method; the arguments of the first one -/
def cA (G : Glob) (sc : Scope) : Expr → List (Option CE)
  | .Call _ b _ _ => cL G sc b
  | _ => []
def cR (G : Glob) (sc : Scope) : Expr → Option CE
  | .Attribute o _ _ => cE G sc o
  | _ => none
def cA1 (G : Glob) (sc : Scope) : List Expr → List (Option CE)
  | [] => []
  | e :: _ => cA G sc e
def cK (G : Glob) (sc : Scope) : List Keyword → List (Option CE)
  | [] => []
  | ⟨_, e, _⟩ :: r => cE G sc e :: cK G sc r
def cB (G : Glob) (sc : Scope) : BoolOp → List Expr → Option CE
  | _, [] => none
  | op, [e] => cE G sc e
  | op, e :: f :: r => match cE G sc e, cB G sc op (f :: r) with
    | some x, some y => some (match op with
      | .And => .and x y
      | .Or => .or x y)
    | _, _ => none
end

/-! ### statements -/
def nmOf (sc : Scope) (line : Nat) : Expr → Option Str
  | .Name id pos => if lclB sc id && pos.line == line then some id else none
  | _ => none
/-- are the values of a, b = x, y stored at once: none: not told; some none: by a tuple; some (some names): at once -/
def swQ (sc : Scope) (ts vs : List Expr) : Option (Option (List Str)) :=
  if !(ts.length == 2 || ts.length == 3) || vs.length != ts.length then some none
  else if vs.any isStar then some none
  else
    let line := (ts.head?.map (·.pos.line)).getD 0
    let names := ts.filterMap (nmOf sc line)
    if names.length != ts.length || names.eraseDups.length != names.length then some none
    else if vs.all (foldedForSure 8) then some none
    else if vs.all (constantsAlone 8) then none
    else some (some names)
def slotsOf (G : Glob) (sc : Scope) : List Expr → Option (List Nat)
  | [] => some []
  | .Name x _ :: r => match slotSt G sc x, slotsOf G sc r with
    | some i, some l => some (i :: l)
    | _, _ => none
  | _ => none
def cAsg (G : Glob) (sc : Scope) (t v : Expr) : Option CS := match t with
  | .Name x _ => match slotSt G sc x, cE G sc v with
    | some i, some c => some (.set i c)
    | _, _ => none
  | .Tuple ts _ _ => (match v with
    | .Tuple vs _ _ => if vs.any isStar || ts.any isStar then none else match slotsOf G sc ts, swQ sc ts vs, allS (cL G sc vs) with
      | some is, some _, some es => if decide is.Nodup && decide (ts.length = vs.length) && decide (ts.length ≤ 1000) then some (.par is es) else none
      | _, _, _ => none
    | v => (match ts with
      | [.Subscript (.Name x _) k _, .Name y _] => (match slotOf G sc x, cE G sc k, slotSt G sc y, cE G sc v with
        | some i, some kc, some j, some c => (match k with
          | .Constant .. => some (.dvm i kc j c)
          | _ => none)
        | _, _, _, _ => none)
      | ts => if ts.any isStar then none else match cTs G sc ts, cE G sc v with
        | some tg, some c => some (.unp (.t tg) c)
        | _, _ => none))
  | .Subscript (.Name x _) k _ => (match k with
    | .Slice .. => none
    | k => match slotOf G sc x, cE G sc k, cE G sc v with
      | some i, some kc, some c => some (.six i kc c)
      | _, _, _ => none)
  | _ => none
/-! a call whose answer's lists are new -/
/-- a def's call -/
def cX (G : Glob) (sc : Scope) (e : Expr) : Option (Nat × CEs × List Nat) := match e with
  | .Call (.Name x p) args kws pos => (match cE G sc (.Call (.Name x p) args kws pos) with
    | some (.call f es q) => some (f, es, q)
    | _ => none)
  | _ => none
def isV : CE → Bool
  | .var _ => true
  | _ => false
/-- each a name or a new list -/
def mkAll : CEs → Bool
  | .nil => true
  | .cons e r => (isV e || mkE e) && mkAll r
def mkAny : CEs → Bool
  | .nil => false
  | .cons e r => mkE e || mkAny r
/-- whose answers are told on as they are -/
def tailN : List Str := ["renumbered"]
def isTail : Expr → Bool
  | .Call (.Name x _) _ _ _ => decide (x ∈ tailN)
  | _ => false
def isTupE : Expr → Bool
  | .Tuple .. => true
  | _ => false
/-- `([.. for .. in zip(a, x)], x)` -/
def retZOf (G : Glob) (sc : Scope) : Expr → Option CS
  | .Tuple [.ListComp elt [⟨tg, .Call (.Name z _) [ea, .Name x _] [] _, ifs, at0⟩] scope _, .Name y _] _ _ =>
    if at0 = 0 && L2.blkC G.N sc scope (ownOf G.N scope) && bltB G sc z "zip" && !isStar ea && decide (y = x) then
      match cT G scope tg, cE G sc ea, slotOf G sc x, cC G scope ifs, cE G scope elt with
      | some tg', some a, some i, some cd, some ce => if isTup tg' && (slotsT tg').all (fun k => decide (k ∈ (ownOf G.N scope).map (·.2))) && ifs.all tOK then some (.retZ ((ownOf G.N scope).map (·.2)) tg' a i cd ce) else none
      | _, _, _, _, _ => none
    else none
  | _ => none
/-- what is told -/
def retOf (G : Glob) (sc : Scope) (e : Expr) : CS := match retZOf G sc e with
  | some c => c
  | none => match cE G sc e with
  | none => .stuck
  | some c => match (if isTail e then cX G sc e else none) with
    | some (f, es, q) => .retC f es q
    | none => match c with
      | .tup es => if isTupE e && mkAll es && mkAny es then .retT es else .ret (.tup es)
      | c => .ret c
/-- `f(..)[k].append(d)` -/
def tap1Of (G : Glob) (sc : Scope) (oe a : Expr) : Option CS := match oe with
  | .Subscript e (.Constant (.int k) _ _) _ => (match cX G sc e, cE G sc a with
    | some (f, es, q), some d => if 0 ≤ k then some (.tap1 f es q k.toNat d) else none
    | _, _ => none)
  | _ => none
/-- `x[k].append(None)` -/
def apNone (x : Str) (k : Int) : Stmt → Bool
  | .Expr (.Call (.Attribute (.Subscript (.Name y _) (.Constant (.int j) _ _) _) m ap) [.Constant .none _ _] [] cp) _ => decide (y = x) && decide (j = k) && decide (m = ("append" : Str)) && (ap.endLine == cp.line)
  | _ => false
/-- `x = f(..)`, `x[0].append(None)`, `x[1].append(None)` -/
def tap2Of (G : Glob) (sc : Scope) (s1 s2 s3 : Stmt) : Option CS := match s1 with
  | .Assign [.Name x _] e _ => if apNone x 0 s2 && apNone x 1 s3 then (match slotSt G sc x, slotOf G sc x, cX G sc e with
    | some i, some j, some (f, es, q) => if i = j then some (.tap2 i f es q) else none
    | _, _, _ => none) else none
  | _ => none
def cExpr (G : Glob) (sc : Scope) (e : Expr) : Option CS := match e with
  | .Constant (.str _) _ _ => some .pass
  | .Call f args kws pos => (match (match f, args, kws with
      | .Attribute (.Name x _) m ap, [a], [] => if !(ap.endLine == pos.line) then none else (match slotOf G sc x, cE G sc a with
        | some i, some c => if isStar a then none else if m = ("append" : Str) then some (CS.app i c) else if m = ("extend" : Str) then some (CS.ext i c) else if m = ("remove" : Str) then some (CS.rem i c) else none
        | _, _ => none)
      | .Attribute (.Name x _) m ap, [], [] => if !(ap.endLine == pos.line) || !decide (m = ("pop" : Str)) then none else (slotOf G sc x).map CS.pop
      | .Attribute oe m ap, [a], [] => if !plainO oe || !(ap.endLine == pos.line) || isStar a || !decide (m = ("append" : Str)) then none else (match cE G sc oe, cE G sc a with
        | some o, some c => (match tap1Of G sc oe a with
          | some t => some t
          | none => some (CS.apt o c))
        | _, _ => none)
      | _, _, _ => none) with
    | some c => some c
    | none => (cE G sc e).map .ex)
  | _ => none
def orStuck : Option CS → CS
  | some c => c
  | none => .stuck
mutual
def cS (G : Glob) (sc : Scope) : Stmt → CS
  | .Assign ts v _ => match ts with
    | [t] => orStuck (cAsg G sc t v)
    | _ => .stuck
  | .Expr e _ => orStuck (cExpr G sc e)
  | .If c a b _ => if tOK c then match cE G sc c with
    | some x => .ifs x (cSs G sc a) (cSs G sc b)
    | none => .stuck else .stuck
  | .For t it b orelse _ => match orelse, cT G sc t, mkIter G sc it (cE G sc it) (cA G sc it) with
    | [], some tg, some i => if fitT i tg then .fr tg i (cSs G sc b) else .stuck
    | _, _, _ => .stuck
  | .While c b orelse _ => match orelse, cE G sc c with
    | [], some x => if tOK c then .wh x (cSs G sc b) else .stuck
    | _, _ => .stuck
  | .Return e _ => match e with
    | none => .retN
    | some e => retOf G sc e
  | .Pass _ => .pass
  | .Break _ => .brk
  | .Continue _ => .cnt
  | _ => .stuck
def cSs (G : Glob) (sc : Scope) : List Stmt → CSs
  | [] => .nil
  | [s] => .cons (cS G sc s) .nil
  | [s, s2] => .cons (cS G sc s) (.cons (cS G sc s2) .nil)
  | s :: s2 :: s3 :: r => match tap2Of G sc s s2 s3 with
    | some c => .cons c (cSs G sc r)
    | none => .cons (cS G sc s) (cSs G sc (s2 :: s3 :: r))
end
/-- all the text's defs: the names of each given -/
def cDef (fns : List (Str × List Str × Bool)) (consts : List (Str × D)) (free : List Str) (N : List Str) (byref : Bool) : Stmt → Option CDef
  | .FunctionDef name args body _ _ _ sc _ _ _ => some ⟨name, N, args.args.map (·.arg), byref, cSs ⟨N, fns, consts, free⟩ sc body⟩
  | _ => none
end PV
end

section
set_option Elab.async false
set_option linter.all false
set_option maxRecDepth 100000
set_option autoImplicit false
/-! PVc: what a state of the evaluator says of a heap -/
namespace PV
open PySem PySem.Spec L2

section
variable {K : PySem.W.Frag}
theorem sqT_mono {J J' : Hp} {a : Addr} {xs : List V} (e : Same J J') (h : SqT K J a xs) : SqT K J' a xs := by
  rcases h with (h | ⟨o, h⟩) | h
  · exact .inl (.inl (e _ _ h))
  · exact .inl (.inr ⟨o, e _ _ h⟩)
  · exact .inr h
mutual
/-- data as they lie in a heap; a dict's keys are ints -/
inductive Dp (K : PySem.W.Frag) (H : Hp) : V → PyData → Prop
  | non : Dp K H .non .none
  | bl (b : Bool) : Dp K H (.bl b) (.bool b)
  | int (i : Int) : Dp K H (.int i) (.int i)
  | str (x : Str) : Dp K H (.str x) (.str x)
  | lst {a : Addr} {xs : List V} {ds : List PyData} : SqL K H a xs → DpAll K H xs ds → Dp K H (.ref a) (.list ds)
  | tup {a : Addr} {xs : List V} {ds : List PyData} : SqT K H a xs → DpAll K H xs ds → Dp K H (.ref a) (.tuple ds)
  | dct {a : Addr} {kvs : List (Key × V)} {es : List (PyData × PyData)} : H a = some (.dK kvs) → DpD K H kvs es → Dp K H (.ref a) (.dict es)
inductive DpAll (K : PySem.W.Frag) (H : Hp) : List V → List PyData → Prop
  | nil : DpAll K H [] []
  | cons {v : V} {vs : List V} {d : PyData} {ds : List PyData} : Dp K H v d → DpAll K H vs ds → DpAll K H (v :: vs) (d :: ds)
inductive DpD (K : PySem.W.Frag) (H : Hp) : List (Key × V) → List (PyData × PyData) → Prop
  | nil : DpD K H [] []
  | cons {i : Int} {v : V} {kvs : List (Key × V)} {d : PyData} {es : List (PyData × PyData)} : Dp K H v d → DpD K H kvs es → DpD K H ((.inl i, v) :: kvs) ((.int i, d) :: es)
end
mutual
/-- data without a dict are the library's -/
theorem dp_lib {H : Hp} : ∀ (d : PyData) (v : V), PyData.canLay0 d = true → Dp K H v d → L2.Dp K H v d
  | .none, _, _, h => by cases h; exact .non
  | .bool b, _, _, h => by cases h; exact .bl b
  | .int i, _, _, h => by cases h; exact .int i
  | .str x, _, _, h => by cases h; exact .str x
  | .list ds, _, c, h => by
    cases h with
    | lst h1 h2 => exact .lst h1 (dps_lib ds _ (by simpa [PyData.canLay0] using c) h2)
  | .tuple ds, _, c, h => by
    cases h with
    | tup h1 h2 => exact .tup h1 (dps_lib ds _ (by simpa [PyData.canLay0] using c) h2)
  | .dict _, _, c, _ => by simp [PyData.canLay0] at c
theorem dps_lib {H : Hp} : ∀ (ds : List PyData) (vs : List V), PyData.canLayAll0 ds = true → DpAll K H vs ds → L2.DpAll K H vs ds
  | [], _, _, h => by cases h; exact .nil
  | d :: ds, _, c, h => by
    cases h with
    | cons h1 h2 =>
      simp only [PyData.canLayAll0, Bool.and_eq_true] at c
      exact .cons (dp_lib d _ c.1 h1) (dps_lib ds _ c.2 h2)
end
theorem dp_shaped {H : Hp} {d : PyData} {v : V} (c : SeqAt.shaped d = true) (h : Dp K H v d) : L2.Dp K H v d := by
  unfold SeqAt.shaped at c
  rw [Bool.and_eq_true] at c
  exact dp_lib d v c.1 h
mutual
theorem dp_mono {J J' : Hp} (e : Same J J') : ∀ (d : PyData) (v : V), Dp K J v d → Dp K J' v d
  | .none, _, h => by cases h; exact .non
  | .bool b, _, h => by cases h; exact .bl b
  | .int i, _, h => by cases h; exact .int i
  | .str x, _, h => by cases h; exact .str x
  | .list ds, _, h => by
    cases h with
    | lst h1 h2 => exact .lst (e.seq h1) (dps_mono e ds _ h2)
  | .tuple ds, _, h => by
    cases h with
    | tup h1 h2 => exact .tup (sqT_mono e h1) (dps_mono e ds _ h2)
  | .dict es, _, h => by
    cases h with
    | dct h1 h2 => exact .dct (e _ _ h1) (dpd_mono e es _ h2)
theorem dpd_mono {J J' : Hp} (e : Same J J') : ∀ (es : List (PyData × PyData)) (kvs : List (Key × V)), DpD K J kvs es → DpD K J' kvs es
  | [], _, h => by cases h; exact .nil
  | (_, d) :: es, _, h => by
    cases h with
    | cons h1 h2 => exact .cons (dp_mono e d _ h1) (dpd_mono e es _ h2)
theorem dps_mono {J J' : Hp} (e : Same J J') : ∀ (ds : List PyData) (vs : List V), DpAll K J vs ds → DpAll K J' vs ds
  | [], _, h => by cases h; exact .nil
  | d :: ds, _, h => by
    cases h with
    | cons h1 h2 => exact .cons (dp_mono e d _ h1) (dps_mono e ds _ h2)
end
theorem dps_len {J : Hp} : ∀ {ds : List PyData} {vs : List V}, DpAll K J vs ds → vs.length = ds.length
  | [], _, h => by cases h; rfl
  | d :: ds, _, h => by
    cases h with
    | cons h1 h2 => simp [dps_len h2]
theorem dps_get {J : Hp} : ∀ {ds : List PyData} {vs : List V} {i : Nat} {d : PyData}, DpAll K J vs ds → ds[i]? = some d → ∃ v, vs[i]? = some v ∧ Dp K J v d
  | [], _, _, _, _, e => by simp at e
  | d :: ds, _, 0, _, h, e => by
    cases h with
    | cons h1 h2 => simp at e; subst e; exact ⟨_, rfl, h1⟩
  | d :: ds, _, i + 1, _, h, e => by
    cases h with
    | cons h1 h2 =>
      obtain ⟨v, q, r⟩ := dps_get (i := i) h2 (by simpa using e)
      exact ⟨v, by simpa using q, r⟩
theorem dps_get' {J : Hp} {ds : List PyData} {vs : List V} {i : Nat} {v : V} (h : DpAll K J vs ds) (e : vs[i]? = some v) : ∃ d, ds[i]? = some d ∧ Dp K J v d := by
  have hi : i < ds.length := by
    have := dps_len h
    have := (List.getElem?_eq_some_iff.mp e).1
    omega
  obtain ⟨v', q, r⟩ := dps_get h (List.getElem?_eq_getElem hi)
  rw [e] at q
  cases q
  exact ⟨_, List.getElem?_eq_getElem hi, r⟩
theorem dps_append {J : Hp} : ∀ {ds es : List PyData} {vs us : List V}, DpAll K J vs ds → DpAll K J us es → DpAll K J (vs ++ us) (ds ++ es)
  | [], _, _, _, h, g => by cases h; exact g
  | d :: ds, _, _, _, h, g => by
    cases h with
    | cons h1 h2 => exact .cons h1 (dps_append h2 g)
theorem dps_take {J : Hp} : ∀ {ds : List PyData} {vs : List V} (n : Nat), DpAll K J vs ds → DpAll K J (vs.take n) (ds.take n)
  | _, _, 0, _ => by simp; exact .nil
  | [], _, n + 1, h => by cases h; exact .nil
  | d :: ds, _, n + 1, h => by
    cases h with
    | cons h1 h2 => exact .cons h1 (dps_take n h2)
theorem dps_drop {J : Hp} : ∀ {ds : List PyData} {vs : List V} (n : Nat), DpAll K J vs ds → DpAll K J (vs.drop n) (ds.drop n)
  | _, _, 0, h => by simpa using h
  | [], _, n + 1, h => by cases h; exact .nil
  | d :: ds, _, n + 1, h => by
    cases h with
    | cons h1 h2 => exact dps_drop n h2
theorem dps_set {J : Hp} {d : PyData} {v : V} (hd : Dp K J v d) : ∀ {ds : List PyData} {vs : List V} (n : Nat), DpAll K J vs ds → DpAll K J (vs.set n v) (ds.set n d)
  | [], _, _, h => by cases h; exact .nil
  | _ :: _, _, 0, h => by
    cases h with
    | cons h1 h2 => exact .cons hd h2
  | _ :: ds, _, n + 1, h => by
    cases h with
    | cons h1 h2 => exact .cons h1 (dps_set hd n h2)
theorem dps_rev {J : Hp} : ∀ {ds : List PyData} {vs : List V}, DpAll K J vs ds → DpAll K J vs.reverse ds.reverse
  | [], _, h => by cases h; exact .nil
  | d :: ds, _, h => by
    cases h with
    | cons h1 h2 =>
      rw [List.reverse_cons, List.reverse_cons]
      exact dps_append (dps_rev h2) (.cons h1 .nil)
theorem dps_ints {J : Hp} : ∀ ns : List Int, DpAll K J (ns.map V.int) (ns.map PyData.int)
  | [] => .nil
  | n :: r => .cons (.int n) (dps_ints r)

/-! ### the relation -/
def RW (K : PySem.W.Frag) (H J : Hp) (v : V) : W → Prop
  | .d x => Dp K J v x
  | .o xs => ∃ a vs, v = .ref a ∧ H a = some (.lst vs) ∧ J a = none ∧ DpAll K J vs xs
  | .r xs => ∃ a vs, v = .ref a ∧ H a = some (.lst vs) ∧ J a = none ∧ DpAll K J vs xs
  | .t _ => False
def Own (σ : St) (E : DE) (a : Addr) : Prop := ∃ (i : Nat) (w : W), E[i]? = some (some w) ∧ w.live = true ∧ σ[i]? = some (some (.ref a))
structure Rel (K : PySem.W.Frag) (H J : Hp) (σ : St) (E : DE) : Prop where
  sub : Same J H
  len : E.length = σ.length
  val : ∀ (i : Nat) (w : W), E[i]? = some (some w) → ∃ v, σ[i]? = some (some v) ∧ RW K H J v w
  ap : ∀ (i j : Nat) (w w' : W) (a : Addr), E[i]? = some (some w) → w.live = true → E[j]? = some (some w') → w'.live = true → σ[i]? = some (some (.ref a)) → σ[j]? = some (some (.ref a)) → i = j
structure Tr (K : PySem.W.Frag) (σ : St) (E : DE) (H J : Hp) (σ' : St) (E' : DE) (H' J' : Hp) : Prop where
  rel : Rel K H' J' σ' E'
  jj : Same J J'
  fr : ∀ b o, H b = some o → ¬ Own σ E b → H' b = some o
  th : ∀ b, H' b = none → H b = none
  nw : ∀ b o, J' b = some o → J b = some o ∨ H b = none ∨ Own σ E b
  ow : ∀ a, Own σ' E' a → Own σ E a ∨ H a = none
  rr : ∀ (i : Nat) (xs : List D), E[i]? = some (some (.r xs)) → σ'[i]? = σ[i]? ∧ ∃ ys, E'[i]? = some (some (.r ys))
/-- what is said of a result, from the start (σ, E, H) -/
structure Res (K : PySem.W.Frag) (σ : St) (E : DE) (H : Hp) (σ' : St) (E' : DE) (H' J' : Hp) (v : V) (w : W) : Prop where
  rw : RW K H' J' v w
  nr : ∀ xs, w ≠ .r xs
  ne : w.live = true → ∀ a, v = .ref a → ¬ Own σ' E' a
  nw : w.live = true → ∀ a, v = .ref a → Own σ E a ∨ H a = none

section
variable {σ σ1 σ' : St} {E E1 E' : DE} {H H1 H' J J1 J' : Hp}
theorem Tr.refl (r : Rel K H J σ E) : Tr K σ E H J σ E H J :=
  ⟨r, Same.refl _, fun _ _ h _ => h, fun _ h => h, fun _ _ h => .inl h, fun _ h => .inl h, fun _ xs h => ⟨rfl, xs, h⟩⟩
theorem Tr.trans (a : Tr K σ E H J σ1 E1 H1 J1) (b : Tr K σ1 E1 H1 J1 σ' E' H' J') : Tr K σ E H J σ' E' H' J' where
  rel := b.rel
  jj := a.jj.trans b.jj
  fr := fun c o h n => b.fr c o (a.fr c o h n) fun q => by
    rcases a.ow c q with z | z
    · exact n z
    · rw [z] at h; cases h
  th := fun c h => a.th c (b.th c h)
  nw := fun c o h => by
    rcases b.nw c o h with z | z | z
    · exact a.nw c o z
    · exact .inr (.inl (a.th c z))
    · rcases a.ow c z with y | y
      · exact .inr (.inr y)
      · exact .inr (.inl y)
  ow := fun c h => by
    rcases b.ow c h with z | z
    · exact a.ow c z
    · exact .inr (a.th c z)
  rr := fun i xs h => by
    obtain ⟨e1, ys, h1⟩ := a.rr i xs h
    obtain ⟨e2, zs, h2⟩ := b.rr i ys h1
    exact ⟨e2.trans e1, zs, h2⟩
theorem dp_notNone {v : V} {x : PyData} {a : Addr} (h : Dp K J v x) (e : v = .ref a) : True := trivial
theorem RW.keep {v : V} {w : W} (h : RW K H J v w) (jj : Same J J') (hh : ∀ a, v = .ref a → w.live = true → H' a = H a ∧ J' a = none) : RW K H' J' v w := by
  cases w with
  | d x => exact dp_mono jj _ _ h
  | o xs =>
    obtain ⟨a, vs, rfl, h1, h2, h3⟩ := h
    obtain ⟨e1, e2⟩ := hh a rfl rfl
    exact ⟨a, vs, rfl, e1.trans h1, e2, dps_mono jj _ _ h3⟩
  | r xs =>
    obtain ⟨a, vs, rfl, h1, h2, h3⟩ := h
    obtain ⟨e1, e2⟩ := hh a rfl rfl
    exact ⟨a, vs, rfl, e1.trans h1, e2, dps_mono jj _ _ h3⟩
  | t xss => exact h.elim
theorem RW.own {v : V} {w : W} (h : RW K H J v w) (l : w.live = true) : ∃ a vs xs, v = .ref a ∧ H a = some (.lst vs) ∧ J a = none ∧ DpAll K J vs xs ∧ w.data = .list xs := by
  cases w with
  | d x => cases l
  | o xs =>
    obtain ⟨a, vs, rfl, h1, h2, h3⟩ := h
    exact ⟨a, vs, xs, rfl, h1, h2, h3, rfl⟩
  | r xs =>
    obtain ⟨a, vs, rfl, h1, h2, h3⟩ := h
    exact ⟨a, vs, xs, rfl, h1, h2, h3, rfl⟩
  | t xss => cases l
/-- a result behind a further step -/
theorem Res.step {v : V} {w : W} (a : Tr K σ E H J σ1 E1 H1 J1) (r : Res K σ E H σ1 E1 H1 J1 v w) (b : Tr K σ1 E1 H1 J1 σ' E' H' J') : Res K σ E H σ' E' H' J' v w := by
  refine ⟨r.rw.keep b.jj fun c e l => ?_, r.nr, fun l c e q => ?_, r.nw⟩
  · obtain ⟨c', vs, xs, e2, h1, h2, _, _⟩ := r.rw.own l
    have ec : c = c' := by rw [e2] at e; cases e; rfl
    subst ec
    have nq := r.ne l c e
    refine ⟨(b.fr c _ h1 nq).trans h1.symm, ?_⟩
    cases q : J' c with
    | none => rfl
    | some o =>
      rcases b.nw c o q with z | z | z
      · rw [h2] at z; cases z
      · rw [h1] at z; cases z
      · exact absurd z nq
  · rcases b.ow c q with z | z
    · exact r.ne l c e z
    · obtain ⟨c', vs, xs, e2, h1, h2, _, _⟩ := r.rw.own l
      have ec : c = c' := by rw [e2] at e; cases e; rfl
      subst ec
      rw [h1] at z; cases z
theorem same_upd {p : Addr} {o : HO} (h : H p = none) : Same H (upd H p o) := fun b x e => by
  rw [upd_ne (ne_of_none e h)]
  exact e
/-- a new object, not shared -/
theorem Tr.own {p : Addr} {o : HO} (r : Rel K H J σ E) (hp : H p = none) : Tr K σ E H J σ E (upd H p o) J := by
  have e : ∀ b u, H b = some u → upd H p o b = some u := fun b u h => same_upd hp b u h
  refine ⟨⟨fun b u h => e b u (r.sub b u h), r.len, fun i w h => ?_, r.ap⟩, Same.refl _, fun b u h _ => e b u h, fun b h => ?_, fun _ _ h => .inl h, fun _ h => .inl h, fun _ xs h => ⟨rfl, xs, h⟩⟩
  · obtain ⟨v, h1, h2⟩ := r.val i w h
    refine ⟨v, h1, h2.keep (Same.refl _) fun a ev l => ?_⟩
    obtain ⟨a', vs, xs, e2, h3, h4, _, _⟩ := h2.own l
    have ec : a = a' := by rw [e2] at ev; cases ev; rfl
    subst ec
    exact ⟨(e a _ h3).trans h3.symm, h4⟩
  · by_cases hb : b = p
    · rw [hb]; exact hp
    · rw [upd_ne hb] at h; exact h
/-- a new object, shared -/
theorem Tr.shared {p : Addr} {o : HO} (r : Rel K H J σ E) (hp : H p = none) : Tr K σ E H J σ E (upd H p o) (upd J p o) := by
  have jp : J p = none := by
    cases q : J p with
    | none => rfl
    | some u => have := r.sub p u q; rw [hp] at this; cases this
  have e : ∀ b u, H b = some u → upd H p o b = some u := fun b u h => same_upd hp b u h
  have ej : Same J (upd J p o) := same_upd jp
  refine ⟨⟨fun b u h => ?_, r.len, fun i w h => ?_, r.ap⟩, ej, fun b u h _ => e b u h, fun b h => ?_, fun b u h => ?_, fun _ h => .inl h, fun _ xs h => ⟨rfl, xs, h⟩⟩
  · by_cases hb : b = p
    · subst hb; rw [upd_same] at h ⊢; exact h
    · rw [upd_ne hb] at h; exact e b u (r.sub b u h)
  · obtain ⟨v, h1, h2⟩ := r.val i w h
    refine ⟨v, h1, h2.keep ej fun a ev l => ?_⟩
    obtain ⟨a', vs, xs, e2, h3, h4, _, _⟩ := h2.own l
    have ec : a = a' := by rw [e2] at ev; cases ev; rfl
    subst ec
    refine ⟨(e a _ h3).trans h3.symm, ?_⟩
    rw [upd_ne (ne_of_none h3 hp)]
    exact h4
  · by_cases hb : b = p
    · rw [hb]; exact hp
    · rw [upd_ne hb] at h; exact h
  · by_cases hb : b = p
    · subst hb; exact .inr (.inl hp)
    · rw [upd_ne hb] at h; exact .inl h
/-- an own list that nobody holds is frozen -/
theorem Tr.frzA {a : Addr} {xs : List D} (t : Tr K σ E H J σ1 E1 H1 J1) (r : Res K σ E H σ1 E1 H1 J1 (.ref a) (.o xs)) : ∃ vs, J1 a = none ∧ Tr K σ E H J σ1 E1 H1 (upd J1 a (.lst vs)) ∧ Dp K (upd J1 a (.lst vs)) (.ref a) (.list xs) ∧ Same J1 (upd J1 a (.lst vs)) := by
  obtain ⟨a', vs, ea, h1, h2, h3⟩ := r.rw
  cases ea
  have nq := r.ne rfl a rfl
  have nn := r.nw rfl a rfl
  have ej : Same J1 (upd J1 a (.lst vs)) := same_upd h2
  refine ⟨vs, h2, ⟨⟨fun b u h => ?_, t.rel.len, fun i w h => ?_, t.rel.ap⟩, t.jj.trans ej, t.fr, t.th, fun b u h => ?_, t.ow, t.rr⟩, .lst (.inl (.inl upd_same)) (dps_mono ej _ _ h3), ej⟩
  · by_cases hb : b = a
    · subst hb; rw [upd_same] at h; rw [h1]; exact h
    · rw [upd_ne hb] at h; exact t.rel.sub b u h
  · obtain ⟨v, e1, e2⟩ := t.rel.val i w h
    refine ⟨v, e1, e2.keep ej fun c ev l => ⟨rfl, ?_⟩⟩
    obtain ⟨c', us, ys, e3, h4, h5, _, _⟩ := e2.own l
    have ec : c = c' := by rw [e3] at ev; cases ev; rfl
    subst ec
    have : c ≠ a := fun z => nq ⟨i, w, h, l, by rw [e1, ev, z]⟩
    rw [upd_ne this]
    exact h5
  · by_cases hb : b = a
    · subst hb
      rcases nn with z | z
      · exact .inr (.inr z)
      · exact .inr (.inl z)
    · rw [upd_ne hb] at h; exact t.nw b u h
/-- a result is frozen -/
theorem Res.frz {v : V} {w : W} (t : Tr K σ E H J σ1 E1 H1 J1) (r : Res K σ E H σ1 E1 H1 J1 v w) : ∃ J2, Tr K σ E H J σ1 E1 H1 J2 ∧ Dp K J2 v w.data ∧ Same J1 J2 := by
  cases w with
  | d x => exact ⟨J1, t, r.rw, Same.refl _⟩
  | r xs => exact absurd rfl (r.nr xs)
  | o xs =>
    obtain ⟨a, vs, rfl, _⟩ := r.rw
    obtain ⟨us, _, t2, d, ej⟩ := t.frzA r
    exact ⟨_, t2, d, ej⟩
  | t xss => exact r.rw.elim
/-- an own slot is frozen -/
theorem Rel.freeze (r : Rel K H J σ E) {i : Nat} {xs : List D} (hi : E[i]? = some (some (.o xs))) : ∃ v J2, σ[i]? = some (some v) ∧ Tr K σ E H J σ (E.set i (some (.d (.list xs)))) H J2 ∧ Dp K J2 v (.list xs) := by
  obtain ⟨v, hv, a, vs, rfl, h1, h2, h3⟩ := r.val i _ hi
  have ej : Same J (upd J a (.lst vs)) := same_upd h2
  have hil : i < E.length := (List.getElem?_eq_some_iff.mp hi).1
  have oa : Own σ E a := ⟨i, _, hi, rfl, hv⟩
  have back : ∀ (j : Nat) (w : W), (E.set i (some (.d (.list xs))))[j]? = some (some w) → w.live = true → j ≠ i ∧ E[j]? = some (some w) := fun j w h l => by
    by_cases hj : i = j
    · subst hj
      rw [List.getElem?_set_self hil] at h
      cases h
      cases l
    · rw [List.getElem?_set_ne hj] at h
      exact ⟨fun z => hj z.symm, h⟩
  refine ⟨_, upd J a (.lst vs), hv, ⟨⟨fun b u h => ?_, by rw [List.length_set]; exact r.len, fun j w h => ?_, fun j k w w' c h1 l1 h2 l2 => r.ap j k w w' c (back j w h1 l1).2 l1 (back k w' h2 l2).2 l2⟩, ej, fun b u h _ => h, fun b h => h, fun b u h => ?_, fun b ⟨j, w, q1, q2, q3⟩ => .inl ⟨j, w, (back j w q1 q2).2, q2, q3⟩, fun j ys h => ⟨rfl, ys, ?_⟩⟩, .lst (.inl (.inl upd_same)) (dps_mono ej _ _ h3)⟩
  · by_cases hb : b = a
    · subst hb; rw [upd_same] at h; rw [h1]; exact h
    · rw [upd_ne hb] at h; exact r.sub b u h
  · by_cases hj : i = j
    · subst hj
      rw [List.getElem?_set_self hil] at h
      cases h
      exact ⟨_, hv, .lst (.inl (.inl upd_same)) (dps_mono ej _ _ h3)⟩
    · rw [List.getElem?_set_ne hj] at h
      obtain ⟨v, e1, e2⟩ := r.val j w h
      refine ⟨v, e1, e2.keep ej fun c ev l => ⟨rfl, ?_⟩⟩
      obtain ⟨c', us, ys, e3, h4, h5, _, _⟩ := e2.own l
      have ec : c = c' := by rw [e3] at ev; cases ev; rfl
      subst ec
      have : c ≠ a := fun z => hj (r.ap i j _ w a hi rfl h l hv (by rw [e1, ev, z]))
      rw [upd_ne this]
      exact h5
  · by_cases hb : b = a
    · subst hb; exact .inr (.inr oa)
    · rw [upd_ne hb] at h; exact .inl h
  · by_cases hj : i = j
    · subst hj; rw [hi] at h; cases h
    · rw [List.getElem?_set_ne hj]; exact h
/-- an own list's contents are changed -/
theorem Rel.write (r : Rel K H J σ E) {i : Nat} {xs ys : List D} {a : Addr} {us : List V} (hi : getL E i = some xs) (hv : σ[i]? = some (some (.ref a))) (hu : DpAll K J us ys) :
    Tr K σ E H J σ (setL E i ys) (upd H a (.lst us)) J := by
  have key : ∀ (w w2 : W), E[i]? = some (some w) → w.live = true → w2.live = true → w2.data = .list ys → setL E i ys = E.set i (some w2) → ((∃ zs, w = .r zs) → ∃ zs, w2 = .r zs) →
      Tr K σ E H J σ (setL E i ys) (upd H a (.lst us)) J := by
    intro w w2 hE l l2 d2 es hr
    rw [es]
    obtain ⟨v, hv', rw'⟩ := r.val i w hE
    rw [hv] at hv'; cases hv'
    obtain ⟨a', vs, zs, ea, h1, h2, h3, _⟩ := rw'.own l
    cases ea
    have hil : i < E.length := (List.getElem?_eq_some_iff.mp hE).1
    have oa : Own σ E a := ⟨i, _, hE, l, hv⟩
    have back : ∀ (j : Nat) (w : W), (E.set i (some w2))[j]? = some (some w) → w.live = true → ∃ w', E[j]? = some (some w') ∧ w'.live = true := fun j w h q => by
      by_cases hj : i = j
      · subst hj; exact ⟨_, hE, l⟩
      · rw [List.getElem?_set_ne hj] at h; exact ⟨w, h, q⟩
    refine ⟨⟨fun b u h => ?_, by rw [List.length_set]; exact r.len, fun j w h => ?_, fun j k w w' c q1 l1 q2 l2 => ?_⟩, Same.refl _, fun b u h n => ?_, fun b h => ?_, fun b u h => .inl h, fun b ⟨j, w, q1, q2, q3⟩ => ?_, fun j ys h => ⟨rfl, ?_⟩⟩
    · rw [upd_ne (show b ≠ a from fun z => by subst z; rw [h2] at h; cases h)]
      exact r.sub b u h
    · by_cases hj : i = j
      · subst hj
        rw [List.getElem?_set_self hil] at h
        cases h
        refine ⟨_, hv, ?_⟩
        cases w2 with
        | d x => cases l2
        | o zs => cases d2; exact ⟨a, us, rfl, upd_same, h2, hu⟩
        | r zs => cases d2; exact ⟨a, us, rfl, upd_same, h2, hu⟩
        | t zs => cases l2
      · rw [List.getElem?_set_ne hj] at h
        obtain ⟨v, e1, e2⟩ := r.val j w h
        refine ⟨v, e1, e2.keep (Same.refl _) fun c ev lw => ?_⟩
        obtain ⟨c', us, zs, e3, h4, h5, _, _⟩ := e2.own lw
        have ec : c = c' := by rw [e3] at ev; cases ev; rfl
        subst ec
        have : c ≠ a := fun z => hj (r.ap i j _ w a hE l h lw hv (by rw [e1, ev, z]))
        exact ⟨upd_ne this, h5⟩
    · obtain ⟨x1, y1, z1⟩ := back j w q1 l1
      obtain ⟨x2, y2, z2⟩ := back k w' q2 l2
      exact r.ap j k x1 x2 c y1 z1 y2 z2
    · exact (upd_ne (show b ≠ a from fun z => n (z ▸ oa))).trans h
    · by_cases hb : b = a
      · rw [hb, upd_same] at h; cases h
      · rw [upd_ne hb] at h; exact h
    · obtain ⟨x1, y1, z1⟩ := back j w q1 q2
      exact .inl ⟨j, x1, y1, z1, q3⟩
    · by_cases hj : i = j
      · subst hj
        rw [hE] at h
        cases h
        obtain ⟨zs, e⟩ := hr ⟨_, rfl⟩
        exact ⟨zs, by rw [List.getElem?_set_self hil, e]⟩
      · exact ⟨ys, by rw [List.getElem?_set_ne hj]; exact h⟩
  unfold getL at hi
  split at hi
  · rename_i zs hE
    exact key (.o zs) (.o ys) hE rfl rfl rfl (by unfold setL; rw [hE]) fun ⟨_, z⟩ => nomatch z
  · rename_i zs hE
    exact key (.r zs) (.r ys) hE rfl rfl rfl (by unfold setL; rw [hE]) fun _ => ⟨_, rfl⟩
  · cases hi
end
/-! ### own lists in a told tuple -/
/-- own lists that nobody holds, each once -/
inductive RTs (K : PySem.W.Frag) (σ : St) (E : DE) (H : Hp) (σ' : St) (E' : DE) (H' J' : Hp) : List Addr → List (List D) → Prop
  | nil : RTs K σ E H σ' E' H' J' [] []
  | cons {a : Addr} {xs : List D} {as : List Addr} {xss : List (List D)} : Res K σ E H σ' E' H' J' (.ref a) (.o xs) → a ∉ as → RTs K σ E H σ' E' H' J' as xss → RTs K σ E H σ' E' H' J' (a :: as) (xs :: xss)
/-- what is said of a call's answer -/
def ResX (K : PySem.W.Frag) (σ : St) (E : DE) (H : Hp) (σ' : St) (E' : DE) (H' J' : Hp) (v : V) : W → Prop
  | .t xss => ∃ p as, v = .ref p ∧ SqT K J' p (as.map V.ref) ∧ RTs K σ E H σ' E' H' J' as xss
  | w => Res K σ E H σ' E' H' J' v w
section
variable {σ σ1 σ' τ τ' : St} {E E1 E' Eτ Eτ' : DE} {H H1 H' Hτ J J1 J' : Hp} {v : V} {w : W}
theorem Res.x (r : Res K σ E H σ' E' H' J' v w) : ResX K σ E H σ' E' H' J' v w := by
  cases w with
  | t => exact r.rw.elim
  | _ => exact r
theorem Res.frame (hne : ∀ a, ¬ Own σ' E' a → Own σ E a ∨ H a = none → ¬ Own τ' Eτ' a) (hnw : ∀ a, ¬ Own σ' E' a → Own σ E a ∨ H a = none → Own τ Eτ a ∨ Hτ a = none) (r : Res K σ E H σ' E' H' J' v w) : Res K τ Eτ Hτ τ' Eτ' H' J' v w :=
  ⟨r.rw, r.nr, fun l c e => hne c (r.ne l c e) (r.nw l c e), fun l c e => hnw c (r.ne l c e) (r.nw l c e)⟩
theorem RTs.frame (hne : ∀ a, ¬ Own σ' E' a → Own σ E a ∨ H a = none → ¬ Own τ' Eτ' a) (hnw : ∀ a, ¬ Own σ' E' a → Own σ E a ∨ H a = none → Own τ Eτ a ∨ Hτ a = none) {as : List Addr} {xss : List (List D)}
    (r : RTs K σ E H σ' E' H' J' as xss) : RTs K τ Eτ Hτ τ' Eτ' H' J' as xss := by
  induction r with
  | nil => exact .nil
  | cons h n _ ih => exact .cons (h.frame hne hnw) n ih
theorem ResX.frame (hne : ∀ a, ¬ Own σ' E' a → Own σ E a ∨ H a = none → ¬ Own τ' Eτ' a) (hnw : ∀ a, ¬ Own σ' E' a → Own σ E a ∨ H a = none → Own τ Eτ a ∨ Hτ a = none) (r : ResX K σ E H σ' E' H' J' v w) : ResX K τ Eτ Hτ τ' Eτ' H' J' v w := by
  cases w with
  | t xss =>
    obtain ⟨p, as, e, h1, h2⟩ := r
    exact ⟨p, as, e, h1, h2.frame hne hnw⟩
  | d x => exact Res.frame hne hnw r
  | o x => exact Res.frame hne hnw r
  | r x => exact Res.frame hne hnw r
theorem ResX.from (t : Tr K σ E H J σ1 E1 H1 J1) (r : ResX K σ1 E1 H1 σ' E' H' J' v w) : ResX K σ E H σ' E' H' J' v w :=
  r.frame (fun _ n _ => n) fun c _ q => by
    rcases q with q | q
    · exact t.ow c q
    · exact .inr (t.th c q)
theorem RTs.updJ {b : Addr} {o : HO} {as : List Addr} {xss : List (List D)} (s : Same J' (upd J' b o)) (r : RTs K σ E H σ' E' H' J' as xss) (n : b ∉ as) : RTs K σ E H σ' E' H' (upd J' b o) as xss := by
  induction r with
  | nil => exact .nil
  | @cons a xs as xss h n2 _ ih =>
    rw [List.mem_cons, not_or] at n
    refine .cons ⟨?_, h.nr, h.ne, h.nw⟩ n2 (ih n.2)
    obtain ⟨a', vs, e, h1, h2, h3⟩ := h.rw
    cases e
    exact ⟨a, vs, rfl, h1, by rw [upd_ne (fun z => n.1 z.symm)]; exact h2, dps_mono s _ _ h3⟩
theorem RTs.frz {as : List Addr} {xss : List (List D)} (r : RTs K σ E H σ1 E1 H1 J1 as xss) (t : Tr K σ E H J σ1 E1 H1 J1) : ∃ J2, Tr K σ E H J σ1 E1 H1 J2 ∧ DpAll K J2 (as.map V.ref) (xss.map PyData.list) ∧ Same J1 J2 := by
  induction as generalizing xss J1 with
  | nil => cases r; exact ⟨J1, t, .nil, Same.refl _⟩
  | cons a as ih =>
    cases r with
    | cons h n rs =>
      obtain ⟨vs, h1, t2, d, s⟩ := t.frzA h
      obtain ⟨J2, t3, ds, s2⟩ := ih (rs.updJ s n) t2
      exact ⟨J2, t3, .cons (dp_mono s2 _ _ d) ds, s.trans s2⟩
theorem res_tup {J2 : Hp} {x : D} (h : Dp K J2 v x) : Res K σ E H σ' E' H' J2 v (.d x) := ⟨h, fun _ z => (nomatch z), fun l => (nomatch l), fun l => (nomatch l)⟩
theorem RTs.step {as : List Addr} {xss : List (List D)} (a : Tr K σ E H J σ1 E1 H1 J1) (r : RTs K σ E H σ1 E1 H1 J1 as xss) (b : Tr K σ1 E1 H1 J1 σ' E' H' J') : RTs K σ E H σ' E' H' J' as xss := by
  induction r with
  | nil => exact .nil
  | cons h n _ ih => exact .cons (h.step a b) n ih
theorem RTs.len {as : List Addr} {xss : List (List D)} (r : RTs K σ E H σ1 E1 H1 J1 as xss) : as.length = xss.length := by
  induction r with
  | nil => rfl
  | cons h n _ ih => simp [ih]
theorem RTs.get {as : List Addr} {xss : List (List D)} (r : RTs K σ E H σ1 E1 H1 J1 as xss) : ∀ {k : Nat} {xs : List D}, xss[k]? = some xs → ∃ a, as[k]? = some a ∧ Res K σ E H σ1 E1 H1 J1 (.ref a) (.o xs) := by
  induction r with
  | nil => intro k xs e; simp at e
  | cons h n _ ih =>
    intro k xs e
    cases k with
    | zero => simp at e; subst e; exact ⟨_, rfl, h⟩
    | succ k =>
      obtain ⟨a, h1, h2⟩ := ih (k := k) (by simpa using e)
      exact ⟨a, by simpa using h1, h2⟩
theorem RTs.nw {as : List Addr} {xss : List (List D)} (r : RTs K σ E H σ1 E1 H1 J1 as xss) : ∀ a ∈ as, Own σ E a ∨ H a = none := by
  induction r with
  | nil => intro a h; cases h
  | cons h n _ ih =>
    intro a ha
    rcases List.mem_cons.mp ha with e | ha
    · subst e; exact h.nw rfl _ rfl
    · exact ih a ha
/-- a slot that claims nothing may hold anything -/
theorem Tr.blank {i : Nat} {o : Option V} (t : Tr K σ E H J σ1 E1 H1 J1) (n : ∀ xs, E1[i]? ≠ some (some (.r xs))) : Tr K σ E H J (σ1.set i o) (E1.set i none) H1 J1 := by
  have back : ∀ (j : Nat) (w : W), (E1.set i none)[j]? = some (some w) → i ≠ j ∧ E1[j]? = some (some w) := fun j w h => by
    by_cases hj : i = j
    · subst hj
      rw [List.getElem?_set] at h
      split at h
      · split at h <;> cases h
      · exact absurd rfl ‹_›
    · rw [List.getElem?_set_ne hj] at h
      exact ⟨hj, h⟩
  have own' : ∀ a, Own (σ1.set i o) (E1.set i none) a → Own σ1 E1 a := fun a ⟨j, w, q1, q2, q3⟩ => by
    obtain ⟨hj, q⟩ := back j w q1
    rw [List.getElem?_set_ne hj] at q3
    exact ⟨j, w, q, q2, q3⟩
  refine ⟨⟨t.rel.sub, by rw [List.length_set, List.length_set]; exact t.rel.len, fun j w h => ?_, fun j k w w' a h1 l1 h2 l2 s1 s2 => ?_⟩, t.jj, t.fr, t.th, t.nw, fun a q => t.ow a (own' a q), fun j xs h => ?_⟩
  · obtain ⟨hj, q⟩ := back j w h
    rw [List.getElem?_set_ne hj]
    exact t.rel.val j w q
  · obtain ⟨hj, q⟩ := back j w h1
    obtain ⟨hk, q'⟩ := back k w' h2
    rw [List.getElem?_set_ne hj] at s1
    rw [List.getElem?_set_ne hk] at s2
    exact t.rel.ap j k w w' a q l1 q' l2 s1 s2
  · obtain ⟨h1, ys, h2⟩ := t.rr j xs h
    have hj : i ≠ j := fun z => n ys (z ▸ h2)
    exact ⟨by rw [List.getElem?_set_ne hj]; exact h1, ys, by rw [List.getElem?_set_ne hj]; exact h2⟩
theorem blank_own {i : Nat} {o : Option V} {a : Addr} (h : Own (σ1.set i o) (E1.set i none) a) : Own σ1 E1 a := by
  obtain ⟨j, w, q1, q2, q3⟩ := h
  by_cases hj : i = j
  · subst hj
    rw [List.getElem?_set] at q1
    split at q1
    · split at q1 <;> cases q1
    · exact absurd rfl ‹_›
  · rw [List.getElem?_set_ne hj] at q1 q3
    exact ⟨j, w, q1, q2, q3⟩
/-- a call's answer as data -/
theorem ResX.frz (t : Tr K σ E H J σ1 E1 H1 J1) (r : ResX K σ E H σ1 E1 H1 J1 v w) : ∃ J2, Tr K σ E H J σ1 E1 H1 J2 ∧ Res K σ E H σ1 E1 H1 J2 v w.frz := by
  cases w with
  | t xss =>
    obtain ⟨p, as, rfl, h1, h2⟩ := r
    obtain ⟨J2, t2, ds, s⟩ := h2.frz t
    exact ⟨J2, t2, res_tup (.tup (sqT_mono s h1) ds)⟩
  | d x => exact ⟨J1, t, r⟩
  | o x => exact ⟨J1, t, r⟩
  | r x => exact ⟨J1, t, r⟩
end
end
end PV
end

section
set_option Elab.async false
set_option linter.all false
set_option maxRecDepth 100000
set_option maxHeartbeats 1000000
set_option autoImplicit false
/-! PVd: the operations on data, over the layer's rules by values -/
namespace PV
open PySem PySem.Spec L2

section
variable {K : PySem.W.Frag} {H J : Hp} {v u : V} {x y : D} {σ : St} {E : DE}
/-- data that may be read -/
def RD (K : PySem.W.Frag) (H J : Hp) (v : V) (x : D) : Prop := Dp K J v x ∨ ∃ a vs xs, v = .ref a ∧ x = .list xs ∧ H a = some (.lst vs) ∧ DpAll K J vs xs
theorem RD.dp (s : Same J H) (h : RD K H J v x) : Dp K H v x := by
  rcases h with h | ⟨a, vs, xs, rfl, rfl, h1, h2⟩
  · exact dp_mono s _ _ h
  · exact .lst (.inl (.inl h1)) (dps_mono s _ _ h2)
theorem RD.list {xs : List D} (s : Same J H) (h : RD K H J v (.list xs)) : ∃ a vs, v = .ref a ∧ SqL K H a vs ∧ DpAll K J vs xs := by
  rcases h with h | ⟨a, vs, ys, rfl, e, h1, h2⟩
  · cases h with
    | lst h1 h2 => exact ⟨_, _, rfl, s.seq h1, h2⟩
  · cases e
    exact ⟨a, vs, rfl, .inl (.inl h1), h2⟩
theorem RD.tup {xs : List D} (s : Same J H) (h : RD K H J v (.tuple xs)) : ∃ a vs, v = .ref a ∧ SqT K H a vs ∧ DpAll K J vs xs := by
  rcases h with h | ⟨a, vs, ys, rfl, e, h1, h2⟩
  · cases h with
    | tup h1 h2 => exact ⟨_, _, rfl, sqT_mono s h1, h2⟩
  · cases e
theorem RD.dict {es : List (D × D)} (s : Same J H) (h : RD K H J v (.dict es)) : ∃ a kvs, v = .ref a ∧ H a = some (.dK kvs) ∧ DpD K J kvs es := by
  rcases h with h | ⟨a, vs, ys, rfl, e, h1, h2⟩
  · cases h with
    | dct h1 h2 => exact ⟨_, _, rfl, s _ _ h1, h2⟩
  · cases e
theorem RD.int {i : Int} (h : RD K H J v (.int i)) : v = .int i := by
  rcases h with h | ⟨a, vs, ys, rfl, e, h1, h2⟩
  · cases h; rfl
  · cases e
theorem RD.bool {i : Bool} (h : RD K H J v (.bool i)) : v = .bl i := by
  rcases h with h | ⟨a, vs, ys, rfl, e, h1, h2⟩
  · cases h; rfl
  · cases e
theorem RD.str {i : Str} (h : RD K H J v (.str i)) : v = .str i := by
  rcases h with h | ⟨a, vs, ys, rfl, e, h1, h2⟩
  · cases h; rfl
  · cases e
theorem RD.none (h : RD K H J v .none) : v = .non := by
  rcases h with h | ⟨a, vs, ys, rfl, e, h1, h2⟩
  · cases h; rfl
  · cases e
theorem RD.tupD {xs : List D} (h : RD K H J v (.tuple xs)) : Dp K J v (.tuple xs) := by
  rcases h with h | ⟨a, vs, ys, rfl, e, h1, h2⟩
  · exact h
  · cases e
/-- a result that is data -/
theorem res_d {H' J' : Hp} {E' : DE} {σ' : St} (h : Dp K J' v x) : Res K σ E H σ' E' H' J' v (.d x) := ⟨h, fun _ z => (nomatch z), fun z => (nomatch z), fun z => (nomatch z)⟩
/-- a new list -/
theorem new_o {p : Addr} {vs : List V} {xs : List D} (r : Rel K H J σ E) (hp : H p = Option.none) (h : DpAll K J vs xs) :
    Tr K σ E H J σ E (upd H p (.lst vs)) J ∧ Res K σ E H σ E (upd H p (.lst vs)) J (.ref p) (.o xs) := by
  refine ⟨Tr.own r hp, ⟨p, vs, rfl, upd_same, ?_, h⟩, fun _ z => (nomatch z), fun _ a e q => ?_, fun _ a e => .inr (by cases e; exact hp)⟩
  · cases q : J p with
    | none => rfl
    | some o => have := r.sub p o q; rw [hp] at this; cases this
  · cases e
    obtain ⟨i, w, h1, h2, h3⟩ := q
    obtain ⟨v, h4, h5⟩ := r.val i w h1
    obtain ⟨a, us, ys, e, h6, _⟩ := h5.own h2
    rw [h3] at h4
    cases h4
    cases e
    rw [hp] at h6
    cases h6
/-- a new tuple -/
theorem new_t {p : Addr} {vs : List V} {xs : List D} (r : Rel K H J σ E) (hp : H p = Option.none) (h : DpAll K J vs xs) :
    Tr K σ E H J σ E (upd H p (.tup vs)) (upd J p (.tup vs)) ∧ Res K σ E H σ E (upd H p (.tup vs)) (upd J p (.tup vs)) (.ref p) (.d (.tuple xs)) := by
  have jp : J p = Option.none := by
    cases q : J p with
    | none => rfl
    | some o => have := r.sub p o q; rw [hp] at this; cases this
  exact ⟨Tr.shared r hp, res_d (.tup (.inl (.inl upd_same)) (dps_mono (same_upd jp) _ _ h))⟩
theorem lim_ok {n : Nat} (h : n ≤ lim) : n ≤ sizeLine := Nat.le_trans h (by unfold lim; rw [sizeLine_eq]; decide)
theorem lim_lt {n : Nat} (h : n < lim) : n < sizeLine := Nat.lt_of_lt_of_le h (by unfold lim; rw [sizeLine_eq]; decide)
/-- what an operation's end may be told -/
abbrev Fin1 (K : PySem.W.Frag) (σ : St) (E : DE) (H J : Hp) (w : W) (Q : VK) : Prop := ∀ z H' J', Tr K σ E H J σ E H' J' → Res K σ E H σ E H' J' z w → Q z H'
end

section
variable {X : Cx}
def rCatL (K : PySem.W.Frag) : R2 := fun x y H Q => ∃ l b xs zs, x = .ref l ∧ y = .ref b ∧ SqL K H l xs ∧ SqL K H b zs ∧ xs.length + zs.length ≤ sizeLine ∧ ∀ p, H p = none → Q (.ref p) (upd H p (.lst (xs ++ zs)))
theorem op_catL : OpR X (binaryOp .Add) (rCatL X.K) := by
  intro pins s σ H x y v u Q I rx ry h
  obtain ⟨l, b, xs, zs, rfl, rfl, hH, hB, hz, q⟩ := h
  cases rx
  cases ry
  obtain ⟨its, r, hl, z⟩ := I.list hH
  obtain ⟨its2, r2, hb, z2⟩ := I.list hB
  have n1 := r.length
  have n2 := r2.length
  obtain ⟨⟨cls, dd, data, sl⟩, n, ho, hc, hdd, hd⟩ := hl
  obtain ⟨⟨cls2, dd2, data2, sl2⟩, m, ho2, hc2, hdd2, hd2⟩ := hb
  simp only at hc hd hc2 hd2
  subst hc hd hc2 hd2
  refine PySem.concat_meets ⟨_, ho, rfl⟩ ⟨_, ho2, rfl⟩ PySem.noFill_list_add PySem.seq_list_add PySem.F.slot_list_add PySem.F.entry_list_add (PySem.F.args_list_add_2 _ _)
    (PyProof.Rows.list_addW l b its.toArray its2.toArray n m dd dd2 sl sl2 (by simp; omega)) ⟨ho, ho2, ?_⟩
  have e : its.toArray ++ its2.toArray = (its ++ its2).toArray := by simp
  rw [e]
  exact ⟨.ref _, _, I.lnew (t' := s.toks) (r.append r2) (by rw [List.length_append]; omega), rfl, q _ I.fresh⟩
end

/-- a binary operator -/
theorem bin_ok {X : Cx} {o : Operator} {op : BOp} (h : bop o = some op) : ∃ r : R2, OpR X (binaryOp o) r ∧ ∀ (σ : St) (E : DE) (H J : Hp) (v u : V) (x y : D) (w : W) (Q : VK),
    Rel X.K H J σ E → RD X.K H J v x → RD X.K H J u y → binD op x y = some w → Fin1 X.K σ E H J w Q → r v u H Q := by
  cases o <;> simp only [bop, Option.some.injEq, reduceCtorEq] at h <;> subst h
  · -- Add
    refine ⟨_, (op_add.or (op_catL.or op_catA)), fun σ E H J v u x y w Q r rx ry hb fin => ?_⟩
    cases x <;> cases y <;> simp only [binD, Option.some.injEq, reduceCtorEq] at hb
    · subst hb
      exact .inl ⟨_, _, rx.int, ry.int, fin _ _ _ (.refl r) (res_d (.int _))⟩
    · rename_i xs ys
      unfold mkL at hb
      split at hb
      · rename_i hl
        cases hb
        obtain ⟨a, vs, rfl, h1, h2⟩ := rx.list r.sub
        obtain ⟨b, us, rfl, h3, h4⟩ := ry.list r.sub
        have e1 := dps_len h2
        have e2 := dps_len h4
        rw [List.length_append] at hl
        refine .inr (.inl ⟨a, b, vs, us, rfl, rfl, h1, h3, lim_ok (by omega), fun p hp => ?_⟩)
        obtain ⟨t, rs⟩ := new_o r hp (dps_append h2 h4)
        exact fin _ _ _ t rs
      · cases hb
    · rename_i xs ys
      unfold mkT at hb
      split at hb
      · rename_i hl
        cases hb
        obtain ⟨a, vs, rfl, h1, h2⟩ := rx.tup r.sub
        obtain ⟨b, us, rfl, h3, h4⟩ := ry.tup r.sub
        have e1 := dps_len h2
        have e2 := dps_len h4
        rw [List.length_append] at hl
        have hd := dps_append h2 h4
        refine .inr (.inr ⟨a, b, vs, us, rfl, rfl, h1, h3, lim_ok (by omega), fun z => ?_, fun _ z => ?_, fun _ _ p hp => ?_⟩)
        · have ex : xs = [] := List.length_eq_zero_iff.mp (by rw [← e1, z]; rfl)
          exact fin _ _ _ (.refl r) (res_d (by rw [ex, List.nil_append]; exact ry.tupD))
        · have ex : ys = [] := List.length_eq_zero_iff.mp (by rw [← e2, z]; rfl)
          exact fin _ _ _ (.refl r) (res_d (by rw [ex, List.append_nil]; exact rx.tupD))
        · obtain ⟨t, rs⟩ := new_t r hp hd
          exact fin _ _ _ t rs
      · cases hb
  · -- Sub
    refine ⟨_, op_sub, fun σ E H J v u x y w Q r rx ry hb fin => ?_⟩
    cases x <;> cases y <;> simp only [binD, Option.some.injEq, reduceCtorEq] at hb
    subst hb
    exact ⟨_, _, rx.int, ry.int, fin _ _ _ (.refl r) (res_d (.int _))⟩
  · -- Mult
    refine ⟨_, op_mulW, fun σ E H J v u x y w Q r rx ry hb fin => ?_⟩
    cases x <;> cases y <;> simp only [binD, Option.some.injEq, reduceCtorEq] at hb
    split at hb
    · rename_i hl
      cases hb
      exact ⟨_, _, rx.int, ry.int, hl, fin _ _ _ (.refl r) (res_d (.int _))⟩
    · cases hb
  · -- Mod
    refine ⟨_, op_mod, fun σ E H J v u x y w Q r rx ry hb fin => ?_⟩
    cases x <;> cases y <;> simp only [binD, Option.some.injEq, reduceCtorEq] at hb
    split at hb
    · rename_i hl
      cases hb
      exact ⟨_, _, rx.int, ry.int, hl, fin _ _ _ (.refl r) (res_d (.int _))⟩
    · cases hb
  · -- Pow
    refine ⟨_, op_pow, fun σ E H J v u x y w Q r rx ry hb fin => ?_⟩
    cases x <;> cases y <;> simp only [binD, Option.some.injEq, reduceCtorEq] at hb
    split at hb
    · rename_i hl
      cases hb
      exact ⟨_, _, rx.int, ry.int, hl, fin _ _ _ (.refl r) (res_d (.int _))⟩
    · cases hb
  · -- FloorDiv
    refine ⟨_, op_fdivW, fun σ E H J v u x y w Q r rx ry hb fin => ?_⟩
    cases x <;> cases y <;> simp only [binD, Option.some.injEq, reduceCtorEq] at hb
    split at hb
    · rename_i hl
      cases hb
      exact ⟨_, _, rx.int, ry.int, hl, fin _ _ _ (.refl r) (res_d (.int _))⟩
    · cases hb

/-! ### comparisons -/
theorem flat_dp {K : PySem.W.Frag} {H : Hp} {v : V} {x : D} (h : Dp K H v x) (f : isFlat x = true) : flatV v = true := by
  cases h <;> first | rfl | cases f
theorem eq_dp {K : PySem.W.Frag} {H : Hp} {v u : V} {x y : D} (h : Dp K H v x) (g : Dp K H u y) (f : isFlat x = true) (f2 : isFlat y = true) : eqV v u = PyData.eqv x y := by
  cases h <;> first | (cases f; done) | skip
  all_goals cases g <;> first | (cases f2; done) | rfl
theorem flats_dp {K : PySem.W.Frag} {H : Hp} : ∀ {vs : List V} {xs : List D}, DpAll K H vs xs → xs.all isFlat = true → vs.all flatV = true
  | [], _, h, _ => rfl
  | v :: vs, _, h, f => by
    cases h with
    | cons h1 h2 =>
      rw [List.all_cons, Bool.and_eq_true] at f ⊢
      exact ⟨flat_dp h1 f.1, flats_dp h2 f.2⟩
theorem inV_dp {K : PySem.W.Frag} {H : Hp} {v : V} {x : D} (h : Dp K H v x) (f : isFlat x = true) : ∀ {vs : List V} {xs : List D}, DpAll K H vs xs → xs.all isFlat = true → inV v vs = xs.any fun y => PyData.eqv y x
  | [], _, g, _ => by cases g; rfl
  | u :: vs, _, g, f2 => by
    cases g with
    | cons h1 h2 =>
      rw [List.all_cons, Bool.and_eq_true] at f2
      have ih := inV_dp h f h2 f2.2
      unfold inV at ih ⊢
      rw [List.any_cons, List.any_cons, ih, eq_dp h1 h f2.1 f]
def rIsD : R2 := fun x y H Q => rIsB x y H Q ∨ (y = .non ∧ Q (.bl (decide (x = .non))) H)
def rNotD : R2 := fun x y H Q => rNotB x y H Q ∨ (y = .non ∧ Q (.bl (!decide (x = .non))) H)
theorem non_dp {K : PySem.W.Frag} {H : Hp} {v : V} {x : D} (h : Dp K H v x) : decide (v = .non) = (match x with | .none => true | _ => false) := by
  cases h <;> simp
theorem cmp_ok {X : Cx} (hu : X.A.units + 64 < cLine) {o : CmpOp} {op : COp} (h : cop o = some op) : ∃ r : R2, OpR X (compareOp o) r ∧ ∀ (H J : Hp) (v u : V) (x y : D) (b : Bool) (Q : VK),
    Same J H → RD X.K H J v x → RD X.K H J u y → cmpD op x y = some b → Q (.bl b) H → r v u H Q := by
  have key : ∀ (H J : Hp) (v u : V) (x y : D) (b : Bool), Same J H → RD X.K H J v x → RD X.K H J u y → eqD x y = some b →
      (scal v u = true ∧ decide (v = u) = b) ∨ (∃ d e, L2.Dp X.K H v d ∧ L2.Dp X.K H u e ∧ SeqAt.shaped d = true ∧ SeqAt.shaped e = true ∧ PyData.eqv d e = b) := by
    intro H J v u x y b s rx ry hb
    unfold eqD at hb
    split at hb
    · cases hb
      rw [rx.str, ry.str]
      exact .inl ⟨rfl, by simp⟩
    · split at hb
      · rename_i hs
        rw [Bool.and_eq_true] at hs
        cases hb
        exact .inr ⟨_, _, dp_shaped hs.1 (rx.dp s), dp_shaped hs.2 (ry.dp s), hs.1, hs.2, rfl⟩
      · cases hb
  cases o <;> simp only [cop, Option.some.injEq] at h <;> subst h
  · -- Eq
    refine ⟨_, op_eq.or (op_eqD hu), fun H J v u x y b Q s rx ry hb q => ?_⟩
    rcases key H J v u x y b s rx ry hb with ⟨h1, h2⟩ | ⟨d, e, h1, h2, h3, h4, h5⟩
    · exact .inl ⟨h1, by rw [h2]; exact q⟩
    · exact .inr ⟨d, e, h1, h2, h3, h4, by rw [h5]; exact q⟩
  · -- NotEq
    refine ⟨_, op_ne.or (op_neD hu), fun H J v u x y b Q s rx ry hb q => ?_⟩
    obtain ⟨c, hc, rfl⟩ := Option.map_eq_some_iff.mp hb
    rcases key H J v u x y c s rx ry hc with ⟨h1, h2⟩ | ⟨d, e, h1, h2, h3, h4, h5⟩
    · exact .inl ⟨h1, by rw [h2]; exact q⟩
    · exact .inr ⟨d, e, h1, h2, h3, h4, by rw [h5]; exact q⟩
  · refine ⟨_, op_lt, fun H J v u x y b Q s rx ry hb q => ?_⟩
    cases x <;> cases y <;> simp only [cmpD, Option.some.injEq, reduceCtorEq] at hb
    subst hb
    exact ⟨_, _, rx.int, ry.int, q⟩
  · refine ⟨_, op_le, fun H J v u x y b Q s rx ry hb q => ?_⟩
    cases x <;> cases y <;> simp only [cmpD, Option.some.injEq, reduceCtorEq] at hb
    subst hb
    exact ⟨_, _, rx.int, ry.int, q⟩
  · refine ⟨_, op_gt, fun H J v u x y b Q s rx ry hb q => ?_⟩
    cases x <;> cases y <;> simp only [cmpD, Option.some.injEq, reduceCtorEq] at hb
    subst hb
    exact ⟨_, _, rx.int, ry.int, q⟩
  · refine ⟨_, op_ge, fun H J v u x y b Q s rx ry hb q => ?_⟩
    cases x <;> cases y <;> simp only [cmpD, Option.some.injEq, reduceCtorEq] at hb
    subst hb
    exact ⟨_, _, rx.int, ry.int, q⟩
  · -- Is
    refine ⟨_, op_isBl.or op_isN, fun H J v u x y b Q s rx ry hb q => ?_⟩
    cases y with
    | bool c =>
      cases x <;> simp only [cmpD, isD, Option.some.injEq, reduceCtorEq] at hb
      subst hb
      exact .inl ⟨_, _, rx.bool, ry.bool, q⟩
    | none =>
      refine .inr ⟨ry.none, ?_⟩
      rw [non_dp (rx.dp s)]
      cases x <;> simp only [cmpD, isD, Option.some.injEq, reduceCtorEq] at hb <;> (subst hb; exact q)
    | _ => cases x <;> simp only [cmpD, isD, reduceCtorEq] at hb
  · -- IsNot
    refine ⟨_, op_notBl.or op_notN, fun H J v u x y b Q s rx ry hb q => ?_⟩
    obtain ⟨c, hc, rfl⟩ := Option.map_eq_some_iff.mp hb
    cases y with
    | bool c =>
      cases x <;> simp only [isD, Option.some.injEq, reduceCtorEq] at hc
      subst hc
      exact .inl ⟨_, _, rx.bool, ry.bool, q⟩
    | none =>
      refine .inr ⟨ry.none, ?_⟩
      rw [non_dp (rx.dp s)]
      cases x <;> simp only [isD, Option.some.injEq, reduceCtorEq] at hc <;> (subst hc; exact q)
    | _ => cases x <;> simp only [isD, reduceCtorEq] at hc
  · -- In
    refine ⟨_, op_in_seq, fun H J v u x y b Q s rx ry hb q => ?_⟩
    have fin : ∀ ys, (y = .list ys ∨ y = .tuple ys) → inD x ys = some b → rIn X.K false v u H Q := by
      intro ys hy hi
      unfold inD at hi
      split at hi
      · rename_i hf
        rw [Bool.and_eq_true] at hf
        cases hi
        rcases hy with rfl | rfl
        · obtain ⟨a, vs, rfl, h1, h2⟩ := ry.list s
          refine ⟨a, vs, rfl, .inl h1, flat_dp (rx.dp s) hf.1, flats_dp h2 hf.2, ?_⟩
          rw [inV_dp (rx.dp s) hf.1 (dps_mono s _ _ h2) hf.2]
          exact q
        · obtain ⟨a, vs, rfl, h1, h2⟩ := ry.tup s
          refine ⟨a, vs, rfl, .inr h1, flat_dp (rx.dp s) hf.1, flats_dp h2 hf.2, ?_⟩
          rw [inV_dp (rx.dp s) hf.1 (dps_mono s _ _ h2) hf.2]
          exact q
      · cases hi
    cases y with
    | list ys => exact fin ys (.inl rfl) (by cases x <;> exact hb)
    | tuple ys => exact fin ys (.inr rfl) (by cases x <;> exact hb)
    | _ => cases x <;> simp only [cmpD, reduceCtorEq] at hb
  · -- NotIn
    refine ⟨_, op_notIn_seq, fun H J v u x y b Q s rx ry hb q => ?_⟩
    have fin : ∀ ys, (y = .list ys ∨ y = .tuple ys) → (inD x ys).map (!·) = some b → rIn X.K true v u H Q := by
      intro ys hy hi
      obtain ⟨c, hi2, ec⟩ := Option.map_eq_some_iff.mp hi
      subst ec
      unfold inD at hi2
      split at hi2
      · rename_i hf
        rw [Bool.and_eq_true] at hf
        have hc := Option.some.inj hi2
        subst hc
        rcases hy with rfl | rfl
        · obtain ⟨a, vs, rfl, h1, h2⟩ := ry.list s
          refine ⟨a, vs, rfl, .inl h1, flat_dp (rx.dp s) hf.1, flats_dp h2 hf.2, ?_⟩
          rw [inV_dp (rx.dp s) hf.1 (dps_mono s _ _ h2) hf.2]
          exact q
        · obtain ⟨a, vs, rfl, h1, h2⟩ := ry.tup s
          refine ⟨a, vs, rfl, .inr h1, flat_dp (rx.dp s) hf.1, flats_dp h2 hf.2, ?_⟩
          rw [inV_dp (rx.dp s) hf.1 (dps_mono s _ _ h2) hf.2]
          exact q
      · cases hi2
    cases y with
    | list ys => exact fin ys (.inl rfl) (by cases x <;> exact hb)
    | tuple ys => exact fin ys (.inr rfl) (by cases x <;> exact hb)
    | _ => cases x <;> simp only [cmpD, Option.map_none, reduceCtorEq] at hb
end PV
end

section
set_option Elab.async false
set_option linter.all false
set_option maxRecDepth 100000
set_option maxHeartbeats 1000000
set_option autoImplicit false
/-! PVdx: sorted(..) of tuples -/
open PySem PySem.SeqAt PyProof.Rows PySem.W in
theorem PV.call_tuple_lt {prog : Program} {w : World} {A : Around} {s : Shared} {E : Value → Shared → Prop} {Q : Value → Shared → Prop} {l b : Addr} {items items2 : Array Value} {e r : Nat → Bool} (hl : s.heap.IsTuple l items) (hb : s.heap.IsTuple b items2)
    (he : ∀ j (h1 : j < items.size) (h2 : j < items2.size), EqAt A.in1 s items[j] items2[j] (e j)) (hr : ∀ j (h1 : j < items.size) (h2 : j < items2.size), e j = false → RcLt A.in1 s items[j] items2[j] (r j))
    (h : Q (.bool (firstLt e r (decide (items.size < items2.size)) (List.range (min items.size items2.size)))) s) : wpAny (model prog w) A (call (.builtin "tuple.__lt__") [.ref l, .ref b]) Q E s := by
  obtain ⟨⟨cls, dd, data, sl⟩, ho, hc, n, hd⟩ := id hl
  obtain ⟨⟨cls2, dd2, data2, sl2⟩, ho2, hc2, n2, hd2⟩ := id hb
  simp only at hc hd hc2 hd2
  subst hc hd hc2 hd2
  exact call_meets F.slot_tuple_lt ⟨_, ho, rfl⟩ F.entry_tuple_lt (F.args_tuple_lt_2 _ _) (tuple_ltAt l b items items2 n n2 dd dd2 sl sl2 e r) ⟨ho, ho2, he, hr, h⟩
namespace PySem.W
open PySem PySem.Calls PyProof.Rows PySem.SeqAt
section
variable {prog : Program} {w : World} {A : Around} {s : Shared}
theorem alike_emp {ds : List PyData} (h0 : ∀ d ∈ ds, d = .tuple []) : AllAlike ds := fun d hd d' hd' => by
  rw [h0 d hd, h0 d' hd']
  simp [alike, alikeAll]
/-- tuples with no item -/
theorem SortsAt.emp {vs : List Value} {ds : List PyData} (e : EachIs (fun v d => ∃ as, Reads s.heap v d as) vs ds) (h0 : ∀ d ∈ ds, d = .tuple []) (hu : A.units < cLine) : SortsAt prog w A s (dataKind s.heap ds) vs := by
  have hal := alike_emp h0
  refine ⟨fun v hv => ?_, oneType', ?_, fun h2 E Q hq => ?_⟩
  · obtain ⟨d, hd, as, r⟩ := e.left v hv
    exact ⟨_, dataKind_some hal hd r⟩
  · intro E x y a b Q ha hb hq
    obtain ⟨d, as, hd, ra, rfl⟩ := dataKind_inv ha
    obtain ⟨d', as', hd', rb, rfl⟩ := dataKind_inv hb
    have e1 := h0 d hd
    have e2 := h0 d' hd'
    subst e1 e2
    rw [keyLt'_oneType]
    cases ra with
    | @tuple l o us n _ as₁ h1 h2 h3 h4 =>
      cases rb with
      | @tuple l' o' us' n' _ bs₁ k1 k2 k3 k4 =>
        have n1 : us.size = 0 := by simpa using ReadsAll.length _ _ _ h4
        have n2 : us'.size = 0 := by simpa using ReadsAll.length _ _ _ k4
        have hq' : Q (dataLt (.tuple []) (.tuple [])) s := hq
        rw [dataLt_tuple, ← firstLt_toks [] [] (by simp [alikeAll])] at hq'
        rw [oneLt'_eq]
        simp only [if_true]
        refine wpAny_bind (wpAny_cRoomFor hu ?_)
        refine wpAny_bind (wpAny_callSpecialIfBound?_slot (T := "tuple") ⟨_, h1, h2⟩ F.slot_tuple_lt (PV.call_tuple_lt (e := pairEq [] []) (r := fun j => dataLt (([] : List PyData).getD j .none) (([] : List PyData).getD j .none)) ⟨_, h1, h2, _, h3⟩ ⟨_, k1, k2, _, k3⟩ (fun j j1 j2 => by omega) (fun j j1 j2 => by omega) ?_))
        rw [n1, n2]
        exact wpAny_truthy_bool hq'
  · obtain ⟨v₁, v₂, rest, rfl⟩ : ∃ v₁ v₂ rest, vs = v₁ :: v₂ :: rest := by
      match vs, h2 with
      | [], h2 => simp at h2
      | [_], h2 => simp at h2
      | v₁ :: v₂ :: rest, _ => exact ⟨v₁, v₂, rest, rfl⟩
    have hv : ∀ v ∈ v₁ :: v₂ :: rest, ∃ a o xs n, v = Value.ref a ∧ s.heap.get? a = some o ∧ o.cls = .type "tuple" ∧ o.data = .seq xs n ∧ xs.size = 0 := fun v hv => by
      obtain ⟨d, hd, as, r⟩ := e.left v hv
      rw [h0 d hd] at r
      cases r with
      | @tuple l o us n _ as₁ h1 h2 h3 h4 => exact ⟨l, o, us, n, rfl, h1, h2, h3, by simpa using ReadsAll.length _ _ _ h4⟩
    rw [keyKind'_eq, List.mapM_toArray, map_eq_pure_bind]
    refine wpAny_bind (wpAny_bind (kas_mapM (r := none) _ (fun v hm Q' hq => ?_) (wpAny_pure ?_)))
    · obtain ⟨a, o, xs, n, rfl, ho, hc, hd, hs⟩ := hv v hm
      rw [kas_first_eq]
      refine wpAny_bind (Looks.here (show Looks _ s.heap (typeOf (.ref a)) o.cls from (Looks.ld ho).andThen .now) ?_)
      rw [hc, if_neg (by first | decide | simp)]
      refine wpAny_bind (listItems_at ho hd (wpAny_pure ?_))
      rw [show xs[0]? = none from Array.getElem?_eq_none (by omega)]
      exact hq
    · rw [if_neg (by simp), if_neg (by simp)]
      rw [oneTypeOnly'_eq, List.mapM_toArray, map_eq_pure_bind]
      refine wpAny_bind (wpAny_bind (wpAny_bind (kas_mapM (r := Value.type "tuple") _ (fun v hm Q' hq => ?_) (wpAny_pure ?_))))
      · obtain ⟨a, o, xs, n, rfl, ho, hc, hd, hs⟩ := hv v hm
        have : Looks (model prog w) s.heap (typeOf (.ref a)) o.cls := (Looks.ld ho).andThen .now
        rw [hc] at this
        exact this.here hq
      have hall : ((List.map (fun _ => Value.type "tuple") (v₁ :: v₂ :: rest)).toArray.all fun x => x == Value.type "tuple") = true := by
        simp only [List.all_toArray, List.all_map, List.all_eq_true]
        intro _ _
        exact beq_self_eq_true _
      have h0 : (List.map (fun _ => Value.type "tuple") (v₁ :: v₂ :: rest)).toArray[0]? = some (Value.type "tuple") := by simp
      rw [h0]
      simp only [hall, if_true]
      exact wpAny_pure (wpAny_pure hq)
end
end PySem.W
namespace PV
open PySem PySem.Spec L2 PySem.W
section
variable {X : Cx}
theorem tups_cases {ds : List D} (h : tupsOk ds = true) : (∀ d ∈ ds, d = .tuple []) ∨ ((∀ d ∈ ds, ∃ x r, d = PyData.tuple (x :: r)) ∧ AllAlike ds ∧ ∀ d ∈ ds, d.canLay0 = true ∧ d.depth ≤ 60) := by
  unfold tupsOk at h
  rw [Bool.or_eq_true] at h
  rcases h with h | h
  · refine .inl fun d hd => ?_
    have := List.all_eq_true.mp h d hd
    cases d <;> first | (exact absurd this Bool.false_ne_true) | skip
    rename_i xs
    cases xs with
    | nil => rfl
    | cons => exact absurd this Bool.false_ne_true
  · simp only [Bool.and_eq_true] at h
    refine .inr ⟨fun d hd => ?_, fun d hd d' hd' => List.all_eq_true.mp (List.all_eq_true.mp h.1.2 d hd) d' hd', fun d hd => ?_⟩
    · have := List.all_eq_true.mp h.1.1 d hd
      cases d <;> first | (exact absurd this Bool.false_ne_true) | skip
      rename_i xs
      cases xs with
      | nil => exact absurd this Bool.false_ne_true
      | cons x r => exact ⟨x, r, rfl⟩
    · have := List.all_eq_true.mp h.2 d hd
      rw [Bool.and_eq_true, decide_eq_true_eq] at this
      exact this
def rSortedD (K : PySem.W.Frag) : List V → Hp → VK → Prop := fun vs H Q => ∃ (a : Addr) (xs : List V) (ds : List D), vs = [.ref a] ∧ SqL K H a xs ∧ L2.DpAll K H xs ds ∧ tupsOk ds = true ∧ ds.length ≤ lim ∧
  ∀ (bs : List (V × D)) p, bs.map (·.2) = sortD ds → (∀ b ∈ bs, b ∈ xs.zip ds) → H p = none → Q (.ref p) (upd H p (.lst (bs.map (·.1))))
theorem each_zip {s : Shared} {pins : List (Addr × Obj)} {σ : St} {H : Hp} (I : Inv X pins σ H s) : ∀ {xs : List V} {ds : List D} {us : List Value}, L2.DpAll X.K H xs ds → Vals xs us → EachIs (fun u b => RelV b.1 u) us (xs.zip ds) ∧ EachIs (fun u b => ∃ as, Reads s.heap u b.2 as) us (xs.zip ds) ∧ EachIs (fun u d => ∃ as, Reads s.heap u d as) us ds
  | _, [], _, h, r => by cases h; cases r; exact ⟨.nil, .nil, .nil⟩
  | _, d :: ds, _, h, r => by
    cases h with
    | cons h1 h2 => cases r with
      | cons r1 r2 =>
        obtain ⟨a, b, c⟩ := each_zip I h2 r2
        exact ⟨.cons r1 a, .cons (Dp.reads I d _ _ h1 r1) b, .cons (Dp.reads I d _ _ h1 r1) c⟩
theorem dpl_len {K : PySem.W.Frag} {H : Hp} : ∀ {xs : List V} {ds : List D}, L2.DpAll K H xs ds → xs.length = ds.length
  | _, [], h => by cases h; rfl
  | _, d :: ds, h => by
    cases h with
    | cons h1 h2 => simp [dpl_len h2]
theorem zip_snd {α β : Type} : ∀ {xs : List α} {ds : List β}, xs.length = ds.length → (xs.zip ds).map Prod.snd = ds
  | [], [], _ => rfl
  | x :: xs, d :: ds, h => by simp [zip_snd (xs := xs) (ds := ds) (by simpa using h)]
  | [], _ :: _, h => by simp at h
  | _ :: _, [], h => by simp at h
theorem zip_sorted {xs : List V} {ds : List D} (h : xs.length = ds.length) : ((xs.zip ds).mergeSort (dataLe false Prod.snd)).map (·.2) = sortD ds := by
  unfold sortD
  rw [show (fun b : V × D => b.2) = Prod.snd from rfl]
  rw [List.map_mergeSort (r := dataLe false Prod.snd) (s := dataLe false id) (f := Prod.snd) (fun a _ b _ => rfl), zip_snd h]
theorem vals_of {R : V × D → Value → Prop} : ∀ {us : List Value} {bs : List (V × D)}, EachIs (fun u b => RelV b.1 u) us bs → Vals (bs.map (·.1)) us
  | _, [], h => by cases h; exact .nil
  | _, b :: bs, h => by
    cases h with
    | cons h1 h2 => exact .cons h1 (vals_of (R := R) h2)
theorem cr_sortedD (hu : X.A.units + 64 < cLine) : CallR X (.builtin "sorted") (rSortedD X.K) := by
  intro pins s σ H vs us Q I r h
  obtain ⟨a, xs, ds, rfl, hs, hd, ht, hm, q⟩ := h
  obtain ⟨its, rv, hl, hz⟩ := I.list hs
  obtain ⟨u, rfl, ru⟩ := vals1 r
  obtain rfl : u = Value.ref a := ru
  obtain ⟨e, er, ed⟩ := each_zip I hd rv
  have hlen := dpl_len hd
  have hb : (xs.zip ds).map Prod.snd = ds := zip_snd hlen
  have hal : AllAlike ((xs.zip ds).map Prod.snd) := by
    rw [hb]
    rcases tups_cases ht with h | h
    · exact alike_emp h
    · exact h.2.1
  have hS : SortsAt X.prog X.w X.A.in1.in1 { s with heap := sortingHeap (copyHeap s.heap its) (s.heap.objs.size + 1) its } (dataKind (sortingHeap (copyHeap s.heap its) (s.heap.objs.size + 1) its) ((xs.zip ds).map Prod.snd)) its := by
    rw [hb]
    have ed' : EachIs (fun v d => ∃ as, Reads (sortingHeap (copyHeap s.heap its) (s.heap.objs.size + 1) its) v d as) its ds := ed.mono fun _ _ ⟨as, r⟩ => ⟨as, PyProof.Rows.Reads.keeps (fun _ _ => sorting_copy_old) r⟩
    rcases tups_cases ht with h | ⟨h1, h2, h3⟩
    · exact SortsAt.emp (s := { s with heap := sortingHeap (copyHeap s.heap its) (s.heap.objs.size + 1) its }) ed' h (by show X.A.units + 2 < cLine; omega)
    · exact SortsAt.data (s := { s with heap := sortingHeap (copyHeap s.heap its) (s.heap.objs.size + 1) its }) ed' h2 (.inl h1) fun d hd => by
        have := (h3 d hd).2
        show X.A.units + 2 + d.depth < cLine
        omega
  have er' : EachIs (fun v b => ∃ as, Reads (sortingHeap (copyHeap s.heap its) (s.heap.objs.size + 1) its) v b.2 as) its (xs.zip ds) := er.mono fun _ _ ⟨as, r⟩ => ⟨as, PyProof.Rows.Reads.keeps (fun _ _ => sorting_copy_old) r⟩
  have hlz : its.length ≤ sizeLine := by rw [← rv.length]; exact hz
  refine sorted_vals hl.isList hS hlz ?_
  have ho := sortVals_data (enc := Prod.snd) false e er' hal
  generalize hout : sortVals (dataKind (sortingHeap (copyHeap s.heap its) (s.heap.objs.size + 1) its) ((xs.zip ds).map Prod.snd)) false its its = out at ho ⊢
  obtain ⟨n, hn⟩ := PyProof.Rows.sortedAll_at s.heap its out.toArray
  refine ⟨.ref (s.heap.objs.size + 1), upd H (s.heap.objs.size + 1) (.lst (((xs.zip ds).mergeSort (dataLe false Prod.snd)).map (·.1))), I.laid (t' := s.toks) (fun _ _ => PyProof.Rows.sortedAll_old) (Nat.le_succ _) ⟨?_, out, n, vals_of (R := fun _ _ => True) ho, hn⟩, rfl, q _ _ (zip_sorted hlen) (fun b hb => (List.mergeSort_perm _ _).mem_iff.mp hb) (I.hok.fresh (Nat.le_succ _))⟩
  rw [List.length_map, List.length_mergeSort, List.length_zip, hlen, Nat.min_self]
  exact Nat.le_trans hm (by rw [sizeLine_eq]; decide)
end
end PV
end

section
set_option Elab.async false
set_option linter.all false
set_option maxRecDepth 100000
set_option maxHeartbeats 1000000
set_option autoImplicit false
/-! PVe: subscripts, slices, built-ins -/
namespace PV
open PySem PySem.Spec L2

/-! ### data of ints, of bools -/
theorem ints_eq : ∀ {xs : List D} {ns : List Int}, intsD xs = some ns → xs = ns.map .int
  | [], _, h => by cases h; rfl
  | .int i :: r, ns, h => by
    obtain ⟨m, hm, e⟩ := Option.map_eq_some_iff.mp (show (intsD r).map (i :: ·) = some ns from h)
    subst e
    rw [ints_eq hm]; rfl
  | .none :: _, _, h => nomatch h
  | .bool _ :: _, _, h => nomatch h
  | .str _ :: _, _, h => nomatch h
  | .list _ :: _, _, h => nomatch h
  | .tuple _ :: _, _, h => nomatch h
  | .dict _ :: _, _, h => nomatch h
theorem bools_eq : ∀ {xs : List D} {ns : List Bool}, boolsD xs = some ns → xs = ns.map .bool
  | [], _, h => by cases h; rfl
  | .bool i :: r, ns, h => by
    obtain ⟨m, hm, e⟩ := Option.map_eq_some_iff.mp (show (boolsD r).map (i :: ·) = some ns from h)
    subst e
    rw [bools_eq hm]; rfl
  | .none :: _, _, h => nomatch h
  | .int _ :: _, _, h => nomatch h
  | .str _ :: _, _, h => nomatch h
  | .list _ :: _, _, h => nomatch h
  | .tuple _ :: _, _, h => nomatch h
  | .dict _ :: _, _, h => nomatch h
theorem intsD_map (ns : List Int) : intsD (ns.map .int) = some ns := by
  induction ns with
  | nil => rfl
  | cons n r ih => simp [intsD, ih]
theorem boolsD_map (ns : List Bool) : boolsD (ns.map .bool) = some ns := by
  induction ns with
  | nil => rfl
  | cons n r ih => simp [boolsD, ih]
section
variable {K : PySem.W.Frag} {H J : Hp}
theorem dps_ofInts : ∀ {ns : List Int} {vs : List V}, DpAll K J vs (ns.map .int) → vs = ns.map V.int
  | [], _, h => by cases h; rfl
  | n :: r, _, h => by
    cases h with
    | cons h1 h2 => cases h1; rw [dps_ofInts h2]; rfl
theorem dps_ofBools : ∀ {ns : List Bool} {vs : List V}, DpAll K J vs (ns.map .bool) → vs = ns.map V.bl
  | [], _, h => by cases h; rfl
  | n :: r, _, h => by
    cases h with
    | cons h1 h2 => cases h1; rw [dps_ofBools h2]; rfl
end
theorem maxI_spec : ∀ {ns : List Int} {m : Int}, maxI ns = some m → m ∈ ns ∧ ∀ y ∈ ns, y ≤ m
  | [], _, h => nomatch h
  | [x], m, h => by cases h; simp
  | x :: y :: r, m, h => by
    obtain ⟨k, hk, e⟩ := Option.map_eq_some_iff.mp (show (maxI (y :: r)).map (max x) = some m from h)
    obtain ⟨h1, h2⟩ := maxI_spec hk
    subst e
    refine ⟨?_, fun z hz => ?_⟩
    · rcases Int.le_total x k with q | q
      · rw [Int.max_eq_right q]; exact List.mem_cons_of_mem _ h1
      · rw [Int.max_eq_left q]; exact List.mem_cons_self
    · rcases List.mem_cons.mp hz with e | hz
      · subst e; exact Int.le_max_left _ _
      · exact Int.le_trans (h2 z hz) (Int.le_max_right _ _)
theorem minI_spec : ∀ {ns : List Int} {m : Int}, minI ns = some m → m ∈ ns ∧ ∀ y ∈ ns, m ≤ y
  | [], _, h => nomatch h
  | [x], m, h => by cases h; simp
  | x :: y :: r, m, h => by
    obtain ⟨k, hk, e⟩ := Option.map_eq_some_iff.mp (show (minI (y :: r)).map (min x) = some m from h)
    obtain ⟨h1, h2⟩ := minI_spec hk
    subst e
    refine ⟨?_, fun z hz => ?_⟩
    · rcases Int.le_total x k with q | q
      · rw [Int.min_eq_left q]; exact List.mem_cons_self
      · rw [Int.min_eq_right q]; exact List.mem_cons_of_mem _ h1
    · rcases List.mem_cons.mp hz with e | hz
      · subst e; exact Int.min_le_left _ _
      · exact Int.le_trans (Int.min_le_right _ _) (h2 z hz)
theorem isort_perm (ns : List Int) : (isort ns).Perm ns := List.mergeSort_perm _ _
theorem isort_sorted (ns : List Int) : (isort ns).Pairwise (· ≤ ·) := by
  have h := List.pairwise_mergeSort (le := fun a b : Int => decide (a ≤ b)) (fun a b c h1 h2 => decide_eq_true (Int.le_trans (of_decide_eq_true h1) (of_decide_eq_true h2)))
    (fun a b => by
      rcases Int.le_total a b with h | h
      · simp [h]
      · simp [h]) ns
  exact h.imp fun h => of_decide_eq_true h
theorem isort_unique {ns ms : List Int} (h1 : ms.Perm ns) (h2 : ms.Pairwise (· ≤ ·)) : ms = isort ns :=
  List.Perm.eq_of_pairwise (fun a b _ _ h g => Int.le_antisymm h g) h2 (isort_sorted ns) (h1.trans (isort_perm ns).symm)

/-! ### how long a written value is -/
theorem textFrom_le : ∀ (ts : List Str) (k : Nat) (acc : Str), (textFrom k acc ts).length ≤ acc.length + piled ts
  | [], k, acc => by simp [textFrom, piled]
  | t :: r, k, acc => by
    have h := textFrom_le r (k + 1) (acc ++ (if k > 0 then ", " else "" : String) ++ t)
    rw [strLen_append, strLen_append] at h
    have e : ((Str.ofString (if k > 0 then ", " else "" : String)).length) ≤ 2 := by split <;> decide
    rw [piled_cons]
    show (textFrom (k + 1) _ r).length ≤ _
    omega
theorem listText_le (ts : List Str) : (listText ts).length ≤ piled ts + 2 := by
  unfold listText
  rw [strLen_append]
  have h := textFrom_le ts 0 "["
  have e1 : ((Str.ofString "[").length) = 1 := rfl
  have e2 : ((Str.ofString "]").length) = 1 := rfl
  omega
theorem tupleText_le (ts : List Str) : (tupleText ts).length ≤ piled ts + 3 := by
  unfold tupleText
  rw [strLen_append, strLen_append]
  have e1 : ((Str.ofString "(").length) = 1 := rfl
  have e2 : ((Str.ofString (if ts.length == 1 then ",)" else ")" : String)).length) ≤ 2 := by split <;> decide
  cases ts with
  | nil =>
    have e3 : (Str.join (Str.ofString ", ") []).length = 0 := rfl
    have e3' : (Str.join ", " []).length = 0 := rfl
    omega
  | cons t r =>
    have h := join_length_add (t :: r) (by simp)
    omega
mutual
theorem shown_le : ∀ d : D, d.showable = true → rsz d ≤ 16000000 → d.shown.length ≤ rsz d
  | .none, _, _ => by decide
  | .bool b, _, _ => by cases b <;> decide
  | .int i, h, _ => by
    have h' : i.natAbs.log2 < 1920 := by simpa [PyData.showable] using h
    have := PyProof.Rows.int_text_len_1921 h'
    simpa [PyData.shown, rsz] using this
  | .str x, _, _ => by simp only [rsz]; exact Nat.le_refl _
  | .dict _, _, h => by simp [rsz] at h
  | .list xs, h, g => by
    simp only [rsz] at g ⊢
    have := shownAll_le xs (by simpa [PyData.showable] using h) (by omega)
    have h2 := listText_le (PyData.shownAll xs)
    simp only [PyData.shown]
    omega
  | .tuple xs, h, g => by
    simp only [rsz] at g ⊢
    have := shownAll_le xs (by simpa [PyData.showable] using h) (by omega)
    have h2 := tupleText_le (PyData.shownAll xs)
    simp only [PyData.shown]
    omega
theorem shownAll_le : ∀ xs : List D, PyData.showableAll xs = true → rszAll xs ≤ 16000000 → piled (PyData.shownAll xs) ≤ rszAll xs
  | [], _, _ => by simp [PyData.shownAll, piled]
  | x :: r, h, g => by
    simp only [rszAll] at g ⊢
    have h' : x.showable = true ∧ PyData.showableAll r = true := by simpa [PyData.showableAll] using h
    have h1 := shown_le x h'.1 (by omega)
    have h2 := shownAll_le r h'.2 (by omega)
    simp only [PyData.shownAll]
    rw [piled_cons]
    omega
end

section
variable {X : Cx}
def rRepr (K : PySem.W.Frag) : List V → Hp → VK → Prop := fun xs H Q => ∃ a d, xs = [.ref a] ∧ L2.Dp K H (.ref a) d ∧ SeqAt.shaped d = true ∧ d.showable = true ∧ rsz d ≤ 16000000 ∧ Q (.str d.shown) H
theorem call_reprD (hg : X.A.guards = some []) (hu : X.A.units + 70 < cLine) : CallR X (.builtin "repr") (rRepr X.K) := by
  intro pins s σ H xs us Q I r h
  obtain ⟨a, d, rfl, hd, h1, h2, h3, q⟩ := h
  obtain ⟨u, rfl, e⟩ := vals1 r
  cases e
  obtain ⟨as, hr⟩ := L2.Dp.reads I d _ _ hd rfl
  have hdep := SeqAt.depth_of_shaped h1
  refine repr_of_reads' hr h2 (PyData.noDict_hsm (PyData.hasDict_of_canLay d (SeqAt.canLay_of_shaped h1))) hg (by omega) (fun _ _ e => e) (fun h' u tk hk => ⟨.str d.shown, H, I.kept hk, ⟨u, rfl⟩, q⟩) ?_
  have := shown_le d h2 h3
  exact Nat.le_trans this (Nat.le_trans h3 (by rw [sizeLine_eq]; decide))

def rReprB (K : PySem.W.Frag) : List V → Hp → VK → Prop := fun xs H Q => rRepr K xs H Q ∨ (xs = [.non] ∧ Q (.str (PyData.shown .none)) H) ∨ (∃ b, xs = [.bl b] ∧ Q (.str (PyData.shown (.bool b))) H) ∨
  (∃ i, xs = [.int i] ∧ i.natAbs.log2 < 1920 ∧ Q (.str (PyData.shown (.int i))) H) ∨ (∃ x, xs = [.str x] ∧ (PyData.shown (.str x)).length ≤ 1000000 ∧ Q (.str (PyData.shown (.str x))) H) ∨ ∃ a, xs = [.ref a] ∧ H a = some (.dK []) ∧ Q (.str (PyData.shown (.dict []))) H
theorem call_reprB (hg : X.A.guards = some []) (hu : X.A.units + 70 < cLine) : CallR X (.builtin "repr") (rReprB X.K) := by
  intro pins s σ H xs us Q I r h
  rcases h with h | ⟨rfl, q⟩ | ⟨b, rfl, q⟩ | ⟨i, rfl, hi, q⟩ | ⟨x, rfl, hx, q⟩ | ⟨a, rfl, ha, q⟩
  · exact call_reprD hg hu pins s σ H xs us Q I r h
  · obtain ⟨u, rfl, e⟩ := vals1 r
    cases e
    exact PySem.P.repr_of_none ⟨.str _, H, I.tok _, ⟨_, rfl⟩, q⟩
  · obtain ⟨u, rfl, e⟩ := vals1 r
    cases e
    cases b
    · exact PySem.P.repr_of_bool ⟨.str _, H, I.tok _, ⟨_, rfl⟩, q⟩
    · exact PySem.P.repr_of_bool ⟨.str _, H, I.tok _, ⟨_, rfl⟩, q⟩
  · obtain ⟨u, rfl, e⟩ := vals1 r
    obtain ⟨t, rfl⟩ := e
    exact PySem.P.repr_of_int hi ⟨.str _, H, I.tok _, ⟨_, rfl⟩, q⟩
  · obtain ⟨u, rfl, e⟩ := vals1 r
    obtain ⟨t, rfl⟩ := e
    exact PySem.P.repr_of_str ⟨.str _, H, I.tok _, ⟨_, rfl⟩, q⟩ (Nat.le_trans hx (by rw [sizeLine_eq]; decide))
  · obtain ⟨u, rfl, e⟩ := vals1 r
    cases e
    obtain ⟨z, hd, vs, rel, o, es, ep, h1, h2, h3, _, h4, _⟩ := dk_rd I.hok (.inl ha)
    have hv : vs = [] := by
      cases rel
      rfl
    subst hv
    have he : es.toList = [] := by
      have := h4.length
      exact List.length_eq_zero_iff.mp this
    have rd : Reads s.heap (.ref a) (.dict []) (a :: [] ++ []) := Reads.dict h1 h2.1 h3 (by rw [he]; exact .nil) (by rw [he]; exact .nil)
    have hdp : PyData.depth (.dict []) ≤ 1 := by decide
    refine repr_of_reads' rd rfl (fun _ z => ?_) hg (by omega) (fun _ _ e => e) (fun h' u tk hk => ⟨.str _, H, I.kept hk, ⟨u, rfl⟩, q⟩) (by rw [sizeLine_eq]; decide)
    have : a = sysModules := by
      have := List.mem_singleton.mp (show sysModules ∈ [a] from z)
      exact this.symm
    rw [this] at hd
    exact absurd hd (by simp)

/-! ### d[i] -/
def rIxK : R2 := fun x y H Q => ∃ (p : Addr) (kvs : List (Key × V)) (i : Int) (v : V), x = .ref p ∧ y = .int i ∧ H p = some (.dK kvs) ∧ valV kvs (.inl i) = some v ∧ Q v H
theorem ix_dct : IxR X rIxK := by
  intro value slice pins s σ H x y v u Q I rx ry h hs
  obtain ⟨p, kvs, i, z, rfl, rfl, e, l, q⟩ := h
  obtain rfl : v = Value.ref p := rx
  obtain ⟨_, hd, vs, rel, dd⟩ := dk_rd I.hok (.inl e)
  obtain ⟨w', hw, rw'⟩ := RelO.some_of (v := z) (o := valueAt vs (.inl i)) (by rw [← l]; exact rel.val (.inl i))
  exact PyProof.Rows.tail_any dd.mapOf.typeIs slot_dict_getitem.lookup (wpAny_getItem_of (kV_is (k := .inl i) ry) dd.mapOf hw ⟨z, H, I.tok _, rw', q⟩) hs
theorem dpd_find {K : PySem.W.Frag} {J : Hp} {i : Int} {z : D} {kvs : List (Key × V)} {es : List (D × D)} (h : DpD K J kvs es) : findK es i = some z → ∃ w, valV kvs (.inl i) = some w ∧ Dp K J w z := by
  induction kvs generalizing es with
  | nil => cases h; intro e; cases e
  | cons kv kvs ih =>
    cases h with
    | cons d r =>
      rename_i j v d0 es
      intro e
      by_cases hj : j = i
      · rw [show findK ((PyData.int j, d0) :: es) i = some d0 from if_pos hj] at e
        cases e
        exact ⟨v, valV_pos (by rw [hj]), d⟩
      · rw [show findK ((PyData.int j, d0) :: es) i = findK es i from if_neg hj] at e
        obtain ⟨w, h1, h2⟩ := ih r e
        exact ⟨w, by rw [valV_neg (fun q => hj (Sum.inl.inj q))]; exact h1, h2⟩
/-- x[i] -/
theorem idx_ok : ∃ r : R2, IxR X r ∧ ∀ (H J : Hp) (v u : V) (x y z : D) (Q : VK), Same J H → RD X.K H J v x → RD X.K H J u y → idxD x y = some z → (∀ w, Dp X.K J w z → Q w H) → r v u H Q := by
  refine ⟨_, (ix_list.or ix_tup).or ix_dct, fun H J v u x y z Q s rx ry h q => ?_⟩
  have key : ∀ (xs : List D) (vs : List V) (i : Int), DpAll X.K J vs xs → dAt xs i = some z → ∃ w, atI vs i = some w ∧ Dp X.K J w z := by
    intro xs vs i hd hz
    obtain ⟨j, hj, hx⟩ := Option.bind_eq_some_iff.mp hz
    obtain ⟨w, hw, dw⟩ := dps_get hd hx
    refine ⟨w, ?_, dw⟩
    unfold atI
    rw [dps_len hd]
    rw [show ixN xs.length i = some j from hj]
    exact hw
  cases x <;> cases y <;> simp only [idxD, reduceCtorEq] at h
  · obtain ⟨a, vs, rfl, h1, h2⟩ := rx.list s
    obtain ⟨w, hw, dw⟩ := key _ _ _ h2 h
    exact .inl (.inl ⟨a, vs, _, w, rfl, ry.int, h1, hw, q w dw⟩)
  · obtain ⟨a, vs, rfl, h1, h2⟩ := rx.tup s
    obtain ⟨w, hw, dw⟩ := key _ _ _ h2 h
    exact .inl (.inr ⟨a, vs, _, w, rfl, ry.int, h1, hw, q w dw⟩)
  · obtain ⟨a, kvs, rfl, h1, h2⟩ := rx.dict s
    obtain ⟨w, hw, dw⟩ := dpd_find h2 h
    exact .inr ⟨a, kvs, _, w, rfl, ry.int, h1, hw, q w dw⟩
theorem cut_dp {K : PySem.W.Frag} {J : Hp} {vs : List V} {xs : List D} (h : DpAll K J vs xs) (lo hi : Option Int) : DpAll K J (cutV vs lo hi) (cutD xs lo hi) := by
  unfold cutV cutD
  rw [dps_len h]
  exact dps_take _ (dps_drop _ h)
/-- x[lo:hi] -/
theorem slc_ok : ∃ r : V → Option Int → Option Int → Hp → VK → Prop, SlR X r ∧ ∀ (σ : St) (E : DE) (H J : Hp) (v : V) (x : D) (lo hi : Option Int) (w : W) (Q : VK),
    Rel X.K H J σ E → RD X.K H J v x → slcD x lo hi = some w → Fin1 X.K σ E H J w Q → r v lo hi H Q := by
  refine ⟨_, sl_list.or sl_tupA, fun σ E H J v x lo hi w Q r rx h fin => ?_⟩
  cases x <;> simp only [slcD, Option.some.injEq, reduceCtorEq] at h
  · subst h
    obtain ⟨a, vs, rfl, h1, h2⟩ := rx.list r.sub
    refine .inl ⟨a, vs, rfl, h1, fun p hp => ?_⟩
    obtain ⟨t, rs⟩ := new_o r hp (cut_dp h2 lo hi)
    exact fin _ _ _ t rs
  · subst h
    have hD := rx.tupD
    obtain ⟨a, vs, rfl, h1, h2⟩ := rx.tup r.sub
    refine .inr ⟨a, vs, rfl, h1, fun z => fin _ _ _ (.refl r) (res_d ?_), fun _ p hp => ?_⟩
    · rename_i xs
      have e : cutD xs lo hi = xs := by
        unfold cutD
        have e2 := dps_len h2
        rw [e2] at z
        rw [z.1, z.2, List.drop_zero, Nat.sub_zero, List.take_length]
      rw [e]
      exact hD
    · obtain ⟨t, rs⟩ := new_t r hp (cut_dp h2 lo hi)
      exact fin _ _ _ t rs

/-! ### built-ins -/
/-- a built-in's answer to one value, to two -/
def Bi1 (K : PySem.W.Frag) (b : Bi) (r : List V → Hp → VK → Prop) : Prop := ∀ (σ : St) (E : DE) (H J : Hp) (v : V) (d : D) (w : W) (Q : VK),
  Rel K H J σ E → RD K H J v d → bi1D b d = some w → Fin1 K σ E H J w Q → r [v] H Q
def Bi2 (K : PySem.W.Frag) (b : Bi) (r : List V → Hp → VK → Prop) : Prop := ∀ (σ : St) (E : DE) (H J : Hp) (v u : V) (d e : D) (w : W) (Q : VK),
  Rel K H J σ E → RD K H J v d → RD K H J u e → bi2D b d e = some w → Fin1 K σ E H J w Q → r [v, u] H Q
theorem bi_len : Bi1 X.K .len (fun xs H Q => ∃ p ys, xs = [.ref p] ∧ (SqL X.K H p ys ∨ SqT X.K H p ys) ∧ Q (.int ys.length) H) := by
  intro σ E H J v d w Q r r1 h fin
  cases d <;> simp only [bi1D, Option.some.injEq, reduceCtorEq] at h
  · subst h
    obtain ⟨a, us, rfl, h1, h2⟩ := r1.list r.sub
    refine ⟨a, us, rfl, .inl h1, ?_⟩
    rw [dps_len h2]
    exact fin _ _ _ (.refl r) (res_d (.int _))
  · subst h
    obtain ⟨a, us, rfl, h1, h2⟩ := r1.tup r.sub
    refine ⟨a, us, rfl, .inr h1, ?_⟩
    rw [dps_len h2]
    exact fin _ _ _ (.refl r) (res_d (.int _))
theorem bi_abs : Bi1 X.K .abs (fun xs H Q => ∃ i, xs = [.int i] ∧ Q (.int (if i < 0 then -i else i)) H) :=
  fun σ E H J v d w Q r rd h fin => by
    cases d <;> simp only [bi1D, Option.some.injEq, reduceCtorEq] at h
    subst h
    rw [rd.int]
    exact ⟨_, rfl, fin _ _ _ (.refl r) (res_d (.int _))⟩
theorem bi_int : Bi1 X.K .int (fun xs H Q => (∃ i, xs = [.int i] ∧ Q (.int i) H) ∨ ∃ k, xs = [.bl k] ∧ Q (.int (if k then 1 else 0)) H) :=
  fun σ E H J v d w Q r rd h fin => by
    cases d <;> simp only [bi1D, Option.some.injEq, reduceCtorEq] at h
    · subst h
      rw [rd.bool]
      exact .inr ⟨_, rfl, fin _ _ _ (.refl r) (res_d (.int _))⟩
    · subst h
      rw [rd.int]
      exact .inl ⟨_, rfl, fin _ _ _ (.refl r) (res_d (.int _))⟩
theorem bi_max2 : Bi2 X.K .max2 (fun xs H Q => ∃ i j, xs = [.int i, .int j] ∧ Q (.int (if j > i then j else i)) H) :=
  fun σ E H J v u d e w Q r rd re h fin => by
    cases d <;> cases e <;> simp only [bi2D, Option.some.injEq, reduceCtorEq] at h
    subst h
    rw [rd.int, re.int]
    exact ⟨_, _, rfl, fin _ _ _ (.refl r) (res_d (.int _))⟩
theorem bi_min2 : Bi2 X.K .min2 (fun xs H Q => ∃ i j, xs = [.int i, .int j] ∧ Q (.int (if j < i then j else i)) H) :=
  fun σ E H J v u d e w Q r rd re h fin => by
    cases d <;> cases e <;> simp only [bi2D, Option.some.injEq, reduceCtorEq] at h
    subst h
    rw [rd.int, re.int]
    exact ⟨_, _, rfl, fin _ _ _ (.refl r) (res_d (.int _))⟩
theorem bi_divmod : Bi2 X.K .divmod (fun xs H Q => ∃ i j, xs = [.int i, .int j] ∧ CDiv i j ∧ ∀ p, H p = none → Q (.ref p) (upd H p (.tup [.int (i / j), .int (i % j)]))) :=
  fun σ E H J v u d e w Q r rd re h fin => by
    cases d <;> cases e <;> simp only [bi2D, reduceCtorEq] at h
    split at h
    · rename_i hc
      cases h
      rw [rd.int, re.int]
      refine ⟨_, _, rfl, hc, fun p hp => ?_⟩
      obtain ⟨t, rs⟩ := new_t r hp (.cons (.int _) (.cons (.int _) .nil))
      exact fin _ _ _ t rs
    · cases h
theorem bi_max : Bi1 X.K .maxl (rMax X.K) :=
  fun σ E H J v d w Q r rd h fin => by
    cases d <;> simp only [bi1D, reduceCtorEq] at h
    obtain ⟨ns, hn, h⟩ := Option.bind_eq_some_iff.mp h
    obtain ⟨m, hm, e⟩ := Option.map_eq_some_iff.mp h
    subst e
    obtain ⟨a, us, rfl, h1, h2⟩ := rd.list r.sub
    rw [ints_eq hn] at h2
    have ev := dps_ofInts h2
    subst ev
    obtain ⟨m1, m2⟩ := maxI_spec hm
    refine ⟨a, ns, rfl, h1, List.length_pos_of_mem m1, fun k k1 k2 => ?_⟩
    have e : k = m := Int.le_antisymm (m2 k k1) (k2 m m1)
    subst e
    exact fin _ _ _ (.refl r) (res_d (.int _))
theorem bi_min : Bi1 X.K .minl (rMin X.K) :=
  fun σ E H J v d w Q r rd h fin => by
    cases d <;> simp only [bi1D, reduceCtorEq] at h
    obtain ⟨ns, hn, h⟩ := Option.bind_eq_some_iff.mp h
    obtain ⟨m, hm, e⟩ := Option.map_eq_some_iff.mp h
    subst e
    obtain ⟨a, us, rfl, h1, h2⟩ := rd.list r.sub
    rw [ints_eq hn] at h2
    have ev := dps_ofInts h2
    subst ev
    obtain ⟨m1, m2⟩ := minI_spec hm
    refine ⟨a, ns, rfl, h1, List.length_pos_of_mem m1, fun k k1 k2 => ?_⟩
    have e : k = m := Int.le_antisymm (k2 m m1) (m2 k k1)
    subst e
    exact fin _ _ _ (.refl r) (res_d (.int _))
def rSumB (K : PySem.W.Frag) : List V → Hp → VK → Prop := fun vs H Q => rSum K vs H Q ∨ ∃ (a : Addr) (ns : List Int), vs = [V.ref a] ∧ SqT K H a (ns.map V.int) ∧ Q (.int ns.sum) H
open PySem.Calls PyProof.Rows PyProof.V in
theorem cr_sumB (hc : X.calm = true) : CallR X (.builtin "sum") (rSumB X.K) := by
  intro pins s σ H vs us Q I r h
  rcases h with h | ⟨a, ns, rfl, hs, q⟩
  · exact cr_sum hc pins s σ H vs us Q I r h
  · obtain ⟨its, rv, ht, _⟩ := I.tuple hs
    rw [Vals.ref1 r]
    have hi := rv.ints
    obtain ⟨xs, e⟩ := hi.allInts.items
    have hn : numsOf (intItems xs).toList = ns := by rw [← e]; exact hi.numsOf
    rw [nums_intItems] at hn
    rw [e] at ht
    refine PySem.W.ktm_sumG (I.ok.hd hc) ht fun h' tk t' hk => ⟨.int _, H, I.kept hk, ⟨t', ?_⟩, q⟩
    rw [preSum_eq, List.take_of_length_le (by simp), hn]
theorem bi_sum : Bi1 X.K .sum (rSumB X.K) :=
  fun σ E H J v d w Q r rd h fin => by
    cases d <;> simp only [bi1D, reduceCtorEq] at h
    · obtain ⟨ns, hn, e⟩ := Option.map_eq_some_iff.mp h
      subst e
      obtain ⟨a, us, rfl, h1, h2⟩ := rd.list r.sub
      rw [ints_eq hn] at h2
      have ev := dps_ofInts h2
      subst ev
      exact .inl ⟨a, ns, rfl, h1, fin _ _ _ (.refl r) (res_d (.int _))⟩
    · obtain ⟨ns, hn, e⟩ := Option.map_eq_some_iff.mp h
      subst e
      obtain ⟨a, us, rfl, h1, h2⟩ := rd.tup r.sub
      rw [ints_eq hn] at h2
      have ev := dps_ofInts h2
      subst ev
      exact .inr ⟨a, ns, rfl, h1, fin _ _ _ (.refl r) (res_d (.int _))⟩
theorem bi_all : Bi1 X.K .all (rAll X.K) :=
  fun σ E H J v d w Q r rd h fin => by
    cases d <;> simp only [bi1D, reduceCtorEq] at h
    obtain ⟨ns, hn, e⟩ := Option.map_eq_some_iff.mp h
    subst e
    obtain ⟨a, us, rfl, h1, h2⟩ := rd.list r.sub
    rw [bools_eq hn] at h2
    have ev := dps_ofBools h2
    subst ev
    exact ⟨a, ns, rfl, h1, fin _ _ _ (.refl r) (res_d (.bl _))⟩
theorem bi_any : Bi1 X.K .any (rAny X.K) :=
  fun σ E H J v d w Q r rd h fin => by
    cases d <;> simp only [bi1D, reduceCtorEq] at h
    obtain ⟨ns, hn, e⟩ := Option.map_eq_some_iff.mp h
    subst e
    obtain ⟨a, us, rfl, h1, h2⟩ := rd.list r.sub
    rw [bools_eq hn] at h2
    have ev := dps_ofBools h2
    subst ev
    exact ⟨a, ns, rfl, h1, fin _ _ _ (.refl r) (res_d (.bl _))⟩
theorem lay_of {xs : List D} : tupsOk xs = true → PyData.canLayAll0 xs = true := fun h => by
  have key : ∀ {ys : List D}, (∀ d ∈ ys, d.canLay0 = true) → PyData.canLayAll0 ys = true := fun {ys} => by
    induction ys with
    | nil => exact fun _ => rfl
    | cons y ys ih =>
      intro h
      show (y.canLay0 && PyData.canLayAll0 ys) = true
      rw [h y (List.mem_cons_self ..), ih fun d hd => h d (List.mem_cons_of_mem _ hd)]; rfl
  refine key fun d hd => ?_
  rcases tups_cases h with h | ⟨_, _, h⟩
  · rw [h d hd]; rfl
  · exact (h d hd).1
theorem dps_zip {K : PySem.W.Frag} {J : Hp} : ∀ {us : List V} {xs : List D} {bs : List (V × D)}, DpAll K J us xs → (∀ b ∈ bs, b ∈ us.zip xs) → DpAll K J (bs.map (·.1)) (bs.map (·.2)) := fun {us xs bs} h => by
  have key : ∀ b ∈ us.zip xs, Dp K J b.1 b.2 := by
    clear bs
    induction us generalizing xs with
    | nil => intro b hb; simp at hb
    | cons u us ih =>
      cases xs with
      | nil => intro b hb; simp at hb
      | cons x xs =>
        cases h with
        | cons h1 h2 =>
          intro b hb
          rcases List.mem_cons.mp (show b ∈ (u, x) :: us.zip xs from hb) with e | hb
          · rw [e]; exact h1
          · exact ih h2 b hb
  intro hb
  induction bs with
  | nil => exact .nil
  | cons b bs ih => exact .cons (key b (hb b (List.mem_cons_self ..))) (ih fun c hc => hb c (List.mem_cons_of_mem _ hc))
theorem bi_sorted : Bi1 X.K .sorted (fun xs H Q => rSortedI X.K xs H Q ∨ rSortedD X.K xs H Q) :=
  fun σ E H J v d w Q r rd h fin => by
    cases d <;> simp only [bi1D, reduceCtorEq] at h
    rename_i xs
    split at h
    · rename_i ns hn
      split at h
      · cases h
        left
        obtain ⟨a, us, rfl, h1, h2⟩ := rd.list r.sub
        rw [ints_eq hn] at h2
        have ev := dps_ofInts h2
        subst ev
        refine ⟨a, ns, rfl, h1, fun ms p k1 k2 hp => ?_⟩
        have e := isort_unique k1 k2
        subst e
        obtain ⟨t, rs⟩ := new_o (J := J) r hp (dps_ints (isort ns))
        exact fin _ _ _ t rs
      · cases h
    · split at h
      · rename_i hc
        cases h
        rw [Bool.and_eq_true, decide_eq_true_eq] at hc
        right
        obtain ⟨a, us, rfl, h1, h2⟩ := rd.list r.sub
        have hl := dps_lib xs us (lay_of hc.1) (dps_mono r.sub xs us h2)
        refine ⟨a, us, xs, rfl, h1, hl, hc.1, hc.2, fun bs p hb1 hb2 hp => ?_⟩
        have hd := dps_zip h2 hb2
        rw [hb1] at hd
        obtain ⟨t, rs⟩ := new_o (J := J) r hp hd
        exact fin _ _ _ t rs
      · cases h
theorem bi_list : Bi1 X.K .list (fun xs H Q => ∃ p ys, xs = [.ref p] ∧ (SqL X.K H p ys ∨ SqT X.K H p ys) ∧ ∀ l, H l = none → Q (.ref l) (upd H l (.lst ys))) :=
  fun σ E H J v d w Q r rd h fin => by
    cases d <;> simp only [bi1D, Option.some.injEq, reduceCtorEq] at h
    · subst h
      obtain ⟨a, us, rfl, h1, h2⟩ := rd.list r.sub
      refine ⟨a, us, rfl, .inl h1, fun p hp => ?_⟩
      obtain ⟨t, rs⟩ := new_o r hp h2
      exact fin _ _ _ t rs
    · subst h
      obtain ⟨a, us, rfl, h1, h2⟩ := rd.tup r.sub
      refine ⟨a, us, rfl, .inr h1, fun p hp => ?_⟩
      obtain ⟨t, rs⟩ := new_o r hp h2
      exact fin _ _ _ t rs
theorem bi_tuple : Bi1 X.K .tuple (fun xs H Q => ∃ p ys, xs = [.ref p] ∧ ((SqL X.K H p ys ∧ ∀ l, H l = none → Q (.ref l) (upd H l (.tup ys))) ∨ (SqT X.K H p ys ∧ Q (.ref p) H))) :=
  fun σ E H J v d w Q r rd h fin => by
    cases d <;> simp only [bi1D, Option.some.injEq, reduceCtorEq] at h
    · subst h
      obtain ⟨a, us, rfl, h1, h2⟩ := rd.list r.sub
      refine ⟨a, us, rfl, .inl ⟨h1, fun p hp => ?_⟩⟩
      obtain ⟨t, rs⟩ := new_t r hp h2
      exact fin _ _ _ t rs
    · subst h
      have hD := rd.tupD
      obtain ⟨a, us, rfl, h1, h2⟩ := rd.tup r.sub
      exact ⟨a, us, rfl, .inr ⟨h1, fin _ _ _ (.refl r) (res_d hD)⟩⟩
theorem bi_repr : Bi1 X.K .repr (rReprB X.K) :=
  fun σ E H J v d w Q r rd h fin => by
    cases d with
    | none =>
      cases (show some _ = some w from h)
      rw [rd.none]
      exact .inr (.inl ⟨rfl, fin _ _ _ (.refl r) (res_d (.str _))⟩)
    | bool b =>
      cases (show some _ = some w from h)
      rw [rd.bool]
      exact .inr (.inr (.inl ⟨_, rfl, fin _ _ _ (.refl r) (res_d (.str _))⟩))
    | int i =>
      have h : (if i.natAbs.log2 < 1920 then some (W.d (.str (PyData.shown (.int i)))) else none) = some w := h
      split at h
      · rename_i hi
        cases h
        rw [rd.int]
        exact .inr (.inr (.inr (.inl ⟨_, rfl, hi, fin _ _ _ (.refl r) (res_d (.str _))⟩)))
      · cases h
    | str x =>
      have h : (if (PyData.shown (.str x)).length ≤ 1000000 then some (W.d (.str (PyData.shown (.str x)))) else none) = some w := h
      split at h
      · rename_i hi
        cases h
        rw [rd.str]
        exact .inr (.inr (.inr (.inr (.inl ⟨_, rfl, hi, fin _ _ _ (.refl r) (res_d (.str _))⟩))))
      · cases h
    | list xs =>
      simp only [bi1D] at h
      split at h
      · rename_i hc
        simp only [Bool.and_eq_true, decide_eq_true_eq] at hc
        cases h
        have hd := rd.dp r.sub
        obtain ⟨a, us, rfl, h1, h2⟩ := rd.list r.sub
        exact .inl ⟨a, _, rfl, dp_shaped hc.1.1 hd, hc.1.1, hc.1.2, hc.2, fin _ _ _ (.refl r) (res_d (.str _))⟩
      · cases h
    | tuple xs =>
      simp only [bi1D] at h
      split at h
      · rename_i hc
        simp only [Bool.and_eq_true, decide_eq_true_eq] at hc
        cases h
        have hd := rd.dp r.sub
        obtain ⟨a, us, rfl, h1, h2⟩ := rd.tup r.sub
        exact .inl ⟨a, _, rfl, dp_shaped hc.1.1 hd, hc.1.1, hc.1.2, hc.2, fin _ _ _ (.refl r) (res_d (.str _))⟩
      · cases h
    | dict es =>
      cases es with
      | nil =>
        cases (show some _ = some w from h)
        have hd := rd.dp r.sub
        cases hd with
        | dct h1 h2 =>
          cases h2
          exact .inr (.inr (.inr (.inr (.inr ⟨_, rfl, h1, fin _ _ _ (.refl r) (res_d (.str _))⟩))))
      | cons => exact nomatch (show (none : Option W) = some w from h)
end
end PV
end

section
set_option Elab.async false
set_option linter.all false
set_option maxRecDepth 100000
set_option maxHeartbeats 2000000
set_option autoImplicit false
/-! PVf: enumerate of a tuple, beside the layer's enumerate of a list -/
namespace PV
open PySem PySem.Spec L2

theorem meets_enumT (l : Addr) (items : Array Value) :
    Meets (Builtin.«enumerate.__new__» ⟨[.type "enumerate", .ref l], []⟩) (fun _ R s => s.heap.IsTuple l items ∧
      R (.ok (.ret (.ref (s.heap.push { cls := .type "tuple_iterator", data := .fields #[.ref l, .int 0 0] }).objs.size)))
        { s with heap := (s.heap.push { cls := .type "tuple_iterator", data := .fields #[.ref l, .int 0 0] }).push { cls := .type "enumerate", data := .fields #[.none, .bool false, .ref s.heap.objs.size, rawInt 0, .none, .none] } }) :=
  .of_wp fun prog w A R s h => by
    obtain ⟨hp, g, d, tk, os⟩ := s; obtain ⟨hl, h⟩ := h
    have hsub := sub_enumerate
    have q1 : ∀ {A' : Around} {E : Value → Shared → Prop} {Q : Value → Shared → Prop}, Q (.ref hp.objs.size) ⟨hp.push { cls := .type "tuple_iterator", data := .fields #[.ref l, .int 0 0] }, g, d, tk, os⟩ → wpAny (model prog w) A' (pyIter (.ref l)) Q E ⟨hp, g, d, tk, os⟩ :=
      fun q => wpAny_pyIter_tuple (s := ⟨hp, g, d, tk, os⟩) hl q
    wp_walk using q1
    refine wpAny_stack_any fun st => wpAny_pure ?_
    split
    · rename_i c _ _ _ _ _
      cases (c == Value.type "enumerate")
      · wp_walk using q1
        exact ⟨_, rfl, h⟩
      · wp_walk using q1
        exact ⟨_, rfl, h⟩
    · wp_walk using q1
      exact ⟨_, rfl, h⟩
theorem call_enumT {prog : Program} {w : World} {A : Around} {E : Value → Shared → Prop} {s : Shared} {l : Addr} {items : Array Value} {Q : Value → Shared → Prop} (hL : s.heap.IsTuple l items)
    (h : ∀ h', IsEnum h' (s.heap.objs.size + 1) s.heap.objs.size 0 .none → h'.IsTupleIter s.heap.objs.size l 0 → h'.objs.size = s.heap.objs.size + 2 →
      (∀ b o, s.heap.get? b = some o → h'.get? b = some o) → Q (.ref (s.heap.objs.size + 1)) { s with heap := h' }) :
    wpAny (model prog w) A (call (.type "enumerate") [.ref l]) Q E s := by
  refine callType_new F.called_enumerate (by decide) (F.typeCall_enumerate_1 _) (F.newCall_enumerate_1 _) (fun obj => F.args_object_init_2 obj _) F.entry_enumerate_new
    (meets_enumT l items) ⟨hL, ?_⟩
  have hz : (s.heap.push { cls := .type "tuple_iterator", data := .fields #[.ref l, .int 0 0] }).objs.size = s.heap.objs.size + 1 := Heap.size_push ..
  show _ ∧ _
  rw [hz]
  have he : IsEnum ((s.heap.push { cls := .type "tuple_iterator", data := .fields #[.ref l, .int 0 0] }).push
      { cls := .type "enumerate", data := .fields #[.none, .bool false, .ref s.heap.objs.size, rawInt 0, .none, .none] }) (s.heap.objs.size + 1) s.heap.objs.size 0 .none := by
    have := Heap.get?_push_size (s.heap.push { cls := .type "tuple_iterator", data := .fields #[.ref l, .int 0 0] })
      (o := { cls := .type "enumerate", data := .fields #[.none, .bool false, .ref s.heap.objs.size, rawInt 0, .none, .none] }) rfl
    rw [hz] at this; exact this
  refine ⟨⟨_, he, rfl⟩, h _ he ⟨_, Heap.get?_push_of_some _ (Heap.get?_push_size _ rfl), rfl, rfl⟩ (by rw [Heap.size_push, hz]) fun b o x => Heap.get?_push_of_some _ (Heap.get?_push_of_some _ x)⟩
/-- the tuple at a, each item in a new pair -/
def IteT (K : PySem.W.Frag) (a : Addr) : It :=
  ⟨fun i H => ∃ (xs : List V) (x : V), SqT K H a xs ∧ xs[i]? = some x, fun i H v H' => ∃ T x, v = .ref T ∧ H T = none ∧ H' = upd H T (.tup [.int (i : Nat), x]) ∧ ∀ xs, SqT K H a xs → xs[i]? = some x, fun i H => ∃ xs : List V, SqT K H a xs ∧ xs.length = i⟩
theorem turn_enumT {P : Program} {w : World} {K : PySem.W.Frag} {elts : List Expr} {kk : Nat} {tpos : Pos} (a e it : Addr) (hai : a ≠ it) (hae : a ≠ e) :
    Turn P w K (.Tuple elts kk tpos) (IteT K a) [e, it] e (fun i h => (∃ old, IsEnum h e it ((i : Nat) : Int) old) ∧ h.IsTupleIter it a i ∧ e ≠ it) where
  mem := by simp
  obj := fun i h st b hb => by
    obtain ⟨⟨old, he⟩, ⟨o, ho, hc, hd⟩, _⟩ := st
    have e' : b = e ∨ b = it := by simpa using hb
    rcases e' with z | z
    · rw [z]; exact ⟨_, he, fun v q => nomatch q⟩
    · rw [z]; exact ⟨o, ho, fun v q => by rw [hd] at q; cases q⟩
  keep := fun i h h' st k => let ⟨⟨old, he⟩, hi, hne⟩ := st; ⟨⟨old, k e (by simp) _ he⟩, hi.at fun o q => k it (by simp) o q, hne⟩
  item := by
    intro X hP hw hK hc i pins s σ H E I hf st hg
    subst hP hw hK
    obtain ⟨⟨old, he⟩, hit, hne⟩ := st
    obtain ⟨xs, x, hq, hx⟩ := hg
    obtain ⟨its, rv, p, hz⟩ := I.tuple hq
    obtain ⟨u, hu, ru⟩ := rv.get hx
    have hel : e < s.heap.objs.size := Heap.lt_size he
    have hil : it < s.heap.objs.size := by obtain ⟨_, q, _⟩ := hit; exact Heap.lt_size q
    have hlt : i < its.toArray.size := by
      have := (List.getElem?_eq_some_iff.mp hu).1
      simpa using this
    refine wpAny_pyNext_enum_itemC (Draws.tuple (prog := X.prog) (w := X.w) (A := X.A.in1) (by exact I.ok.hd hc) it a hai its.toArray) he ⟨hit, p⟩ hlt hne (by simp; exact ⟨hne, Ne.symm hae⟩) fun x0 h' tk hP ho hst' hT hsz hk => ?_
    obtain ⟨hit', _⟩ := hst'
    have e0 : x0 = u := by
      have h1 : its.toArray[i]? = some u := by simpa using hu
      have h2 : its.toArray[i]? = some x0 := hP
      rw [h1] at h2
      exact (Option.some.inj h2).symm
    subst e0
    refine ⟨_, rfl, wpAny_letOwnedTupleGo_enum (s := { s with heap := h', toks := tk + 1 }) ho fun h'' he' sb => ?_⟩
    have hT2 : h''.get? s.heap.objs.size = some { cls := .type "tuple", data := .seq #[.int i tk, x0] } := (sb.2 _ (Nat.ne_of_gt hel)).trans hT
    have new : ObjOk X.prog X.w (upd H s.heap.objs.size (.tup [.int (i : Nat), x])) h'' s.heap.objs.size (.tup [.int (i : Nat), x]) :=
      ⟨by show 2 ≤ sizeLine; decide, [.int i tk, x0], .cons ⟨_, rfl⟩ (.cons ru .nil), ⟨_, hT2, rfl, _, rfl⟩⟩
    have I1 : Inv X pins σ (upd H s.heap.objs.size (.tup [.int (i : Nat), x])) { s with heap := h'', toks := tk + 1 } :=
      I.turnedNew (ch := [e, it]) (fun b ob hb q => (sb.2 b (fun z => hb (by simp [z]))).trans (hk b ob (fun z => hb (by simp [z])) (fun z => hb (by simp [z])) q)) hf (Nat.le_refl _) new
    refine ⟨.ref s.heap.objs.size, _, I1, rfl, ⟨_, x, rfl, I.hok.fresh (Nat.le_refl _), rfl, fun ys hy => by rw [I.tuple_inj hy hq]; exact hx⟩, ⟨⟨x0, ?_⟩, hit'.at fun o q => (sb.2 it (Ne.symm hne)).trans q, hne⟩, fun b hb => ?_⟩
    · have e1 : ((i + 1 : Nat) : Int) = (i : Int) + 1 := by omega
      rw [e1]; exact he'
    · have hb' : b < s.heap.objs.size := by
        have e' : b = e ∨ b = it := by simpa using hb
        rcases e' with z | z
        · rw [z]; exact hel
        · rw [z]; exact hil
      rw [upd_ne (Nat.ne_of_lt hb')]
      exact (hf b hb).1
  done := by
    intro X hP hw hK hc i pins s σ H E I hf st hg
    subst hP hw hK
    obtain ⟨⟨old, he⟩, hit, hne⟩ := st
    obtain ⟨xs, hq, hx⟩ := hg
    obtain ⟨its, rv, p, hz⟩ := I.tuple hq
    obtain ⟨f0, f1, f2, f3, f4, f5⟩ := hf it (by simp)
    have hl := rv.length
    have es : its.toArray.size = i := by
      have : its.toArray.size = its.length := by simp
      omega
    have hD := Draws.tuple (prog := X.prog) (w := X.w) (A := X.A.in1) (by exact I.ok.hd hc) it a hai its.toArray
    rw [es] at hD
    exact wpAny_pyNext_enum_endD hD he ⟨hit, p⟩ fun h' eb => ⟨rfl, I.turned (t' := s.toks) (fun b o hb q => eb b o hb q) f0 f1 f3 f4 f5⟩
  self := fun A i s Q E st h => let ⟨⟨_, he⟩, _⟩ := st; wpAny_pyIter_enum he h
theorem walk_enumT {K : PySem.W.Frag} {a : Addr} {xs : List V} : Walk (IteT K a) xs.length (fun H => SqT K H a xs) (YPair (fun i => some (.int (i : Nat))) (fun i => xs[i]?)) := by
  refine ⟨fun i _ hi q => ⟨xs, xs[i], q, by simp [hi]⟩, fun _ q => ⟨xs, q, rfl⟩, fun i H v H' _ q y => ?_⟩
  obtain ⟨T, x, h1, h2, h3, h4⟩ := y
  exact ⟨T, .int (i : Nat), x, h1, h2, h3, rfl, h4 xs q⟩
/-- enumerate of a list or a tuple -/
def iEnumA (K : PySem.W.Frag) (ta : TA) : TI := fun σ H R => ta σ H fun vs H1 => ∃ a xs, vs = [.ref a] ∧ ((SqL K H1 a xs ∧ R (Ite K a) H1) ∨ (SqT K H1 a xs ∧ R (IteT K a) H1))
theorem pi_enumA {X : Cx} {e : Expr} {ta : TA} {p pos tpos : Pos} {elts : List Expr} {kk : Nat} (hg : Gl X "enumerate") (hm : X.mg "enumerate" = none) (ha : PA X [e] ta) (hs : starEach [e] X.env = [(false, eval e X.env)]) :
    PI X (.Tuple elts kk tpos) (.Call (.Name "enumerate" p) [e] [] pos) (iEnumA X.K ta) := by
  refine ⟨fun pins s σ H R I h => ?_⟩
  refine PyProof.Rows.Call_ (ld_blt I hg hm PyProof.Rows.boot_enumerate (PyProof.Rows.callWith_type1 (thn (ha.run pos pins s σ H _ I h) fun us s1 ⟨vs, H1, I1, r1, q1⟩ => ?_) hs rfl))
  obtain ⟨a, xs, ex, q1⟩ := q1
  subst ex
  cases r1 with
  | cons r rr =>
    cases rr
    cases r
    have hfp : ∀ b ∈ [s1.heap.objs.size + 1, s1.heap.objs.size], s1.heap.objs.size ≤ b := fun b hb => by
      have e' : b = s1.heap.objs.size + 1 ∨ b = s1.heap.objs.size := by simpa using hb
      rcases e' with z | z
      · rw [z]; exact Nat.le_add_right _ _
      · rw [z]; exact Nat.le_refl _
    rcases q1 with ⟨hq, q⟩ | ⟨hq, q⟩
    · obtain ⟨its, rv, p', hz⟩ := I1.list hq
      refine call_enumerate_list p'.isList fun h' he hit hsz hk => wpAny_pyIter_enum he ?_
      have I2 : Inv X pins σ H1 { s1 with heap := h' } := I1.kept (t' := s1.toks) hk
      exact ⟨s1.heap.objs.size + 1, [s1.heap.objs.size + 1, s1.heap.objs.size], _, _, H1, rfl, I2, turn_enum a (s1.heap.objs.size + 1) s1.heap.objs.size, ⟨⟨.none, he⟩, hit, Nat.succ_ne_self _⟩, fun b hb => I1.fpOk (hfp b hb) (I1.hok.fresh (hfp b hb)), q⟩
    · obtain ⟨its, rv, p', hz⟩ := I1.tuple hq
      have hal : a < s1.heap.objs.size := by
        obtain ⟨_, q, _⟩ := p'; exact Heap.lt_size q
      refine call_enumT p' fun h' he hit hsz hk => wpAny_pyIter_enum he ?_
      have I2 : Inv X pins σ H1 { s1 with heap := h' } := I1.kept (t' := s1.toks) hk
      exact ⟨s1.heap.objs.size + 1, [s1.heap.objs.size + 1, s1.heap.objs.size], _, _, H1, rfl, I2, turn_enumT a (s1.heap.objs.size + 1) s1.heap.objs.size (Nat.ne_of_lt hal) (Nat.ne_of_lt (Nat.lt_succ_of_lt hal)), ⟨⟨.none, he⟩, hit, Nat.succ_ne_self _⟩, fun b hb => I1.fpOk (hfp b hb) (I1.hok.fresh (hfp b hb)), q⟩
end PV
end

section
set_option Elab.async false
set_option linter.all false
set_option maxRecDepth 100000
set_option maxHeartbeats 2000000
set_option autoImplicit false
/-! PVfs: sum of lists from a list -/
namespace PV
open PySem PySem.Spec L2

abbrev lstO (xs : List Value) (n : Nat) (sl : Array (Option Value)) : Obj := { cls := .type "list", dict := none, data := .seq xs.toArray n, slots := sl }
section
variable {prog : Program} {w : World} {A : Around} {R : Result → Shared → Prop}
/-- the item lists as they stand -/
def LsAt (h : Heap) (its : List Value) (ls : List (List Value)) : Prop := its.length = ls.length ∧ ∀ (i : Nat) (v : Value) (xs : List Value), its[i]? = some v → ls[i]? = some xs → ∃ a n sl, v = .ref a ∧ h.get? a = some (lstO xs n sl)
theorem sum_go {h0 : Heap} {l S I b : Addr} {its : List Value} {ls : List (List Value)} {st : List Value} (hh : A.handled = none) (hl : h0.IsList l its.toArray) (hls : LsAt h0 its ls) (hI : h0.objs.size ≤ I) (hS : h0.objs.size ≤ S) (hIS : I ≠ S) (hz : st.length + (ls.map List.length).sum ≤ sizeLine) :
    ∀ (k i : Nat) (s : Shared) (t : Addr) (c m : Nat) (sl : Array (Option Value)), its.length - i = k → i ≤ its.length → (∀ b o, h0.get? b = some o → s.heap.get? b = some o) → h0.objs.size ≤ s.heap.objs.size → s.heap.IsListIter I l i →
      s.heap.get? S = some { cls := .type "list", data := .seq #[.ref t] c } → s.heap.get? t = some (lstO (st ++ (ls.take i).flatten) m sl) → t ≠ I → t ≠ S → (i = 0 → t = b) → (0 < i → h0.objs.size ≤ t ∧ sl = #[]) →
      (∀ (h' : Heap) (tk : Nat) (t' : Addr) (m' : Nat) (sl' : Array (Option Value)), (∀ b o, h0.get? b = some o → h'.get? b = some o) → h'.get? t' = some (lstO (st ++ ls.flatten) m' sl') → (its.length = 0 → t' = b) → (0 < its.length → h0.objs.size ≤ t' ∧ sl' = #[]) →
        R (.ok (.ret (.ref t'))) { s with heap := h', toks := tk }) → codeAny (model prog w) A (.builtin "sum.loop" ⟨[.ref I, .ref S, rawInt 2, rawInt 0], []⟩) R s := by
  have nI : ∀ {b : Addr} {o : Obj}, h0.get? b = some o → b ≠ I := fun {b o} e z => absurd (Heap.lt_size e) (by rw [z]; exact Nat.not_lt.mpr hI)
  have nS : ∀ {b : Addr} {o : Obj}, h0.get? b = some o → b ≠ S := fun {b o} e z => absurd (Heap.lt_size e) (by rw [z]; exact Nat.not_lt.mpr hS)
  intro k
  induction k with
  | zero =>
    intro i s t c m sl hk hi kp hsz hit hSo ht htI htS hb0 hb1 hR
    have hin : i = its.length := by omega
    subst hin
    refine codeAny_builtin F.entry_sum_loop ?_
    rw [Around.under_plainId F.plain_sum_loop _]
    show wpAny _ A.in1 (seqItems? (.ref S) >>= _) _ _ s
    refine wpAny_bind (wpAny_seqItems hSo rfl ?_)
    show wpAny _ A.in1 (tryCatch (pyNext (.ref I)) _ >>= _) _ _ s
    have pl : s.heap.IsList l its.toArray := by
      obtain ⟨o, e, q⟩ := hl
      exact ⟨o, kp _ _ e, q⟩
    refine wpAny_bind (wpAny_tryCatch (wpAny_pyNext_list_end (show A.in1.handled = none from hh) hit pl (by simp) fun h' eb => ?_))
    refine wpAny_pure (hR h' s.toks t m sl (fun b o e => eb b o (nI e) (kp b o e)) ?_ hb0 hb1)
    rw [hls.1, List.take_length] at ht
    exact eb t _ htI ht
  | succ k ih =>
    intro i s t c m sl hk hi kp hsz hit hSo ht htI htS hb0 hb1 hR
    have hlt : i < its.length := by omega
    refine codeAny_builtin F.entry_sum_loop ?_
    rw [Around.under_plainId F.plain_sum_loop _]
    show wpAny _ A.in1 (seqItems? (.ref S) >>= _) _ _ s
    refine wpAny_bind (wpAny_seqItems hSo rfl ?_)
    show wpAny _ A.in1 (tryCatch (pyNext (.ref I)) _ >>= _) _ _ s
    have pl : s.heap.IsList l its.toArray := by
      obtain ⟨o, e, q⟩ := hl
      exact ⟨o, kp _ _ e, q⟩
    have hil : i < ls.length := by rw [← hls.1]; exact hlt
    obtain ⟨a, n, sl2, ea, ha⟩ := hls.2 i its[i] ls[i] (List.getElem?_eq_getElem hlt) (List.getElem?_eq_getElem hil)
    refine wpAny_bind (wpAny_tryCatch (wpAny_pyNext_list_item hit pl (x := its[i]) (by simp [hlt]) fun h1 hit1 sb => ?_))
    rw [ea]
    have hS1 : h1.get? S = some { cls := .type "list", data := .seq #[.ref t] c } := (sb.2 S hIS.symm).trans hSo
    have ht1 : h1.get? t = some (lstO (st ++ (ls.take i).flatten) m sl) := (sb.2 t htI).trans ht
    have ha1 : h1.get? a = some (lstO ls[i] n sl2) := (sb.2 a (nI ha)).trans (kp a _ ha)
    have kp1 : ∀ b o, h0.get? b = some o → h1.get? b = some o := fun b o e => (sb.2 b (nI e)).trans (kp b o e)
    have hsz1 : h1.objs.size = s.heap.objs.size := sb.1
    have hsum : (st ++ (ls.take i).flatten).length + ls[i].length ≤ sizeLine := by
      have h1 : (ls.map List.length).sum = ((ls.take i).map List.length).sum + ((ls.drop i).map List.length).sum := by rw [← List.sum_append, ← List.map_append, List.take_append_drop]
      rw [List.drop_eq_getElem_cons hil, List.map_cons, List.sum_cons] at h1
      rw [List.length_append, List.length_flatten]
      omega
    show wpAny _ A.in1 ((holding [Value.ref a] (binaryOp .Add (.ref t) (.ref a))).attempt >>= _) _ _ _
    refine wpAny_bind (wpAny_attempt (wpAny_holding ?_))
    refine PySem.concat_meets ⟨_, ht1, rfl⟩ ⟨_, ha1, rfl⟩ PySem.noFill_list_add PySem.seq_list_add PySem.F.slot_list_add PySem.F.entry_list_add (PySem.F.args_list_add_2 _ _)
      (PyProof.Rows.list_addW t a (st ++ (ls.take i).flatten).toArray (ls[i]).toArray m n none none sl sl2 (by rw [List.size_toArray, List.size_toArray]; exact hsum)) ⟨ht1, ha1, ?_⟩
    have earr : (st ++ (ls.take i).flatten).toArray ++ (ls[i]).toArray = (st ++ (ls.take (i + 1)).flatten).toArray := by
      have ef : (ls.take (i + 1)).flatten = (ls.take i).flatten ++ ls[i] := by rw [List.take_succ_eq_append_getElem hil, List.flatten_append, List.flatten_singleton]
      rw [ef, ← List.append_assoc, List.append_toArray]
    rw [earr]
    generalize hh2 : h1.push { cls := Value.type "list", data := Data.seq (st ++ (ls.take (i + 1)).flatten).toArray } = h2
    have kp2 : ∀ b o, h1.get? b = some o → h2.get? b = some o := fun b o e => by rw [← hh2]; exact Heap.get?_push_of_some _ e
    have hnew : h2.get? h1.objs.size = some (lstO (st ++ (ls.take (i + 1)).flatten) 0 #[]) := by rw [← hh2]; exact Heap.get?_push_size _ rfl
    have hsz2 : h2.objs.size = h1.objs.size + 1 := by rw [← hh2]; exact Heap.size_push ..
    have hS2 := kp2 S _ hS1
    have hnS : h1.objs.size ≠ S := Nat.ne_of_gt (Heap.lt_size hS1)
    have hnI : h1.objs.size ≠ I := by
      obtain ⟨o, e, _⟩ := hit1
      exact Nat.ne_of_gt (Heap.lt_size e)
    show wpAny _ A.in1 (updateSeq S (fun _ => #[.ref h1.objs.size]) >>= _) _ _ _
    refine wpAny_bind (wpAny_updateSeq hS2 rfl ?_)
    have hS3 := Heap.get?_update_self (Obj.mapSeq fun _ => #[Value.ref h1.objs.size]) hS2 rfl
    refine wpAny_bind (wpAny_letGo ?_)
    refine wpAny_bind (wpAny_updateSeq hS3 rfl (wpAny_pure ⟨plainId_quiet F.plain_sum_loop _, ih (i + 1) _ h1.objs.size _ 0 #[] (by omega) (by omega) (fun b o e => ?_) ?_ ?_ (Heap.get?_update_self _ hS3 rfl) ?_ hnI hnS (fun z => absurd z (Nat.succ_ne_zero _)) (fun _ => ⟨by rw [hsz1]; exact hsz, rfl⟩) fun h' tk t' m' sl' q1 q2 q3 q4 => hR h' tk t' m' sl' q1 q2 q3 q4⟩))
    · exact (Heap.get?_update_other _ _ (nS e).symm).trans ((Heap.get?_update_other _ _ (nS e).symm).trans (kp2 b o (kp1 b o e)))
    · show h0.objs.size ≤ ((h2.update S _).update S _).objs.size
      rw [Heap.size_update, Heap.size_update, hsz2, hsz1]
      omega
    · exact hit1.at fun o e => (Heap.get?_update_other _ _ hIS.symm).trans ((Heap.get?_update_other _ _ hIS.symm).trans (kp2 I o e))
    · exact (Heap.get?_update_other _ _ hnS.symm).trans ((Heap.get?_update_other _ _ hnS.symm).trans hnew)
theorem args_sum2 (a b : Value) : argsOk "sum" ⟨[a, b], []⟩ := by unfold argsOk; kernel_rfl
theorem sub_lst_bytearray : isSubtype (.type "list") (.type "bytearray") = pure false := by rw [isSubtype_type]; kernel_rfl
theorem sub_lst_str : isSubtype (.type "list") (.type "str") = pure false := by rw [isSubtype_type]; kernel_rfl
theorem sub_lst_bytes : isSubtype (.type "list") (.type "bytes") = pure false := by rw [isSubtype_type]; kernel_rfl
theorem sum_raw2 {s : Shared} {E : Value → Shared → Prop} {Q : Value → Shared → Prop} {l b : Addr} {its : List Value} {ls : List (List Value)} {st : List Value} {n : Nat} {sl : Array (Option Value)} (hh : A.handled = none) (hl : s.heap.IsList l its.toArray) (hb : s.heap.get? b = some (lstO st n sl)) (hls : LsAt s.heap its ls) (hz : st.length + (ls.map List.length).sum ≤ sizeLine)
    (h : ∀ (h' : Heap) (tk : Nat) (t' : Addr) (m' : Nat) (sl' : Array (Option Value)), (∀ b o, s.heap.get? b = some o → h'.get? b = some o) → h'.get? t' = some (lstO (st ++ ls.flatten) m' sl') → (its.length = 0 → t' = b) → (0 < its.length → s.heap.objs.size ≤ t' ∧ sl' = #[]) →
      Q (.ref t') { s with heap := h', toks := tk }) : wpAny (model prog w) A (call (.builtin "sum") [.ref l, .ref b]) Q E s := by
  refine call_function_tree F.kind_sum F.plain_sum F.entry_sum (args_sum2 _ _) ?_
  unfold Builtin.«sum»
  simp only [List.length_cons, List.length_nil]
  rw [if_neg (by decide)]
  refine wpAny_bind (wpAny_of_eq (show Builtin.Builtins.bindParams "sum" ["start"] 0 ⟨[.ref b], []⟩ = pure [some (.ref b)] from rfl) ?_)
  refine wpAny_bind (wpAny_pyIter_list hl ?_)
  have hbT : ∀ {h' : Heap} {tk : Nat}, (∀ b o, s.heap.get? b = some o → h'.get? b = some o) → ({ s with heap := h', toks := tk } : Shared).TypeIs (.ref b) "list" := fun {h' tk} k => ⟨_, k b _ hb, rfl⟩
  have k1 : ∀ b o, s.heap.get? b = some o → (s.heap.push { cls := .type "list_iterator", data := .fields #[.ref l, .int 0 0] }).get? b = some o := fun b o e => Heap.get?_push_of_some _ e
  refine wpAny_bind (wpAny_pure ?_)
  simp only [List.forIn_cons, List.forIn_nil]
  refine wpAny_bind (wpAny_bind (wpAny_bind (wpAny_isInstance (T := "list") (b := false) (hbT k1) sub_lst_str ?_)))
  simp only [Bool.false_eq_true, if_false]
  refine wpAny_pure (wpAny_bind (wpAny_bind (wpAny_isInstance (T := "list") (b := false) (hbT k1) sub_lst_bytes ?_)))
  simp only [Bool.false_eq_true, if_false]
  refine wpAny_pure (wpAny_bind (wpAny_bind (wpAny_isInstance (T := "list") (b := false) (hbT k1) sub_lst_bytearray ?_)))
  simp only [Bool.false_eq_true, if_false]
  refine wpAny_pure (wpAny_pure ?_)
  refine wpAny_bind (wpAny_newObj_type ?_)
  have hp1 : (s.heap.push { cls := .type "list_iterator", data := .fields #[.ref l, .int 0 0] }).objs.size = s.heap.objs.size + 1 := Heap.size_push ..
  have hbl : b < s.heap.objs.size := Heap.lt_size hb
  refine wpAny_pure ⟨plainId_quiet F.plain_sum_loop _, ?_⟩
  refine sum_go (h0 := s.heap) (l := l) (S := (s.heap.push { cls := .type "list_iterator", data := .fields #[.ref l, .int 0 0] }).objs.size) (I := s.heap.objs.size) (b := b) (its := its) (ls := ls) (st := st) hh hl hls (Nat.le_refl _) (by rw [hp1]; exact Nat.le_succ _) (by rw [hp1]; exact (Nat.succ_ne_self _).symm) hz _ 0 _ b _ n sl rfl (Nat.zero_le _) (fun b o e => Heap.get?_push_of_some _ (k1 b o e)) ?_ ?_ (Heap.get?_push_size _ rfl) ?_ (Nat.ne_of_lt hbl) (by rw [hp1]; exact Nat.ne_of_lt (Nat.lt_succ_of_lt hbl)) (fun _ => rfl) (fun z => absurd z (Nat.lt_irrefl _)) fun h' tk t' m' sl' q1 q2 q3 q4 => h h' tk t' m' sl' q1 q2 q3 q4
  · show s.heap.objs.size ≤ ((s.heap.push _).push _).objs.size
    rw [Heap.size_push, Heap.size_push]
    omega
  · exact ⟨_, Heap.get?_push_of_some _ (Heap.get?_push_size _ rfl), rfl, rfl⟩
  · rw [List.take_zero, List.flatten_nil, List.append_nil]
    exact Heap.get?_push_of_some _ (k1 b _ hb)
end
section
variable {X : Cx}
/-- sum(lists, []): the start list its own -/
def rSum2 (K : PySem.W.Frag) : List V → Hp → VK → Prop := fun vs H Q => ∃ (a b : Addr) (xs : List V) (ys : List V) (ls : List (List V)), vs = [.ref a, .ref b] ∧ SqL K H a xs ∧ H b = some (.lst ys) ∧ xs.length = ls.length ∧
  (∀ (i : Nat) (v : V) (zs : List V), xs[i]? = some v → ls[i]? = some zs → ∃ c, v = .ref c ∧ SqL K H c zs) ∧ ys.length + (ls.map List.length).sum ≤ sizeLine ∧
  (xs = [] → Q (.ref b) H) ∧ ∀ p, H p = none → Q (.ref p) (upd H p (.lst (ys ++ ls.flatten)))
theorem lists_vals {K : PySem.W.Frag} {pins : List (Addr × Obj)} {σ : St} {H : Hp} {s : Shared} (I : Inv X pins σ H s) : ∀ {xs : List V} {its : List Value} {ls : List (List V)}, Vals xs its → xs.length = ls.length →
    (∀ (i : Nat) (v : V) (zs : List V), xs[i]? = some v → ls[i]? = some zs → ∃ c, v = .ref c ∧ SqL X.K H c zs) → ∃ us : List (List Value), LsAt s.heap its us ∧ Vals ls.flatten us.flatten ∧ us.map List.length = ls.map List.length
  | [], _, [], r, _, _ => by
    cases r
    exact ⟨[], ⟨rfl, fun i v xs h => by simp at h⟩, .nil, rfl⟩
  | x :: xs, _, l :: ls, r, hl, h => by
    cases r with
    | @cons _ u _ us rx rr =>
      obtain ⟨uss, ⟨q1, q2⟩, q3, q4⟩ := lists_vals (K := K) I rr (by simpa using hl) fun i v zs h1 h2 => h (i + 1) v zs (by simpa using h1) (by simpa using h2)
      obtain ⟨c, e, hq⟩ := h 0 x l rfl rfl
      subst e
      cases rx
      obtain ⟨its, rv, ⟨⟨cls, dd, data, sl⟩, n, ho, hc, hdd, hd⟩, hz⟩ := I.list hq
      simp only at hc hdd hd
      subst hc hdd hd
      refine ⟨its :: uss, ⟨by simp [q1], fun i v ws h1 h2 => ?_⟩, rv.append q3, by simp [q4, rv.length]⟩
      cases i with
      | zero => simp at h1 h2; subst h1 h2; exact ⟨c, n, sl, rfl, ho⟩
      | succ i => exact q2 i v ws (by simpa using h1) (by simpa using h2)
  | [], _, _ :: _, _, hl, _ => by simp at hl
  | _ :: _, _, [], _, hl, _ => by simp at hl
theorem call_sum2 (hc : X.calm = true) : CallR X (.builtin "sum") (rSum2 X.K) := by
  intro pins s σ H vs us Q I r h
  obtain ⟨a, b, xs, ys, ls, rfl, hs, hb, hl, hi, hz, q0, q⟩ := h
  obtain ⟨u1, u2, rfl, r1, r2⟩ := vals2 r
  cases r1
  cases r2
  obtain ⟨its, rv, pl, _⟩ := I.list hs
  obtain ⟨uss, h1, h2, h3⟩ := lists_vals (K := X.K) I rv hl hi
  obtain ⟨z, st, n, rs, hl2, eb⟩ := I.lstM hb
  refine sum_raw2 (I.ok.hd hc) pl.isList (sl := #[]) eb h1 (by rw [h3, ← hl2]; exact hz) fun h' tk t' m' sl' k1 k2 k3 k4 => ?_
  have vr := rs.append h2
  cases xs with
  | nil =>
    cases rv
    have := k3 rfl
    subst this
    exact ⟨.ref t', H, I.kept k1, rfl, q0 rfl⟩
  | cons x xs =>
    have hpos : 0 < its.length := by rw [← rv.length]; exact Nat.succ_pos _
    obtain ⟨k5, k6⟩ := k4 hpos
    subst k6
    have hn : H t' = none := I.hok.fresh k5
    refine ⟨.ref t', upd H t' (.lst (ys ++ ls.flatten)), I.laid k1 k5 ⟨?_, _, m', vr, k2⟩, rfl, q t' hn⟩
    rw [List.length_append, List.length_flatten]
    exact hz
end
end PV
end

section
set_option Elab.async false
set_option linter.all false
set_option maxRecDepth 100000
set_option maxHeartbeats 2000000
set_option autoImplicit false
/-! PVfz: zip of lists and tuples in any mix -/
namespace PV
open PySem PySem.Spec PyProof.Rows L2
/-- a list (false) or a tuple (true) -/
def SqB (K : PySem.W.Frag) : Bool → Hp → Addr → List V → Prop
  | true => SqT K
  | false => SqL K
def IsSqB : Bool → Heap → Addr → Array Value → Prop
  | true => Heap.IsTuple
  | false => Heap.IsList
def IterB : Bool → Heap → Addr → Addr → Nat → Prop
  | true => Heap.IsTupleIter
  | false => Heap.IsListIter
def oIt (t : Bool) (a : Addr) : Obj := { cls := .type (if t then "tuple_iterator" else "list_iterator"), data := .fields #[.ref a, .int 0 0] }
theorem IterB.at {t : Bool} {h h' : Heap} {it a : Addr} {i : Nat} (x : IterB t h it a i) (e : ∀ o, h.get? it = some o → h'.get? it = some o) : IterB t h' it a i := by
  cases t
  · exact Heap.IsListIter.at x e
  · exact Heap.IsTupleIter.at x e
theorem IterB.obj {t : Bool} {h : Heap} {it a : Addr} {i : Nat} (x : IterB t h it a i) : ∃ o, h.get? it = some o ∧ ∀ v, o.data ≠ .cell v := by
  cases t
  · obtain ⟨o, e, _, d⟩ := x
    exact ⟨o, e, fun v q => by rw [d] at q; cases q⟩
  · obtain ⟨o, e, _, d⟩ := x
    exact ⟨o, e, fun v q => by rw [d] at q; cases q⟩
theorem begins_b (t : Bool) (a : Addr) (items : Array Value) : Begins (.ref a) (oIt t a) fun h => IsSqB t h a items := by
  cases t
  · exact begins_list a items
  · exact begins_tuple a items
theorem draws_b (t : Bool) {prog : Program} {w : World} {A : Around} (hh : A.handled = none) (it a : Addr) (hne : a ≠ it) (items : Array Value) :
    Draws prog w A it [it, a] items.size (fun i v => items[i]? = some v) (fun i h => IterB t h it a i ∧ IsSqB t h a items) := by
  cases t
  · exact Draws.list hh it a hne items
  · exact Draws.tuple hh it a hne items
theorem iterB0 {t : Bool} {h : Heap} {it a : Addr} (e : h.get? it = some (oIt t a)) : IterB t h it a 0 := by
  cases t
  · exact ⟨_, e, rfl, rfl⟩
  · exact ⟨_, e, rfl, rfl⟩
theorem IsSqB.lt {t : Bool} {h : Heap} {a : Addr} {items : Array Value} (x : IsSqB t h a items) : a < h.objs.size := by
  cases t
  · obtain ⟨o, ho, _⟩ := x
    exact Heap.lt_size ho
  · obtain ⟨o, ho, _⟩ := x
    exact Heap.lt_size ho
section
variable {X : Cx} {pins : List (Addr × Obj)} {σ : L2.St} {H : Hp} {s : Shared}
theorem sqB_get {t : Bool} {a : Addr} {xs : List V} (I : Inv X pins σ H s) (h : SqB X.K t H a xs) : ∃ its : List Value, Vals xs its ∧ IsSqB t s.heap a its.toArray := by
  cases t
  · obtain ⟨its, rv, p, _⟩ := I.list h
    exact ⟨its, rv, p.isList⟩
  · obtain ⟨its, rv, p, _⟩ := I.tuple h
    exact ⟨its, rv, p⟩
theorem sqB_inj {t : Bool} {a : Addr} {xs ys : List V} (I : Inv X pins σ H s) (h : SqB X.K t H a xs) (h' : SqB X.K t H a ys) : xs = ys := by
  cases t
  · exact I.list_inj h h'
  · exact I.tuple_inj h h'
end
/-- the two, the items in new pairs -/
def ItzM (K : PySem.W.Frag) (t1 t2 : Bool) (a b : Addr) : It :=
  ⟨fun i H => ∃ (xs ys : List V) (x y : V), SqB K t1 H a xs ∧ SqB K t2 H b ys ∧ xs[i]? = some x ∧ ys[i]? = some y,
    fun i H v H' => ∃ T x y, v = .ref T ∧ H T = none ∧ H' = upd H T (.tup [x, y]) ∧ (∀ xs, SqB K t1 H a xs → xs[i]? = some x) ∧ ∀ ys, SqB K t2 H b ys → ys[i]? = some y,
    fun i H => ∃ xs ys : List V, SqB K t1 H a xs ∧ SqB K t2 H b ys ∧ (i ≤ xs.length ∧ i ≤ ys.length) ∧ (xs.length ≤ i ∨ ys.length ≤ i)⟩
theorem sep_of {z TI TO i1 i2 a b : Addr} (D : ZipApart z TI TO i1 i2 a b) : ZipSep2 z TI TO i1 i2 [i1, a] [i2, b] where
  TIz := D.TIz
  TOz := D.TOz
  TITO := D.TITO
  TIi1 := D.TIi1
  mem1 := by simp
  zf1 := by simp only [List.mem_cons, List.not_mem_nil, or_false, not_or]; exact ⟨D.i1z.symm, D.l1z.symm⟩
  Tf1 := by simp only [List.mem_cons, List.not_mem_nil, or_false, not_or]; exact ⟨D.TOi1, D.l1TO.symm⟩
  TIi2 := D.TIi2
  mem2 := by simp
  zf2 := by simp only [List.mem_cons, List.not_mem_nil, or_false, not_or]; exact ⟨D.i2z.symm, D.l2z.symm⟩
  Tf2 := by simp only [List.mem_cons, List.not_mem_nil, or_false, not_or]; exact ⟨D.TOi2, D.l2TO.symm⟩
  sep1_2 := by simp only [List.mem_cons, List.not_mem_nil, or_false, not_or]; exact ⟨D.i12, D.l2i1.symm⟩
  sep2_1 := by simp only [List.mem_cons, List.not_mem_nil, or_false, not_or]; exact ⟨D.i12.symm, D.l1i2.symm⟩
theorem turn_zipM {P : Program} {w : World} {K : PySem.W.Frag} {elts : List Expr} {kk : Nat} {tpos : Pos} {t1 t2 : Bool} {a b z TI TO i1 i2 : Addr} (D : ZipApart z TI TO i1 i2 a b) :
    Turn P w K (.Tuple elts kk tpos) (ItzM K t1 t2 a b) [z, TI, TO, i1, i2] z (fun i h => IsZip h z TI TO .none ∧ IsPair h TI (.ref i1) (.ref i2) ∧ (∃ x y, IsPair h TO x y) ∧ IterB t1 h i1 a i ∧ IterB t2 h i2 b i) where
  mem := by simp
  obj := fun i h st c hc => by
    obtain ⟨hz, hTI, ⟨x, y, hTO⟩, h1, h2⟩ := st
    have e' : c = z ∨ c = TI ∨ c = TO ∨ c = i1 ∨ c = i2 := by simpa using hc
    rcases e' with q | q | q | q | q
    · rw [q]; exact ⟨_, hz, fun v q => nomatch q⟩
    · rw [q]; exact ⟨_, hTI, fun v q => nomatch q⟩
    · rw [q]; exact ⟨_, hTO, fun v q => nomatch q⟩
    · rw [q]; exact h1.obj
    · rw [q]; exact h2.obj
  keep := fun i h h' st k => by
    obtain ⟨hz, hTI, ⟨x, y, hTO⟩, h1, h2⟩ := st
    exact ⟨k z (by simp) _ hz, k TI (by simp) _ hTI, ⟨x, y, k TO (by simp) _ hTO⟩, h1.at fun o q => k i1 (by simp) o q, h2.at fun o q => k i2 (by simp) o q⟩
  item := by
    intro X hP hw hK hc i pins s σ H E I hf st hg
    subst hP hw hK
    obtain ⟨hz, hTI, ⟨x0, y0, hTO⟩, h1, h2⟩ := st
    obtain ⟨xs, ys, x, y, hqx, hqy, hx, hy⟩ := hg
    obtain ⟨its, rv, p⟩ := sqB_get I hqx
    obtain ⟨its2, rv2, p2⟩ := sqB_get I hqy
    obtain ⟨u, hu, ru⟩ := rv.get hx
    obtain ⟨u2, hu2, ru2⟩ := rv2.get hy
    have hu' : its.toArray[i]? = some u := by simpa using hu
    have hu2' : its2.toArray[i]? = some u2 := by simpa using hu2
    have hzl : z < s.heap.objs.size := Heap.lt_size hz
    have hh : X.A.in1.handled = none := I.ok.hd hc
    refine wpAny_pyNext_zipD2_item (sep_of D) (draws_b t1 hh i1 a D.l1i1 its.toArray) (draws_b t2 hh i2 b D.l2i2 its2.toArray) hz hTI hTO ⟨h1, p⟩ ⟨h2, p2⟩
      (Array.getElem?_eq_some_iff.mp hu').1 (Array.getElem?_eq_some_iff.mp hu2').1 fun v1 v2 h' tk e1 e2 z' TO' h1' h2' hT hsz hk => ?_
    have e1 : its.toArray[i]? = some v1 := e1
    have e2 : its2.toArray[i]? = some v2 := e2
    rw [hu'] at e1
    rw [hu2'] at e2
    cases e1
    cases e2
    refine ⟨_, rfl, wpAny_letOwnedTupleGo_zip (s := { s with heap := h', toks := tk }) z' fun h'' z'' sb => ?_⟩
    have hT2 : h''.get? s.heap.objs.size = some { cls := .type "tuple", data := .seq #[u, u2] } := (sb.2 _ (Nat.ne_of_gt hzl)).trans hT
    have new : ObjOk X.prog X.w (upd H s.heap.objs.size (.tup [x, y])) h'' s.heap.objs.size (.tup [x, y]) :=
      ⟨by show 2 ≤ sizeLine; decide, [u, u2], .cons ru (.cons ru2 .nil), ⟨_, hT2, rfl, _, rfl⟩⟩
    have I1 : Inv X pins σ (upd H s.heap.objs.size (.tup [x, y])) { s with heap := h'', toks := tk } :=
      I.turnedNew (t' := tk) (ch := [z, TI, TO, i1, i2]) (fun c o hb q => (sb.2 c (fun q' => hb (by simp [q']))).trans (hk c o (fun q' => hb (by simp [q'])) (fun q' => hb (by simp [q'])) (fun q' => hb (by simp [q'])) (fun q' => hb (by simp [q'])) q)) hf (Nat.le_refl _) new
    refine ⟨.ref s.heap.objs.size, _, I1, rfl, ⟨_, x, y, rfl, I.hok.fresh (Nat.le_refl _), rfl, fun l hl => by rw [sqB_inj I hl hqx]; exact hx, fun l hl => by rw [sqB_inj I hl hqy]; exact hy⟩, ⟨z'', ?_, ⟨u, u2, ?_⟩, ?_, ?_⟩, fun c hcm => ?_⟩
    · exact (sb.2 _ D.TIz).trans (hk _ _ D.TIz D.TITO D.TIi1 D.TIi2 hTI)
    · exact (sb.2 _ D.TOz).trans TO'
    · exact h1'.1.at fun o q => (sb.2 _ D.i1z).trans q
    · exact h2'.1.at fun o q => (sb.2 _ D.i2z).trans q
    · have hlt : c < s.heap.objs.size := by
        have e' : c = z ∨ c = TI ∨ c = TO ∨ c = i1 ∨ c = i2 := by simpa using hcm
        rcases e' with q | q | q | q | q
        · rw [q]; exact hzl
        · rw [q]; exact Heap.lt_size hTI
        · rw [q]; exact Heap.lt_size hTO
        · rw [q]; obtain ⟨_, e1, _⟩ := h1.obj; exact Heap.lt_size e1
        · rw [q]; obtain ⟨_, e2, _⟩ := h2.obj; exact Heap.lt_size e2
      rw [upd_ne (Nat.ne_of_lt hlt)]
      exact (hf c hcm).1
  done := by
    intro X hP hw hK hc i pins s σ H E I hf st hg
    subst hP hw hK
    obtain ⟨hz, hTI, ⟨x0, y0, hTO⟩, h1, h2⟩ := st
    obtain ⟨xs, ys, hqx, hqy, ⟨b1, b2⟩, hend⟩ := hg
    obtain ⟨its, rv, p⟩ := sqB_get I hqx
    obtain ⟨its2, rv2, p2⟩ := sqB_get I hqy
    have l1 : its.toArray.size = xs.length := by rw [List.size_toArray]; exact rv.length.symm
    have l2 : its2.toArray.size = ys.length := by rw [List.size_toArray]; exact rv2.length.symm
    have hh : X.A.in1.handled = none := I.ok.hd hc
    refine wpAny_pyNext_zipD2_end (sep_of D) (draws_b t1 hh i1 a D.l1i1 its.toArray) (draws_b t2 hh i2 b D.l2i2 its2.toArray) hz hTI hTO ⟨h1, p⟩ ⟨h2, p2⟩ (by omega) (by omega) (by omega) fun h' tk hk => ⟨rfl, ?_⟩
    exact I.turnedL (t' := tk) (ch := [z, TI, TO, i1, i2]) (fun c o hb q => hk c o (fun q' => hb (by simp [q'])) (fun q' => hb (by simp [q'])) (fun q' => hb (by simp [q'])) (fun q' => hb (by simp [q'])) q) hf
  self := fun A i s Q E st h => wpAny_pyIter_zip st.1 h

def iZipM (K : PySem.W.Frag) (ta : TA) : TI := fun σ H R => ta σ H fun vs H1 => ∃ t1 t2 a b xs ys, vs = [.ref a, .ref b] ∧ SqB K t1 H1 a xs ∧ SqB K t2 H1 b ys ∧ R (ItzM K t1 t2 a b) H1
theorem pi_zipM {X : Cx} {e e2 : Expr} {ta : TA} {p pos tpos : Pos} {elts : List Expr} {kk : Nat} (hg : Gl X "zip") (hm : X.mg "zip" = none) (ha : PA X [e, e2] ta)
    (hs : starEach [e, e2] X.env = (false, eval e X.env) :: starEach [e2] X.env := by rfl) (hpl : (backTo pos (starEach [e2] X.env)).any (·.1) = false := by rfl) :
    PI X (.Tuple elts kk tpos) (.Call (.Name "zip" p) [e, e2] [] pos) (iZipM X.K ta) := by
  refine ⟨fun pins s σ H R I h => ?_⟩
  refine Call_ (ld_blt I hg hm PyProof.Rows.boot_zip (PyProof.Rows.callWith_type1 (thn (ha.run pos pins s σ H _ I h) fun us s1 ⟨vs, H1, I1, r1, q1⟩ => ?_) hs hpl))
  obtain ⟨t1, t2, a, b, xs, ys, ex, hqx, hqy, q⟩ := q1
  subst ex
  cases r1 with
  | cons r rr =>
    cases rr with
    | cons r' rr =>
      cases rr
      cases r
      cases r'
      have fresh5 : ∀ c, c ∈ [s1.heap.objs.size + 4, s1.heap.objs.size + 2, s1.heap.objs.size + 3, s1.heap.objs.size, s1.heap.objs.size + 1] → FpOk X pins H1 c := fun c hcm => by
        have e' : c = s1.heap.objs.size + 4 ∨ c = s1.heap.objs.size + 2 ∨ c = s1.heap.objs.size + 3 ∨ c = s1.heap.objs.size ∨ c = s1.heap.objs.size + 1 := by simpa using hcm
        have hle : s1.heap.objs.size ≤ c := by
          rcases e' with z | z | z | z | z
          · rw [z]; exact Nat.le_add_right _ _
          · rw [z]; exact Nat.le_add_right _ _
          · rw [z]; exact Nat.le_add_right _ _
          · rw [z]; exact Nat.le_refl _
          · rw [z]; exact Nat.le_add_right _ _
        exact I1.fpOk hle (I1.hok.fresh hle)
      obtain ⟨its, rv, p1⟩ := sqB_get I1 hqx
      obtain ⟨its2, rv2, p2⟩ := sqB_get I1 hqy
      refine zip_begins2 (begins_b t1 a its.toArray) (begins_b t2 b its2.toArray) p1 p2 fun h' hz hTI hTO h1 h2 hsz hk => wpAny_pyIter_zip hz ?_
      have I2 : Inv X pins σ H1 { s1 with heap := h' } := I1.kept (t' := s1.toks) hk
      exact ⟨s1.heap.objs.size + 4, [s1.heap.objs.size + 4, s1.heap.objs.size + 2, s1.heap.objs.size + 3, s1.heap.objs.size, s1.heap.objs.size + 1], _, _, H1, rfl, I2, turn_zipM (PySem.W.ktu_apart s1.heap.objs.size a b p1.lt p2.lt), ⟨hz, hTI, ⟨_, _, hTO⟩, iterB0 h1, iterB0 h2⟩, fresh5, q⟩
end PV
end

section
set_option Elab.async false
set_option linter.all false
set_option maxRecDepth 100000
set_option maxHeartbeats 2000000
set_option autoImplicit false
/-! PVfd: dict(zip(a, b)), lists and tuples in any mix, the keys numbers -/
namespace PV
open PySem PySem.Spec PyProof.Rows L2
theorem IsSqB.at {t : Bool} {h h' : Heap} {a : Addr} {items : Array Value} (x : IsSqB t h a items) (e : ∀ o, h.get? a = some o → h'.get? a = some o) : IsSqB t h' a items := by
  cases t
  · exact Heap.IsList.at x e
  · exact Heap.IsTuple.at x e
theorem IsSqB.there {t : Bool} {h : Heap} {a : Addr} {items : Array Value} (x : IsSqB t h a items) : ∃ o, h.get? a = some o := by
  cases t
  · obtain ⟨o, ho, _⟩ := x; exact ⟨o, ho⟩
  · obtain ⟨o, ho, _⟩ := x; exact ⟨o, ho⟩
section
variable {prog : Program} {w : World} {A : Around} {E : Value → Shared → Prop} {s : Shared} {z TI TO T i1 i2 : Addr} {fp1 fp2 : List Addr} {n1 n2 i : Nat} {P1 P2 : Nat → Value → Prop} {St1 St2 : Nat → Heap → Prop} {f : Bool} {oT : Obj}
/-- the next pair while the last one is still held -/
theorem held_item {Q : Value → Shared → Prop} (S : ZipSep2 z TI TO i1 i2 fp1 fp2) (D1 : Draws prog w A i1 fp1 n1 P1 St1) (D2 : Draws prog w A i2 fp2 n2 P2 St2)
    (hz : IsZipHeld s.heap z TI TO T f) (hT : s.heap.get? T = some oT) (hTI : IsPair s.heap TI (.ref i1) (.ref i2)) (st1 : St1 i s.heap) (st2 : St2 i s.heap) (hlt1 : i < n1) (hlt2 : i < n2)
    (hQ : ∀ x1 x2 h' tk, P1 i x1 → P2 i x2 → IsZipHeld h' z TI TO T true → St1 (i + 1) h' → St2 (i + 1) h' → IsPair h' s.heap.objs.size x1 x2 → h'.objs.size = s.heap.objs.size + 1 →
      (∀ c o, c ≠ z → c ≠ i1 → c ≠ i2 → s.heap.get? c = some o → h'.get? c = some o) → Q (.ref s.heap.objs.size) { s with heap := h', toks := tk }) :
    wpAny (model prog w) A (Builtin.«zip.__next__» ⟨[.ref z], []⟩) (fun fin s' => ∃ v, fin = .done (.ret v) ∧ Q v s') E s := by
  obtain ⟨hp, g, d, tk0, os⟩ := s
  show wpAny _ _ (field (.ref z) 2 >>= _) _ _ _
  refine wpAny_bind (wpAny_field hz rfl (x := .bool false) rfl ?_)
  show wpAny _ _ (field (.ref z) 3 >>= _) _ _ _
  refine wpAny_bind (wpAny_field hz rfl (x := .ref TI) rfl ?_)
  refine wpAny_bind (wpAny_seqItems hTI rfl ?_)
  show wpAny _ _ (Builtin.SmallTypes.ownedTupleIsFree (.ref z) >>= _) _ _ _
  refine wpAny_bind (wpAny_tupleHeld_zip hz hT fun h1 hz1 hs1 => ?_)
  replace hs1 : Heap.SameBut z hp h1 := hs1
  simp only [Bool.false_eq_true, if_false]
  refine wpAny_bind ?_
  rw [← Array.forIn_toList]
  simp only [List.forIn_cons, List.forIn_nil]
  refine wpAny_bind (wpAny_bind (wpAny_holding ?_))
  show wpAny _ _ (Builtin.SmallTypes.nextOf (.ref i1) >>= _) _ _ ⟨h1, g, d, tk0, os⟩
  refine wpAny_bind (D1.item i _ _ _ hlt1 (D1.over st1 hs1 S.zf1) fun x1 h2 tk1 hx1 sn1 hs2 => wpAny_pure ?_)
  replace hs2 : Heap.SameBut i1 h1 h2 := hs2
  refine wpAny_pure ?_
  refine wpAny_bind (wpAny_bind (wpAny_holding ?_))
  show wpAny _ _ (Builtin.SmallTypes.nextOf (.ref i2) >>= _) _ _ ⟨h2, g, d, tk1, os⟩
  refine wpAny_bind (D2.item i _ _ _ hlt2 (D2.over (D2.over st2 hs1 S.zf2) hs2 S.sep1_2) fun x2 h3 tk2 hx2 sn2 hs3 => wpAny_pure ?_)
  replace hs3 : Heap.SameBut i2 h2 h3 := hs3
  refine wpAny_pure (wpAny_pure ?_)
  show wpAny _ _ (newTuple [x1, x2] >>= _) _ _ _
  refine wpAny_bind (wpAny_newTuple ?_)
  have hsz : h3.objs.size = hp.objs.size := by rw [hs3.1, hs2.1, hs1.1]
  have hz3 : IsZipHeld h3 z TI TO T true := hs3.extBut _ _ S.zi2 (hs2.extBut _ _ S.zi1 hz1)
  have hk : ∀ c o, c ≠ z → c ≠ i1 → c ≠ i2 → hp.get? c = some o → h3.get? c = some o := fun c o c1 c2 c3 e => hs3.extBut _ _ c3 (hs2.extBut _ _ c2 (hs1.extBut _ _ c1 e))
  have j1 : St1 (i + 1) h3 := D1.over sn1 hs3 S.sep2_1
  refine wpAny_pure ⟨_, rfl, ?_⟩
  show Q (.ref h3.objs.size) ⟨h3.push { cls := .type "tuple", data := .seq #[x1, x2] }, g, d, tk2, os⟩
  have hp4 : IsPair (h3.push { cls := .type "tuple", data := .seq #[x1, x2] }) h3.objs.size x1 x2 := Heap.get?_push_size _ rfl
  have hz4 : (h3.push { cls := .type "tuple", data := .seq #[x1, x2] }).objs.size = h3.objs.size + 1 := Heap.size_push ..
  rw [hsz] at hp4 hz4 ⊢
  exact hQ x1 x2 _ tk2 hx1 hx2 (Heap.get?_push_of_some _ hz3) (D1.frame _ _ _ j1 fun b _ o e => Heap.get?_push_of_some _ e) (D2.frame _ _ _ sn2 fun b _ o e => Heap.get?_push_of_some _ e) hp4 hz4 fun c o c1 c2 c3 e => Heap.get?_push_of_some _ (hk c o c1 c2 c3 e)
theorem held_end {Q : Fin → Shared → Prop} (S : ZipSep2 z TI TO i1 i2 fp1 fp2) (D1 : Draws prog w A i1 fp1 n1 P1 St1) (D2 : Draws prog w A i2 fp2 n2 P2 St2)
    (hz : IsZipHeld s.heap z TI TO T f) (hT : s.heap.get? T = some oT) (hTI : IsPair s.heap TI (.ref i1) (.ref i2)) (st1 : St1 i s.heap) (st2 : St2 i s.heap) (hle1 : i ≤ n1) (hle2 : i ≤ n2) (hend : i = n1 ∨ i = n2)
    (hE : ∀ h' tk e, (∀ c o, c ≠ z → c ≠ i1 → c ≠ i2 → s.heap.get? c = some o → h'.get? c = some o) → (∃ o, h'.get? e = some o ∧ o.cls = .type "StopIteration") → E (.ref e) { s with heap := h', toks := tk }) :
    wpAny (model prog w) A (Builtin.«zip.__next__» ⟨[.ref z], []⟩) Q E s := by
  obtain ⟨hp, g, d, tk0, os⟩ := s
  show wpAny _ _ (field (.ref z) 2 >>= _) _ _ _
  refine wpAny_bind (wpAny_field hz rfl (x := .bool false) rfl ?_)
  show wpAny _ _ (field (.ref z) 3 >>= _) _ _ _
  refine wpAny_bind (wpAny_field hz rfl (x := .ref TI) rfl ?_)
  refine wpAny_bind (wpAny_seqItems hTI rfl ?_)
  show wpAny _ _ (Builtin.SmallTypes.ownedTupleIsFree (.ref z) >>= _) _ _ _
  refine wpAny_bind (wpAny_tupleHeld_zip hz hT fun h1 hz1 hs1 => ?_)
  replace hs1 : Heap.SameBut z hp h1 := hs1
  simp only [Bool.false_eq_true, if_false]
  refine wpAny_bind ?_
  rw [← Array.forIn_toList]
  simp only [List.forIn_cons, List.forIn_nil]
  refine wpAny_bind (wpAny_bind (wpAny_holding ?_))
  show wpAny _ _ (Builtin.SmallTypes.nextOf (.ref i1) >>= _) _ _ ⟨h1, g, d, tk0, os⟩
  by_cases hi : i < n1
  · refine wpAny_bind (D1.item i _ _ _ hi (D1.over st1 hs1 S.zf1) fun x1 h2 tk1 hx1 sn1 hs2 => wpAny_pure ?_)
    replace hs2 : Heap.SameBut i1 h1 h2 := hs2
    have hi2 : i = n2 := by omega
    refine wpAny_pure ?_
    refine wpAny_bind (wpAny_bind (wpAny_holding ?_))
    show wpAny _ _ (Builtin.SmallTypes.nextOf (.ref i2) >>= _) _ _ ⟨h2, g, d, tk1, os⟩
    refine wpAny_bind (D2.done ⟨h2, g, d, tk1, os⟩ _ _ (by rw [← hi2]; exact D2.over (D2.over st2 hs1 S.zf2) hs2 S.sep1_2) fun h3 e hs3 he => ?_)
    exact hE h3 tk1 e (fun c o c1 c2 c3 x => hs3 _ _ c3 (hs2.extBut _ _ c2 (hs1.extBut _ _ c1 x))) he
  · have hi1 : i = n1 := by omega
    refine wpAny_bind (D1.done ⟨h1, g, d, tk0, os⟩ _ _ (by rw [← hi1]; exact D1.over st1 hs1 S.zf1) fun h2 e hs2 he => ?_)
    exact hE h2 tk0 e (fun c o c1 c2 _ x => hs2 _ _ c2 (hs1.extBut _ _ c1 x)) he
theorem next_held_item {Q : Option Value → Shared → Prop} (S : ZipSep2 z TI TO i1 i2 fp1 fp2) (D1 : Draws prog w A.in1 i1 fp1 n1 P1 St1) (D2 : Draws prog w A.in1 i2 fp2 n2 P2 St2)
    (hz : IsZipHeld s.heap z TI TO T f) (hT : s.heap.get? T = some oT) (hTI : IsPair s.heap TI (.ref i1) (.ref i2)) (st1 : St1 i s.heap) (st2 : St2 i s.heap) (hlt1 : i < n1) (hlt2 : i < n2)
    (hQ : ∀ x1 x2 h' tk, P1 i x1 → P2 i x2 → IsZipHeld h' z TI TO T true → St1 (i + 1) h' → St2 (i + 1) h' → IsPair h' s.heap.objs.size x1 x2 → h'.objs.size = s.heap.objs.size + 1 →
      (∀ c o, c ≠ z → c ≠ i1 → c ≠ i2 → s.heap.get? c = some o → h'.get? c = some o) → Q (some (.ref s.heap.objs.size)) { s with heap := h', toks := tk }) :
    wpAny (model prog w) A (pyNext (.ref z)) Q E s := by
  have hTy : s.TypeIs (.ref z) "zip" := ⟨_, hz, rfl⟩
  unfold pyNext
  exact wpAny_bind (wpAny_attempt (wpAny_callSpecial?_slot (name := Str.ofString "__next__") hTy F.slot_zip_next
    (wpAny_call_entry F.slot_zip_next hTy F.entry_zip_next
      (held_item S D1 D2 hz hT hTI st1 st2 hlt1 hlt2 fun x1 x2 h' tk a1 a2 a3 a4 a5 a6 a7 a8 => wpAny_pure (hQ x1 x2 h' tk a1 a2 a3 a4 a5 a6 a7 a8)) (F.args_zip_next_1 _))))
theorem next_held_end {Q : Option Value → Shared → Prop} (S : ZipSep2 z TI TO i1 i2 fp1 fp2) (D1 : Draws prog w A.in1 i1 fp1 n1 P1 St1) (D2 : Draws prog w A.in1 i2 fp2 n2 P2 St2)
    (hz : IsZipHeld s.heap z TI TO T f) (hT : s.heap.get? T = some oT) (hTI : IsPair s.heap TI (.ref i1) (.ref i2)) (st1 : St1 i s.heap) (st2 : St2 i s.heap) (hle1 : i ≤ n1) (hle2 : i ≤ n2) (hend : i = n1 ∨ i = n2)
    (hQ : ∀ h' tk, (∀ c o, c ≠ z → c ≠ i1 → c ≠ i2 → s.heap.get? c = some o → h'.get? c = some o) → Q none { s with heap := h', toks := tk }) : wpAny (model prog w) A (pyNext (.ref z)) Q E s := by
  have hTy : s.TypeIs (.ref z) "zip" := ⟨_, hz, rfl⟩
  unfold pyNext
  refine wpAny_bind (wpAny_attempt (wpAny_callSpecial?_slot (name := Str.ofString "__next__") hTy F.slot_zip_next
    (wpAny_call_entry F.slot_zip_next hTy F.entry_zip_next (held_end S D1 D2 hz hT hTI st1 st2 hle1 hle2 hend fun h' tk e hk he => ?_) (F.args_zip_next_1 _))))
  obtain ⟨o, ho, hc⟩ := he
  refine wpAny_bind (wpAny_isInstance (T := "StopIteration") (b := true) ⟨o, ho, hc⟩ isSubtype_stop ?_)
  exact wpAny_pure (hQ _ _ hk)
end
section
variable {prog : Program} {w : World}
theorem pairsM (t1 t2 : Bool) (z TI TO i1 i2 l1 l2 : Addr) (D : ZipApart z TI TO i1 i2 l1 l2) (xs ys : Array Value) :
    PairArg prog w "zip" z [z, TI, TO, i1, i2, l1, l2] [z, TO, i1, i2] (min xs.size ys.size) (fun i k v => xs[i]? = some k ∧ ys[i]? = some v)
      (fun h => IsZip h z TI TO .none ∧ IsPair h TI (.ref i1) (.ref i2) ∧ (∃ a b, IsPair h TO a b) ∧ IterB t1 h i1 l1 0 ∧ IterB t2 h i2 l2 0 ∧ IsSqB t1 h l1 xs ∧ IsSqB t2 h l2 ys) where
  type := fun s ok => ⟨_, ok.1, rfl⟩
  notDict := by decide
  keep := fun h h' ok hk => by
    obtain ⟨hz, hTI, ⟨a, b, hTO⟩, h1, h2, hl1, hl2⟩ := ok
    exact ⟨hk _ _ hz, hk _ _ hTI, ⟨a, b, hk _ _ hTO⟩, h1.at fun o e => hk _ o e, h2.at fun o e => hk _ o e, hl1.at fun o e => hk _ o e, hl2.at fun o e => hk _ o e⟩
  there := fun h ok b hb => by
    obtain ⟨hz, hTI, ⟨a, c, hTO⟩, h1, h2, hl1, hl2⟩ := ok
    obtain ⟨o1, h1, _⟩ := h1.obj
    obtain ⟨o2, h2, _⟩ := h2.obj
    obtain ⟨o3, hl1⟩ := hl1.there
    obtain ⟨o4, hl2⟩ := hl2.there
    simp only [List.mem_cons, List.not_mem_nil, or_false] at hb
    rcases hb with rfl | rfl | rfl | rfl | rfl | rfl | rfl
    all_goals first | exact ⟨_, hz⟩ | exact ⟨_, hTI⟩ | exact ⟨_, hTO⟩ | exact ⟨_, h1⟩ | exact ⟨_, h2⟩ | exact ⟨_, hl1⟩ | exact ⟨_, hl2⟩
  sub := fun b hb => by simp at hb ⊢; rcases hb with rfl | rfl | rfl | rfl <;> simp
  noKeys := fun A s Q E hA ok h => getAttrOr_miss_zip ok.1 rfl rfl rfl zip_no_keys (by decide +kernel) hA h
  iter := fun A s d Q E hA ok hd hdf h => by
    obtain ⟨hz, hTI, ⟨a, b, hTO⟩, h1, h2, hl1, hl2⟩ := ok
    simp only [List.mem_cons, List.not_mem_nil, or_false, not_or] at hdf
    obtain ⟨dz, dTI, dTO, di1, di2, dl1, dl2⟩ := hdf
    have hA1 : A.in1.handled = none := hA
    have S := sep_of D
    have D1 := draws_b t1 (prog := prog) (w := w) hA1 i1 l1 D.l1i1 xs
    have D2 := draws_b t2 (prog := prog) (w := w) hA1 i2 l2 D.l2i2 ys
    refine wpAny_pyIter_zip hz (h z [z, TO, i1, i2] (fun i h => IsPair h TI (.ref i1) (.ref i2) ∧ (IterB t1 h i1 l1 i ∧ IsSqB t1 h l1 xs) ∧ (IterB t2 h i2 l2 i ∧ IsSqB t2 h l2 ys) ∧
      ((IsZip h z TI TO .none ∧ ∃ a b, IsPair h TO a b) ∨ ∃ T f oT, IsZipHeld h z TI TO T f ∧ h.get? T = some oT ∧ T ≠ z ∧ T ≠ i1 ∧ T ≠ i2 ∧ T ≠ d)) s.heap s.toks ?_
      ⟨hTI, ⟨h1, hl1⟩, ⟨h2, hl2⟩, .inl ⟨hz, a, b, hTO⟩⟩ (fun _ _ e => e) fun b hb => .inl hb)
    exact {
      off := fun hm => by
        simp only [List.mem_cons, List.not_mem_nil, or_false] at hm
        rcases hm with e | e | e | e
        · exact dz e
        · exact dTO e
        · exact di1 e
        · exact di2 e
      frame := fun i h₁ h₂ st hk => by
        obtain ⟨hTI, ⟨h1, hl1⟩, ⟨h2, hl2⟩, hz⟩ := st
        refine ⟨hk _ _ (Ne.symm dTI) hTI, ⟨h1.at fun o e => hk _ o (Ne.symm di1) e, hl1.at fun o e => hk _ o (Ne.symm dl1) e⟩, ⟨h2.at fun o e => hk _ o (Ne.symm di2) e, hl2.at fun o e => hk _ o (Ne.symm dl2) e⟩, ?_⟩
        rcases hz with ⟨hz, a, b, hTO⟩ | ⟨T, f, oT, hz, hT, r1, r2, r3, r4⟩
        · exact .inl ⟨hk _ _ (Ne.symm dz) hz, a, b, hk _ _ (Ne.symm dTO) hTO⟩
        · exact .inr ⟨T, f, oT, hk _ _ (Ne.symm dz) hz, hk _ _ r4 hT, r1, r2, r3, r4⟩
      item := fun i s₁ Q₁ E₁ hi st hds hQ => by
        obtain ⟨hTI, st1, st2, hz⟩ := st
        have hix : i < xs.size := Nat.lt_of_lt_of_le hi (Nat.min_le_left ..)
        have hiy : i < ys.size := Nat.lt_of_lt_of_le hi (Nat.min_le_right ..)
        have lt : ∀ {c o}, s₁.heap.get? c = some o → s₁.heap.objs.size ≠ c := fun e => Nat.ne_of_gt (Heap.lt_size e)
        have n1 : s₁.heap.objs.size ≠ i1 := let ⟨_, e, _⟩ := st1.1.obj; lt e
        have n2 : s₁.heap.objs.size ≠ i2 := let ⟨_, e, _⟩ := st2.1.obj; lt e
        rcases hz with ⟨hz, a, b, hTO⟩ | ⟨T, f, oT, hz, hT, r1, r2, r3, r4⟩
        · refine wpAny_pyNext_zipD2_item S D1 D2 hz hTI hTO st1 st2 hix hiy fun x1 x2 h' tk e1 e2 a1 a2 a3 a4 a5 a6 hk => ?_
          exact hQ s₁.heap.objs.size _ _ h' tk ⟨e1, e2⟩ (.inl ⟨_, a5, rfl, _, rfl⟩)
            ⟨hk _ _ D.TIz D.TITO D.TIi1 D.TIi2 hTI, a3, a4, .inr ⟨s₁.heap.objs.size, false, _, a1, a5, lt hz, n1, n2, Nat.ne_of_gt hds⟩⟩
            fun c o hc e => hk c o (fun x => hc (by simp [x])) (fun x => hc (by simp [x])) (fun x => hc (by simp [x])) (fun x => hc (by simp [x])) e
        · refine next_held_item S D1 D2 hz hT hTI st1 st2 hix hiy fun x1 x2 h' tk e1 e2 a1 a3 a4 a5 a6 hk => ?_
          exact hQ s₁.heap.objs.size _ _ h' tk ⟨e1, e2⟩ (.inl ⟨_, a5, rfl, _, rfl⟩)
            ⟨hk _ _ D.TIz D.TIi1 D.TIi2 hTI, a3, a4, .inr ⟨T, true, oT, a1, hk _ _ r1 r2 r3 hT, r1, r2, r3, r4⟩⟩
            fun c o hc e => hk c o (fun x => hc (by simp [x])) (fun x => hc (by simp [x])) (fun x => hc (by simp [x])) e
      done := fun s₁ Q₁ E₁ st hQ => by
        obtain ⟨hTI, st1, st2, hz⟩ := st
        rcases hz with ⟨hz, a, b, hTO⟩ | ⟨T, f, oT, hz, hT, r1, r2, r3, r4⟩
        · exact wpAny_pyNext_zipD2_end S D1 D2 hz hTI hTO st1 st2 (Nat.min_le_left ..) (Nat.min_le_right ..) (by omega) fun h' tk hk => hQ h' tk fun c o hc e => hk c o (fun x => hc (by simp [x])) (fun x => hc (by simp [x])) (fun x => hc (by simp [x])) (fun x => hc (by simp [x])) e
        · exact next_held_end S D1 D2 hz hT hTI st1 st2 (Nat.min_le_left ..) (Nat.min_le_right ..) (by omega) fun h' tk hk => hQ h' tk fun c o hc e => hk c o (fun x => hc (by simp [x])) (fun x => hc (by simp [x])) (fun x => hc (by simp [x])) e }
end
/-! ### the call -/
theorem zw_keys {α : Type} : ∀ (ns : List Int) (us : List α), ((List.zipWith (fun n u => ((Sum.inl n : Key), u)) ns us).map (·.1)).Sublist (ns.map Sum.inl)
  | [], us => by simp
  | n :: ns, [] => by simp
  | n :: ns, u :: us => by
    simp only [List.zipWith_cons_cons, List.map_cons]
    exact (zw_keys ns us).cons_cons _
theorem zw_nodup {α : Type} {ns : List Int} (us : List α) (h : ns.Nodup) : ((List.zipWith (fun n u => ((Sum.inl n : Key), u)) ns us).map (·.1)).Nodup := by
  refine List.Nodup.sublist (zw_keys ns us) ?_
  exact List.Pairwise.map _ (fun a b hab e => hab (Sum.inl.inj e)) h
theorem zw_kv : ∀ (ns : List Int) {ys : List V} {us : List Value}, Vals ys us → KV (List.zipWith (fun n y => ((Sum.inl n : Key), y)) ns ys) (List.zipWith (fun n u => ((Sum.inl n : Key), u)) ns us)
  | [], _, _, _ => .nil
  | n :: ns, _, _, .nil => .nil
  | n :: ns, _, _, .cons r rs => .cons ⟨rfl, r⟩ (zw_kv ns rs)
def tDzip (K : PySem.W.Frag) (ta : TA) : TE := fun σ H Q => ta σ H fun vs H1 => ∃ (t1 t2 : Bool) (a b : Addr) (ns : List Int) (ys : List V), vs = [.ref a, .ref b] ∧ SqB K t1 H1 a (ns.map V.int) ∧ SqB K t2 H1 b ys ∧ ns.Nodup ∧ ns.length ≤ sizeLine ∧
  ∀ p, H1 p = none → Q (.ref p) (upd H1 p (.dK (List.zipWith (fun n y => ((Sum.inl n : Key), y)) ns ys)))
theorem pe_dzip {X : Cx} {e e2 : Expr} {ta : TA} {p p2 q pos : Pos} (hc : X.calm = true) (hg : Gl X "dict") (hm : X.mg "dict" = none) (hg2 : Gl X "zip") (hm2 : X.mg "zip" = none) (ha : PA X [e, e2] ta)
    (hs : starEach [e, e2] X.env = (false, eval e X.env) :: starEach [e2] X.env) (hpl : (backTo q (starEach [e2] X.env)).any (·.1) = false) :
    PE X (.Call (.Name "dict" p) [.Call (.Name "zip" p2) [e, e2] [] q] [] pos) (tDzip X.K ta) := by
  refine ⟨fun pins s σ H Q I h => ?_⟩
  refine Call_ (ld_blt I hg hm boot_dict ?_)
  refine callWith_type1 (args_cons ?_ rfl) rfl rfl
  refine Call_ (ld_blt I hg2 hm2 boot_zip ?_)
  refine callWith_type1 (thn (ha.run q pins s σ H _ I h) fun us s1 ⟨vs, H1, I1, r1, q1⟩ => ?_) hs hpl
  obtain ⟨t1, t2, a, b, ns, ys, ex, hqx, hqy, hnd, hln, q1⟩ := q1
  subst ex
  cases r1 with
  | cons r rr =>
    cases rr with
    | cons r' rr =>
      cases rr
      cases r
      cases r'
      obtain ⟨its, rv, p1⟩ := sqB_get I1 hqx
      obtain ⟨its2, rv2, p2⟩ := sqB_get I1 hqy
      have hh : X.A.handled = none := I1.ok.hd hc
      have l1 : its.length = ns.length := by rw [← rv.length, List.length_map]
      refine zip_begins2 (begins_b t1 a its.toArray) (begins_b t2 b its2.toArray) p1 p2 fun h' hz hTI hTO h1 h2 hsz hk => ?_
      refine args_nil ?_
      have P := pairsM (prog := X.prog) (w := X.w) t1 t2 (s1.heap.objs.size + 4) (s1.heap.objs.size + 2) (s1.heap.objs.size + 3) s1.heap.objs.size (s1.heap.objs.size + 1) a b (PySem.W.ktu_apart s1.heap.objs.size a b p1.lt p2.lt) its.toArray its2.toArray
      refine PySem.call_dict_pairs (knd := mixKind X.prog X.w) (kvs := List.zipWith (fun n u => ((Sum.inl n : Key), u)) ns its2) P hh
        ⟨hz, hTI, ⟨_, _, hTO⟩, iterB0 h1, iterB0 h2, p1.at fun o e => hk _ o e, p2.at fun o e => hk _ o e⟩ ⟨?_, ?_⟩ ?_ fun h2 tk hd hk2 => ?_
      · rw [List.length_zipWith, List.size_toArray, List.size_toArray, l1]
      · rintro i key v ⟨e1, e2⟩
        have e1 : its[i]? = some key := by simpa using e1
        have e2 : its2[i]? = some v := by simpa using e2
        have hi : i < ns.length := by rw [← l1]; exact (List.getElem?_eq_some_iff.mp e1).1
        have hn : (ns.map V.int)[i]? = some (.int ns[i]) := by rw [List.getElem?_map, List.getElem?_eq_getElem hi]; rfl
        obtain ⟨u, hu, ru⟩ := rv.get hn
        rw [e1] at hu
        cases hu
        refine ⟨.inl ns[i], ?_, kV_is (k := .inl ns[i]) ru⟩
        rw [List.getElem?_zipWith, List.getElem?_eq_getElem hi, e2]
      · refine Nat.le_trans (Nat.min_le_left _ _) ?_
        rw [List.size_toArray, l1]
        exact hln
      · rw [merged_nil_of_nodup _ (zw_nodup its2 hnd)] at hd
        have hb : s1.heap.objs.size ≤ h'.objs.size := by rw [hsz]; exact Nat.le_add_right _ _
        have hf : H1 h'.objs.size = none := I1.hok.fresh hb
        have hk3 : ∀ c o, s1.heap.get? c = some o → h2.get? c = some o := fun c o e => by
          have lt : c < s1.heap.objs.size := Heap.lt_size e
          refine hk2 c o (fun hm => ?_) (hk c o e)
          simp only [List.mem_cons, List.not_mem_nil, or_false] at hm
          rcases hm with z | z | z | z
          · rw [z] at lt; exact absurd lt (Nat.not_lt.mpr (Nat.le_add_right _ _))
          · rw [z] at lt; exact absurd lt (Nat.not_lt.mpr (Nat.le_add_right _ _))
          · rw [z] at lt; exact absurd lt (Nat.lt_irrefl _)
          · rw [z] at lt; exact absurd lt (Nat.not_lt.mpr (Nat.le_add_right _ _))
        have hm : (h'.objs.size == sysModules) = false := beq_eq_false_iff_ne.mpr (Nat.ne_of_gt (Nat.lt_of_lt_of_le I1.big hb))
        refine ⟨.ref h'.objs.size, _, I1.laid (t' := tk) hk3 hb (show ObjOk X.prog X.w _ _ _ (.dK (List.zipWith (fun n y => ((Sum.inl n : Key), y)) ns ys)) from ⟨?_, hm, _, zw_kv ns rv2, hd⟩), rfl, q1 _ hf⟩
        rw [List.length_zipWith]
        exact Nat.le_trans (Nat.min_le_left _ _) hln
end PV
end

section
set_option Elab.async false
set_option linter.all false
set_option maxRecDepth 100000
set_option maxHeartbeats 2000000
set_option autoImplicit false
/-! PVg: how plain parameters are bound; what a def promises -/
namespace PV
open PySem PySem.Spec L2

/-- parameters that are names alone -/
def plainP (p : Arguments) : Bool := p.posonlyargs.isEmpty && p.kwonlyargs.isEmpty && p.vararg.isNone && p.kwarg.isNone
theorem lookup_zip_none {ps : List Str} {us : List Value} {n : Str} (h : n ∉ ps) : (ps.zip us).lookup n = none := by
  induction ps generalizing us with
  | nil => rfl
  | cons p ps ih =>
    cases us with
    | nil => rfl
    | cons u us =>
      simp only [List.mem_cons, not_or] at h
      have e : (n == p) = false := by simpa using h.1
      simp only [List.zip_cons_cons, List.lookup_cons, e]
      exact ih h.2
theorem lookup_zip_get {ps : List Str} {us : List Value} (nd : ps.Nodup) : ∀ {i : Nat} {n : Str} {u : Value}, ps[i]? = some n → us[i]? = some u → (ps.zip us).lookup n = some u := by
  induction ps generalizing us with
  | nil => intro i n u h; simp at h
  | cons p ps ih =>
    intro i n u h g
    cases us with
    | nil => simp at g
    | cons w us =>
      obtain ⟨n1, n2⟩ := List.nodup_cons.mp nd
      cases i with
      | zero =>
        simp at h g
        subst h g
        simp
      | succ i =>
        have h' : ps[i]? = some n := by simpa using h
        have e : (n == p) = false := by
          have : n ≠ p := fun z => n1 (z ▸ List.mem_of_getElem? h')
          simpa using this
        simp only [List.zip_cons_cons, List.lookup_cons, e]
        exact ih n2 h' (by simpa using g)
/-- the parameters, each with its value -/
theorem binds_zip {zs : List (Str × Value)} : ∀ {qs : List Str} {us : List Value}, qs.length = us.length → (∀ (i : Nat) (n : Str) (u : Value), qs[i]? = some n → us[i]? = some u → zs.lookup n = some u) →
    qs.filterMap (fun n => (zs.lookup n).map (n, ·)) = qs.zip us
  | [], [], _, _ => rfl
  | [], _ :: _, h, _ => by simp at h
  | _ :: _, [], h, _ => by simp at h
  | q :: qs, u :: us, h, g => by
    have e := g 0 q u rfl rfl
    rw [List.filterMap_cons, e]
    show (q, u) :: _ = _
    rw [binds_zip (by simpa using h) (fun i n w h1 h2 => g (i + 1) n w (by simpa using h1) (by simpa using h2))]
    rfl
section
variable {x qual : Str} {params : Arguments} {body : List Stmt} {scope : Scope} {kV doc pm cdv ct : Value} {an : Option Addr}
theorem plain_fields (h : plainP params = true) : params.posonlyargs = [] ∧ params.kwonlyargs = [] ∧ params.vararg = none ∧ params.kwarg = none := by
  unfold plainP at h
  simp only [Bool.and_eq_true, List.isEmpty_iff, Option.isNone_iff_eq_none] at h
  exact ⟨h.1.1.1, h.1.1.2, h.1.2, h.2⟩
theorem bind_pos (hp : plainP params = true) (nd : (params.args.map (·.arg)).Nodup) (us : List Value) (hl : us.length = (params.args.map (·.arg)).length) :
    bindArgs (PySem.W.fnOf x qual params body scope .none kV doc pm an cdv ct) ⟨us, []⟩ = pure ((params.args.map (·.arg)).zip us) := by
  obtain ⟨h1, h2, h3, h4⟩ := plain_fields hp
  unfold bindArgs
  simp only [PySem.W.fnOf, h1, h2, h3, h4, List.map_nil, List.nil_append, List.append_nil]
  have e0 : (seqItems? Value.none) = pure none := rfl
  have e1 : ¬ (us.length > (params.args.map (·.arg)).length) := by omega
  have e2 : ((params.args.map (·.arg)).filter fun n => (((params.args.map (·.arg)).zip us).lookup n).isNone) = [] := by
    rw [List.filter_eq_nil_iff]
    intro n hn
    obtain ⟨i, hi, e⟩ := List.getElem_of_mem hn
    have := lookup_zip_get nd (i := i) (n := n) (u := us[i]'(by omega)) (by rw [List.getElem?_eq_getElem hi, e]) (List.getElem?_eq_getElem _)
    simp [this]
  have e3 := binds_zip (zs := (params.args.map (·.arg)).zip us) (qs := params.args.map (·.arg)) (us := us) hl.symm fun i n u h g => lookup_zip_get nd h g
  simp only [List.forIn_nil, e0, pure_bind, e1, decide_false, Bool.false_and, Bool.false_eq_true, if_false, List.drop_nil, List.length_nil, Nat.sub_zero, Option.getD_none, List.take_length, e2, List.isEmpty_nil, Bool.not_true, List.drop_length, List.zip_nil_right, e3]
theorem lookup_append {zs ys : List (Str × Value)} {n : Str} : (zs ++ ys).lookup n = ((zs.lookup n).or (ys.lookup n)) := by
  induction zs with
  | nil => rfl
  | cons z zs ih =>
    obtain ⟨m, v⟩ := z
    cases e : n == m with
    | true => simp [List.lookup_cons, e]
    | false => simp [List.lookup_cons, e, ih]
theorem forIn_kw {β : Type} (f : Str × Value → List (Str × Value) × β → Sem (ForInStep (List (Str × Value) × β))) (ex : β) :
    ∀ (l : List (Str × Value)) (s0 : List (Str × Value)), (l.map (·.1)).Nodup → (∀ k ∈ l.map (·.1), s0.lookup k = none) →
      (∀ p ∈ l, ∀ sl, sl.lookup p.1 = none → f p (sl, ex) = pure (.yield (sl ++ [p], ex))) → forIn l (s0, ex) f = pure (s0 ++ l, ex)
  | [], s0, _, _, _ => by simp
  | p :: l, s0, nd, h0, hf => by
    rw [List.map_cons, List.nodup_cons] at nd
    rw [List.forIn_cons, hf p (List.mem_cons_self ..) s0 (h0 _ (by simp))]
    rw [pure_bind]
    show forIn l (s0 ++ [p], ex) f = _
    rw [forIn_kw f ex l (s0 ++ [p]) nd.2 (fun k hk => ?_) fun q hq => hf q (List.mem_cons_of_mem _ hq)]
    · simp
    · rw [lookup_append, h0 k (by rw [List.map_cons]; exact List.mem_cons_of_mem _ hk)]
      have n : k ≠ p.1 := fun z => nd.1 (z ▸ hk)
      have : (k == p.1) = false := by simpa using n
      obtain ⟨a, b⟩ := p
      have this : (k == a) = false := this
      simp only [List.lookup_cons, this, List.lookup_nil, Option.or_none]
theorem bind_kw (hp : plainP params = true) (ks : List Str) (ws us : List Value) (nk : ks.Nodup) (hk : ∀ k ∈ ks, k ∈ params.args.map (·.arg))
    (hu : us.length = (params.args.map (·.arg)).length) (hv : ∀ (i : Nat) (n : Str) (u : Value), (params.args.map (·.arg))[i]? = some n → us[i]? = some u → (ks.zip ws).lookup n = some u) :
    bindArgs (PySem.W.fnOf x qual params body scope .none kV doc pm an cdv ct) ⟨[], ks.zip ws⟩ = pure ((params.args.map (·.arg)).zip us) := by
  obtain ⟨h1, h2, h3, h4⟩ := plain_fields hp
  unfold bindArgs
  simp only [PySem.W.fnOf, h1, h2, h3, h4, List.map_nil, List.nil_append, List.append_nil, List.zip_nil_right, List.length_nil]
  have e0 : (seqItems? Value.none) = pure none := rfl
  have e1 : ¬ (0 > (params.args.map (·.arg)).length) := by omega
  have hm : ((ks.zip ws).map (·.1)).Nodup := by
    have : ∀ (ks : List Str) (ws : List Value), ((ks.zip ws).map (·.1)).Sublist ks := fun ks => by
      induction ks with
      | nil => intro ws; simp
      | cons k r ih =>
        intro ws
        cases ws with
        | nil => simp
        | cons w ws => simpa using (ih ws)
    exact nk.sublist (this ks ws)
  have e2 : ((params.args.map (·.arg)).filter fun n => ((ks.zip ws).lookup n).isNone) = [] := by
    rw [List.filter_eq_nil_iff]
    intro n hn
    obtain ⟨i, hi, e⟩ := List.getElem_of_mem hn
    have := hv i n (us[i]'(by omega)) (by rw [List.getElem?_eq_getElem hi, e]) (List.getElem?_eq_getElem _)
    simp [this]
  have e3 := binds_zip (zs := ks.zip ws) (qs := params.args.map (·.arg)) (us := us) hu.symm hv
  rw [forIn_kw _ _ _ _ hm (by intro k _; rfl) (fun p hp sl hs => ?_)]
  · simp only [List.nil_append, List.forIn_nil, e0, pure_bind, e1, decide_false, Bool.false_and, Bool.false_eq_true, if_false, List.drop_nil, List.length_nil, Nat.sub_zero, Option.getD_none, List.take_length, e2, List.isEmpty_nil, Bool.not_true, List.drop_length, List.zip_nil_right, e3]
  · obtain ⟨k, v⟩ := p
    have : k ∈ params.args.map (·.arg) := hk k (List.of_mem_zip hp).1
    have e : (params.args.map (·.arg)).contains k = true := by simpa using this
    simp only [e, Bool.true_or, if_true, hs, Option.isSome_none, Bool.false_eq_true, if_false, pure_bind]
end
end PV
end

section
set_option Elab.async false
set_option linter.all false
set_option maxRecDepth 100000
set_option maxHeartbeats 2000000
set_option autoImplicit false
/-! PVh: what a def promises where no repr is under way; the head's end for such promises -/
namespace PV
open PySem PySem.Spec L2
open PyProof.Rows hiding St

abbrev SpG := List V → Hp → VK → Prop
structure FnG (P : Program) (w : World) (K : PySem.W.Frag) (mg : Str → Option Value) (base : Heap) (k : Nat) (f : Addr) (fd : FuncData) (ps : List Str) (sp : SpG) : Prop where
  len : ∀ vs H Q, sp vs H Q → vs.length = ps.length
  run : ∀ (A : Around) (outer : List Env) (s : Shared) (H : Hp) (args : Args) (us : List Value) (vs : List V) (Q : VK), Room k A → A.guards = some [] → Env0 P w K mg base A outer s H → BindsTo s fd args (ps.zip us) → Vals vs us → sp vs H Q →
    codeAny (model P w) A (.call (.ref f) args) (CR CX0 outer P w H s Q fun _ _ _ => False) s
section
variable {P : Program} {w : World} {K : PySem.W.Frag} {mg : Str → Option Value} {base : Heap}
theorem FnG.mono {j k : Nat} {f : Addr} {fd : FuncData} {ps : List Str} {sp : SpG} (F : FnG P w K mg base j f fd ps sp) (h : j ≤ k) : FnG P w K mg base k f fd ps sp :=
  ⟨F.len, fun A outer s H args us vs Q hr => F.run A outer s H args us vs Q (hr.mono h)⟩
/-- a def keeps its promise, by its body -/
theorem FnG.of {k : Nat} {f : Addr} {x qual : Str} {params : Arguments} {body : List Stmt} {scope : Scope} {dvs : List V} {kws : List (Str × V)} {fd : FuncData} {N ps : List Str} {sp : SpG}
    (F : FunD K x qual params body scope dvs kws f fd) (S : FnScope N ps scope) (len : ∀ vs H Q, sp vs H Q → vs.length = ps.length)
    (hbody : ∀ (cdv : Value) (A : Around) (outer : List Env) (s : Shared) (H : Hp) (vs : List V) (Q : VK), Room k (A.deeper (envOfC qual scope s.heap.objs.size f cdv)) → A.guards = some [] → sp vs H Q →
      ∃ t, PSs (cxOf CX0 P w K mg base N qual scope f cdv A outer s H fun _ _ _ => False).nox body t ∧ t { nx := fun _ H' => Q .non H', rt := Q } (start N vs) H) :
    FnG P w K mg base (k + 1) f fd ps sp := by
  refine ⟨len, fun A outer s H args us vs Q hr hg e0 hb r hsp => ?_⟩
  obtain ⟨oc, od, dV, kV, doc, pm, an, cdv, ct, osl, rfl, lk, hcd, _, _⟩ := F.ex
  have hl := len _ _ _ hsp
  have KX : K.In s.heap := e0.mod.kin.keeps fun b o e => (e0.bs b o e).1
  have lim : s.heap.NoLimit := e0.mod.nolimit.keeps fun b o e => (e0.bs b o e).1
  have hkind : ∀ y ∈ ps.zip us, scope.names.lookup y.1 = some .local ∨ (scope.names.lookup y.1 = some .cell ∧ ((cellsFrom (s.heap.objs.size + 1) scope.names []).lookup y.1).isSome = true) := fun ⟨n, v⟩ hy => by
    rcases S.par n (List.of_mem_zip hy).1 with q | q
    · exact .inl q
    · exact .inr ⟨q, PySem.W.cellsFrom_some _ _ _ (.inl q)⟩
  refine codeAny_call_function hr.depth (KX _ _ lk) rfl S.co S.gen rfl (PySem.W.codeRec_of KX hcd) (hb _ _ _ _ ?_)
  refine wpAny_newFunctionEnv_cells S.kind hkind fun env he s1 x => ?_
  subst he
  refine ⟨lim.keeps x.toInCall.keep, codeAny_func ?_⟩
  obtain ⟨t, ht, hq⟩ := hbody cdv A outer s H vs Q (hr.deeper _) hg hsp
  have I : Inv (cxOf CX0 P w K mg base N qual scope f cdv A outer s H fun _ _ _ => False) [] (start N vs) H s1 := inv_start S hr.hd e0 hl r x
  refine wpAny_mono (ht.nox.run [] s1 (start N vs) H _ I hq) (fun fl s' hs => ?_) fun e s' hs => hs
  have fin : ∀ {σ' : St} {H' : Hp} {v : V} {u : Value}, Inv (cxOf CX0 P w K mg base N qual scope f cdv A outer s H fun _ _ _ => False) [] σ' H' s' → RelV v u → Q v H' → L2.CE outer P w H s Q u s' :=
    fun {σ' H' v u} J rv q => ⟨v, H', J.os, J.bare, J.base, J.hok, rv, q⟩
  cases fl with
  | ret u =>
    obtain ⟨v, σ', H', J, rv, q⟩ := hs
    exact fin J rv q
  | next =>
    obtain ⟨σ', H', J, q⟩ := hs
    exact fin (v := V.non) (u := Value.none) J rfl q
  | brk =>
    obtain ⟨_, _, _, q⟩ := hs
    exact False.elim q
  | cont =>
    obtain ⟨_, _, _, q⟩ := hs
    exact False.elim q
/-- the callee runs -/
theorem run_g {X : Cx} {k : Nat} {f : Addr} {fd : FuncData} {ps : List Str} {sp : SpG} {pins : List (Addr × Obj)} {σ : St} {H : Hp} {s : Shared} {Q : VK} {args : Args} {us : List Value} {vs : List V}
    (F : FnG X.prog X.w X.K X.mg X.base k f fd ps sp) (hr : Room k X.A) (hg : X.A.guards = some []) (hb : BindsTo s fd args (ps.zip us)) (I : Inv X pins σ H s) (r : Vals vs us) (h : sp vs H Q) :
    codeAny (model X.prog X.w) X.A (.call (.ref f) args) (fun r s' => match r with | .ok (.ret u) => EP X pins σ Q u s' | .ok _ => False | .error e => X.xe e s') s := by
  refine codeAny_mono (F.run X.A X.stack s H args us vs Q hr hg I.env0 hb r h) fun r s' hq => ?_
  cases r with
  | error e => exact False.elim hq
  | ok fl =>
    cases fl with
    | ret u => exact I.after hq
    | next => exact False.elim hq
    | brk => exact False.elim hq
    | cont => exact False.elim hq
end

/-! ### the head -/
/-- the law's def is called with its script -/
theorem law_g {P : Program} {w : World} {K : PySem.W.Frag} {mg mb : Str → Option Value} {k : Nat} {fa a : Addr} {fd : FuncData} {x : Str} {sp : SpG} {s₁ : Shared} {vs : List Value} {ns : List Int}
    (KX : K.In s₁.heap) (hns : s₁.heap.Ns mainGlobals mg) (hb : s₁.heap.Ns builtinsNs mb) (hbb : ∀ x : Str, x ≠ "__name__" → mb x = bootBuiltins x) (hlim : s₁.heap.NoLimit) (hg : s₁.gens = #[])
    (ha : s₁.heap.get? a = some { cls := .type "list", data := .seq vs.toArray }) (hi : IntsAre vs ns) (hl : ns.length ≤ sizeLine) (hr : Room k callerA)
    (F : ∀ base : Heap, K.In base → base.Ns mainGlobals mg → FnG P w K mg base k fa fd [x] sp) (hbind : ∀ (s : Shared) (u : Value), BindsTo s fd ⟨[u], []⟩ [(x, u)])
    (hsp : ∀ H : Hp, Only H → SqL K H a (ns.map V.int) → sp [.ref a] H (fun v _ => v = .bl true)) :
    codeAny (model P w) callerA (.call (.ref fa) ⟨[.ref a], []⟩) (fun r s' => r = .ok (.ret (.bool true)) ∧ OldK s₁.heap s'.heap ∧ s'.os = s₁.os ∧ AllBare s'.gens) s₁ := by
  have rv := vals_ints hi
  have lenV := hi.length
  have core : ∀ H : Hp, Only H → SqL K H a (ns.map V.int) → HOk P w H s₁.heap → (∀ b, H b ≠ none → b = a) → (H a ≠ none → K.lookup a = none) →
      codeAny (model P w) callerA (.call (.ref fa) ⟨[.ref a], []⟩) (fun r s' => r = .ok (.ret (.bool true)) ∧ OldK s₁.heap s'.heap ∧ s'.os = s₁.os ∧ AllBare s'.gens) s₁ := by
    intro H hO hS hok hA hK
    have sm : ∀ {b : Addr}, (∃ u, H b = some u) → b = a := fun {b} ⟨u, q⟩ => hA b (by rw [q]; simp)
    have noA : ∀ {b : Addr} {o : Obj} {es : Array DictEntry} {ep : Nat}, s₁.heap.get? b = some o → o.data = .dict es ep → H b = none := fun {b o es ep} e d => by
      cases q : H b with
      | none => rfl
      | some u =>
        have e' := sm ⟨u, q⟩
        subst e'
        rw [ha] at e; cases e
        exact nomatch (show Data.seq vs.toArray _ = Data.dict es ep from d)
    have nsK : ∀ {b : Addr} {m : Str → Option Value}, s₁.heap.Ns b m → (hidT s₁.heap H).Ns b m := fun {b m} ⟨o, es, ep, e, d, r⟩ => ⟨o, es, ep, hidT_get e (noA e d), d, r⟩
    have hKb : K.In (hidT s₁.heap H) := fun b o e => hidT_get (KX b o e) (by
      cases q : H b with
      | none => rfl
      | some u =>
        have e' := sm ⟨u, q⟩
        subst e'
        rw [hK (by rw [q]; simp)] at e; cases e)
    have hM : Mod K mg (hidT s₁.heap H) := ⟨hKb, nsK hns, ⟨mb, nsK hb, hbb⟩, let ⟨mc, h1, h2⟩ := hlim; ⟨mc, nsK h1, h2⟩⟩
    have e0 : Env0 P w K mg (hidT s₁.heap H) callerA [] s₁ H := ⟨rfl, hM, fun b o e => of_hidT e, Nat.le_of_eq (hidT_size _ _), trivial, fun b hb => absurd (show b ∈ ([] : List Addr) from hb) (by simp), hok, .of_eq hg⟩
    refine codeAny_mono ((F _ hKb (nsK hns)).run callerA [] s₁ H ⟨[.ref a], []⟩ [.ref a] [.ref a] _ hr rfl e0 (hbind s₁ (.ref a)) (.cons rfl .nil) (hsp H hO hS)) fun r s' h => ?_
    cases r with
    | error e => exact False.elim h
    | ok fl =>
      cases fl with
      | next => exact False.elim h
      | brk => exact False.elim h
      | cont => exact False.elim h
      | ret u =>
        obtain ⟨v, H', os, bare, un, hok', r', q⟩ := h
        have q' : v = .bl true := q
        subst q'
        obtain rfl : u = Value.bool true := r'
        refine ⟨rfl, OldK.of_keep fun b o e => ?_, os, bare⟩
        cases q : H b with
        | none => exact un.keep b o e q (by intro z; exact absurd (show b ∈ ([] : List Addr) from z) (by simp)) (by simp)
        | some u =>
          rcases hO b with z | ⟨ob, xs, z⟩
          · rw [q] at z; cases z
          · have z2 := un.frzs b ob _ z
            obtain ⟨e1, _⟩ := hok b _ z
            obtain ⟨e2, _⟩ := hok' b _ z2
            rw [e] at e1; cases e1
            exact e2
  cases hk : K.lookup a with
  | some o =>
    have e := KX a o hk
    rw [ha] at e
    cases e
    exact core (fun _ => none) (fun _ => .inl rfl) (.inr ⟨_, vs.toArray, _, hk, rfl, rfl, rfl, by rw [List.size_toArray, lenV]; exact hl, by simpa using rv⟩) (fun b u z => nomatch (show (none : Option HO) = some u from z)) (fun b z => absurd rfl z) fun z => absurd rfl z
  | none =>
    refine core (fun b => if b = a then some (.frz { cls := .type "list", data := .seq vs.toArray } (.lst (ns.map V.int))) else none) (fun b => ?_) (.inl (.inr ⟨{ cls := .type "list", data := .seq vs.toArray }, if_pos rfl⟩)) (fun b u z => ?_) (fun b z => ?_) fun _ => hk
    · by_cases hb : b = a
      · exact .inr ⟨_, _, if_pos hb⟩
      · exact .inl (if_neg hb)
    · by_cases hb : b = a
      · have z' := (if_pos hb).symm.trans z
        cases z'
        subst hb
        exact ⟨ha, by rw [List.length_map]; exact hl, vs, _, rv, ha⟩
      · exact nomatch (if_neg hb).symm.trans z
    · by_cases hb : b = a
      · exact hb
      · exact absurd (if_neg hb) z
/-- what the head leaves, from the law's promise -/
theorem walk_g {l : PySem.W.OpenLaw} {n k : Nat} {q : Program} {loose : List Str} {XP : (Str → Option Value) → Heap → Prop} {YP : World → Heap → Prop} {d : DefRec} {x : Str}
    (hn : l.most = some n) (hn2 : n ≤ sizeLine) (hdf : d.params.defaults = []) (hr : Room k callerA)
    (F : ∀ (w : World) (mg : Str → Option Value) (fa : Addr) (h : Heap), YP w h → h.Ns mainGlobals mg → mg d.name = some (.ref fa) →
      ∃ (K : PySem.W.Frag) (fd : FuncData) (sp : SpG), K.In h ∧ (∀ (s : Shared) (u : Value), BindsTo s fd ⟨[u], []⟩ [(x, u)]) ∧
        (∀ (H : Hp) (a : Addr) (ns : List Int), ns.length ≤ n → Only H → SqL K H a (ns.map V.int) → sp [.ref a] H fun v _ => v = .bl true) ∧
        ∀ base : Heap, K.In base → base.Ns mainGlobals mg → FnG l.prog w K mg base k fa fd [x] sp) :
    PySem.W.WalkO q loose XP YP l.row.toRowW d [] (fun f vs => PySem.call f vs) := by
  refine Att.attach_call hn hdf fun w s₀ s₁ mg mb fa o pm cd doc a vs ns G Y ho hd hcd hmg hobj hints hlen hg => ?_
  obtain ⟨K, fd, sp, KX, hb, hsp, hF⟩ := F w mg fa _ Y G.T.g hmg
  exact law_g KX G.T.g G.T.b G.T.builtins G.T.nolimit hg hobj hints (Nat.le_trans hlen hn2) hr hF hb fun H hO hS => hsp H a ns hlen hO hS
end PV
end

section
set_option Elab.async false
set_option linter.all false
set_option maxRecDepth 100000
set_option maxHeartbeats 2000000
set_option autoImplicit false
/-! PVi: the readings of expressions do what the evaluator says -/
namespace PV
open PySem PySem.Spec L2

section
variable {K : PySem.W.Frag} {F : Fn}
def SE (K : PySem.W.Frag) (F : Fn) (c : CE) (t : TE) : Prop := ∀ (σ : St) (E : DE) (H J : Hp) (w : W) (E' : DE) (Q : VK), Rel K H J σ E → ev F c E = some (w, E') →
  (∀ v H' J', Tr K σ E H J σ E' H' J' → Res K σ E H σ E' H' J' v w → Q v H') → t σ H Q
def Opr (K : PySem.W.Frag) (σ : St) (E : DE) (H : Hp) (E' : DE) (H' J' : Hp) (v : V) (x : D) : CE → Prop
  | .var i => σ[i]? = some (some v)
  | _ => ∃ w, x = w.data ∧ Res K σ E H σ E' H' J' v w
def SO (K : PySem.W.Frag) (F : Fn) (c : CE) (t : TE) : Prop := ∀ (σ : St) (E : DE) (H J : Hp) (x : D) (E' : DE) (Q : VK), Rel K H J σ E → opd c (ev F c E) E = some (x, E') →
  (∀ v H' J', Tr K σ E H J σ E' H' J' → Opr K σ E H E' H' J' v x c → Q v H') → t σ H Q
/-- a test -/
def ST (K : PySem.W.Frag) (F : Fn) (c : CE) (t : TT) : Prop := ∀ (σ : St) (E : DE) (H J : Hp) (b : Bool) (E' : DE) (Q : Bool → Hp → Prop), Rel K H J σ E → evb F c E = some (b, E') →
  (∀ H' J', Tr K σ E H J σ E' H' J' → Q b H') → t σ H Q
/-- a row of values, all frozen -/
def SA (K : PySem.W.Frag) (F : Fn) (cs : CEs) (t : TA) : Prop := ∀ (σ : St) (E : DE) (H J : Hp) (ds : List D) (E' : DE) (Q : List V → Hp → Prop), Rel K H J σ E → evs F cs E = some (ds, E') →
  (∀ vs H' J', Tr K σ E H J σ E' H' J' → DpAll K J' vs ds → Q vs H') → t σ H Q
def SPt (K : PySem.W.Frag) (F : Fn) (c : CO) (t : TO) : Prop := ∀ (σ : St) (E : DE) (H J : Hp) (l : Option Int) (E' : DE) (Q : Option Int → Hp → Prop), Rel K H J σ E → evo F c E = some (l, E') →
  (∀ H' J', Tr K σ E H J σ E' H' J' → Q l H') → t σ H Q

theorem opd_ne {c : CE} {r : Option (W × DE)} {E : DE} (h : ∀ i, c ≠ .var i) : opd c r E = r.map fun p => (p.1.data, p.2) := by
  cases c <;> first | rfl | exact absurd rfl (h _)
theorem so_of {c : CE} {t : TE} (h : ∀ i, c ≠ .var i) (s : SE K F c t) : SO K F c t := by
  intro σ E H J x E' Q r e fin
  rw [opd_ne h] at e
  obtain ⟨⟨w, E1⟩, e1, e2⟩ := Option.map_eq_some_iff.mp e
  cases e2
  refine s σ E H J w E1 Q r e1 fun v H' J' tr rs => fin v H' J' tr ?_
  have z : ∃ w', w.data = w'.data ∧ Res K σ E H σ E1 H' J' v w' := ⟨w, rfl, rs⟩
  cases c <;> first | exact z | exact absurd rfl (h _)
theorem RW.rd {H J : Hp} {v : V} {w : W} (h : RW K H J v w) : RD K H J v w.data := by
  cases w with
  | d x => exact .inl h
  | o xs => obtain ⟨a, vs, e, h1, _, h3⟩ := h; exact .inr ⟨a, vs, xs, e, rfl, h1, h3⟩
  | r xs => obtain ⟨a, vs, e, h1, _, h3⟩ := h; exact .inr ⟨a, vs, xs, e, rfl, h1, h3⟩
  | t xss => exact h.elim
/-- an operand where it is used -/
theorem Opr.rd {σ : St} {E E1 E2 : DE} {H H1 H2 J J1 J2 : Hp} {v : V} {x y : D} {c : CE} (t : Tr K σ E H J σ E1 H1 J1) (o : Opr K σ E H E1 H1 J1 v x c) (t2 : Tr K σ E1 H1 J1 σ E2 H2 J2) (h : rep c x E2 = some y) : RD K H2 J2 v y := by
  have key : (∃ w, x = w.data ∧ Res K σ E H σ E1 H1 J1 v w) → x = y → RD K H2 J2 v y := fun ⟨w, e, r⟩ e2 => by
    subst e2
    rw [e]
    exact (r.step t t2).rw.rd
  cases c with
  | var i =>
    have h : peek E2 i = some y := h
    unfold peek at h
    split at h
    · rename_i w hw
      cases h
      obtain ⟨v', e1, e2⟩ := t2.rel.val i w hw
      rw [show σ[i]? = some (some v) from o] at e1
      cases e1
      exact e2.rd
    · cases h
  | _ => exact key o (Option.some.inj h)
theorem rep_self {c : CE} {r : Option (W × DE)} {E E' : DE} {x : D} (h : opd c r E = some (x, E')) : rep c x E' = some x := by
  cases c with
  | var i =>
    obtain ⟨y, e1, e2⟩ := Option.map_eq_some_iff.mp (show (peek E i).map (fun x => (x, E)) = some (x, E') from h)
    cases e2
    exact e1
  | _ => rfl
/-- a result frozen: data by what is shared -/
theorem se_dp {c : CE} {t : TE} (s : SE K F c t) {σ : St} {E E' : DE} {H J : Hp} {w : W} {Q : VK} (r : Rel K H J σ E) (e : ev F c E = some (w, E'))
    (fin : ∀ v H' J', Tr K σ E H J σ E' H' J' → Dp K J' v w.data → Q v H') : t σ H Q :=
  s σ E H J w E' Q r e fun v H' J' tr rs => by
    obtain ⟨J2, t2, d, _⟩ := rs.frz tr
    exact fin v H' J2 t2 d

/-! ### names, constants -/
theorem rel_d {σ : St} {E : DE} {H J : Hp} (r : Rel K H J σ E) {i : Nat} {x : D} (h : E[i]? = some (some (.d x))) : ∃ v, σ[i]? = some (some v) ∧ Dp K J v x := r.val i _ h
theorem se_var (i : Nat) : SE K F (.var i) (tVar i) := by
  intro σ E H J w E' Q r e fin
  have e : take1 E i = some (w, E') := e
  unfold take1 at e
  split at e
  · rename_i x hx
    cases e
    obtain ⟨v, h1, h2⟩ := rel_d r hx
    exact ⟨v, h1, fin v H J (.refl r) (res_d h2)⟩
  · rename_i xs hx
    cases e
    obtain ⟨v, J2, h1, h2, h3⟩ := r.freeze hx
    exact ⟨v, h1, fin v H J2 h2 (res_d h3)⟩
  · cases e
theorem so_var (i : Nat) : SO K F (.var i) (tVar i) := by
  intro σ E H J x E' Q r e fin
  obtain ⟨y, e1, e2⟩ := Option.map_eq_some_iff.mp (show (peek E i).map (fun x => (x, E)) = some (x, E') from e)
  cases e2
  unfold peek at e1
  split at e1
  · rename_i w hw
    obtain ⟨v, h1, h2⟩ := r.val i w hw
    exact ⟨v, h1, fin v H J (.refl r) h1⟩
  · cases e1
theorem se_cst {d : D} {v : V} (h : ∀ J, Dp K J v d) : SE K F (.cst d) (tC v) := by
  intro σ E H J w E' Q r e fin
  cases (show some (W.d d, E) = some (w, E') from e)
  exact fin v H J (.refl r) (res_d (h J))

/-! ### operators -/
section
variable {X : Cx} {a b c : CE} {ta tb tc : TE}
theorem so2 (sa : SO K F a ta) (sb : SO K F b tb) {σ : St} {E E1 E2 : DE} {H J : Hp} {x y x' : D} {Q : V → V → Hp → Prop} (r : Rel K H J σ E) (e1 : opd a (ev F a E) E = some (x, E1)) (e2 : opd b (ev F b E1) E1 = some (y, E2)) (e3 : rep a x E2 = some x')
    (fin : ∀ v u H2 J2, Tr K σ E H J σ E2 H2 J2 → RD K H2 J2 v x' → RD K H2 J2 u y → Q v u H2) : ta σ H fun v H1 => tb σ H1 fun u H2 => Q v u H2 :=
  sa σ E H J x E1 _ r e1 fun v H1 J1 t1 o1 => sb σ E1 H1 J1 y E2 _ t1.rel e2 fun u H2 J2 t2 o2 =>
    fin v u H2 J2 (t1.trans t2) (o1.rd t1 t2 e3) (o2.rd t2 (.refl t2.rel) (rep_self e2))
theorem Fin1.from {σ : St} {E E2 : DE} {H J H2 J2 : Hp} {w : W} {Q : VK} (t : Tr K σ E H J σ E2 H2 J2) (fin : ∀ v H' J', Tr K σ E H J σ E2 H' J' → Res K σ E H σ E2 H' J' v w → Q v H') : Fin1 K σ E2 H2 J2 w Q := fun z H3 J3 t3 r3 =>
  fin z H3 J3 (t.trans t3) ⟨r3.rw, r3.nr, r3.ne, fun l c e => by
    rcases r3.nw l c e with q | q
    · exact t.ow c q
    · exact .inr (t.th c q)⟩
theorem se_bin {o : Operator} {op : BOp} (h : bop o = some op) (sa : SO X.K F a ta) (sb : SO X.K F b tb) : ∃ r : R2, OpR X (binaryOp o) r ∧ SE X.K F (.bin op a b) (tOp r ta tb) := by
  obtain ⟨r, hr, hs⟩ := bin_ok (X := X) h
  refine ⟨r, hr, fun σ E H J w E' Q rl e fin => ?_⟩
  obtain ⟨⟨x, E1⟩, e1, e⟩ := Option.bind_eq_some_iff.mp (show (opd a (ev F a E) E).bind _ = some (w, E') from e)
  obtain ⟨⟨y, E2⟩, e2, e⟩ := Option.bind_eq_some_iff.mp e
  obtain ⟨x', e3, e⟩ := Option.bind_eq_some_iff.mp e
  obtain ⟨w', e4, e⟩ := Option.map_eq_some_iff.mp e
  cases e
  exact so2 sa sb rl e1 e2 e3 fun v u H2 J2 t rv ru => hs σ E' H2 J2 v u x' y w Q t.rel rv ru e4 (.from t fin)
theorem se_cmp (hu : X.A.units + 64 < cLine) {o : CmpOp} {op : COp} (h : cop o = some op) (sa : SO X.K F a ta) (sb : SO X.K F b tb) : ∃ r : R2, OpR X (compareOp o) r ∧ SE X.K F (.cmp op a b) (tOp r ta tb) := by
  obtain ⟨r, hr, hs⟩ := cmp_ok (X := X) hu h
  refine ⟨r, hr, fun σ E H J w E' Q rl e fin => ?_⟩
  obtain ⟨⟨x, E1⟩, e1, e⟩ := Option.bind_eq_some_iff.mp (show (opd a (ev F a E) E).bind _ = some (w, E') from e)
  obtain ⟨⟨y, E2⟩, e2, e⟩ := Option.bind_eq_some_iff.mp e
  obtain ⟨x', e3, e⟩ := Option.bind_eq_some_iff.mp e
  obtain ⟨k, e4, e⟩ := Option.map_eq_some_iff.mp e
  cases e
  exact so2 sa sb rl e1 e2 e3 fun v u H2 J2 t rv ru => hs H2 J2 v u x' y k Q t.rel.sub rv ru e4 (fin _ _ _ t (res_d (.bl k)))
theorem se_chn (hu : X.A.units + 64 < cLine) {o o' : CmpOp} {op op' : COp} (h : cop o = some op) (h' : cop o' = some op') (sa : SO X.K F a ta) (sb : SO X.K F b tb) (sc : SO X.K F c tc) :
    ∃ r r' : R2, OpR X (compareOp o) r ∧ OpR X (compareOp o') r' ∧ SE X.K F (.chn op op' a b c) (tChain r r' ta tb tc) := by
  obtain ⟨r, hr, hs⟩ := cmp_ok (X := X) hu h
  obtain ⟨r', hr', hs'⟩ := cmp_ok (X := X) hu h'
  refine ⟨r, r', hr, hr', fun σ E H J w E' Q rl e fin => ?_⟩
  obtain ⟨⟨x, E1⟩, e1, e⟩ := Option.bind_eq_some_iff.mp (show (opd a (ev F a E) E).bind _ = some (w, E') from e)
  obtain ⟨⟨y, E2⟩, e2, e⟩ := Option.bind_eq_some_iff.mp e
  obtain ⟨x', e3, e⟩ := Option.bind_eq_some_iff.mp e
  obtain ⟨k, e4, e⟩ := Option.bind_eq_some_iff.mp e
  refine sa σ E H J x E1 _ rl e1 fun v H1 J1 t1 o1 => sb σ E1 H1 J1 y E2 _ t1.rel e2 fun u H2 J2 t2 o2 => hs H2 J2 v u x' y k _ t2.rel.sub (o1.rd t1 t2 e3) (o2.rd t2 (.refl t2.rel) (rep_self e2)) e4 ⟨k, rfl, ?_⟩
  cases k with
  | false =>
    cases e
    exact fin _ _ _ (t1.trans t2) (res_d (.bl false))
  | true =>
    obtain ⟨⟨z, E3⟩, e5, e⟩ := Option.bind_eq_some_iff.mp e
    obtain ⟨y', e6, e⟩ := Option.bind_eq_some_iff.mp e
    obtain ⟨k', e7, e⟩ := Option.map_eq_some_iff.mp e
    cases e
    exact sc σ E2 H2 J2 z E' _ t2.rel e5 fun q H3 J3 t3 o3 => hs' H3 J3 u q y' z k' _ t3.rel.sub (o2.rd t2 t3 e6) (o3.rd t3 (.refl t3.rel) (rep_self e5)) e7 (fin _ _ _ ((t1.trans t2).trans t3) (res_d (.bl k')))
theorem asB_eq {w : W} {k : Bool} (h : asB w = some k) : w = .d (.bool k) := by
  unfold asB at h
  split at h
  · cases h; rfl
  · cases h
theorem asI_eq {w : W} {k : Int} (h : asI w = some k) : w = .d (.int k) := by
  unfold asI at h
  split at h
  · cases h; rfl
  · cases h
theorem res_bl {σ : St} {E E' : DE} {H H' J' : Hp} {v : V} {k : Bool} (r : Res K σ E H σ E' H' J' v (.d (.bool k))) : v = .bl k := by
  have h : Dp K J' v (.bool k) := r.rw
  cases h; rfl
theorem res_int {σ : St} {E E' : DE} {H H' J' : Hp} {v : V} {k : Int} (r : Res K σ E H σ E' H' J' v (.d (.int k))) : v = .int k := by
  have h : Dp K J' v (.int k) := r.rw
  cases h; rfl
theorem se_neg (sa : SE K F a ta) : SE K F (.neg a) (tUn (rU fun i => .int (-i)) ta) := by
  intro σ E H J w E' Q r e fin
  obtain ⟨⟨w1, E1⟩, e1, e⟩ := Option.bind_eq_some_iff.mp (show (ev F a E).bind _ = some (w, E') from e)
  obtain ⟨i, e2, e⟩ := Option.map_eq_some_iff.mp e
  cases e
  cases asI_eq e2
  exact sa σ E H J _ E' _ r e1 fun v H' J' t rs => ⟨i, res_int rs, fin _ _ _ t (res_d (.int _))⟩
theorem se_not (sa : SE K F a ta) : SE K F (.not a) (tNotV ta) := by
  intro σ E H J w E' Q r e fin
  obtain ⟨⟨w1, E1⟩, e1, e⟩ := Option.bind_eq_some_iff.mp (show (ev F a E).bind _ = some (w, E') from e)
  obtain ⟨k, e2, e⟩ := Option.map_eq_some_iff.mp e
  cases e
  cases asB_eq e2
  exact sa σ E H J _ E' _ r e1 fun v H' J' t rs => ⟨k, res_bl rs, fin _ _ _ t (res_d (.bl _))⟩
/-- a result of a later step, from the start -/
theorem Res.from {σ : St} {E E1 E' : DE} {H H1 H' J J1 J' : Hp} {v : V} {w : W} (t : Tr K σ E H J σ E1 H1 J1) (r : Res K σ E1 H1 σ E' H' J' v w) : Res K σ E H σ E' H' J' v w :=
  ⟨r.rw, r.nr, r.ne, fun l c e => by
    rcases r.nw l c e with q | q
    · exact t.ow c q
    · exact .inr (t.th c q)⟩
theorem se_and (sa : SE K F a ta) (sb : SE K F b tb) : SE K F (.and a b) (tAndV ta tb) := by
  intro σ E H J w E' Q r e fin
  obtain ⟨⟨w1, E1⟩, e1, e⟩ := Option.bind_eq_some_iff.mp (show (ev F a E).bind _ = some (w, E') from e)
  obtain ⟨k, e2, e⟩ := Option.bind_eq_some_iff.mp e
  cases asB_eq e2
  refine sa σ E H J _ E1 _ r e1 fun v H1 J1 t rs => ⟨k, res_bl rs, ?_⟩
  cases k with
  | true => exact sb σ E1 H1 J1 w E' Q t.rel e fun v2 H2 J2 t2 r2 => fin _ _ _ (t.trans t2) (r2.from t)
  | false =>
    cases e
    exact fin _ _ _ t (res_d (.bl false))
theorem se_or (sa : SE K F a ta) (sb : SE K F b tb) : SE K F (.or a b) (tOrV ta tb) := by
  intro σ E H J w E' Q r e fin
  obtain ⟨⟨w1, E1⟩, e1, e⟩ := Option.bind_eq_some_iff.mp (show (ev F a E).bind _ = some (w, E') from e)
  obtain ⟨k, e2, e⟩ := Option.bind_eq_some_iff.mp e
  cases asB_eq e2
  refine sa σ E H J _ E1 _ r e1 fun v H1 J1 t rs => ⟨k, res_bl rs, ?_⟩
  cases k with
  | false => exact sb σ E1 H1 J1 w E' Q t.rel e fun v2 H2 J2 t2 r2 => fin _ _ _ (t.trans t2) (r2.from t)
  | true =>
    cases e
    exact fin _ _ _ t (res_d (.bl true))
theorem se_ite {tt : TT} (sc : ST K F c tt) (sa : SE K F a ta) (sb : SE K F b tb) : SE K F (.ite c a b) (tIf tt ta tb) := by
  intro σ E H J w E' Q r e fin
  obtain ⟨⟨w1, E1⟩, e1, e⟩ := Option.bind_eq_some_iff.mp (show (ev F c E).bind _ = some (w, E') from e)
  obtain ⟨k, e2, e⟩ := Option.bind_eq_some_iff.mp e
  have eb : evb F c E = some (k, E1) := by
    unfold evb
    rw [e1]
    show (asB w1).map _ = _
    rw [e2]; rfl
  refine sc σ E H J k E1 _ r eb fun H1 J1 t => ?_
  cases k with
  | true => exact sa σ E1 H1 J1 w E' Q t.rel e fun v2 H2 J2 t2 r2 => fin _ _ _ (t.trans t2) (r2.from t)
  | false => exact sb σ E1 H1 J1 w E' Q t.rel e fun v2 H2 J2 t2 r2 => fin _ _ _ (t.trans t2) (r2.from t)
/-! ### tests -/
theorem st_of (sa : SE K F a ta) : ST K F a (tTest ta) := by
  intro σ E H J b E' Q r e fin
  obtain ⟨⟨w1, E1⟩, e1, e⟩ := Option.bind_eq_some_iff.mp (show (ev F a E).bind _ = some (b, E') from e)
  obtain ⟨k, e2, e⟩ := Option.map_eq_some_iff.mp e
  cases e
  cases asB_eq e2
  exact sa σ E H J _ E' _ r e1 fun v H' J' t rs => ⟨b, res_bl rs, fin _ _ t⟩
theorem evb_not {E E' : DE} {b : Bool} (h : evb F (.not a) E = some (b, E')) : ∃ k, evb F a E = some (k, E') ∧ b = !k := by
  obtain ⟨⟨w, E1⟩, e1, e⟩ := Option.bind_eq_some_iff.mp (show (ev F (.not a) E).bind _ = some (b, E') from h)
  obtain ⟨⟨w2, E2⟩, e2, e3⟩ := Option.bind_eq_some_iff.mp (show (ev F a E).bind _ = some (w, E1) from e1)
  obtain ⟨k, e4, e3⟩ := Option.map_eq_some_iff.mp e3
  have eb : evb F a E = some (k, E2) := by
    unfold evb
    rw [e2]
    show (asB w2).map _ = _
    rw [e4]; rfl
  cases e3
  obtain ⟨k', e5, e⟩ := Option.map_eq_some_iff.mp e
  cases e
  cases e5
  exact ⟨k, eb, rfl⟩
theorem st_not {ta : TT} (sa : ST K F a ta) : ST K F (.not a) (tNot ta) := by
  intro σ E H J b E' Q r e fin
  obtain ⟨k, eb, rfl⟩ := evb_not e
  exact sa σ E H J k E' _ r eb fun H' J' t => fin _ _ t
theorem evb_and {E E' : DE} {k : Bool} (h : evb F (.and a b) E = some (k, E')) : (evb F a E = some (false, E') ∧ k = false) ∨ ∃ E1, evb F a E = some (true, E1) ∧ evb F b E1 = some (k, E') := by
  obtain ⟨⟨w, E1⟩, e1, e⟩ := Option.bind_eq_some_iff.mp (show (ev F (.and a b) E).bind _ = some (k, E') from h)
  obtain ⟨⟨w1, E2⟩, e2, e3⟩ := Option.bind_eq_some_iff.mp (show (ev F a E).bind _ = some (w, E1) from e1)
  obtain ⟨q, e4, e3⟩ := Option.bind_eq_some_iff.mp e3
  have eb : evb F a E = some (q, E2) := by
    unfold evb
    rw [e2]
    show (asB w1).map _ = _
    rw [e4]; rfl
  cases q with
  | false =>
    cases e3
    obtain ⟨k', e5, e⟩ := Option.map_eq_some_iff.mp e
    cases e
    cases e5
    exact .inl ⟨eb, rfl⟩
  | true =>
    refine .inr ⟨E2, eb, ?_⟩
    unfold evb
    rw [show ev F b E2 = some (w, E1) from e3]
    exact e
theorem evb_or {E E' : DE} {k : Bool} (h : evb F (.or a b) E = some (k, E')) : (evb F a E = some (true, E') ∧ k = true) ∨ ∃ E1, evb F a E = some (false, E1) ∧ evb F b E1 = some (k, E') := by
  obtain ⟨⟨w, E1⟩, e1, e⟩ := Option.bind_eq_some_iff.mp (show (ev F (.or a b) E).bind _ = some (k, E') from h)
  obtain ⟨⟨w1, E2⟩, e2, e3⟩ := Option.bind_eq_some_iff.mp (show (ev F a E).bind _ = some (w, E1) from e1)
  obtain ⟨q, e4, e3⟩ := Option.bind_eq_some_iff.mp e3
  have eb : evb F a E = some (q, E2) := by
    unfold evb
    rw [e2]
    show (asB w1).map _ = _
    rw [e4]; rfl
  cases q with
  | true =>
    cases e3
    obtain ⟨k', e5, e⟩ := Option.map_eq_some_iff.mp e
    cases e
    cases e5
    exact .inl ⟨eb, rfl⟩
  | false =>
    refine .inr ⟨E2, eb, ?_⟩
    unfold evb
    rw [show ev F b E2 = some (w, E1) from e3]
    exact e
theorem st_and {ta tb : TT} (sa : ST K F a ta) (sb : ST K F b tb) : ST K F (.and a b) (tAnd ta tb) := by
  intro σ E H J k E' Q r e fin
  rcases evb_and e with ⟨e1, rfl⟩ | ⟨E1, e1, e2⟩
  · exact sa σ E H J _ E' _ r e1 fun H' J' t => fin _ _ t
  · exact sa σ E H J _ E1 _ r e1 fun H' J' t => sb σ E1 H' J' _ E' _ t.rel e2 fun H2 J2 t2 => fin _ _ (t.trans t2)
theorem st_or {ta tb : TT} (sa : ST K F a ta) (sb : ST K F b tb) : ST K F (.or a b) (tOr ta tb) := by
  intro σ E H J k E' Q r e fin
  rcases evb_or e with ⟨e1, rfl⟩ | ⟨E1, e1, e2⟩
  · exact sa σ E H J _ E' _ r e1 fun H' J' t => fin _ _ t
  · exact sa σ E H J _ E1 _ r e1 fun H' J' t => sb σ E1 H' J' _ E' _ t.rel e2 fun H2 J2 t2 => fin _ _ (t.trans t2)
/-! ### rows, displays, parts -/
theorem sa_nil : SA K F .nil tNil := by
  intro σ E H J ds E' Q r e fin
  cases (show some (([] : List D), E) = some (ds, E') from e)
  exact fin [] H J (.refl r) .nil
theorem sa_cons {cs : CEs} {t : TA} (sa : SE K F a ta) (ss : SA K F cs t) : SA K F (.cons a cs) (tCons ta t) := by
  intro σ E H J ds E' Q r e fin
  obtain ⟨⟨w1, E1⟩, e1, e⟩ := Option.bind_eq_some_iff.mp (show (ev F a E).bind _ = some (ds, E') from e)
  obtain ⟨⟨ds', E2⟩, e2, e⟩ := Option.map_eq_some_iff.mp e
  cases e
  exact se_dp sa r e1 fun v H1 J1 t1 d1 => ss σ E1 H1 J1 ds' _ _ t1.rel e2 fun vs H2 J2 t2 d2 => fin (v :: vs) H2 J2 (t1.trans t2) (.cons (dp_mono t2.jj _ _ d1) d2)
theorem se_tup {cs : CEs} {t : TA} (ss : SA K F cs t) : SE K F (.tup cs) (tTup t) := by
  intro σ E H J w E' Q r e fin
  obtain ⟨⟨ds, E1⟩, e1, e⟩ := Option.bind_eq_some_iff.mp (show (evs F cs E).bind _ = some (w, E') from e)
  obtain ⟨w', e2, e⟩ := Option.map_eq_some_iff.mp e
  cases e
  unfold mkT at e2
  split at e2
  · rename_i hl
    cases e2
    refine ss σ E H J ds E' _ r e1 fun vs H1 J1 t1 d1 => ⟨by rw [dps_len d1]; exact lim_ok hl, fun p hp => ?_⟩
    obtain ⟨t2, r2⟩ := new_t t1.rel hp d1
    exact fin _ _ _ (t1.trans t2) (r2.from t1)
  · cases e2
theorem se_lst {cs : CEs} {t : TA} (ss : SA K F cs t) : SE K F (.lst cs) (tLst t) := by
  intro σ E H J w E' Q r e fin
  obtain ⟨⟨ds, E1⟩, e1, e⟩ := Option.bind_eq_some_iff.mp (show (evs F cs E).bind _ = some (w, E') from e)
  obtain ⟨w', e2, e⟩ := Option.map_eq_some_iff.mp e
  cases e
  unfold mkL at e2
  split at e2
  · rename_i hl
    cases e2
    refine ss σ E H J ds E' _ r e1 fun vs H1 J1 t1 d1 => ⟨by rw [dps_len d1]; exact lim_ok hl, fun p hp => ?_⟩
    obtain ⟨t2, r2⟩ := new_o t1.rel hp d1
    exact fin _ _ _ (t1.trans t2) (r2.from t1)
  · cases e2
theorem se_rev (sa : SO K F a ta) : SE K F (.bi1 .rev a) (tRevL K ta) := by
  intro σ E H J w E' Q rl e fin
  obtain ⟨⟨x, E1⟩, e1, e⟩ := Option.bind_eq_some_iff.mp (show (opd a (ev F a E) E).bind _ = some (w, E') from e)
  obtain ⟨w', e2, e⟩ := Option.map_eq_some_iff.mp e
  cases e
  cases x <;> first | exact nomatch (show (none : Option W) = some w from e2) | skip
  rename_i xs
  cases (show some (W.o xs.reverse) = some w from e2)
  refine sa σ E H J _ E' _ rl e1 fun v H1 J1 t1 o1 => ?_
  obtain ⟨p, vs, rfl, hq, hd⟩ := (o1.rd t1 (.refl t1.rel) (rep_self e1)).list t1.rel.sub
  refine ⟨p, vs, rfl, hq, fun q hq0 => ?_⟩
  obtain ⟨t2, r2⟩ := new_o t1.rel hq0 (dps_rev hd)
  exact fin _ _ _ (t1.trans t2) (r2.from t1)
def tLset (K : PySem.W.Frag) (ta : TE) : TE := fun σ H Q => ta σ H fun x H1 => ∃ (l : Addr) (ns : List Int), x = .ref l ∧ SqL K H1 l (ns.map V.int) ∧ ns.length ≤ 3000 ∧ Q (.int (distN ns)) H1
open PyProof.Rows in
theorem pe_lset {X : Cx} {a : Expr} {ta : TE} {p p2 q pos : Pos} (hg : Gl X "len") (hm : X.mg "len" = none) (hg2 : Gl X "set") (hm2 : X.mg "set" = none) (ha : PE X a ta) (hc : X.calm = true)
    (na : starEach [a] X.env = (false, eval a X.env) :: starEach [] X.env) : PE X (.Call (.Name "len" p) [.Call (.Name "set" p2) [a] [] q] [] pos) (tLset X.K ta) := by
  refine ⟨fun pins s σ H Q I h => ?_⟩
  refine Call_ (ld_blt I hg hm boot_len ?_)
  refine callWith_builtin1 (args_cons ?_ rfl) rfl rfl
  refine Call_ (ld_blt I hg2 hm2 boot_set ?_)
  refine callWith_type1 (args_cons (thn (ha.run pins s σ H _ I h) fun v s1 ⟨x, H1, I1, r1, q1⟩ => args_nil ?_) na) na rfl
  obtain ⟨l, ns, rfl, hq, hl, q1⟩ := q1
  cases r1
  obtain ⟨its, r, pl, hz⟩ := I1.list hq
  have hlen : its.toArray.size = ns.length := by rw [List.size_toArray, ← r.length, List.length_map]
  refine call_set_list (I1.ok.hd hc) pl.isList (by simpa using RZ.intsAre_vals r) (by rw [hlen]; unfold scanBound; omega) fun h' tk hS hk => ?_
  refine args_nil ?_
  rw [hlen] at hS
  have hle := firstMet_length_le (fun i => ns.getD i 0) ns.length
  obtain ⟨o, es, ep, t, ho, hex, hd, _, _, _, hf, hn⟩ := hS
  have I2 : Inv X pins σ H1 { s1 with heap := h', toks := tk } := I1.kept fun b o e => hk b o (Heap.lt_size e) e
  exact call_len_set ho hex hd hf (by rw [hn]; omega) ⟨.int (distN ns), H1, I2.tok _, ⟨_, by rw [hn]; rfl⟩, q1⟩
theorem se_lset (sa : SO K F a ta) : SE K F (.bi1 .lset a) (tLset K ta) := by
  intro σ E H J w E' Q rl e fin
  obtain ⟨⟨x, E1⟩, e1, e⟩ := Option.bind_eq_some_iff.mp (show (opd a (ev F a E) E).bind _ = some (w, E') from e)
  obtain ⟨w', e2, e⟩ := Option.map_eq_some_iff.mp e
  cases e
  cases x <;> first | exact nomatch (show (none : Option W) = some w from e2) | skip
  rename_i xs
  obtain ⟨ns, hn, e3⟩ := Option.bind_eq_some_iff.mp (show (intsD xs).bind _ = some w from e2)
  split at e3
  · rename_i hl
    cases e3
    refine sa σ E H J _ E' _ rl e1 fun v H1 J1 t1 o1 => ?_
    obtain ⟨p, vs, rfl, hq, hd⟩ := (o1.rd t1 (.refl t1.rel) (rep_self e1)).list t1.rel.sub
    rw [ints_eq hn] at hd
    rw [dps_ofInts hd] at hq
    exact ⟨p, ns, rfl, hq, hl, fin _ _ _ t1 (res_d (.int _))⟩
  · cases e3
theorem se_dct0 : SE K F .dct0 tDNewK := by
  intro σ E H J w E' Q rl e fin
  cases (show some (W.d (.dict []), E) = some (w, E') from e)
  intro p hp
  exact fin _ _ _ (Tr.shared rl hp) (res_d (.dct upd_same .nil))
theorem sqB_mono {J J' : Hp} {t : Bool} {a : Addr} {xs : List V} (e : Same J J') (h : SqB K t J a xs) : SqB K t J' a xs := by
  cases t
  · exact e.seq h
  · exact sqT_mono e h
theorem dp_sqB {J : Hp} {v : V} {d : D} {ds : List D} (h : Dp K J v d) (e : seqD d = some ds) : ∃ (t : Bool) (a : Addr) (xs : List V), v = .ref a ∧ SqB K t J a xs ∧ DpAll K J xs ds := by
  cases h with
  | lst hq hd => cases e; exact ⟨false, _, _, rfl, hq, hd⟩
  | tup hq hd => cases e; exact ⟨true, _, _, rfl, hq, hd⟩
  | _ => cases e
theorem dpd_zip {J : Hp} : ∀ (ns : List Int) {vs : List V} {ys : List D}, DpAll K J vs ys → DpD K J (List.zipWith (fun n y => ((Sum.inl n : Key), y)) ns vs) (List.zipWith (fun n y => (PyData.int n, y)) ns ys)
  | [], _, _, _ => .nil
  | n :: ns, _, _, .nil => .nil
  | n :: ns, _, _, .cons d ds => .cons d (dpd_zip ns ds)
theorem se_dzip (sa : SE K F a ta) (sb : SE K F b tb) : SE K F (.bi2 .dzip a b) (tDzip K (tCons ta (tCons tb tNil))) := by
  intro σ E H J w E' Q rl e fin
  obtain ⟨⟨v, E1⟩, e1, f1⟩ := Option.bind_eq_some_iff.mp (show (ev F a E).bind _ = some (w, E') from e)
  obtain ⟨⟨z, E2⟩, e2, f2⟩ := Option.bind_eq_some_iff.mp f1
  obtain ⟨w', e3, f3⟩ := Option.map_eq_some_iff.mp f2
  cases f3
  have e3 : ((seqD v.data).bind fun xs => (seqD z.data).bind fun ys => dzipD xs ys) = some w := by
    rw [← e3]
    cases v.data <;> cases z.data <;> rfl
  obtain ⟨xs, g1, e3⟩ := Option.bind_eq_some_iff.mp e3
  obtain ⟨ys, g2, e3⟩ := Option.bind_eq_some_iff.mp e3
  obtain ⟨ns, g3, e3⟩ := Option.bind_eq_some_iff.mp e3
  split at e3
  · rename_i hn
    cases e3
    refine se_dp sa rl e1 fun v1 H1 J1 t1 d1 => se_dp sb t1.rel e2 fun u H2 J2 t2 d2 => ?_
    have d1 := dp_mono t2.jj _ _ d1
    obtain ⟨tb1, ad, us, rfl, hq, hd⟩ := dp_sqB d1 g1
    obtain ⟨tb2, ad2, us2, rfl, hq2, hd2⟩ := dp_sqB d2 g2
    rw [ints_eq g3] at hd
    rw [dps_ofInts hd] at hq
    refine ⟨tb1, tb2, ad, ad2, ns, us2, rfl, sqB_mono t2.rel.sub hq, sqB_mono t2.rel.sub hq2, hn.1, lim_ok hn.2, fun p hp => ?_⟩
    have jp : J2 p = Option.none := by
      cases q : J2 p with
      | none => rfl
      | some o => have := t2.rel.sub p o q; rw [hp] at this; cases this
    exact fin _ _ _ ((t1.trans t2).trans (Tr.shared t2.rel hp)) (res_d (.dct upd_same (dpd_mono (same_upd jp) _ _ (dpd_zip ns hd2))))
  · cases e3
theorem sp_no : SPt K F .no tNoPart := by
  intro σ E H J l E' Q r e fin
  cases (show some ((none : Option Int), E) = some (l, E') from e)
  exact fin H J (.refl r)
theorem sp_yes (sa : SE K F a ta) : SPt K F (.yes a) (tPart ta) := by
  intro σ E H J l E' Q r e fin
  obtain ⟨⟨w1, E1⟩, e1, e⟩ := Option.bind_eq_some_iff.mp (show (ev F a E).bind _ = some (l, E') from e)
  obtain ⟨i, e2, e⟩ := Option.map_eq_some_iff.mp e
  cases e
  cases asI_eq e2
  exact sa σ E H J _ E' _ r e1 fun v H' J' t rs => ⟨i, res_int rs, fin _ _ t⟩
end
section
variable {X : Cx} {a b c : CE} {ta tb tc : TE}
theorem se_idx : ∃ r : R2, IxR X r ∧ ∀ {a b : CE} {ta tb : TE}, SO X.K F a ta → SO X.K F b tb → SE X.K F (.idx a b) (tOp r ta tb) := by
  obtain ⟨r, hr, hs⟩ := idx_ok (X := X)
  refine ⟨r, hr, fun {a b ta tb} sa sb σ E H J w E' Q rl e fin => ?_⟩
  obtain ⟨⟨x, E1⟩, e1, e⟩ := Option.bind_eq_some_iff.mp (show (opd a (ev F a E) E).bind _ = some (w, E') from e)
  obtain ⟨⟨y, E2⟩, e2, e⟩ := Option.bind_eq_some_iff.mp e
  obtain ⟨x', e3, e⟩ := Option.bind_eq_some_iff.mp e
  obtain ⟨z, e4, e⟩ := Option.map_eq_some_iff.mp e
  cases e
  exact so2 sa sb rl e1 e2 e3 fun v u H2 J2 t rv ru => hs H2 J2 v u x' y z Q t.rel.sub rv ru e4 fun u d => fin _ _ _ t (res_d d)
theorem se_slc : ∃ r : V → Option Int → Option Int → Hp → VK → Prop, SlR X r ∧ ∀ {a : CE} {lo hi : CO} {ta : TE} {tl th : TO}, SO X.K F a ta → SPt X.K F lo tl → SPt X.K F hi th → SE X.K F (.slc a lo hi) (tSl r ta tl th) := by
  obtain ⟨r, hr, hs⟩ := slc_ok (X := X)
  refine ⟨r, hr, fun {a lo hi ta tl th} sa sl sh σ E H J w E' Q rl e fin => ?_⟩
  obtain ⟨⟨x, E1⟩, e1, e⟩ := Option.bind_eq_some_iff.mp (show (opd a (ev F a E) E).bind _ = some (w, E') from e)
  obtain ⟨⟨l, E2⟩, e2, e⟩ := Option.bind_eq_some_iff.mp e
  obtain ⟨⟨h, E3⟩, e3, e⟩ := Option.bind_eq_some_iff.mp e
  obtain ⟨x', e4, e⟩ := Option.bind_eq_some_iff.mp e
  obtain ⟨w', e5, e⟩ := Option.map_eq_some_iff.mp e
  cases e
  exact sa σ E H J x E1 _ rl e1 fun v H1 J1 t1 o1 => sl σ E1 H1 J1 l E2 _ t1.rel e2 fun H2 J2 t2 => sh σ E2 H2 J2 h E' _ t2.rel e3 fun H3 J3 t3 =>
    hs σ E' H3 J3 v x' l h w Q t3.rel (o1.rd t1 (t2.trans t3) e4) e5 (.from ((t1.trans t2).trans t3) fin)
theorem se_bi1 {f : Bi} {r : List V → Hp → VK → Prop} (hs : Bi1 K f r) (sa : SO K F a ta) : SE K F (.bi1 f a) (tCB r (tCons ta tNil)) := by
  intro σ E H J w E' Q rl e fin
  obtain ⟨⟨x, E1⟩, e1, e⟩ := Option.bind_eq_some_iff.mp (show (opd a (ev F a E) E).bind _ = some (w, E') from e)
  obtain ⟨w', e2, e⟩ := Option.map_eq_some_iff.mp e
  cases e
  exact sa σ E H J x E' _ rl e1 fun v H1 J1 t1 o1 => hs σ E' H1 J1 v x w Q t1.rel (o1.rd t1 (.refl t1.rel) (rep_self e1)) e2 (.from t1 fin)
theorem se_bi2 {f : Bi} {r : List V → Hp → VK → Prop} (hs : Bi2 K f r) (sa : SE K F a ta) (sb : SE K F b tb) : SE K F (.bi2 f a b) (tCB r (tCons ta (tCons tb tNil))) := by
  intro σ E H J w E' Q rl e fin
  obtain ⟨⟨x, E1⟩, e1, e⟩ := Option.bind_eq_some_iff.mp (show (ev F a E).bind _ = some (w, E') from e)
  obtain ⟨⟨y, E2⟩, e2, e⟩ := Option.bind_eq_some_iff.mp e
  obtain ⟨w', e3, e⟩ := Option.map_eq_some_iff.mp e
  cases e
  exact sa σ E H J x E1 _ rl e1 fun v H1 J1 t1 r1 => sb σ E1 H1 J1 y E' _ t1.rel e2 fun u H2 J2 t2 r2 => hs σ E' H2 J2 v u _ _ w Q t2.rel (r1.step t1 t2).rw.rd r2.rw.rd e3 (.from (t1.trans t2) fin)
theorem se_rpt (sa : SE X.K F a ta) (sb : SE X.K F b tb) : SE X.K F (.rpt a b) (tOp rRep ta tb) := by
  intro σ E H J w E' Q rl e fin
  obtain ⟨⟨x, E1⟩, e1, e⟩ := Option.bind_eq_some_iff.mp (show (ev F a E).bind _ = some (w, E') from e)
  obtain ⟨⟨y, E2⟩, e2, e⟩ := Option.bind_eq_some_iff.mp e
  dsimp only at e
  split at e
  · rename_i xs k _
    split at e
    · rename_i hc
      cases e
      refine sa σ E H J _ E1 _ rl e1 fun v H1 J1 t1 r1 => sb σ E1 H1 J1 _ _ _ t1.rel e2 fun u H2 J2 t2 r2 => ?_
      obtain ⟨p, vs, rfl, h1, h2, h3⟩ := (r1.step t1 t2).rw
      have hl := dps_len h3
      refine ⟨p, k, vs, rfl, res_int r2, h1, by omega, by omega, by rw [hl]; exact lim_ok hc.2.1, fun q hq => ?_⟩
      have hd : ∀ n : Nat, DpAll X.K J2 (List.replicate n vs).flatten (List.replicate n xs).flatten := fun n => by
        induction n with
        | zero => exact .nil
        | succ n ih => rw [List.replicate_succ, List.replicate_succ, List.flatten_cons, List.flatten_cons]; exact dps_append h3 ih
      obtain ⟨t3, r3⟩ := new_o t2.rel hq (hd k.toNat)
      exact Fin1.from (t1.trans t2) fin _ _ _ t3 r3
    · cases e
  · cases e
theorem lists_eq : ∀ {xs : List D} {ls : List (List D)}, listsD xs = some ls → xs = ls.map .list
  | [], _, h => by cases h; rfl
  | .list x :: r, ls, h => by
    obtain ⟨m, hm, e⟩ := Option.map_eq_some_iff.mp (show (listsD r).map (x :: ·) = some ls from h)
    subst e
    rw [lists_eq hm]; rfl
  | .none :: _, _, h => nomatch h
  | .bool _ :: _, _, h => nomatch h
  | .int _ :: _, _, h => nomatch h
  | .str _ :: _, _, h => nomatch h
  | .tuple _ :: _, _, h => nomatch h
  | .dict _ :: _, _, h => nomatch h
theorem dps_lists {J : Hp} : ∀ {ls : List (List D)} {vs : List V}, DpAll K J vs (ls.map .list) → ∃ us : List (List V), vs.length = us.length ∧ us.map List.length = ls.map List.length ∧ DpAll K J us.flatten ls.flatten ∧
    ∀ (i : Nat) (v : V) (zs : List V), vs[i]? = some v → us[i]? = some zs → ∃ c, v = .ref c ∧ SqL K J c zs
  | [], _, h => by
    cases h
    exact ⟨[], rfl, rfl, .nil, fun i v zs e => by simp at e⟩
  | l :: ls, _, h => by
    cases h with
    | cons h1 h2 =>
      obtain ⟨us, a1, a2, a3, a4⟩ := dps_lists h2
      cases h1 with
      | lst hq hd =>
        rename_i c xs
        refine ⟨xs :: us, by simp [a1], by simp [a2, dps_len hd], by simp only [List.flatten_cons]; exact dps_append hd a3, fun i v zs e1 e2 => ?_⟩
        cases i with
        | zero => simp at e1 e2; subst e1 e2; exact ⟨c, rfl, hq⟩
        | succ i => exact a4 i v zs (by simpa using e1) (by simpa using e2)
theorem se_sm2 (sa : SE X.K F a ta) (sb : SE X.K F b tb) : SE X.K F (.sm2 a b) (tCB (rSum2 X.K) (tCons ta (tCons tb tNil))) := by
  intro σ E H J w E' Q rl e fin
  obtain ⟨⟨x, E1⟩, e1, f1⟩ := Option.bind_eq_some_iff.mp (show (ev F a E).bind _ = some (w, E') from e)
  obtain ⟨⟨y, E2⟩, e2, f2⟩ := Option.bind_eq_some_iff.mp f1
  clear e f1
  dsimp only at f2
  split at f2
  · rename_i xs ys hx
    obtain ⟨ls, e3, f3⟩ := Option.bind_eq_some_iff.mp f2
    split at f3
    · rename_i hl
      cases f3
      refine se_dp sa rl e1 fun v H1 J1 t1 d1 => sb σ E1 H1 J1 _ _ _ t1.rel e2 fun u H2 J2 t2 r2 => ?_
      rw [hx, lists_eq e3] at d1
      cases d1 with
      | lst hq hd =>
        obtain ⟨us, a1, a2, a3, a4⟩ := dps_lists (dps_mono t2.jj _ _ hd)
        obtain ⟨b, vs, rfl, h1, h2, h3⟩ := r2.rw
        refine ⟨_, b, _, vs, us, rfl, (t2.jj.trans t2.rel.sub).seq hq, h1, a1, fun i v zs q1 q2 => ?_, by rw [a2, dps_len h3]; exact lim_ok hl, fun z => ?_, fun p hp => ?_⟩
        · obtain ⟨c, e, q⟩ := a4 i v zs q1 q2
          exact ⟨c, e, t2.rel.sub.seq q⟩
        · subst z
          have : us = [] := by
            cases us with
            | nil => rfl
            | cons => simp at a1
          subst this
          have : ls = [] := by
            cases ls with
            | nil => rfl
            | cons => simp at a2
          subst this
          rw [List.flatten_nil, List.append_nil] at fin
          exact fin _ _ _ (t1.trans t2) (r2.from t1)
        · obtain ⟨t3, r3⟩ := new_o t2.rel hp (dps_append h3 a3)
          exact Fin1.from (t1.trans t2) fin _ _ _ t3 r3
    · cases f3
  · cases f2
theorem se_lrg (sa : SE K F a ta) (sb : SE K F b tb) : SE K F (.lrg a b) (tLstRg (tRg2 ta tb)) := by
  intro σ E H J w E' Q rl e fin
  obtain ⟨⟨x, E1⟩, e1, f1⟩ := Option.bind_eq_some_iff.mp (show (ev F a E).bind _ = some (w, E') from e)
  obtain ⟨⟨y, E2⟩, e2, f2⟩ := Option.bind_eq_some_iff.mp f1
  obtain ⟨i, e3, f3⟩ := Option.bind_eq_some_iff.mp f2
  obtain ⟨j, e4, f4⟩ := Option.bind_eq_some_iff.mp f3
  have h1 := asI_eq e3
  have h2 := asI_eq e4
  subst h1 h2
  clear f1 f2 f3 e
  have e := f4
  clear f4
  split at e
  · rename_i hc
    obtain ⟨w', e5, e⟩ := Option.map_eq_some_iff.mp e
    cases e
    unfold mkL at e5
    split at e5
    · rename_i hl
      cases e5
      refine sa σ E H J _ E1 _ rl e1 fun v H1 J1 t1 r1 => sb σ E1 H1 J1 _ _ _ t1.rel e2 fun u H2 J2 t2 r2 => ⟨i, j, res_int r1, res_int r2, ⟨by omega, by omega, by omega, by omega, by omega⟩, fun q hq => ?_⟩
      have hd : ∀ n : Nat, DpAll K J2 ((List.range n).map fun (k : Nat) => V.int (i + k)) ((List.range n).map fun (k : Nat) => PyData.int (i + k)) := fun n => by
        induction n with
        | zero => exact .nil
        | succ n ih => rw [List.range_succ, List.map_append, List.map_append]; exact dps_append ih (.cons (.int _) .nil)
      obtain ⟨t3, r3⟩ := new_o t2.rel hq (hd (j - i).toNat)
      exact Fin1.from (t1.trans t2) fin _ _ _ t3 r3
    · cases e5
  · cases e
theorem se_lrg1 (sb : SE K F b tb) : SE K F (.lrg (.cst (.int 0)) b) (tLstRg (tRg1 tb)) := by
  intro σ E H J w E' Q rl e fin
  have h : tb σ H fun y H2 => ∃ i j : Int, V.int 0 = .int i ∧ y = .int j ∧ RgOk i j ∧ ∀ q, H2 q = none → Q (.ref q) (upd H2 q (.lst (rgV i j))) := se_lrg (se_cst (K := K) (F := F) (v := .int 0) fun J => .int 0) sb σ E H J w E' Q rl e fin
  refine cast ?_ h
  show (tb σ H fun y H2 => _) = tb σ H fun x H1 => _
  congr 1
  funext y H2
  apply propext
  constructor
  · rintro ⟨i, j, e1, e2, q⟩
    cases e1
    exact ⟨j, e2, q⟩
  · rintro ⟨j, e2, q⟩
    exact ⟨0, j, rfl, e2, q⟩
end
end
end PV
end

section
set_option Elab.async false
set_option linter.all false
set_option maxRecDepth 100000
set_option maxHeartbeats 2000000
set_option autoImplicit false
/-! PVj: targets, what a loop walks, list comprehensions -/
namespace PV
open PySem PySem.Spec L2

section
variable {K : PySem.W.Frag} {F : Fn}
/-! ### slots that are written -/
theorem put_eq {E E' : DE} {i : Nat} {w : W} (h : put E i w = some E') : E' = E.set i (some w) ∧ i < E.length ∧ ∀ xs, E[i]? ≠ some (some (.r xs)) := by
  unfold put at h
  split at h
  · cases h
  · rename_i o ho hn
    cases h
    refine ⟨rfl, (List.getElem?_eq_some_iff.mp hn).1, fun xs e => ?_⟩
    exact ho xs (Option.some.inj (hn.symm.trans e))
  · cases h
/-- a slot takes a result (data, or a list that no slot owns) -/
theorem Tr.put {σ σ0 : St} {E E1 : DE} {H H1 J J1 : Hp} {i : Nat} {w : W} {v : V} (t : Tr K σ0 E H J σ E1 H1 J1) (r : Res K σ0 E H σ E1 H1 J1 v w) {E' : DE} (h : put E1 i w = some E') (n0 : ∀ xs, E[i]? ≠ some (some (.r xs))) :
    Tr K σ0 E H J (σ.set i (some v)) E' H1 J1 := by
  obtain ⟨rfl, hi, hn⟩ := put_eq h
  have his : i < σ.length := by rw [← t.rel.len]; exact hi
  have own' : ∀ a, Own (σ.set i (some v)) (E1.set i (some w)) a → Own σ E1 a ∨ (w.live = true ∧ v = .ref a) := fun a ⟨j, w', q1, q2, q3⟩ => by
    by_cases hj : i = j
    · subst hj
      rw [List.getElem?_set_self hi] at q1
      rw [List.getElem?_set_self his] at q3
      cases q1
      cases q3
      exact .inr ⟨q2, rfl⟩
    · rw [List.getElem?_set_ne hj] at q1 q3
      exact .inl ⟨j, w', q1, q2, q3⟩
  refine ⟨⟨t.rel.sub, by rw [List.length_set, List.length_set]; exact t.rel.len, fun j w' q => ?_, fun j k w1 w2 a q1 l1 q2 l2 s1 s2 => ?_⟩, t.jj, t.fr, t.th, t.nw, fun a q => ?_, fun j xs q => ?_⟩
  · by_cases hj : i = j
    · subst hj
      rw [List.getElem?_set_self hi] at q
      cases q
      exact ⟨v, List.getElem?_set_self his, r.rw⟩
    · rw [List.getElem?_set_ne hj] at q ⊢
      exact t.rel.val j w' q
  · by_cases hj : i = j
    · by_cases hk : i = k
      · rw [← hj, ← hk]
      · subst hj
        rw [List.getElem?_set_self hi] at q1
        rw [List.getElem?_set_self his] at s1
        rw [List.getElem?_set_ne hk] at q2 s2
        cases q1
        cases s1
        exact absurd ⟨k, w2, q2, l2, s2⟩ (r.ne l1 a rfl)
    · by_cases hk : i = k
      · subst hk
        rw [List.getElem?_set_self hi] at q2
        rw [List.getElem?_set_self his] at s2
        rw [List.getElem?_set_ne hj] at q1 s1
        cases q2
        cases s2
        exact absurd ⟨j, w1, q1, l1, s1⟩ (r.ne l2 a rfl)
      · rw [List.getElem?_set_ne hj] at q1 s1
        rw [List.getElem?_set_ne hk] at q2 s2
        exact t.rel.ap j k w1 w2 a q1 l1 q2 l2 s1 s2
  · rcases own' a q with z | ⟨l, e⟩
    · exact t.ow a z
    · exact r.nw l a e
  · have hj : i ≠ j := fun z => n0 xs (z ▸ q)
    obtain ⟨e1, ys, e2⟩ := t.rr j xs q
    exact ⟨by rw [List.getElem?_set_ne hj]; exact e1, ys, by rw [List.getElem?_set_ne hj]; exact e2⟩
/-- a slot that is by reference stays so -/
theorem Tr.noR {σ σ' : St} {E E' : DE} {H H' J J' : Hp} {i : Nat} (t : Tr K σ E H J σ' E' H' J') (n : ∀ xs, E'[i]? ≠ some (some (.r xs))) : ∀ xs, E[i]? ≠ some (some (.r xs)) := fun xs e => by
  obtain ⟨_, ys, h⟩ := t.rr i xs e
  exact n ys h
theorem Tr.put1 {σ : St} {E : DE} {H J : Hp} {i : Nat} {d : D} {v : V} (r : Rel K H J σ E) (hd : Dp K J v d) {E' : DE} (h : PV.put E i (.d d) = some E') : Tr K σ E H J (σ.set i (some v)) E' H J :=
  (Tr.refl r).put (res_d hd) h (put_eq h).2.2

/-! ### targets -/
def SG (K : PySem.W.Frag) (tg : CT) (g : TG) : Prop := ∀ (σ : St) (E : DE) (H J : Hp) (v : V) (d : D) (E' : DE) (Q : St → Hp → Prop), Rel K H J σ E → Dp K J v d → bindT tg d E = some E' →
  (∀ σ', Tr K σ E H J σ' E' H J → (σ'.length = σ.length ∧ ∀ i, i ∉ slotsT tg → σ'[i]? = σ[i]?) → Q σ' H) → g v σ H Q
def SGs (K : PySem.W.Frag) (tg : CTs) (g : TGs) : Prop := ∀ (σ : St) (E : DE) (H J : Hp) (vs : List V) (ds : List D) (E' : DE) (Q : St → Hp → Prop), Rel K H J σ E → DpAll K J vs ds → bindTs tg ds E = some E' →
  (∀ σ', Tr K σ E H J σ' E' H J → (σ'.length = σ.length ∧ ∀ i, i ∉ slotsTs tg → σ'[i]? = σ[i]?) → Q σ' H) → g vs σ H Q
theorem sg_v (i : Nat) : SG K (.v i) (gName i) := by
  intro σ E H J v d E' Q r hd e fin
  refine fin _ (.put1 r hd e) ⟨List.length_set, fun j hj => ?_⟩
  have : i ≠ j := fun z => hj (by rw [← z]; simp [slotsT])
  rw [List.getElem?_set_ne this]
theorem sgs_nil : SGs K .nil gNil := by
  intro σ E H J vs ds E' Q r hd e fin
  cases ds with
  | nil =>
    cases hd
    cases (show some E = some E' from e)
    exact ⟨rfl, fin _ (.refl r) ⟨rfl, fun _ _ => rfl⟩⟩
  | cons d ds => exact nomatch (show (none : Option DE) = some E' from e)
theorem sgs_cons {a : CT} {b : CTs} {g : TG} {gs : TGs} (h1 : SG K a g) (h2 : SGs K b gs) : SGs K (.cons a b) (gCons g gs) := by
  intro σ E H J vs ds E' Q r hd e fin
  cases ds with
  | nil => exact nomatch (show (none : Option DE) = some E' from e)
  | cons d ds =>
    cases hd with
    | cons d1 d2 =>
      obtain ⟨E1, e1, e2⟩ := Option.bind_eq_some_iff.mp (show (bindT a d E).bind (bindTs b ds) = some E' from e)
      refine ⟨_, _, rfl, h1 σ E H J _ d E1 _ r d1 e1 fun σ1 t1 k1 => h2 σ1 E1 H J _ ds E' _ t1.rel d2 e2 fun σ2 t2 k2 => fin σ2 (t1.trans t2) ⟨k2.1.trans k1.1, fun i hi => ?_⟩⟩
      rw [slotsTs, List.mem_append, not_or] at hi
      rw [k2.2 i hi.2, k1.2 i hi.1]
theorem cts_len : ∀ {ts : CTs} {xs : List D} {E E' : DE} {n : Nat} {G : Glob} {sc : Scope} {es : List Expr}, cTs G sc es = some ts → bindTs ts xs E = some E' → xs.length = es.length
  | ts, xs, E, E', n, G, sc, [], h, e => by
    cases (show some CTs.nil = some ts from h)
    cases xs with
    | nil => rfl
    | cons x xs => exact nomatch (show (none : Option DE) = some E' from e)
  | ts, xs, E, E', n, G, sc, t :: es, h, e => by
    rw [cTs] at h
    split at h
    · rename_i a b h1 h2
      cases h
      cases xs with
      | nil => exact nomatch (show (none : Option DE) = some E' from e)
      | cons x xs =>
        obtain ⟨E1, e1, e2⟩ := Option.bind_eq_some_iff.mp (show (bindT a x E).bind (bindTs b xs) = some E' from e)
        simp [cts_len (n := n) h2 e2]
    · cases h
theorem sg_t {G : Glob} {sc : Scope} {es : List Expr} {ts : CTs} {gs : TGs} (h : cTs G sc es = some ts) (h2 : SGs K ts gs) : SG K (.t ts) (gTup K es.length gs) := by
  intro σ E H J v d E' Q r hd e fin
  cases d with
  | tuple xs =>
    have e : bindTs ts xs E = some E' := e
    cases hd with
    | tup hq hall =>
      refine ⟨_, _, rfl, sqT_mono r.sub hq, by rw [dps_len hall]; exact cts_len (n := 0) h e, h2 σ E H J _ xs E' _ r hall e fun σ' t k => fin σ' t k⟩
  | _ => exact nomatch (show (none : Option DE) = some E' from e)

/-! ### what is walked -/
/-- each item comes as data, whatever was done in between -/
def YOk (K : PySem.W.Frag) (J0 : Hp) (xs : List D) (Jt : It) : Prop := ∃ (G : Hp → Prop) (Y : Nat → Hp → V → Hp → Prop), Walk Jt xs.length G Y ∧ (∀ H2 J2, Same J0 J2 → Same J2 H2 → G H2) ∧
  ∀ i d σ2 E2 H2 J2 v H3, xs[i]? = some d → Same J0 J2 → Rel K H2 J2 σ2 E2 → Y i H2 v H3 → ∃ J3, Tr K σ2 E2 H2 J2 σ2 E2 H3 J3 ∧ Dp K J3 v d
def SI (K : PySem.W.Frag) (F : Fn) (it : CI) (wi : TI) : Prop := ∀ (σ : St) (E : DE) (H J : Hp) (xs : List D) (E' : DE) (R : It → Hp → Prop), Rel K H J σ E → evi F it E = some (xs, E') →
  (∀ Jt H' J', Tr K σ E H J σ E' H' J' → YOk K J' xs Jt → xs.length < sizeLine → R Jt H') → wi σ H R
theorem yok_at {J0 : Hp} {xs : List D} {us : List V} {Jt : It} {G : Hp → Prop} (w : Walk Jt us.length G (YAt us)) (hd : DpAll K J0 us xs) (hG : ∀ H2 J2, Same J0 J2 → Same J2 H2 → G H2) : YOk K J0 xs Jt := by
  refine ⟨G, YAt us, by rw [← dps_len hd]; exact w, hG, fun i d σ2 E2 H2 J2 v H3 hi s r ⟨e, hv⟩ => ?_⟩
  subst e
  obtain ⟨u, hu, du⟩ := dps_get hd hi
  rw [hv] at hu
  cases hu
  exact ⟨J2, .refl r, dp_mono s _ _ du⟩
theorem yok_pair {J0 : Hp} {xs : List D} {n : Nat} {Jt : It} {G : Hp → Prop} {f g : Nat → Option V} (w : Walk Jt n G (YPair f g)) (hn : n = xs.length) (hG : ∀ H2 J2, Same J0 J2 → Same J2 H2 → G H2)
    (hx : ∀ i d, xs[i]? = some d → ∃ a b, d = .tuple [a, b] ∧ ∀ u v, f i = some u → g i = some v → Dp K J0 u a ∧ Dp K J0 v b) : YOk K J0 xs Jt := by
  subst hn
  refine ⟨G, YPair f g, w, hG, fun i d σ2 E2 H2 J2 v H3 hi s r ⟨T, x, y, e1, e2, e3, e4, e5⟩ => ?_⟩
  subst e1 e3
  obtain ⟨a, b, e, h⟩ := hx i d hi
  subst e
  obtain ⟨h1, h2⟩ := h x y e4 e5
  obtain ⟨t, rs⟩ := new_t r e2 (.cons (dp_mono s _ _ h1) (.cons (dp_mono s _ _ h2) .nil))
  exact ⟨_, t, rs.rw⟩
theorem lim_size {n : Nat} (h : n ≤ 2000000) : n < sizeLine := Nat.lt_of_le_of_lt h (by rw [sizeLine_eq]; decide)
variable {a b : CE} {ta tb : TE}
theorem si_seq (sa : SE K F a ta) : SI K F (.seq a) (fun σ H R => iList K ta σ H R ∨ iTup K ta σ H R) := by
  intro σ E H J xs E' R r e fin
  obtain ⟨⟨w, E1⟩, e1, e⟩ := Option.bind_eq_some_iff.mp (show (ev F a E).bind _ = some (xs, E') from e)
  obtain ⟨ys, e2, e3⟩ := Option.bind_eq_some_iff.mp e
  split at e3
  · rename_i hl
    cases e3
    have hz : xs.length < sizeLine := lim_size (Nat.le_trans hl (by unfold lim; decide))
    cases hw : w.data with
    | list zs =>
      rw [hw] at e2
      cases e2
      refine .inl (se_dp sa r e1 fun v H1 J1 t d => ?_)
      rw [hw] at d
      cases d with
      | lst hq hd => exact ⟨_, rfl, ⟨_, t.rel.sub.seq hq⟩, fin _ H1 J1 t (yok_at walk_list hd fun H2 J2 s s2 => (s.trans s2).seq hq) hz⟩
    | tuple zs =>
      rw [hw] at e2
      cases e2
      refine .inr (se_dp sa r e1 fun v H1 J1 t d => ?_)
      rw [hw] at d
      cases d with
      | tup hq hd => exact ⟨_, rfl, ⟨_, sqT_mono t.rel.sub hq⟩, fin _ H1 J1 t (yok_at walk_tup hd fun H2 J2 s s2 => sqT_mono (s.trans s2) hq) hz⟩
    | _ => rw [hw] at e2; cases e2
  · cases e3
theorem rngD_len (i j : Int) : (rngD i j).length = (j - i).toNat := by simp [rngD]
theorem yok_rng {J0 : Hp} {i j : Int} {n : Nat} (hn : n = (j - i).toNat) : YOk K J0 (rngD i j) (Itr i n) := by
  subst hn
  refine ⟨fun _ => True, YFn fun k => .int (i + k), by rw [rngD_len]; exact walk_range, fun _ _ _ _ => trivial, fun k d σ2 E2 H2 J2 v H3 hk s r ⟨e1, e2⟩ => ?_⟩
  subst e1 e2
  have : d = .int (i + k) := by
    unfold rngD at hk
    rw [List.getElem?_map] at hk
    obtain ⟨m, hm, e⟩ := Option.map_eq_some_iff.mp hk
    obtain ⟨h1, h2⟩ := List.getElem?_eq_some_iff.mp hm
    rw [List.getElem_range] at h2
    rw [← e, ← h2]
  subst this
  exact ⟨J2, .refl r, .int _⟩
theorem si_rng2 (sa : SE K F a ta) (sb : SE K F b tb) : SI K F (.rng a b) (iRng2 (tCons ta (tCons tb tNil))) := by
  intro σ E H J xs E' R r e fin
  obtain ⟨⟨x, E1⟩, e1, f1⟩ := Option.bind_eq_some_iff.mp (show (ev F a E).bind _ = some (xs, E') from e)
  obtain ⟨⟨y, E2⟩, e2, f2⟩ := Option.bind_eq_some_iff.mp f1
  obtain ⟨i, e3, f3⟩ := Option.bind_eq_some_iff.mp f2
  obtain ⟨j, e4, f4⟩ := Option.bind_eq_some_iff.mp f3
  have h1 := asI_eq e3
  have h2 := asI_eq e4
  subst h1 h2
  clear f1 f2 f3 e
  split at f4
  · rename_i hc
    cases f4
    refine sa σ E H J _ E1 _ r e1 fun v H1 J1 t1 r1 => sb σ E1 H1 J1 _ _ _ t1.rel e2 fun u H2 J2 t2 r2 => ⟨i, j, by rw [res_int r1, res_int r2], ⟨by omega, by omega, by omega, by omega⟩, ?_⟩
    exact fin _ H2 J2 (t1.trans t2) (yok_rng rfl) (lim_size (by rw [rngD_len]; omega))
  · cases f4
theorem si_rng1 (sb : SE K F b tb) : SI K F (.rng (.cst (.int 0)) b) (iRng1 (tCons tb tNil)) := by
  intro σ E H J xs E' R r e fin
  obtain ⟨⟨y, E2⟩, e2, f2⟩ := Option.bind_eq_some_iff.mp (show (ev F b E).bind _ = some (xs, E') from e)
  obtain ⟨i, e3, f3⟩ := Option.bind_eq_some_iff.mp f2
  obtain ⟨j, e4, f4⟩ := Option.bind_eq_some_iff.mp f3
  have h2 := asI_eq e4
  cases e3
  subst h2
  clear f2 f3 e
  split at f4
  · rename_i hc
    cases f4
    refine sb σ E H J _ _ _ r e2 fun u H2 J2 t2 r2 => ⟨j, by rw [res_int r2], by omega, by omega, ?_⟩
    exact fin _ H2 J2 t2 (yok_rng (by omega)) (lim_size (by rw [rngD_len]; omega))
  · cases f4
theorem rngdD_len (i j : Int) : (rngdD i j).length = (i - j).toNat := by simp [rngdD]
theorem yok_rngd {J0 : Hp} {i j : Int} {n : Nat} (hn : n = (i - j).toNat) : YOk K J0 (rngdD i j) (Itc i (-1) n) := by
  subst hn
  refine ⟨fun _ => True, YFn fun k => .int (i + (k : Nat) * (-1)), by rw [rngdD_len]; exact walk_rangeC, fun _ _ _ _ => trivial, fun k d σ2 E2 H2 J2 v H3 hk s r ⟨e1, e2⟩ => ?_⟩
  subst e1 e2
  have : d = .int (i + (k : Nat) * (-1)) := by
    unfold rngdD at hk
    rw [List.getElem?_map] at hk
    obtain ⟨m, hm, e⟩ := Option.map_eq_some_iff.mp hk
    obtain ⟨h1, h2⟩ := List.getElem?_eq_some_iff.mp hm
    rw [List.getElem_range] at h2
    rw [← e, ← h2]
  subst this
  exact ⟨J2, .refl r, .int _⟩
theorem si_rngd {tc : TE} (sa : SE K F a ta) (sb : SE K F b tb) (sc : SE K F (.neg (.cst (.int 1))) tc) : SI K F (.rngd a b) (iRng3 (tCons ta (tCons tb (tCons tc tNil)))) := by
  intro σ E H J xs E' R r e fin
  obtain ⟨⟨x, E1⟩, e1, f1⟩ := Option.bind_eq_some_iff.mp (show (ev F a E).bind _ = some (xs, E') from e)
  obtain ⟨⟨y, E2⟩, e2, f2⟩ := Option.bind_eq_some_iff.mp f1
  obtain ⟨i, e3, f3⟩ := Option.bind_eq_some_iff.mp f2
  obtain ⟨j, e4, f4⟩ := Option.bind_eq_some_iff.mp f3
  have h1 := asI_eq e3
  have h2 := asI_eq e4
  subst h1 h2
  clear f1 f2 f3 e
  split at f4
  · rename_i hc
    cases f4
    refine sa σ E H J _ E1 _ r e1 fun v H1 J1 t1 r1 => sb σ E1 H1 J1 _ _ _ t1.rel e2 fun u H2 J2 t2 r2 => sc σ _ H2 J2 (.d (.int (-1))) _ _ t2.rel rfl fun w H3 J3 t3 r3 => ⟨i, j, -1, _, by rw [res_int r1, res_int r2, res_int r3], RgC.neg (by omega) (by omega) (by omega) (by omega), ?_⟩
    exact fin _ H3 J3 ((t1.trans t2).trans t3) (yok_rngd rfl) (lim_size (by rw [rngdD_len]; omega))
  · cases f4
theorem enumD_get {xs : List D} {i : Nat} {d : D} (h : (enumD xs)[i]? = some d) : ∃ x, xs[i]? = some x ∧ d = .tuple [.int i, x] := by
  unfold enumD at h
  rw [List.getElem?_mapIdx] at h
  obtain ⟨x, h1, h2⟩ := Option.map_eq_some_iff.mp h
  exact ⟨x, h1, h2.symm⟩
theorem si_enum (sa : SE K F a ta) : SI K F (.enum a) (iEnumA K (tCons ta tNil)) := by
  intro σ E H J xs E' R r e fin
  obtain ⟨⟨w, E1⟩, e1, e⟩ := Option.bind_eq_some_iff.mp (show (ev F a E).bind _ = some (xs, E') from e)
  obtain ⟨ys, e2, e3⟩ := Option.bind_eq_some_iff.mp e
  split at e3
  · rename_i hl
    cases e3
    have hz : (enumD ys).length < sizeLine := lim_size (by rw [enumD, List.length_mapIdx]; exact Nat.le_trans hl (by unfold lim; decide))
    refine se_dp sa r e1 fun v H1 J1 t d => ?_
    have key : ∀ (us : List V), DpAll K J1 us ys → ∀ (i : Nat) (d : D), (enumD ys)[i]? = some d → ∃ a b : D, d = PyData.tuple [a, b] ∧ ∀ u v, (some (V.int (i : Nat)) : Option V) = some u → us[i]? = some v → Dp K J1 u a ∧ Dp K J1 v b := fun us hd i d hi => by
      obtain ⟨x, h1, h2⟩ := enumD_get hi
      refine ⟨_, _, h2, fun u v e1 e2 => ?_⟩
      cases e1
      obtain ⟨v', h3, h4⟩ := dps_get hd h1
      rw [e2] at h3
      cases h3
      exact ⟨.int _, h4⟩
    cases hw : w.data with
    | list zs =>
      rw [hw] at e2 d
      cases e2
      cases d with
      | lst hq hd =>
        exact ⟨_, _, rfl, .inl ⟨t.rel.sub.seq hq, fin _ H1 J1 t (yok_pair walk_enum (by rw [enumD, List.length_mapIdx]; exact dps_len hd) (fun H2 J2 s s2 => (s.trans s2).seq hq) (key _ hd)) hz⟩⟩
    | tuple zs =>
      rw [hw] at e2 d
      cases e2
      cases d with
      | tup hq hd =>
        exact ⟨_, _, rfl, .inr ⟨sqT_mono t.rel.sub hq, fin _ H1 J1 t (yok_pair walk_enumT (by rw [enumD, List.length_mapIdx]; exact dps_len hd) (fun H2 J2 s s2 => sqT_mono (s.trans s2) hq) (key _ hd)) hz⟩⟩
    | _ => rw [hw] at e2; cases e2
  · cases e3
theorem zipD_get {xs ys : List D} {i : Nat} {d : D} (h : (zipD xs ys)[i]? = some d) : ∃ x y, xs[i]? = some x ∧ ys[i]? = some y ∧ d = .tuple [x, y] := by
  unfold zipD at h
  rw [List.getElem?_zipWith] at h
  split at h
  · cases h; exact ⟨_, _, by assumption, by assumption, rfl⟩
  · cases h
theorem walk_zipM {t1 t2 : Bool} {ad bd : Addr} {xs ys : List V} {n : Nat} (hn : n = min xs.length ys.length) : Walk (ItzM K t1 t2 ad bd) n (fun H => SqB K t1 H ad xs ∧ SqB K t2 H bd ys) (YPair (fun i => xs[i]?) (fun i => ys[i]?)) := by
  subst hn
  refine ⟨fun i _ hi q => ?_, fun _ q => ⟨xs, ys, q.1, q.2, by omega, by omega⟩, fun i H v H' _ q y => ?_⟩
  · have h1 : i < xs.length := by omega
    have h2 : i < ys.length := by omega
    exact ⟨xs, ys, xs[i], ys[i], q.1, q.2, by simp [h1], by simp [h2]⟩
  · obtain ⟨T, x, z, h1, h2, h3, h4, h5⟩ := y
    exact ⟨T, x, z, h1, h2, h3, h4 xs q.1, h5 ys q.2⟩
theorem si_zip (sa : SE K F a ta) (sb : SE K F b tb) : SI K F (.zip a b) (iZipM K (tCons ta (tCons tb tNil))) := by
  intro σ E H J xs E' R r e fin
  obtain ⟨⟨w, E1⟩, e1, f1⟩ := Option.bind_eq_some_iff.mp (show (ev F a E).bind _ = some (xs, E') from e)
  obtain ⟨⟨z, E2⟩, e2, f2⟩ := Option.bind_eq_some_iff.mp f1
  obtain ⟨p, e3, f3⟩ := Option.bind_eq_some_iff.mp f2
  clear f1 f2 e
  split at f3
  · rename_i hl
    cases f3
    have hlen : (zipD p.1 p.2).length = min p.1.length p.2.length := by simp [zipD]
    have hz : (zipD p.1 p.2).length < sizeLine := lim_size (by rw [hlen]; have := hl.1; unfold lim at this; omega)
    refine se_dp sa r e1 fun v H1 J1 t1 d1 => se_dp sb t1.rel e2 fun u H2 J2 t2 d2 => ?_
    have d1 := dp_mono t2.jj _ _ d1
    have key : ∀ (us vs : List V), DpAll K J2 us p.1 → DpAll K J2 vs p.2 → ∀ (i : Nat) (d : D), (zipD p.1 p.2)[i]? = some d → ∃ a b : D, d = PyData.tuple [a, b] ∧ ∀ u v, us[i]? = some u → vs[i]? = some v → Dp K J2 u a ∧ Dp K J2 v b := fun us vs hd hd2 i d hi => by
      obtain ⟨x, y, h1, h2, h3⟩ := zipD_get hi
      refine ⟨_, _, h3, fun u v e1 e2 => ?_⟩
      obtain ⟨u', h4, h5⟩ := dps_get hd h1
      obtain ⟨v', h6, h7⟩ := dps_get hd2 h2
      rw [e1] at h4
      rw [e2] at h6
      cases h4
      cases h6
      exact ⟨h5, h7⟩
    obtain ⟨zs, g1, g2⟩ := Option.bind_eq_some_iff.mp e3
    obtain ⟨zs2, g3, rfl⟩ := Option.map_eq_some_iff.mp g2
    obtain ⟨tb, ad, us, rfl, hq, hd⟩ := dp_sqB d1 g1
    obtain ⟨tb2, ad2, us2, rfl, hq2, hd2⟩ := dp_sqB d2 g3
    exact ⟨_, _, _, _, _, _, rfl, sqB_mono t2.rel.sub hq, sqB_mono t2.rel.sub hq2, fin _ H2 J2 (t1.trans t2) (yok_pair (walk_zipM (by rw [dps_len hd, dps_len hd2])) hlen.symm (fun H2 J2 s s2 => ⟨sqB_mono (s.trans s2) hq, sqB_mono (s.trans s2) hq2⟩) (key _ _ hd hd2)) hz⟩
  · cases f3
end
end PV
end

section
set_option Elab.async false
set_option linter.all false
set_option maxRecDepth 100000
set_option maxHeartbeats 2000000
set_option autoImplicit false
/-! PVk: list comprehensions -/
namespace PV
open PySem PySem.Spec L2

section
variable {K : PySem.W.Frag} {F : Fn}
/-! ### slots put away and brought back -/
theorem wipeE_length (E : DE) : ∀ vs : List Nat, (wipeE E vs).length = E.length
  | [] => rfl
  | v :: vs => by unfold wipeE; rw [List.length_set, wipeE_length E vs]
theorem wipeE_in {E : DE} {i : Nat} : ∀ {vs : List Nat}, i ∈ vs → ∀ w, (wipeE E vs)[i]? ≠ some (some w)
  | [], h, _ => by simp at h
  | v :: vs, h, w => by
    unfold wipeE
    by_cases hv : v = i
    · subst hv
      by_cases hl : v < (wipeE E vs).length
      · rw [List.getElem?_set_self hl]; simp
      · rw [List.getElem?_eq_none (by simpa using hl)]; simp
    · rw [List.getElem?_set_ne hv]
      rcases List.mem_cons.mp h with q | q
      · exact absurd q.symm hv
      · exact wipeE_in q w
theorem wipeE_out {E : DE} {i : Nat} : ∀ {vs : List Nat}, i ∉ vs → (wipeE E vs)[i]? = E[i]?
  | [], _ => rfl
  | v :: vs, h => by
    simp only [List.mem_cons, not_or] at h
    unfold wipeE
    rw [List.getElem?_set_ne (fun z => h.1 z.symm), wipeE_out h.2]
theorem wipe_out' {σ : St} {i : Nat} : ∀ {vs : List Nat}, i ∉ vs → (wipe σ vs)[i]? = σ[i]?
  | [], _ => rfl
  | v :: vs, h => by
    simp only [List.mem_cons, not_or] at h
    unfold wipe
    rw [List.getElem?_set_ne (fun z => h.1 z.symm), wipe_out' h.2]
theorem backE_length (E E0 : DE) : ∀ vs : List Nat, (backE E E0 vs).length = E.length
  | [] => rfl
  | v :: vs => by unfold backE; rw [List.length_set, backE_length E E0 vs]
theorem backE_out {E E0 : DE} {i : Nat} : ∀ {vs : List Nat}, i ∉ vs → (backE E E0 vs)[i]? = E[i]?
  | [], _ => rfl
  | v :: vs, h => by
    simp only [List.mem_cons, not_or] at h
    unfold backE
    rw [List.getElem?_set_ne (fun z => h.1 z.symm), backE_out h.2]
theorem backE_in {E E0 : DE} {i : Nat} : ∀ {vs : List Nat}, i ∈ vs → i < E.length → (backE E E0 vs)[i]? = some (E0[i]?.getD none)
  | [], h, _ => by simp at h
  | v :: vs, h, hl => by
    unfold backE
    by_cases hv : v = i
    · subst hv
      rw [List.getElem?_set_self (by rw [backE_length]; exact hl)]
    · rw [List.getElem?_set_ne hv]
      rcases List.mem_cons.mp h with q | q
      · exact absurd q.symm hv
      · exact backE_in q hl
theorem wipe_wipe (σ : St) (vs : List Nat) : wipe (wipe σ vs) vs = wipe σ vs := by
  apply List.ext_getElem?
  intro i
  by_cases hi : i ∈ vs
  · have key : ∀ (τ : St), (wipe τ vs)[i]? = if i < τ.length then some none else none := fun τ => by
      cases e : (wipe τ vs)[i]? with
      | none =>
        have := List.getElem?_eq_none_iff.mp e
        rw [wipe_length] at this
        rw [if_neg (by omega)]
      | some o =>
        have hl := (List.getElem?_eq_some_iff.mp e).1
        rw [wipe_length] at hl
        rw [if_pos hl]
        cases o with
        | none => rfl
        | some x => exact absurd hi (wipe_some e).2
    rw [key, key, wipe_length]
  · rw [wipe_out' hi]
/-- wiped states agree when the states agree elsewhere -/
theorem wipe_eq {σ τ : St} {vs : List Nat} (hl : σ.length = τ.length) (h : ∀ i, i ∉ vs → σ[i]? = τ[i]?) : wipe σ vs = wipe τ vs := by
  apply List.ext_getElem?
  intro i
  by_cases hi : i ∈ vs
  · have key : ∀ (τ : St), (wipe τ vs)[i]? = if i < τ.length then some none else none := fun τ => by
      cases e : (wipe τ vs)[i]? with
      | none =>
        have := List.getElem?_eq_none_iff.mp e
        rw [wipe_length] at this
        rw [if_neg (by omega)]
      | some o =>
        have hl := (List.getElem?_eq_some_iff.mp e).1
        rw [wipe_length] at hl
        rw [if_pos hl]
        cases o with
        | none => rfl
        | some x => exact absurd hi (wipe_some e).2
    rw [key, key, hl]
  · rw [wipe_out' hi, wipe_out' hi, h i hi]
section
variable {σ σ0 σ1 : St} {E E0 E1 E4 : DE} {H H0 H1 H' J J0 J1 J' : Hp} {vs : List Nat}
theorem own_wipe {a : Addr} (h : Own (wipe σ vs) (wipeE E vs) a) : ∃ (i : Nat) (w : W), i ∉ vs ∧ E[i]? = some (some w) ∧ w.live = true ∧ σ[i]? = some (some (.ref a)) := by
  obtain ⟨i, w, h1, h2, h3⟩ := h
  have hi : i ∉ vs := fun z => wipeE_in z w h1
  rw [wipeE_out hi] at h1
  rw [wipe_out' hi] at h3
  exact ⟨i, w, hi, h1, h2, h3⟩
theorem Rel.wipe (r : Rel K H J σ E) (vs : List Nat) : Rel K H J (L2.wipe σ vs) (wipeE E vs) := by
  refine ⟨r.sub, by rw [wipeE_length, wipe_length]; exact r.len, fun i w h => ?_, fun i j w w' a h1 l1 h2 l2 s1 s2 => ?_⟩
  · have hi : i ∉ vs := fun z => wipeE_in z w h
    rw [wipeE_out hi] at h
    rw [wipe_out' hi]
    exact r.val i w h
  · have hi : i ∉ vs := fun z => wipeE_in z w h1
    have hj : j ∉ vs := fun z => wipeE_in z w' h2
    rw [wipeE_out hi] at h1
    rw [wipe_out' hi] at s1
    rw [wipeE_out hj] at h2
    rw [wipe_out' hj] at s2
    exact r.ap i j w w' a h1 l1 h2 l2 s1 s2
/-- a turn's end: the own slots are put away; none of them was by reference at the turn's start -/
theorem Tr.wipe (t : Tr K σ0 E0 H0 J0 σ1 E1 H1 J1) (vs : List Nat) (h0 : ∀ i ∈ vs, ∀ xs, E0[i]? ≠ some (some (.r xs))) : Tr K σ0 E0 H0 J0 (L2.wipe σ1 vs) (wipeE E1 vs) H1 J1 := by
  refine ⟨t.rel.wipe vs, t.jj, t.fr, t.th, t.nw, fun a h => ?_, fun i xs h => ?_⟩
  · obtain ⟨i, w, hi, h1, h2, h3⟩ := own_wipe h
    exact t.ow a ⟨i, w, h1, h2, h3⟩
  · have hi : i ∉ vs := fun z => h0 i z xs h
    obtain ⟨e1, ys, e2⟩ := t.rr i xs h
    exact ⟨by rw [wipe_out' hi]; exact e1, ys, by rw [wipeE_out hi]; exact e2⟩
/-- the own slots come back -/
theorem Tr.back (r : Rel K H1 J1 σ E1) (t : Tr K (L2.wipe σ vs) (wipeE E1 vs) H1 J1 (L2.wipe σ vs) E4 H' J') (h4 : ∀ i ∈ vs, ∀ w, E4[i]? ≠ some (some w)) : Tr K σ E1 H1 J1 σ (backE E4 E1 vs) H' J' := by
  have len4 : E4.length = E1.length := by
    have := t.rel.len
    rw [wipe_length, ← r.len] at this
    exact this
  have inn : ∀ {i : Nat} {w : W}, i ∈ vs → (backE E4 E1 vs)[i]? = some (some w) → E1[i]? = some (some w) := fun {i w} hi h => by
    have hl := (List.getElem?_eq_some_iff.mp h).1
    rw [backE_length, len4] at hl
    rw [backE_in hi (by rw [len4]; exact hl)] at h
    rw [List.getElem?_eq_getElem hl] at h ⊢
    simpa using h
  have ownw : ∀ {a : Addr}, Own (L2.wipe σ vs) (wipeE E1 vs) a → Own σ E1 a := fun {a} h => by
    obtain ⟨i, w, _, h1, h2, h3⟩ := own_wipe h
    exact ⟨i, w, h1, h2, h3⟩
  -- an own slot's list stands as it stood
  have stay : ∀ {i : Nat} {w : W} {a : Addr}, i ∈ vs → E1[i]? = some (some w) → w.live = true → σ[i]? = some (some (.ref a)) → ¬ Own (L2.wipe σ vs) (wipeE E1 vs) a := fun {i w a} hi h l s q => by
    obtain ⟨j, w', hj, h1, h2, h3⟩ := own_wipe q
    exact hj (r.ap i j w w' a h l h1 h2 s h3 ▸ hi)
  have apart : ∀ {i j : Nat} {w w' : W} {a : Addr}, i ∈ vs → E1[i]? = some (some w) → w.live = true → σ[i]? = some (some (.ref a)) → j ∉ vs → E4[j]? = some (some w') → w'.live = true → σ[j]? = some (some (.ref a)) → False := fun {i j w w' a} hi h l s hj h' l' s' => by
    obtain ⟨v, e1, e2⟩ := r.val i w h
    obtain ⟨a', us, xs, ev, h1, _⟩ := e2.own l
    rw [s] at e1
    cases e1
    cases ev
    rcases t.ow a ⟨j, w', h', l', by rw [wipe_out' hj]; exact s'⟩ with z | z
    · exact stay hi h l s z
    · rw [h1] at z; cases z
  refine ⟨⟨t.rel.sub, by rw [backE_length, len4]; exact r.len, fun i w h => ?_, fun i j w w' a h1 l1 h2 l2 s1 s2 => ?_⟩, t.jj, fun b o h n => t.fr b o h fun q => n (ownw q), t.th, fun b o h => ?_, fun a ⟨i, w, h1, h2, h3⟩ => ?_, fun i xs h => ?_⟩
  · by_cases hi : i ∈ vs
    · have h := inn hi h
      obtain ⟨v, e1, e2⟩ := r.val i w h
      refine ⟨v, e1, e2.keep t.jj fun a ev l => ?_⟩
      obtain ⟨a', us, xs, ev', h1, h2, _, _⟩ := e2.own l
      have ea : a = a' := by rw [ev'] at ev; cases ev; rfl
      subst ea
      have n := stay hi h l (by rw [e1, ev])
      refine ⟨(t.fr a _ h1 n).trans h1.symm, ?_⟩
      cases q : J' a with
      | none => rfl
      | some o =>
        rcases t.nw a o q with z | z | z
        · rw [h2] at z; cases z
        · rw [h1] at z; cases z
        · exact absurd z n
    · rw [backE_out hi] at h
      have := t.rel.val i w h
      rw [wipe_out' hi] at this
      exact this
  · by_cases hi : i ∈ vs
    · by_cases hj : j ∈ vs
      · exact r.ap i j w w' a (inn hi h1) l1 (inn hj h2) l2 s1 s2
      · rw [backE_out hj] at h2
        exact (apart hi (inn hi h1) l1 s1 hj h2 l2 s2).elim
    · rw [backE_out hi] at h1
      by_cases hj : j ∈ vs
      · exact (apart hj (inn hj h2) l2 s2 hi h1 l1 s1).elim
      · rw [backE_out hj] at h2
        exact t.rel.ap i j w w' a h1 l1 h2 l2 (by rw [wipe_out' hi]; exact s1) (by rw [wipe_out' hj]; exact s2)
  · rcases t.nw b o h with z | z | z
    · exact .inl z
    · exact .inr (.inl z)
    · exact .inr (.inr (ownw z))
  · by_cases hi : i ∈ vs
    · exact .inl ⟨i, w, inn hi h1, h2, h3⟩
    · rw [backE_out hi] at h1
      rcases t.ow a ⟨i, w, h1, h2, by rw [wipe_out' hi]; exact h3⟩ with z | z
      · exact .inl (ownw z)
      · exact .inr z
  · refine ⟨rfl, ?_⟩
    by_cases hi : i ∈ vs
    · have hl := (List.getElem?_eq_some_iff.mp h).1
      exact ⟨xs, by rw [backE_in hi (by rw [len4]; exact hl), h]; rfl⟩
    · obtain ⟨_, ys, e⟩ := t.rr i xs (by rw [wipeE_out hi]; exact h)
      exact ⟨ys, by rw [backE_out hi]; exact e⟩
end
/-! ### the turns -/
def SC (K : PySem.W.Frag) (F : Fn) (c : CO) (t : TT) : Prop := ∀ (σ : St) (E : DE) (H J : Hp) (b : Bool) (E' : DE) (Q : Bool → Hp → Prop), Rel K H J σ E → evc F c E = some (b, E') →
  (∀ H' J', Tr K σ E H J σ E' H' J' → Q b H') → t σ H Q
theorem sc_no : SC K F .no tYes := by
  intro σ E H J b E' Q r e fin
  cases (show some (true, E) = some (b, E') from e)
  exact fin H J (.refl r)
theorem sc_yes {a : CE} {ta : TT} (sa : ST K F a ta) : SC K F (.yes a) ta := fun σ E H J b E' Q r e fin => sa σ E H J b E' Q r e fin
/-- a list that nobody else knows, at D, beside the slots -/
structure Lst (K : PySem.W.Frag) (σ : St) (E : DE) (H J : Hp) (D : Addr) (ys : List PV.D) : Prop where
  ex : ∃ us, H D = some (.lst us) ∧ DpAll K J us ys
  jn : J D = none
  no : ¬ Own σ E D
theorem Lst.step {σ σ' : St} {E E' : DE} {H H' J J' : Hp} {D : Addr} {ys : List PV.D} (l : Lst K σ E H J D ys) (t : Tr K σ E H J σ' E' H' J') : Lst K σ' E' H' J' D ys := by
  obtain ⟨us, h1, h2⟩ := l.ex
  refine ⟨⟨us, t.fr D _ h1 l.no, dps_mono t.jj _ _ h2⟩, ?_, fun q => ?_⟩
  · cases q : J' D with
    | none => rfl
    | some o =>
      rcases t.nw D o q with z | z | z
      · rw [l.jn] at z; cases z
      · rw [h1] at z; cases z
      · exact absurd z l.no
  · rcases t.ow D q with z | z
    · exact l.no z
    · rw [h1] at z; cases z
/-- writing such a list is no step that a slot sees -/
theorem Rel.wr {σ : St} {E : DE} {H J : Hp} {D : Addr} {ys : List PV.D} {o : HO} (r : Rel K H J σ E) (l : Lst K σ E H J D ys) : Rel K (upd H D o) J σ E := by
  refine ⟨fun b u h => ?_, r.len, fun i w h => ?_, r.ap⟩
  · rw [upd_ne (show b ≠ D from fun z => by subst z; rw [l.jn] at h; cases h)]
    exact r.sub b u h
  · obtain ⟨v, e1, e2⟩ := r.val i w h
    refine ⟨v, e1, e2.keep (Same.refl _) fun a ev lv => ?_⟩
    obtain ⟨a', vs, xs, ev', h1, h2, _, _⟩ := e2.own lv
    have ea : a = a' := by rw [ev'] at ev; cases ev; rfl
    subst ea
    exact ⟨upd_ne fun z => l.no ⟨i, w, h, lv, by rw [e1, ev, z]⟩, h2⟩
theorem Tr.wr {σ σ0 : St} {E E0 : DE} {H H0 J J0 : Hp} {D : Addr} {ys : List PV.D} {o : HO} (t : Tr K σ0 E0 H0 J0 σ E H J) (h0 : H0 D = none) (l : Lst K σ E H J D ys) : Tr K σ0 E0 H0 J0 σ E (upd H D o) J := by
  refine ⟨t.rel.wr l, t.jj, fun b u h n => ?_, fun b h => ?_, t.nw, t.ow, t.rr⟩
  · rw [upd_ne (show b ≠ D from fun z => by subst z; rw [h0] at h; cases h)]
    exact t.fr b u h n
  · by_cases hb : b = D
    · rw [hb]; exact h0
    · rw [upd_ne hb] at h; exact t.th b h
theorem Lst.wr {σ : St} {E : DE} {H J : Hp} {D : Addr} {ys zs : List PV.D} {us : List V} (l : Lst K σ E H J D ys) (h : DpAll K J us zs) : Lst K σ E (upd H D (.lst us)) J D zs := ⟨⟨us, upd_same, h⟩, l.jn, l.no⟩
theorem rel_none {σ : St} {E : DE} {H J : Hp} {a : Addr} (r : Rel K H J σ E) (h : H a = none) : ¬ Own σ E a := fun ⟨i, w, h1, h2, h3⟩ => by
  obtain ⟨v, e1, e2⟩ := r.val i w h1
  obtain ⟨a', us, xs, ev, q, _⟩ := e2.own h2
  rw [h3] at e1
  cases e1
  cases ev
  rw [h] at q; cases q
section
variable {σ : St} {E E1 : DE} {H H1 J J1 : Hp} {vs : List Nat} {tg : CT} {cond : CO} {elt : CE} {g : TG} {tt : TT} {te : TE} {D : Addr}
theorem lc_turn {Ei Ea Eb E' : DE} {v : V} {d : PV.D} {b : Bool} {ys ys' : List PV.D} {Nx : Hp → Prop} (t0 : Tr K (wipe σ vs) (wipeE E1 vs) H1 J1 (wipe σ vs) Ei H J) (hD : H1 D = none) (l : Lst K (wipe σ vs) Ei H J D ys) (hy : ys.length < sizeLine) (hd : Dp K J v d)
    (sg : SG K tg g) (hs : ∀ i ∈ slotsT tg, i ∈ vs) (sc : SC K F cond tt) (se : SE K F elt te) (e1 : bindT tg d Ei = some Ea) (e2 : evc F cond Ea = some (b, Eb))
    (e3 : if b = true then ∃ w Ec, ev F elt Eb = some (w, Ec) ∧ E' = wipeE Ec vs ∧ ys' = ys ++ [w.data] else E' = wipeE Eb vs ∧ ys' = ys)
    (hN : ∀ H' J', Tr K (wipe σ vs) (wipeE E1 vs) H1 J1 (wipe σ vs) E' H' J' → Lst K (wipe σ vs) E' H' J' D ys' → Nx H') :
    g v (wipe σ vs) H fun σ2 H2 => wipe σ2 vs = wipe σ vs ∧ tt σ2 H2 fun b H3 => if b = true then te σ2 H3 fun y H4 => ∃ acc, H4 D = some (.lst acc) ∧ acc.length < sizeLine ∧ Nx (upd H4 D (.lst (acc ++ [y]))) else Nx H3 := by
  refine sg (wipe σ vs) Ei H J v d Ea _ t0.rel hd e1 fun σ2 ta ka => ?_
  have ew : wipe σ2 vs = wipe σ vs := by
    rw [wipe_eq (τ := wipe σ vs) ka.1 fun i hi => ka.2 i fun z => hi (hs i z), wipe_wipe]
  have nr : ∀ i ∈ vs, ∀ xs, (wipeE E1 vs)[i]? ≠ some (some (.r xs)) := fun i hi xs => wipeE_in hi _
  have lw : ∀ {E2 : DE} {H2 J2 : Hp} {zs : List PV.D}, Lst K σ2 E2 H2 J2 D zs → Lst K (wipe σ vs) (wipeE E2 vs) H2 J2 D zs := fun {E2 H2 J2 zs} q => ⟨q.ex, q.jn, fun z => q.no (by
    rw [← ew] at z
    obtain ⟨i, w, _, h1, h2, h3⟩ := own_wipe z
    exact ⟨i, w, h1, h2, h3⟩)⟩
  refine ⟨ew, sc σ2 Ea H J b Eb _ ta.rel e2 fun H3 J3 tb => ?_⟩
  cases b with
  | false =>
    rw [if_neg Bool.false_ne_true] at e3 ⊢
    obtain ⟨rfl, rfl⟩ := e3
    have t := ((t0.trans ta).trans tb).wipe vs nr
    rw [ew] at t
    exact hN H3 J3 t (lw (l.step (ta.trans tb)))
  | true =>
    rw [if_pos rfl] at e3 ⊢
    obtain ⟨w, Ec, e4, rfl, rfl⟩ := e3
    refine se_dp se tb.rel e4 fun y H4 J4 tc dc => ?_
    have l4 := l.step ((ta.trans tb).trans tc)
    obtain ⟨us, h1, h2⟩ := l4.ex
    have t := (((t0.trans ta).trans tb).trans tc).wipe vs nr
    rw [ew] at t
    exact ⟨us, h1, by rw [dps_len h2]; exact hy, hN _ J4 (t.wr hD (lw l4)) ((lw l4).wr (dps_append h2 (.cons dc .nil)))⟩
/-- the end of a comprehension -/
theorem lc_end {E4 : DE} {H' J' : Hp} {ys : List PV.D} {Q : VK} (t1 : Tr K σ E H J σ E1 H1 J1) (t : Tr K (wipe σ vs) (wipeE E1 vs) H1 J1 (wipe σ vs) E4 H' J') (hw : ∀ i ∈ vs, ∀ w, E4[i]? ≠ some (some w)) (hD : H1 D = none) (l : Lst K (wipe σ vs) E4 H' J' D ys)
    (fin : ∀ v H' J', Tr K σ E H J σ (backE E4 E1 vs) H' J' → Res K σ E H σ (backE E4 E1 vs) H' J' v (.o ys) → Q v H') : Q (.ref D) H' := by
  obtain ⟨us, h1, h2⟩ := l.ex
  refine fin _ H' J' (t1.trans (.back t1.rel t hw)) ⟨⟨D, us, rfl, h1, l.jn, h2⟩, fun _ z => (nomatch z), fun _ a ea q => ?_, fun _ a ea => .inr (by cases ea; exact t1.th D hD)⟩
  cases ea
  obtain ⟨i, w, q1, q2, q3⟩ := q
  by_cases hi : i ∈ vs
  · have hl := (List.getElem?_eq_some_iff.mp q1).1
    rw [backE_length] at hl
    rw [backE_in hi hl] at q1
    have q1' : E1[i]? = some (some w) := by
      cases e : E1[i]? with
      | none => rw [e] at q1; simp at q1
      | some o => rw [e] at q1; simpa using q1
    exact rel_none t1.rel hD ⟨i, w, q1', q2, q3⟩
  · rw [backE_out hi] at q1
    exact l.no ⟨i, w, q1, q2, by rw [wipe_out' hi]; exact q3⟩
/-- over what comes as data -/
theorem comp_core {E4 : DE} {xs ys : List PV.D} {Jt : It} {Q : VK} (t1 : Tr K σ E H J σ E1 H1 J1) (y : YOk K J1 xs Jt) (hz : xs.length < sizeLine) (sg : SG K tg g) (hs : ∀ i ∈ slotsT tg, i ∈ vs) (sc : SC K F cond tt) (se : SE K F elt te)
    (e : lcGo (bindT tg) (evc F cond) (ev F elt) vs xs (wipeE E1 vs) = some (ys, E4)) (fin : ∀ v H' J', Tr K σ E H J σ (backE E4 E1 vs) H' J' → Res K σ E H σ (backE E4 E1 vs) H' J' v (.o ys) → Q v H') (hD : H1 D = none) :
    ∃ W : Nat → Nat → Hp → Prop, (∃ m, W 0 m (upd H1 D (.lst []))) ∧ ∀ i m H, W i m H →
      (Jt.stop i H ∧ Q (.ref D) H) ∨ (Jt.go i H ∧ ∃ Nx : Hp → Prop, (∀ H', Nx H' → ∃ m', m' < m ∧ W (i + 1) m' H') ∧ ∀ x H', Jt.yld i H x H' → g x (wipe σ vs) H' fun σ2 H2 => wipe σ2 vs = wipe σ vs ∧ tt σ2 H2 fun b H3 =>
        if b = true then te σ2 H3 fun y H4 => ∃ acc, H4 D = some (.lst acc) ∧ acc.length < sizeLine ∧ Nx (upd H4 D (.lst (acc ++ [y]))) else Nx H3) := by
  obtain ⟨G, Y, wk, hG, hY⟩ := y
  have rw0 := t1.rel.wipe vs
  have l0 : Tr K (wipe σ vs) (wipeE E1 vs) H1 J1 (wipe σ vs) (wipeE E1 vs) (upd H1 D (.lst [])) J1 ∧ Lst K (wipe σ vs) (wipeE E1 vs) (upd H1 D (.lst [])) J1 D [] := by
    obtain ⟨t, rs⟩ := new_o (p := D) rw0 hD (DpAll.nil)
    obtain ⟨a, us, ea, h1, h2, h3⟩ := rs.rw
    cases ea
    exact ⟨t, ⟨us, h1, h3⟩, h2, rs.ne rfl D rfl⟩
  refine lc_it wk (fun i H' => ∃ Ei Ji pre rest, Tr K (wipe σ vs) (wipeE E1 vs) H1 J1 (wipe σ vs) Ei H' Ji ∧ (∀ i ∈ vs, ∀ w, Ei[i]? ≠ some (some w)) ∧ Lst K (wipe σ vs) Ei H' Ji D pre ∧ pre.length ≤ i ∧
      lcGo (bindT tg) (evc F cond) (ev F elt) vs (xs.drop i) Ei = some (rest, E4) ∧ pre ++ rest = ys) ?_ ?_ ?_ ?_
  · exact ⟨_, _, [], ys, l0.1, fun i hi w => wipeE_in hi w, l0.2, Nat.le_refl _, e, rfl⟩
  · rintro i H' _ ⟨Ei, Ji, pre, rest, t, _⟩
    exact hG H' Ji t.jj t.rel.sub
  · rintro i x H' H2 hlt ⟨Ei, Ji, pre, rest, t, hw, l, hp, el, ey⟩ hy
    have hx : xs[i]? = some xs[i] := List.getElem?_eq_getElem hlt
    obtain ⟨J3, tY, hd⟩ := hY i _ _ Ei H' Ji x H2 hx t.jj t.rel hy
    rw [List.drop_eq_getElem_cons hlt] at el
    obtain ⟨Ea, e1, el⟩ := Option.bind_eq_some_iff.mp (show (bindT tg xs[i] Ei).bind _ = some (rest, E4) from el)
    obtain ⟨⟨b, Eb⟩, e2, el⟩ := Option.bind_eq_some_iff.mp el
    cases b with
    | false =>
      have el : lcGo (bindT tg) (evc F cond) (ev F elt) vs (xs.drop (i + 1)) (wipeE Eb vs) = some (rest, E4) := el
      exact lc_turn (b := false) (t.trans tY) hD (l.step tY) (Nat.lt_of_le_of_lt hp (Nat.lt_trans hlt hz)) hd sg hs sc se e1 e2 (by rw [if_neg Bool.false_ne_true]; exact ⟨rfl, rfl⟩) fun H3 J3 t3 l3 =>
        ⟨_, J3, pre, rest, t3, fun i hi w => wipeE_in hi w, l3, by omega, el, ey⟩
    | true =>
      obtain ⟨⟨w, Ec⟩, e3, el⟩ := Option.bind_eq_some_iff.mp (show (ev F elt Eb).bind _ = some (rest, E4) from el)
      obtain ⟨⟨rest', E5⟩, e4, el⟩ := Option.map_eq_some_iff.mp el
      cases el
      exact lc_turn (b := true) (t.trans tY) hD (l.step tY) (Nat.lt_of_le_of_lt hp (Nat.lt_trans hlt hz)) hd sg hs sc se e1 e2 (by rw [if_pos rfl]; exact ⟨w, Ec, e3, rfl, rfl⟩) fun H3 J3 t3 l3 =>
        ⟨_, J3, pre ++ [w.data], rest', t3, fun i hi w => wipeE_in hi w, l3, by rw [List.length_append]; simp; omega, e4, by rw [← ey]; simp⟩
  · rintro H' ⟨Ei, Ji, pre, rest, t, hw, l, hp, el, ey⟩
    rw [List.drop_length] at el
    cases (show some (([] : List PV.D), Ei) = some (rest, E4) from el)
    rw [List.append_nil] at ey
    subst ey
    exact lc_end t1 t hw hD l fin
theorem se_comp {it : CI} {wi : TI} (hn : ∀ i, it ≠ .own i) (si : SI K F it wi) (sg : SG K tg g) (hs : ∀ i ∈ slotsT tg, i ∈ vs) (sc : SC K F cond tt) (se : SE K F elt te) : SE K F (.comp vs tg it cond elt) (tLc wi g tt te vs) := by
  intro σ E H J w E' Q r e fin
  have e : (evi F it E).bind (fun (xs, E1) => (lcGo (bindT tg) (evc F cond) (ev F elt) vs xs (wipeE E1 vs)).map fun (ys, E4) => (W.o ys, backE E4 E1 vs)) = some (w, E') := by
    cases it with
    | own i => exact absurd rfl (hn i)
    | _ => exact e
  obtain ⟨⟨xs, E1⟩, e1, e⟩ := Option.bind_eq_some_iff.mp e
  obtain ⟨⟨ys, E4⟩, e2, e⟩ := Option.map_eq_some_iff.mp e
  cases e
  exact si σ E H J xs E1 _ r e1 fun Jt H1 J1 t1 y hz => fun D hD => comp_core t1 y hz sg hs sc se e2 fin hD
/-- over a name's list, as it stands at each turn -/
theorem se_compOwn {i : Nat} (sg : SG K tg g) (hs : ∀ i ∈ slotsT tg, i ∈ vs) (sc : SC K F cond tt) (se : SE K F elt te) : SE K F (.comp vs tg (.own i) cond elt) (tLc (fun σ H R => iList K (tVar i) σ H R ∨ iTup K (tVar i) σ H R) g tt te vs) := by
  intro σ E H J w E' Q r e fin
  have e : (match E[i]? with
      | some (some (.d x)) => (seqD x).bind fun xs => if xs.length ≤ lim then (lcGo (bindT tg) (evc F cond) (ev F elt) vs xs (wipeE E vs)).map fun (ys, E4) => (W.o ys, backE E4 E vs) else none
      | _ => (lcOwn i (bindT tg) (evc F cond) (ev F elt) vs lim 0 (wipeE E vs)).map fun (ys, E4) => (W.o ys, backE E4 E vs)) = some (w, E') := e
  split at e
  · rename_i x hx
    obtain ⟨xs, e1, e2⟩ := Option.bind_eq_some_iff.mp e
    split at e2
    · rename_i hl
      obtain ⟨⟨ys, E4⟩, e3, e4⟩ := Option.map_eq_some_iff.mp e2
      cases e4
      obtain ⟨v, h1, h2⟩ := rel_d r hx
      have hz : xs.length < sizeLine := lim_size (Nat.le_trans hl (by unfold lim; decide))
      cases x with
      | list zs =>
        cases e1
        cases h2 with
        | lst hq hd => exact .inl ⟨_, h1, _, rfl, ⟨_, r.sub.seq hq⟩, fun D hD => comp_core (.refl r) (yok_at walk_list hd fun H2 J2 s s2 => (s.trans s2).seq hq) hz sg hs sc se e3 fin hD⟩
      | tuple zs =>
        cases e1
        cases h2 with
        | tup hq hd => exact .inr ⟨_, h1, _, rfl, ⟨_, sqT_mono r.sub hq⟩, fun D hD => comp_core (.refl r) (yok_at walk_tup hd fun H2 J2 s s2 => sqT_mono (s.trans s2) hq) hz sg hs sc se e3 fin hD⟩
      | _ => cases e1
    · cases e2
  · obtain ⟨⟨ys, E4⟩, e1, e2⟩ := Option.map_eq_some_iff.mp e
    cases e2
    have live : ∀ {Ei : DE} {Hi Ji : Hp} {xs : List PV.D}, Rel K Hi Ji (wipe σ vs) Ei → getL Ei i = some xs → ∃ a us, σ[i]? = some (some (.ref a)) ∧ Hi a = some (.lst us) ∧ DpAll K Ji us xs := fun {Ei Hi Ji xs} ri h => by
      have key : ∀ w, Ei[i]? = some (some w) → w.live = true → w.data = .list xs → ∃ a us, σ[i]? = some (some (.ref a)) ∧ Hi a = some (.lst us) ∧ DpAll K Ji us xs := fun w h1 h2 h3 => by
        obtain ⟨v, q1, q2⟩ := ri.val i w h1
        obtain ⟨a, us, zs, ev, q3, q4, q5, q6⟩ := q2.own h2
        rw [h3] at q6
        cases q6
        subst ev
        exact ⟨a, us, (wipe_some q1).1, q3, q5⟩
      unfold getL at h
      split at h
      · rename_i zs hz
        cases h
        exact key _ hz rfl rfl
      · rename_i zs hz
        cases h
        exact key _ hz rfl rfl
      · cases h
    have rw0 := r.wipe vs
    obtain ⟨xs0, g0, _⟩ := Option.bind_eq_some_iff.mp (show (getL (wipeE E vs) i).bind _ = some (ys, E4) from (by
      have : lim = 999999 + 1 := rfl
      rw [this] at e1
      exact e1))
    obtain ⟨a, us0, hv, ha0, hd0⟩ := live rw0 g0
    refine .inl ⟨_, hv, a, rfl, ⟨us0, .inl (.inl ha0)⟩, fun D hD => ?_⟩
    have l0 : Tr K (wipe σ vs) (wipeE E vs) H J (wipe σ vs) (wipeE E vs) (upd H D (.lst [])) J ∧ Lst K (wipe σ vs) (wipeE E vs) (upd H D (.lst [])) J D [] := by
      obtain ⟨t, rs⟩ := new_o (p := D) rw0 hD (DpAll.nil)
      obtain ⟨a, us, ea, h1, h2, h3⟩ := rs.rw
      cases ea
      exact ⟨t, ⟨us, h1, h3⟩, h2, rs.ne rfl D rfl⟩
    refine ⟨fun k m H' => m + k = lim ∧ ∃ Ei Ji pre rest, Tr K (wipe σ vs) (wipeE E vs) H J (wipe σ vs) Ei H' Ji ∧ (∀ i ∈ vs, ∀ w, Ei[i]? ≠ some (some w)) ∧ Lst K (wipe σ vs) Ei H' Ji D pre ∧ pre.length ≤ k ∧
      lcOwn i (bindT tg) (evc F cond) (ev F elt) vs m k Ei = some (rest, E4) ∧ pre ++ rest = ys, ⟨lim, rfl, _, _, [], ys, l0.1, fun i hi w => wipeE_in hi w, l0.2, Nat.le_refl _, e1, rfl⟩, ?_⟩
    rintro k m H' ⟨hm, Ei, Ji, pre, rest, t, hw, l, hp, el, ey⟩
    cases m with
    | zero => exact nomatch (show (none : Option (List PV.D × DE)) = some (rest, E4) from el)
    | succ m =>
      obtain ⟨xs, gx, el⟩ := Option.bind_eq_some_iff.mp (show (getL Ei i).bind _ = some (rest, E4) from el)
      obtain ⟨a', us, hv', ha, hd⟩ := live t.rel gx
      rw [hv] at hv'
      cases hv'
      split at el
      · rename_i hk
        cases el
        rw [List.append_nil] at ey
        subst ey
        refine .inl ⟨⟨us, .inl (.inl ha), by rw [dps_len hd]; exact List.getElem?_eq_none_iff.mp hk⟩, lc_end (.refl r) t hw hD l fin⟩
      · rename_i x hk
        obtain ⟨u, hu, du⟩ := dps_get hd hk
        refine .inr ⟨⟨us, u, .inl (.inl ha), hu⟩, _, fun H2 q => ⟨m, Nat.lt_succ_self m, q⟩, fun y H2 ⟨e5, hy⟩ => ?_⟩
        subst e5
        have ey' : us[k]? = some y := hy us (.inl (.inl ha))
        rw [hu] at ey'
        cases ey'
        obtain ⟨Ea, e1, el⟩ := Option.bind_eq_some_iff.mp el
        obtain ⟨⟨b, Eb⟩, e2, el⟩ := Option.bind_eq_some_iff.mp el
        have hz : pre.length < sizeLine := lim_size (by unfold lim at hm; omega)
        cases b with
        | false =>
          have el : lcOwn i (bindT tg) (evc F cond) (ev F elt) vs m (k + 1) (wipeE Eb vs) = some (rest, E4) := el
          exact lc_turn (b := false) t hD l hz du sg hs sc se e1 e2 (by rw [if_neg Bool.false_ne_true]; exact ⟨rfl, rfl⟩) fun H3 J3 t3 l3 =>
            ⟨by omega, _, J3, pre, rest, t3, fun i hi w => wipeE_in hi w, l3, by omega, el, ey⟩
        | true =>
          obtain ⟨⟨w, Ec⟩, e3, el⟩ := Option.bind_eq_some_iff.mp (show (ev F elt Eb).bind _ = some (rest, E4) from el)
          obtain ⟨⟨rest', E5⟩, e4, el⟩ := Option.map_eq_some_iff.mp el
          cases el
          exact lc_turn (b := true) t hD l hz du sg hs sc se e1 e2 (by rw [if_pos rfl]; exact ⟨w, Ec, e3, rfl, rfl⟩) fun H3 J3 t3 l3 =>
            ⟨by omega, _, J3, pre ++ [w.data], rest', t3, fun i hi w => wipeE_in hi w, l3, by rw [List.length_append]; simp; omega, e4, by rw [← ey]; simp⟩
end
end
end PV
end

section
set_option Elab.async false
set_option linter.all false
set_option maxRecDepth 100000
set_option maxHeartbeats 2000000
set_option autoImplicit false
/-! PVl: calls of defs -/
namespace PV
open PySem PySem.Spec L2
open PyProof.Rows hiding St

def spF (K : PySem.W.Frag) (F : Fn) (f : Nat) : SpG := fun vs H Q => ∃ J p ds w p', Rel K H J (vs.map some) (argE p ds) ∧ F f p ds = some (w, p') ∧
  ∀ v H' J', Tr K (vs.map some) (argE p ds) H J (vs.map some) (argE p' ds) H' J' → ResX K (vs.map some) (argE p ds) H (vs.map some) (argE p' ds) H' J' v w → Q v H'
def tG (sp : SpG) (t : TA) : TE := fun σ H Q => t σ H fun vs H1 => sp vs H1 Q
def permL {α : Type} (xs : List α) : List Nat → Option (List α)
  | [] => some []
  | k :: r => match xs[k]? with
    | some d => (permL xs r).map (d :: ·)
    | none => none
def tGp (sp : SpG) (q : List Nat) (t : TA) : TE := fun σ H Q => t σ H fun vs H1 => ∃ vs', permL vs q = some vs' ∧ sp vs' H1 Q
section
variable {K : PySem.W.Frag} {F : Fn}
theorem permD_eq (ds : List D) : ∀ q : List Nat, permD ds q = permL ds q
  | [] => rfl
  | k :: r => by
    unfold permD permL
    rw [permD_eq ds r]
    cases ds[k]? <;> rfl
theorem permL_get {α : Type} {xs : List α} : ∀ {q : List Nat} {ys : List α}, permL xs q = some ys → ys.length = q.length ∧ ∀ (i k : Nat), q[i]? = some k → ys[i]? = xs[k]?
  | [], ys, h => by cases (show some ([] : List α) = some ys from h); exact ⟨rfl, fun i k e => by simp at e⟩
  | k :: r, ys, h => by
    unfold permL at h
    split at h
    · rename_i d hd
      obtain ⟨zs, h1, e⟩ := Option.map_eq_some_iff.mp h
      subst e
      obtain ⟨l, g⟩ := permL_get h1
      refine ⟨by simp [l], fun i k' e => ?_⟩
      cases i with
      | zero => simp at e; subst e; simp [hd]
      | succ i => simpa using g i k' (by simpa using e)
    · cases h
theorem perm_dp {J : Hp} {vs : List V} {ds : List D} (h : DpAll K J vs ds) : ∀ {q : List Nat} {es : List D}, permL ds q = some es → ∃ us, permL vs q = some us ∧ DpAll K J us es
  | [], es, e => by cases (show some ([] : List D) = some es from e); exact ⟨[], rfl, .nil⟩
  | k :: r, es, e => by
    unfold permL at e
    split at e
    · rename_i d hd
      obtain ⟨zs, h1, e⟩ := Option.map_eq_some_iff.mp e
      subst e
      obtain ⟨us, h2, h3⟩ := perm_dp h h1
      obtain ⟨v, hv, dv⟩ := dps_get h hd
      exact ⟨v :: us, by unfold permL; rw [hv, h2]; rfl, .cons dv h3⟩
    · cases e
theorem perm_vals {vs : List V} {us : List Value} (h : Vals vs us) : ∀ {q : List Nat} {es : List V}, permL vs q = some es → ∃ ws, permL us q = some ws ∧ Vals es ws
  | [], es, e => by cases (show some ([] : List V) = some es from e); exact ⟨[], rfl, .nil⟩
  | k :: r, es, e => by
    unfold permL at e
    split at e
    · rename_i d hd
      obtain ⟨zs, h1, e⟩ := Option.map_eq_some_iff.mp e
      subst e
      obtain ⟨ws, h2, h3⟩ := perm_vals h h1
      obtain ⟨v, hv, dv⟩ := h.get hd
      exact ⟨v :: ws, by unfold permL; rw [hv, h2]; rfl, .cons dv h3⟩
    · cases e
theorem permL_ids {α : Type} {xs ys : List α} (h : permL xs (List.range xs.length) = some ys) : ys = xs := by
  obtain ⟨l, g⟩ := permL_get h
  rw [List.length_range] at l
  apply List.ext_getElem? 
  intro i
  by_cases hi : i < xs.length
  · exact g i i (by rw [List.getElem?_range hi])
  · rw [List.getElem?_eq_none (by omega), List.getElem?_eq_none (by omega)]
theorem permL_ids' {α : Type} (xs : List α) : permL xs (List.range xs.length) = some xs := by
  have key : ∀ (q : List Nat), (∀ k ∈ q, k < xs.length) → ∃ ys, permL xs q = some ys := fun q => by
    induction q with
    | nil => exact fun _ => ⟨[], rfl⟩
    | cons k r ih =>
      intro h
      obtain ⟨ys, e⟩ := ih fun j hj => h j (List.mem_cons_of_mem _ hj)
      have hk := h k (List.mem_cons_self ..)
      exact ⟨xs[k] :: ys, by unfold permL; rw [List.getElem?_eq_getElem hk, e]; rfl⟩
  obtain ⟨ys, e⟩ := key (List.range xs.length) fun k hk => List.mem_range.mp hk
  rw [e, permL_ids e]
/-! ### the arguments as the callee's first slots -/
theorem argE_get {ds : List D} {i : Nat} {w : W} (h : (argE none ds)[i]? = some (some w)) : ∃ d, ds[i]? = some d ∧ w = .d d := by
  unfold argE at h
  simp only [List.nil_append, List.getElem?_map] at h
  obtain ⟨d, h1, h2⟩ := Option.map_eq_some_iff.mp h
  exact ⟨d, h1, by cases h2; rfl⟩
theorem rel_args {H J : Hp} {vs : List V} {ds : List D} (s : Same J H) (h : DpAll K J vs ds) : Rel K H J (vs.map some) (argE none ds) := by
  refine ⟨s, by simp [argE, dps_len h], fun i w e => ?_, fun i j w w' a e l => ?_⟩
  · obtain ⟨d, h1, rfl⟩ := argE_get e
    obtain ⟨v, hv, dv⟩ := dps_get h h1
    exact ⟨v, by simp [hv], dv⟩
  · obtain ⟨d, h1, rfl⟩ := argE_get e
    cases l
theorem own_args {vs : List V} {ds : List D} {a : Addr} (h : Own (vs.map some) (argE none ds) a) : False := by
  obtain ⟨i, w, h1, h2, h3⟩ := h
  obtain ⟨d, _, rfl⟩ := argE_get h1
  cases h2
theorem argE_getR {xs : List D} {ds : List D} {i : Nat} {w : W} (h : (argE (some xs) ds)[i]? = some (some w)) : (i = 0 ∧ w = .r xs) ∨ ∃ j d, i = j + 1 ∧ ds[j]? = some d ∧ w = .d d := by
  cases i with
  | zero =>
    have : some (some (W.r xs)) = some (some w) := h
    cases this
    exact .inl ⟨rfl, rfl⟩
  | succ j =>
    have h : (argE none ds)[j]? = some (some w) := h
    obtain ⟨d, h1, h2⟩ := argE_get h
    exact .inr ⟨j, d, rfl, h1, h2⟩
theorem rel_argsR {H J : Hp} {vs us : List V} {ds xs : List D} {a : Addr} (s : Same J H) (h : DpAll K J vs ds) (h1 : H a = some (.lst us)) (h2 : J a = none) (h3 : DpAll K J us xs) : Rel K H J ((V.ref a :: vs).map some) (argE (some xs) ds) := by
  refine ⟨s, by simp [argE, dps_len h], fun i w e => ?_, fun i j w w' b e l e' l' _ _ => ?_⟩
  · rcases argE_getR e with ⟨rfl, rfl⟩ | ⟨j, d, rfl, hd, rfl⟩
    · exact ⟨.ref a, rfl, a, us, rfl, h1, h2, h3⟩
    · obtain ⟨v, hv, dv⟩ := dps_get h hd
      exact ⟨v, by simp [hv], dv⟩
  · rcases argE_getR e with ⟨rfl, rfl⟩ | ⟨j, d, rfl, hd, rfl⟩
    · rcases argE_getR e' with ⟨rfl, _⟩ | ⟨j, d, rfl, hd, rfl⟩
      · rfl
      · cases l'
    · cases l
theorem own_argsR {vs : List V} {ds xs : List D} {a b : Addr} (h : Own ((V.ref a :: vs).map some) (argE (some xs) ds) b) : b = a := by
  obtain ⟨i, w, h1, h2, h3⟩ := h
  rcases argE_getR h1 with ⟨rfl, rfl⟩ | ⟨j, d, rfl, hd, rfl⟩
  · have : some (some (V.ref a)) = some (some (V.ref b)) := h3
    cases this; rfl
  · cases h2
theorem own_argsR' {vs : List V} {ds xs : List D} {a : Addr} : Own ((V.ref a :: vs).map some) (argE (some xs) ds) a := ⟨0, .r xs, rfl, rfl, rfl⟩
/-! ### behind a call -/
section
variable {σ τ : St} {E0 E Eτ Eτ' : DE} {H0 H H' J0 J J' : Hp} {v : V} {w : W}
theorem call_free (t0 : Tr K σ E0 H0 J0 σ E H J) (tc : Tr K τ Eτ H J τ Eτ' H' J') (rs : ResX K τ Eτ H τ Eτ' H' J' v w) (hno : ∀ a, Own σ E a → ¬ Own τ Eτ a) (hfrom : ∀ a, Own τ Eτ a → Own σ E0 a ∨ H0 a = none) :
    Tr K σ E0 H0 J0 σ E H' J' ∧ ResX K σ E0 H0 σ E H' J' v w := by
  have r := t0.rel
  refine ⟨⟨⟨tc.rel.sub, r.len, fun i w h => ?_, r.ap⟩, t0.jj.trans tc.jj, fun b o h n => tc.fr b o (t0.fr b o h n) fun q => ?_, fun b h => t0.th b (tc.th b h), fun b o h => ?_, t0.ow, t0.rr⟩, rs.frame (fun c _ z q => ?_) fun c _ z => ?_⟩
  · obtain ⟨v, e1, e2⟩ := r.val i w h
    refine ⟨v, e1, e2.keep tc.jj fun a ev l => ?_⟩
    obtain ⟨a', us, xs, ev', h1, h2, _, _⟩ := e2.own l
    have ea : a = a' := by rw [ev'] at ev; cases ev; rfl
    subst ea
    have n := hno a ⟨i, w, h, l, by rw [e1, ev]⟩
    refine ⟨(tc.fr a _ h1 n).trans h1.symm, ?_⟩
    cases q : J' a with
    | none => rfl
    | some o =>
      rcases tc.nw a o q with z | z | z
      · rw [h2] at z; cases z
      · rw [h1] at z; cases z
      · exact absurd z n
  · rcases hfrom b q with z | z
    · exact n z
    · rw [h] at z; cases z
  · rcases tc.nw b o h with z | z | z
    · exact t0.nw b o z
    · exact .inr (.inl (t0.th b z))
    · rcases hfrom b z with y | y
      · exact .inr (.inr y)
      · exact .inr (.inl y)
  · rcases z with z | z
    · exact hno c q z
    · exact rel_none r z q
  · rcases z with z | z
    · exact hfrom c z
    · exact .inr (t0.th c z)
theorem call_slot {vs : List V} {ds xs xs' : List D} {i : Nat} {a : Addr} (t0 : Tr K σ E0 H0 J0 σ E H J) (hi : getL E i = some xs) (hs : σ[i]? = some (some (.ref a)))
    (tc : Tr K ((V.ref a :: vs).map some) (argE (some xs) ds) H J ((V.ref a :: vs).map some) (argE (some xs') ds) H' J') (rs : ResX K ((V.ref a :: vs).map some) (argE (some xs) ds) H ((V.ref a :: vs).map some) (argE (some xs') ds) H' J' v w) :
    Tr K σ E0 H0 J0 σ (setL E i xs') H' J' ∧ ResX K σ E0 H0 σ (setL E i xs') H' J' v w := by
  have r := t0.rel
  obtain ⟨q0, q1, q2⟩ := tc.rel.val 0 (.r xs') rfl
  have eq0 : q0 = .ref a := by
    have : some (some (V.ref a)) = some (some q0) := q1
    cases this; rfl
  subst eq0
  obtain ⟨a', us, ea, ha, hj, hd⟩ := q2
  cases ea
  have key : ∀ (w1 w2 : W), E[i]? = some (some w1) → w1.live = true → w2.live = true → w2.data = .list xs' → setL E i xs' = E.set i (some w2) → ((∃ zs, w1 = .r zs) → ∃ zs, w2 = .r zs) →
      Tr K σ E0 H0 J0 σ (setL E i xs') H' J' ∧ ResX K σ E0 H0 σ (setL E i xs') H' J' v w := by
    intro w1 w2 hE l1 l2 d2 es hr
    rw [es]
    have hil : i < E.length := (List.getElem?_eq_some_iff.mp hE).1
    have oa : Own σ E a := ⟨i, _, hE, l1, hs⟩
    have back : ∀ (j : Nat) (w : W), (E.set i (some w2))[j]? = some (some w) → w.live = true → ∃ w', E[j]? = some (some w') ∧ w'.live = true := fun j w h q => by
      by_cases hj : i = j
      · subst hj; exact ⟨_, hE, l1⟩
      · rw [List.getElem?_set_ne hj] at h; exact ⟨w, h, q⟩
    have own' : ∀ c, Own σ (E.set i (some w2)) c → Own σ E c := fun c ⟨j, w, h1, h2, h3⟩ => by
      obtain ⟨w', e1, e2⟩ := back j w h1 h2
      exact ⟨j, w', e1, e2, h3⟩
    have t1 : Tr K σ E H J σ (E.set i (some w2)) H' J' := by
      refine ⟨⟨tc.rel.sub, by rw [List.length_set]; exact r.len, fun j w h => ?_, fun j k w w' c h1 l1 h2 l2 s1 s2 => ?_⟩, tc.jj, fun b o h n => tc.fr b o h fun q => n (own_argsR q ▸ oa), tc.th, fun b o h => ?_, fun c q => .inl (own' c q), fun j ys h => ⟨rfl, ?_⟩⟩
      · by_cases hj' : i = j
        · subst hj'
          rw [List.getElem?_set_self hil] at h
          cases h
          refine ⟨_, hs, ?_⟩
          cases w2 with
          | d x => cases l2
          | o zs => cases d2; exact ⟨a, us, rfl, ha, hj, hd⟩
          | r zs => cases d2; exact ⟨a, us, rfl, ha, hj, hd⟩
          | t zs => cases l2
        · rw [List.getElem?_set_ne hj'] at h
          obtain ⟨v, e1, e2⟩ := r.val j w h
          refine ⟨v, e1, e2.keep tc.jj fun c ev lw => ?_⟩
          obtain ⟨c', us', zs, e3, h4, h5, _, _⟩ := e2.own lw
          have ec : c = c' := by rw [e3] at ev; cases ev; rfl
          subst ec
          have nc : c ≠ a := fun z => hj' (r.ap i j _ w a hE l1 h lw hs (by rw [e1, ev, z]))
          have n : ¬ Own ((V.ref a :: vs).map some) (argE (some xs) ds) c := fun q => nc (own_argsR q)
          refine ⟨(tc.fr c _ h4 n).trans h4.symm, ?_⟩
          cases q : J' c with
          | none => rfl
          | some o =>
            rcases tc.nw c o q with z | z | z
            · rw [h5] at z; cases z
            · rw [h4] at z; cases z
            · exact absurd z n
      · obtain ⟨x1, y1, z1⟩ := back j w h1 l1
        obtain ⟨x2, y2, z2⟩ := back k w' h2 l2
        exact r.ap j k x1 x2 c y1 z1 y2 z2 s1 s2
      · rcases tc.nw b o h with z | z | z
        · exact .inl z
        · exact .inr (.inl z)
        · exact .inr (.inr (own_argsR z ▸ oa))
      · by_cases hj' : i = j
        · subst hj'
          rw [hE] at h
          cases h
          obtain ⟨zs, e⟩ := hr ⟨_, rfl⟩
          exact ⟨zs, by rw [List.getElem?_set_self hil, e]⟩
        · exact ⟨ys, by rw [List.getElem?_set_ne hj']; exact h⟩
    refine ⟨t0.trans t1, rs.frame (fun c n z q => ?_) fun c _ z => ?_⟩
    · have nc : c ≠ a := fun z => n (z ▸ own_argsR')
      rcases z with z | z
      · exact nc (own_argsR z)
      · exact rel_none r z (own' c q)
    · rcases z with z | z
      · rw [own_argsR z]
        exact t0.ow a oa
      · exact .inr (t0.th c z)
  unfold getL at hi
  split at hi
  · rename_i zs hE
    exact key (.o zs) (.o xs') hE rfl rfl rfl (by unfold setL; rw [hE]) fun ⟨_, z⟩ => nomatch z
  · rename_i zs hE
    exact key (.r zs) (.r xs') hE rfl rfl rfl (by unfold setL; rw [hE]) fun _ => ⟨_, rfl⟩
  · cases hi
end
/-! ### calls in the evaluator -/
variable {cs : CEs} {t : TA} {f : Nat}
/-- a call's answer as it is -/
def SCx (K : PySem.W.Frag) (F : Fn) (f : Nat) (cs : CEs) (q : List Nat) (t : TE) : Prop := ∀ (σ : St) (E : DE) (H J : Hp) (w : W) (E' : DE) (Q : V → Hp → Prop), Rel K H J σ E → evcall F f cs q E = some (w, E') →
  (∀ v H' J', Tr K σ E H J σ E' H' J' → ResX K σ E H σ E' H' J' v w → Q v H') → t σ H Q
theorem SCx.se {q : List Nat} {te : TE} (h : SCx K F f cs q te) : SE K F (.call f cs q) te := by
  intro σ E H J w E' Q r e fin
  obtain ⟨⟨ds, E1⟩, e1, f1⟩ := Option.bind_eq_some_iff.mp (show (evs F cs E).bind _ = some (w, E') from e)
  obtain ⟨ds', e2, f2⟩ := Option.bind_eq_some_iff.mp f1
  obtain ⟨⟨w1, p1⟩, e3, f3⟩ := Option.bind_eq_some_iff.mp f2
  clear f1 f2 e
  cases p1 with
  | some _ => exact nomatch (show (none : Option (W × DE)) = some (w, E') from f3)
  | none =>
    cases (show some (w1.frz, E1) = some (w, E') from f3)
    refine h σ E H J w1 E' Q r ?_ fun v H' J' t rs => let ⟨J2, t2, r2⟩ := rs.frz t; fin v H' J2 t2 r2
    show (evs F cs E).bind _ = _
    rw [e1]
    show (permD ds q).bind _ = _
    rw [e2]
    show (F f none ds').bind _ = _
    rw [e3]; rfl
theorem sc_call {q : List Nat} (ss : SA K F cs t) : SCx K F f cs q (tGp (spF K F f) q t) := by
  intro σ E H J w E' Q r e fin
  obtain ⟨⟨ds, E1⟩, e1, f1⟩ := Option.bind_eq_some_iff.mp (show (evs F cs E).bind _ = some (w, E') from e)
  obtain ⟨ds', e2, f2⟩ := Option.bind_eq_some_iff.mp f1
  obtain ⟨⟨w1, p1⟩, e3, f3⟩ := Option.bind_eq_some_iff.mp f2
  clear f1 f2 e
  cases p1 with
  | some _ => exact nomatch (show (none : Option (W × DE)) = some (w, E') from f3)
  | none =>
    cases (show some (w1, E1) = some (w, E') from f3)
    rw [permD_eq] at e2
    refine ss σ E H J ds _ _ r e1 fun vs H1 J1 t1 d1 => ?_
    obtain ⟨us, h1, h2⟩ := perm_dp d1 e2
    refine ⟨us, h1, J1, none, ds', w, none, rel_args t1.rel.sub h2, e3, fun v H2 J2 tc rs => ?_⟩
    obtain ⟨t2, r2⟩ := call_free t1 tc rs (fun a _ z => own_args z) fun a z => (own_args z).elim
    exact fin v H2 J2 t2 r2
theorem se_call {q : List Nat} (ss : SA K F cs t) : SE K F (.call f cs q) (tGp (spF K F f) q t) := (sc_call ss).se
theorem se_callrV {i : Nat} {tp : TE} (sp : SO K F (.var i) tp) (ss : SA K F cs t) : SE K F (.callr f (.var i) cs) (tG (spF K F f) (tCons tp t)) := by
  intro σ E H J w E' Q r e fin
  obtain ⟨xs0, e0, f0⟩ := Option.bind_eq_some_iff.mp (show (getL E i).bind _ = some (w, E') from e)
  obtain ⟨⟨ds, E1⟩, e1, f1⟩ := Option.bind_eq_some_iff.mp (show (evs F cs E).bind _ = some (w, E') from f0)
  obtain ⟨xs, e2, f2⟩ := Option.bind_eq_some_iff.mp f1
  obtain ⟨⟨w1, p1⟩, e3, f3⟩ := Option.bind_eq_some_iff.mp f2
  clear f0 f1 f2 e
  have live : ∀ {E : DE} {H J : Hp} {xs : List D}, Rel K H J σ E → getL E i = some xs → ∃ a us, σ[i]? = some (some (.ref a)) ∧ H a = some (.lst us) ∧ J a = none ∧ DpAll K J us xs := fun {E H J xs} ri h => by
    have key : ∀ w, E[i]? = some (some w) → w.live = true → w.data = .list xs → ∃ a us, σ[i]? = some (some (.ref a)) ∧ H a = some (.lst us) ∧ J a = none ∧ DpAll K J us xs := fun w h1 h2 h3 => by
      obtain ⟨v, q1, q2⟩ := ri.val i w h1
      obtain ⟨a, us, zs, ev, q3, q4, q5, q6⟩ := q2.own h2
      rw [h3] at q6
      cases q6
      subst ev
      exact ⟨a, us, q1, q3, q4, q5⟩
    unfold getL at h
    split at h
    · rename_i zs hz
      cases h
      exact key _ hz rfl rfl
    · rename_i zs hz
      cases h
      exact key _ hz rfl rfl
    · cases h
  cases p1 with
  | none => exact nomatch (show (none : Option (W × DE)) = some (w, E') from f3)
  | some xs' =>
    cases (show some (w1.frz, setL E1 i xs') = some (w, E') from f3)
    obtain ⟨a, us, hs, _⟩ := live r e0
    have pk : opd (.var i) (ev F (.var i) E) E = some (.list xs0, E) := by
      show (peek E i).map (fun x => (x, E)) = _
      unfold getL at e0
      unfold peek
      split at e0 <;> first | (rename_i q; cases e0; rw [q]; rfl) | cases e0
    refine sp σ E H J _ _ _ r pk fun v0 H0 J0 t00 o0 => ss σ E H0 J0 ds _ _ t00.rel e1 fun vs H1 J1 t01 d1 => ?_
    have t1 := t00.trans t01
    have o0 : σ[i]? = some (some v0) := o0
    rw [hs] at o0
    cases o0
    obtain ⟨a', us', hs', h1, h2, h3⟩ := live t1.rel e2
    rw [hs] at hs'
    cases hs'
    refine ⟨J1, some xs, ds, w1, some xs', rel_argsR t1.rel.sub d1 h1 h2 h3, e3, fun v H2 J2 tc rs => ?_⟩
    obtain ⟨t2, r2⟩ := call_slot t1 e2 hs tc rs
    obtain ⟨J3, t3, r3⟩ := r2.frz t2
    exact fin v H2 J3 t3 r3
theorem se_callr {p : CE} {tp : TE} (hp : ∀ i, p ≠ .var i) (sp : SE K F p tp) (ss : SA K F cs t) : SE K F (.callr f p cs) (tG (spF K F f) (tCons tp t)) := by
  intro σ E H J w E' Q r e fin
  have e : (ev F p E).bind (fun (w, E1) => match w with
          | .o xs => (evs F cs E1).bind fun (ds, E2) => (F f (some xs) ds).bind fun r => match r.2 with
              | some _ => some (r.1.frz, E2)
              | none => none
          | _ => none) = some (w, E') := by
    cases p with
    | var i => exact absurd rfl (hp i)
    | _ => exact e
  obtain ⟨⟨w0, E1⟩, e0, f0⟩ := Option.bind_eq_some_iff.mp e
  clear e
  dsimp only at f0
  split at f0
  · rename_i xs
    obtain ⟨⟨ds, E2⟩, e1, f1⟩ := Option.bind_eq_some_iff.mp f0
    obtain ⟨⟨w1, p1⟩, e3, f3⟩ := Option.bind_eq_some_iff.mp f1
    clear f0 f1
    cases p1 with
    | none => exact nomatch (show (none : Option (W × DE)) = some (w, E') from f3)
    | some xs' =>
      cases (show some (w1.frz, E2) = some (w, E') from f3)
      refine sp σ E H J _ E1 _ r e0 fun v0 H0 J0 t0 r0 => ss σ E1 H0 J0 ds _ _ t0.rel e1 fun vs H1 J1 t1 d1 => ?_
      have r1 := r0.step t0 t1
      obtain ⟨a, us, rfl, h1, h2, h3⟩ := r1.rw
      refine ⟨J1, some xs, ds, w1, some xs', rel_argsR t1.rel.sub d1 h1 h2 h3, e3, fun v H2 J2 tc rs => ?_⟩
      obtain ⟨t2, r2⟩ := call_free (t0.trans t1) tc rs (fun b ob z => r1.ne rfl a rfl (own_argsR z ▸ ob)) fun b z => by
        rw [own_argsR z]
        exact r1.nw rfl a rfl
      obtain ⟨J3, t3, r3⟩ := r2.frz t2
      exact fin v H2 J3 t3 r3
  · cases f0
end
/-! ### calls in the text -/
/-- what is known of a def that is called -/
structure FnC (X : Cx) (F : Fn) (k i : Nat) (x : Str) (ps : List Str) : Prop where
  ex : ∃ (f : Addr) (fd : FuncData), X.mg x = some (.ref f) ∧ PySem.W.keepIn X.K (.ref f) = true ∧ FnG X.prog X.w X.K X.mg X.base k f fd ps (spF X.K F i) ∧
    (∀ (s : Shared) (us : List Value), us.length = ps.length → BindsTo s fd ⟨us, []⟩ (ps.zip us)) ∧
    (∀ (s : Shared) (ks : List Str) (ws us : List Value), ks.Nodup → (∀ k ∈ ks, k ∈ ps) → us.length = ps.length →
      (∀ (i : Nat) (n : Str) (u : Value), ps[i]? = some n → us[i]? = some u → (ks.zip ws).lookup n = some u) → BindsTo s fd ⟨[], ks.zip ws⟩ (ps.zip us))
theorem star_cons {e : Expr} {es : List Expr} {env : Env} (h : isStar e = false) : starEach (e :: es) env = (false, eval e env) :: starEach es env := by
  cases e <;> first | rfl | cases h
theorem star_none {env : Env} {pos : Pos} : ∀ {es : List Expr}, es.any isStar = false → (backTo pos (starEach es env)).any (·.1) = false
  | [], _ => rfl
  | e :: es, h => by
    rw [List.any_cons, Bool.or_eq_false_iff] at h
    rw [star_cons h.1]
    show (false || (backTo pos (starEach es env)).any (·.1)) = false
    rw [star_none h.2]; rfl
section
variable {X : Cx} {F : Fn} {k i : Nat} {x : Str} {ps : List Str} {p pos : Pos} {args : List Expr} {kws : List Keyword} {t : TA}
theorem pe_g (C : FnC X F k i x ps) (hr : Room k X.A) (hgd : X.A.guards = some []) (hg : Gl X x) (hdb : (x == ("__debug__" : Str)) = false) (ha : PA X args t) (hst : args.any isStar = false) (hne : args ≠ []) :
    PE X (.Call (.Name x p) args [] pos) (tG (spF X.K F i) t) := by
  obtain ⟨f, fd, hm, hk, FG, hb, _⟩ := C.ex
  have fin : ∀ {pins : List (Addr × Obj)} {s : Shared} {σ : St} {H : Hp} {Q : VK} {us : List Value} {vs : List V}, Inv X pins σ H s → Vals vs us → spF X.K F i vs H Q → wpAny (model X.prog X.w) X.A (call (.ref f) us) (EP X pins σ Q) X.xe s :=
    fun {pins s σ H Q us vs} I r q => wpAny_call (run_g FG hr hgd (hb s us (by rw [← r.length]; exact FG.len _ _ _ q)) I r q)
  cases args with
  | nil => exact absurd rfl hne
  | cons e es =>
    rw [List.any_cons, Bool.or_eq_false_iff] at hst
    refine ⟨fun pins s σ H Q I h => wpAny_Call_Name_kw (ld_glob I hg hm ?_ hdb)⟩
    exact PySem.W.callWith_K (h₀ := X.base) I.ok.mod.kin hk (thn (ha.run pos pins s σ H _ I h) fun us s1 ⟨vs, H1, I1, r, q⟩ => ⟨I1.kIn, fin I1 r q⟩) (star_cons hst.1) (star_none hst.2)
theorem pe_g0 (C : FnC X F k i x ps) (hr : Room k X.A) (hgd : X.A.guards = some []) (hg : Gl X x) (hdb : (x == ("__debug__" : Str)) = false) : PE X (.Call (.Name x p) [] [] pos) (tG (spF X.K F i) tNil) := by
  obtain ⟨f, fd, hm, hk, FG, hb, _⟩ := C.ex
  refine ⟨fun pins s σ H Q I h => wpAny_Call_Name_kw (ld_glob I hg hm ?_ hdb)⟩
  have h : spF X.K F i [] H Q := h
  exact PySem.W.callWith_K0 I.kIn hk (wpAny_call (run_g FG hr hgd (hb s [] (FG.len _ _ _ h)) I .nil h))
/-! ### keywords -/
theorem kw_all {env : Env} {pos : Pos} : ∀ {kws : List Keyword} {ns : List Str}, kwNames kws = some ns →
    (backToKw pos (keywordEach kws env)).all (·.1.isSome) = true ∧ (backToKw pos (keywordEach kws env)).any (·.1.isNone) = false ∧ (backToKw pos (keywordEach kws env)).filterMap (·.1) = ns
  | [], ns, h => by cases (show some ([] : List Str) = some ns from h); exact ⟨rfl, rfl, rfl⟩
  | ⟨none, _, _⟩ :: _, ns, h => nomatch (show (none : Option (List Str)) = some ns from h)
  | ⟨some n, e, q⟩ :: r, ns, h => by
    obtain ⟨ms, h1, e1⟩ := Option.map_eq_some_iff.mp (show (kwNames r).map (n :: ·) = some ns from h)
    subst e1
    obtain ⟨a, b, c⟩ := kw_all (env := env) (pos := pos) h1
    refine ⟨?_, ?_, ?_⟩
    · show (true && (backToKw pos (keywordEach r env)).all (·.1.isSome)) = true
      rw [a]; rfl
    · show (false || (backToKw pos (keywordEach r env)).any (·.1.isNone)) = false
      rw [b]; rfl
    · show n :: (backToKw pos (keywordEach r env)).filterMap (·.1) = _
      rw [c]
theorem ixS_get : ∀ {ks : List Str} {n : Str} {j : Nat}, ixS ks n = some j → ks[j]? = some n
  | [], n, j, h => nomatch (show (none : Option Nat) = some j from h)
  | y :: r, n, j, h => by
    unfold ixS at h
    split at h
    · rename_i e
      cases h
      simp [e]
    · obtain ⟨k, h1, e⟩ := Option.map_eq_some_iff.mp h
      subst e
      simpa using ixS_get h1
theorem permOf_get {ks : List Str} : ∀ {ps : List Str} {q : List Nat}, permOf ks ps = some q → q.length = ps.length ∧ ∀ (i : Nat) (n : Str), ps[i]? = some n → ∃ j, q[i]? = some j ∧ ks[j]? = some n
  | [], q, h => by cases (show some ([] : List Nat) = some q from h); exact ⟨rfl, fun i n e => by simp at e⟩
  | p :: r, q, h => by
    unfold permOf at h
    split at h
    · rename_i k q' h1 h2
      cases h
      obtain ⟨l, g⟩ := permOf_get h2
      refine ⟨by simp [l], fun i n e => ?_⟩
      cases i with
      | zero => simp at e; subst e; exact ⟨k, rfl, ixS_get h1⟩
      | succ i => simpa using g i n (by simpa using e)
    · cases h
theorem pe_gk {ns : List Str} {q : List Nat} (C : FnC X F k i x ps) (hr : Room k X.A) (hgd : X.A.guards = some []) (hg : Gl X x) (hdb : (x == ("__debug__" : Str)) = false) (hk : PK X kws t) (hn : kwNames kws = some ns) (nd : ns.Nodup)
    (hl : ns.length = ps.length) (hq : permOf ns ps = some q) (hsub : ∀ k ∈ ns, k ∈ ps) : PE X (.Call (.Name x p) [] kws pos) (tGp (spF X.K F i) q t) := by
  obtain ⟨f, fd, hm, hkp, FG, _, hb⟩ := C.ex
  obtain ⟨a1, a2, a3⟩ := kw_all (env := X.env) (pos := pos) hn
  refine ⟨fun pins s σ H Q I h => wpAny_Call_Name_kw (ld_glob I hg hm ?_ hdb)⟩
  refine PySem.W.callWith_KW0 (h₀ := X.base) I.ok.mod.kin hkp a1 (thn (hk.run pos pins s σ H _ I h) fun ws s1 ⟨zs, H1, I1, r, es, e1, q1⟩ => ⟨I1.kIn, ?_⟩) (by rw [a2]; rfl)
  rw [a3]
  obtain ⟨us, e2, r2⟩ := perm_vals r e1
  obtain ⟨lq, gq⟩ := permOf_get hq
  obtain ⟨lu, gu⟩ := permL_get e2
  have lp : us.length = ps.length := by rw [lu, lq]
  refine wpAny_call (run_g FG hr hgd (hb s1 ns ws us nd hsub lp fun i n u h1 h2 => ?_) I1 r2 q1)
  · obtain ⟨j, h3, h4⟩ := gq i n h1
    have h5 := gu i j h3
    rw [h2] at h5
    exact lookup_zip_get nd h4 h5.symm
end
end PV
end

section
set_option Elab.async false
set_option linter.all false
set_option maxRecDepth 100000
set_option maxHeartbeats 2000000
set_option autoImplicit false
/-! PVm: readings by the evaluator; names, constants, built-ins -/
namespace PV
open PySem PySem.Spec L2
open PyProof.Rows hiding St

section
variable (K : PySem.W.Frag) (F : Fn)
def tV (c : CE) : TE := fun σ H Q => ∃ E J w E', Rel K H J σ E ∧ ev F c E = some (w, E') ∧ ∀ v H' J', Tr K σ E H J σ E' H' J' → Res K σ E H σ E' H' J' v w → Q v H'
def tO (c : CE) : TE := fun σ H Q => ∃ E J x E', Rel K H J σ E ∧ opd c (ev F c E) E = some (x, E') ∧ ∀ v H' J', Tr K σ E H J σ E' H' J' → Opr K σ E H E' H' J' v x c → Q v H'
def tT (c : CE) : TT := fun σ H Q => ∃ E J b E', Rel K H J σ E ∧ evb F c E = some (b, E') ∧ ∀ H' J', Tr K σ E H J σ E' H' J' → Q b H'
def tAs (cs : CEs) : TA := fun σ H Q => ∃ E J ds E', Rel K H J σ E ∧ evs F cs E = some (ds, E') ∧ ∀ vs H' J', Tr K σ E H J σ E' H' J' → DpAll K J' vs ds → Q vs H'
def tPt (c : CO) : TO := fun σ H Q => ∃ E J l E', Rel K H J σ E ∧ evo F c E = some (l, E') ∧ ∀ H' J', Tr K σ E H J σ E' H' J' → Q l H'
def tCo (c : CO) : TT := fun σ H Q => ∃ E J b E', Rel K H J σ E ∧ evc F c E = some (b, E') ∧ ∀ H' J', Tr K σ E H J σ E' H' J' → Q b H'
def tIt (c : CI) : TI := fun σ H R => ∃ E J xs E', Rel K H J σ E ∧ evi F c E = some (xs, E') ∧ ∀ Jt H' J', Tr K σ E H J σ E' H' J' → YOk K J' xs Jt → xs.length < sizeLine → R Jt H'
end
section
variable {K : PySem.W.Frag} {F : Fn} {X : Cx} {e : Expr} {c : CE}
theorem se_V : SE K F c (tV K F c) := fun σ E H J w E' Q r e fin => ⟨E, J, w, E', r, e, fin⟩
theorem so_O : SO K F c (tO K F c) := fun σ E H J w E' Q r e fin => ⟨E, J, w, E', r, e, fin⟩
theorem st_T : ST K F c (tT K F c) := fun σ E H J w E' Q r e fin => ⟨E, J, w, E', r, e, fin⟩
theorem sa_A {cs : CEs} : SA K F cs (tAs K F cs) := fun σ E H J w E' Q r e fin => ⟨E, J, w, E', r, e, fin⟩
theorem sp_P {c : CO} : SPt K F c (tPt K F c) := fun σ E H J w E' Q r e fin => ⟨E, J, w, E', r, e, fin⟩
theorem sc_C {c : CO} : SC K F c (tCo K F c) := fun σ E H J w E' Q r e fin => ⟨E, J, w, E', r, e, fin⟩
theorem si_I {c : CI} : SI K F c (tIt K F c) := fun σ E H J w E' Q r e fin => ⟨E, J, w, E', r, e, fin⟩
theorem _root_.L2.PE.to {t : TE} (h : PE X e t) (s : SE X.K F c t) : PE X e (tV X.K F c) := ⟨fun pins st σ H Q I ⟨E, J, w, E', r, e', fin⟩ => h.run pins st σ H Q I (s σ E H J w E' Q r e' fin)⟩
theorem _root_.L2.PE.toO {t : TE} (h : PE X e t) (s : SO X.K F c t) : PE X e (tO X.K F c) := ⟨fun pins st σ H Q I ⟨E, J, w, E', r, e', fin⟩ => h.run pins st σ H Q I (s σ E H J w E' Q r e' fin)⟩
theorem _root_.L2.PT.to {t : TT} (h : PT X e t) (s : ST X.K F c t) : PT X e (tT X.K F c) := ⟨fun pins st σ H Q I ⟨E, J, w, E', r, e', fin⟩ => h.run pins st σ H Q I (s σ E H J w E' Q r e' fin)⟩
theorem _root_.L2.PA.to {es : List Expr} {cs : CEs} {t : TA} (h : PA X es t) (s : SA X.K F cs t) : PA X es (tAs X.K F cs) := ⟨fun pos pins st σ H Q I ⟨E, J, w, E', r, e', fin⟩ => h.run pos pins st σ H Q I (s σ E H J w E' Q r e' fin)⟩
theorem _root_.L2.PK.to {es : List Keyword} {cs : CEs} {t : TA} (h : PK X es t) (s : SA X.K F cs t) : PK X es (tAs X.K F cs) := ⟨fun pos pins st σ H Q I ⟨E, J, w, E', r, e', fin⟩ => h.run pos pins st σ H Q I (s σ E H J w E' Q r e' fin)⟩
theorem _root_.L2.PO.to {o : Option Expr} {c : CO} {t : TO} (h : PO X o t) (s : SPt X.K F c t) : PO X o (tPt X.K F c) := ⟨fun pins st σ H Q I ⟨E, J, w, E', r, e', fin⟩ => h.run pins st σ H Q I (s σ E H J w E' Q r e' fin)⟩
theorem _root_.L2.PTs.to {o : List Expr} {c : CO} {t : TT} (h : PTs X o t) (s : SC X.K F c t) : PTs X o (tCo X.K F c) := ⟨fun pins st σ H Q I ⟨E, J, w, E', r, e', fin⟩ => h.run pins st σ H Q I (s σ E H J w E' Q r e' fin)⟩
theorem _root_.L2.PI.to {tg it : Expr} {c : CI} {t : TI} (h : PI X tg it t) (s : SI X.K F c t) : PI X tg it (tIt X.K F c) := ⟨fun pins st σ H Q I ⟨E, J, w, E', r, e', fin⟩ => h.run pins st σ H Q I (s σ E H J w E' Q r e' fin)⟩
theorem _root_.L2.PI.or {tg it : Expr} {t u : TI} (h : PI X tg it t) (g : PI X tg it u) : PI X tg it (fun σ H R => t σ H R ∨ u σ H R) := ⟨fun pins st σ H Q I q => by
  rcases q with q | q
  · exact h.run pins st σ H Q I q
  · exact g.run pins st σ H Q I q⟩
/-- what is shown of an expression -/
structure Gd (X : Cx) (F : Fn) (e : Expr) (c : CE) : Prop where
  v : PE X e (tV X.K F c)
  o : PE X e (tO X.K F c)
  t : tOK e = true → PT X e (tT X.K F c)
abbrev Plain (X : Cx) (e : Expr) : Prop := ∀ whole, isTrue e X.env whole = (do let v ← whole; standAt e.pos; holding [v] (truthy v))
theorem Gd.mk1 {t : TE} (hn : ∀ i, c ≠ .var i) (h : PE X e t) (s : SE X.K F c t) (ht : tOK e = true → PT X e (tT X.K F c)) : Gd X F e c := ⟨h.to s, h.toO (so_of hn s), ht⟩
theorem Gd.mk0 {t : TE} (hn : ∀ i, c ≠ .var i) (h : PE X e t) (s : SE X.K F c t) (he : Plain X e) : Gd X F e c := .mk1 hn h s fun _ => (pt_val h he).to (st_of s)
/-! ### contexts -/
structure XOk (G : Glob) (F : Fn) (k : Nat) (sc : Scope) (X : Cx) : Prop where
  N : X.N = G.N
  nd : G.N.Nodup
  vis : ∀ x, visB sc x = true → Vis X.env.scope x
  loc : ∀ x, locB sc x = true → Loc X.env.scope x ∧ (X.fn x = true ∨ X.env.scope.names.lookup x = some .local)
  glo : ∀ x, gloB sc x = true → Gl X x
  cf : ∀ x, (sc.names.lookup x = some .cell ∨ sc.names.lookup x = some .free) → (X.env.scope.names.lookup x = some .cell ∨ X.env.scope.names.lookup x = some .free)
  calm : X.calm = true
  gd : X.A.guards = some []
  room : Room k X.A
  free : ∀ x ∈ G.free, X.mg x = none
  con : ∀ x d, G.consts.lookup x = some d → ∃ u v, X.mg x = some u ∧ RelV v u ∧ ∀ J, Dp X.K J v d
  fns : ∀ i x ps b, G.fns[i]? = some (x, ps, b) → FnC X F k i x ps
variable {G : Glob} {k : Nat} {sc : Scope}
theorem XOk.nd' (ok : XOk G F k sc X) : X.N.Nodup := by rw [ok.N]; exact ok.nd
theorem slot_ok {x : Str} {i : Nat} (ok : XOk G F k sc X) (h : slotOf G sc x = some i) : X.N[i]? = some x ∧ Vis X.env.scope x ∧ (x == ("__debug__" : Str)) = false ∧ (x == ("__classdict__" : Str)) = false := by
  unfold slotOf at h
  split at h
  · rename_i hc
    simp only [okName, Bool.and_eq_true, Bool.not_eq_true'] at hc
    exact ⟨by rw [ok.N]; exact ixS_get h, ok.vis x hc.1, hc.2.1.1, hc.2.1.2⟩
  · cases h
theorem slotSt_ok {x : Str} {i : Nat} (ok : XOk G F k sc X) (h : slotSt G sc x = some i) : X.N[i]? = some x ∧ Loc X.env.scope x ∧ (X.fn x = true ∨ X.env.scope.names.lookup x = some .local) := by
  unfold slotSt at h
  split at h
  · rename_i hc
    simp only [Bool.and_eq_true] at hc
    exact ⟨by rw [ok.N]; exact ixS_get h, ok.loc x hc.1⟩
  · cases h
theorem blt_ok {x y : Str} (ok : XOk G F k sc X) (h : bltB G sc x y = true) : x = y ∧ Gl X x ∧ X.mg x = none ∧ (x == ("__debug__" : Str)) = false := by
  unfold bltB at h
  simp only [okName, Bool.and_eq_true, decide_eq_true_eq, Bool.not_eq_true'] at h
  obtain ⟨⟨⟨h1, h2⟩, h3⟩, h4⟩ := h
  exact ⟨h1, ok.glo x h2, ok.free x h4, h3.1.1⟩
theorem fnIx_get : ∀ {l : List (Str × List Str × Bool)} {x : Str} {i : Nat}, fnIx l x = some i → ∃ ps b, l[i]? = some (x, ps, b)
  | [], x, i, h => nomatch (show (none : Option Nat) = some i from h)
  | y :: r, x, i, h => by
    unfold fnIx at h
    split at h
    · rename_i e
      cases h
      obtain ⟨a, b, c⟩ := y
      exact ⟨b, c, by simp at e ⊢; exact e⟩
    · obtain ⟨j, h1, e⟩ := Option.map_eq_some_iff.mp h
      subst e
      simpa using fnIx_get h1
/-! ### names, constants -/
theorem gd_var {x : Str} {i : Nat} {pos : Pos} (ok : XOk G F k sc X) (h : slotOf G sc x = some i) : Gd X F (.Name x pos) (.var i) := by
  obtain ⟨h1, h2, h3, h4⟩ := slot_ok ok h
  have p : PE X (.Name x pos) (tVar i) := pe_var h1 h2 h3 h4
  exact ⟨p.to (se_var i), p.toO (so_var i), fun _ => (pt_val p fun _ => rfl).to (st_of (se_var i))⟩
theorem gd_glob {x : Str} {d : D} {pos : Pos} (ok : XOk G F k sc X) (hg : gloB sc x = true) (hn : okName x = true) (h : G.consts.lookup x = some d) : Gd X F (.Name x pos) (.cst d) := by
  obtain ⟨u, v, h1, h2, h3⟩ := ok.con x d h
  simp only [okName, Bool.and_eq_true, Bool.not_eq_true'] at hn
  exact .mk0 (fun _ z => nomatch z) (pe_glob (ok.glo x hg) h1 h2 hn.1.1) (se_cst h3) fun _ => rfl
/-! ### built-ins -/
theorem units_ok (ok : XOk G F k sc X) : X.A.units + 70 < cLine := by have := ok.room.un; omega
theorem blt_mem {x : Str} {n : Nat} {b : Bi} : ∀ {l : List (Str × Nat × Bi)}, bltOf x n l = some b → (x, n, b) ∈ l
  | [], h => nomatch (show (none : Option Bi) = some b from h)
  | (y, m, b') :: r, h => by
    unfold bltOf at h
    split at h
    · rename_i hc
      cases h
      obtain ⟨rfl, rfl⟩ := hc
      exact List.mem_cons_self ..
    · exact List.mem_cons_of_mem _ (blt_mem h)
theorem blt1 {x : Str} {b : Bi} (ok : XOk G F k sc X) (h : bltOf x 1 bltTab = some b) (hg : Gl X x) (hm : X.mg x = none) :
    ∃ r, Bi1 X.K b r ∧ ∀ {e : Expr} {ta : TE} {p pos : Pos}, isStar e = false → PE X e ta → PE X (.Call (.Name x p) [e] [] pos) (tCB r (tCons ta tNil)) := by
  have h := blt_mem h
  simp only [bltTab, List.mem_cons, Prod.mk.injEq, List.mem_nil_iff, or_false] at h
  rcases h with ⟨rfl, hn, rfl⟩ | ⟨rfl, hn, rfl⟩ | ⟨rfl, hn, rfl⟩ | ⟨rfl, hn, rfl⟩ | ⟨rfl, hn, rfl⟩ | ⟨rfl, hn, rfl⟩ | ⟨rfl, hn, rfl⟩ | ⟨rfl, hn, rfl⟩ | ⟨rfl, hn, rfl⟩ | ⟨rfl, hn, rfl⟩ | ⟨rfl, hn, rfl⟩ | ⟨rfl, hn, rfl⟩ | ⟨rfl, hn, rfl⟩ | ⟨rfl, hn, rfl⟩ | ⟨rfl, hn, rfl⟩ <;> first | (exact absurd hn (by decide)) | skip
  all_goals first
    | exact ⟨_, bi_len, fun hs ha => pe_callB call_len_seq hg hm boot_len (pa_cons ha pa_nil (star_cons hs)) (he := star_cons hs)⟩
    | exact ⟨_, bi_abs, fun hs ha => pe_callB call_abs hg hm boot_abs (pa_cons ha pa_nil (star_cons hs)) (he := star_cons hs)⟩
    | exact ⟨_, bi_max, fun hs ha => pe_callB (cr_max ok.calm) hg hm boot_max (pa_cons ha pa_nil (star_cons hs)) (he := star_cons hs)⟩
    | exact ⟨_, bi_min, fun hs ha => pe_callB (cr_min ok.calm) hg hm boot_min (pa_cons ha pa_nil (star_cons hs)) (he := star_cons hs)⟩
    | exact ⟨_, bi_int, fun hs ha => pe_callTy call_int1 hg hm boot_int (pa_cons ha pa_nil (star_cons hs)) (he := star_cons hs)⟩
    | exact ⟨_, bi_list, fun hs ha => pe_callTy call_list_of hg hm boot_list (pa_cons ha pa_nil (star_cons hs)) (he := star_cons hs)⟩
    | exact ⟨_, bi_tuple, fun hs ha => pe_callTy call_tuple_of hg hm boot_tuple (pa_cons ha pa_nil (star_cons hs)) (he := star_cons hs)⟩
    | exact ⟨_, bi_sorted, fun hs ha => pe_callB (cr_sortedI.or (cr_sortedD (by have := units_ok ok; omega))) hg hm boot_sorted (pa_cons ha pa_nil (star_cons hs)) (he := star_cons hs)⟩
    | exact ⟨_, bi_sum, fun hs ha => pe_callB (cr_sumB ok.calm) hg hm boot_sum (pa_cons ha pa_nil (star_cons hs)) (he := star_cons hs)⟩
    | exact ⟨_, bi_all, fun hs ha => pe_callB (cr_all ok.calm) hg hm boot_all (pa_cons ha pa_nil (star_cons hs)) (he := star_cons hs)⟩
    | exact ⟨_, bi_any, fun hs ha => pe_callB (cr_any ok.calm) hg hm boot_any (pa_cons ha pa_nil (star_cons hs)) (he := star_cons hs)⟩
    | exact ⟨_, bi_repr, fun hs ha => pe_callB (call_reprB ok.gd (units_ok ok)) hg hm boot_repr (pa_cons ha pa_nil (star_cons hs)) (he := star_cons hs)⟩
theorem blt2 {x : Str} {b : Bi} (ok : XOk G F k sc X) (h : bltOf x 2 bltTab = some b) (hg : Gl X x) (hm : X.mg x = none) :
    ∃ r, Bi2 X.K b r ∧ ∀ {e e' : Expr} {ta tb : TE} {p pos : Pos}, isStar e = false → isStar e' = false → PE X e ta → PE X e' tb → PE X (.Call (.Name x p) [e, e'] [] pos) (tCB r (tCons ta (tCons tb tNil))) := by
  have pl : ∀ {e' : Expr} {pos : Pos}, isStar e' = false → (backTo pos (starEach [e'] X.env)).any (·.1) = false := fun {e' pos} h => star_none (by rw [List.any_cons, h]; rfl)
  have h := blt_mem h
  simp only [bltTab, List.mem_cons, Prod.mk.injEq, List.mem_nil_iff, or_false] at h
  rcases h with ⟨rfl, hn, rfl⟩ | ⟨rfl, hn, rfl⟩ | ⟨rfl, hn, rfl⟩ | ⟨rfl, hn, rfl⟩ | ⟨rfl, hn, rfl⟩ | ⟨rfl, hn, rfl⟩ | ⟨rfl, hn, rfl⟩ | ⟨rfl, hn, rfl⟩ | ⟨rfl, hn, rfl⟩ | ⟨rfl, hn, rfl⟩ | ⟨rfl, hn, rfl⟩ | ⟨rfl, hn, rfl⟩ | ⟨rfl, hn, rfl⟩ | ⟨rfl, hn, rfl⟩ | ⟨rfl, hn, rfl⟩ <;> first | (exact absurd hn (by decide)) | skip
  · exact ⟨_, bi_max2, fun hs hs' ha hb => pe_callB (call_max2 ok.calm) hg hm boot_max (pa_cons ha (pa_cons hb pa_nil (star_cons hs')) (star_cons hs)) (he := star_cons hs) (hpl := pl hs')⟩
  · exact ⟨_, bi_min2, fun hs hs' ha hb => pe_callB (call_min2 ok.calm) hg hm boot_min (pa_cons ha (pa_cons hb pa_nil (star_cons hs')) (star_cons hs)) (he := star_cons hs) (hpl := pl hs')⟩
  · exact ⟨_, bi_divmod, fun hs hs' ha hb => pe_callB call_divmod hg hm boot_divmod (pa_cons ha (pa_cons hb pa_nil (star_cons hs')) (star_cons hs)) (he := star_cons hs) (hpl := pl hs')⟩
/-! ### isinstance -/
def tyN : Ty → String
  | .int => "int"
  | .bool => "bool"
  | .list => "list"
  | .tuple => "tuple"
  | .str => "str"
def tyD : D → String
  | .none => "NoneType"
  | .bool _ => "bool"
  | .int _ => "int"
  | .str _ => "str"
  | .list _ => "list"
  | .tuple _ => "tuple"
  | .dict _ => "dict"
theorem kit_tyD (K : PySem.W.Frag) (t : Ty) (d : D) (h : True) : PySem.W.kitOne K (.type (tyD d)) (.type (tyN t)) = some (tyIs t d) := by
  cases d <;> cases t <;> (dsimp only [tyD, tyN, tyIs]; exact kit_ty (by decide +kernel))
theorem kits_tyD (K : PySem.W.Frag) (d : D) (h : True) : ∀ ts : List Ty, PySem.W.kitAny K (.type (tyD d)) (ts.map fun t => Value.type (tyN t)) = some (ts.any (tyIs · d))
  | [] => kitAny_nil
  | t :: ts => kitAny_cons (kit_tyD K t d h) (fun e => by rw [kits_tyD K d h ts, List.any_cons, e, Bool.false_or]) fun e => by rw [List.any_cons, e, Bool.true_or]
theorem rd_ty {H J : Hp} {v : V} {d : D} (s : Same J H) (h : RD K H J v d) : TyX K H v (.type (tyD d)) ∧ True := by
  have h := h.dp s
  cases h with
  | non => exact ⟨.base .non, trivial⟩
  | bl b => exact ⟨.base (.bl b), trivial⟩
  | int b => exact ⟨.base (.int b), trivial⟩
  | str b => exact ⟨.base (.str b), trivial⟩
  | lst h1 h2 =>
    refine ⟨?_, trivial⟩
    rcases h1 with (h1 | ⟨o, h1⟩) | ⟨o, its, n, h1, hc, _⟩
    · exact .base (.lst h1)
    · exact .base (.frz h1)
    · exact .kList h1 hc
  | tup h1 h2 =>
    refine ⟨?_, trivial⟩
    rcases h1 with (h1 | ⟨o, h1⟩) | ⟨o, its, n, h1, hc, _⟩
    · exact .base (.tup h1)
    · exact .fTuple h1
    · exact .kTuple h1 hc
  | dct h1 h2 => exact ⟨.base (.dK h1), trivial⟩
theorem ty_ok {t : Expr} {y : Ty} (ok : XOk G F k sc X) (h : tyOf G sc t = some y) : PE X t (tC (.ty (tyN y))) ∧ isStar t = false := by
  cases t <;> first | (exact nomatch (show (none : Option Ty) = some y from h)) | skip
  rename_i x p
  unfold tyOf at h
  have key : ∀ (z : Str) (n : String), bltB G sc x z = true → z ≠ ("__name__" : Str) → bootBuiltins z = some (.type n) → PE X (.Name x p) (tC (.ty n)) := fun z n hb hz hv => by
    obtain ⟨e, h1, h2, h3⟩ := blt_ok ok hb
    subst e
    exact pe_bltn h1 h2 hv rfl hz h3
  refine ⟨?_, rfl⟩
  dsimp only at h
  split at h
  · cases h; exact key _ _ (by assumption) (by decide) boot_int
  · split at h
    · cases h; exact key _ _ (by assumption) (by decide) boot_bool
    · split at h
      · cases h; exact key _ _ (by assumption) (by decide) boot_list
      · split at h
        · cases h; exact key _ _ (by assumption) (by decide) boot_tuple
        · split at h
          · cases h; exact key _ _ (by assumption) (by decide) boot_str
          · cases h
def tTys : List Ty → TA
  | [] => tNil
  | t :: ts => tCons (tC (.ty (tyN t))) (tTys ts)
theorem tTys_run : ∀ {ts : List Ty} {σ : St} {H : Hp} {Q : List V → Hp → Prop}, Q (ts.map fun t => V.ty (tyN t)) H → tTys ts σ H Q
  | [], σ, H, Q, h => h
  | t :: ts, σ, H, Q, h => tTys_run (ts := ts) h
theorem tys_ok (ok : XOk G F k sc X) : ∀ {ts : List Expr} {l : List Ty}, ts.mapM (tyOf G sc) = some l → PA X ts (tTys l)
  | [], l, h => by
    cases (show some ([] : List Ty) = some l from h)
    exact pa_nil
  | t :: ts, l, h => by
    rw [List.mapM_cons] at h
    obtain ⟨y, h1, h⟩ := Option.bind_eq_some_iff.mp h
    obtain ⟨ys, h2, h⟩ := Option.bind_eq_some_iff.mp h
    cases (show some (y :: ys) = some l from h)
    obtain ⟨a, b⟩ := ty_ok ok h1
    exact pa_cons a (tys_ok ok h2) (star_cons b)
theorem clsV_tys : ∀ ts : List Ty, Paired ClsV (ts.map fun t => V.ty (tyN t)) (ts.map fun t => Value.type (tyN t))
  | [] => .nil
  | t :: ts => .cons (.ty _) (clsV_tys ts)
theorem se_isi1 {a : CE} {ta : TE} {y : Ty} (sa : SO K F a ta) : SE K F (.isi [y] a) (tCB (rIsi K) (tCons ta (tCons (tC (.ty (tyN y))) tNil))) := by
  intro σ E H J w E' Q r e fin
  obtain ⟨⟨x, E1⟩, e1, e2⟩ := Option.map_eq_some_iff.mp (show (opd a (ev F a E) E).map _ = some (w, E') from e)
  cases e2
  refine sa σ E H J x _ _ r e1 fun v H1 J1 t1 o1 => ?_
  obtain ⟨h1, h2⟩ := rd_ty t1.rel.sub (o1.rd t1 (.refl t1.rel) (rep_self e1))
  refine ⟨v, .ty (tyN y), _, _, _, rfl, .ty _, h1, kit_tyD K y x h2, fin _ _ _ t1 ?_⟩
  rw [show ([y].any (tyIs · x)) = tyIs y x by simp]
  exact res_d (.bl _)
theorem se_isiT {a : CE} {ta : TE} {ys : List Ty} (hl : ys.length ≤ sizeLine) (sa : SO K F a ta) : SE K F (.isi ys a) (tCB (rIsiT K) (tCons ta (tCons (tTup (tTys ys)) tNil))) := by
  intro σ E H J w E' Q r e fin
  obtain ⟨⟨x, E1⟩, e1, e2⟩ := Option.map_eq_some_iff.mp (show (opd a (ev F a E) E).map _ = some (w, E') from e)
  cases e2
  refine sa σ E H J x _ _ r e1 fun v H1 J1 t1 o1 => tTys_run ⟨by rw [List.length_map]; exact hl, fun p hp => ?_⟩
  have t2 := Tr.own (K := K) (o := .tup (ys.map fun t => V.ty (tyN t))) t1.rel hp
  obtain ⟨h1, h2⟩ := rd_ty t2.rel.sub (o1.rd t1 t2 (rep_self e1))
  exact ⟨v, p, _, _, _, _, rfl, upd_same, clsV_tys ys, h1, kits_tyD K x h2 ys, fin _ _ _ (t1.trans t2) (res_d (.bl _))⟩
/-! ### xs.index(y) -/
theorem se_index {a b : CE} {ta tb : TE} (sa : SO K F a ta) (sb : SO K F b tb) : SE K F (.mth .index a b) (tBM K "list" (rIndex K) ta (tCons tb tNil)) := by
  intro σ E H J w E' Q r e fin
  obtain ⟨⟨x, E1⟩, e1, f1⟩ := Option.bind_eq_some_iff.mp (show (opd a (ev F a E) E).bind _ = some (w, E') from e)
  obtain ⟨xs0, e0, f0⟩ := Option.bind_eq_some_iff.mp f1
  obtain ⟨⟨y, E2⟩, e2, f2⟩ := Option.bind_eq_some_iff.mp f0
  obtain ⟨x', e3, f3⟩ := Option.bind_eq_some_iff.mp f2
  obtain ⟨z, e4, f4⟩ := Option.map_eq_some_iff.mp f3
  cases f4
  clear f0 f1 f2 f3 e
  cases x' with
  | list xs =>
    have e4 : (if isFlat y && xs.all isFlat then (xs.findIdx? fun q => PyData.eqv q y).map fun (k : Nat) => PyData.int k else none) = some z := e4
    split at e4
    · rename_i hf
      rw [Bool.and_eq_true] at hf
      obtain ⟨j, hj, ez⟩ := Option.map_eq_some_iff.mp e4
      subst ez
      refine sa σ E H J x E1 _ r e1 fun v H1 J1 t1 o1 => ⟨?_, sb σ E1 H1 J1 y _ _ t1.rel e2 fun u H2 J2 t2 o2 => ?_⟩
      · cases x with
        | list zs =>
          obtain ⟨p, vs, rfl, hq, _⟩ := (o1.rd t1 (.refl t1.rel) (rep_self e1)).list t1.rel.sub
          exact .inl ⟨rfl, _, hq⟩
        | _ => exact nomatch (show (none : Option (List D)) = some xs0 from e0)
      · obtain ⟨p, vs, rfl, hq, hd⟩ := (o1.rd t1 t2 e3).list t2.rel.sub
        have du := (o2.rd t2 (.refl t2.rel) (rep_self e2)).dp t2.rel.sub
        have hd := dps_mono t2.rel.sub _ _ hd
        rw [List.findIdx?_eq_some_iff_getElem] at hj
        obtain ⟨hl, h1, h2⟩ := hj
        obtain ⟨q, hq1, dq⟩ := dps_get hd (List.getElem?_eq_getElem hl)
        have fl : ∀ (m : Nat) (hm : m < xs.length), isFlat xs[m] = true := fun m hm => List.all_eq_true.mp hf.2 _ (List.getElem_mem hm)
        refine ⟨p, vs, u, j, q, rfl, rfl, hq, flat_dp du hf.1, flats_dp hd hf.2, hq1, (eq_dp dq du (fl j hl) hf.1).trans h1, fun m z' hm hz => ?_, fin _ _ _ (t1.trans t2) (res_d (.int _))⟩
        have hml : m < xs.length := Nat.lt_trans hm hl
        obtain ⟨q', hq', dq'⟩ := dps_get hd (List.getElem?_eq_getElem hml)
        rw [hz] at hq'
        cases hq'
        rw [eq_dp dq' du (fl m hml) hf.1]
        simpa using h2 m hm
    · cases e4
  | _ => exact nomatch (show (none : Option D) = some z from e4)
end
end PV
end

section
set_option Elab.async false
set_option linter.all false
set_option maxRecDepth 100000
set_option maxHeartbeats 4000000
set_option autoImplicit false
/-! PVn: every expression that is turned does what the evaluator says -/
namespace PV
open PySem PySem.Spec L2
open PyProof.Rows hiding St

section
variable {G : Glob} {F : Fn} {k : Nat} {sc : Scope} {X : Cx}
/-! ### a comprehension's block -/
theorem relS_free {sc : Scope} : ∀ {names : List (Str × NameKind)} {x : Str}, names.lookup x = some .free →
    (names.map fun (n, k) => if (k == NameKind.free && sc.kind == .function && sc.names.lookup n == some .cell) then (n, NameKind.cell) else (n, k)).lookup x = some .free ∨
    (names.map fun (n, k) => if (k == NameKind.free && sc.kind == .function && sc.names.lookup n == some .cell) then (n, NameKind.cell) else (n, k)).lookup x = some .cell
  | [], _, h => by simp at h
  | (n, k₀) :: r, x, h => by
    have ih := @relS_free sc r x
    show List.lookup x ((if (k₀ == NameKind.free && sc.kind == .function && sc.names.lookup n == some .cell) = true then (n, NameKind.cell) else (n, k₀)) :: (r.map _)) = _ ∨ List.lookup x ((if (k₀ == NameKind.free && sc.kind == .function && sc.names.lookup n == some .cell) = true then (n, NameKind.cell) else (n, k₀)) :: (r.map _)) = _
    cases hx : x == n with
    | true =>
      simp only [List.lookup_cons, hx] at h
      cases h
      by_cases hc : (NameKind.free == NameKind.free && sc.kind == .function && sc.names.lookup n == some .cell) = true
      · rw [if_pos hc]; simp only [List.lookup_cons, hx]; exact .inr trivial
      · rw [if_neg hc]; simp only [List.lookup_cons, hx]; exact .inl trivial
    | false =>
      simp only [List.lookup_cons, hx] at h
      by_cases hc : (k₀ == NameKind.free && sc.kind == .function && sc.names.lookup n == some .cell) = true
      · rw [if_pos hc]; simp only [List.lookup_cons, hx]; exact ih h
      · rw [if_neg hc]; simp only [List.lookup_cons, hx]; exact ih h
theorem lookB {sc : Scope} {x : Str} : (visB sc x = true → sc.names.lookup x = some .local ∨ sc.names.lookup x = some .cell ∨ sc.names.lookup x = some .free) ∧ (locB sc x = true → sc.names.lookup x = some .local ∨ sc.names.lookup x = some .cell) ∧ (gloB sc x = true → sc.names.lookup x = some .globalImplicit) := by
  refine ⟨fun h => ?_, fun h => ?_, fun h => ?_⟩
  · unfold visB at h
    split at h <;> first | exact .inl (by assumption) | exact .inr (.inl (by assumption)) | exact .inr (.inr (by assumption)) | cases h
  · unfold locB at h
    split at h <;> first | exact .inl (by assumption) | exact .inr (by assumption) | cases h
  · unfold gloB at h
    split at h <;> first | assumption | cases h
theorem blk_ok (ok : XOk G F k sc X) (scope : Scope) (s : Shared) (H : Hp) (C : Addr) (cl : List (Str × Addr)) (fp : List Addr) : XOk G F k scope (X.blk s H scope (compEnvC scope cl C X.env) fp) := by
  have keep : ∀ {x : Str} {kd : NameKind}, kd ≠ .free → scope.names.lookup x = some kd → (relS scope X.env.scope).names.lookup x = some kd := fun h e => lookup_relS_keep h e
  have fr : ∀ {x : Str}, scope.names.lookup x = some .free → (relS scope X.env.scope).names.lookup x = some .free ∨ (relS scope X.env.scope).names.lookup x = some .cell := fun e => relS_free e
  refine ⟨ok.N, ok.nd, fun x h => ?_, fun x h => ?_, fun x h => ?_, fun x h => ?_, ok.calm, ok.gd, ok.room, ok.free, ok.con, fun i x ps b h => ⟨(ok.fns i x ps b h).ex⟩⟩
  · show Vis (relS scope X.env.scope) x
    rcases lookB.1 h with e | e | e
    · exact .inl (keep (by decide) e)
    · exact .inr (.inl (keep (by decide) e))
    · rcases fr e with q | q
      · exact .inr (.inr q)
      · exact .inr (.inl q)
  · show Loc (relS scope X.env.scope) x ∧ ((scope.names.lookup x == some .cell) = true ∨ (relS scope X.env.scope).names.lookup x = some .local)
    rcases lookB.2.1 h with e | e
    · exact ⟨.inl (keep (by decide) e), .inr (keep (by decide) e)⟩
    · exact ⟨.inr (keep (by decide) e), .inl (by rw [e]; rfl)⟩
  · exact keep (by decide) (lookB.2.2 h)
  · show (relS scope X.env.scope).names.lookup x = some .cell ∨ (relS scope X.env.scope).names.lookup x = some .free
    rcases h with e | e
    · exact .inl (keep (by decide) e)
    · exact (fr e).symm
theorem blkOk_of (ok : XOk G F k sc X) {scope : Scope} {own : List (Str × Nat)} (h : blkC G.N sc scope own = true) : BlkOk X.N X.env.scope scope own := by
  obtain ⟨h1, h2, h3, h4, h5⟩ := blkOk_by h
  rw [ok.N]
  exact ⟨h1, h2, h3, fun y hy e => ok.cf _ (h4 y hy e), h5⟩
/-! ### rows -/
theorem pa_of : ∀ {es : List Expr} {cs : CEs}, (∀ e ∈ es, ∀ c, cE G sc e = some c → Gd X F e c) → es.any isStar = false → allS (cL G sc es) = some cs → PA X es (tAs X.K F cs)
  | [], cs, _, _, h => by
    rw [cL] at h
    cases (show some CEs.nil = some cs from h)
    exact pa_nil.to sa_nil
  | e :: es, cs, hg, hs, h => by
    rw [List.any_cons, Bool.or_eq_false_iff] at hs
    rw [cL] at h
    cases hc : cE G sc e with
    | none => rw [hc] at h; exact nomatch (show (none : Option CEs) = some cs from h)
    | some c =>
      rw [hc] at h
      obtain ⟨cs', h1, h2⟩ := Option.map_eq_some_iff.mp (show (allS (cL G sc es)).map (.cons c) = some cs from h)
      subst h2
      exact (pa_cons (hg e (List.mem_cons_self ..) c hc).v (pa_of (fun e' he' => hg e' (List.mem_cons_of_mem _ he')) hs.2 h1) (star_cons hs.1)).to (sa_cons se_V sa_A)
theorem pk_of : ∀ {es : List Keyword} {cs : CEs}, (∀ e ∈ es, ∀ c, cE G sc e.value = some c → Gd X F e.value c) → allS (cK G sc es) = some cs → PK X es (tAs X.K F cs)
  | [], cs, _, h => by
    rw [cK] at h
    cases (show some CEs.nil = some cs from h)
    exact pk_nil.to sa_nil
  | ⟨n, e, q⟩ :: es, cs, hg, h => by
    rw [cK] at h
    cases hc : cE G sc e with
    | none => rw [hc] at h; exact nomatch (show (none : Option CEs) = some cs from h)
    | some c =>
      rw [hc] at h
      obtain ⟨cs', h1, h2⟩ := Option.map_eq_some_iff.mp (show (allS (cK G sc es)).map (.cons c) = some cs from h)
      subst h2
      exact (pk_cons (hg ⟨n, e, q⟩ (List.mem_cons_self ..) c hc).v (pk_of (fun e' he' => hg e' (List.mem_cons_of_mem _ he')) h1)).to (sa_cons se_V sa_A)
/-! ### targets -/
theorem cT_ok (ok : XOk G F k sc X) : ∀ (n : Nat), (∀ (e : Expr) (t : CT), sizeOf e < n → cT G sc e = some t → ∃ g, PG X e g ∧ SG X.K t g ∧ ∀ es, assignEach (e :: es) X.env = (false, assign e X.env) :: assignEach es X.env) ∧
    (∀ (es : List Expr) (t : CTs), sizeOf es < n → cTs G sc es = some t → ∃ g, PGs X es g ∧ SGs X.K t g ∧ (assignEach es X.env).findIdx? (·.1) = none ∧ (assignEach es X.env).length = es.length)
  | 0 => ⟨fun e t h => absurd h (Nat.not_lt_zero _), fun e t h => absurd h (Nat.not_lt_zero _)⟩
  | n + 1 => by
    obtain ⟨i1, i2⟩ := cT_ok ok n
    refine ⟨fun e t hn h => ?_, fun es t hn h => ?_⟩
    · cases e <;> first | (exact nomatch (show (none : Option CT) = some t from h)) | skip
      · rename_i x p
        rw [cT] at h
        obtain ⟨i, h1, e⟩ := Option.map_eq_some_iff.mp h
        subst e
        obtain ⟨a, b, c⟩ := slotSt_ok ok h1
        exact ⟨_, pg_name ok.nd' a b c, sg_v i, fun es => rfl⟩
      · rename_i ts kk p
        rw [cT] at h
        obtain ⟨tt, h1, e⟩ := Option.map_eq_some_iff.mp h
        subst e
        obtain ⟨g, h2, h3, h4, h5⟩ := i2 ts tt (by simp only [Expr.Tuple.sizeOf_spec] at hn; omega) h1
        exact ⟨_, pg_tup (n := ts.length) ok.calm h2 h5 h4, sg_t h1 h3, fun es => rfl⟩
    · cases es with
      | nil =>
        rw [cTs] at h
        cases h
        exact ⟨_, pgs_nil, sgs_nil, rfl, rfl⟩
      | cons e es =>
        rw [cTs] at h
        split at h
        · rename_i a b h1 h2
          cases h
          have hs : sizeOf (e :: es) = 1 + sizeOf e + sizeOf es := rfl
          obtain ⟨g1, p1, q1, r1⟩ := i1 e a (by omega) h1
          obtain ⟨g2, p2, q2, r2, r3⟩ := i2 es b (by omega) h2
          refine ⟨_, pgs_cons p1 p2 (by rw [r1]; rfl), sgs_cons q1 q2, ?_, ?_⟩
          · rw [r1, List.findIdx?_cons]
            simp [r2]
          · rw [r1]; simp [r3]
        · cases h
theorem tg_ok (ok : XOk G F k sc X) {e : Expr} {t : CT} (h : cT G sc e = some t) : ∃ g, PG X e g ∧ SG X.K t g :=
  let ⟨g, a, b, _⟩ := (cT_ok ok (sizeOf e + 1)).1 e t (Nat.lt_succ_self _) h
  ⟨g, a, b⟩
end
end PV
end

section
set_option Elab.async false
set_option linter.all false
set_option maxRecDepth 100000
set_option maxHeartbeats 4000000
set_option autoImplicit false
/-! PVo: the induction over expressions -/
namespace PV
open PySem PySem.Spec L2
open PyProof.Rows hiding St

section
variable {G : Glob} {F : Fn} {k : Nat} {sc : Scope} {X : Cx}
def GdN (G : Glob) (F : Fn) (k : Nat) (n : Nat) : Prop := ∀ (e : Expr), sizeOf e < n → ∀ (sc : Scope) (X : Cx) (c : CE), XOk G F k sc X → cE G sc e = some c → Gd X F e c
theorem gd_unary {n : Nat} {op : UnaryOp} {a : Expr} {pos : Pos} {c : CE} (ih : GdN G F k n) (hn : sizeOf a < n) (ok : XOk G F k sc X) (h : cE G sc (.UnaryOp op a pos) = some c) : Gd X F (.UnaryOp op a pos) c := by
  unfold cE at h
  split at h
  · rename_i x hx
    cases h
    have ha := ih a hn sc X x ok hx
    exact .mk0 (fun _ z => nomatch z) (pe_un un_neg ha.v) (se_neg se_V) fun _ => rfl
  · rename_i x hx
    cases h
    have ha := ih a hn sc X x ok hx
    exact .mk1 (fun _ z => nomatch z) (pe_not ha.v) (se_not se_V) fun ht => (pt_not (ha.t ht)).to (st_not st_T)
  · cases h
theorem bop_mul {o : Operator} (h : bop o = some .mul) : o = .Mult := by
  cases o <;> simp [bop] at h ⊢
theorem gd_bin {n : Nat} {op : Operator} {a b : Expr} {pos : Pos} {c : CE} (ih : GdN G F k n) (hn : sizeOf a < n) (hn2 : sizeOf b < n) (ok : XOk G F k sc X) (h : cE G sc (.BinOp a op b pos) = some c) : Gd X F (.BinOp a op b pos) c := by
  unfold cE at h
  split at h
  · rename_i o x y ho hx hy
    have ha := ih a hn sc X x ok hx
    have hb := ih b hn2 sc X y ok hy
    have h := Option.some.inj h
    split at h
    · subst h
      cases bop_mul ho
      exact .mk0 (fun _ z => nomatch z) (pe_op op_rep ha.v hb.v) (se_rpt se_V se_V) fun _ => rfl
    · subst h
      obtain ⟨r, hr, hs⟩ := se_bin (F := F) (X := X) ho (so_O (K := X.K) (F := F) (c := x)) (so_O (K := X.K) (F := F) (c := y))
      exact .mk0 (fun _ z => nomatch z) (pe_op hr ha.o hb.o) hs fun _ => rfl
  · cases h
theorem mark_ok {op : CmpOp} {b : Expr} (h : (match b with | .Set .. => true | _ => false) = false) : behindInMarks op b = false := by
  cases b <;> first | rfl | cases h
theorem gd_cmp {n : Nat} {ops : List CmpOp} {a : Expr} {bs : List Expr} {pos : Pos} {c : CE} (ih : GdN G F k n) (hn : sizeOf a < n) (hn2 : ∀ e ∈ bs, sizeOf e < n) (ok : XOk G F k sc X) (h : cE G sc (.Compare a ops bs pos) = some c) : Gd X F (.Compare a ops bs pos) c := by
  have hu := ok.room.units
  unfold cE at h
  split at h
  · rename_i o x y hm hx hy
    obtain ⟨p, hp, e⟩ := Option.map_eq_some_iff.mp h
    subst e
    cases bs with
    | nil => rw [cL] at hy; cases hy
    | cons b bs =>
      rw [cL] at hy
      cases bs with
      | cons b' bs => rw [cL] at hy; exact nomatch (List.cons.inj hy).2
      | nil =>
        rw [cL] at hy
        have hy : cE G sc b = some y := by injection hy
        have ha := ih a hn sc X x ok hx
        have hb := ih b (hn2 b (List.mem_cons_self ..)) sc X y ok hy
        rw [List.any_cons, Bool.or_eq_false_iff] at hm
        obtain ⟨r, hr, hs⟩ := se_cmp (F := F) (X := X) hu hp (so_O (K := X.K) (F := F) (c := x)) (so_O (K := X.K) (F := F) (c := y))
        exact .mk1 (fun _ z => nomatch z) (pe_cmpR hr ha.o hb.o (mark_ok hm.1)) hs fun _ => (pt_cmpR hr ha.o hb.o (mark_ok hm.1)).to (st_of hs)
  · rename_i o o2 x y z hm hx hy
    split at h
    · rename_i p q hp hq
      cases h
      cases bs with
      | nil => rw [cL] at hy; cases hy
      | cons b bs =>
        rw [cL] at hy
        cases bs with
        | nil => rw [cL] at hy; exact nomatch (List.cons.inj hy).2
        | cons b' bs =>
          rw [cL] at hy
          cases bs with
          | cons b'' bs => rw [cL] at hy; exact nomatch (List.cons.inj (List.cons.inj hy).2).2
          | nil =>
            rw [cL] at hy
            injection hy with hy hy2
            injection hy2 with hy2 _
            have ha := ih a hn sc X x ok hx
            have hb := ih b (hn2 b (List.mem_cons_self ..)) sc X y ok hy
            have hb' := ih b' (hn2 b' (List.mem_cons_of_mem _ (List.mem_cons_self ..))) sc X z ok hy2
            simp only [List.any_cons, List.any_nil, Bool.or_false, Bool.or_eq_false_iff] at hm
            obtain ⟨r, r', hr, hr', hs⟩ := se_chn (F := F) (X := X) hu hp hq (so_O (K := X.K) (F := F) (c := x)) (so_O (K := X.K) (F := F) (c := y)) (so_O (K := X.K) (F := F) (c := z))
            have hl : lastMarks [o, o2] [b, b'] = false := mark_ok hm.2
            exact .mk1 (fun _ z => nomatch z) (pe_chain hr hr' ha.o hb.o hb'.o hl) hs fun _ => (pt_chain hr hr' ha.o hb.o hb'.o hl).to (st_of hs)
    · cases h
  · cases h
theorem _root_.L2.PW.to {e : Expr} {c : CE} {t : TT} (h : PW X e t) (s : ST X.K F c t) : PW X e (tT X.K F c) := ⟨fun wh pins st σ H Q I ⟨E, J, w, E', r, e', fin⟩ => h.run wh pins st σ H Q I (s σ E H J w E' Q r e' fin)⟩
theorem gd_bool {pos : Pos} : ∀ {op : BoolOp} {es : List Expr} {c : CE}, (∀ e ∈ es, ∀ c, cE G sc e = some c → Gd X F e c) → cB G sc op es = some c →
    PE X (.BoolOp op es pos) (tV X.K F c) ∧ PE X (.BoolOp op es pos) (tO X.K F c) ∧ (tOKs es = true → PW X (.BoolOp op es pos) (tT X.K F c))
  | op, [], c, _, h => by
    rw [cB] at h
    cases h
  | op, [e], c, hg, h => by
    rw [cB] at h
    have he := hg e (List.mem_cons_self ..) c h
    refine ⟨pe_one he.v, pe_one he.o, fun ht => ?_⟩
    have ht : tOK e = true := by
      rw [tOKs, Bool.and_eq_true] at ht
      exact ht.1
    cases op with
    | And => exact pw_and1 (he.t ht)
    | Or => exact pw_or1 (he.t ht)
  | op, e :: f :: r, c, hg, h => by
    rw [cB] at h
    split at h
    · rename_i x y hx hy
      have he := hg e (List.mem_cons_self ..) x hx
      obtain ⟨h1, h2, h3⟩ := gd_bool (op := op) (fun e' he' => hg e' (List.mem_cons_of_mem _ he')) hy
      have tt : tOKs (e :: f :: r) = true → tOK e = true ∧ tOKs (f :: r) = true := fun ht => by
        rw [tOKs, Bool.and_eq_true] at ht
        exact ht
      cases op with
      | And =>
        cases h
        exact ⟨(pe_and he.v h1).to (se_and se_V se_V), (pe_and he.v h1).toO (so_of (fun _ z => nomatch z) (se_and se_V se_V)), fun ht => (pw_and (he.t (tt ht).1) (h3 (tt ht).2)).to (st_and st_T st_T)⟩
      | Or =>
        cases h
        exact ⟨(pe_or he.v h1).to (se_or se_V se_V), (pe_or he.v h1).toO (so_of (fun _ z => nomatch z) (se_or se_V se_V)), fun ht => (pw_or (he.t (tt ht).1) (h3 (tt ht).2)).to (st_or st_T st_T)⟩
    · cases h
theorem gd_ite {n : Nat} {t a b : Expr} {pos : Pos} {c : CE} (ih : GdN G F k n) (hn : sizeOf t < n) (hn1 : sizeOf a < n) (hn2 : sizeOf b < n) (ok : XOk G F k sc X) (h : cE G sc (.IfExp t a b pos) = some c) : Gd X F (.IfExp t a b pos) c := by
  unfold cE at h
  split at h
  · rename_i ht
    split at h
    · rename_i x y z hx hy hz
      cases h
      have h1 := ih t hn sc X x ok hx
      have h2 := ih a hn1 sc X y ok hy
      have h3 := ih b hn2 sc X z ok hz
      exact .mk1 (fun _ z => nomatch z) (pe_ifExp (h1.t ht) h2.v h3.v) (se_ite st_T se_V se_V) fun z => nomatch z
    · cases h
  · cases h
theorem po_of {n : Nat} {o : Option Expr} {c : CO} (ih : GdN G F k n) (hn : ∀ e, o = some e → sizeOf e < n) (ok : XOk G F k sc X) (h : cO G sc o = some c) : PO X o (tPt X.K F c) := by
  cases o with
  | none =>
    rw [cO] at h
    cases h
    exact po_none.to sp_no
  | some e =>
    rw [cO] at h
    obtain ⟨x, h1, e1⟩ := Option.map_eq_some_iff.mp h
    subst e1
    exact (po_some (ih e (hn e rfl) sc X x ok h1).v).to (sp_yes se_V)
theorem gd_sub {n : Nat} {a s : Expr} {pos : Pos} {c : CE} (ih : GdN G F k n) (hn : sizeOf a < n) (hn2 : sizeOf s ≤ n) (hn3 : sizeOf s < n) (ok : XOk G F k sc X) (h : cE G sc (.Subscript a s pos) = some c) : Gd X F (.Subscript a s pos) c := by
  unfold cE at h
  split at h
  · rename_i lo hi p
    split at h
    · rename_i x l u hx hl hu
      cases h
      simp only [Expr.Slice.sizeOf_spec] at hn3
      have h1 := ih a hn sc X x ok hx
      obtain ⟨r, hr, hs⟩ := se_slc (X := X) (F := F)
      refine .mk0 (fun _ z => nomatch z) (pe_slice hr h1.o (po_of ih (fun e q => ?_) ok hl) (po_of ih (fun e q => ?_) ok hu)) (hs so_O sp_P sp_P) fun _ => rfl
      · subst q
        simp only [Option.some.sizeOf_spec] at hn3
        omega
      · subst q
        simp only [Option.some.sizeOf_spec] at hn3
        omega
    · cases h
  · obtain ⟨x, hx, e⟩ := Option.map_eq_some_iff.mp h
    subst e
    have h1 := ih a hn sc X x ok hx
    exact .mk0 (fun _ z => nomatch z) (pe_revL h1.o) (se_rev so_O) fun _ => rfl
  · cases h
  · rename_i n0 n1 n2
    split at h
    · rename_i x y hx hy
      cases h
      have h1 := ih a hn sc X x ok hx
      have h2 := ih s hn3 sc X y ok hy
      obtain ⟨r, hr, hs⟩ := se_idx (X := X) (F := F)
      refine .mk0 (fun _ z => nomatch z) (pe_ix hr h1.o h2.o fun o i => ?_) (hs so_O so_O) fun _ => rfl
      cases s <;> first | rfl | skip
      rename_i lo hi st p
      exact absurd rfl (n2 lo hi st p)
    · cases h
theorem gd_const {cst : Const} {kk : Nat} {pos : Pos} {c : CE} (h : cE G sc (.Constant cst kk pos) = some c) : Gd X F (.Constant cst kk pos) c := by
  unfold cE at h
  split at h
  · cases h; exact .mk0 (fun _ z => nomatch z) pe_int (se_cst fun _ => .int _) fun _ => rfl
  · cases h; exact .mk0 (fun _ z => nomatch z) pe_bl (se_cst fun _ => .bl _) fun _ => rfl
  · cases h; exact .mk0 (fun _ z => nomatch z) pe_non (se_cst fun _ => .non) fun _ => rfl
  · cases h; exact .mk0 (fun _ z => nomatch z) pe_str (se_cst fun _ => .str _) fun _ => rfl
  · cases h
theorem gd_name {x : Str} {pos : Pos} {c : CE} (ok : XOk G F k sc X) (h : cE G sc (.Name x pos) = some c) : Gd X F (.Name x pos) c := by
  unfold cE at h
  split at h
  · rename_i i hi
    cases h
    exact gd_var ok hi
  · split at h
    · rename_i hc
      rw [Bool.and_eq_true] at hc
      obtain ⟨d, h1, e⟩ := Option.map_eq_some_iff.mp h
      subst e
      exact gd_glob ok hc.1 hc.2 h1
    · cases h
theorem gd_tup {es : List Expr} {kk : Nat} {pos : Pos} {c : CE} (hg : ∀ e ∈ es, ∀ c, cE G sc e = some c → Gd X F e c) (h : cE G sc (.Tuple es kk pos) = some c) : Gd X F (.Tuple es kk pos) c := by
  unfold cE at h
  split at h
  · cases h
  · rename_i hs
    obtain ⟨cs, h1, e⟩ := Option.map_eq_some_iff.mp h
    subst e
    exact .mk0 (fun _ z => nomatch z) (pe_tup (pa_of hg (by simpa using hs) h1)) (se_tup sa_A) fun _ => rfl
theorem gd_dict {ks : List (Option Expr)} {vs : List Expr} {pos : Pos} {c : CE} (h : cE G sc (.Dict ks vs pos) = some c) : Gd X F (.Dict ks vs pos) c := by
  unfold cE at h
  split at h
  · cases h
    exact .mk0 (fun _ z => nomatch z) pe_dnewK se_dct0 fun _ => rfl
  · cases h
theorem gd_lst {es : List Expr} {pos : Pos} {c : CE} (hg : ∀ e ∈ es, ∀ c, cE G sc e = some c → Gd X F e c) (h : cE G sc (.List es pos) = some c) : Gd X F (.List es pos) c := by
  unfold cE at h
  split at h
  · cases h
  · rename_i hs
    obtain ⟨cs, h1, e⟩ := Option.map_eq_some_iff.mp h
    subst e
    exact .mk0 (fun _ z => nomatch z) (pe_lst (pa_of hg (by simpa using hs) h1)) (se_lst sa_A) fun _ => rfl
end
end PV
end

section
set_option Elab.async false
set_option linter.all false
set_option maxRecDepth 100000
set_option maxHeartbeats 4000000
set_option autoImplicit false
/-! PVp: calls and comprehensions in the text; the induction's end -/
namespace PV
open PySem PySem.Spec L2
open PyProof.Rows hiding St

def lenC : CEs → Nat
  | .nil => 0
  | .cons _ r => lenC r + 1
theorem evs_len {F : Fn} : ∀ {cs : CEs} {E E' : DE} {ds : List D}, evs F cs E = some (ds, E') → ds.length = lenC cs
  | .nil, E, E', ds, h => by cases (show some (([] : List D), E) = some (ds, E') from h); rfl
  | .cons a r, E, E', ds, h => by
    obtain ⟨⟨w, E1⟩, e1, f1⟩ := Option.bind_eq_some_iff.mp (show (ev F a E).bind _ = some (ds, E') from h)
    obtain ⟨⟨ds', E2⟩, e2, f2⟩ := Option.map_eq_some_iff.mp f1
    cases f2
    simp [lenC, evs_len e2]
theorem allS_len : ∀ {l : List (Option CE)} {cs : CEs}, allS l = some cs → lenC cs = l.length
  | [], cs, h => by cases (show some CEs.nil = some cs from h); rfl
  | some c :: r, cs, h => by
    obtain ⟨cs', h1, h2⟩ := Option.map_eq_some_iff.mp (show (allS r).map (.cons c) = some cs from h)
    subst h2
    simp [lenC, allS_len h1]
  | none :: r, cs, h => nomatch (show (none : Option CEs) = some cs from h)
theorem cL_len {G : Glob} {sc : Scope} : ∀ es : List Expr, (cL G sc es).length = es.length
  | [] => by rw [cL]; rfl
  | e :: es => by rw [cL]; simp [cL_len es]
section
variable {K : PySem.W.Frag} {F : Fn}
theorem sc_callP {cs : CEs} {t : TA} {f n : Nat} (hn : lenC cs = n) (ss : SA K F cs t) : SCx K F f cs (List.range n) (tG (spF K F f) t) := by
  intro σ E H J w E' Q r e fin
  obtain ⟨⟨ds, E1⟩, e1, f1⟩ := Option.bind_eq_some_iff.mp (show (evs F cs E).bind _ = some (w, E') from e)
  obtain ⟨ds', e2, f2⟩ := Option.bind_eq_some_iff.mp f1
  obtain ⟨⟨w1, p1⟩, e3, f3⟩ := Option.bind_eq_some_iff.mp f2
  clear f1 f2 e
  rw [permD_eq, ← hn, ← evs_len e1] at e2
  have e4 := permL_ids e2
  subst e4
  cases p1 with
  | some _ => exact nomatch (show (none : Option (W × DE)) = some (w, E') from f3)
  | none =>
    cases (show some (w1, E1) = some (w, E') from f3)
    refine ss σ E H J ds' _ _ r e1 fun vs H1 J1 t1 d1 => ?_
    refine ⟨J1, none, ds', w, none, rel_args t1.rel.sub d1, e3, fun v H2 J2 tc rs => ?_⟩
    obtain ⟨t2, r2⟩ := call_free t1 tc rs (fun a _ z => own_args z) fun a z => (own_args z).elim
    exact fin v H2 J2 t2 r2
theorem se_callP {cs : CEs} {t : TA} {f n : Nat} (hn : lenC cs = n) (ss : SA K F cs t) : SE K F (.call f cs (List.range n)) (tG (spF K F f) t) := (sc_callP hn ss).se
def tTg (K : PySem.W.Frag) (tg : CT) : TG := fun v σ H Q => ∃ E J d E', Rel K H J σ E ∧ Dp K J v d ∧ bindT tg d E = some E' ∧ ∀ σ', Tr K σ E H J σ' E' H J → (σ'.length = σ.length ∧ ∀ i, i ∉ slotsT tg → σ'[i]? = σ[i]?) → Q σ' H
theorem sg_T {tg : CT} : SG K tg (tTg K tg) := fun σ E H J v d E' Q r h e fin => ⟨E, J, d, E', r, h, e, fin⟩
theorem _root_.L2.PG.to {X : Cx} {e : Expr} {t : CT} {g : TG} (h : PG X e g) (s : SG X.K t g) : PG X e (tTg X.K t) := ⟨fun pins st σ H v u Q I r ⟨E, J, d, E', q, hd, e', fin⟩ => h.run pins st σ H v u Q I r (s σ E H J v d E' Q q hd e' fin)⟩
end
section
variable {G : Glob} {F : Fn} {k : Nat} {sc : Scope} {X : Cx}
theorem base_ok {o : Expr} {m : Str} {env : Env} {wh : Sem Value} (h : plainO o = true) : attributeBase o m env wh = wh := by
  unfold attributeBase
  split
  · cases h
  · rfl
/-- what is walked -/
theorem it_ok {it tg : Expr} {ci : CI} {tg' : CT} (ok : XOk G F k sc X) (hI : ∀ c, cE G sc it = some c → Gd X F it c) (hA : ∀ e ∈ (match it with | .Call _ b _ _ => b | _ => []), ∀ c, cE G sc e = some c → Gd X F e c)
    (h : mkIter G sc it (cE G sc it) (cA G sc it) = some ci) (ht : cT G sc tg = some tg' ∨ ∃ sc', cT G sc' tg = some tg') (hf : fitT ci tg' = true) : PI X tg it (tIt X.K F ci) ∧ (∀ i, ci ≠ .own i) ∧ ∀ x, foldedSetIterable it X.env x = pure x := by
  have ht : ∃ sc', cT G sc' tg = some tg' := ht.elim (fun q => ⟨sc, q⟩) id
  have hT : (∃ ts, tg' = .t ts) → ∃ elts kk p, tg = .Tuple elts kk p := fun ⟨ts, e⟩ => by
    obtain ⟨sc', ht⟩ := ht
    subst e
    cases tg <;> first | (exact nomatch (show (none : Option CT) = some _ from ht)) | skip
    · rename_i x p
      rw [cT] at ht
      obtain ⟨i, _, e⟩ := Option.map_eq_some_iff.mp ht
      cases e
    · exact ⟨_, _, _, rfl⟩
  have seq : ∀ {it : Expr} {c : CE}, PE X it (tV X.K F c) → PI X tg it (tIt X.K F (.seq c)) := fun {it c} p => ((pi_list p).or (pi_tup p)).to (si_seq se_V)
  have whole : (cE G sc it).map CI.seq = some ci → (∀ es k p, it ≠ .Set es k p) → PI X tg it (tIt X.K F ci) ∧ (∀ i, ci ≠ .own i) ∧ ∀ x, foldedSetIterable it X.env x = pure x := fun q hs => by
    obtain ⟨c, h1, e⟩ := Option.map_eq_some_iff.mp q
    subst e
    refine ⟨seq (hI c h1).v, (fun _ z => nomatch z), fun x => ?_⟩
    cases it <;> first | rfl | exact absurd rfl (hs _ _ _)
  cases it with
  | Set => exact nomatch (show (none : Option CI) = some ci from h)
  | Call f args kws pos =>
    cases f with
    | Name x p =>
      cases kws with
      | cons => exact whole h fun _ _ _ z => nomatch z
      | nil =>
        replace h : (if args.any isStar then none else
            if bltB G sc x "range" then (match cL G sc args with
              | [some b] => some (CI.rng (.cst (.int 0)) b)
              | [some a, some b] => some (.rng a b)
              | [some a, some b, some (.neg (.cst (.int 1)))] => some (.rngd a b)
              | _ => none)
            else if bltB G sc x "enumerate" then (match cL G sc args with
              | [some a] => some (.enum a)
              | _ => none)
            else if bltB G sc x "zip" then (match cL G sc args with
              | [some a, some b] => some (.zip a b)
              | _ => none)
            else (cE G sc (.Call (.Name x p) args [] pos)).map .seq) = some ci := h
        have one : ∀ {a : CE}, cL G sc args = [some a] → ∃ e, args = [e] ∧ cE G sc e = some a := fun {a} q => by
          cases args with
          | nil => rw [cL] at q; cases q
          | cons e es => cases es with
            | cons e' es => rw [cL, cL] at q; exact nomatch (List.cons.inj q).2
            | nil => rw [cL] at q; exact ⟨e, rfl, (List.cons.inj q).1⟩
        have two : ∀ {a b : CE}, cL G sc args = [some a, some b] → ∃ e e', args = [e, e'] ∧ cE G sc e = some a ∧ cE G sc e' = some b := fun {a b} q => by
          cases args with
          | nil => rw [cL] at q; cases q
          | cons e es => cases es with
            | nil => rw [cL, cL] at q; exact nomatch (List.cons.inj q).2
            | cons e' es => cases es with
              | cons e'' es => rw [cL, cL, cL] at q; exact nomatch (List.cons.inj (List.cons.inj q).2).2
              | nil => rw [cL, cL] at q; exact ⟨e, e', rfl, (List.cons.inj q).1, (List.cons.inj (List.cons.inj q).2).1⟩
        have three : ∀ {a b c : CE}, cL G sc args = [some a, some b, some c] → ∃ e e' e2, args = [e, e', e2] ∧ cE G sc e = some a ∧ cE G sc e' = some b ∧ cE G sc e2 = some c := fun {a b c} q => by
          cases args with
          | nil => rw [cL] at q; cases q
          | cons e es => cases es with
            | nil => rw [cL, cL] at q; exact nomatch (List.cons.inj q).2
            | cons e' es => cases es with
              | nil => rw [cL, cL, cL] at q; exact nomatch (List.cons.inj (List.cons.inj q).2).2
              | cons e2 es => cases es with
                | cons e3 es => rw [cL, cL, cL, cL] at q; exact nomatch (List.cons.inj (List.cons.inj (List.cons.inj q).2).2).2
                | nil => rw [cL, cL, cL] at q; exact ⟨e, e', e2, rfl, (List.cons.inj q).1, (List.cons.inj (List.cons.inj q).2).1, (List.cons.inj (List.cons.inj (List.cons.inj q).2).2).1⟩
        split at h
        · cases h
        · rename_i hst
          have hst : args.any isStar = false := by simpa using hst
          split at h
          · rename_i hb
            obtain ⟨e, h1, h2, h3⟩ := blt_ok ok hb
            subst e
            split at h
            · rename_i b hl
              cases h
              obtain ⟨e, rfl, he⟩ := one hl
              have hs : isStar e = false := by simpa using hst
              exact ⟨(pi_range1 h1 h2 (pa_cons (hA e (List.mem_cons_self ..) _ he).v pa_nil (star_cons hs)) (star_cons hs)).to (si_rng1 se_V), (fun _ z => nomatch z), fun _ => rfl⟩
            · rename_i a b hl
              cases h
              obtain ⟨e, e', rfl, he, he'⟩ := two hl
              simp only [List.any_cons, List.any_nil, Bool.or_false, Bool.or_eq_false_iff] at hst
              exact ⟨(pi_range2 h1 h2 (pa_cons (hA e (List.mem_cons_self ..) _ he).v (pa_cons (hA e' (List.mem_cons_of_mem _ (List.mem_cons_self ..)) _ he').v pa_nil (star_cons hst.2)) (star_cons hst.1)) (by rw [star_cons hst.1, star_cons hst.2]; rfl) (by rw [star_cons hst.2]; rfl)).to (si_rng2 se_V se_V), (fun _ z => nomatch z), fun _ => rfl⟩
            · rename_i a b hl
              cases h
              obtain ⟨e, e', e2, rfl, he, he', he2⟩ := three hl
              simp only [List.any_cons, List.any_nil, Bool.or_false, Bool.or_eq_false_iff] at hst
              exact ⟨(pi_range3 h1 h2 (pa_cons (hA e (List.mem_cons_self ..) _ he).v (pa_cons (hA e' (List.mem_cons_of_mem _ (List.mem_cons_self ..)) _ he').v (pa_cons (hA e2 (List.mem_cons_of_mem _ (List.mem_cons_of_mem _ (List.mem_cons_self ..))) _ he2).v pa_nil (star_cons hst.2.2)) (star_cons hst.2.1)) (star_cons hst.1)) (by rw [star_cons hst.1]) (by rw [star_cons hst.2.1, star_cons hst.2.2]; rfl)).to (si_rngd se_V se_V se_V), (fun _ z => nomatch z), fun _ => rfl⟩
            · cases h
          · split at h
            · rename_i hb
              obtain ⟨e, h1, h2, h3⟩ := blt_ok ok hb
              subst e
              split at h
              · rename_i a hl
                cases h
                obtain ⟨e, rfl, he⟩ := one hl
                have hs : isStar e = false := by simpa using hst
                cases tg' with
                | v i => cases hf
                | t ts =>
                  obtain ⟨elts, kk, p', rfl⟩ := hT ⟨ts, rfl⟩
                  exact ⟨(pi_enumA h1 h2 (pa_cons (hA e (List.mem_cons_self ..) _ he).v pa_nil (star_cons hs)) (star_cons hs)).to (si_enum se_V), (fun _ z => nomatch z), fun _ => rfl⟩
              · cases h
            · split at h
              · rename_i hb
                obtain ⟨e, h1, h2, h3⟩ := blt_ok ok hb
                subst e
                split at h
                · rename_i a b hl
                  cases h
                  obtain ⟨e, e', rfl, he, he'⟩ := two hl
                  simp only [List.any_cons, List.any_nil, Bool.or_false, Bool.or_eq_false_iff] at hst
                  cases tg' with
                  | v i => cases hf
                  | t ts =>
                    obtain ⟨elts, kk, p', rfl⟩ := hT ⟨ts, rfl⟩
                    exact ⟨(pi_zipM h1 h2 (pa_cons (hA e (List.mem_cons_self ..) _ he).v (pa_cons (hA e' (List.mem_cons_of_mem _ (List.mem_cons_self ..)) _ he').v pa_nil (star_cons hst.2)) (star_cons hst.1)) (star_cons hst.1) (star_none (by simp [hst.2]))).to (si_zip se_V se_V), (fun _ z => nomatch z), fun _ => rfl⟩
                · cases h
              · exact whole h fun _ _ _ z => nomatch z
    | _ => exact whole h fun _ _ _ z => nomatch z
  | _ => exact whole h fun _ _ _ z => nomatch z
/-! ### comprehensions -/
structure LcOk (X : Cx) (elt tg it : Expr) (ifs : List Expr) (scope : Scope) (own : List (Str × Nat)) (wi : TI) (g : TG) (tt : TT) (te : TE) : Prop where
  hi : PI X tg it wi
  ok : BlkOk X.N X.env.scope scope own
  hg : ∀ (s : Shared) (H : Hp) (C : Addr) (cl : List (Str × Addr)) (fp : List Addr), PG (X.blk s H scope (compEnvC scope cl C X.env) fp) tg g
  ht : ∀ (s : Shared) (H : Hp) (C : Addr) (cl : List (Str × Addr)) (fp : List Addr), PTs (X.blk s H scope (compEnvC scope cl C X.env) fp) ifs tt
  he : ∀ (s : Shared) (H : Hp) (C : Addr) (cl : List (Str × Addr)) (fp : List Addr), PE (X.blk s H scope (compEnvC scope cl C X.env) fp) elt te
  hs : ∀ x, foldedSetIterable it X.env x = pure x
theorem lc_parts {n : Nat} {elt : Expr} {gens : List Comprehension} {scope : Scope} {pos : Pos} {c : CE} (ih : GdN G F k n) (hn : sizeOf (Expr.ListComp elt gens scope pos) ≤ n) (ok : XOk G F k sc X) (h : cE G sc (.ListComp elt gens scope pos) = some c) :
    ∃ tg it ifs own wi g tt te, gens = [⟨tg, it, ifs, 0⟩] ∧ LcOk X elt tg it ifs scope own wi g tt te ∧ SE X.K F c (tLc wi g tt te (own.map (·.2))) ∧ ∀ i, c ≠ .var i := by
  unfold cE at h
  split at h
  · rename_i tg it ifs a
    have hsz : sizeOf (Expr.ListComp elt [⟨tg, it, ifs, a⟩] scope pos) ≤ n := hn
    simp only [Expr.ListComp.sizeOf_spec, List.cons.sizeOf_spec, List.nil.sizeOf_spec, Comprehension.mk.sizeOf_spec] at hsz
    split at h
    · rename_i hc
      rw [Bool.and_eq_true] at hc
      have ha : a = 0 := of_decide_eq_true hc.1
      subst ha
      split at h
      · rename_i tg' it' cd e h1 h2 h3 h4
        split at h
        · rename_i hf
          cases h
          simp only [Bool.and_eq_true, List.all_eq_true, decide_eq_true_eq] at hf
          obtain ⟨⟨hf1, hf2⟩, hf3⟩ := hf
          have bo := fun s H C cl fp => blk_ok ok scope s H C cl fp
          have okb := blkOk_of ok hc.2
          have hg : ∀ (s : Shared) (H : Hp) (C : Addr) (cl : List (Str × Addr)) (fp : List Addr), PG (X.blk s H scope (compEnvC scope cl C X.env) fp) tg (tTg X.K tg') := fun s H C cl fp => by
            obtain ⟨g, p1, p2⟩ := tg_ok (bo s H C cl fp) h1
            exact p1.to p2
          have ht : ∀ (s : Shared) (H : Hp) (C : Addr) (cl : List (Str × Addr)) (fp : List Addr), PTs (X.blk s H scope (compEnvC scope cl C X.env) fp) ifs (tCo X.K F cd) := fun s H C cl fp => by
            cases ifs with
            | nil =>
              rw [cC] at h3
              cases h3
              exact pts_nil.to sc_no
            | cons t r =>
              cases r with
              | cons t' r => unfold cC at h3; cases h3
              | nil =>
                unfold cC at h3
                obtain ⟨x, q1, q2⟩ := Option.map_eq_some_iff.mp h3
                subst q2
                simp only [List.cons.sizeOf_spec, List.nil.sizeOf_spec] at hsz
                exact (pts_one ((ih t (by omega) scope _ x (bo s H C cl fp) q1).t (hf3 t (List.mem_cons_self ..)))).to (sc_yes st_T)
          have he : ∀ (s : Shared) (H : Hp) (C : Addr) (cl : List (Str × Addr)) (fp : List Addr), PE (X.blk s H scope (compEnvC scope cl C X.env) fp) elt (tV X.K F e) := fun s H C cl fp => (ih elt (by omega) scope _ e (bo s H C cl fp) h4).v
          have mk : mkIter G sc it (cE G sc it) (cA G sc it) = some it' → ∃ tg0 it0 ifs0 own wi g tt te, [(⟨tg, it, ifs, 0⟩ : Comprehension)] = [⟨tg0, it0, ifs0, 0⟩] ∧ LcOk X elt tg0 it0 ifs0 scope own wi g tt te ∧ SE X.K F (.comp ((ownOf G.N scope).map (·.2)) tg' it' cd e) (tLc wi g tt te (own.map (·.2))) ∧ ∀ i, CE.comp ((ownOf G.N scope).map (·.2)) tg' it' cd e ≠ .var i := fun q => by
            obtain ⟨p1, p2, p3⟩ := it_ok ok (fun c qe => ih it (by omega) sc X c ok qe) (fun e' he' c qe => by
              cases it with
              | Call f b kws pos =>
                have := List.sizeOf_lt_of_mem (show e' ∈ b from he')
                simp only [Expr.Call.sizeOf_spec] at hsz
                exact ih e' (by omega) sc X c ok qe
              | _ => exact absurd he' (by simp)) q (.inr ⟨scope, h1⟩) hf1
            exact ⟨_, _, _, _, _, _, _, _, rfl, ⟨p1, okb, hg, ht, he, p3⟩, se_comp p2 si_I sg_T hf2 sc_C se_V, fun _ z => nomatch z⟩
          cases it with
          | Name x p =>
            have h2 : (match slotOf G sc x with
              | some i => some (CI.own i)
              | none => mkIter G sc (.Name x p) (cE G sc (.Name x p)) (cA G sc (.Name x p))) = some it' := h2
            split at h2
            · rename_i i hi
              cases h2
              obtain ⟨q1, q2, q3, q4⟩ := slot_ok ok hi
              have p : PE X (.Name x p) (tVar i) := pe_var q1 q2 q3 q4
              exact ⟨_, _, _, _, _, _, _, _, rfl, ⟨(pi_list p).or (pi_tup p), okb, hg, ht, he, fun _ => rfl⟩, se_compOwn sg_T hf2 sc_C se_V, fun _ z => nomatch z⟩
            · exact mk h2
          | _ => exact mk h2
        · cases h
      · cases h
    · cases h
  · cases h
theorem gd_comp {n : Nat} {elt : Expr} {gens : List Comprehension} {scope : Scope} {pos : Pos} {c : CE} (ih : GdN G F k n) (hn : sizeOf (Expr.ListComp elt gens scope pos) ≤ n) (ok : XOk G F k sc X) (h : cE G sc (.ListComp elt gens scope pos) = some c) : Gd X F (.ListComp elt gens scope pos) c := by
  obtain ⟨tg, it, ifs, own, wi, g, tt, te, rfl, L, hs, hv⟩ := lc_parts ih hn ok h
  exact .mk0 hv (pe_lc ok.calm ok.nd' L.hi L.ok L.hg L.ht L.he L.hs) hs fun _ => rfl
theorem mapM_len {α β : Type} {f : α → Option β} : ∀ {xs : List α} {ys : List β}, xs.mapM f = some ys → ys.length = xs.length
  | [], ys, h => by cases (show some ([] : List β) = some ys from h); rfl
  | x :: xs, ys, h => by
    rw [List.mapM_cons] at h
    obtain ⟨y, h1, h⟩ := Option.bind_eq_some_iff.mp h
    obtain ⟨zs, h2, h⟩ := Option.bind_eq_some_iff.mp h
    cases (show some (y :: zs) = some ys from h)
    simp [mapM_len h2]
/-! ### calls -/
theorem gd_call {n : Nat} {f : Expr} {args : List Expr} {kws : List Keyword} {pos : Pos} {c : CE} (ih : GdN G F k n) (hn : sizeOf (Expr.Call f args kws pos) ≤ n) (ok : XOk G F k sc X) (h : cE G sc (.Call f args kws pos) = some c) : Gd X F (.Call f args kws pos) c := by
  unfold cE at h
  have hsz : sizeOf (Expr.Call f args kws pos) ≤ n := hn
  simp only [Expr.Call.sizeOf_spec] at hsz
  have hA : ∀ e ∈ args, ∀ c, cE G sc e = some c → Gd X F e c := fun e he c q => by
    have := List.sizeOf_lt_of_mem he
    exact ih e (by omega) sc X c ok q
  have hK : ∀ e ∈ kws, ∀ c, cE G sc e.value = some c → Gd X F e.value c := fun e he c q => by
    have h1 := List.sizeOf_lt_of_mem he
    have h2 : sizeOf e.value < sizeOf e := by
      cases e
      simp only [Keyword.mk.sizeOf_spec]
      omega
    exact ih e.value (by omega) sc X c ok q
  unfold mkCall at h
  split at h
  · cases h
  · rename_i hst
    have hst : args.any isStar = false := by simpa using hst
    cases f with
    | Name x p =>
      dsimp only at h
      split at h
      · rename_i hx
        rw [Bool.and_eq_true] at hx
        have hg := ok.glo x hx.1
        have hdb : (x == ("__debug__" : Str)) = false := by
          have := hx.2
          simp only [okName, Bool.and_eq_true, Bool.not_eq_true'] at this
          exact this.1.1
        split at h
        · rename_i fi hfi
          obtain ⟨ps0, b0, hf0⟩ := fnIx_get hfi
          have C := ok.fns fi x ps0 b0 hf0
          rw [hf0] at h
          split at h
          · rename_i y ps hy
            cases hy
            split at h
            · rename_i hl
              obtain ⟨es, h1, h2⟩ := Option.map_eq_some_iff.mp h
              subst h2
              have hlen : lenC es = ps0.length := by rw [allS_len h1, cL_len, hl]
              cases args with
              | nil =>
                rw [cL] at h1
                cases (show some CEs.nil = some es from h1)
                exact .mk0 (fun _ z => nomatch z) (pe_g0 C ok.room ok.gd hg hdb) (se_callP hlen sa_nil) fun _ => rfl
              | cons e r => exact .mk0 (fun _ z => nomatch z) (pe_g C ok.room ok.gd hg hdb (pa_of hA hst h1) hst (fun z => nomatch z)) (se_callP hlen sa_A) fun _ => rfl
            · cases h
          · rename_i y ps hy
            cases hy
            split at h
            · rename_i hl
              cases args with
              | nil => rw [cL] at h; cases h
              | cons e r =>
                rw [cL] at h
                rw [List.any_cons, Bool.or_eq_false_iff] at hst
                cases hp : cE G sc e with
                | none => rw [hp] at h; cases h
                | some p' =>
                  rw [hp] at h
                  obtain ⟨es, h1, h2⟩ := Option.map_eq_some_iff.mp (show (allS (cL G sc r)).map (fun es => CE.callr fi p' es) = some c from h)
                  subst h2
                  have ge := hA e (List.mem_cons_self ..) p' hp
                  have pr := pa_of (fun e' he' => hA e' (List.mem_cons_of_mem _ he')) hst.2 h1
                  have stc : (e :: r).any isStar = false := by rw [List.any_cons, hst.1, hst.2]; rfl
                  by_cases hv : ∃ i, p' = .var i
                  · obtain ⟨i, rfl⟩ := hv
                    exact .mk0 (fun _ z => nomatch z) (pe_g C ok.room ok.gd hg hdb (pa_cons ge.o pr (star_cons hst.1)) stc (fun z => nomatch z)) (se_callrV so_O sa_A) fun _ => rfl
                  · exact .mk0 (fun _ z => nomatch z) (pe_g C ok.room ok.gd hg hdb (pa_cons ge.v pr (star_cons hst.1)) stc (fun z => nomatch z)) (se_callr (fun i z => hv ⟨i, z⟩) se_V sa_A) fun _ => rfl
            · cases h
          · rename_i y ps kw0 kws0 hy
            cases hy
            split at h
            · rename_i he
              obtain ⟨ns, h1, h2⟩ := Option.bind_eq_some_iff.mp h
              split at h2
              · rename_i hd
                simp only [Bool.and_eq_true, decide_eq_true_eq, List.all_eq_true] at hd
                obtain ⟨q, h3, h4⟩ := Option.bind_eq_some_iff.mp h2
                obtain ⟨es, h5, h6⟩ := Option.map_eq_some_iff.mp h4
                subst h6
                have ea : args = [] := by simpa using he
                subst ea
                exact .mk0 (fun _ z => nomatch z) (pe_gk C ok.room ok.gd hg hdb (pk_of hK h5) h1 hd.1.1 hd.1.2 h3 hd.2) (se_call sa_A) fun _ => rfl
              · cases h2
            · cases h
          · cases h
        · split at h
          · rename_i hb
            rw [Bool.and_eq_true] at hb
            have hkw : kws = [] := by
              cases kws with
              | nil => rfl
              | cons => exact absurd hb.1 Bool.false_ne_true
            subst hkw
            have hm := ok.free x (of_decide_eq_true hb.2)
            have one : ∀ {a : Option CE}, cL G sc args = [a] → ∃ e, args = [e] ∧ cE G sc e = a := fun {a} q => by
              cases args with
              | nil => rw [cL] at q; cases q
              | cons e es => cases es with
                | cons e' es => rw [cL, cL] at q; exact nomatch (List.cons.inj q).2
                | nil => rw [cL] at q; exact ⟨e, rfl, (List.cons.inj q).1⟩
            have two : ∀ {a b : Option CE}, cL G sc args = [a, b] → ∃ e e', args = [e, e'] ∧ cE G sc e = a ∧ cE G sc e' = b := fun {a b} q => by
              cases args with
              | nil => rw [cL] at q; cases q
              | cons e es => cases es with
                | nil => rw [cL, cL] at q; exact nomatch (List.cons.inj q).2
                | cons e' es => cases es with
                  | cons e'' es => rw [cL, cL, cL] at q; exact nomatch (List.cons.inj (List.cons.inj q).2).2
                  | nil => rw [cL, cL] at q; exact ⟨e, e', rfl, (List.cons.inj q).1, (List.cons.inj (List.cons.inj q).2).1⟩
            by_cases hls : (decide (x = ("len" : Str)) && lsetB G sc args) = true
            case pos =>
              rw [if_pos hls] at h
              rw [Bool.and_eq_true] at hls
              obtain ⟨hi1, hi2⟩ := hls
              have hi1 := of_decide_eq_true hi1
              subst hi1
              unfold lsetB at hi2
              split at hi2
              · rename_i y py b pb _
                simp only [Bool.and_eq_true, Bool.not_eq_true'] at hi2
                obtain ⟨⟨hy, _⟩, hb2⟩ := hi2
                obtain ⟨ey, r1, r2, r3⟩ := blt_ok ok hy
                subst ey
                unfold cA1 cA at h
                have hB : ∀ e ∈ b, ∀ c, cE G sc e = some c → Gd X F e c := fun e he c qe => by
                  have := List.sizeOf_lt_of_mem he
                  simp only [List.cons.sizeOf_spec, List.nil.sizeOf_spec, Expr.Call.sizeOf_spec] at hsz
                  exact ih e (by omega) sc X c ok qe
                split at h
                · rename_i b' hl
                  cases h
                  cases b with
                  | nil => rw [cL] at hl; cases hl
                  | cons e es => cases es with
                    | cons e' es => rw [cL, cL] at hl; exact nomatch (List.cons.inj hl).2
                    | nil =>
                      rw [cL] at hl
                      have hs : isStar e = false := by simpa using hb2
                      exact .mk0 (fun _ z => nomatch z) (pe_lset hg hm r1 r2 (hB e (List.mem_cons_self ..) b' (List.cons.inj hl).1).o ok.calm (star_cons hs)) (se_lset so_O) fun _ => rfl
                · cases h
              · cases hi2
            rw [if_neg hls] at h
            by_cases hdz : (decide (x = ("dict" : Str)) && dzipB G sc args) = true
            case pos =>
              rw [if_pos hdz] at h
              rw [Bool.and_eq_true] at hdz
              obtain ⟨hi1, hi2⟩ := hdz
              have hi1 := of_decide_eq_true hi1
              subst hi1
              unfold dzipB at hi2
              split at hi2
              · rename_i y py b pb _
                simp only [Bool.and_eq_true, Bool.not_eq_true'] at hi2
                obtain ⟨⟨hy, _⟩, hb2⟩ := hi2
                obtain ⟨ey, r1, r2, r3⟩ := blt_ok ok hy
                subst ey
                unfold cA1 cA at h
                have hB : ∀ e ∈ b, ∀ c, cE G sc e = some c → Gd X F e c := fun e he c qe => by
                  have := List.sizeOf_lt_of_mem he
                  simp only [List.cons.sizeOf_spec, List.nil.sizeOf_spec, Expr.Call.sizeOf_spec] at hsz
                  exact ih e (by omega) sc X c ok qe
                split at h
                · rename_i a' b' hl
                  cases h
                  cases b with
                  | nil => rw [cL] at hl; cases hl
                  | cons e es => cases es with
                    | nil => rw [cL, cL] at hl; exact nomatch (List.cons.inj hl).2
                    | cons e' es => cases es with
                      | cons e'' es => rw [cL, cL, cL] at hl; exact nomatch (List.cons.inj (List.cons.inj hl).2).2
                      | nil =>
                        rw [cL, cL] at hl
                        simp only [List.any_cons, List.any_nil, Bool.or_false, Bool.or_eq_false_iff] at hb2
                        exact .mk0 (fun _ z => nomatch z) (pe_dzip ok.calm hg hm r1 r2 (pa_cons (hB e (List.mem_cons_self ..) a' (List.cons.inj hl).1).v (pa_cons (hB e' (List.mem_cons_of_mem _ (List.mem_cons_self ..)) b' (List.cons.inj (List.cons.inj hl).2).1).v pa_nil (star_cons hb2.2)) (star_cons hb2.1)) (star_cons hb2.1) (star_none (by simp [hb2.2]))) (se_dzip se_V se_V) fun _ => rfl
                · cases h
              · cases hi2
            rw [if_neg hdz] at h
            split at h
            · rename_i hi
              subst hi
              split at h
              · rename_i a o2 e0 t _ hl
                obtain ⟨e, e', hee, he, _⟩ := two hl
                cases hee
                have ha := hA e0 (List.mem_cons_self ..) a he
                simp only [List.any_cons, List.any_nil, Bool.or_false, Bool.or_eq_false_iff] at hst
                split at h
                · rename_i ts kk p2
                  split at h
                  · rename_i hl2
                    obtain ⟨l, h1, h2⟩ := Option.map_eq_some_iff.mp h
                    subst h2
                    have ll : l.length ≤ sizeLine := by
                      rw [mapM_len h1]
                      exact Nat.le_trans hl2 (by rw [sizeLine_eq]; decide)
                    exact .mk0 (fun _ z => nomatch z) (pe_callB call_isiT hg hm boot_isinstance (pa_cons ha.o (pa_cons (pe_tup (tys_ok ok h1)) pa_nil (star_cons rfl)) (star_cons hst.1)) (he := star_cons hst.1) (hpl := star_none (by simp [isStar]))) (se_isiT ll so_O) fun _ => rfl
                  · cases h
                · obtain ⟨y, h1, h2⟩ := Option.map_eq_some_iff.mp h
                  subst h2
                  have pt := (ty_ok ok h1).1
                  exact .mk0 (fun _ z => nomatch z) (pe_callB call_isi hg hm boot_isinstance (pa_cons ha.o (pa_cons pt pa_nil (star_cons hst.2)) (star_cons hst.1)) (he := star_cons hst.1) (hpl := star_none (by simp [hst.2]))) (se_isi1 so_O) fun _ => rfl
              · cases h
            · split at h
              · rename_i hi
                rw [Bool.and_eq_true] at hi
                obtain ⟨hi1, hi2⟩ := hi
                have hi1 := of_decide_eq_true hi1
                subst hi1
                unfold lrgB at hi2
                split at hi2
                · rename_i y py b pb _
                  simp only [Bool.and_eq_true, Bool.not_eq_true'] at hi2
                  obtain ⟨⟨hy, _⟩, hb2⟩ := hi2
                  obtain ⟨ey, r1, r2, r3⟩ := blt_ok ok hy
                  subst ey
                  unfold cA1 cA at h
                  have hB : ∀ e ∈ b, ∀ c, cE G sc e = some c → Gd X F e c := fun e he c qe => by
                    have := List.sizeOf_lt_of_mem he
                    simp only [List.cons.sizeOf_spec, List.nil.sizeOf_spec, Expr.Call.sizeOf_spec] at hsz
                    exact ih e (by omega) sc X c ok qe
                  split at h
                  · rename_i b' hl
                    cases h
                    cases b with
                    | nil => rw [cL] at hl; cases hl
                    | cons e es => cases es with
                      | cons e' es => rw [cL, cL] at hl; exact nomatch (List.cons.inj hl).2
                      | nil =>
                        rw [cL] at hl
                        have hs : isStar e = false := by simpa using hb2
                        exact .mk0 (fun _ z => nomatch z) (pe_listRg ok.calm hg hm (prg_1 r1 r2 (hB e (List.mem_cons_self ..) b' (List.cons.inj hl).1).v (star_cons hs)) (star_cons rfl)) (se_lrg1 se_V) fun _ => rfl
                  · rename_i a' b' hl
                    cases h
                    cases b with
                    | nil => rw [cL] at hl; cases hl
                    | cons e es => cases es with
                      | nil => rw [cL, cL] at hl; exact nomatch (List.cons.inj hl).2
                      | cons e' es => cases es with
                        | cons e'' es => rw [cL, cL, cL] at hl; exact nomatch (List.cons.inj (List.cons.inj hl).2).2
                        | nil =>
                          rw [cL, cL] at hl
                          simp only [List.any_cons, List.any_nil, Bool.or_false, Bool.or_eq_false_iff] at hb2
                          exact .mk0 (fun _ z => nomatch z) (pe_listRg ok.calm hg hm (prg_2 r1 r2 (hB e (List.mem_cons_self ..) a' (List.cons.inj hl).1).v (hB e' (List.mem_cons_of_mem _ (List.mem_cons_self ..)) b' (List.cons.inj (List.cons.inj hl).2).1).v (star_cons hb2.1) (star_cons hb2.2) (star_none (by simp [hb2.2]))) (star_cons rfl)) (se_lrg se_V se_V) fun _ => rfl
                  · cases h
                · cases hi2
              · split at h
                · rename_i hi
                  rw [Bool.and_eq_true] at hi
                  have hx := of_decide_eq_true hi.1
                  subst hx
                  split at h
                  · rename_i a a' hl
                    cases h
                    obtain ⟨e, e', rfl, he, he'⟩ := two hl
                    simp only [List.any_cons, List.any_nil, Bool.or_false, Bool.or_eq_false_iff] at hst
                    exact .mk0 (fun _ z => nomatch z) (pe_callB (call_sum2 ok.calm) hg hm boot_sum (pa_cons (hA e (List.mem_cons_self ..) a he).v (pa_cons (hA e' (List.mem_cons_of_mem _ (List.mem_cons_self ..)) a' he').v pa_nil (star_cons hst.2)) (star_cons hst.1)) (he := star_cons hst.1) (hpl := star_none (by simp [hst.2]))) (se_sm2 se_V se_V) fun _ => rfl
                  · cases h
                · obtain ⟨b, h1, h2⟩ := Option.bind_eq_some_iff.mp h
                  split at h2
                  · rename_i a hl
                    cases h2
                    obtain ⟨e, rfl, he⟩ := one hl
                    have hs : isStar e = false := by simpa using hst
                    obtain ⟨r, hr, hp⟩ := blt1 ok h1 hg hm
                    exact .mk0 (fun _ z => nomatch z) (hp hs (hA e (List.mem_cons_self ..) a he).o) (se_bi1 hr so_O) fun _ => rfl
                  · rename_i a a' hl
                    cases h2
                    obtain ⟨e, e', rfl, he, he'⟩ := two hl
                    simp only [List.any_cons, List.any_nil, Bool.or_false, Bool.or_eq_false_iff] at hst
                    obtain ⟨r, hr, hp⟩ := blt2 ok h1 hg hm
                    exact .mk0 (fun _ z => nomatch z) (hp hst.1 hst.2 (hA e (List.mem_cons_self ..) a he).v (hA e' (List.mem_cons_of_mem _ (List.mem_cons_self ..)) a' he').v) (se_bi2 hr se_V se_V) fun _ => rfl
                  · cases h2
          · cases h
      · cases h
    | Attribute o m ap =>
      dsimp only at h
      split at h
      · cases h
      · rename_i hc
        simp only [Bool.or_eq_true, Bool.not_eq_true', not_or] at hc
        obtain ⟨⟨hc1, hc2⟩, hc3⟩ := hc
        have hk : kws = [] := by
          cases kws with
          | nil => rfl
          | cons => exact absurd rfl hc1
        have hp : plainO o = true := by simpa using hc2
        have hl : (ap.endLine == pos.line) = true := by simpa using hc3
        subst hk
        split at h
        · rename_i r a hr ha
          split at h
          · rename_i hm
            cases h
            subst hm
            unfold cR at hr
            simp only [Expr.Attribute.sizeOf_spec] at hsz
            have go := ih o (by omega) sc X r ok hr
            cases args with
            | nil => rw [cL] at ha; cases ha
            | cons e es => cases es with
              | cons e' es => rw [cL, cL] at ha; exact nomatch (List.cons.inj ha).2
              | nil =>
                rw [cL] at ha
                have ge := hA e (List.mem_cons_self ..) a (List.cons.inj ha).1
                have hs : isStar e = false := by simpa using hst
                exact .mk0 (fun _ z => nomatch z) (pe_bm PySem.F.plainAttrs_list PySem.F.slot_list_index PySem.F.type_list_index mt_index go.o (pa_cons ge.o pa_nil (star_cons hs)) (base_ok hp) (by rw [star_cons hs]; rfl) hl (star_cons hs) rfl) (se_index so_O so_O) fun _ => rfl
          · cases h
        · cases h
    | _ => exact nomatch h
/-! ### all expressions -/
theorem gd_all (n : Nat) : GdN G F k n := by
  induction n with
  | zero => intro e h; exact absurd h (Nat.not_lt_zero _)
  | succ n ih =>
    intro e hn sc X c ok h
    cases e <;> first | (exact nomatch (show (none : Option CE) = some c from h)) | skip
    all_goals try simp only [Expr.BoolOp.sizeOf_spec, Expr.BinOp.sizeOf_spec, Expr.UnaryOp.sizeOf_spec, Expr.IfExp.sizeOf_spec, Expr.Compare.sizeOf_spec, Expr.Subscript.sizeOf_spec, Expr.Tuple.sizeOf_spec, Expr.List.sizeOf_spec] at hn
    all_goals first
      | exact gd_unary ih (by omega) ok h
      | exact gd_bin ih (by omega) (by omega) ok h
      | exact gd_cmp ih (by omega) (fun e he => by have := List.sizeOf_lt_of_mem he; omega) ok h
      | exact gd_ite ih (by omega) (by omega) (by omega) ok h
      | exact gd_sub ih (by omega) (by omega) (by omega) ok h
      | exact gd_const h
      | exact gd_dict h
      | exact gd_name ok h
      | exact gd_tup (fun e he c q => ih e (by have := List.sizeOf_lt_of_mem he; omega) sc X c ok q) h
      | exact gd_lst (fun e he c q => ih e (by have := List.sizeOf_lt_of_mem he; omega) sc X c ok q) h
      | exact gd_call ih (by omega) ok h
      | exact gd_comp ih (by omega) ok h
      | skip
    case BoolOp op es pos =>
      unfold cE at h
      obtain ⟨h1, h2, h3⟩ := gd_bool (pos := pos) (fun e he c q => ih e (by have := List.sizeOf_lt_of_mem he; omega) sc X c ok q) h
      exact ⟨h1, h2, fun ht => (h3 (by unfold tOK at ht; exact ht)).pt⟩
theorem gd (ok : XOk G F k sc X) {e : Expr} {c : CE} (h : cE G sc e = some c) : Gd X F e c := gd_all _ e (Nat.lt_succ_self _) sc X c ok h
/-- a def's call, its answer as it is -/
theorem gd_X {e : Expr} {f : Nat} {es : CEs} {q : List Nat} (ok : XOk G F k sc X) (h : cX G sc e = some (f, es, q)) : ∃ t, PE X e t ∧ SCx X.K F f es q t ∧ (∀ y, swapsWith e none y X.env = pure false) := by
  unfold cX at h
  split at h
  · rename_i x p args kws pos
    split at h
    · rename_i f' es' q' hc
      cases h
      have hA : ∀ e ∈ args, ∀ c, cE G sc e = some c → Gd X F e c := fun e _ c q => gd ok q
      have hK : ∀ e ∈ kws, ∀ c, cE G sc e.value = some c → Gd X F e.value c := fun e _ c q => gd ok q
      unfold cE at hc
      unfold mkCall at hc
      split at hc
      · cases hc
      · rename_i hst
        have hst : args.any isStar = false := by simpa using hst
        dsimp only at hc
        split at hc
        · rename_i hx
          rw [Bool.and_eq_true] at hx
          have hg := ok.glo x hx.1
          have hdb : (x == ("__debug__" : Str)) = false := by
            have := hx.2
            simp only [okName, Bool.and_eq_true, Bool.not_eq_true'] at this
            exact this.1.1
          split at hc
          · rename_i fi hfi
            obtain ⟨ps0, b0, hf0⟩ := fnIx_get hfi
            have C := ok.fns fi x ps0 b0 hf0
            rw [hf0] at hc
            split at hc
            · rename_i y ps hy
              cases hy
              split at hc
              · rename_i hl
                obtain ⟨es, h1, h2⟩ := Option.map_eq_some_iff.mp hc
                cases h2
                have hlen : lenC es = ps0.length := by rw [allS_len h1, cL_len, hl]
                cases args with
                | nil =>
                  rw [cL] at h1
                  cases (show some CEs.nil = some es from h1)
                  exact ⟨_, pe_g0 C ok.room ok.gd hg hdb, sc_callP hlen sa_nil, fun _ => rfl⟩
                | cons e r => exact ⟨_, pe_g C ok.room ok.gd hg hdb (pa_of hA hst h1) hst (fun z => nomatch z), sc_callP hlen sa_A, fun _ => rfl⟩
              · cases hc
            · rename_i y ps hy
              cases hy
              split at hc
              · split at hc
                · obtain ⟨es, h1, h2⟩ := Option.map_eq_some_iff.mp hc
                  cases h2
                · cases hc
              · cases hc
            · rename_i y ps kw0 kws0 hy
              cases hy
              split at hc
              · rename_i he
                obtain ⟨ns, h1, h2⟩ := Option.bind_eq_some_iff.mp hc
                split at h2
                · rename_i hd
                  simp only [Bool.and_eq_true, decide_eq_true_eq, List.all_eq_true] at hd
                  obtain ⟨q, h3, h4⟩ := Option.bind_eq_some_iff.mp h2
                  obtain ⟨es, h5, h6⟩ := Option.map_eq_some_iff.mp h4
                  cases h6
                  have ea : args = [] := by simpa using he
                  subst ea
                  exact ⟨_, pe_gk C ok.room ok.gd hg hdb (pk_of hK h5) h1 hd.1.1 hd.1.2 h3 hd.2, sc_call sa_A, fun _ => rfl⟩
                · cases h2
              · cases hc
            · cases hc
          · exfalso
            split at hc
            · split at hc
              · split at hc <;> cases hc
              · split at hc
                · split at hc <;> cases hc
                · split at hc
                  · split at hc
                    · split at hc
                      · split at hc
                        · obtain ⟨l, _, h2⟩ := Option.map_eq_some_iff.mp hc
                          cases h2
                        · cases hc
                      · obtain ⟨l, _, h2⟩ := Option.map_eq_some_iff.mp hc
                        cases h2
                    · cases hc
                  · split at hc
                    · split at hc <;> cases hc
                    · split at hc
                      · split at hc <;> cases hc
                      · obtain ⟨b, _, h2⟩ := Option.bind_eq_some_iff.mp hc
                        split at h2 <;> cases h2
            · cases hc
        · cases hc
    · cases h
  · cases h
end
end PV
end

section
set_option Elab.async false
set_option linter.all false
set_option maxRecDepth 100000
set_option maxHeartbeats 4000000
set_option autoImplicit false
/-! PVq: statements: what the evaluator says of them, loops -/
namespace PV
open PySem PySem.Spec L2
open PyProof.Rows hiding St

section
variable {K : PySem.W.Frag} {F : Fn}
/-- what is wanted behind a statement, by how it ended -/
def Post (K : PySem.W.Frag) (D : Ends) (σ : St) (E : DE) (H J : Hp) (E' : DE) : Fl → Prop
  | .nx => ∀ σ' H' J', Tr K σ E H J σ' E' H' J' → D.nx σ' H'
  | .bk => ∀ σ' H' J', Tr K σ E H J σ' E' H' J' → D.bk σ' H'
  | .ct => ∀ σ' H' J', Tr K σ E H J σ' E' H' J' → D.ct σ' H'
  | .rt w => ∀ v σ' H' J', Tr K σ E H J σ' E' H' J' → ResX K σ E H σ' E' H' J' v w → D.rt v H'
def SS (K : PySem.W.Frag) (b : DE → Option (Fl × DE)) (t : TS) : Prop := ∀ (D : Ends) (σ : St) (E : DE) (H J : Hp) (fl : Fl) (E' : DE), Rel K H J σ E → b E = some (fl, E') → Post K D σ E H J E' fl → t D σ H
def tS (K : PySem.W.Frag) (b : DE → Option (Fl × DE)) : TS := fun D σ H => ∃ E J fl E', Rel K H J σ E ∧ b E = some (fl, E') ∧ Post K D σ E H J E' fl
theorem ss_S {b : DE → Option (Fl × DE)} : SS K b (tS K b) := fun D σ E H J fl E' r e p => ⟨E, J, fl, E', r, e, p⟩
theorem _root_.L2.PS.to {X : Cx} {s : Stmt} {b : DE → Option (Fl × DE)} {t : TS} (h : PS X s t) (g : SS X.K b t) : PS X s (tS X.K b) := ⟨fun pins st σ H D I ⟨E, J, fl, E', r, e, p⟩ => h.run pins st σ H D I (g D σ E H J fl E' r e p)⟩
theorem _root_.L2.PSs.to {X : Cx} {s : List Stmt} {b : DE → Option (Fl × DE)} {t : TS} (h : PSs X s t) (g : SS X.K b t) : PSs X s (tS X.K b) := ⟨fun pins st σ H D I ⟨E, J, fl, E', r, e, p⟩ => h.run pins st σ H D I (g D σ E H J fl E' r e p)⟩
theorem Res.from' {σ σ1 σ' : St} {E E1 E' : DE} {H H1 H' J J1 J' : Hp} {v : V} {w : W} (t : Tr K σ E H J σ1 E1 H1 J1) (r : Res K σ1 E1 H1 σ' E' H' J' v w) : Res K σ E H σ' E' H' J' v w :=
  ⟨r.rw, r.nr, r.ne, fun l c e => by
    rcases r.nw l c e with q | q
    · exact t.ow c q
    · exact .inr (t.th c q)⟩
theorem Post.after {D : Ends} {σ σ1 : St} {E E1 E' : DE} {H H1 J J1 : Hp} {fl : Fl} (t : Tr K σ E H J σ1 E1 H1 J1) (p : Post K D σ E H J E' fl) : Post K D σ1 E1 H1 J1 E' fl := by
  cases fl with
  | nx => exact fun σ' H' J' t2 => p σ' H' J' (t.trans t2)
  | bk => exact fun σ' H' J' t2 => p σ' H' J' (t.trans t2)
  | ct => exact fun σ' H' J' t2 => p σ' H' J' (t.trans t2)
  | rt w => exact fun v σ' H' J' t2 rs => p v σ' H' J' (t.trans t2) (rs.from t)
/-! ### in a row -/
theorem ss_nil : SS K (execs F .nil) tNext := by
  intro D σ E H J fl E' r e p
  cases (show some (Fl.nx, E) = some (fl, E') from e)
  exact p σ H J (.refl r)
theorem ss_cons {s : CS} {r : CSs} {t u : TS} (hs : SS K (exec F s) t) (hr : SS K (execs F r) u) : SS K (execs F (.cons s r)) (tSeq t u) := by
  intro D σ E H J fl E' rl e p
  obtain ⟨⟨f1, E1⟩, e1, e2⟩ := Option.bind_eq_some_iff.mp (show (exec F s E).bind _ = some (fl, E') from e)
  refine hs { D with nx := u D } σ E H J f1 E1 rl e1 ?_
  cases f1 with
  | nx => exact fun σ1 H1 J1 t1 => hr D σ1 E1 H1 J1 fl E' t1.rel e2 (p.after t1)
  | bk => cases e2; exact p
  | ct => cases e2; exact p
  | rt w => cases e2; exact p
/-! ### single ones -/
theorem ss_pass : SS K (exec F .pass) tNext := by
  intro D σ E H J fl E' r e p
  cases (show some (Fl.nx, E) = some (fl, E') from e)
  exact p σ H J (.refl r)
theorem ss_brk : SS K (exec F .brk) tBreak := by
  intro D σ E H J fl E' r e p
  cases (show some (Fl.bk, E) = some (fl, E') from e)
  exact p σ H J (.refl r)
theorem ss_cnt : SS K (exec F .cnt) tCont := by
  intro D σ E H J fl E' r e p
  cases (show some (Fl.ct, E) = some (fl, E') from e)
  exact p σ H J (.refl r)
theorem ss_stuck : SS K (exec F .stuck) tNever := by
  intro D σ E H J fl E' r e p
  exact nomatch (show (none : Option (Fl × DE)) = some (fl, E') from e)
theorem ss_retN : SS K (exec F .retN) tRetN := by
  intro D σ E H J fl E' r e p
  cases (show some (Fl.rt (.d .none), E) = some (fl, E') from e)
  exact p .non σ H J (.refl r) (res_d .non).x
theorem ss_ex {a : CE} {ta : TE} (sa : SE K F a ta) : SS K (exec F (.ex a)) (tDrop ta) := by
  intro D σ E H J fl E' r e p
  obtain ⟨⟨w, E1⟩, e1, e2⟩ := Option.map_eq_some_iff.mp (show (ev F a E).map _ = some (fl, E') from e)
  cases e2
  exact sa σ E H J w _ _ r e1 fun v H1 J1 t _ => p σ H1 J1 t
theorem ss_set {a : CE} {ta : TE} {i : Nat} (sa : SE K F a ta) : SS K (exec F (.set i a)) (tAsg ta (gName i)) := by
  intro D σ E H J fl E' r e p
  obtain ⟨⟨w, E1⟩, e1, e2⟩ := Option.bind_eq_some_iff.mp (show (ev F a E).bind _ = some (fl, E') from e)
  obtain ⟨E2, e3, e4⟩ := Option.map_eq_some_iff.mp e2
  cases e4
  exact sa σ E H J w E1 _ r e1 fun v H1 J1 t rs => p _ H1 J1 (t.put rs e3 (t.noR (put_eq e3).2.2))
theorem ss_unp {a : CE} {ta : TE} {tg : CT} {g : TG} (sa : SE K F a ta) (sg : SG K tg g) : SS K (exec F (.unp tg a)) (tAsg ta g) := by
  intro D σ E H J fl E' r e p
  obtain ⟨⟨w, E1⟩, e1, e2⟩ := Option.bind_eq_some_iff.mp (show (ev F a E).bind _ = some (fl, E') from e)
  obtain ⟨E2, e3, e4⟩ := Option.map_eq_some_iff.mp e2
  cases e4
  exact se_dp sa r e1 fun v H1 J1 t d => sg σ E1 H1 J1 v _ _ _ t.rel d e3 fun σ' t2 _ => p σ' H1 J1 (t.trans t2)
theorem ss_ifs {c : CE} {a b : CSs} {tc : TT} {t u : TS} (sc : ST K F c tc) (sa : SS K (execs F a) t) (sb : SS K (execs F b) u) : SS K (exec F (.ifs c a b)) (tIfS tc t u) := by
  intro D σ E H J fl E' r e p
  obtain ⟨⟨k, E1⟩, e1, e2⟩ := Option.bind_eq_some_iff.mp (show (evb F c E).bind _ = some (fl, E') from e)
  refine sc σ E H J k E1 _ r e1 fun H1 J1 t1 => ?_
  cases k with
  | true => exact sa D σ E1 H1 J1 fl E' t1.rel e2 (p.after t1)
  | false => exact sb D σ E1 H1 J1 fl E' t1.rel e2 (p.after t1)
/-! ### return -/
theorem Tr.drop {σ : St} {E : DE} {H J : Hp} (r : Rel K H J σ E) {i : Nat} {xs : List D} (hi : E[i]? = some (some (.o xs))) : ∃ v, σ[i]? = some (some v) ∧ Tr K σ E H J σ (E.set i none) H J ∧ Res K σ E H σ (E.set i none) H J v (.o xs) := by
  obtain ⟨v, hv, a, us, rfl, h1, h2, h3⟩ := r.val i _ hi
  have hil : i < E.length := (List.getElem?_eq_some_iff.mp hi).1
  have back : ∀ (j : Nat) (w : W), (E.set i none)[j]? = some (some w) → j ≠ i ∧ E[j]? = some (some w) := fun j w h => by
    by_cases hj : i = j
    · subst hj
      rw [List.getElem?_set_self hil] at h
      cases h
    · rw [List.getElem?_set_ne hj] at h
      exact ⟨fun z => hj z.symm, h⟩
  have n : ¬ Own σ (E.set i none) a := fun ⟨j, w, q1, q2, q3⟩ => by
    obtain ⟨n, q⟩ := back j w q1
    exact n (r.ap j i w _ a q q2 hi rfl q3 hv)
  refine ⟨_, hv, ⟨⟨r.sub, by rw [List.length_set]; exact r.len, fun j w h => r.val j w (back j w h).2, fun j k w w' c h1 l1 h2 l2 => r.ap j k w w' c (back j w h1).2 l1 (back k w' h2).2 l2⟩, Same.refl _, fun b o h _ => h, fun b h => h, fun b o h => .inl h, fun c ⟨j, w, q1, q2, q3⟩ => .inl ⟨j, w, (back j w q1).2, q2, q3⟩, fun j ys h => ⟨rfl, ys, ?_⟩⟩, ⟨⟨a, us, rfl, h1, h2, h3⟩, fun _ z => (nomatch z), fun _ c e => by cases e; exact n, fun _ c e => by cases e; exact .inl ⟨i, _, hi, rfl, hv⟩⟩⟩
  by_cases hj : i = j
  · subst hj
    rw [hi] at h
    cases h
  · rw [List.getElem?_set_ne hj]; exact h
theorem ss_retV {i : Nat} {tp : TE} (so : SO K F (.var i) tp) : SS K (exec F (.ret (.var i))) (tRet tp) := by
  intro D σ E H J fl E' r e p
  have pk : ∀ {w : W}, E[i]? = some (some w) → opd (.var i) (ev F (.var i) E) E = some (w.data, E) := fun {w} h => by
    show (peek E i).map (fun x => (x, E)) = _
    unfold peek
    rw [h]; rfl
  have e : (match E[i]? with
        | some (some (.o xs)) => some (Fl.rt (.o xs), E.set i none)
        | _ => (ev F (.var i) E).map fun (w, E1) => (Fl.rt w, E1)) = some (fl, E') := e
  split at e
  · rename_i xs hi
    cases e
    refine so σ E H J _ _ _ r (pk hi) fun v H1 J1 t1 o1 => ?_
    have o1 : σ[i]? = some (some v) := o1
    obtain ⟨v', h1, t, rs⟩ := Tr.drop t1.rel hi
    rw [o1] at h1
    cases h1
    exact p v σ H1 J1 (t1.trans t) (rs.from' t1).x
  · rename_i hno
    obtain ⟨⟨w, E1⟩, e1, e2⟩ := Option.map_eq_some_iff.mp e
    replace e1 : take1 E i = some (w, E1) := e1
    unfold take1 at e1
    split at e1
    · rename_i x hx
      cases e1
      cases e2
      refine so σ _ H J _ _ _ r (pk hx) fun v H1 J1 t1 o1 => ?_
      have o1 : σ[i]? = some (some v) := o1
      obtain ⟨v', h1, h2⟩ := rel_d t1.rel hx
      rw [o1] at h1
      cases h1
      exact p v σ H1 J1 t1 (res_d h2).x
    · rename_i xs hx
      exact absurd hx (hno xs)
    · cases e1
theorem ss_ret {a : CE} {ta : TE} (hn : ∀ i, a ≠ .var i) (sa : SE K F a ta) : SS K (exec F (.ret a)) (tRet ta) := by
  intro D σ E H J fl E' r e p
  have e : (ev F a E).map (fun (w, E1) => (Fl.rt w, E1)) = some (fl, E') := by
    cases a with
    | var i => exact absurd rfl (hn i)
    | _ => exact e
  obtain ⟨⟨w, E1⟩, e1, e2⟩ := Option.map_eq_some_iff.mp e
  cases e2
  exact sa σ E H J w _ _ r e1 fun v H1 J1 t rs => p v σ H1 J1 t rs.x
/-! ### loops -/
theorem ss_fr {tg : CT} {it : CI} {b : CSs} {wi : TI} {g : TG} {tb : TS} (si : SI K F it wi) (sg : SG K tg g) (sb : SS K (execs F b) tb) : SS K (exec F (.fr tg it b)) (tFor wi g tb) := by
  intro D σ E H J fl E' r e p
  obtain ⟨⟨xs, E1⟩, e1, e2⟩ := Option.bind_eq_some_iff.mp (show (evi F it E).bind _ = some (fl, E') from e)
  refine si σ E H J xs E1 _ r e1 fun Jt H1 J1 t1 ⟨G, Y, wk, hG, hY⟩ hz => ?_
  refine for_it wk (fun i σ' H' => ∃ Ei Ji, Tr K σ E H J σ' Ei H' Ji ∧ Same J1 Ji ∧ frGo (bindT tg) (execs F b) (xs.drop i) Ei = some (fl, E')) ⟨E1, J1, t1, Same.refl _, e2⟩ ?_ ?_ ?_
  · rintro i σ' H' _ ⟨Ei, Ji, t, s, _⟩
    exact hG H' Ji s t.rel.sub
  · rintro i x σ' H' H2 hlt ⟨Ei, Ji, t, s, el⟩ hy
    have hx : xs[i]? = some xs[i] := List.getElem?_eq_getElem hlt
    obtain ⟨J3, tY, hd⟩ := hY i _ _ Ei H' Ji x H2 hx s t.rel hy
    rw [List.drop_eq_getElem_cons hlt] at el
    obtain ⟨Ea, e1, el⟩ := Option.bind_eq_some_iff.mp (show (bindT tg xs[i] Ei).bind _ = some (fl, E') from el)
    obtain ⟨⟨f2, Eb⟩, e2, el⟩ := Option.bind_eq_some_iff.mp el
    refine sg σ' Ei H2 J3 x _ Ea _ tY.rel hd e1 fun σ2 ta _ => sb _ σ2 Ea H2 J3 f2 Eb ta.rel e2 ?_
    have t2 := (t.trans tY).trans ta
    cases f2 with
    | nx => exact fun σ3 H3 J4 t3 => ⟨Eb, J4, t2.trans t3, ((s.trans tY.jj).trans ta.jj).trans t3.jj, el⟩
    | ct => exact fun σ3 H3 J4 t3 => ⟨Eb, J4, t2.trans t3, ((s.trans tY.jj).trans ta.jj).trans t3.jj, el⟩
    | bk =>
      cases (show some (Fl.nx, Eb) = some (fl, E') from el)
      exact fun σ3 H3 J4 t3 => p σ3 H3 J4 (t2.trans t3)
    | rt w =>
      cases (show some (Fl.rt w, Eb) = some (fl, E') from el)
      exact fun v σ3 H3 J4 t3 rs => p v σ3 H3 J4 (t2.trans t3) (rs.from t2)
  · rintro σ' H' ⟨Ei, Ji, t, s, el⟩
    rw [List.drop_length] at el
    cases (show some (Fl.nx, Ei) = some (fl, E') from el)
    exact p σ' H' Ji t
theorem ss_wh {c : CE} {b : CSs} {tc : TT} {tb : TS} (sc : ST K F c tc) (sb : SS K (execs F b) tb) : SS K (exec F (.wh c b)) (tWhile tc tb) := by
  intro D σ E H J fl E' r e p
  refine ⟨fun m σ' H' => ∃ Ei Ji, Tr K σ E H J σ' Ei H' Ji ∧ whGo (evb F c) (execs F b) m Ei = some (fl, E'), ⟨lim, E, J, .refl r, e⟩, ?_⟩
  rintro m σ' H' ⟨Ei, Ji, t, el⟩
  cases m with
  | zero => exact nomatch (show (none : Option (Fl × DE)) = some (fl, E') from el)
  | succ m =>
    obtain ⟨⟨k, Ea⟩, e1, el⟩ := Option.bind_eq_some_iff.mp (show (evb F c Ei).bind _ = some (fl, E') from el)
    refine sc σ' Ei H' Ji k Ea _ t.rel e1 fun H1 J1 t1 => ?_
    have t1 := t.trans t1
    cases k with
    | false =>
      cases (show some (Fl.nx, Ea) = some (fl, E') from el)
      exact p σ' H1 J1 t1
    | true =>
      obtain ⟨⟨f2, Eb⟩, e2, el⟩ := Option.bind_eq_some_iff.mp (show (execs F b Ea).bind _ = some (fl, E') from el)
      rw [if_pos rfl]
      refine ⟨_, fun σ2 H2 q => ⟨m, Nat.lt_succ_self m, q⟩, sb _ σ' Ea H1 J1 f2 Eb t1.rel e2 ?_⟩
      cases f2 with
      | nx => exact fun σ3 H3 J4 t3 => ⟨Eb, J4, t1.trans t3, el⟩
      | ct => exact fun σ3 H3 J4 t3 => ⟨Eb, J4, t1.trans t3, el⟩
      | bk =>
        cases (show some (Fl.nx, Eb) = some (fl, E') from el)
        exact fun σ3 H3 J4 t3 => p σ3 H3 J4 (t1.trans t3)
      | rt w =>
        cases (show some (Fl.rt w, Eb) = some (fl, E') from el)
        exact fun v σ3 H3 J4 t3 rs => p v σ3 H3 J4 (t1.trans t3) (rs.from t1)
/-! ### lists that change -/
theorem getL_live {σ : St} {E : DE} {H J : Hp} {i : Nat} {xs : List D} (r : Rel K H J σ E) (h : getL E i = some xs) : ∃ a us, σ[i]? = some (some (.ref a)) ∧ H a = some (.lst us) ∧ J a = none ∧ DpAll K J us xs := by
  have key : ∀ w, E[i]? = some (some w) → w.live = true → w.data = .list xs → ∃ a us, σ[i]? = some (some (.ref a)) ∧ H a = some (.lst us) ∧ J a = none ∧ DpAll K J us xs := fun w h1 h2 h3 => by
    obtain ⟨v, q1, q2⟩ := r.val i w h1
    obtain ⟨a, us, zs, ev, q3, q4, q5, q6⟩ := q2.own h2
    rw [h3] at q6
    cases q6
    subst ev
    exact ⟨a, us, q1, q3, q4, q5⟩
  unfold getL at h
  split at h
  · rename_i zs hz
    cases h
    exact key _ hz rfl rfl
  · rename_i zs hz
    cases h
    exact key _ hz rfl rfl
  · cases h
theorem ss_app {i : Nat} {a : CE} {ta : TE} (sa : SE K F a ta) : SS K (exec F (.app i a)) (tDrop (tBM K "list" rAppend (tVar i) (tCons ta tNil))) := by
  intro D σ E H J fl E' r e p
  obtain ⟨xs0, e0, f0⟩ := Option.bind_eq_some_iff.mp (show (getL E i).bind _ = some (fl, E') from e)
  obtain ⟨⟨w, E1⟩, e1, f1⟩ := Option.bind_eq_some_iff.mp (show (ev F a E).bind _ = some (fl, E') from f0)
  obtain ⟨xs, e2, f2⟩ := Option.bind_eq_some_iff.mp f1
  clear f0 f1 e
  split at f2
  · rename_i hl
    cases f2
    obtain ⟨q, us0, h1, h2, _⟩ := getL_live r e0
    refine ⟨_, h1, .inl ⟨rfl, _, .inl (.inl h2)⟩, se_dp sa r e1 fun v H1 J1 t d => ?_⟩
    obtain ⟨q', us, h3, h4, h5, h6⟩ := getL_live t.rel e2
    rw [h1] at h3
    cases h3
    refine ⟨q, us, v, rfl, rfl, h4, by rw [dps_len h6]; exact lim_lt hl, ?_⟩
    exact p _ _ _ (t.trans (t.rel.write e2 h1 (dps_append h6 (.cons d .nil))))
  · cases f2
theorem Tr.dropA {σ σ1 : St} {E E1 : DE} {H J H1 J1 : Hp} {a : Addr} {xs : List D} {o : HO} (t : Tr K σ E H J σ1 E1 H1 J1) (r : Res K σ E H σ1 E1 H1 J1 (.ref a) (.o xs)) : Tr K σ E H J σ1 E1 (upd H1 a o) J1 := by
  obtain ⟨a', vs, ea, h1, h2, h3⟩ := r.rw
  cases ea
  have hn : ¬ Own σ1 E1 a := r.ne rfl a rfl
  have hw := r.nw rfl a rfl
  refine ⟨⟨fun b u h => ?_, t.rel.len, fun i w h => ?_, t.rel.ap⟩, t.jj, fun b u h q => ?_, fun b h => ?_, t.nw, t.ow, t.rr⟩
  · have hb : b ≠ a := fun e => by
      rw [e, h2] at h
      cases h
    rw [upd_ne hb]
    exact t.rel.sub b u h
  · obtain ⟨v, q1, q2⟩ := t.rel.val i w h
    refine ⟨v, q1, q2.keep (Same.refl _) fun c e l => ?_⟩
    obtain ⟨c', vs', xs', e2, h4, h5, _, _⟩ := q2.own l
    have ec : c = c' := by rw [e2] at e; cases e; rfl
    subst ec
    have hb : c ≠ a := fun z => hn ⟨i, w, h, l, by rw [q1, e, z]⟩
    exact ⟨upd_ne hb, h5⟩
  · have hb : b ≠ a := fun e => by
      subst e
      rcases hw with z | z
      · exact q z
      · rw [z] at h; cases h
    rw [upd_ne hb]
    exact t.fr b u h q
  · have hb : b ≠ a := fun e => by
      rw [e, upd_same] at h
      cases h
    rw [upd_ne hb] at h
    exact t.th b h
/-- append to a list that nobody holds -/
theorem ss_apt {b a : CE} {tb ta : TE} (sb : SE K F b tb) (sa : SE K F a ta) : SS K (exec F (.apt b a)) (tDrop (tBM K "list" rAppend tb (tCons ta tNil))) := by
  intro D σ E H J fl E' r e p
  obtain ⟨⟨w, E1⟩, e1, f1⟩ := Option.bind_eq_some_iff.mp (show (ev F b E).bind _ = some (fl, E') from e)
  clear e
  dsimp only at f1
  split at f1
  · rename_i xs
    obtain ⟨⟨w2, E2⟩, e2, f2⟩ := Option.bind_eq_some_iff.mp f1
    split at f2
    · rename_i hl
      cases f2
      refine sb σ E H J _ E1 _ r e1 fun v H1 J1 t1 r1 => ?_
      obtain ⟨q, us, rfl, h1, h2, h3⟩ := r1.rw
      refine ⟨.inl ⟨rfl, _, .inl (.inl h1)⟩, sa σ E1 H1 J1 _ _ _ t1.rel e2 fun u H2 J2 t2 r2 => ?_⟩
      have r3 := r1.step t1 t2
      obtain ⟨q', us', eq, h4, h5, h6⟩ := r3.rw
      cases eq
      refine ⟨q, us', u, rfl, rfl, h4, by rw [dps_len h6]; exact lim_lt hl, ?_⟩
      exact p _ _ _ (Tr.dropA (t1.trans t2) r3)
    · cases f2
  · cases f1
/-! ### own lists told in a tuple -/
theorem se_soV {i : Nat} {tp : TE} (so : SO K F (.var i) tp) : SE K F (.var i) tp := by
  intro σ E H J w E' Q r e fin
  have pk : ∀ {w : W}, E[i]? = some (some w) → opd (.var i) (ev F (.var i) E) E = some (w.data, E) := fun {w} h => by
    show (peek E i).map (fun x => (x, E)) = _
    unfold peek
    rw [h]; rfl
  replace e : take1 E i = some (w, E') := e
  unfold take1 at e
  split at e
  · rename_i x hx
    cases e
    refine so σ _ H J _ _ _ r (pk hx) fun v H1 J1 t1 o1 => ?_
    have o1 : σ[i]? = some (some v) := o1
    obtain ⟨v', h1, h2⟩ := rel_d t1.rel hx
    rw [o1] at h1
    cases h1
    exact fin v H1 J1 t1 (res_d h2)
  · rename_i xs hx
    cases e
    refine so σ _ H J _ _ _ r (pk hx) fun v H1 J1 t1 o1 => ?_
    have o1 : σ[i]? = some (some v) := o1
    obtain ⟨v', J2, h1, t2, h2⟩ := t1.rel.freeze hx
    rw [o1] at h1
    cases h1
    exact fin v H1 J2 (t1.trans t2) (res_d h2)
  · cases e
def S1 (K : PySem.W.Frag) (F : Fn) (a : CE) (t : TE) : Prop := ∀ (σ : St) (E : DE) (H J : Hp) (xs : List D) (E' : DE) (Q : V → Hp → Prop), Rel K H J σ E → ev1T F a E = some (xs, E') →
  (∀ p H' J', Tr K σ E H J σ E' H' J' → Res K σ E H σ E' H' J' (.ref p) (.o xs) → Q (.ref p) H') → t σ H Q
def SX (K : PySem.W.Frag) (F : Fn) (cs : CEs) (t : TA) : Prop := ∀ (σ : St) (E : DE) (H J : Hp) (xss : List (List D)) (E' : DE) (Q : List V → Hp → Prop), Rel K H J σ E → evT F cs E = some (xss, E') →
  (∀ as H' J', Tr K σ E H J σ E' H' J' → RTs K σ E H σ E' H' J' as xss → Q (as.map V.ref) H') → t σ H Q
theorem s1_var {i : Nat} {tp : TE} (so : SO K F (.var i) tp) : S1 K F (.var i) tp := by
  intro σ E H J xs E' Q r e fin
  have e : (match E[i]? with
    | some (some (W.o xs)) => some (xs, E.set i none)
    | _ => none) = some (xs, E') := e
  split at e
  · rename_i ys hi
    cases e
    have pk : opd (.var i) (ev F (.var i) E) E = some (.list xs, E) := by
      show (peek E i).map (fun x => (x, E)) = _
      unfold peek
      rw [hi]; rfl
    refine so σ E H J _ _ _ r pk fun v H1 J1 t1 o1 => ?_
    have o1 : σ[i]? = some (some v) := o1
    obtain ⟨v', h1, t, rs⟩ := Tr.drop t1.rel hi
    rw [o1] at h1
    cases h1
    obtain ⟨a, vs, rfl, _⟩ := rs.rw
    exact fin a H1 J1 (t1.trans t) (rs.from' t1)
  · cases e
theorem s1_e {a : CE} {ta : TE} (hn : ∀ i, a ≠ .var i) (sa : SE K F a ta) : S1 K F a ta := by
  intro σ E H J xs E' Q r e fin
  have e : (ev F a E).bind (fun (w, E1) => match w with
    | .o xs => some (xs, E1)
    | _ => none) = some (xs, E') := by
    cases a with
    | var i => exact absurd rfl (hn i)
    | _ => exact e
  obtain ⟨⟨w, E1⟩, e1, e2⟩ := Option.bind_eq_some_iff.mp e
  dsimp only at e2
  split at e2
  · cases e2
    refine sa σ E H J _ _ _ r e1 fun v H1 J1 t rs => ?_
    obtain ⟨a, vs, rfl, _⟩ := rs.rw
    exact fin a H1 J1 t rs
  · cases e2
theorem sx_nil : SX K F .nil tNil := by
  intro σ E H J xss E' Q r e fin
  cases (show some (([] : List (List D)), E) = some (xss, E') from e)
  exact fin [] H J (.refl r) .nil
theorem sx_cons {a : CE} {cs : CEs} {ta : TE} {t : TA} (sa : S1 K F a ta) (ss : SX K F cs t) : SX K F (.cons a cs) (tCons ta t) := by
  intro σ E H J xss E' Q r e fin
  obtain ⟨⟨xs, E1⟩, e1, f1⟩ := Option.bind_eq_some_iff.mp (show (ev1T F a E).bind _ = some (xss, E') from e)
  obtain ⟨⟨xss', E2⟩, e2, f2⟩ := Option.map_eq_some_iff.mp f1
  cases f2
  refine sa σ E H J xs E1 _ r e1 fun p H1 J1 t1 r1 => ss σ E1 H1 J1 xss' _ _ t1.rel e2 fun as H2 J2 t2 rs => ?_
  refine fin (p :: as) H2 J2 (t1.trans t2) (.cons (r1.step t1 t2) (fun hp => ?_) (rs.frame (fun _ n _ => n) fun c _ q => ?_))
  · rcases rs.nw p hp with z | z
    · exact r1.ne rfl p rfl z
    · obtain ⟨a', us, ea, h1, _⟩ := r1.rw
      cases ea
      rw [z] at h1; cases h1
  · rcases q with q | q
    · exact t1.ow c q
    · exact .inr (t1.th c q)
theorem ss_retT {es : CEs} {t : TA} (sa : SA K F es t) (sx : SX K F es t) : SS K (exec F (.retT es)) (tRet (tTup t)) := by
  intro D σ E H J fl E' r e p
  have e : (if ownable es E then (evT F es E).bind (fun (xss, E1) => if xss.length ≤ lim then some (Fl.rt (.t xss), E1) else none) else (ev F (.tup es) E).map fun (w, E1) => (Fl.rt w, E1)) = some (fl, E') := e
  split at e
  · obtain ⟨⟨xss, E1⟩, e1, e2⟩ := Option.bind_eq_some_iff.mp e
    dsimp only at e2
    split at e2
    · rename_i hl
      cases e2
      refine sx σ E H J xss _ _ r e1 fun as H1 J1 t1 rs => ⟨by rw [List.length_map, rs.len]; exact lim_ok hl, fun q hq => ?_⟩
      have t2 := Tr.shared (K := K) (o := .tup (as.map V.ref)) t1.rel hq
      exact p _ _ _ _ (t1.trans t2) ⟨q, as, rfl, .inl (.inl upd_same), rs.step t1 t2⟩
    · cases e2
  · obtain ⟨⟨w, E1⟩, e1, e2⟩ := Option.map_eq_some_iff.mp e
    cases e2
    exact se_tup sa σ E H J w _ _ r e1 fun v H1 J1 t rs => p v σ H1 J1 t rs.x
theorem ss_retC {f : Nat} {es : CEs} {q : List Nat} {te : TE} (sc : SCx K F f es q te) : SS K (exec F (.retC f es q)) (tRet te) := by
  intro D σ E H J fl E' r e p
  obtain ⟨⟨w, E1⟩, e1, e2⟩ := Option.map_eq_some_iff.mp (show (evcall F f es q E).map _ = some (fl, E') from e)
  cases e2
  exact sc σ E H J w _ _ r e1 fun v H1 J1 t rs => p v σ H1 J1 t rs
theorem at_nat {α : Type} {xs : List α} {k : Nat} {x : α} (h : xs[k]? = some x) : atI xs (k : Int) = some x := by
  have hk : k < xs.length := (List.getElem?_eq_some_iff.mp h).1
  unfold atI ixN
  rw [if_pos (by omega), if_pos (by omega)]
  exact h
/-- pairs out of data and of an own list that is told beside -/
theorem ss_retZ {vs : List Nat} {tg : CT} {a elt : CE} {i : Nat} {cond : CO} {g : TG} {tt : TT} {ta te : TE} (sa : SE K F a ta) (sg : SG K tg g) (hs : ∀ j ∈ slotsT tg, j ∈ vs) (sc : PV.SC K F cond tt) (se : SE K F elt te) :
    SS K (exec F (.retZ vs tg a i cond elt)) (tRet (tTup (tCons (tLc (iZipM K (tCons ta (tCons (tVar i) tNil))) g tt te vs) (tCons (tVar i) tNil)))) := by
  intro D σ E H J fl E' r e p
  obtain ⟨⟨w, E1⟩, e1, f1⟩ := Option.bind_eq_some_iff.mp (show (ev F a E).bind _ = some (fl, E') from e)
  obtain ⟨xs, e2, f2⟩ := Option.bind_eq_some_iff.mp f1
  obtain ⟨⟨zs, E4⟩, e3, f3⟩ := Option.bind_eq_some_iff.mp f2
  clear f1 f2 e
  dsimp only at f3
  split at f3
  · rename_i ws hE5
    cases f3
    have live : ∀ {Ei : DE} {Hi Ji : Hp} {xs : List PV.D}, Rel K Hi Ji (wipe σ vs) Ei → getL Ei i = some xs → ∃ a us, σ[i]? = some (some (.ref a)) ∧ Hi a = some (.lst us) ∧ DpAll K Ji us xs := fun {Ei Hi Ji xs} ri h => by
      have key : ∀ w, Ei[i]? = some (some w) → w.live = true → w.data = .list xs → ∃ a us, σ[i]? = some (some (.ref a)) ∧ Hi a = some (.lst us) ∧ DpAll K Ji us xs := fun w h1 h2 h3 => by
        obtain ⟨v, q1, q2⟩ := ri.val i w h1
        obtain ⟨a, us, zs, ev, q3, q4, q5, q6⟩ := q2.own h2
        rw [h3] at q6
        cases q6
        subst ev
        exact ⟨a, us, (wipe_some q1).1, q3, q5⟩
      unfold getL at h
      split at h
      · rename_i zs hz
        cases h
        exact key _ hz rfl rfl
      · rename_i zs hz
        cases h
        exact key _ hz rfl rfl
      · cases h
    refine se_dp sa r e1 fun v H1 J1 t1 d1 => ?_
    obtain ⟨tb, ad, us, rfl, hq, hd⟩ := dp_sqB d1 e2
    have rw0 := t1.rel.wipe vs
    obtain ⟨xs0, g0, _⟩ := Option.bind_eq_some_iff.mp (show (getL (wipeE E1 vs) i).bind _ = some (zs, E4) from (by
      have : lim = 999999 + 1 := rfl
      rw [this] at e3
      exact e3))
    obtain ⟨b, us0, hv, hb0, hd0⟩ := live rw0 g0
    refine ⟨_, hv, tb, false, ad, b, us, us0, rfl, sqB_mono t1.rel.sub hq, .inl (.inl hb0), fun D' hD => ?_⟩
    have l0 : Tr K (wipe σ vs) (wipeE E1 vs) H1 J1 (wipe σ vs) (wipeE E1 vs) (upd H1 D' (.lst [])) J1 ∧ Lst K (wipe σ vs) (wipeE E1 vs) (upd H1 D' (.lst [])) J1 D' [] := by
      obtain ⟨t, rs⟩ := new_o (p := D') rw0 hD (DpAll.nil)
      obtain ⟨a, us, ea, h1, h2, h3⟩ := rs.rw
      cases ea
      exact ⟨t, ⟨us, h1, h3⟩, h2, rs.ne rfl D' rfl⟩
    refine ⟨fun k m H' => m + k = lim ∧ ∃ Ei Ji pre rest, Tr K (wipe σ vs) (wipeE E1 vs) H1 J1 (wipe σ vs) Ei H' Ji ∧ (∀ i ∈ vs, ∀ w, Ei[i]? ≠ some (some w)) ∧ Lst K (wipe σ vs) Ei H' Ji D' pre ∧ pre.length ≤ k ∧
      lcZO i xs (bindT tg) (evc F cond) (ev F elt) vs m k Ei = some (rest, E4) ∧ pre ++ rest = zs, ⟨lim, rfl, _, _, [], zs, l0.1, fun i hi w => wipeE_in hi w, l0.2, Nat.le_refl _, e3, rfl⟩, ?_⟩
    rintro k m H' ⟨hm, Ei, Ji, pre, rest, t, hw, l, hp, el, ey⟩
    cases m with
    | zero => exact nomatch (show (none : Option (List PV.D × DE)) = some (rest, E4) from el)
    | succ m =>
      obtain ⟨ys, gx, el⟩ := Option.bind_eq_some_iff.mp (show (getL Ei i).bind _ = some (rest, E4) from el)
      obtain ⟨b', us1, hv', hb, hdy⟩ := live t.rel gx
      rw [hv] at hv'
      cases hv'
      have hq' : SqB K tb H' ad us := sqB_mono (t.jj.trans t.rel.sub) hq
      have hd' := dps_mono t.jj _ _ hd
      split at el
      · rename_i x y hx hy
        obtain ⟨u1, hu1, du1⟩ := dps_get hd' hx
        obtain ⟨u2, hu2, du2⟩ := dps_get hdy hy
        refine .inr ⟨⟨us, us1, u1, u2, hq', .inl (.inl hb), hu1, hu2⟩, _, fun H2 q => ⟨m, Nat.lt_succ_self m, q⟩, fun v2 H2 ⟨T, x', y', e5, e6, e7, e8, e9⟩ => ?_⟩
        subst e5 e7
        have ex := e8 us hq'
        have ey2 := e9 us1 (.inl (.inl hb))
        rw [hu1] at ex
        rw [hu2] at ey2
        cases ex
        cases ey2
        obtain ⟨t2, rs2⟩ := new_t t.rel e6 (.cons du1 (.cons du2 .nil))
        obtain ⟨Ea, e1, el⟩ := Option.bind_eq_some_iff.mp el
        obtain ⟨⟨bb, Eb⟩, e2, el⟩ := Option.bind_eq_some_iff.mp el
        have hz : pre.length < sizeLine := lim_size (by unfold lim at hm; omega)
        cases bb with
        | false =>
          have el : lcZO i xs (bindT tg) (evc F cond) (ev F elt) vs m (k + 1) (wipeE Eb vs) = some (rest, E4) := el
          exact lc_turn (b := false) (t.trans t2) hD (l.step t2) hz rs2.rw sg hs sc se e1 e2 (by rw [if_neg Bool.false_ne_true]; exact ⟨rfl, rfl⟩) fun H3 J3 t3 l3 =>
            ⟨by omega, _, J3, pre, rest, t3, fun i hi w => wipeE_in hi w, l3, by omega, el, ey⟩
        | true =>
          obtain ⟨⟨w, Ec⟩, e3, el⟩ := Option.bind_eq_some_iff.mp (show (ev F elt Eb).bind _ = some (rest, E4) from el)
          obtain ⟨⟨rest', E5⟩, e4, el⟩ := Option.map_eq_some_iff.mp el
          cases el
          exact lc_turn (b := true) (t.trans t2) hD (l.step t2) hz rs2.rw sg hs sc se e1 e2 (by rw [if_pos rfl]; exact ⟨w, Ec, e3, rfl, rfl⟩) fun H3 J3 t3 l3 =>
            ⟨by omega, _, J3, pre ++ [w.data], rest', t3, fun i hi w => wipeE_in hi w, l3, by rw [List.length_append]; simp; omega, e4, by rw [← ey]; simp⟩
      · rename_i hno
        split at el
        · rename_i hk
          cases el
          rw [List.append_nil] at ey
          subst ey
          have hend : us.length ≤ k ∨ us1.length ≤ k := by
            rw [dps_len hd', dps_len hdy]
            by_cases h1 : k < xs.length
            · by_cases h2 : k < ys.length
              · exact (hno xs[k] ys[k] (List.getElem?_eq_getElem h1) (List.getElem?_eq_getElem h2)).elim
              · exact .inr (by omega)
            · exact .inl (by omega)
          refine .inl ⟨⟨us, us1, hq', .inl (.inl hb), by rw [dps_len hd', dps_len hdy]; exact hk, hend⟩, lc_end (Q := fun x H1 => tCons (tVar i) tNil σ H1 fun xs H2 => (x :: xs).length ≤ sizeLine ∧ ∀ p, H2 p = none → D.rt (.ref p) (upd H2 p (.tup (x :: xs)))) t1 t hw hD l fun v H5 J5 t5 r5 => ?_⟩
          obtain ⟨a, vs5, rfl, _⟩ := r5.rw
          obtain ⟨v', h1, t6, rs6⟩ := Tr.drop t5.rel hE5
          obtain ⟨b6, vs6, rfl, _⟩ := rs6.rw
          refine ⟨_, h1, by show 2 ≤ sizeLine; decide, fun q hq => ?_⟩
          have t7 := Tr.shared (K := K) (o := .tup [.ref a, .ref b6]) t6.rel hq
          refine p _ _ _ _ ((t5.trans t6).trans t7) ⟨q, [a, b6], rfl, .inl (.inl upd_same), .cons (r5.step t5 (t6.trans t7)) ?_ (.cons ((rs6.from' t5).step (t5.trans t6) t7) (by simp) .nil)⟩
          intro z
          rw [List.mem_singleton] at z
          subst z
          exact r5.ne rfl a rfl ⟨i, _, hE5, rfl, h1⟩
        · cases el
  · cases f3
/-- what is taken out of a told tuple, a list is put on -/
def tAp (K : PySem.W.Frag) (te : TE) (k : Nat) (td : TE) : TS := tDrop (tBM K "list" rAppend (tOp (rIxT K) te (tC (.int k))) (tCons td tNil))
theorem ss_tap1 {f k : Nat} {es : CEs} {q : List Nat} {d : CE} {te td : TE} (sc : SCx K F f es q te) (sd : SE K F d td) : SS K (exec F (.tap1 f es q k d)) (tAp K te k td) := by
  intro D σ E H J fl E' r e p
  obtain ⟨⟨w, E1⟩, e1, f1⟩ := Option.bind_eq_some_iff.mp (show (evcall F f es q E).bind _ = some (fl, E') from e)
  clear e
  dsimp only at f1
  split at f1
  · rename_i xss
    obtain ⟨⟨w2, E2⟩, e2, f2⟩ := Option.bind_eq_some_iff.mp f1
    clear f1
    dsimp only at f2
    split at f2
    · rename_i xs hx
      split at f2
      · rename_i hl
        cases f2
        refine sc σ E H J _ E1 _ r e1 fun v H1 J1 t1 r1 => ?_
        obtain ⟨pp, as, rfl, hq, rs⟩ := r1
        obtain ⟨a, ha, ra⟩ := rs.get hx
        have ha' : (as.map V.ref)[k]? = some (.ref a) := by rw [List.getElem?_map, ha]; rfl
        obtain ⟨a', us, ea, h1, h2, h3⟩ := ra.rw
        cases ea
        refine ⟨pp, as.map V.ref, k, .ref a, rfl, rfl, sqT_mono t1.rel.sub hq, at_nat ha', .inl ⟨rfl, _, .inl (.inl h1)⟩, sd σ E1 H1 J1 _ _ _ t1.rel e2 fun u H2 J2 t2 r2 => ?_⟩
        have r3 := ra.step t1 t2
        obtain ⟨q', us', eq, h4, h5, h6⟩ := r3.rw
        cases eq
        refine ⟨a, us', u, rfl, rfl, h4, by rw [dps_len h6]; exact lim_lt hl, ?_⟩
        exact p _ _ _ (Tr.dropA (t1.trans t2) r3)
      · cases f2
    · cases f2
  · cases f1
theorem ss_tap2 {i f : Nat} {es : CEs} {q : List Nat} {rest : CSs} {te : TE} {u : TS} (sc : SCx K F f es q te) (hr : SS K (execs F rest) u) :
    SS K (execs F (.cons (.tap2 i f es q) rest)) (tSeq (tAsg te (gName i)) (tSeq (tAp K (tVar i) 0 (tC .non)) (tSeq (tAp K (tVar i) 1 (tC .non)) u))) := by
  intro D σ E H J fl E' r0 e p
  obtain ⟨⟨f1, E1⟩, e1, e2⟩ := Option.bind_eq_some_iff.mp (show (exec F (.tap2 i f es q) E).bind _ = some (fl, E') from e)
  obtain ⟨⟨w, Ea⟩, e3, f3⟩ := Option.bind_eq_some_iff.mp (show (evcall F f es q E).bind _ = some (f1, E1) from e1)
  clear e e1
  dsimp only at f3
  split at f3
  · rename_i xs ys
    obtain ⟨E2, e4, f4⟩ := Option.bind_eq_some_iff.mp f3
    split at f4
    · rename_i hl
      cases f4
      obtain ⟨rfl, hi, hnr⟩ := put_eq e4
      rw [List.set_set] at e2
      refine sc σ E H J _ Ea _ r0 e3 fun v H1 J1 t1 r1 => ?_
      obtain ⟨pp, as, rfl, hq, rs⟩ := r1
      cases rs with
      | @cons a _ as _ ra na rs =>
        cases rs with
        | @cons b _ as _ rb nb rs =>
          cases rs
          have hab : a ≠ b := fun z => na (by rw [z]; exact List.mem_cons_self ..)
          have his : i < σ.length := by rw [← t1.rel.len]; exact hi
          have t2 := t1.blank (o := some (.ref pp)) hnr
          have ra2 : Res K σ E H (σ.set i (some (.ref pp))) (Ea.set i none) H1 J1 (.ref a) (.o xs) := ra.frame (fun c n _ z => n (blank_own z)) fun c _ z => z
          have rb2 : Res K σ E H (σ.set i (some (.ref pp))) (Ea.set i none) H1 J1 (.ref b) (.o ys) := rb.frame (fun c n _ z => n (blank_own z)) fun c _ z => z
          have hv : (σ.set i (some (.ref pp)))[i]? = some (some (.ref pp)) := List.getElem?_set_self his
          obtain ⟨a', us, ea, h1, h2, h3⟩ := ra2.rw
          cases ea
          obtain ⟨b', us2, eb, h4, h5, h6⟩ := rb2.rw
          cases eb
          refine ⟨.ref pp, hv, pp, [.ref a, .ref b], 0, .ref a, rfl, rfl, sqT_mono t1.rel.sub hq, rfl, .inl ⟨rfl, _, .inl (.inl h1)⟩, a, us, .non, rfl, rfl, h1, by rw [dps_len h3]; exact lim_lt hl.1, ?_⟩
          have t3 := Tr.dropA (o := .lst (us ++ [.non])) t2 ra2
          have h4' : upd H1 a (.lst (us ++ [.non])) b = some (.lst us2) := by rw [upd_ne (fun z => hab z.symm)]; exact h4
          refine ⟨.ref pp, hv, pp, [.ref a, .ref b], 1, .ref b, rfl, rfl, sqT_mono t3.rel.sub hq, rfl, .inl ⟨rfl, _, .inl (.inl h4')⟩, b, us2, .non, rfl, rfl, h4', by rw [dps_len h6]; exact lim_lt hl.2, ?_⟩
          have rb3 : Res K σ E H (σ.set i (some (.ref pp))) (Ea.set i none) (upd H1 a (.lst (us ++ [.non]))) J1 (.ref b) (.o ys) := ⟨⟨b, us2, rfl, h4', h5, h6⟩, rb2.nr, rb2.ne, rb2.nw⟩
          have t4 := Tr.dropA (o := .lst (us2 ++ [.non])) t3 rb3
          exact hr D _ _ _ J1 fl E' t4.rel e2 (p.after t4)
    · cases f4
  · cases f3
theorem ss_ext {i : Nat} {a : CE} {ta : TE} (sa : SE K F a ta) : SS K (exec F (.ext i a)) (tDrop (tBM K "list" rExtend (tVar i) (tCons ta tNil))) := by
  intro D σ E H J fl E' r e p
  obtain ⟨xs0, e0, f0⟩ := Option.bind_eq_some_iff.mp (show (getL E i).bind _ = some (fl, E') from e)
  obtain ⟨⟨w, E1⟩, e1, f1⟩ := Option.bind_eq_some_iff.mp (show (ev F a E).bind _ = some (fl, E') from f0)
  obtain ⟨xs, e2, f2⟩ := Option.bind_eq_some_iff.mp f1
  obtain ⟨ys, e3, f3⟩ := Option.bind_eq_some_iff.mp f2
  clear f0 f1 f2 e
  cases w with
  | o zs =>
    cases e3
    split at f3
    · rename_i hl
      cases f3
      obtain ⟨q, us0, h1, h2, _⟩ := getL_live r e0
      refine ⟨_, h1, .inl ⟨rfl, _, .inl (.inl h2)⟩, sa σ E H J _ _ _ r e1 fun v H1 J1 t rs => ?_⟩
      obtain ⟨q', us, h3, h4, h5, h6⟩ := getL_live t.rel e2
      rw [h1] at h3
      cases h3
      obtain ⟨b, vs, rfl, h7, h8, h9⟩ := rs.rw
      refine ⟨q, b, us, vs, rfl, rfl, h4, h7, by rw [dps_len h6, dps_len h9]; exact lim_ok hl, ?_⟩
      exact p _ _ _ (t.trans (t.rel.write e2 h1 (dps_append h6 h9)))
    · cases f3
  | _ => cases e3
theorem dps_dropLast {J : Hp} {ds : List PyData} {vs : List V} (h : DpAll K J vs ds) : DpAll K J vs.dropLast ds.dropLast := by
  rw [List.dropLast_eq_take, List.dropLast_eq_take, dps_len h]
  exact dps_take _ h
theorem ss_pop {i : Nat} : SS K (exec F (.pop i)) (tDrop (tBM0 K "list" rPop (tVar i))) := by
  intro D σ E H J fl E' r e p
  obtain ⟨xs0, e0, f0⟩ := Option.bind_eq_some_iff.mp (show (getL E i).bind _ = some (fl, E') from e)
  clear e
  split at f0
  · cases f0
  · rename_i hl
    cases f0
    obtain ⟨q, us, h1, h2, h5, h6⟩ := getL_live r e0
    have hn : xs0.length ≠ 0 := fun z => hl (by rw [List.isEmpty_iff]; exact List.length_eq_zero_iff.mp z)
    have hlen := dps_len h6
    have hy : us[us.length - 1]? = some (us[us.length - 1]'(by omega)) := List.getElem?_eq_getElem (by omega)
    refine ⟨_, h1, .inl ⟨rfl, _, .inl (.inl h2)⟩, q, us, _, rfl, rfl, h2, hy, ?_⟩
    exact p _ _ _ (r.write e0 h1 (dps_dropLast h6))
theorem ss_rem {i : Nat} {a : CE} {ta : TE} (sa : SE K F a ta) : SS K (exec F (.rem i a)) (tDrop (tBM K "list" rRemI (tVar i) (tCons ta tNil))) := by
  intro D σ E H J fl E' r e p
  obtain ⟨xs0, e0, f0⟩ := Option.bind_eq_some_iff.mp (show (getL E i).bind _ = some (fl, E') from e)
  obtain ⟨⟨w, E1⟩, e1, f1⟩ := Option.bind_eq_some_iff.mp (show (ev F a E).bind _ = some (fl, E') from f0)
  obtain ⟨k, e2, f2⟩ := Option.bind_eq_some_iff.mp f1
  obtain ⟨xs, e3, f3⟩ := Option.bind_eq_some_iff.mp f2
  obtain ⟨ys, e4, f4⟩ := Option.map_eq_some_iff.mp f3
  have hw := asI_eq e2
  subst hw
  clear f0 f1 f2 f3 e
  cases f4
  obtain ⟨q, us0, h1, h2, _⟩ := getL_live r e0
  refine ⟨_, h1, .inl ⟨rfl, _, .inl (.inl h2)⟩, sa σ E H J _ _ _ r e1 fun v H1 J1 t rs => ?_⟩
  obtain ⟨q', us, h3, h4, h5, h6⟩ := getL_live t.rel e3
  rw [h1] at h3
  cases h3
  obtain ⟨ns, hn, hy⟩ := Option.bind_eq_some_iff.mp (show (intsD xs).bind _ = some ys from e4)
  split at hy
  · rename_i hk
    cases hy
    have hk : k ∈ ns := by simpa using hk
    have ex := ints_eq hn
    subst ex
    rw [dps_ofInts h6] at h4
    have hidx : ns.idxOf k < ns.length := List.idxOf_lt_length_of_mem hk
    refine ⟨q, ns, k, ns.idxOf k, rfl, by rw [res_int rs], h4, ?_, fun m hm z => ?_, ?_⟩
    · rw [List.getElem?_eq_getElem hidx, List.getElem_idxOf]
    · obtain ⟨hl, hz⟩ := List.getElem?_eq_some_iff.mp z
      have h := List.not_of_lt_findIdx (p := (· == k)) hm
      rw [hz] at h
      simp at h
    · rw [← List.erase_eq_eraseIdx_of_idxOf rfl]
      exact p _ _ _ (t.trans (t.rel.write e3 h1 (dps_ints _)))
  · cases hy
theorem ss_six {i : Nat} {kc a : CE} {ta tk : TE} (sk : SE K F kc tk) (sa : SE K F a ta) : SS K (exec F (.six i kc a)) (tAsg ta (gSub (tVar i) tk rSetL)) := by
  intro D σ E H J fl E' r e p
  obtain ⟨⟨w, E1⟩, e1, f1⟩ := Option.bind_eq_some_iff.mp (show (ev F a E).bind _ = some (fl, E') from e)
  obtain ⟨xs0, e0, f0⟩ := Option.bind_eq_some_iff.mp (show (getL E1 i).bind _ = some (fl, E') from f1)
  obtain ⟨⟨kw, E2⟩, e2, f2⟩ := Option.bind_eq_some_iff.mp (show (ev F kc E1).bind _ = some (fl, E') from f0)
  obtain ⟨k, e3, f3⟩ := Option.bind_eq_some_iff.mp f2
  obtain ⟨xs, e4, f4⟩ := Option.bind_eq_some_iff.mp f3
  obtain ⟨n, e5, f5⟩ := Option.map_eq_some_iff.mp f4
  have hw := asI_eq e3
  subst hw
  clear f0 f1 f2 f3 f4 e
  cases f5
  refine se_dp sa r e1 fun v H1 J1 t1 d => ?_
  obtain ⟨q, us0, h1, _⟩ := getL_live t1.rel e0
  refine ⟨_, h1, sk σ E1 H1 J1 _ E2 _ t1.rel e2 fun u H2 J2 t2 rs => ?_⟩
  obtain ⟨q', us, h3, h4, h5, h6⟩ := getL_live t2.rel e4
  rw [h1] at h3
  cases h3
  refine ⟨q, us, k, n, rfl, res_int rs, h4, by rw [dps_len h6]; exact e5, ?_⟩
  exact p _ _ _ ((t1.trans t2).trans (t2.rel.write e4 h1 (dps_set (dp_mono t2.jj _ _ d) n h6)))
theorem ss_dvm {i j : Nat} {kc a : CE} {ta tk : TE} (sk : SE K F kc tk) (sa : SE K F a ta) : SS K (exec F (.dvm i kc j a)) (tAsg ta (gTup K 2 (gCons (gSub (tVar i) tk rSetL) (gCons (gName j) gNil)))) := by
  intro D σ E H J fl E' r e p
  obtain ⟨⟨w, E1⟩, e1, f1⟩ := Option.bind_eq_some_iff.mp (show (ev F a E).bind _ = some (fl, E') from e)
  clear e
  dsimp only at f1
  split at f1
  · rename_i x y
    obtain ⟨xs0, e0, f0⟩ := Option.bind_eq_some_iff.mp f1
    obtain ⟨⟨kw, E2⟩, e2, f2⟩ := Option.bind_eq_some_iff.mp f0
    obtain ⟨k, e3, f3⟩ := Option.bind_eq_some_iff.mp f2
    have hw := asI_eq e3
    subst hw
    clear f0 f1 f2
    split at f3
    · rename_i xs e4
      obtain ⟨n, e5, f5⟩ := Option.bind_eq_some_iff.mp f3
      obtain ⟨E3, e6, f6⟩ := Option.map_eq_some_iff.mp f5
      cases f6
      refine se_dp sa r e1 fun v H1 J1 t1 d => ?_
      cases d with
      | tup hq hd =>
        cases hd with
        | cons dx hd => cases hd with
          | cons dy hd =>
            cases hd
            obtain ⟨q, us0, h1, _⟩ := getL_live t1.rel e0
            refine ⟨_, _, rfl, sqT_mono t1.rel.sub hq, rfl, _, _, rfl, _, h1, sk σ E1 H1 J1 _ E2 _ t1.rel e2 fun u H2 J2 t2 rs => ?_⟩
            obtain ⟨q', us, h3, h4, h5, h6⟩ := getL_live t2.rel e4
            rw [h1] at h3
            cases h3
            have t3 := t2.rel.write e4 h1 (dps_set (dp_mono t2.jj _ _ dx) n h6)
            refine ⟨q, us, k, n, rfl, res_int rs, h4, by rw [dps_len h6]; exact e5, _, _, rfl, rfl, ?_⟩
            exact p _ _ _ (((t1.trans t2).trans t3).trans (.put1 t3.rel (dp_mono t2.jj _ _ dy) e6))
    · cases f3
  · cases f1
/-! ### several at once -/
/-- results that lie apart -/
inductive Rs (K : PySem.W.Frag) (σ : St) (E : DE) (H J : Hp) : List V → List W → Prop where
  | nil : Rs K σ E H J [] []
  | cons {v : V} {w : W} {vs : List V} {ws : List W} : RW K H J v w → (∀ xs, w ≠ .r xs) → (w.live = true → ∀ a, v = .ref a → ¬ Own σ E a) → (w.live = true → ∀ a, v = .ref a → ∀ v' w', (v', w') ∈ vs.zip ws → w'.live = true → v' ≠ .ref a) → Rs K σ E H J vs ws → Rs K σ E H J (v :: vs) (w :: ws)
def SW (K : PySem.W.Frag) (F : Fn) (cs : CEs) (t : TA) : Prop := ∀ (σ : St) (E : DE) (H J : Hp) (ws : List W) (E' : DE) (Q : List V → Hp → Prop), Rel K H J σ E → evws F cs E = some (ws, E') →
  (∀ vs H' J', Tr K σ E H J σ E' H' J' → Rs K σ E' H' J' vs ws → (∀ v w, (v, w) ∈ vs.zip ws → w.live = true → ∀ a, v = .ref a → Own σ E a ∨ H a = none) → Q vs H') → t σ H Q
def tWs (K : PySem.W.Frag) (F : Fn) (cs : CEs) : TA := fun σ H Q => ∃ E J ws E', Rel K H J σ E ∧ evws F cs E = some (ws, E') ∧
  ∀ vs H' J', Tr K σ E H J σ E' H' J' → Rs K σ E' H' J' vs ws → (∀ v w, (v, w) ∈ vs.zip ws → w.live = true → ∀ a, v = .ref a → Own σ E a ∨ H a = none) → Q vs H'
theorem sw_W {cs : CEs} : SW K F cs (tWs K F cs) := fun σ E H J w E' Q r e fin => ⟨E, J, w, E', r, e, fin⟩
theorem sw_nil : SW K F .nil tNil := by
  intro σ E H J ws E' Q r e fin
  cases (show some (([] : List W), E) = some (ws, E') from e)
  exact fin [] H J (.refl r) .nil fun v w h => by simp at h
theorem sw_cons {a : CE} {cs : CEs} {ta : TE} {t : TA} (sa : SE K F a ta) (ss : SW K F cs t) : SW K F (.cons a cs) (tCons ta t) := by
  intro σ E H J ws E' Q r e fin
  obtain ⟨⟨w, E1⟩, e1, f1⟩ := Option.bind_eq_some_iff.mp (show (ev F a E).bind _ = some (ws, E') from e)
  obtain ⟨⟨ws', E2⟩, e2, f2⟩ := Option.map_eq_some_iff.mp f1
  cases f2
  refine sa σ E H J w E1 _ r e1 fun v H1 J1 t1 r1 => ss σ E1 H1 J1 ws' _ _ t1.rel e2 fun vs H2 J2 t2 rs hf => ?_
  have r2 := r1.step t1 t2
  refine fin (v :: vs) H2 J2 (t1.trans t2) (.cons r2.rw r2.nr r2.ne (fun l a ea v' w' hm l' ev => ?_) rs) fun v' w' hm l' a ea => ?_
  · rcases hf v' w' hm l' a ev with z | z
    · exact r1.ne l a ea z
    · obtain ⟨a', us, xs, ev', h1, _⟩ := r1.rw.own l
      have : a = a' := by rw [ev'] at ea; cases ea; rfl
      subst this
      rw [z] at h1; cases h1
  · rcases List.mem_cons.mp (show (v', w') ∈ (v, w) :: vs.zip ws' from hm) with z | z
    · cases z
      exact r1.nw l' a ea
    · rcases hf v' w' z l' a ea with q | q
      · exact t1.ow a q
      · exact .inr (t1.th a q)
def setS (σ : St) : List Nat → List V → St
  | i :: is, v :: vs => setS (σ.set i (some v)) is vs
  | _, _ => σ
/-- all the slots take their results -/
theorem bind_ws {σ0 : St} {E0 : DE} {H0 J0 : Hp} {H J : Hp} : ∀ {is : List Nat} {vs : List V} {ws : List W} {σ : St} {E E' : DE}, Tr K σ0 E0 H0 J0 σ E H J → Rs K σ E H J vs ws → (∀ v w, (v, w) ∈ vs.zip ws → w.live = true → ∀ a, v = .ref a → Own σ0 E0 a ∨ H0 a = none) →
    bindWs is ws E = some E' → Tr K σ0 E0 H0 J0 (setS σ is vs) E' H J
  | [], vs, [], σ, E, E', t, rs, _, h => by
    cases (show some E = some E' from h)
    cases rs
    exact t
  | i :: is, _, w :: ws, σ, E, E', t, rs, hf, h => by
    obtain ⟨E1, e1, e2⟩ := Option.bind_eq_some_iff.mp (show (put E i w).bind (bindWs is ws) = some E' from h)
    cases rs with
    | @cons v _ vs _ rw nr ne ap rs =>
      have t1 := t.put (v := v) ⟨rw, nr, ne, fun l a e => hf v w (List.mem_cons_self ..) l a e⟩ e1 (t.noR (put_eq e1).2.2)
      refine bind_ws (is := is) t1 ?_ (fun v' w' hm => hf v' w' (List.mem_cons_of_mem _ hm)) e2
      obtain ⟨ee, hi, _⟩ := put_eq e1
      subst ee
      -- the rest lies apart from the slot that was filled
      have own' : ∀ a, Own (σ.set i (some v)) (E.set i (some w)) a → Own σ E a ∨ (w.live = true ∧ v = .ref a) := fun a ⟨j, w', q1, q2, q3⟩ => by
        by_cases hj : i = j
        · subst hj
          rw [List.getElem?_set_self hi] at q1
          rw [List.getElem?_set_self (by rw [← t.rel.len]; exact hi)] at q3
          cases q1
          cases q3
          exact .inr ⟨q2, rfl⟩
        · rw [List.getElem?_set_ne hj] at q1 q3
          exact .inl ⟨j, w', q1, q2, q3⟩
      have key : ∀ {vs : List V} {ws : List W}, Rs K σ E H J vs ws → (∀ v' w', (v', w') ∈ vs.zip ws → w'.live = true → w.live = true → ∀ a, v = .ref a → v' ≠ .ref a) → Rs K (σ.set i (some v)) (E.set i (some w)) H J vs ws := fun {vs ws} h => by
        induction h with
        | nil => exact fun _ => .nil
        | @cons v2 w2 vs2 ws2 a1 a2 a3 a4 a5 ih =>
          intro g
          refine .cons a1 a2 (fun l a e q => ?_) a4 (ih fun v' w' hm => g v' w' (List.mem_cons_of_mem _ hm))
          rcases own' a q with z | ⟨l', z⟩
          · exact a3 l a e z
          · exact g v2 w2 (List.mem_cons_self ..) l l' a z e
      exact key rs fun v' w' hm l' l a e => ap l a e v' w' hm l'
  | [], vs, w :: ws, σ, E, E', t, rs, _, h => nomatch (show (none : Option DE) = some E' from h)
  | i :: is, vs, [], σ, E, E', t, rs, _, h => nomatch (show (none : Option DE) = some E' from h)
theorem rw_step {σ σ1 : St} {E E1 : DE} {H H1 J J1 : Hp} {v : V} {w : W} (t : Tr K σ E H J σ1 E1 H1 J1) (rw : RW K H J v w) (ne : w.live = true → ∀ a, v = .ref a → ¬ Own σ E a) : RW K H1 J1 v w ∧ (w.live = true → ∀ a, v = .ref a → ¬ Own σ1 E1 a) := by
  refine ⟨rw.keep t.jj fun c e l => ?_, fun l c e q => ?_⟩
  · obtain ⟨c', vs, xs, e2, h1, h2, _, _⟩ := rw.own l
    have ec : c = c' := by rw [e2] at e; cases e; rfl
    subst ec
    have nq := ne l c e
    refine ⟨(t.fr c _ h1 nq).trans h1.symm, ?_⟩
    cases q : J1 c with
    | none => rfl
    | some o =>
      rcases t.nw c o q with z | z | z
      · rw [h2] at z; cases z
      · rw [h1] at z; cases z
      · exact absurd z nq
  · rcases t.ow c q with z | z
    · exact ne l c e z
    · obtain ⟨c', vs, xs, e2, h1, h2, _, _⟩ := rw.own l
      have ec : c = c' := by rw [e2] at e; cases e; rfl
      subst ec
      rw [h1] at z; cases z
theorem Rs.step {σ σ1 : St} {E E1 : DE} {H H1 J J1 : Hp} {vs : List V} {ws : List W} (r : Rs K σ E H J vs ws) (t : Tr K σ E H J σ1 E1 H1 J1) : Rs K σ1 E1 H1 J1 vs ws := by
  induction r with
  | nil => exact .nil
  | cons a1 a2 a3 a4 _ ih =>
    obtain ⟨b1, b2⟩ := rw_step t a1 a3
    exact .cons b1 a2 b2 a4 ih
theorem Rs.len {σ : St} {E : DE} {H J : Hp} {vs : List V} {ws : List W} (r : Rs K σ E H J vs ws) : vs.length = ws.length := by
  induction r with
  | nil => rfl
  | cons _ _ _ _ _ ih => simp [ih]
theorem bindWs_len : ∀ {is : List Nat} {ws : List W} {E E' : DE}, bindWs is ws E = some E' → is.length = ws.length
  | [], [], _, _, _ => rfl
  | i :: is, w :: ws, E, E', h => by
    obtain ⟨E1, _, e2⟩ := Option.bind_eq_some_iff.mp (show (put E i w).bind (bindWs is ws) = some E' from h)
    simp [bindWs_len e2]
  | [], w :: ws, E, E', h => nomatch (show (none : Option DE) = some E' from h)
  | i :: is, [], E, E', h => nomatch (show (none : Option DE) = some E' from h)
theorem par_core {is : List Nat} {cs : CEs} {t : TA} (ss : SW K F cs t) {D : Ends} {σ : St} {E : DE} {H J : Hp} {fl : Fl} {E' : DE} {Q : List V → Hp → Prop} (r : Rel K H J σ E) (e : exec F (.par is cs) E = some (fl, E')) (p : Post K D σ E H J E' fl)
    (fin : ∀ vs H1, vs.length = is.length → (∀ q, H1 q = none → D.nx (setS σ is vs) (upd H1 q (.tup vs))) → D.nx (setS σ is vs) H1 → Q vs H1) : t σ H Q := by
  obtain ⟨⟨ws, E1⟩, e1, f1⟩ := Option.bind_eq_some_iff.mp (show (evws F cs E).bind _ = some (fl, E') from e)
  obtain ⟨E2, e2, f2⟩ := Option.map_eq_some_iff.mp f1
  cases f2
  refine ss σ E H J ws E1 _ r e1 fun vs H1 J1 t1 rs hf => fin vs H1 (rs.len.trans (bindWs_len e2).symm) (fun q hq => ?_) ?_
  · have t2 := Tr.own (K := K) (o := .tup vs) t1.rel hq
    exact p _ _ _ (bind_ws (t1.trans t2) (rs.step t2) hf e2)
  · exact p _ _ _ (bind_ws t1 rs hf e2)
theorem ss_par2 {i j : Nat} {cs : CEs} {t : TA} (ss : SW K F cs t) : SS K (exec F (.par [i, j] cs)) (tPar i j t) := fun D σ E H J fl E' r e p =>
  par_core ss r e p fun vs H1 hl _ h => match vs, hl, h with
    | [v, w], _, h => ⟨v, w, rfl, h⟩
theorem ss_par3 {i j l : Nat} {cs : CEs} {t : TA} (ss : SW K F cs t) : SS K (exec F (.par [i, j, l] cs)) (tPar3 i j l t) := fun D σ E H J fl E' r e p =>
  par_core ss r e p fun vs H1 hl _ h => match vs, hl, h with
    | [u, v, w], _, h => ⟨u, v, w, rfl, h⟩
def gNs : List Nat → TGs
  | [] => gNil
  | i :: is => gCons (gName i) (gNs is)
theorem gNs_run : ∀ {is : List Nat} {vs : List V} {σ : St} {H : Hp} {Q : St → Hp → Prop}, vs.length = is.length → Q (setS σ is vs) H → gNs is vs σ H Q
  | [], [], σ, H, Q, _, h => ⟨rfl, h⟩
  | i :: is, v :: vs, σ, H, Q, hl, h => ⟨v, vs, rfl, gNs_run (is := is) (by simpa using hl) h⟩
  | [], _ :: _, _, _, _, hl, _ => by simp at hl
  | _ :: _, [], _, _, _, hl, _ => by simp at hl
theorem ss_parT {is : List Nat} {cs : CEs} {t : TA} (hz : is.length ≤ sizeLine) (ss : SW K F cs t) : SS K (exec F (.par is cs)) (tAsg (tTup t) (gTup K is.length (gNs is))) := fun D σ E H J fl E' r e p =>
  par_core ss r e p fun vs H1 hl h _ => ⟨by rw [hl]; exact hz, fun q hq => ⟨q, vs, rfl, .inl (.inl upd_same), hl, gNs_run hl (h q hq)⟩⟩
end
end PV
end

section
set_option Elab.async false
set_option linter.all false
set_option maxRecDepth 100000
set_option maxHeartbeats 4000000
set_option autoImplicit false
/-! PVr: the induction over statements -/
namespace PV
open PySem PySem.Spec L2
open PyProof.Rows hiding St

section
variable {G : Glob} {F : Fn} {k : Nat} {sc : Scope} {X : Cx}
/-- a def's body -/
structure BOk (G : Glob) (F : Fn) (k : Nat) (sc : Scope) (X : Cx) : Prop where
  ok : XOk G F k sc X
  scq : X.env.scope = sc
  kind : sc.kind = .function
  fn : ∀ x, X.fn x = true
  ps : PassesOwn (model X.prog X.w) X.A X.env X.xe
theorem lcl_eq {x : Str} : lclB sc x = (sc.names.lookup x == some .local) := by
  unfold lclB
  cases sc.names.lookup x with
  | none => rfl
  | some k => cases k <;> rfl
theorem lcl_ok (B : BOk G F k sc X) {x : Str} (h : lclB sc x = true) : X.env.scope.names.lookup x = some .local := by
  rw [lcl_eq] at h
  rw [B.scq]
  simpa using h
theorem kind_eq (B : BOk G F k sc X) (x : Str) : X.env.kindOf x = sc.names.lookup x := by
  show X.env.scope.names.lookup x = _
  rw [B.scq]
theorem blockKind_eq (B : BOk G F k sc X) : X.env.blockKind = .function := by
  unfold Env.blockKind
  rw [B.scq, B.kind]; rfl
theorem sw_ok (B : BOk G F k sc X) {ts vs : List Expr} {kt k2 : Nat} {pt p2 : Pos} {r : Option (List Str)} (h : swQ sc ts vs = some r) : swappedStores [.Tuple ts kt pt] (.Tuple vs k2 p2) X.env = pure r := by
  have hb : (X.env.blockKind != .function) = false := by rw [blockKind_eq B]; rfl
  unfold swQ at h
  have key : ∀ (f : Expr → Bool) (g : Nat → Expr → Option Str) (u : Sem (Option (List Str))), (∀ e, f e = isStar e) → (∀ l e, g l e = nmOf sc l e) →
      (if (!(ts.length == 2 || ts.length == 3) || vs.length != ts.length || X.env.blockKind != .function) = true then pure none
       else if vs.any f = true then pure none
       else if ((ts.filterMap (g ((ts.head?.map (·.pos.line)).getD 0))).length != ts.length || (ts.filterMap (g ((ts.head?.map (·.pos.line)).getD 0))).eraseDups.length != (ts.filterMap (g ((ts.head?.map (·.pos.line)).getD 0))).length) = true then pure none
       else if vs.all (foldedForSure 8) = true then pure none
       else if vs.all (constantsAlone 8) = true then u
       else (pure (some (ts.filterMap (g ((ts.head?.map (·.pos.line)).getD 0)))) : Sem (Option (List Str)))) = pure r := by
    intro f g u hf hg
    have hf : f = isStar := funext hf
    have hg : g = nmOf sc := funext fun l => funext (hg l)
    subst hf hg
    rw [hb, Bool.or_false]
    split at h
    · rename_i h1
      cases h
      rw [if_pos h1]
    · rename_i h1
      rw [if_neg h1]
      split at h
      · rename_i h2
        cases h
        rw [if_pos h2]
      · rename_i h2
        rw [if_neg h2]
        dsimp only at h
        split at h
        · rename_i h3
          cases h
          rw [if_pos h3]
        · rename_i h3
          rw [if_neg h3]
          split at h
          · rename_i h4
            cases h
            rw [if_pos h4]
          · rename_i h4
            rw [if_neg h4]
            split at h
            · cases h
            · rename_i h5
              cases h
              rw [if_neg h5]
  unfold swappedStores
  refine key (fun | .Starred .. => true | _ => false) (fun l => fun | .Name id pos => if X.env.kindOf id == some .local && pos.line == l then some id else none | _ => none) _ (fun e => by cases e <;> rfl) fun l e => ?_
  cases e <;> first | rfl | skip
  rename_i id pos
  dsimp only [nmOf]
  rw [lcl_eq, kind_eq B]
theorem swSole_ok {tg e : Expr} {l : Nat} {env : Env} (h : ∀ x p, tg ≠ .Name x p) : swapsWithSole [tg] e l env = pure false := by
  cases tg <;> first | exact absurd rfl (h _ _) | (cases e <;> rfl)
theorem sw_list {elt : Expr} {gs : List Comprehension} {scope : Scope} {pos py : Pos} {y : Str} {l : Nat} {env : Env} :
    swapsWith (.ListComp elt gs scope pos) (some (.Name y py)) l env = pure (env.blockKind == .function && env.kindOf y == some .local && py.line == pos.line && !(scope.names.any fun (n, k) => n == y && (k == .local || k == .cell))) := rfl
/-! ### assignments -/
theorem asg_name (B : BOk G F k sc X) {x : Str} {p pos : Pos} {v : Expr} {i : Nat} {c : CE} (hi : slotSt G sc x = some i) (hc : cE G sc v = some c) : PS X (.Assign [.Name x p] v pos) (tS X.K (exec F (.set i c))) := by
  obtain ⟨a, b, d⟩ := slotSt_ok B.ok hi
  have g := gd B.ok hc
  have plain : swapsWith v (some (.Name x p)) pos.line X.env = pure false → PS X (.Assign [.Name x p] v pos) (tS X.K (exec F (.set i c))) := fun hs => (ps_set B.ok.nd' a b g.v hs d).to (ss_set se_V)
  by_cases hl : ∃ elt gs scope p2, v = .ListComp elt gs scope p2
  · obtain ⟨elt, gs, scope, p2, rfl⟩ := hl
    cases hb : (X.env.blockKind == .function && X.env.kindOf x == some .local && p.line == p2.line && !(scope.names.any fun (n, k) => n == x && (k == .local || k == .cell))) with
    | false => exact plain (by rw [sw_list, hb])
    | true =>
      have hy : X.env.scope.names.lookup x = some .local := by
        simp only [Bool.and_eq_true] at hb
        have := hb.1.1.2
        have : X.env.kindOf x = some .local := by simpa using this
        exact this
      obtain ⟨tg, it, ifs, own, wi, g2, tt, te, rfl, L, hs, hv⟩ := lc_parts (gd_all (G := G) (F := F) (k := k) _) (Nat.le_refl _) B.ok hc
      exact (ps_setLc B.ok.calm B.ok.nd' a hy (by rw [sw_list, hb]) L.hi L.ok L.hg L.ht L.he L.hs).to (ss_set hs)
  · refine plain ?_
    cases v <;> first | rfl | exact absurd ⟨_, _, _, _, rfl⟩ hl | exact nomatch (show (none : Option CE) = some c from hc)
theorem ses_of (B : BOk G F k sc X) : ∀ {es : List Expr} {cs : CEs}, es.any isStar = false → allS (cL G sc es) = some cs → ∃ t, PA X es t ∧ SW X.K F cs t
  | [], cs, _, h => by
    rw [cL] at h
    cases (show some CEs.nil = some cs from h)
    exact ⟨_, pa_nil, sw_nil⟩
  | e :: es, cs, hs, h => by
    rw [List.any_cons, Bool.or_eq_false_iff] at hs
    rw [cL] at h
    cases hc : cE G sc e with
    | none => rw [hc] at h; exact nomatch (show (none : Option CEs) = some cs from h)
    | some c =>
      rw [hc] at h
      obtain ⟨cs', h1, h2⟩ := Option.map_eq_some_iff.mp (show (allS (cL G sc es)).map (.cons c) = some cs from h)
      subst h2
      obtain ⟨t, p, q⟩ := ses_of B hs.2 h1
      exact ⟨_, pa_cons (gd B.ok hc).v p (star_cons hs.1), sw_cons se_V q⟩
theorem slots_ok (B : BOk G F k sc X) : ∀ {ts : List Expr} {is : List Nat}, slotsOf G sc ts = some is → PGs X ts (gNs is) ∧ (assignEach ts X.env).findIdx? (·.1) = none ∧ (assignEach ts X.env).length = is.length
  | [], is, h => by
    cases (show some ([] : List Nat) = some is from h)
    exact ⟨pgs_nil, rfl, rfl⟩
  | t :: r, is, h => by
    cases t <;> first | (exact nomatch (show (none : Option (List Nat)) = some is from h)) | skip
    rename_i x p
    have h : (match slotSt G sc x, slotsOf G sc r with
      | some i, some l => some (i :: l)
      | _, _ => none) = some is := h
    split at h
    · rename_i i l h1 h2
      cases h
      obtain ⟨a, b, d⟩ := slotSt_ok B.ok h1
      obtain ⟨p1, p2, p3⟩ := slots_ok B h2
      refine ⟨pgs_cons (pg_name B.ok.nd' a b d) p1 rfl, ?_, ?_⟩
      · show List.findIdx? (·.1) ((false, _) :: assignEach r X.env) = none
        rw [List.findIdx?_cons]
        simp [p2]
      · show (assignEach r X.env).length + 1 = _
        rw [p3]; rfl
    · cases h
theorem slotsOf_len : ∀ {ts : List Expr} {is : List Nat}, slotsOf G sc ts = some is → is.length = ts.length
  | [], is, h => by cases (show some ([] : List Nat) = some is from h); rfl
  | t :: r, is, h => by
    cases t <;> first | (exact nomatch (show (none : Option (List Nat)) = some is from h)) | skip
    rename_i x p
    have h : (match slotSt G sc x, slotsOf G sc r with
      | some i, some l => some (i :: l)
      | _, _ => none) = some is := h
    split at h
    · rename_i i l h1 h2
      cases h
      simp [slotsOf_len h2]
    · cases h
theorem slots_cons {t : Expr} {r : List Expr} {is : List Nat} (h : slotsOf G sc (t :: r) = some is) : ∃ x p i l, t = .Name x p ∧ slotSt G sc x = some i ∧ slotsOf G sc r = some l ∧ is = i :: l := by
  cases t <;> first | (exact nomatch (show (none : Option (List Nat)) = some is from h)) | skip
  rename_i x p
  have h : (match slotSt G sc x, slotsOf G sc r with
    | some i, some l => some (i :: l)
    | _, _ => none) = some is := h
  split at h
  · rename_i i l h1 h2
    cases h
    exact ⟨x, p, i, l, rfl, h1, h2, rfl⟩
  · cases h
theorem nm_full {line : Nat} : ∀ {ts : List Expr}, (ts.filterMap (nmOf sc line)).length = ts.length → (∀ t ∈ ts, ∃ y, nmOf sc line t = some y)
  | [], _ => fun t h => by cases h
  | t :: r, h => by
    rw [List.filterMap_cons] at h
    have hle : (r.filterMap (nmOf sc line)).length ≤ r.length := List.length_filterMap_le ..
    cases hq : nmOf sc line t with
    | none =>
      rw [hq] at h
      have h : (r.filterMap (nmOf sc line)).length = r.length + 1 := h
      omega
    | some y =>
      rw [hq] at h
      have h : (r.filterMap (nmOf sc line)).length + 1 = r.length + 1 := h
      intro t' ht
      rcases List.mem_cons.mp ht with e | ht
      · exact ⟨y, e ▸ hq⟩
      · exact nm_full (by omega) t' ht
theorem nm_name {line : Nat} {x : Str} {p : Pos} {y : Str} (h : nmOf sc line (.Name x p) = some y) : y = x ∧ lclB sc x = true := by
  replace h : (if lclB sc x && p.line == line then some x else none) = some y := h
  split at h
  · rename_i hc
    cases h
    rw [Bool.and_eq_true] at hc
    exact ⟨rfl, hc.1⟩
  · cases h
theorem par_some (B : BOk G F k sc X) {ts vs : List Expr} {kt k2 line : Nat} {pt p2 pos : Pos} {is : List Nat} {names : List Str} {es : CEs} {t : TA} (hnd : is.Nodup) (hi : slotsOf G sc ts = some is) (h2 : ts.length = 2 ∨ ts.length = 3) (hlen : ts.length = vs.length)
    (full : ∀ t ∈ ts, ∃ y, nmOf sc line t = some y) (hs : ts.filterMap (nmOf sc line) = names) (hw : swappedStores [.Tuple ts kt pt] (.Tuple vs k2 p2) X.env = pure (some names)) (hso : swapsWithSole [.Tuple ts kt pt] (.Tuple vs k2 p2) pos.line X.env = pure false)
    (he : allS (cL G sc vs) = some es) (pa : PA X vs t) (sw' : SW X.K F es t) : PS X (.Assign [.Tuple ts kt pt] (.Tuple vs k2 p2) pos) (tS X.K (exec F (.par is es))) := by
  have nd := B.ok.nd'
  cases ts with
  | nil => simp at h2
  | cons t1 ts =>
    obtain ⟨x, px, i, l1, rfl, s1, hi1, rfl⟩ := slots_cons hi
    cases ts with
    | nil => simp at h2
    | cons t2 ts =>
      obtain ⟨y, py, j, l2, rfl, s2, hi2, rfl⟩ := slots_cons hi1
      obtain ⟨x', q1⟩ := full _ (List.mem_cons_self ..)
      obtain ⟨y', q2⟩ := full _ (List.mem_cons_of_mem _ (List.mem_cons_self ..))
      obtain ⟨e1, n1⟩ := nm_name q1
      obtain ⟨e2, n2⟩ := nm_name q2
      rw [e1] at q1
      rw [e2] at q2
      cases ts with
      | nil =>
        cases (show some ([] : List Nat) = some l2 from hi2)
        match vs, hlen, pa, hw, hso with
        | [a, b], _, pa, hw, hso =>
          have hnames : names = [x, y] := by
            rw [← hs, List.filterMap_cons, q1, List.filterMap_cons, q2]; rfl
          rw [hnames] at hw
          simp only [List.nodup_cons, List.mem_cons, List.not_mem_nil, or_false, not_false_eq_true, List.nodup_nil, and_true] at hnd
          exact (ps_par B.ok.calm nd (slotSt_ok B.ok s1).1 (slotSt_ok B.ok s2).1 hnd (lcl_ok B n1) (lcl_ok B n2) pa hw hso).to (ss_par2 sw')
      | cons t3 ts =>
        obtain ⟨z, pz, m, l3, rfl, s3, hi3, rfl⟩ := slots_cons hi2
        obtain ⟨z', q3⟩ := full _ (List.mem_cons_of_mem _ (List.mem_cons_of_mem _ (List.mem_cons_self ..)))
        obtain ⟨e3, n3⟩ := nm_name q3
        rw [e3] at q3
        cases ts with
        | cons t4 ts => simp at h2
        | nil =>
          cases (show some ([] : List Nat) = some l3 from hi3)
          match vs, hlen, pa, hw, hso with
          | [a, b, c], _, pa, hw, hso =>
            have hnames : names = [x, y, z] := by
              rw [← hs, List.filterMap_cons, q1, List.filterMap_cons, q2, List.filterMap_cons, q3]; rfl
            rw [hnames] at hw
            simp only [List.nodup_cons, List.mem_cons, List.not_mem_nil, or_false, not_or, not_false_eq_true, List.nodup_nil, and_true] at hnd
            exact (ps_par3 B.ok.calm nd (slotSt_ok B.ok s1).1 (slotSt_ok B.ok s2).1 (slotSt_ok B.ok s3).1 hnd.1.1 hnd.1.2 hnd.2 (lcl_ok B n1) (lcl_ok B n2) (lcl_ok B n3) pa hw hso).to (ss_par3 sw')
theorem asg_par (B : BOk G F k sc X) {ts vs : List Expr} {kt k2 : Nat} {pt p2 pos : Pos} {is : List Nat} {sw : Option (List Str)} {es : CEs} (hv : vs.any isStar = false) (hi : slotsOf G sc ts = some is) (hs : swQ sc ts vs = some sw) (he : allS (cL G sc vs) = some es)
    (hnd : is.Nodup) (hlen : ts.length = vs.length) (hsz : ts.length ≤ sizeLine) : PS X (.Assign [.Tuple ts kt pt] (.Tuple vs k2 p2) pos) (tS X.K (exec F (.par is es))) := by
  obtain ⟨t, pa, sw'⟩ := ses_of (F := F) (k := k) B hv he
  have hw := sw_ok B (kt := kt) (k2 := k2) (pt := pt) (p2 := p2) hs
  have hso : swapsWithSole [.Tuple ts kt pt] (.Tuple vs k2 p2) pos.line X.env = pure false := rfl
  have hll := slotsOf_len hi
  cases sw with
  | none =>
    obtain ⟨p1, p2', p3⟩ := slots_ok B hi
    exact (ps_asg (pe_tup pa) (pg_tup (n := is.length) B.ok.calm p1 p3 p2') hso hw).to (ss_parT (by rw [hll]; exact hsz) sw')
  | some names =>
    -- two or three plain local names
    unfold swQ at hs
    split at hs
    · cases hs
    · rename_i h1
      split at hs
      · cases hs
      · dsimp only at hs
        split at hs
        · cases hs
        · rename_i h3
          split at hs
          · cases hs
          · split at hs
            · cases hs
            · have hs := Option.some.inj (Option.some.inj hs)
              have h3 : ¬ ((names.length != ts.length || names.eraseDups.length != names.length) = true) := by rw [← hs]; exact h3
              simp only [Bool.or_eq_true, bne_iff_ne, ne_eq, not_or, Decidable.not_not] at h3
              have hn1 := h3.1
              simp only [Bool.or_eq_true, Bool.not_eq_true', bne_iff_ne, ne_eq, not_or, Decidable.not_not] at h1
              have h2 : ts.length = 2 ∨ ts.length = 3 := by
                have := h1.1
                simp only [Bool.not_eq_false, Bool.or_eq_true, beq_iff_eq] at this
                exact this
              rw [← hs] at hn1
              have full := nm_full hn1
              have nd := B.ok.nd'
              exact par_some B hnd hi h2 hlen full hs hw hso he pa sw'
theorem hs_tup {ts : List Expr} {kt : Nat} {pt : Pos} {v : Expr} (h : ∀ vs k2 p2, v ≠ .Tuple vs k2 p2) : swappedStores [.Tuple ts kt pt] v X.env = pure none := by
  cases v <;> first | rfl | exact absurd rfl (h _ _ _)
theorem asg_ok (B : BOk G F k sc X) {t v : Expr} {pos : Pos} : PS X (.Assign [t] v pos) (tS X.K (exec F (orStuck (cAsg G sc t v)))) := by
  cases h : cAsg G sc t v with
  | none => exact ps_never.to ss_stuck
  | some s =>
    show PS X (.Assign [t] v pos) (tS X.K (exec F s))
    unfold cAsg at h
    split at h
    · split at h
      · rename_i i c hi hc
        cases h
        exact asg_name B hi hc
      · cases h
    · rename_i ts kt pt
      split at h
      · rename_i vs k2 p2
        split at h
        · cases h
        · rename_i hst
          simp only [Bool.or_eq_true, not_or, Bool.not_eq_true] at hst
          split at h
          · rename_i is sw es h1 h2 h3
            split at h
            · rename_i hc
              cases h
              simp only [Bool.and_eq_true, decide_eq_true_eq] at hc
              exact asg_par B hst.1 h1 h2 h3 hc.1.1 hc.1.2 (Nat.le_trans hc.2 (by rw [sizeLine_eq]; decide))
            · cases h
          · cases h
      · rename_i hv
        split at h
        · rename_i x px kk p3 y py
          split at h
          · rename_i i kc j c h1 h2 h3 h4
            split at h
            · cases h
              obtain ⟨a1, a2, a3, a4⟩ := slot_ok B.ok h1
              obtain ⟨b1, b2, b3⟩ := slotSt_ok B.ok h3
              exact (ps_asg (gd B.ok h4).v (pg_tup (n := 2) B.ok.calm (pgs_cons (pg_sub (pe_var a1 a2 a3 a4) (gd B.ok h2).v set_list) (pgs_cons (pg_name B.ok.nd' b1 b2 b3) pgs_nil rfl) rfl) rfl rfl) (swSole_ok fun _ _ z => nomatch z) (hs_tup hv)).to (ss_dvm se_V se_V)
            · cases h
          · cases h
        · split at h
          · cases h
          · split at h
            · rename_i tg c h1 h2
              cases h
              have ht : cT G sc (.Tuple ts kt pt) = some (.t tg) := by rw [cT, h1]; rfl
              obtain ⟨g, p1, p2⟩ := tg_ok B.ok ht
              exact (ps_asg (gd B.ok h2).v p1 (swSole_ok fun _ _ z => nomatch z) (hs_tup hv)).to (ss_unp se_V p2)
            · cases h
    · rename_i x px kk p3
      split at h
      · cases h
      · rename_i hsl
        split at h
        · rename_i i kc c h1 h2 h3
          cases h
          obtain ⟨a1, a2, a3, a4⟩ := slot_ok B.ok h1
          exact (ps_asg (gd B.ok h3).v (pg_sub (pe_var a1 a2 a3 a4) (gd B.ok h2).v set_list (fun v => by cases kk <;> first | rfl | exact (hsl _ _ _ _ rfl).elim)) (swSole_ok fun _ _ z => nomatch z) rfl).to (ss_six se_V se_V)
        · cases h
    · cases h
/-! ### calls as statements -/
theorem expr_ok (B : BOk G F k sc X) {e : Expr} {pos : Pos} : PS X (.Expr e pos) (tS X.K (exec F (orStuck (cExpr G sc e)))) := by
  cases h : cExpr G sc e with
  | none => exact ps_never.to ss_stuck
  | some s =>
    show PS X (.Expr e pos) (tS X.K (exec F s))
    unfold cExpr at h
    split at h
    · cases h
      exact ps_doc.to ss_pass
    · rename_i f args kws cp
      split at h
      · rename_i c hc
        cases h
        split at hc
        · rename_i x px m ap a
          split at hc
          · cases hc
          · rename_i hl
            have hl : (ap.endLine == cp.line) = true := by simpa using hl
            split at hc
            · rename_i i c1 h1 h2
              obtain ⟨a1, a2, a3, a4⟩ := slot_ok B.ok h1
              have pv : PE X (.Name x px) (tVar i) := pe_var a1 a2 a3 a4
              have ga := gd B.ok h2
              split at hc
              · cases hc
              · rename_i hs
                have hs : isStar a = false := by simpa using hs
                have few : ((backTo cp (starEach [a] X.env)).all (fun x => !x.1) && (backToKw cp (keywordEach [] X.env)).all (fun x => x.1.isSome) && decide ([a].length + ([] : List Keyword).length + (if ([] : List Keyword).isEmpty then 0 else 1) < 30)) = true := by rw [star_cons hs]; rfl
                split at hc
                · rename_i hm
                  cases hc
                  subst hm
                  exact (ps_expr (pe_bm PySem.F.plainAttrs_list PySem.F.slot_list_append PySem.F.type_list_append mt_append pv (pa_cons ga.v pa_nil (star_cons hs)) rfl few hl (star_cons hs) rfl) rfl).to (ss_app se_V)
                · split at hc
                  · rename_i hm
                    cases hc
                    subst hm
                    exact (ps_expr (pe_bm PySem.F.plainAttrs_list PySem.F.slot_list_extend PySem.F.type_list_extend mt_extend pv (pa_cons ga.v pa_nil (star_cons hs)) rfl few hl (star_cons hs) rfl) rfl).to (ss_ext se_V)
                  · split at hc
                    · rename_i hm
                      cases hc
                      subst hm
                      exact (ps_expr (pe_bm PySem.F.plainAttrs_list PySem.F.slot_list_remove PySem.F.type_list_remove mt_remove pv (pa_cons ga.v pa_nil (star_cons hs)) rfl few hl (star_cons hs) rfl) rfl).to (ss_rem se_V)
                    · cases hc
            · cases hc
        · rename_i x px m ap
          split at hc
          · cases hc
          · rename_i hcd
            simp only [Bool.or_eq_true, not_or, Bool.not_eq_true', Bool.not_eq_true, Bool.not_eq_false, decide_eq_false_iff_not, Decidable.not_not] at hcd
            obtain ⟨hl, hm⟩ := hcd
            obtain ⟨i, h1, h2⟩ := Option.map_eq_some_iff.mp hc
            cases h2
            subst hm
            obtain ⟨a1, a2, a3, a4⟩ := slot_ok B.ok h1
            have pv : PE X (.Name x px) (tVar i) := pe_var a1 a2 a3 a4
            exact (ps_expr (pe_bm0 PySem.F.plainAttrs_list PySem.F.slot_list_pop PySem.F.type_list_pop mt_pop pv rfl hl) rfl).to ss_pop
        · rename_i oe m ap a nn
          split at hc
          · cases hc
          · rename_i hcd
            simp only [Bool.or_eq_true, not_or, Bool.not_eq_true', Bool.not_eq_true, Bool.not_eq_false, decide_eq_false_iff_not, Decidable.not_not] at hcd
            obtain ⟨⟨⟨hp, hl⟩, hs⟩, hm⟩ := hcd
            split at hc
            · rename_i o1 c1 h1 h2
              subst hm
              have go := gd B.ok h1
              have ga := gd B.ok h2
              have few : ((backTo cp (starEach [a] X.env)).all (fun x => !x.1) && (backToKw cp (keywordEach [] X.env)).all (fun x => x.1.isSome) && decide ([a].length + ([] : List Keyword).length + (if ([] : List Keyword).isEmpty then 0 else 1) < 30)) = true := by rw [star_cons hs]; rfl
              split at hc
              · rename_i ct ht
                cases hc
                unfold tap1Of at ht
                split at ht
                · rename_i e2 k2 kk2 p2 sp
                  split at ht
                  · rename_i f es q d hx hd
                    split at ht
                    · rename_i hk
                      cases ht
                      rw [h2] at hd
                      cases hd
                      obtain ⟨t, g1, g2, _⟩ := gd_X (F := F) (k := k) B.ok hx
                      have pt := pe_ix (pos := sp) (b := .Constant (.int k2) kk2 p2) (ix_tup (X := X)) g1 (pe_int (X := X) (i := k2)) (fun _ _ => rfl)
                      have e0 : k2 = ((k2.toNat : Nat) : Int) := by omega
                      have e1 : tC (V.int k2) = tC (V.int ((k2.toNat : Nat) : Int)) := congrArg (fun z => tC (V.int z)) e0
                      rw [e1] at pt
                      exact (ps_expr (pe_bm PySem.F.plainAttrs_list PySem.F.slot_list_append PySem.F.type_list_append mt_append pt (pa_cons ga.v pa_nil (star_cons hs)) (base_ok hp) few hl (star_cons hs) rfl) rfl).to (ss_tap1 g2 se_V)
                    · cases ht
                  · cases ht
                · cases ht
              · cases hc
                exact (ps_expr (pe_bm PySem.F.plainAttrs_list PySem.F.slot_list_append PySem.F.type_list_append mt_append go.v (pa_cons ga.v pa_nil (star_cons hs)) (base_ok hp) few hl (star_cons hs) rfl) rfl).to (ss_apt se_V se_V)
            · cases hc
        · cases hc
      · obtain ⟨c, h1, h2⟩ := Option.map_eq_some_iff.mp h
        subst h2
        exact (ps_expr (gd B.ok h1).v rfl).to (ss_ex se_V)
    · cases h
/-! ### all statements -/
theorem sxs_of (B : BOk G F k sc X) : ∀ {es : List Expr} {cs : CEs}, es.any isStar = false → allS (cL G sc es) = some cs → mkAll cs = true → ∃ t, PA X es t ∧ SA X.K F cs t ∧ SX X.K F cs t
  | [], cs, _, h, _ => by
    rw [cL] at h
    cases (show some CEs.nil = some cs from h)
    exact ⟨_, pa_nil, sa_nil, sx_nil⟩
  | e :: es, cs, hs, h, hm => by
    rw [List.any_cons, Bool.or_eq_false_iff] at hs
    rw [cL] at h
    cases hc : cE G sc e with
    | none => rw [hc] at h; exact nomatch (show (none : Option CEs) = some cs from h)
    | some c =>
      rw [hc] at h
      obtain ⟨cs', h1, h2⟩ := Option.map_eq_some_iff.mp (show (allS (cL G sc es)).map (.cons c) = some cs from h)
      subst h2
      have hm : ((isV c || mkE c) && mkAll cs') = true := hm
      rw [Bool.and_eq_true] at hm
      obtain ⟨t, p, q, q2⟩ := sxs_of B hs.2 h1 hm.2
      have g := gd B.ok hc
      by_cases hv : ∃ i, c = .var i
      · obtain ⟨i, rfl⟩ := hv
        exact ⟨_, pa_cons g.o p (star_cons hs.1), sa_cons (se_soV so_O) q, sx_cons (s1_var so_O) q2⟩
      · exact ⟨_, pa_cons g.v p (star_cons hs.1), sa_cons se_V q, sx_cons (s1_e (fun i z => hv ⟨i, z⟩) se_V) q2⟩
theorem retZ_ok (B : BOk G F k sc X) {e : Expr} {pos : Pos} {c : CS} (h : retZOf G sc e = some c) : PS X (.Return (some e) pos) (tS X.K (exec F c)) := by
  have ok := B.ok
  unfold retZOf at h
  split at h
  · rename_i elt tg z zp ea x xp cp ifs at0 scope lp y yp kk tp
    split at h
    · rename_i hc
      simp only [Bool.and_eq_true, decide_eq_true_eq, Bool.not_eq_true'] at hc
      obtain ⟨⟨⟨⟨h0, hb⟩, hz⟩, hst⟩, hxy⟩ := hc
      subst h0 hxy
      split at h
      · rename_i tg' a i cd ce h1 h2 h3 h4 h5
        split at h
        · rename_i hf
          cases h
          simp only [Bool.and_eq_true, List.all_eq_true, decide_eq_true_eq] at hf
          obtain ⟨⟨hf1, hf2⟩, hf3⟩ := hf
          obtain ⟨ez, z1, z2, z3⟩ := blt_ok ok hz
          subst ez
          have bo := fun s H C cl fp => blk_ok ok scope s H C cl fp
          have okb := blkOk_of ok hb
          obtain ⟨a1, a2, a3, a4⟩ := slot_ok ok h3
          have pv : PE X (.Name y xp) (tVar i) := pe_var a1 a2 a3 a4
          have pv2 : PE X (.Name y yp) (tVar i) := pe_var a1 a2 a3 a4
          have hg : ∀ (s : Shared) (H : Hp) (C : Addr) (cl : List (Str × Addr)) (fp : List Addr), PG (X.blk s H scope (compEnvC scope cl C X.env) fp) tg (tTg X.K tg') := fun s H C cl fp => by
            obtain ⟨g, p1, p2⟩ := tg_ok (bo s H C cl fp) h1
            exact p1.to p2
          have ht : ∀ (s : Shared) (H : Hp) (C : Addr) (cl : List (Str × Addr)) (fp : List Addr), PTs (X.blk s H scope (compEnvC scope cl C X.env) fp) ifs (tCo X.K F cd) := fun s H C cl fp => by
            cases ifs with
            | nil =>
              rw [cC] at h4
              cases h4
              exact pts_nil.to sc_no
            | cons t r =>
              cases r with
              | cons t' r => unfold cC at h4; cases h4
              | nil =>
                unfold cC at h4
                obtain ⟨x, q1, q2⟩ := Option.map_eq_some_iff.mp h4
                subst q2
                exact (pts_one ((gd (bo s H C cl fp) q1).t (hf3 t (List.mem_cons_self ..)))).to (sc_yes st_T)
          have he : ∀ (s : Shared) (H : Hp) (C : Addr) (cl : List (Str × Addr)) (fp : List Addr), PE (X.blk s H scope (compEnvC scope cl C X.env) fp) elt (tV X.K F ce) := fun s H C cl fp => (gd (bo s H C cl fp) h5).v
          have hT : ∃ elts kk p, tg = .Tuple elts kk p := by
            cases tg' with
            | v i => cases hf1
            | t ts =>
              cases tg <;> first | (exact nomatch (show (none : Option CT) = some _ from h1)) | skip
              · rename_i x p
                rw [cT] at h1
                obtain ⟨i, _, e⟩ := Option.map_eq_some_iff.mp h1
                cases e
              · exact ⟨_, _, _, rfl⟩
          obtain ⟨elts, kk2, tp2, rfl⟩ := hT
          have hi : PI X (.Tuple elts kk2 tp2) (.Call (.Name "zip" zp) [ea, .Name y xp] [] cp) (iZipM X.K (tCons (tV X.K F a) (tCons (tVar i) tNil))) :=
            pi_zipM z1 z2 (pa_cons (gd ok h2).v (pa_cons pv pa_nil rfl) (star_cons hst)) (star_cons hst) (star_none rfl)
          have pl := pe_lc (pos := lp) ok.calm ok.nd' hi okb hg ht he (fun _ => rfl)
          exact (ps_ret (pe_tup (pa_cons pl (pa_cons pv2 pa_nil rfl) rfl))).to (ss_retZ se_V sg_T hf2 sc_C se_V)
        · cases h
      · cases h
    · cases h
  · cases h
theorem ret_ok (B : BOk G F k sc X) {e : Expr} {pos : Pos} : PS X (.Return (some e) pos) (tS X.K (exec F (retOf G sc e))) := by
  unfold retOf
  split
  · rename_i c hz
    exact retZ_ok B hz
  split
  · exact ps_never.to ss_stuck
  · rename_i c hc
    have plain : PS X (.Return (some e) pos) (tS X.K (exec F (.ret c))) := by
      have g := gd B.ok hc
      by_cases hv : ∃ i, c = .var i
      · obtain ⟨i, rfl⟩ := hv
        exact (ps_ret g.o).to (ss_retV so_O)
      · exact (ps_ret g.v).to (ss_ret (fun i z => hv ⟨i, z⟩) se_V)
    split
    · rename_i f es q hx
      split at hx
      · obtain ⟨t, h1, h2, _⟩ := gd_X (F := F) (k := k) B.ok hx
        exact (ps_ret h1).to (ss_retC h2)
      · cases hx
    · split
      · rename_i es
        split
        · rename_i ha
          simp only [Bool.and_eq_true] at ha
          obtain ⟨⟨ht, ha⟩, _⟩ := ha
          cases e <;> first | (exact absurd ht Bool.false_ne_true) | skip
          rename_i vs kk pt
          unfold cE at hc
          split at hc
          · cases hc
          · rename_i hst
            obtain ⟨es', h1, h2⟩ := Option.map_eq_some_iff.mp hc
            cases h2
            obtain ⟨t, p1, p2, p3⟩ := sxs_of (F := F) (k := k) B (by simpa using hst) h1 ha
            exact (ps_ret (pe_tup p1)).to (ss_retT p2 p3)
        · exact plain
      · exact plain
theorem ap_none (B : BOk G F k sc X) {x : Str} {n i : Nat} {s : Stmt} (hx : slotOf G sc x = some i) (h : apNone x (n : Int) s = true) : PS X s (tAp X.K (tVar i) n (tC .non)) := by
  unfold apNone at h
  split at h
  · rename_i y py j kj pj ps m ap kn pn cp pos
    simp only [Bool.and_eq_true, decide_eq_true_eq] at h
    obtain ⟨⟨⟨h1, h2⟩, h3⟩, h4⟩ := h
    subst h1 h2 h3
    obtain ⟨a1, a2, a3, a4⟩ := slot_ok B.ok hx
    have pv : PE X (.Name y py) (tVar i) := pe_var a1 a2 a3 a4
    have pt := pe_ix (pos := ps) (b := .Constant (.int (n : Int)) kj pj) (ix_tup (X := X)) pv (pe_int (X := X) (i := (n : Int))) (fun _ _ => rfl)
    exact ps_expr (pe_bm PySem.F.plainAttrs_list PySem.F.slot_list_append PySem.F.type_list_append mt_append pt (pa_cons pe_non pa_nil rfl) (base_ok rfl) rfl h4 rfl rfl) rfl
  · cases h
theorem tap2_ok (B : BOk G F k sc X) {s1 s2 s3 : Stmt} {r : List Stmt} {c : CS} (h : tap2Of G sc s1 s2 s3 = some c) (hr : PSs X r (tS X.K (execs F (cSs G sc r)))) : PSs X (s1 :: s2 :: s3 :: r) (tS X.K (execs F (.cons c (cSs G sc r)))) := by
  unfold tap2Of at h
  split at h
  · rename_i x px e pos
    split at h
    · rename_i ha
      rw [Bool.and_eq_true] at ha
      split at h
      · rename_i i j f es q h1 h2 h3
        split at h
        · rename_i hij
          subst hij
          cases h
          obtain ⟨a, b, d⟩ := slotSt_ok B.ok h1
          obtain ⟨t, g1, g2, _⟩ := gd_X (F := F) (k := k) B.ok h3
          have hsw : swapsWith e (some (.Name x px)) pos.line X.env = pure false := by
            unfold cX at h3
            split at h3
            · rfl
            · cases h3
          have p1 := ps_set (pos := pos) B.ok.nd' a b g1 hsw d
          exact (pss_cons p1 (pss_cons (ap_none (n := 0) B h2 ha.1) (pss_cons (ap_none (n := 1) B h2 ha.2) hr))).to (ss_tap2 g2 ss_S)
        · cases h
      · cases h
    · cases h
  · cases h
theorem st_all (B : BOk G F k sc X) : ∀ (n : Nat), (∀ s : Stmt, sizeOf s < n → PS X s (tS X.K (exec F (cS G sc s)))) ∧ (∀ ss : List Stmt, sizeOf ss < n → PSs X ss (tS X.K (execs F (cSs G sc ss))))
  | 0 => ⟨fun s h => absurd h (Nat.not_lt_zero _), fun s h => absurd h (Nat.not_lt_zero _)⟩
  | n + 1 => by
    obtain ⟨i1, i2⟩ := st_all B n
    refine ⟨fun s hn => ?_, fun ss hn => ?_⟩
    · cases s <;> first | exact ps_never.to ss_stuck | skip
      case Return e pos =>
        cases e with
        | none => exact ps_retN.to ss_retN
        | some e =>
          unfold cS
          exact ret_ok B
      case Assign ts v pos =>
        match ts with
        | [t] => unfold cS; exact asg_ok B
        | [] => exact ps_never.to ss_stuck
        | _ :: _ :: _ => exact ps_never.to ss_stuck
      case For t it b orelse pos =>
        simp only [Stmt.For.sizeOf_spec] at hn
        unfold cS
        split
        · rename_i tg ci h1 h2
          split
          · rename_i hf
            obtain ⟨p1, p2, p3⟩ := it_ok B.ok (fun c q => gd B.ok q) (fun e _ c q => gd B.ok q) h2 (.inl h1) hf
            obtain ⟨g, q1, q2⟩ := tg_ok B.ok h1
            exact (ps_for B.ps B.ok.calm p1 q1 (i2 b (by omega)) p3).to (ss_fr si_I q2 ss_S)
          · exact ps_never.to ss_stuck
        · exact ps_never.to ss_stuck
      case While c b orelse pos =>
        simp only [Stmt.While.sizeOf_spec] at hn
        unfold cS
        split
        · rename_i x hx
          split
          · rename_i ht
            exact (ps_while B.ps ((gd B.ok hx).t ht) (i2 b (by omega))).to (ss_wh st_T ss_S)
          · exact ps_never.to ss_stuck
        · exact ps_never.to ss_stuck
      case If c a b pos =>
        simp only [Stmt.If.sizeOf_spec] at hn
        unfold cS
        split
        · rename_i ht
          split
          · rename_i x hx
            exact (ps_if ((gd B.ok hx).t ht) (i2 a (by omega)) (i2 b (by omega))).to (ss_ifs st_T ss_S ss_S)
          · exact ps_never.to ss_stuck
        · exact ps_never.to ss_stuck
      case Expr e pos => unfold cS; exact expr_ok B
      case Pass pos => exact ps_pass.to ss_pass
      case Break pos => exact ps_break.to ss_brk
      case Continue pos => exact ps_continue.to ss_cnt
    · cases ss with
      | nil => unfold cSs; exact pss_nil.to ss_nil
      | cons s r =>
        have hs : sizeOf (s :: r) = 1 + sizeOf s + sizeOf r := rfl
        match r, hn, hs with
        | [], hn, hs =>
          unfold cSs
          have z : PSs X [] (tS X.K (execs F .nil)) := pss_nil.to ss_nil
          exact (pss_cons (i1 s (by omega)) z).to (ss_cons ss_S ss_S)
        | [s2], hn, hs =>
          have hs2 : sizeOf [s2] = 1 + sizeOf s2 + sizeOf ([] : List Stmt) := rfl
          unfold cSs
          have z : PSs X [] (tS X.K (execs F .nil)) := pss_nil.to ss_nil
          have z2 : PSs X [s2] (tS X.K (execs F (.cons (cS G sc s2) .nil))) := (pss_cons (i1 s2 (by omega)) z).to (ss_cons ss_S ss_S)
          exact (pss_cons (i1 s (by omega)) z2).to (ss_cons ss_S ss_S)
        | s2 :: s3 :: r, hn, hs =>
          have hs2 : sizeOf (s2 :: s3 :: r) = 1 + sizeOf s2 + sizeOf (s3 :: r) := rfl
          have hs3 : sizeOf (s3 :: r) = 1 + sizeOf s3 + sizeOf r := rfl
          unfold cSs
          split
          · rename_i c hc
            exact tap2_ok B hc (i2 r (by omega))
          · exact (pss_cons (i1 s (by omega)) (i2 (s2 :: s3 :: r) (by omega))).to (ss_cons ss_S ss_S)
theorem body_ok (B : BOk G F k sc X) (ss : List Stmt) : PSs X ss (tS X.K (execs F (cSs G sc ss))) := (st_all B _).2 ss (Nat.lt_succ_self _)
end
end PV
end

section
set_option Elab.async false
set_option linter.all false
set_option maxRecDepth 100000
set_option maxHeartbeats 4000000
set_option autoImplicit false
/-! PVs: all defs keep the promise that the evaluator tells; the law -/
namespace PV
open PySem PySem.Spec L2
open PyProof.Rows hiding St

section
variable {K : PySem.W.Frag}
/-! ### a call's start and end -/
theorem rel_dps {H J : Hp} {vs : List V} {ds : List D} (r : Rel K H J (vs.map some) (argE none ds)) : DpAll K J vs ds := by
  have hl : ds.length = vs.length := by
    have := r.len
    simpa [argE] using this
  have key : ∀ (ds : List D) (vs : List V), ds.length = vs.length → (∀ (i : Nat) (d : D), ds[i]? = some d → ∃ v, vs[i]? = some v ∧ Dp K J v d) → DpAll K J vs ds := fun ds => by
    induction ds with
    | nil => intro vs h _; cases vs with
      | nil => exact .nil
      | cons => simp at h
    | cons d ds ih => intro vs h g; cases vs with
      | nil => simp at h
      | cons v vs =>
        obtain ⟨v', e, q⟩ := g 0 d rfl
        simp at e
        subst e
        exact .cons q (ih vs (by simpa using h) fun i d hd => by simpa using g (i + 1) d (by simpa using hd))
  refine key ds vs hl fun i d hd => ?_
  obtain ⟨v, h1, h2⟩ := r.val i (.d d) (by simp [argE, hd])
  rw [List.getElem?_map] at h1
  obtain ⟨v', h3, h4⟩ := Option.map_eq_some_iff.mp h1
  cases h4
  exact ⟨v, h3, h2⟩
theorem get_ext {α : Type} {E : List (Option α)} {n i : Nat} {w : α} (h : (E ++ List.replicate n none)[i]? = some (some w)) : E[i]? = some (some w) := by
  by_cases hi : i < E.length
  · rw [List.getElem?_append_left hi] at h
    exact h
  · rw [List.getElem?_append_right (by omega), List.getElem?_replicate] at h
    split at h <;> cases h
theorem get_ext' {α : Type} {E : List (Option α)} {n i : Nat} {w : α} (h : E[i]? = some (some w)) : (E ++ List.replicate n none)[i]? = some (some w) := by
  rw [List.getElem?_append_left (List.getElem?_eq_some_iff.mp h).1]
  exact h
theorem rel_ext {H J : Hp} {σ : St} {E : DE} (r : Rel K H J σ E) (n : Nat) : Rel K H J (σ ++ List.replicate n none) (E ++ List.replicate n none) := by
  refine ⟨r.sub, by simp [r.len], fun i w h => ?_, fun i j w w' a h1 l1 h2 l2 s1 s2 => r.ap i j w w' a (get_ext h1) l1 (get_ext h2) l2 (get_ext s1) (get_ext s2)⟩
  obtain ⟨v, h1, h2⟩ := r.val i w (get_ext h)
  exact ⟨v, get_ext' h1, h2⟩
theorem own_ext {σ : St} {E : DE} {n : Nat} {a : Addr} (h : Own (σ ++ List.replicate n none) (E ++ List.replicate n none) a) : Own σ E a := by
  obtain ⟨i, w, h1, h2, h3⟩ := h
  exact ⟨i, w, get_ext h1, h2, get_ext h3⟩
theorem call_end {H J H' J' : Hp} {vs : List V} {p p' : Option (List D)} {ds : List D} {n : Nat} {σ' : St} {E' : DE} {v : V} {w : W} (r : Rel K H J (vs.map some) (argE p ds)) (t : Tr K (vs.map some ++ List.replicate n none) (argE p ds ++ List.replicate n none) H J σ' E' H' J')
    (rs : ResX K (vs.map some ++ List.replicate n none) (argE p ds ++ List.replicate n none) H σ' E' H' J' v w) (he : endP p E' = some p') :
    Tr K (vs.map some) (argE p ds) H J (vs.map some) (argE p' ds) H' J' ∧ ResX K (vs.map some) (argE p ds) H (vs.map some) (argE p' ds) H' J' v w := by
  cases p with
  | none =>
    cases (show some none = some p' from he)
    have hd := rel_dps r
    refine ⟨⟨rel_args t.rel.sub (dps_mono t.jj _ _ hd), t.jj, fun b o h _ => t.fr b o h fun q => own_args (own_ext q), t.th, fun b o h => ?_, fun a q => (own_args q).elim, fun i xs h => ?_⟩, rs.frame (fun _ _ _ q => own_args q) fun c _ z => ?_⟩
    · rcases t.nw b o h with z | z | z
      · exact .inl z
      · exact .inr (.inl z)
      · exact (own_args (own_ext z)).elim
    · obtain ⟨d, _, z⟩ := argE_get h
      cases z
    · rcases z with z | z
      · exact (own_args (own_ext z)).elim
      · exact .inr z
  | some xs =>
    obtain ⟨v0, h0, a, us, e0, _⟩ := r.val 0 (.r xs) rfl
    subst e0
    cases vs with
    | nil => simp at h0
    | cons v1 vs =>
      have : v1 = .ref a := by simpa using h0
      subst this
      have hd : DpAll K J vs ds := by
        have r' : Rel K H J (vs.map some) (argE none ds) := by
          refine ⟨r.sub, by have := r.len; simpa [argE] using this, fun i w h => ?_, fun i j w w' b h l => ?_⟩
          · exact r.val (i + 1) w h
          · obtain ⟨d, _, rfl⟩ := argE_get h
            cases l
        exact rel_dps r'
      have ew : ∃ xs', E'[0]? = some (some (.r xs')) ∧ p' = some xs' := by
        have he : (match E'[0]? with | some (some (W.r xs)) => some (some xs) | _ => none) = some p' := he
        split at he
        · rename_i xs' q
          cases he
          exact ⟨xs', q, rfl⟩
        · cases he
      obtain ⟨xs', hE, rfl⟩ := ew
      obtain ⟨s0, _, _⟩ := t.rr 0 xs rfl
      have s0 : σ'[0]? = some (some (.ref a)) := s0
      obtain ⟨q0, q1, q2⟩ := t.rel.val 0 _ hE
      rw [s0] at q1
      cases q1
      obtain ⟨a', us', ea, h1, h2, h3⟩ := q2
      cases ea
      have oo : ∀ {b}, Own ((V.ref a :: vs).map some ++ List.replicate n none) (argE (some xs) ds ++ List.replicate n none) b → Own ((V.ref a :: vs).map some) (argE (some xs) ds) b := fun {b} q => own_ext q
      refine ⟨⟨rel_argsR t.rel.sub (dps_mono t.jj _ _ hd) h1 h2 h3, t.jj, fun b o h m => t.fr b o h fun q => m (oo q), t.th, fun b o h => ?_, fun b q => .inl (own_argsR q ▸ own_argsR'), fun i ys h => ?_⟩, rs.frame (fun c n z q => ?_) fun c _ z => ?_⟩
      · rcases t.nw b o h with z | z | z
        · exact .inl z
        · exact .inr (.inl z)
        · exact .inr (.inr (oo z))
      · rcases argE_getR h with ⟨rfl, _⟩ | ⟨j, d, _, _, z⟩
        · exact ⟨rfl, xs', rfl⟩
        · cases z
      · have := own_argsR q
        subst this
        exact n ⟨0, _, hE, rfl, s0⟩
      · rcases z with z | z
        · exact .inl (oo z)
        · exact .inr z
end
/-! ### the defs -/
/-- a def of the table, as it stands behind the top -/
structure DfOk (fns : List (Str × List Str × Bool)) (consts : List (Str × D)) (free : List Str) (K : PySem.W.Frag) (mg : Str → Option Value) (df : CDef) : Prop where
  ex : ∃ (f : Addr) (fd : FuncData) (qual : Str) (params : Arguments) (body : List Stmt) (scope : Scope), mg df.name = some (.ref f) ∧ FunD K df.name qual params body scope [] [] f fd ∧ FnScope df.names df.params scope ∧ plainP params = true ∧
    params.args.map (·.arg) = df.params ∧ df.params.Nodup ∧ df.body = cSs ⟨df.names, fns, consts, free⟩ scope body
def sigs (C : Core) : List (Str × List Str × Bool) := C.map fun d => (d.name, d.params, d.byref)
section
variable {P : Program} {w : World} {K : PySem.W.Frag} {mg : Str → Option Value} {C : Core} {consts : List (Str × D)} {free : List Str}
theorem guards_deeper {A : Around} {env : Env} (h : A.guards = some []) : (A.deeper env).guards = some [] := h
theorem fns_all (hC : ∀ (i : Nat) (df : CDef), C[i]? = some df → DfOk (sigs C) consts free K mg df) (hf : ∀ x ∈ free, mg x = none) (hc : ∀ x d, consts.lookup x = some d → ∃ u v, mg x = some u ∧ RelV v u ∧ ∀ J, Dp K J v d) :
    ∀ (n i : Nat) (df : CDef), C[i]? = some df → ∃ (f : Addr) (fd : FuncData), mg df.name = some (.ref f) ∧ PySem.W.keepIn K (.ref f) = true ∧ (∀ base : Heap, FnG P w K mg base n f fd df.params (spF K (callF C n) i)) ∧
      (∀ (s : Shared) (us : List Value), us.length = df.params.length → BindsTo s fd ⟨us, []⟩ (df.params.zip us)) ∧
      (∀ (s : Shared) (ks : List Str) (ws us : List Value), ks.Nodup → (∀ k ∈ ks, k ∈ df.params) → us.length = df.params.length →
        (∀ (i : Nat) (n : Str) (u : Value), df.params[i]? = some n → us[i]? = some u → (ks.zip ws).lookup n = some u) → BindsTo s fd ⟨[], ks.zip ws⟩ (df.params.zip us)) := by
  intro n
  induction n with
  | zero =>
    intro i df h
    obtain ⟨f, fd, qual, params, body, scope, hm, FD, S, hp, ep, nd, hb⟩ := (hC i df h).ex
    have none0 : ∀ {vs H Q}, spF K (callF C 0) i vs H Q → False := fun {vs H Q} ⟨_, _, _, _, _, _, e, _⟩ => nomatch e
    refine ⟨f, fd, hm, FD.kp, fun base => ⟨fun vs H Q q => (none0 q).elim, fun A outer s H args us vs Q _ _ _ _ _ q => (none0 q).elim⟩, ?_⟩
    obtain ⟨oc, od, dV, kV, doc, pm, an, cdv, ct, osl, rfl, lk, hcd, hD, hK⟩ := FD.ex
    rcases hD with ⟨_, rfl⟩ | ⟨e, _⟩
    · rw [← ep] at nd ⊢
      exact ⟨fun s us hl => .of_eq (bind_pos hp nd us hl), fun s ks ws us nk hk hu hv => .of_eq (bind_kw hp ks ws us nk hk hu hv)⟩
    · exact absurd rfl e
  | succ n ih =>
    intro i df h
    obtain ⟨f, fd, qual, params, body, scope, hm, FD, S, hp, ep, nd, hb⟩ := (hC i df h).ex
    have unf : ∀ {p ds r}, callF C (n + 1) i p ds = some r → (p.isSome = df.byref ∧ (argE p ds).length = df.params.length ∧ df.params.length ≤ df.names.length) ∧
        (execs (callF C n) df.body (argE p ds ++ List.replicate (df.names.length - df.params.length) none)).bind (fun (fl, E) =>
          match fl with
          | .rt w => (endP p E).map fun q => (w, q)
          | .nx => (endP p E).map fun q => (W.d .none, q)
          | _ => none) = some r := fun {p ds r} e => by
      unfold callF at e
      rw [h] at e
      dsimp only at e
      split at e
      · exact ⟨by assumption, e⟩
      · cases e
    refine ⟨f, fd, hm, FD.kp, fun base => FnG.of FD S (fun vs H Q ⟨J, p, ds, w', p', r, e, _⟩ => ?_) (fun cdv A outer s H vs Q hr hg ⟨J, p, ds, w', p', r, e, fin⟩ => ⟨tS K (execs (callF C n) df.body), ?_, ?_⟩), ?_⟩
    · have := r.len
      rw [List.length_map] at this
      rw [← this]
      exact (unf e).1.2.1
    · have B : BOk ⟨df.names, sigs C, consts, free⟩ (callF C n) n scope (cxOf CX0 P w K mg base df.names qual scope f cdv A outer s H fun _ _ _ => False).nox := by
        refine ⟨⟨rfl, S.nd, fun x hx => lookB.1 hx, fun x hx => ⟨lookB.2.1 hx, .inl rfl⟩, fun x hx => lookB.2.2 hx, fun x hx => hx, rfl, guards_deeper hg, hr, hf, hc, fun j x ps b hj => ?_⟩, rfl, S.kind, fun _ => rfl, PassesOwn.never⟩
        unfold sigs at hj
        rw [List.getElem?_map] at hj
        obtain ⟨dj, h1, h2⟩ := Option.map_eq_some_iff.mp hj
        cases h2
        obtain ⟨f', fd', a1, a2, a3, a4, a5⟩ := ih j dj h1
        exact ⟨f', fd', a1, a2, a3 base, a4, a5⟩
      have := body_ok B body
      rw [hb]
      exact this
    · obtain ⟨⟨h1, h2, h3⟩, e2⟩ := unf e
      obtain ⟨⟨fl, E'⟩, e3, e4⟩ := Option.bind_eq_some_iff.mp e2
      have hvl : vs.length = df.params.length := by
        have := r.len
        rw [List.length_map] at this
        rw [← this]; exact h2
      have hst : L2.start df.names vs = vs.map some ++ List.replicate (df.names.length - df.params.length) none := by
        unfold L2.start
        rw [hvl]
      rw [hst]
      refine ⟨_, J, fl, E', rel_ext r _, e3, ?_⟩
      cases fl with
      | nx =>
        obtain ⟨q, e5, e6⟩ := Option.map_eq_some_iff.mp (show (endP p E').map (fun q => (W.d .none, q)) = some (w', p') from e4)
        cases e6
        intro σ' H' J' t
        obtain ⟨t2, r2⟩ := call_end (v := .non) (w := .d .none) r t (res_d .non).x e5
        exact fin _ _ _ t2 r2
      | rt w1 =>
        obtain ⟨q, e5, e6⟩ := Option.map_eq_some_iff.mp (show (endP p E').map (fun q => (w1, q)) = some (w', p') from e4)
        cases e6
        intro v σ' H' J' t rs
        obtain ⟨t2, r2⟩ := call_end r t rs e5
        exact fin _ _ _ t2 r2
      | bk => cases e4
      | ct => cases e4
    · obtain ⟨oc, od, dV, kV, doc, pm, an, cdv, ct, osl, rfl, lk, hcd, hD, hK⟩ := FD.ex
      rcases hD with ⟨_, rfl⟩ | ⟨e, _⟩
      · rw [← ep] at nd ⊢
        exact ⟨fun s us hl => .of_eq (bind_pos hp nd us hl), fun s ks ws us nk hk hu hv => .of_eq (bind_kw hp ks ws us nk hk hu hv)⟩
      · exact absurd rfl e
end
/-- the law's promise from what the evaluator says -/
theorem law_sp {K : PySem.W.Frag} {F : Fn} {li n : Nat} (h : ∀ ns : List Int, ns.length ≤ n → F li none [.list (ns.map .int)] = some (.d (.bool true), none)) (H : Hp) (a : Addr) (ns : List Int) (hl : ns.length ≤ n) (hS : SqL K H a (ns.map V.int)) :
    spF K F li [.ref a] H fun v _ => v = .bl true := by
  refine ⟨H, none, _, _, none, rel_args (Same.refl _) (.cons (.lst hS (dps_ints ns)) .nil), h ns hl, fun v H' J' _ rs => ?_⟩
  have : Dp K J' v (.bool true) := rs.rw
  cases this
  rfl
end PV
end

section
set_option Elab.async false
set_option linter.all false
set_option maxRecDepth 100000
set_option maxHeartbeats 4000000
set_option autoImplicit false
/-! PVt: from the head's facts to the law's promise -/
namespace PV
open PySem PySem.Spec L2
open PyProof.Rows hiding St

def defD : Stmt → Option He.DefD
  | .FunctionDef n a b _ _ _ sc _ _ _ => some ⟨(n, none), n, n, a, b, sc, [], []⟩
  | _ => none
abbrev Tab := List (List Str × Bool)
def fnsT (tab : Tab) (ds : List He.DefD) : List (Str × List Str × Bool) := List.zipWith (fun t d => (d.name, d.params.args.map (·.arg), t.2)) tab ds
/-- a constant: an int, a text, a tuple of ints -/
inductive CV where
  | i (n : Int) | s (x : Str) | t (ns : List Int)
def CV.d : CV → D
  | .i n => .int n
  | .s x => .str x
  | .t ns => .tuple (ns.map .int)
def conT (consts : List (Str × CV)) : List (Str × D) := consts.map fun p => (p.1, p.2.d)
/-- the written tuples are what they are said to be -/
def exT (consts : List (Str × CV)) (K : PySem.W.Frag) : Bool := consts.all fun p => match p.2 with
  | .t ns => He.tupB K p.1 (ns.map He.Dv.int)
  | _ => true
abbrev AlC : Type := He.AlD × Bool
def obsCG (n : Nat) (fa : List He.Fa) (fn : List He.DefD) (ex : PySem.W.Frag → Bool) (g : Addr → Option Obj) : AlC := (He.obsDG n fa fn g, ex (He.frG g (He.asD g n)))
def hookC (n : Nat) (fa : List He.Fa) (fn : List He.DefD) (ex : PySem.W.Frag → Bool) : PySem.W.Hook where
  α := AlC
  obs := fun s => obsCG n fa fn ex s.heap.get?
  val := fun _ => (He.valD fn, true)
  says := fun _ h => ∃ K : PySem.W.Frag, K.In h ∧ (He.SaysD fa fn K ∧ ex K = true)
  of := fun _ _ e => ⟨_, He.frG_in, congrArg (fun z : AlC => z.1) e, congrArg (fun z : AlC => z.2) e⟩
  keeps := fun _ _ _ ⟨K, hK, c⟩ k => ⟨K, PySem.W.Frag.In.keeps hK k, c⟩
theorem obsCG_eq {n : Nat} {fa : List He.Fa} {fn : List He.DefD} {ex : PySem.W.Frag → Bool} {g : Addr → Option Obj} {s : Shared} (h : ∀ a, g a = s.heap.get? a) : obsCG n fa fn ex g = (hookC n fa fn ex).obs s := by
  have e : g = s.heap.get? := funext h
  rw [e] <;> rfl
def defT (fns : List (Str × List Str × Bool)) (consts : List (Str × CV)) (free : List Str) (t : List Str × Bool) (d : He.DefD) : CDef := ⟨d.name, t.1, d.params.args.map (·.arg), t.2, cSs ⟨t.1, fns, conT consts, free⟩ d.scope d.body⟩
def coreT (tab : Tab) (consts : List (Str × CV)) (free : List Str) (ds : List He.DefD) : Core := List.zipWith (defT (fnsT tab ds) consts free) tab ds
def faT (consts : List (Str × CV)) (free : List Str) (ds : List He.DefD) : List He.Fa := ds.map (fun d => .glo d.name) ++ free.map .free ++ consts.map fun p => match p.2 with
  | .i n => .int p.1 n
  | .s x => .str p.1 x
  | .t _ => .glo p.1
def locOr (sc : Scope) (x : Str) : Bool := match sc.names.lookup x with
  | some .local => true
  | some .cell => true
  | _ => false
def isFree : NameKind → Bool
  | .free => true
  | _ => false
def isFunc : ScopeKind → Bool
  | .function => true
  | _ => false
/-- what a def's row of the table is looked at for -/
def okD (t : List Str × Bool) (d : He.DefD) : Bool :=
  decide (d.at_ = (d.name, none)) && d.dfl.isEmpty && d.kwd.isEmpty && plainP d.params && isFunc d.scope.kind && !d.scope.isCoroutine && !d.scope.isGenerator && decide t.1.Nodup &&
    decide (t.1.take (d.params.args.map (·.arg)).length = d.params.args.map (·.arg)) && (d.params.args.map (·.arg)).all (locB d.scope) && d.scope.names.all (fun y => !isFree y.2)
def okT : Tab → List He.DefD → Bool
  | t :: ts, d :: ds => okD t d && okT ts ds
  | [], [] => true
  | _, _ => false
theorem okT_get : ∀ {tab : Tab} {ds : List He.DefD} {i : Nat} {t : List Str × Bool} {d : He.DefD}, okT tab ds = true → tab[i]? = some t → ds[i]? = some d → okD t d = true
  | [], _, _, _, _, _, h, _ => by simp at h
  | _ :: _, [], _, _, _, h, _, _ => by cases h
  | t :: ts, d :: ds, i, t', d', h, h1, h2 => by
    have h : (okD t d && okT ts ds) = true := h
    rw [Bool.and_eq_true] at h
    cases i with
    | zero => simp at h1 h2; subst h1 h2; exact h.1
    | succ i => exact okT_get h.2 (by simpa using h1) (by simpa using h2)
theorem okD_scope {t : List Str × Bool} {d : He.DefD} (h : okD t d = true) : FnScope t.1 (d.params.args.map (·.arg)) d.scope ∧ d.at_ = (d.name, none) ∧ d.dfl = [] ∧ d.kwd = [] ∧ plainP d.params = true := by
  unfold okD at h
  simp only [Bool.and_eq_true, decide_eq_true_eq, List.isEmpty_iff, Bool.not_eq_true', List.all_eq_true] at h
  obtain ⟨⟨⟨⟨⟨⟨⟨⟨⟨⟨h1, h2⟩, h3⟩, h4⟩, h5⟩, h6⟩, h7⟩, h8⟩, h9⟩, h10⟩, h11⟩ := h
  refine ⟨⟨?_, h6, h7, h8, h9, fun x hx => lookB.2.1 (h10 x hx), fun y hy e => ?_⟩, h1, h2, h3, h4⟩
  · cases hk : d.scope.kind <;> rw [hk] at h5 <;> first | rfl | cases h5
  · have := h11 y hy
    rw [e] at this
    cases this
theorem sigs_core (tab : Tab) (consts : List (Str × CV)) (free : List Str) (ds : List He.DefD) : sigs (coreT tab consts free ds) = fnsT tab ds := by
  unfold sigs coreT
  have key : ∀ (fns : List (Str × List Str × Bool)) (tab : Tab) (ds : List He.DefD), (List.zipWith (defT fns consts free) tab ds).map (fun d => (d.name, d.params, d.byref)) = fnsT tab ds := fun fns tab => by
    induction tab with
    | nil => intro ds; rfl
    | cons t ts ih =>
      intro ds
      cases ds with
      | nil => rfl
      | cons d ds =>
        show _ :: _ = _ :: _
        rw [ih ds]; rfl
  exact key _ tab ds
section
variable {P : Program} {w : World} {K : PySem.W.Frag} {h : Heap} {mg : Str → Option Value} {tab : Tab} {consts : List (Str × CV)} {free : List Str} {ds : List He.DefD}
theorem fa_all {fa : List He.Fa} {fn : List He.DefD} (c : He.SaysD fa fn K) {f : He.Fa} (hf : f ∈ fa) : f.ok K = true := by
  obtain ⟨i, hi, e⟩ := List.getElem_of_mem hf
  exact c.fact i (f := f) (by rw [List.getElem?_eq_getElem hi, e])
theorem df_ok (hok : okT tab ds = true) (c : He.SaysD (faT consts free ds) ds K) (X : K.In h) (G : h.Ns mainGlobals mg) {i : Nat} {df : CDef} (hi : (coreT tab consts free ds)[i]? = some df) : DfOk (sigs (coreT tab consts free ds)) (conT consts) free K mg df := by
  rw [sigs_core]
  unfold coreT at hi
  rw [List.getElem?_zipWith] at hi
  split at hi
  · rename_i t d h1 h2
    cases hi
    obtain ⟨S, e1, e2, e3, e4⟩ := okD_scope (okT_get hok h1 h2)
    obtain ⟨fd, FD⟩ := c.def_ i h2
    have ed : d.dvs K = [] := by unfold He.DefD.dvs; rw [e2]; rfl
    have ek : d.kws K = [] := by unfold He.DefD.kws; rw [e3]; rfl
    rw [ed, ek] at FD
    have ea : He.fAd K d.at_ = He.ga K d.name := by rw [e1]; rfl
    refine ⟨He.fAd K d.at_, fd, d.qual, d.params, d.body, d.scope, ?_, FD, S, e4, rfl, ?_, rfl⟩
    · rw [ea]
      exact He.glo_ok X G (fa_all c (f := .glo d.name) (List.mem_append_left _ (List.mem_append_left _ (List.mem_map_of_mem (List.mem_of_getElem? h2)))))
    · show (d.params.args.map (·.arg)).Nodup
      rw [← S.pre]
      exact S.nd.sublist (List.take_sublist _ _)
  · cases hi
theorem free_all (c : He.SaysD (faT consts free ds) ds K) (X : K.In h) (G : h.Ns mainGlobals mg) : ∀ x ∈ free, mg x = none := fun x hx =>
  He.free_ok X G (fa_all c (f := .free x) (List.mem_append_left _ (List.mem_append_right _ (List.mem_map_of_mem hx))))
theorem con_all (c : He.SaysD (faT consts free ds) ds K) (c2 : exT consts K = true) (X : K.In h) (G : h.Ns mainGlobals mg) : ∀ x d, (conT consts).lookup x = some d → ∃ u v, mg x = some u ∧ RelV v u ∧ ∀ J, Dp K J v d := fun x d hx => by
  have hm : (x, d) ∈ conT consts := PySem.mem_of_lookup hx
  obtain ⟨⟨y, cv⟩, hp, e⟩ := List.mem_map.mp hm
  cases e
  have hf := fa_all c (List.mem_append_right _ (List.mem_map.mpr ⟨_, hp, rfl⟩))
  have h2 := List.all_eq_true.mp c2 _ hp
  cases cv with
  | i n =>
    obtain ⟨t, ht⟩ := He.int_ok X G hf
    exact ⟨_, .int n, ht, ⟨t, rfl⟩, fun J => .int _⟩
  | s z =>
    obtain ⟨t, ht⟩ := He.str_ok X G hf
    exact ⟨_, .str z, ht, ⟨t, rfl⟩, fun J => .str _⟩
  | t ns =>
    refine ⟨_, .ref (He.ga K y), He.glo_ok X G hf, rfl, fun J => .tup (He.tupB_ok h2 J) ?_⟩
    have e : (ns.map He.Dv.int).map (He.Dv.v K) = ns.map V.int := by rw [List.map_map]; rfl
    rw [e]
    exact dps_ints ns
theorem law_facts {li n lev : Nat} {df : CDef} {f : Addr} {x : Str} (hok : okT tab ds = true) (cc : He.SaysD (faT consts free ds) ds K ∧ exT consts K = true) (X : K.In h) (G : h.Ns mainGlobals mg) (hdf : (coreT tab consts free ds)[li]? = some df) (hp : df.params = [x]) (hf : mg df.name = some (.ref f))
    (hlaw : ∀ ns : List Int, ns.length ≤ n → callF (coreT tab consts free ds) lev li none [.list (ns.map .int)] = some (.d (.bool true), none)) :
    ∃ (fd : FuncData) (sp : SpG), (∀ (s : Shared) (u : Value), BindsTo s fd ⟨[u], []⟩ [(x, u)]) ∧ (∀ (H : Hp) (a : Addr) (ns : List Int), ns.length ≤ n → Only H → SqL K H a (ns.map V.int) → sp [.ref a] H fun v _ => v = .bl true) ∧
      ∀ base : Heap, K.In base → base.Ns mainGlobals mg → FnG P w K mg base lev f fd [x] sp := by
  obtain ⟨c, c2⟩ := cc
  obtain ⟨f', fd, hm, _, F, hb, _⟩ := fns_all (P := P) (w := w) (fun i df hi => df_ok hok c X G hi) (free_all c X G) (con_all c c2 X G) lev li df hdf
  rw [hf] at hm
  cases hm
  rw [hp] at hb F
  exact ⟨fd, _, fun s u => hb s [u] rfl, fun H a ns hl _ hS => law_sp hlaw H a ns hl hS, fun base _ _ => F base⟩
end
end PV
end

section
set_option autoImplicit false
/-! TR: trees by parents: node i+1 hangs on ps[i] ≤ i; plain Lean -/
namespace TR

def Valid (ps : List Nat) : Prop := ∀ (i p : Nat), ps[i]? = some p → p ≤ i
/-- the way from node 0 to a node -/
def way (ps : List Nat) : Nat → List Nat
  | 0 => [0]
  | i + 1 => match ps[i]? with
    | some p => if h : p ≤ i then way ps p ++ [i + 1] else [i + 1]
    | none => [i + 1]
  termination_by i => i
  decreasing_by exact Nat.lt_succ_of_le h
variable {ps : List Nat}
theorem way_zero : way ps 0 = [0] := by rw [way]
theorem way_succ (v : Valid ps) {i p : Nat} (h : ps[i]? = some p) : way ps (i + 1) = way ps p ++ [i + 1] := by
  rw [way, h]
  simp [v i p h]
theorem way_beyond {i : Nat} (h : ps[i]? = none) : way ps (i + 1) = [i + 1] := by
  rw [way, h]
def depth (ps : List Nat) (i : Nat) : Nat := (way ps i).length - 1
theorem way_ne (i : Nat) : way ps i ≠ [] := by
  cases i with
  | zero => rw [way_zero]; simp
  | succ i =>
    rw [way]
    split
    · split <;> simp
    · simp
theorem way_len (i : Nat) : (way ps i).length = depth ps i + 1 := by
  have : 0 < (way ps i).length := List.length_pos_iff.mpr (way_ne i)
  unfold depth
  omega
theorem depth_zero : depth ps 0 = 0 := by unfold depth; rw [way_zero]; rfl
theorem depth_succ (v : Valid ps) {i p : Nat} (h : ps[i]? = some p) : depth ps (i + 1) = depth ps p + 1 := by
  have := way_len (ps := ps) p
  unfold depth at *
  rw [way_succ v h, List.length_append]
  simp
  omega
theorem way_last (i : Nat) : ∃ w, way ps i = w ++ [i] := by
  cases i with
  | zero => exact ⟨[], by rw [way_zero]; rfl⟩
  | succ i =>
    rw [way]
    split
    · split
      · exact ⟨_, rfl⟩
      · exact ⟨[], rfl⟩
    · exact ⟨[], rfl⟩
theorem self_mem (i : Nat) : i ∈ way ps i := by
  obtain ⟨w, e⟩ := way_last (ps := ps) i
  rw [e]; simp
theorem mem_le {a : Nat} (v : Valid ps) : ∀ (i : Nat), a ∈ way ps i → a ≤ i := by
  intro i
  induction i using Nat.strongRecOn with
  | ind i ih =>
    intro h
    cases i with
    | zero => rw [way_zero] at h; simp at h; omega
    | succ i =>
      cases hp : ps[i]? with
      | none => rw [way_beyond hp] at h; simp at h; omega
      | some p =>
        rw [way_succ v hp] at h
        rcases List.mem_append.mp h with q | q
        · have := ih p (Nat.lt_succ_of_le (v i p hp)) q
          have := v i p hp
          omega
        · simp at q; omega
theorem way_sorted (v : Valid ps) (i : Nat) : (way ps i).Pairwise (· < ·) := by
  induction i using Nat.strongRecOn with
  | ind i ih =>
    cases i with
    | zero => rw [way_zero]; simp
    | succ i =>
      cases hp : ps[i]? with
      | none => rw [way_beyond hp]; simp
      | some p =>
        rw [way_succ v hp, List.pairwise_append]
        refine ⟨ih p (Nat.lt_succ_of_le (v i p hp)), by simp, fun a ha b hb => ?_⟩
        simp at hb
        have := mem_le v p ha
        have := v i p hp
        omega
theorem way_nodup (v : Valid ps) (i : Nat) : (way ps i).Nodup := (way_sorted v i).imp fun h => Nat.ne_of_lt h
/-- the way to a node on the way is its beginning -/
theorem way_prefix {a : Nat} (v : Valid ps) : ∀ (i : Nat), a ∈ way ps i → way ps a <+: way ps i := by
  intro i
  induction i using Nat.strongRecOn with
  | ind i ih =>
    intro h
    cases i with
    | zero =>
      rw [way_zero] at h; simp at h; subst h; exact List.prefix_rfl
    | succ i =>
      cases hp : ps[i]? with
      | none =>
        rw [way_beyond hp] at h; simp at h; subst h; exact List.prefix_rfl
      | some p =>
        rw [way_succ v hp] at h
        rcases List.mem_append.mp h with q | q
        · rw [way_succ v hp]
          exact (ih p (Nat.lt_succ_of_le (v i p hp)) q).trans (List.prefix_append ..)
        · simp at q; subst q; exact List.prefix_rfl
theorem mem_trans {a b c : Nat} (v : Valid ps) (h : a ∈ way ps b) (g : b ∈ way ps c) : a ∈ way ps c := (way_prefix v c g).subset h
theorem depth_le {a i : Nat} (v : Valid ps) (h : a ∈ way ps i) : depth ps a ≤ depth ps i := by
  have := (way_prefix v i h).length_le
  rw [way_len, way_len] at this
  omega
/-- where a node stands on the way: at its depth -/
theorem way_at {a i : Nat} (v : Valid ps) (h : a ∈ way ps i) : (way ps i)[depth ps a]? = some a := by
  obtain ⟨w, e⟩ := way_last (ps := ps) a
  obtain ⟨r, er⟩ := way_prefix v i h
  have hl : w.length = depth ps a := by
    have := way_len (ps := ps) a
    rw [e, List.length_append] at this
    simp at this
    exact this
  rw [← er, e, ← hl]
  simp
theorem at_depth {i t a : Nat} (v : Valid ps) (h : (way ps i)[t]? = some a) : a ∈ way ps i ∧ depth ps a = t := by
  have hm := List.mem_of_getElem? h
  refine ⟨hm, ?_⟩
  have h2 := way_at v hm
  have nd := way_nodup v i
  have h1 := (List.getElem?_eq_some_iff.mp h)
  have h3 := (List.getElem?_eq_some_iff.mp h2)
  exact (List.getElem_inj nd (h₀ := h3.1) (h₁ := h1.1)).mp (h3.2.trans h1.2.symm)
/-- two on one way: the earlier lies on the later's way -/
theorem comparable {a b i : Nat} (v : Valid ps) (ha : a ∈ way ps i) (hb : b ∈ way ps i) : a ∈ way ps b ∨ b ∈ way ps a := by
  have pa := way_prefix v i ha
  have pb := way_prefix v i hb
  rcases Nat.le_total (way ps a).length (way ps b).length with h | h
  · exact .inl ((List.prefix_of_prefix_length_le pa pb h).subset (self_mem a))
  · exact .inr ((List.prefix_of_prefix_length_le pb pa h).subset (self_mem b))
theorem anti {a b : Nat} (v : Valid ps) (ha : a ∈ way ps b) (hb : b ∈ way ps a) : a = b := Nat.le_antisymm (mem_le v b ha) (mem_le v a hb)
theorem root_mem (v : Valid ps) : ∀ (i : Nat), i ≤ ps.length → 0 ∈ way ps i := by
  intro i
  induction i using Nat.strongRecOn with
  | ind i ih =>
    intro hi
    cases i with
    | zero => exact self_mem 0
    | succ i =>
      have hp : ps[i]? = some ps[i] := List.getElem?_eq_getElem (by omega)
      rw [way_succ v hp]
      have := v i _ hp
      exact List.mem_append_left _ (ih _ (by omega) (by omega))
/-! ### children, leaves, lots -/
def kids (ps : List Nat) (a : Nat) : List Nat := ((List.range ps.length).filter fun i => ps[i]? == some a).map (· + 1)
def leavesT (ps : List Nat) : List Nat := (List.range (ps.length + 1)).filter fun i => !decide (i ∈ ps)
def lot (ps : List Nat) (a : Nat) : List Nat := (leavesT ps).filter fun l => decide (a ∈ way ps l)
theorem mem_kids {a c : Nat} : c ∈ kids ps a ↔ ∃ i, c = i + 1 ∧ ps[i]? = some a := by
  unfold kids
  simp only [List.mem_map, List.mem_filter, List.mem_range, beq_iff_eq]
  constructor
  · rintro ⟨i, ⟨h1, h2⟩, rfl⟩
    exact ⟨i, rfl, h2⟩
  · rintro ⟨i, rfl, h⟩
    exact ⟨i, ⟨(List.getElem?_eq_some_iff.mp h).1, h⟩, rfl⟩
theorem kids_nil {a : Nat} (h : a ≤ ps.length) : kids ps a = [] ↔ a ∈ leavesT ps := by
  unfold leavesT
  rw [List.mem_filter]
  constructor
  · intro e
    refine ⟨by simp; omega, ?_⟩
    simp only [Bool.not_eq_true', decide_eq_false_iff_not]
    intro hm
    obtain ⟨i, hi⟩ := List.getElem?_of_mem hm
    have : i + 1 ∈ kids ps a := mem_kids.mpr ⟨i, rfl, hi⟩
    rw [e] at this
    cases this
  · rintro ⟨_, h2⟩
    simp only [Bool.not_eq_true', decide_eq_false_iff_not] at h2
    apply List.eq_nil_iff_forall_not_mem.mpr
    intro c hc
    obtain ⟨i, _, hi⟩ := mem_kids.mp hc
    exact h2 (List.mem_of_getElem? hi)
/-- below a node and not it: a child lies on the way -/
theorem kid_on {a : Nat} (v : Valid ps) : ∀ (l : Nat), a ∈ way ps l → a ≠ l → ∃ c, c ∈ kids ps a ∧ c ∈ way ps l := by
  intro l
  induction l using Nat.strongRecOn with
  | ind l ih =>
    intro h hn
    cases l with
    | zero => rw [way_zero] at h; simp at h; exact absurd h hn
    | succ l =>
      cases hp : ps[l]? with
      | none => rw [way_beyond hp] at h; simp at h; exact absurd h hn
      | some p =>
        rw [way_succ v hp] at h
        rcases List.mem_append.mp h with q | q
        · by_cases ha : a = p
          · subst ha
            exact ⟨l + 1, mem_kids.mpr ⟨l, rfl, hp⟩, self_mem _⟩
          · obtain ⟨c, h1, h2⟩ := ih p (Nat.lt_succ_of_le (v l p hp)) q ha
            exact ⟨c, h1, by rw [way_succ v hp]; exact List.mem_append_left _ h2⟩
        · simp at q; exact absurd q hn
theorem kid_way {a c : Nat} (v : Valid ps) (h : c ∈ kids ps a) : a ∈ way ps c ∧ depth ps c = depth ps a + 1 := by
  obtain ⟨i, rfl, hi⟩ := mem_kids.mp h
  exact ⟨by rw [way_succ v hi]; exact List.mem_append_left _ (self_mem a), depth_succ v hi⟩
theorem same_depth {a b i : Nat} (v : Valid ps) (ha : a ∈ way ps i) (hb : b ∈ way ps i) (h : depth ps a = depth ps b) : a = b := by
  have h1 := way_at v ha
  have h2 := way_at v hb
  rw [h, h2] at h1
  exact (Option.some.inj h1).symm
theorem leaves_sorted : (leavesT ps).Pairwise (· < ·) := List.Pairwise.filter _ List.pairwise_lt_range
theorem lot_sorted (a : Nat) : (lot ps a).Pairwise (· < ·) := List.Pairwise.filter _ leaves_sorted
theorem lot_nodup (a : Nat) : (lot ps a).Nodup := (lot_sorted a).imp fun h => Nat.ne_of_lt h
theorem kids_nodup (a : Nat) : (kids ps a).Nodup := by
  unfold kids
  have h : ((List.range ps.length).filter fun i => ps[i]? == some a).Pairwise (· < ·) := List.Pairwise.filter _ List.pairwise_lt_range
  rw [List.nodup_iff_pairwise_ne, List.pairwise_map]
  exact h.imp fun h e => by omega
/-- nodes whose lots lie apart -/
theorem flat_nodup {f : Nat → List Nat} : ∀ {xs : List Nat}, xs.Nodup → (∀ x ∈ xs, (f x).Nodup) → (∀ x ∈ xs, ∀ y ∈ xs, x ≠ y → ∀ l, l ∈ f x → l ∉ f y) → ((xs.map f).flatten).Nodup
  | [], _, _, _ => by simp
  | x :: xs, nd, h, g => by
    rw [List.nodup_cons] at nd
    rw [List.map_cons, List.flatten_cons, List.nodup_append]
    refine ⟨h x (by simp), flat_nodup nd.2 (fun y hy => h y (by simp [hy])) (fun y hy z hz => g y (by simp [hy]) z (by simp [hz])), ?_⟩
    intro l hl m hm e
    subst e
    obtain ⟨zs, hz, hlz⟩ := List.mem_flatten.mp hm
    obtain ⟨y, hy, rfl⟩ := List.mem_map.mp hz
    exact g x (by simp) y (by simp [hy]) (fun e => nd.1 (e ▸ hy)) l hl hlz
theorem kids_lots (v : Valid ps) {a : Nat} (ha : a ≤ ps.length) (hk : kids ps a ≠ []) : ((kids ps a).map (lot ps)).flatten.Perm (lot ps a) := by
  have nd : (((kids ps a).map (lot ps)).flatten).Nodup := flat_nodup (kids_nodup a) (fun c _ => lot_nodup c) fun c hc d hd hn l hl hm => by
    unfold lot at hl hm
    simp only [List.mem_filter, decide_eq_true_eq] at hl hm
    exact hn (same_depth v hl.2 hm.2 ((kid_way v hc).2.trans (kid_way v hd).2.symm))
  rw [List.perm_ext_iff_of_nodup nd (lot_nodup a)]
  intro l
  constructor
  · intro h
    obtain ⟨zs, hz, hl⟩ := List.mem_flatten.mp h
    obtain ⟨c, hc, rfl⟩ := List.mem_map.mp hz
    unfold lot at hl ⊢
    simp only [List.mem_filter, decide_eq_true_eq] at hl ⊢
    exact ⟨hl.1, mem_trans v (kid_way v hc).1 hl.2⟩
  · intro h
    unfold lot at h
    simp only [List.mem_filter, decide_eq_true_eq] at h
    have hn : a ≠ l := fun e => hk ((kids_nil ha).mpr (e ▸ h.1))
    obtain ⟨c, h1, h2⟩ := kid_on v l h.2 hn
    refine List.mem_flatten.mpr ⟨lot ps c, List.mem_map.mpr ⟨c, h1, rfl⟩, ?_⟩
    unfold lot
    simp only [List.mem_filter, decide_eq_true_eq]
    exact ⟨h.1, h2⟩
/-! ### levels -/
def level (ps : List Nat) (t : Nat) : List Nat := (List.range (ps.length + 1)).filter fun i => depth ps i == t
theorem level_lots (v : Valid ps) {t : Nat} (ht : ∀ l ∈ leavesT ps, t ≤ depth ps l) : ((level ps t).map (lot ps)).flatten.Perm (leavesT ps) := by
  have lnd : (level ps t).Nodup := List.Pairwise.filter _ List.nodup_range
  have nd : (((level ps t).map (lot ps)).flatten).Nodup := flat_nodup lnd (fun c _ => lot_nodup c) fun c hc d hd hn l hl hm => by
    unfold lot at hl hm
    unfold level at hc hd
    simp only [List.mem_filter, decide_eq_true_eq, beq_iff_eq] at hl hm hc hd
    exact hn (same_depth v hl.2 hm.2 (hc.2.trans hd.2.symm))
  rw [List.perm_ext_iff_of_nodup nd (leaves_sorted.imp fun h => Nat.ne_of_lt h)]
  intro l
  constructor
  · intro h
    obtain ⟨zs, hz, hl⟩ := List.mem_flatten.mp h
    obtain ⟨c, hc, rfl⟩ := List.mem_map.mp hz
    unfold lot at hl
    exact (List.mem_filter.mp hl).1
  · intro h
    have hd := ht l h
    have hlt : t < (way ps l).length := by rw [way_len]; omega
    obtain ⟨h1, h2⟩ := at_depth v (List.getElem?_eq_getElem hlt)
    have hle := mem_le v l h1
    have hl : l ≤ ps.length := by
      unfold leavesT at h
      have := (List.mem_filter.mp h).1
      simp at this
      omega
    refine List.mem_flatten.mpr ⟨lot ps (way ps l)[t], List.mem_map.mpr ⟨_, ?_, rfl⟩, ?_⟩
    · unfold level
      simp only [List.mem_filter, List.mem_range, beq_iff_eq]
      exact ⟨by omega, h2⟩
    · unfold lot
      simp only [List.mem_filter, decide_eq_true_eq]
      exact ⟨h, h1⟩
/-! ### lots are nested or apart -/
theorem lots_nested (v : Valid ps) (a b : Nat) : (lot ps a).filter (fun l => decide (l ∈ lot ps b)) = [] ∨ (lot ps a).filter (fun l => decide (l ∈ lot ps b)) = lot ps a ∨ (lot ps a).filter (fun l => decide (l ∈ lot ps b)) = lot ps b := by
  by_cases h : ∃ l, l ∈ lot ps a ∧ l ∈ lot ps b
  · obtain ⟨l, h1, h2⟩ := h
    unfold lot at h1 h2
    simp only [List.mem_filter, decide_eq_true_eq] at h1 h2
    rcases comparable v h1.2 h2.2 with q | q
    · refine .inr (.inr ?_)
      unfold lot
      rw [List.filter_filter]
      apply List.filter_congr
      intro x hx
      simp only [List.mem_filter, hx, true_and, Bool.decide_coe]
      by_cases hb : b ∈ way ps x
      · simp [hb, mem_trans v q hb]
      · simp [hb]
    · refine .inr (.inl ?_)
      rw [List.filter_eq_self]
      intro x hx
      unfold lot at hx ⊢
      simp only [List.mem_filter, decide_eq_true_eq] at hx ⊢
      exact ⟨hx.1, mem_trans v q hx.2⟩
  · refine .inl ?_
    rw [List.filter_eq_nil_iff]
    intro x hx hb
    exact h ⟨x, hx, of_decide_eq_true hb⟩
theorem lots_under (v : Valid ps) {a b : Nat} (h : a ∈ way ps b) : (lot ps a).filter (fun l => decide (l ∈ lot ps b)) = lot ps b := by
  unfold lot
  rw [List.filter_filter]
  apply List.filter_congr
  intro x hx
  simp only [List.mem_filter, hx, true_and, Bool.decide_coe]
  by_cases hb : b ∈ way ps x
  · simp [hb, mem_trans v h hb]
  · simp [hb]
/-! ### what two ways share -/
def common (ps : List Nat) (a b : Nat) : List Nat := (way ps a).filter fun x => decide (x ∈ way ps b)
def meetT (ps : List Nat) (a b : Nat) : Nat := (common ps a b).getLast?.getD 0
theorem common_ne (v : Valid ps) {a b : Nat} (ha : a ≤ ps.length) (hb : b ≤ ps.length) : common ps a b ≠ [] := by
  intro e
  have : 0 ∈ common ps a b := by
    unfold common
    simp only [List.mem_filter, decide_eq_true_eq]
    exact ⟨root_mem v a ha, root_mem v b hb⟩
  rw [e] at this
  cases this
theorem common_comm (v : Valid ps) (a b : Nat) : common ps a b = common ps b a := by
  have s1 : (common ps a b).Pairwise (· < ·) := List.Pairwise.filter _ (way_sorted v a)
  have s2 : (common ps b a).Pairwise (· < ·) := List.Pairwise.filter _ (way_sorted v b)
  refine List.Perm.eq_of_pairwise (fun x y _ _ h g => by omega) s1 s2 ?_
  rw [List.perm_ext_iff_of_nodup (s1.imp fun h => Nat.ne_of_lt h) (s2.imp fun h => Nat.ne_of_lt h)]
  intro x
  unfold common
  simp only [List.mem_filter, decide_eq_true_eq]
  exact And.comm
theorem common_last (v : Valid ps) {a b : Nat} (ha : a ≤ ps.length) (hb : b ≤ ps.length) : (common ps a b).getLast? = some (meetT ps a b) := by
  have h := common_ne v ha hb
  unfold meetT
  rw [List.getLast?_eq_some_getLast h]
  rfl
/-- under each node lies a leaf -/
theorem leaf_under (v : Valid ps) : ∀ (m i : Nat), ps.length - i ≤ m → i ≤ ps.length → ∃ l, l ∈ leavesT ps ∧ i ∈ way ps l := by
  intro m
  induction m with
  | zero =>
    intro i hm hi
    have e : i = ps.length := by omega
    subst e
    refine ⟨ps.length, ?_, self_mem _⟩
    rw [← kids_nil hi]
    apply List.eq_nil_iff_forall_not_mem.mpr
    intro c hc
    obtain ⟨j, rfl, hj⟩ := mem_kids.mp hc
    have := v j _ hj
    have := (List.getElem?_eq_some_iff.mp hj).1
    omega
  | succ m ih =>
    intro i hm hi
    by_cases hk : kids ps i = []
    · exact ⟨i, (kids_nil hi).mp hk, self_mem _⟩
    · obtain ⟨c, hc⟩ := List.exists_mem_of_ne_nil _ hk
      obtain ⟨j, rfl, hj⟩ := mem_kids.mp hc
      have h1 := v j _ hj
      have h2 := (List.getElem?_eq_some_iff.mp hj).1
      obtain ⟨l, h3, h4⟩ := ih (j + 1) (by omega) (by omega)
      exact ⟨l, h3, mem_trans v (kid_way v hc).1 h4⟩
/-- a tree all of whose leaves lie at e -/
structure Good (ps : List Nat) (e : Nat) : Prop where
  v : Valid ps
  len : ps.length ≤ 11
  e3 : e ≤ 3
  ends : ∀ l ∈ leavesT ps, depth ps l = e
theorem Good.le {e i : Nat} (g : Good ps e) (hi : i ≤ ps.length) : depth ps i ≤ e := by
  obtain ⟨l, h1, h2⟩ := leaf_under g.v _ i (Nat.le_refl _) hi
  rw [← g.ends l h1]
  exact depth_le g.v h2
/-! ### the nodes named anew, each behind its parent -/
structure Renamed (qs order ps : List Nat) : Prop where
  len : ps.length = qs.length
  ol : order.length = qs.length + 1
  nd : order.Nodup
  zero : order[0]? = some 0
  all : ∀ c, c ≤ qs.length → c ∈ order
  par : ∀ k, k < qs.length → ∃ c p i, order[k + 1]? = some (c + 1) ∧ qs[c]? = some p ∧ order[i]? = some p ∧ i ≤ k ∧ ps[k]? = some i
theorem Renamed.valid {qs order ps : List Nat} (r : Renamed qs order ps) : Valid ps := fun k p h => by
  have hk := (List.getElem?_eq_some_iff.mp h).1
  obtain ⟨c, q, i, _, _, _, h4, h5⟩ := r.par k (by rw [← r.len]; exact hk)
  rw [h] at h5
  cases h5
  exact h4
theorem Renamed.depth {qs order ps : List Nat} (v : Valid qs) (r : Renamed qs order ps) : ∀ (k a : Nat), order[k]? = some a → depth ps k = TR.depth qs a := by
  intro k
  induction k using Nat.strongRecOn with
  | ind k ih =>
    intro a ha
    cases k with
    | zero =>
      rw [r.zero] at ha
      cases ha
      rw [depth_zero, depth_zero]
    | succ k =>
      have hk : k < qs.length := by
        have := (List.getElem?_eq_some_iff.mp ha).1
        have := r.ol
        omega
      obtain ⟨c, p, i, h1, h2, h3, h4, h5⟩ := r.par k hk
      rw [ha] at h1
      cases h1
      rw [depth_succ r.valid h5, depth_succ v h2, ih i (Nat.lt_succ_of_le h4) p h3]
theorem Renamed.good {qs order ps : List Nat} {e : Nat} (g : Good qs e) (r : Renamed qs order ps) : Good ps e := by
  refine ⟨r.valid, by rw [r.len]; exact g.len, g.e3, fun l hl => ?_⟩
  unfold leavesT at hl
  simp only [List.mem_filter, List.mem_range, Bool.not_eq_true', decide_eq_false_iff_not] at hl
  obtain ⟨hlt, hn⟩ := hl
  have hlo : l < order.length := by rw [r.ol, ← r.len]; exact hlt
  have ha := List.getElem?_eq_getElem hlo
  rw [r.depth g.v l _ ha]
  apply g.ends
  unfold leavesT
  simp only [List.mem_filter, List.mem_range, Bool.not_eq_true', decide_eq_false_iff_not]
  have hrange : ∀ (k a : Nat), order[k]? = some a → a ≤ qs.length := fun k a h => by
    cases k with
    | zero => rw [r.zero] at h; cases h; exact Nat.zero_le _
    | succ k =>
      have hk : k < qs.length := by
        have := (List.getElem?_eq_some_iff.mp h).1
        have := r.ol
        omega
      obtain ⟨c, p, i, h1, h2, _⟩ := r.par k hk
      rw [h] at h1
      cases h1
      exact (List.getElem?_eq_some_iff.mp h2).1
  refine ⟨Nat.lt_succ_of_le (hrange l _ ha), fun hm => hn ?_⟩
  obtain ⟨j, hj⟩ := List.getElem?_of_mem hm
  have hjl := (List.getElem?_eq_some_iff.mp hj).1
  obtain ⟨m, hm2⟩ := List.getElem?_of_mem (r.all (j + 1) hjl)
  cases m with
  | zero => rw [r.zero] at hm2; exact nomatch hm2
  | succ m =>
    have hk : m < qs.length := by
      have := (List.getElem?_eq_some_iff.mp hm2).1
      have := r.ol
      omega
    obtain ⟨c, p, i, h1, h2, h3, h4, h5⟩ := r.par m hk
    rw [hm2] at h1
    cases h1
    rw [hj] at h2
    cases h2
    have hi := List.getElem?_eq_some_iff.mp h3
    have e : i = l := (List.getElem_inj r.nd (h₀ := hi.1) (h₁ := hlo)).mp hi.2
    subst e
    exact List.mem_of_getElem? h5
/-! ### level upon level -/
/-- the tree so far: the last w nodes lie at t, all leaves are among them -/
structure Grown (qs : List Nat) (t w : Nat) : Prop where
  v : Valid qs
  w1 : 1 ≤ w
  wl : w ≤ qs.length + 1
  low : ∀ l ∈ leavesT qs, qs.length + 1 - w ≤ l
  at_ : ∀ i, qs.length + 1 - w ≤ i → i ≤ qs.length → depth qs i = t
theorem Grown.zero : Grown [] 0 1 := ⟨fun i p h => by simp at h, Nat.le_refl _, Nat.le_refl _, fun l _ => by simp, fun i _ hi => by
  have : i = 0 := by simpa using hi
  subst this
  exact depth_zero⟩
theorem way_append (ps rs : List Nat) (v : Valid (ps ++ rs)) : ∀ (i : Nat), i ≤ ps.length → way (ps ++ rs) i = way ps i := by
  have vp : Valid ps := fun i p h => v i p (by rw [List.getElem?_append_left (List.getElem?_eq_some_iff.mp h).1]; exact h)
  intro i
  induction i using Nat.strongRecOn with
  | ind i ih =>
    intro hi
    cases i with
    | zero => rw [way_zero, way_zero]
    | succ i =>
      have hp : ps[i]? = some ps[i] := List.getElem?_eq_getElem (by omega)
      have hp2 : (ps ++ rs)[i]? = some ps[i] := by rw [List.getElem?_append_left (by omega)]; exact hp
      have := vp i _ hp
      rw [way_succ v hp2, way_succ vp hp, ih _ (by omega) (by omega)]
theorem depth_append (ps rs : List Nat) (v : Valid (ps ++ rs)) {i : Nat} (hi : i ≤ ps.length) : depth (ps ++ rs) i = depth ps i := by
  unfold depth
  rw [way_append ps rs v i hi]
/-- a new level: each node of the last one is a parent, the parents lie on it -/
theorem Grown.next {qs : List Nat} {t w : Nat} (g : Grown qs t w) {rs : List Nat} (h1 : ∀ r ∈ rs, qs.length + 1 - w ≤ r ∧ r ≤ qs.length) (h2 : ∀ r, qs.length + 1 - w ≤ r → r ≤ qs.length → r ∈ rs) : Grown (qs ++ rs) (t + 1) rs.length := by
  have v : Valid (qs ++ rs) := fun i p h => by
    by_cases hi : i < qs.length
    · rw [List.getElem?_append_left hi] at h
      exact g.v i p h
    · rw [List.getElem?_append_right (by omega)] at h
      have := (h1 p (List.mem_of_getElem? h)).2
      omega
  have hw := g.w1
  have hwl := g.wl
  refine ⟨v, ?_, by simp; omega, fun l hl => ?_, fun i hi hi2 => ?_⟩
  · have := h2 qs.length (by omega) (Nat.le_refl _)
    exact List.length_pos_iff.mpr (List.ne_nil_of_mem this)
  · unfold leavesT at hl
    simp only [List.mem_filter, List.mem_range, Bool.not_eq_true', decide_eq_false_iff_not, List.mem_append, not_or, List.length_append] at hl
    obtain ⟨hl1, hl2, hl3⟩ := hl
    rw [List.length_append]
    by_cases hq : l ≤ qs.length
    · exfalso
      by_cases hlow : qs.length + 1 - w ≤ l
      · exact hl3 (h2 l hlow hq)
      · have : l ∈ leavesT qs := by
          unfold leavesT
          simp only [List.mem_filter, List.mem_range, Bool.not_eq_true', decide_eq_false_iff_not]
          exact ⟨by omega, hl2⟩
        exact hlow (g.low l this)
    · omega
  · rw [List.length_append] at hi hi2
    obtain ⟨j, rfl⟩ : ∃ j, i = qs.length + j + 1 := ⟨i - qs.length - 1, by omega⟩
    have hj : j < rs.length := by omega
    have hp : (qs ++ rs)[qs.length + j]? = some rs[j] := by
      rw [List.getElem?_append_right (by omega)]
      have e : qs.length + j - qs.length = j := by omega
      rw [e]
      exact List.getElem?_eq_getElem hj
    have hr := h1 rs[j] (List.getElem_mem hj)
    rw [depth_succ v hp, depth_append qs rs v hr.2, g.at_ _ hr.1 hr.2]
theorem Grown.good {qs : List Nat} {t w : Nat} (g : Grown qs t w) (hl : qs.length ≤ 11) (ht : t ≤ 3) : Good qs t :=
  ⟨g.v, hl, ht, fun l h => g.at_ l (g.low l h) (by
    unfold leavesT at h
    have := List.mem_range.mp (List.mem_filter.mp h).1
    omega)⟩
end TR
end

section
set_option autoImplicit false
/-! TQ: parts of trees, numbered anew; plain Lean -/
namespace TR
/-- some nodes, rising, the first one on top, each other one behind its parent -/
structure Part (ps ns : List Nat) : Prop where
  ne : ns ≠ []
  srt : ns.Pairwise (· < ·)
  le : ∀ x ∈ ns, x ≤ ps.length
  par : ∀ k, k + 1 < ns.length → ∃ x p j : Nat, ns[k + 1]? = some (x + 1) ∧ ps[x]? = some p ∧ ns[j]? = some p
def pofn (ps : List Nat) (x : Nat) : Nat := (ps[x - 1]?).getD 0
/-- the parents, numbered anew -/
def renum (ps ns : List Nat) : List Nat := ns.tail.map fun x => ns.idxOf (pofn ps x)
/-- the old number of a new one -/
def old (ns : List Nat) (k : Nat) : Nat := ns.getD k 0
variable {ps ns : List Nat}
theorem old_get {k a : Nat} (h : ns[k]? = some a) : old ns k = a := by
  unfold old
  rw [List.getD_eq_getElem?_getD, h]; rfl
theorem get_old {k : Nat} (h : k < ns.length) : ns[k]? = some (old ns k) := by
  rw [List.getElem?_eq_getElem h, old_get (List.getElem?_eq_getElem h)]
theorem range_old : (List.range ns.length).map (old ns) = ns := by
  refine List.ext_getElem? fun i => ?_
  rw [List.getElem?_map]
  by_cases h : i < ns.length
  · rw [List.getElem?_range h, get_old h]; rfl
  · rw [List.getElem?_eq_none (by rw [List.length_range]; omega), List.getElem?_eq_none (by omega)]; rfl
theorem srt_lt (h : ns.Pairwise (· < ·)) {i j a b : Nat} (hi : ns[i]? = some a) (hj : ns[j]? = some b) (hl : i < j) : a < b := by
  obtain ⟨h1, rfl⟩ := List.getElem?_eq_some_iff.mp hi
  obtain ⟨h2, rfl⟩ := List.getElem?_eq_some_iff.mp hj
  exact List.pairwise_iff_getElem.mp h i j h1 h2 hl
theorem srt_inj (h : ns.Pairwise (· < ·)) {i j a : Nat} (hi : ns[i]? = some a) (hj : ns[j]? = some a) : i = j := by
  rcases Nat.lt_trichotomy i j with z | z | z
  · exact absurd (srt_lt h hi hj z) (Nat.lt_irrefl _)
  · exact z
  · exact absurd (srt_lt h hj hi z) (Nat.lt_irrefl _)
theorem srt_idx (h : ns.Pairwise (· < ·)) {i a : Nat} (hi : ns[i]? = some a) : ns.idxOf a = i := by
  have hm : a ∈ ns := List.mem_of_getElem? hi
  have h1 : ns.idxOf a < ns.length := List.idxOf_lt_length_of_mem hm
  have h2 : ns[ns.idxOf a]? = some a := by rw [List.getElem?_eq_getElem h1, List.getElem_idxOf]
  exact srt_inj h h2 hi
namespace Part
theorem pos (h : Part ps ns) : 0 < ns.length := List.length_pos_iff.mpr h.ne
theorem len (h : Part ps ns) : (renum ps ns).length + 1 = ns.length := by
  have := h.pos
  unfold renum
  rw [List.length_map, List.length_tail]
  omega
theorem get (v : Valid ps) (h : Part ps ns) {k : Nat} (hk : k + 1 < ns.length) : ∃ x p j : Nat, ns[k + 1]? = some (x + 1) ∧ ps[x]? = some p ∧ ns[j]? = some p ∧ j ≤ k ∧ (renum ps ns)[k]? = some j := by
  obtain ⟨x, p, j, h1, h2, h3⟩ := h.par k hk
  have hp := v x p h2
  refine ⟨x, p, j, h1, h2, h3, ?_, ?_⟩
  · rcases Nat.lt_or_ge k j with z | z
    · rcases Nat.lt_or_ge (k + 1) j with y | y
      · have := srt_lt h.srt h1 h3 y
        omega
      · have : j = k + 1 := by omega
        subst this
        rw [h1] at h3
        have := Option.some.inj h3
        omega
    · exact z
  · unfold renum
    rw [List.getElem?_map, List.getElem?_tail, h1]
    show some (ns.idxOf (pofn ps (x + 1))) = some j
    unfold pofn
    rw [show x + 1 - 1 = x from rfl, h2]
    show some (ns.idxOf p) = some j
    rw [srt_idx h.srt h3]
theorem valid (v : Valid ps) (h : Part ps ns) : Valid (renum ps ns) := fun k j hj => by
  have hk := (List.getElem?_eq_some_iff.mp hj).1
  have := h.len
  obtain ⟨x, p, i, _, _, _, h4, h5⟩ := h.get v (k := k) (by omega)
  rw [hj] at h5
  cases h5
  exact h4
theorem way (v : Valid ps) (h : Part ps ns) {r : Nat} (hr : ns[0]? = some r) {pre : List Nat} (hp : TR.way ps r = pre ++ [r]) : ∀ (k a : Nat), ns[k]? = some a → TR.way ps a = pre ++ (TR.way (renum ps ns) k).map (old ns) := by
  intro k
  induction k using Nat.strongRecOn with
  | ind k ih =>
    intro a ha
    cases k with
    | zero =>
      rw [hr] at ha
      cases ha
      rw [way_zero, hp]
      show pre ++ [r] = pre ++ [old ns 0]
      rw [old_get hr]
    | succ k =>
      have hk := (List.getElem?_eq_some_iff.mp ha).1
      obtain ⟨x, p, j, h1, h2, h3, h4, h5⟩ := h.get v hk
      rw [ha] at h1
      cases h1
      rw [way_succ v h2, way_succ (h.valid v) h5, ih j (by omega) p h3, List.map_append, List.append_assoc]
      show _ = pre ++ (_ ++ [old ns (k + 1)])
      rw [old_get ha]
theorem depth (v : Valid ps) (h : Part ps ns) {r : Nat} (hr : ns[0]? = some r) {k a : Nat} (ha : ns[k]? = some a) : TR.depth ps a = TR.depth ps r + TR.depth (renum ps ns) k := by
  obtain ⟨pre, hp⟩ := way_last (ps := ps) r
  have h1 := congrArg List.length (h.way v hr hp k a ha)
  have h2 := congrArg List.length hp
  rw [way_len, List.length_append, List.length_map, way_len] at h1
  rw [way_len, List.length_append, List.length_singleton] at h2
  omega
theorem top (h : Part ps ns) {r : Nat} (hr : ns[0]? = some r) {j b : Nat} (hb : ns[j]? = some b) : r ≤ b := by
  cases j with
  | zero => rw [hr] at hb; cases hb; exact Nat.le_refl _
  | succ j => exact Nat.le_of_lt (srt_lt h.srt hr hb (Nat.succ_pos _))
theorem mem (v : Valid ps) (h : Part ps ns) {j k a b : Nat} (hb : ns[j]? = some b) (ha : ns[k]? = some a) : b ∈ TR.way ps a ↔ j ∈ TR.way (renum ps ns) k := by
  have h0 := h.pos
  obtain ⟨r, hr⟩ : ∃ r, ns[0]? = some r := ⟨_, List.getElem?_eq_getElem h0⟩
  obtain ⟨pre, hp⟩ := way_last (ps := ps) r
  rw [h.way v hr hp k a ha, List.mem_append, List.mem_map]
  have hpre : ∀ x ∈ pre, x < r := fun x hx => by
    have := way_sorted v r
    rw [hp, List.pairwise_append] at this
    exact this.2.2 x hx r (List.mem_singleton.mpr rfl)
  have hkl := (List.getElem?_eq_some_iff.mp ha).1
  constructor
  · rintro (hx | ⟨i, hi, e⟩)
    · have := hpre b hx
      have := h.top hr hb
      omega
    · have hik := mem_le (h.valid v) k hi
      have := get_old (ns := ns) (k := i) (by omega)
      rw [e] at this
      rw [← srt_inj h.srt this hb]
      exact hi
  · intro hj
    exact .inr ⟨j, hj, old_get hb⟩
theorem leaf (v : Valid ps) (h : Part ps ns) {k a : Nat} (ha : ns[k]? = some a) : k ∈ leavesT (renum ps ns) ↔ ∀ c ∈ kids ps a, c ∉ ns := by
  have hkl := (List.getElem?_eq_some_iff.mp ha).1
  have hl := h.len
  unfold leavesT
  simp only [List.mem_filter, List.mem_range, Bool.not_eq_true', decide_eq_false_iff_not]
  constructor
  · rintro ⟨_, hn⟩ c hc hcn
    obtain ⟨x, rfl, hx⟩ := mem_kids.mp hc
    obtain ⟨i, hi⟩ := List.getElem?_of_mem hcn
    cases i with
    | zero =>
      have := h.top hi ha
      have := v x a hx
      omega
    | succ i =>
      obtain ⟨y, p, j, h1, h2, h3, _, h5⟩ := h.get v (List.getElem?_eq_some_iff.mp hi).1
      rw [hi] at h1
      cases h1
      rw [hx] at h2
      cases h2
      rw [srt_inj h.srt ha h3] at hn
      exact hn (List.mem_of_getElem? h5)
  · intro hc
    refine ⟨by omega, fun hm => ?_⟩
    obtain ⟨i, hi⟩ := List.getElem?_of_mem hm
    have hil := (List.getElem?_eq_some_iff.mp hi).1
    obtain ⟨y, p, j, h1, h2, h3, _, h5⟩ := h.get v (k := i) (by omega)
    rw [hi] at h5
    cases h5
    rw [ha] at h3
    cases h3
    exact hc (y + 1) (mem_kids.mpr ⟨y, rfl, h2⟩) (List.mem_of_getElem? h1)
/-- nodes told by a test, as old ones -/
theorem pick (q P : Nat → Bool) (e : ∀ k a, ns[k]? = some a → q k = P a) : ((List.range ns.length).filter q).map (old ns) = ns.filter P := by
  have : (List.range ns.length).filter q = (List.range ns.length).filter (P ∘ old ns) := List.filter_congr fun k hk => by
    have hk := List.mem_range.mp hk
    exact e k _ (get_old hk)
  rw [this, ← List.filter_map, range_old]
theorem idx_map {f : Nat → Nat} {j : Nat} : ∀ {ms : List Nat}, (∀ y ∈ ms, f y = f j → y = j) → (ms.map f).idxOf (f j) = ms.idxOf j
  | [], _ => rfl
  | y :: ms, h => by
    rw [List.map_cons, List.idxOf_cons, List.idxOf_cons]
    have ih := idx_map (ms := ms) fun z hz => h z (List.mem_cons_of_mem _ hz)
    by_cases e : y = j
    · subst e
      simp
    · have e2 : f y ≠ f j := fun z => e (h y (List.mem_cons_self ..) z)
      rw [show (y == j) = false from by simpa using e, show (f y == f j) = false from by simpa using e2, ih]
/-- a part of a part -/
theorem comp (v : Valid ps) (h : Part ps ns) {ms : List Nat} (g : Part (renum ps ns) ms) : renum ps (ms.map (old ns)) = renum (renum ps ns) ms := by
  have hl := h.len
  show (ms.map (old ns)).tail.map _ = ms.tail.map _
  rw [← List.map_tail, List.map_map]
  refine List.map_congr_left fun k hk => ?_
  obtain ⟨i, hi⟩ := List.getElem?_of_mem hk
  rw [List.getElem?_tail] at hi
  obtain ⟨x, p, j, h1, h2, h3, _⟩ := g.get (h.valid v) (List.getElem?_eq_some_iff.mp hi).1
  rw [hi] at h1
  cases h1
  have hx := (List.getElem?_eq_some_iff.mp h2).1
  obtain ⟨y, p2, j2, k1, k2, k3, _, k5⟩ := h.get v (k := x) (by omega)
  rw [h2] at k5
  cases k5
  show (ms.map (old ns)).idxOf (pofn ps (old ns (x + 1))) = ms.idxOf (pofn (renum ps ns) (x + 1))
  rw [old_get k1]
  unfold pofn
  rw [show y + 1 - 1 = y from rfl, show x + 1 - 1 = x from rfl, k2, h2]
  show (ms.map (old ns)).idxOf p2 = ms.idxOf p
  rw [← old_get k3]
  refine idx_map fun z hz e => ?_
  have hz2 : z < ns.length := by have := g.le z hz; omega
  have := get_old (ns := ns) hz2
  rw [e, old_get k3] at this
  exact srt_inj h.srt this k3
end Part
/-! ### cut at a time -/
def cutN (ps : List Nat) (t : Nat) : List Nat := (List.range (ps.length + 1)).filter fun x => decide (depth ps x ≤ t)
def partN (ps : List Nat) (a : Nat) : List Nat := (List.range (ps.length + 1)).filter fun x => decide (a ∈ way ps x)
theorem mem_cutN {t x : Nat} : x ∈ cutN ps t ↔ x ≤ ps.length ∧ depth ps x ≤ t := by
  unfold cutN
  rw [List.mem_filter, List.mem_range, decide_eq_true_eq]
  omega
theorem mem_partN {a x : Nat} : x ∈ partN ps a ↔ x ≤ ps.length ∧ a ∈ way ps x := by
  unfold partN
  rw [List.mem_filter, List.mem_range, decide_eq_true_eq, Nat.lt_succ_iff]
theorem cut_srt (t : Nat) : (cutN ps t).Pairwise (· < ·) := List.Pairwise.filter _ List.pairwise_lt_range
theorem part_srt (a : Nat) : (partN ps a).Pairwise (· < ·) := List.Pairwise.filter _ List.pairwise_lt_range
/-- the least one stands first -/
theorem first_of (h : ns.Pairwise (· < ·)) {r : Nat} (hr : r ∈ ns) (hm : ∀ x ∈ ns, r ≤ x) : ns[0]? = some r := by
  obtain ⟨i, hi⟩ := List.getElem?_of_mem hr
  cases i with
  | zero => exact hi
  | succ i =>
    have h0 : 0 < ns.length := by have := (List.getElem?_eq_some_iff.mp hi).1; omega
    have h1 : ns[0]? = some ns[0] := List.getElem?_eq_getElem h0
    have h2 := srt_lt h h1 hi (Nat.succ_pos _)
    have h3 := hm ns[0] (List.getElem_mem h0)
    omega
theorem cut_zero (t : Nat) : (cutN ps t)[0]? = some 0 := first_of (cut_srt t) (mem_cutN.mpr ⟨Nat.zero_le _, by rw [depth_zero]; exact Nat.zero_le _⟩) fun _ _ => Nat.zero_le _
theorem part_top (v : Valid ps) {a : Nat} (ha : a ≤ ps.length) : (partN ps a)[0]? = some a := first_of (part_srt a) (mem_partN.mpr ⟨ha, self_mem _⟩) fun x hx => mem_le v x (mem_partN.mp hx).2
theorem cut_part (v : Valid ps) (t : Nat) : Part ps (cutN ps t) where
  ne := List.ne_nil_of_mem (List.mem_of_getElem? (cut_zero t))
  srt := cut_srt t
  le := fun x hx => (mem_cutN.mp hx).1
  par := fun k hk => by
    have h1 := List.getElem?_eq_getElem hk
    have h2 := srt_lt (cut_srt t) (cut_zero t) h1 (Nat.succ_pos _)
    obtain ⟨h3, h4⟩ := mem_cutN.mp (List.getElem_mem hk)
    obtain ⟨x, hx⟩ : ∃ x, (cutN ps t)[k + 1] = x + 1 := ⟨(cutN ps t)[k + 1] - 1, by omega⟩
    rw [hx] at h1 h3 h4
    have h5 : ps[x]? = some ps[x] := List.getElem?_eq_getElem h3
    rw [depth_succ v h5] at h4
    have h6 := v x _ h5
    obtain ⟨j, hj⟩ := List.getElem?_of_mem (mem_cutN.mpr ⟨by omega, by omega⟩ : ps[x] ∈ cutN ps t)
    exact ⟨x, _, j, h1, h5, hj⟩
theorem part_part (v : Valid ps) {a : Nat} (ha : a ≤ ps.length) : Part ps (partN ps a) where
  ne := List.ne_nil_of_mem (List.mem_of_getElem? (part_top v ha))
  srt := part_srt a
  le := fun x hx => (mem_partN.mp hx).1
  par := fun k hk => by
    have h1 := List.getElem?_eq_getElem hk
    have h2 := srt_lt (part_srt a) (part_top v ha) h1 (Nat.succ_pos _)
    obtain ⟨h3, h4⟩ := mem_partN.mp (List.getElem_mem hk)
    obtain ⟨x, hx⟩ : ∃ x, (partN ps a)[k + 1] = x + 1 := ⟨(partN ps a)[k + 1] - 1, by omega⟩
    rw [hx] at h1 h2 h3 h4
    have h5 : ps[x]? = some ps[x] := List.getElem?_eq_getElem h3
    rw [way_succ v h5, List.mem_append, List.mem_singleton] at h4
    have h6 := v x _ h5
    have h7 : a ∈ way ps ps[x] := by
      rcases h4 with z | z
      · exact z
      · omega
    obtain ⟨j, hj⟩ := List.getElem?_of_mem (mem_partN.mpr ⟨by omega, h7⟩ : ps[x] ∈ partN ps a)
    exact ⟨x, _, j, h1, h5, hj⟩
section
variable {e t : Nat}
theorem not_leaf (g : Good ps e) {a : Nat} (ha : a ≤ ps.length) (hd : depth ps a < e) : ∃ c, c ∈ kids ps a := by
  refine List.exists_mem_of_ne_nil _ fun z => ?_
  have := g.ends a ((kids_nil ha).mp z)
  omega
theorem kid_le {a c : Nat} (h : c ∈ kids ps a) : c ≤ ps.length := by
  obtain ⟨x, rfl, hx⟩ := mem_kids.mp h
  exact (List.getElem?_eq_some_iff.mp hx).1
theorem cut_leaf (g : Good ps e) (ht : t ≤ e) {k a : Nat} (ha : (cutN ps t)[k]? = some a) : k ∈ leavesT (renum ps (cutN ps t)) ↔ depth ps a = t := by
  obtain ⟨h1, h2⟩ := mem_cutN.mp (List.mem_of_getElem? ha)
  rw [(cut_part g.v t).leaf g.v ha]
  constructor
  · intro hc
    refine Nat.le_antisymm h2 (Nat.le_of_not_lt fun hlt => ?_)
    obtain ⟨c, hk⟩ := not_leaf g h1 (by omega)
    exact hc c hk (mem_cutN.mpr ⟨kid_le hk, by rw [(kid_way g.v hk).2]; omega⟩)
  · intro hd c hk hm
    have := (mem_cutN.mp hm).2
    rw [(kid_way g.v hk).2] at this
    omega
theorem srt_ge (h : ns.Pairwise (· < ·)) : ∀ (i a : Nat), ns[i]? = some a → i ≤ a
  | 0, _, _ => Nat.zero_le _
  | i + 1, a, ha => by
    have hi := (List.getElem?_eq_some_iff.mp ha).1
    have h1 : ns[i]? = some ns[i] := List.getElem?_eq_getElem (by omega)
    have h2 := srt_ge h i _ h1
    have h3 := srt_lt h h1 ha (Nat.lt_succ_self i)
    omega
theorem sub_len (h : ns.Pairwise (· < ·)) (hl : ∀ x ∈ ns, x ≤ ps.length) : ns.length ≤ ps.length + 1 := by
  by_cases h0 : ns.length = 0
  · omega
  · have h1 : ns[ns.length - 1]? = some (ns[ns.length - 1]'(by omega)) := List.getElem?_eq_getElem (by omega)
    have h2 := srt_ge h _ _ h1
    have h3 := hl _ (List.mem_of_getElem? h1)
    omega
theorem cut_good (g : Good ps e) (ht : t ≤ e) : Good (renum ps (cutN ps t)) t where
  v := (cut_part g.v t).valid g.v
  len := by
    have h := cut_part g.v t
    have := h.len
    have := sub_len h.srt h.le
    have := g.len
    omega
  e3 := Nat.le_trans ht g.e3
  ends := fun l hl => by
    have h := cut_part g.v t
    have hll : l < (cutN ps t).length := by
      have := List.mem_range.mp (List.mem_filter.mp hl).1
      have := h.len
      omega
    have hg := get_old (ns := cutN ps t) hll
    have h1 := (cut_leaf g ht hg).mp hl
    have h2 := h.depth g.v (cut_zero t) hg
    rw [depth_zero] at h2
    omega
theorem cut_ends (g : Good ps e) (ht : t ≤ e) : (leavesT (renum ps (cutN ps t))).map (old (cutN ps t)) = level ps t := by
  have h := cut_part g.v t
  have e1 : leavesT (renum ps (cutN ps t)) = (List.range (cutN ps t).length).filter fun k => decide (k ∈ leavesT (renum ps (cutN ps t))) := by
    rw [← h.len]
    unfold leavesT
    refine List.filter_congr fun k hk => ?_
    rw [Bool.eq_iff_iff, decide_eq_true_eq, List.mem_filter]
    exact ⟨fun z => ⟨hk, z⟩, fun z => z.2⟩
  rw [e1, Part.pick _ (fun a => decide (depth ps a = t)) fun k a ha => by
    rw [Bool.eq_iff_iff, decide_eq_true_eq, decide_eq_true_eq]
    exact cut_leaf g ht ha]
  unfold cutN level
  rw [List.filter_filter]
  refine List.filter_congr fun x _ => ?_
  rw [Bool.eq_iff_iff, Bool.and_eq_true, decide_eq_true_eq, decide_eq_true_eq, beq_iff_eq]
  omega
theorem cut_again (v : Valid ps) {s : Nat} (hs : s ≤ t) : (cutN (renum ps (cutN ps t)) s).map (old (cutN ps t)) = cutN ps s := by
  have h := cut_part v t
  show ((List.range ((renum ps (cutN ps t)).length + 1)).filter _).map _ = _
  rw [h.len, Part.pick _ (fun a => decide (depth ps a ≤ s)) fun k a ha => by
    have := h.depth v (cut_zero t) ha
    rw [depth_zero, Nat.zero_add] at this
    rw [this]]
  unfold cutN
  rw [List.filter_filter]
  refine List.filter_congr fun x _ => ?_
  rw [Bool.eq_iff_iff, Bool.and_eq_true, decide_eq_true_eq, decide_eq_true_eq]
  omega
theorem cut_way (v : Valid ps) {k a : Nat} (ha : (cutN ps t)[k]? = some a) : (way (renum ps (cutN ps t)) k).map (old (cutN ps t)) = way ps a :=
  ((cut_part v t).way v (cut_zero t) (pre := []) way_zero k a ha).symm
theorem cut_all (g : Good ps e) : cutN ps e = List.range (ps.length + 1) := List.filter_eq_self.mpr fun x hx => decide_eq_true (g.le (by have := List.mem_range.mp hx; omega))
theorem part_all (v : Valid ps) : partN ps 0 = List.range (ps.length + 1) := List.filter_eq_self.mpr fun x hx => decide_eq_true (root_mem v x (by have := List.mem_range.mp hx; omega))
theorem range_idx {n x : Nat} (h : x < n) : (List.range n).idxOf x = x := srt_idx List.pairwise_lt_range (List.getElem?_range h)
theorem renum_all (v : Valid ps) : renum ps (List.range (ps.length + 1)) = ps := by
  unfold renum
  refine List.ext_getElem? fun i => ?_
  rw [List.getElem?_map, List.getElem?_tail]
  by_cases hi : i < ps.length
  · rw [List.getElem?_range (by omega)]
    show some ((List.range (ps.length + 1)).idxOf (pofn ps (i + 1))) = _
    have h1 : ps[i]? = some ps[i] := List.getElem?_eq_getElem hi
    have h2 := v i _ h1
    unfold pofn
    rw [show i + 1 - 1 = i from rfl, h1]
    show some ((List.range (ps.length + 1)).idxOf ps[i]) = _
    rw [range_idx (by omega)]
  · rw [List.getElem?_eq_none (by rw [List.length_range]; omega), List.getElem?_eq_none (by omega)]; rfl
theorem cut_one (v : Valid ps) : cutN ps 0 = [0] := by
  have h : ∀ x ∈ cutN ps 0, x = 0 := fun x hx => by
    have := (mem_cutN.mp hx).2
    cases x with
    | zero => rfl
    | succ x =>
      have hl := (mem_cutN.mp hx).1
      rw [depth_succ v (List.getElem?_eq_getElem hl)] at this
      omega
  have h0 := cut_zero (ps := ps) 0
  cases hc : cutN ps 0 with
  | nil => rw [hc] at h0; cases h0
  | cons a r =>
    rw [hc] at h h0
    cases h0
    cases r with
    | nil => rfl
    | cons b r =>
      have hs := cut_srt (ps := ps) 0
      rw [hc] at hs
      have h1 := (List.pairwise_cons.mp hs).1 b (List.mem_cons_self ..)
      have h2 := h b (List.mem_cons_of_mem _ (List.mem_cons_self ..))
      omega
/-! ### the part of a node -/
theorem part_leaf (v : Valid ps) {a : Nat} (ha : a ≤ ps.length) {k b : Nat} (hb : (partN ps a)[k]? = some b) : k ∈ leavesT (renum ps (partN ps a)) ↔ b ∈ leavesT ps := by
  obtain ⟨h1, h2⟩ := mem_partN.mp (List.mem_of_getElem? hb)
  rw [(part_part v ha).leaf v hb, ← kids_nil h1]
  constructor
  · intro hc
    refine List.eq_nil_iff_forall_not_mem.mpr fun c hk => ?_
    exact hc c hk (mem_partN.mpr ⟨kid_le hk, mem_trans v h2 (kid_way v hk).1⟩)
  · intro hn c hk
    rw [hn] at hk
    cases hk
theorem part_good (g : Good ps e) {a : Nat} (ha : a ≤ ps.length) : Good (renum ps (partN ps a)) (e - depth ps a) where
  v := (part_part g.v ha).valid g.v
  len := by
    have h := part_part g.v ha
    have := h.len
    have := sub_len h.srt h.le
    have := g.len
    omega
  e3 := Nat.le_trans (Nat.sub_le _ _) g.e3
  ends := fun l hl => by
    have h := part_part g.v ha
    have hll : l < (partN ps a).length := by
      have := List.mem_range.mp (List.mem_filter.mp hl).1
      have := h.len
      omega
    have hg := get_old (ns := partN ps a) hll
    have h1 := g.ends _ ((part_leaf g.v ha hg).mp hl)
    have h2 := h.depth g.v (part_top g.v ha) hg
    omega
theorem leaves_range (qs : List Nat) : leavesT qs = (List.range (qs.length + 1)).filter fun k => decide (k ∈ leavesT qs) := by
  unfold leavesT
  refine List.filter_congr fun k hk => ?_
  rw [Bool.eq_iff_iff, decide_eq_true_eq, List.mem_filter]
  exact ⟨fun z => ⟨hk, z⟩, fun z => z.2⟩
theorem part_ends (v : Valid ps) {a : Nat} (ha : a ≤ ps.length) : (leavesT (renum ps (partN ps a))).map (old (partN ps a)) = lot ps a := by
  have h := part_part v ha
  rw [leaves_range, h.len, Part.pick _ (fun b => decide (b ∈ leavesT ps)) fun k b hb => by
    rw [Bool.eq_iff_iff, decide_eq_true_eq, decide_eq_true_eq]
    exact part_leaf v ha hb]
  unfold partN lot
  rw [leaves_range ps, List.filter_filter, List.filter_filter]
  refine List.filter_congr fun x _ => ?_
  rw [Bool.and_comm, ← leaves_range ps]
theorem lot_filter (v : Valid ps) {a b : Nat} (h : a ∈ way ps b) : (lot ps a).filter (fun l => decide (b ∈ way ps l)) = lot ps b := by
  unfold lot
  rw [List.filter_filter]
  refine List.filter_congr fun x _ => ?_
  rw [Bool.eq_iff_iff, Bool.and_eq_true, decide_eq_true_eq, decide_eq_true_eq]
  exact ⟨fun z => z.1, fun z => ⟨z, mem_trans v h z⟩⟩
theorem part_lot (v : Valid ps) {a : Nat} (ha : a ≤ ps.length) {k b : Nat} (hb : (partN ps a)[k]? = some b) : (lot (renum ps (partN ps a)) k).map (old (partN ps a)) = lot ps b := by
  have h := part_part v ha
  have h2 := (mem_partN.mp (List.mem_of_getElem? hb)).2
  rw [← lot_filter v h2, ← part_ends v ha]
  rw [List.filter_map]
  unfold lot
  congr 1
  refine List.filter_congr fun l hl => ?_
  have hll : l < (partN ps a).length := by
    have := List.mem_range.mp (List.mem_filter.mp hl).1
    have := h.len
    omega
  rw [Bool.eq_iff_iff, decide_eq_true_eq]
  show _ ↔ decide (b ∈ way ps (old (partN ps a) l)) = true
  rw [decide_eq_true_eq]
  exact (h.mem v hb (get_old hll)).symm
theorem part_again (v : Valid ps) {a : Nat} (ha : a ≤ ps.length) {k b : Nat} (hb : (partN ps a)[k]? = some b) : (partN (renum ps (partN ps a)) k).map (old (partN ps a)) = partN ps b := by
  have h := part_part v ha
  have h2 := (mem_partN.mp (List.mem_of_getElem? hb)).2
  show ((List.range ((renum ps (partN ps a)).length + 1)).filter _).map _ = _
  rw [h.len, Part.pick _ (fun x => decide (b ∈ way ps x)) fun j x hx => by
    rw [Bool.eq_iff_iff, decide_eq_true_eq, decide_eq_true_eq]
    exact (h.mem v hb hx).symm]
  unfold partN
  rw [List.filter_filter]
  refine List.filter_congr fun x _ => ?_
  rw [Bool.eq_iff_iff, Bool.and_eq_true, decide_eq_true_eq, decide_eq_true_eq]
  exact ⟨fun z => z.1, fun z => ⟨z, mem_trans v h2 z⟩⟩
theorem part_depth (v : Valid ps) {a : Nat} (ha : a ≤ ps.length) {k b : Nat} (hb : (partN ps a)[k]? = some b) : depth ps b = depth ps a + depth (renum ps (partN ps a)) k := (part_part v ha).depth v (part_top v ha) hb
end
end TR
end

section
set_option Elab.async false
set_option linter.all false
set_option maxRecDepth 100000
set_option autoImplicit false
/-! EV: reckoning in the evaluator -/
namespace PV
open PySem
/-- how a body's end becomes the call's -/
def fin (p : Option (List D)) (r : Option (Fl × DE)) : Option (W × Option (List D)) := r.bind fun (fl, E) => match fl with
  | .rt w => (endP p E).map fun q => (w, q)
  | .nx => (endP p E).map fun q => (.d .none, q)
  | _ => none
theorem callF_eq {C : Core} {n f : Nat} {df : CDef} {p : Option (List D)} {ds : List D} (h : C[f]? = some df) (h1 : p.isSome = df.byref) (h2 : (argE p ds).length = df.params.length) (h3 : df.params.length ≤ df.names.length) :
    callF C (n + 1) f p ds = fin p (PV.execs (callF C n) df.body (argE p ds ++ List.replicate (df.names.length - df.params.length) none)) := by
  rw [callF, h]
  dsimp only
  rw [if_pos ⟨h1, h2, h3⟩]
  rfl
section
variable {F : Fn}
theorem fin_rt {w : W} {E : DE} : fin none (some (.rt w, E)) = some (w, none) := rfl
theorem fin_nx {E : DE} : fin none (some (.nx, E)) = some (.d .none, none) := rfl
/-! ### comprehensions -/
/-- each turn leaves the slots as they were; ys: what is walked, as one thinks of it -/
theorem lcGo_eq {α : Type} {bind : D → DE → Option DE} {cond : DE → Option (Bool × DE)} {elt : DE → Option (W × DE)} {vs : List Nat} {E : DE} {enc : α → D} {p : α → Bool} {f : α → D} : ∀ {ys : List α},
    (∀ y ∈ ys, ∃ E1 E2, bind (enc y) E = some E1 ∧ cond E1 = some (p y, E2) ∧ (p y = true → ∃ w E3, elt E2 = some (w, E3) ∧ w.data = f y ∧ wipeE E3 vs = E) ∧ (p y = false → wipeE E2 vs = E)) →
    lcGo bind cond elt vs (ys.map enc) E = some ((ys.filter p).map f, E)
  | [], _ => rfl
  | y :: ys, h => by
    obtain ⟨E1, E2, h1, h2, h3, h4⟩ := h y (List.mem_cons_self ..)
    have ih := lcGo_eq (ys := ys) (fun z hz => h z (List.mem_cons_of_mem _ hz))
    rw [List.map_cons, lcGo, h1, Option.bind_some, h2, Option.bind_some]
    cases hp : p y with
    | true =>
      obtain ⟨w, E3, h5, h6, h7⟩ := h3 hp
      dsimp only
      rw [if_pos rfl, h5, Option.bind_some]
      dsimp only
      rw [h7, ih, List.filter_cons_of_pos hp, List.map_cons, h6]
      rfl
    | false =>
      dsimp only
      rw [if_neg Bool.false_ne_true, h4 hp, ih, List.filter_cons_of_neg (by rw [hp]; exact Bool.false_ne_true)]
/-- over a name's list that nobody changes -/
theorem lcOwn_eq {α : Type} {i : Nat} {bind : D → DE → Option DE} {cond : DE → Option (Bool × DE)} {elt : DE → Option (W × DE)} {vs : List Nat} {E : DE} {enc : α → D} {p : α → Bool} {f : α → D} {ys : List α} (hg : getL E i = some (ys.map enc))
    (h : ∀ y ∈ ys, ∃ E1 E2, bind (enc y) E = some E1 ∧ cond E1 = some (p y, E2) ∧ (p y = true → ∃ w E3, elt E2 = some (w, E3) ∧ w.data = f y ∧ wipeE E3 vs = E) ∧ (p y = false → wipeE E2 vs = E)) :
    ∀ (m k : Nat), ys.length - k < m → lcOwn i bind cond elt vs m k E = some (((ys.drop k).filter p).map f, E)
  | 0, k, hm => by omega
  | m + 1, k, hm => by
    rw [lcOwn, hg, Option.bind_some]
    by_cases hk : k < ys.length
    · rw [List.getElem?_map, List.getElem?_eq_getElem hk, Option.map_some]
      obtain ⟨E1, E2, h1, h2, h3, h4⟩ := h ys[k] (List.getElem_mem hk)
      have ih := lcOwn_eq hg h m (k + 1) (by omega)
      dsimp only
      rw [h1, Option.bind_some, h2, Option.bind_some, List.drop_eq_getElem_cons hk]
      cases hp : p ys[k] with
      | true =>
        obtain ⟨w, E3, h5, h6, h7⟩ := h3 hp
        dsimp only
        rw [if_pos rfl, h5, Option.bind_some]
        dsimp only
        rw [h7, ih, List.filter_cons_of_pos hp, List.map_cons, h6]
        rfl
      | false =>
        dsimp only
        rw [if_neg Bool.false_ne_true, h4 hp, ih, List.filter_cons_of_neg (by rw [hp]; exact Bool.false_ne_true)]
    · rw [List.getElem?_eq_none (by rw [List.length_map]; omega), List.drop_of_length_le (by omega)]
      rfl
/-- a for whose turns all go on: a state by the turn -/
theorem frGo_inv {bind : D → DE → Option DE} {body : DE → Option (Fl × DE)} {fl : Fl} {Ez : DE} (P : Nat → DE → Prop) : ∀ {xs : List D} {k : Nat} {E : DE}, P k E → (∀ i x E, xs[i]? = some x → P (k + i) E → ∃ E1 E2 f, bind x E = some E1 ∧ body E1 = some (f, E2) ∧ (f = .nx ∨ f = .ct) ∧ P (k + i + 1) E2) →
    (∃ E', P (k + xs.length) E' ∧ frGo bind body xs E = some (.nx, E'))
  | [], k, E, h, _ => ⟨E, h, rfl⟩
  | x :: xs, k, E, h, g => by
    obtain ⟨E1, E2, f, h1, h2, h3, h4⟩ := g 0 x E rfl h
    obtain ⟨E', h5, h6⟩ := frGo_inv (fl := fl) (Ez := Ez) P (xs := xs) (k := k + 1) (E := E2) h4 fun i y E hy hp => by
      have e : k + 1 + i = k + (i + 1) := by omega
      rw [e] at hp ⊢
      exact g (i + 1) y E (by simpa using hy) hp
    refine ⟨E', ?_, ?_⟩
    · have e : k + (x :: xs).length = k + 1 + xs.length := by simp; omega
      rw [e]; exact h5
    · rw [frGo, h1, Option.bind_some, h2, Option.bind_some]
      rcases h3 with rfl | rfl <;> exact h6
end
/-- numbers as data -/
def ni (xs : List Nat) : List D := xs.map fun (k : Nat) => .int k
theorem ni_len (xs : List Nat) : (ni xs).length = xs.length := by simp [ni]
theorem ni_append (xs ys : List Nat) : ni (xs ++ ys) = ni xs ++ ni ys := by simp [ni]
theorem ni_get {xs : List Nat} {i : Nat} : (ni xs)[i]? = xs[i]?.map fun (k : Nat) => PyData.int k := by simp [ni]
theorem ni_inj {xs ys : List Nat} (h : ni xs = ni ys) : xs = ys := by
  unfold ni at h
  exact List.map_inj_right (fun a b e => by injection e with e; omega) |>.mp h
theorem ni_flat (xs : List Nat) : (ni xs).all isFlat = true := by
  unfold ni
  rw [List.all_map]
  exact List.all_eq_true.mpr fun x _ => rfl
theorem mem_ni {xs : List Nat} {d : D} : d ∈ ni xs ↔ ∃ k, k ∈ xs ∧ d = .int (k : Int) := by
  unfold ni
  simp only [List.mem_map]
  exact ⟨fun ⟨k, h, e⟩ => ⟨k, h, e.symm⟩, fun ⟨k, h, e⟩ => ⟨k, h, e.symm⟩⟩
theorem eqv_int (i j : Int) : PyData.eqv (.int i) (.int j) = decide (i = j) := by
  rw [PyData.eqv, Bool.beq_eq_decide_eq]
theorem inD_ni (k : Nat) (xs : List Nat) : inD (.int (k : Int)) (ni xs) = some (decide (k ∈ xs)) := by
  unfold inD
  rw [ni_flat]
  have : ((ni xs).any fun y => PyData.eqv y (.int (k : Int))) = decide (k ∈ xs) := by
    induction xs with
    | nil => rfl
    | cons x xs ih =>
      show ((PyData.eqv (.int (x : Int)) (.int (k : Int))) || ((ni xs).any fun y => PyData.eqv y (.int (k : Int)))) = _
      rw [ih, eqv_int, Bool.eq_iff_iff]
      simp only [Bool.or_eq_true, decide_eq_true_eq, List.mem_cons]
      constructor
      · rintro (h | h)
        · exact .inl (by omega)
        · exact .inr h
      · rintro (h | h)
        · exact .inl (by omega)
        · exact .inr h
  simp [isFlat, this]
theorem rng_ni (a b : Nat) : rngD (a : Int) (b : Int) = ni ((List.range (b - a)).map (a + ·)) := by
  unfold rngD ni
  rw [List.map_map]
  have : ((b : Int) - (a : Int)).toNat = b - a := by omega
  rw [this]
  apply List.map_congr_left
  intro k _
  simp
theorem rng0 (b : Nat) : rngD 0 (b : Int) = ni (List.range b) := by
  have := rng_ni 0 b
  simpa using this
theorem intsD_ni (xs : List Nat) : intsD (ni xs) = some (xs.map fun (k : Nat) => (k : Int)) := by
  induction xs with
  | nil => rfl
  | cons x xs ih =>
    show (intsD (ni xs)).map ((x : Int) :: ·) = _
    rw [ih]; rfl
theorem ix_nat {n i : Nat} (h : i < n) : ixOf n (i : Int) = some i := by
  unfold ixOf L2.ixN
  rw [if_pos (by omega), if_pos (by omega)]
  simp
theorem dAt_nat {xs : List D} {i : Nat} {d : D} (h : xs[i]? = some d) : dAt xs (i : Int) = some d := by
  have hi := (List.getElem?_eq_some_iff.mp h).1
  unfold dAt
  rw [ix_nat hi, Option.bind_some]
  exact h
theorem dAt_last {xs : List D} {d : D} (h : xs.getLast? = some d) : dAt xs (-1) = some d := by
  have hne : xs ≠ [] := by intro e; rw [e] at h; cases h
  have hl : 0 < xs.length := List.length_pos_iff.mpr hne
  unfold dAt ixOf L2.ixN
  rw [if_neg (by omega), if_pos (by omega)]
  have e : ((-1 : Int) + (xs.length : Int)).toNat = xs.length - 1 := by omega
  rw [e, Option.bind_some]
  rw [List.getLast?_eq_getElem?] at h
  exact h
theorem cut_from (xs : List D) (k : Nat) : cutD xs (some (k : Int)) none = xs.drop k := by
  unfold cutD
  rw [HT.sIx_nat, HT.sIx_none, List.take_of_length_le (by rw [List.length_drop]; omega)]
  by_cases h : k ≤ xs.length
  · rw [Nat.min_eq_left h]
  · rw [Nat.min_eq_right (by omega), List.drop_length, List.drop_of_length_le (by omega)]
end PV
end

section
set_option Elab.async false
set_option linter.all false
set_option maxRecDepth 100000
set_option autoImplicit false
/-! EW: walking through the evaluator from the head -/
namespace PV
open PySem
section
variable {F : Fn}
def WE (F : Fn) (e : CE) (E : DE) (Q : W → DE → Prop) : Prop := ∃ w E', ev F e E = some (w, E') ∧ Q w E'
def WO (F : Fn) (e : CE) (E : DE) (Q : D → DE → Prop) : Prop := ∃ x E', opd e (ev F e E) E = some (x, E') ∧ Q x E'
def WL (F : Fn) (es : CEs) (E : DE) (Q : List D → DE → Prop) : Prop := ∃ ds E', evs F es E = some (ds, E') ∧ Q ds E'
def WP (F : Fn) (c : CO) (E : DE) (Q : Option Int → DE → Prop) : Prop := ∃ l E', evo F c E = some (l, E') ∧ Q l E'
def WC (F : Fn) (c : CO) (E : DE) (Q : Bool → DE → Prop) : Prop := ∃ l E', evc F c E = some (l, E') ∧ Q l E'
def WI (F : Fn) (c : CI) (E : DE) (Q : List D → DE → Prop) : Prop := ∃ l E', evi F c E = some (l, E') ∧ Q l E'
def WB (F : Fn) (c : CE) (E : DE) (Q : Bool → DE → Prop) : Prop := ∃ l E', evb F c E = some (l, E') ∧ Q l E'
def WW (F : Fn) (c : CEs) (E : DE) (Q : List W → DE → Prop) : Prop := ∃ l E', evws F c E = some (l, E') ∧ Q l E'
def WS (F : Fn) (s : CS) (E : DE) (Q : Fl → DE → Prop) : Prop := ∃ f E', PV.exec F s E = some (f, E') ∧ Q f E'
def WSs (F : Fn) (s : CSs) (E : DE) (Q : Fl → DE → Prop) : Prop := ∃ f E', PV.execs F s E = some (f, E') ∧ Q f E'
variable {E : DE} {a b c : CE} {es : CEs} {x y : D} {i j : Nat} {Q : W → DE → Prop}
/-! ### expressions -/
theorem WE.var (h : E[i]? = some (some (.d x))) (q : Q (.d x) E) : WE F (.var i) E Q := ⟨.d x, E, by show take1 E i = _; unfold take1; rw [h], q⟩
theorem WE.varO {xs : List D} (h : E[i]? = some (some (.o xs))) (q : Q (.d (.list xs)) (E.set i (some (.d (.list xs))))) : WE F (.var i) E Q := ⟨_, _, by show take1 E i = _; unfold take1; rw [h], q⟩
theorem WE.cst (q : Q (.d x) E) : WE F (.cst x) E Q := ⟨_, _, rfl, q⟩
theorem WO.var {Q : D → DE → Prop} (h : peek E i = some x) (q : Q x E) : WO F (.var i) E Q := ⟨x, E, by show (peek E i).map _ = _; rw [h]; rfl, q⟩
theorem opd_nv {e : CE} {r : Option (W × DE)} (h : ∀ i, e ≠ .var i) : opd e r E = r.map fun p => (p.1.data, p.2) := by
  cases e <;> first | rfl | exact absurd rfl (h _)
theorem WO.of {Q : D → DE → Prop} {e : CE} (h : WE F e E fun w E' => Q w.data E') (hn : ∀ i, e ≠ .var i := by intro _ z; exact nomatch z) : WO F e E Q := by
  obtain ⟨w, E', h1, h2⟩ := h
  exact ⟨w.data, E', by rw [opd_nv hn, h1]; rfl, h2⟩
theorem WE.tup (h : WL F es E fun ds E' => ds.length ≤ lim ∧ Q (.d (.tuple ds)) E') : WE F (.tup es) E Q := by
  obtain ⟨ds, E', h1, h2, h3⟩ := h
  exact ⟨_, E', by rw [ev, h1, Option.bind_some]; dsimp only; unfold mkT; rw [if_pos h2]; rfl, h3⟩
theorem WE.lst (h : WL F es E fun ds E' => ds.length ≤ lim ∧ Q (.o ds) E') : WE F (.lst es) E Q := by
  obtain ⟨ds, E', h1, h2, h3⟩ := h
  exact ⟨_, E', by rw [ev, h1, Option.bind_some]; dsimp only; unfold mkL; rw [if_pos h2]; rfl, h3⟩
theorem WL.nil {Q : List D → DE → Prop} (h : Q [] E) : WL F .nil E Q := ⟨[], E, rfl, h⟩
theorem WL.cons {Q : List D → DE → Prop} (h : WE F a E fun w E1 => WL F es E1 fun ds E2 => Q (w.data :: ds) E2) : WL F (.cons a es) E Q := by
  obtain ⟨w, E1, h1, ds, E2, h2, h3⟩ := h
  exact ⟨_, E2, by rw [evs, h1, Option.bind_some]; dsimp only; rw [h2]; rfl, h3⟩
theorem WE.neg (h : WE F a E fun w E1 => ∃ i, asI w = some i ∧ Q (.d (.int (-i))) E1) : WE F (.neg a) E Q := by
  obtain ⟨w, E1, h1, i, h2, h3⟩ := h
  exact ⟨_, E1, by rw [ev, h1, Option.bind_some]; dsimp only; rw [h2]; rfl, h3⟩
theorem WE.not (h : WE F a E fun w E1 => ∃ k, asB w = some k ∧ Q (.d (.bool (!k))) E1) : WE F (.not a) E Q := by
  obtain ⟨w, E1, h1, i, h2, h3⟩ := h
  exact ⟨_, E1, by rw [ev, h1, Option.bind_some]; dsimp only; rw [h2]; rfl, h3⟩
theorem WE.bin {op : BOp} (h : WO F a E fun x E1 => WO F b E1 fun y E2 => ∃ x', rep a x E2 = some x' ∧ ∃ w, binD op x' y = some w ∧ Q w E2) : WE F (.bin op a b) E Q := by
  obtain ⟨x, E1, h1, y, E2, h2, x', h3, w, h4, h5⟩ := h
  exact ⟨w, E2, by rw [ev, h1, Option.bind_some]; dsimp only; rw [h2, Option.bind_some]; dsimp only; rw [h3, Option.bind_some, h4]; rfl, h5⟩
/-- a comparison's answer (so that no answer is taken unasked) -/
structure CmpIs (op : COp) (x y : D) (k : Bool) : Prop where
  e : cmpD op x y = some k
theorem WE.cmp {op : COp} (h : WO F a E fun x E1 => WO F b E1 fun y E2 => ∃ x', rep a x E2 = some x' ∧ ∃ k, CmpIs op x' y k ∧ Q (.d (.bool k)) E2) : WE F (.cmp op a b) E Q := by
  obtain ⟨x, E1, h1, y, E2, h2, x', h3, w, ⟨h4⟩, h5⟩ := h
  exact ⟨_, E2, by rw [ev, h1, Option.bind_some]; dsimp only; rw [h2, Option.bind_some]; dsimp only; rw [h3, Option.bind_some, h4]; rfl, h5⟩
theorem WE.chn {op op' : COp} (h : WO F a E fun x E1 => WO F b E1 fun y E2 => ∃ x', rep a x E2 = some x' ∧ ∃ k, CmpIs op x' y k ∧
    (k = false → Q (.d (.bool false)) E2) ∧ (k = true → WO F c E2 fun z E3 => ∃ y', rep b y E3 = some y' ∧ ∃ k', CmpIs op' y' z k' ∧ Q (.d (.bool k')) E3)) : WE F (.chn op op' a b c) E Q := by
  obtain ⟨x, E1, h1, y, E2, h2, x', h3, k, ⟨h4⟩, h5, h6⟩ := h
  cases k with
  | false => exact ⟨_, E2, by rw [ev, h1, Option.bind_some]; dsimp only; rw [h2, Option.bind_some]; dsimp only; rw [h3, Option.bind_some, h4]; rfl, h5 rfl⟩
  | true =>
    obtain ⟨z, E3, h7, y', h8, k', ⟨h9⟩, h10⟩ := h6 rfl
    exact ⟨_, E3, by rw [ev, h1, Option.bind_some]; dsimp only; rw [h2, Option.bind_some]; dsimp only; rw [h3, Option.bind_some, h4, Option.bind_some, if_pos rfl, h7, Option.bind_some]; dsimp only; rw [h8, Option.bind_some, h9]; rfl, h10⟩
theorem WE.and (h : WE F a E fun w E1 => ∃ k, asB w = some k ∧ (k = false → Q (.d (.bool false)) E1) ∧ (k = true → WE F b E1 Q)) : WE F (.and a b) E Q := by
  obtain ⟨w, E1, h1, k, h2, h3, h4⟩ := h
  cases k with
  | false => exact ⟨_, E1, by rw [ev, h1, Option.bind_some]; dsimp only; rw [h2]; rfl, h3 rfl⟩
  | true =>
    obtain ⟨w', E2, h5, h6⟩ := h4 rfl
    exact ⟨_, E2, by rw [ev, h1, Option.bind_some]; dsimp only; rw [h2, Option.bind_some, if_pos rfl]; exact h5, h6⟩
theorem WE.or (h : WE F a E fun w E1 => ∃ k, asB w = some k ∧ (k = true → Q (.d (.bool true)) E1) ∧ (k = false → WE F b E1 Q)) : WE F (.or a b) E Q := by
  obtain ⟨w, E1, h1, k, h2, h3, h4⟩ := h
  cases k with
  | true => exact ⟨_, E1, by rw [ev, h1, Option.bind_some]; dsimp only; rw [h2]; rfl, h3 rfl⟩
  | false =>
    obtain ⟨w', E2, h5, h6⟩ := h4 rfl
    exact ⟨_, E2, by rw [ev, h1, Option.bind_some]; dsimp only; rw [h2, Option.bind_some, if_neg Bool.false_ne_true]; exact h5, h6⟩
theorem WE.ite (h : WE F c E fun w E1 => ∃ k, asB w = some k ∧ (k = true → WE F a E1 Q) ∧ (k = false → WE F b E1 Q)) : WE F (.ite c a b) E Q := by
  obtain ⟨w, E1, h1, k, h2, h3, h4⟩ := h
  cases k with
  | true =>
    obtain ⟨w', E2, h5, h6⟩ := h3 rfl
    exact ⟨_, E2, by rw [ev, h1, Option.bind_some]; dsimp only; rw [h2, Option.bind_some, if_pos rfl]; exact h5, h6⟩
  | false =>
    obtain ⟨w', E2, h5, h6⟩ := h4 rfl
    exact ⟨_, E2, by rw [ev, h1, Option.bind_some]; dsimp only; rw [h2, Option.bind_some, if_neg Bool.false_ne_true]; exact h5, h6⟩
theorem WE.idx (h : WO F a E fun x E1 => WO F b E1 fun y E2 => ∃ x', rep a x E2 = some x' ∧ ∃ z, idxD x' y = some z ∧ Q (.d z) E2) : WE F (.idx a b) E Q := by
  obtain ⟨x, E1, h1, y, E2, h2, x', h3, w, h4, h5⟩ := h
  exact ⟨_, E2, by rw [ev, h1, Option.bind_some]; dsimp only; rw [h2, Option.bind_some]; dsimp only; rw [h3, Option.bind_some, h4]; rfl, h5⟩
theorem WP.no {Q : Option Int → DE → Prop} (q : Q none E) : WP F .no E Q := ⟨_, _, rfl, q⟩
theorem WP.yes {Q : Option Int → DE → Prop} (h : WE F a E fun w E1 => ∃ i, asI w = some i ∧ Q (some i) E1) : WP F (.yes a) E Q := by
  obtain ⟨w, E1, h1, i, h2, h3⟩ := h
  exact ⟨_, E1, by rw [evo, h1, Option.bind_some]; dsimp only; rw [h2]; rfl, h3⟩
theorem WE.slc {lo hi : CO} (h : WO F a E fun x E1 => WP F lo E1 fun l E2 => WP F hi E2 fun u E3 => ∃ x', rep a x E3 = some x' ∧ ∃ w, slcD x' l u = some w ∧ Q w E3) : WE F (.slc a lo hi) E Q := by
  obtain ⟨x, E1, h1, l, E2, h2, u, E3, h3, x', h4, w, h5, h6⟩ := h
  exact ⟨w, E3, by rw [ev, h1, Option.bind_some]; dsimp only; rw [h2, Option.bind_some]; dsimp only; rw [h3, Option.bind_some]; dsimp only; rw [h4, Option.bind_some, h5]; rfl, h6⟩
theorem WE.bi1 {f : Bi} (h : WO F a E fun x E1 => ∃ w, bi1D f x = some w ∧ Q w E1) : WE F (.bi1 f a) E Q := by
  obtain ⟨x, E1, h1, w, h2, h3⟩ := h
  exact ⟨w, E1, by rw [ev, h1, Option.bind_some]; dsimp only; rw [h2]; rfl, h3⟩
theorem WE.bi2 {f : Bi} (h : WE F a E fun v E1 => WE F b E1 fun u E2 => ∃ w, bi2D f v.data u.data = some w ∧ Q w E2) : WE F (.bi2 f a b) E Q := by
  obtain ⟨v, E1, h1, u, E2, h2, w, h3, h4⟩ := h
  exact ⟨w, E2, by rw [ev, h1, Option.bind_some]; dsimp only; rw [h2, Option.bind_some]; dsimp only; rw [h3]; rfl, h4⟩
theorem WE.rpt (h : WE F a E fun v E1 => WE F b E1 fun u E2 => ∃ xs k, v = .o xs ∧ u = .d (.int k) ∧ (k ≤ 1000000 ∧ xs.length * k.toNat ≤ lim ∧ -1000000 ≤ k) ∧ Q (.o (List.replicate k.toNat xs).flatten) E2) : WE F (.rpt a b) E Q := by
  obtain ⟨v, E1, h1, u, E2, h2, xs, k, rfl, rfl, h3, h4⟩ := h
  exact ⟨_, E2, by rw [ev, h1, Option.bind_some]; dsimp only; rw [h2, Option.bind_some]; dsimp only; rw [if_pos h3], h4⟩
theorem WE.sm2 (h : WE F a E fun v E1 => WE F b E1 fun u E2 => ∃ xs ys ls, v.data = .list xs ∧ u = .o ys ∧ listsD xs = some ls ∧ ys.length + (ls.map List.length).sum ≤ lim ∧ Q (.o (ys ++ ls.flatten)) E2) : WE F (.sm2 a b) E Q := by
  obtain ⟨v, E1, h1, u, E2, h2, xs, ys, ls, h3, rfl, h4, h5, h6⟩ := h
  exact ⟨_, E2, by rw [ev, h1, Option.bind_some]; dsimp only; rw [h2, Option.bind_some, h3]; dsimp only; rw [h4, Option.bind_some, if_pos h5], h6⟩
theorem WE.isi {ts : List Ty} (h : WO F a E fun x E1 => Q (.d (.bool (ts.any (tyIs · x)))) E1) : WE F (.isi ts a) E Q := by
  obtain ⟨x, E1, h1, h2⟩ := h
  exact ⟨_, E1, by rw [ev, h1]; rfl, h2⟩
theorem WE.lrg (h : WE F a E fun v E1 => WE F b E1 fun u E2 => ∃ i j, asI v = some i ∧ asI u = some j ∧ (-1000000 ≤ i ∧ j ≤ 1000000 ∧ i ≤ 1000000 ∧ -1000000 ≤ j) ∧ (rngD i j).length ≤ lim ∧ Q (.o (rngD i j)) E2) : WE F (.lrg a b) E Q := by
  obtain ⟨v, E1, h1, u, E2, h2, i, j, h3, h4, h5, h6, h7⟩ := h
  exact ⟨_, E2, by rw [ev, h1, Option.bind_some]; dsimp only; rw [h2, Option.bind_some]; dsimp only; rw [h3, Option.bind_some, h4, Option.bind_some, if_pos h5]; unfold mkL; rw [if_pos h6]; rfl, h7⟩
theorem WE.call {f : Nat} {q : List Nat} (h : WL F es E fun ds E1 => ∃ ds', permD ds q = some ds' ∧ ∃ w, F f none ds' = some (w, none) ∧ Q w.frz E1) : WE F (.call f es q) E Q := by
  obtain ⟨ds, E1, h1, ds', h2, w, h3, h4⟩ := h
  exact ⟨w.frz, E1, by rw [ev, h1, Option.bind_some]; dsimp only; rw [h2, Option.bind_some, h3]; rfl, h4⟩
theorem WE.callrV {f : Nat} {xs0 : List D} (h0 : getL E i = some xs0) (h : WL F es E fun ds E1 => ∃ xs, getL E1 i = some xs ∧ ∃ w xs', F f (some xs) ds = some (w, some xs') ∧ Q w.frz (setL E1 i xs')) : WE F (.callr f (.var i) es) E Q := by
  obtain ⟨ds, E1, h1, xs, h2, w, xs', h3, h4⟩ := h
  exact ⟨w.frz, _, by rw [ev, h0, Option.bind_some, h1, Option.bind_some]; dsimp only; rw [h2, Option.bind_some, h3]; rfl, h4⟩
theorem WE.callr {f : Nat} (h : WE F a E fun v E1 => ∃ xs, v = .o xs ∧ WL F es E1 fun ds E2 => ∃ w xs', F f (some xs) ds = some (w, some xs') ∧ Q w.frz E2) (hn : ∀ i, a ≠ .var i := by intro _ z; exact nomatch z) : WE F (.callr f a es) E Q := by
  obtain ⟨v, E1, h1, xs, rfl, ds, E2, h2, w, xs', h3, h4⟩ := h
  refine ⟨w.frz, E2, ?_, h4⟩
  rw [ev]
  · rw [h1, Option.bind_some]; dsimp only; rw [h2, Option.bind_some]; dsimp only; rw [h3]; rfl
  · exact fun i z => hn i z
theorem WE.mth {m : Me} (h : WO F a E fun x E1 => ∃ xs, lstD x = some xs ∧ WO F b E1 fun y E2 => ∃ x', rep a x E2 = some x' ∧ ∃ z, mthD m x' y = some z ∧ Q (.d z) E2) : WE F (.mth m a b) E Q := by
  obtain ⟨x, E1, h1, xs, h0, y, E2, h2, x', h3, z, h4, h5⟩ := h
  exact ⟨_, E2, by rw [ev, h1, Option.bind_some]; dsimp only; rw [h0, Option.bind_some, h2, Option.bind_some]; dsimp only; rw [h3, Option.bind_some, h4]; rfl, h5⟩
/-! ### what is walked, comprehensions -/
theorem WI.seq {Q : List D → DE → Prop} (h : WE F a E fun w E1 => ∃ xs, seqD w.data = some xs ∧ xs.length ≤ lim ∧ Q xs E1) : WI F (.seq a) E Q := by
  obtain ⟨w, E1, h1, xs, h2, h3, h4⟩ := h
  exact ⟨_, E1, by rw [evi, h1, Option.bind_some]; dsimp only; rw [h2, Option.bind_some, if_pos h3], h4⟩
theorem WI.rng {Q : List D → DE → Prop} (h : WE F a E fun v E1 => WE F b E1 fun u E2 => ∃ i j, asI v = some i ∧ asI u = some j ∧ (-1000000 ≤ i ∧ j ≤ 1000000 ∧ i ≤ 1000000 ∧ -1000000 ≤ j) ∧ Q (rngD i j) E2) : WI F (.rng a b) E Q := by
  obtain ⟨v, E1, h1, u, E2, h2, i, j, h3, h4, h5, h6⟩ := h
  exact ⟨_, E2, by rw [evi, h1, Option.bind_some]; dsimp only; rw [h2, Option.bind_some]; dsimp only; rw [h3, Option.bind_some, h4, Option.bind_some, if_pos h5], h6⟩
theorem WI.rngd {Q : List D → DE → Prop} (h : WE F a E fun v E1 => WE F b E1 fun u E2 => ∃ i j, asI v = some i ∧ asI u = some j ∧ (-1000000 ≤ i ∧ j ≤ 1000000 ∧ i ≤ 1000000 ∧ -1000000 ≤ j) ∧ Q (rngdD i j) E2) : WI F (.rngd a b) E Q := by
  obtain ⟨v, E1, h1, u, E2, h2, i, j, h3, h4, h5, h6⟩ := h
  exact ⟨_, E2, by rw [evi, h1, Option.bind_some]; dsimp only; rw [h2, Option.bind_some]; dsimp only; rw [h3, Option.bind_some, h4, Option.bind_some, if_pos h5], h6⟩
theorem WI.enum {Q : List D → DE → Prop} (h : WE F a E fun w E1 => ∃ xs, seqD w.data = some xs ∧ xs.length ≤ lim ∧ Q (enumD xs) E1) : WI F (.enum a) E Q := by
  obtain ⟨w, E1, h1, xs, h2, h3, h4⟩ := h
  exact ⟨_, E1, by rw [evi, h1, Option.bind_some]; dsimp only; rw [h2, Option.bind_some, if_pos h3], h4⟩
theorem WI.zip {Q : List D → DE → Prop} (h : WE F a E fun v E1 => WE F b E1 fun u E2 => ∃ xs ys, zip2 v.data u.data = some (xs, ys) ∧ (xs.length ≤ lim ∧ ys.length ≤ lim) ∧ Q (zipD xs ys) E2) : WI F (.zip a b) E Q := by
  obtain ⟨v, E1, h1, u, E2, h2, xs, ys, h3, h4, h5⟩ := h
  exact ⟨_, E2, by rw [evi, h1, Option.bind_some]; dsimp only; rw [h2, Option.bind_some]; dsimp only; rw [h3, Option.bind_some, if_pos h4], h5⟩
theorem WC.no {Q : Bool → DE → Prop} (q : Q true E) : WC F .no E Q := ⟨_, _, rfl, q⟩
theorem WC.yes {Q : Bool → DE → Prop} (h : WE F a E fun w E1 => ∃ k, asB w = some k ∧ Q k E1) : WC F (.yes a) E Q := by
  obtain ⟨w, E1, h1, k, h2, h3⟩ := h
  exact ⟨_, E1, by rw [evc, h1, Option.bind_some]; dsimp only; rw [h2]; rfl, h3⟩
/-- a turn of a comprehension that leaves the slots as they were: k the test, z the value -/
def Turn1 (F : Fn) (tg : CT) (cond : CO) (elt : CE) (vs : List Nat) (E : DE) (x : D) (k : Bool) (z : D) : Prop :=
  ∃ E1, bindT tg x E = some E1 ∧ WC F cond E1 fun k' E2 => k' = k ∧ (k = true → WE F elt E2 fun w E3 => w.data = z ∧ wipeE E3 vs = E) ∧ (k = false → wipeE E2 vs = E)
theorem Turn1.use {tg : CT} {cond : CO} {elt : CE} {vs : List Nat} {x : D} {k : Bool} {z : D} (h : Turn1 F tg cond elt vs E x k z) :
    ∃ E1 E2, bindT tg x E = some E1 ∧ evc F cond E1 = some (k, E2) ∧ (k = true → ∃ w E3, ev F elt E2 = some (w, E3) ∧ w.data = z ∧ wipeE E3 vs = E) ∧ (k = false → wipeE E2 vs = E) := by
  obtain ⟨E2, g1, k, E3, g2, g3, g4, g5⟩ := h
  subst g3
  exact ⟨E2, E3, g1, g2, fun e => let ⟨w, E4, q1, q2, q3⟩ := g4 e; ⟨w, E4, q1, q2, q3⟩, g5⟩
theorem WE.comp {α : Type} {vs : List Nat} {tg : CT} {it : CI} {cond : CO} {elt : CE} (ys : List α) (enc : α → D) (p : α → Bool) (f : α → D)
    (h : WI F it E fun xs E1 => xs = ys.map enc ∧ (∀ y ∈ ys, Turn1 F tg cond elt vs (wipeE E1 vs) (enc y) (p y) (f y)) ∧ Q (.o ((ys.filter p).map f)) (backE (wipeE E1 vs) E1 vs)) (hn : ∀ i, it ≠ .own i := by intro _ z; exact nomatch z) :
    WE F (.comp vs tg it cond elt) E Q := by
  obtain ⟨xs, E1, h1, rfl, h2, h3⟩ := h
  refine ⟨_, _, ?_, h3⟩
  rw [ev]
  · rw [h1, Option.bind_some]
    dsimp only
    rw [lcGo_eq (p := p) (f := f) fun y hy => (h2 y hy).use]
    rfl
  · exact fun i z => hn i z
theorem WE.compD {α : Type} {vs : List Nat} {tg : CT} {cond : CO} {elt : CE} (ys : List α) (enc : α → D) (p : α → Bool) (f : α → D) (h0 : E[i]? = some (some (.d x))) (h1 : seqD x = some (ys.map enc)) (h2 : ys.length ≤ lim) (h3 : ∀ y ∈ ys, Turn1 F tg cond elt vs (wipeE E vs) (enc y) (p y) (f y))
    (q : Q (.o ((ys.filter p).map f)) (backE (wipeE E vs) E vs)) : WE F (.comp vs tg (.own i) cond elt) E Q := by
  refine ⟨_, _, ?_, q⟩
  rw [ev, h0]
  dsimp only
  rw [h1, Option.bind_some, if_pos (by rw [List.length_map]; exact h2)]
  rw [lcGo_eq (p := p) (f := f) fun y hy => (h3 y hy).use]
  rfl
theorem WE.compO {α : Type} {vs : List Nat} {tg : CT} {cond : CO} {elt : CE} (ys : List α) (enc : α → D) (p : α → Bool) (f : α → D) (h0 : getL E i = some (ys.map enc)) (h1 : getL (wipeE E vs) i = some (ys.map enc)) (h2 : ys.length < lim) (h3 : ∀ y ∈ ys, Turn1 F tg cond elt vs (wipeE E vs) (enc y) (p y) (f y))
    (q : Q (.o ((ys.filter p).map f)) (backE (wipeE E vs) E vs)) : WE F (.comp vs tg (.own i) cond elt) E Q := by
  refine ⟨_, _, ?_, q⟩
  rw [ev]
  have key : (lcOwn i (bindT tg) (evc F cond) (ev F elt) vs lim 0 (wipeE E vs)) = some ((ys.filter p).map f, wipeE E vs) := by
    rw [lcOwn_eq (p := p) (f := f) h1 (fun y hy => (h3 y hy).use) lim 0 (by omega)]
    rfl
  split
  · rename_i hd
    unfold getL at h0
    rw [hd] at h0
    cases h0
  · rw [key]; rfl
/-! ### statements -/
variable {R : Fl → DE → Prop}
theorem WSs.nil (q : R .nx E) : WSs F .nil E R := ⟨_, _, rfl, q⟩
theorem WSs.cons {s : CS} {r : CSs} (h : WS F s E fun f E1 => (f = .nx → WSs F r E1 R) ∧ (f ≠ .nx → R f E1)) : WSs F (.cons s r) E R := by
  obtain ⟨f, E1, h1, h2, h3⟩ := h
  cases f with
  | nx =>
    obtain ⟨f', E2, h4, h5⟩ := h2 rfl
    exact ⟨f', E2, by rw [PV.execs, h1, Option.bind_some]; exact h4, h5⟩
  | bk => exact ⟨_, E1, by rw [PV.execs, h1, Option.bind_some], h3 (fun z => nomatch z)⟩
  | ct => exact ⟨_, E1, by rw [PV.execs, h1, Option.bind_some], h3 (fun z => nomatch z)⟩
  | rt w => exact ⟨_, E1, by rw [PV.execs, h1, Option.bind_some], h3 (fun z => nomatch z)⟩
theorem WS.set (h : WE F a E fun w E1 => ∃ E2, put E1 i w = some E2 ∧ R .nx E2) : WS F (.set i a) E R := by
  obtain ⟨w, E1, h1, E2, h2, h3⟩ := h
  exact ⟨_, E2, by rw [PV.exec, h1, Option.bind_some]; dsimp only; rw [h2]; rfl, h3⟩
theorem WS.unp {tg : CT} (h : WE F a E fun w E1 => ∃ E2, bindT tg w.data E1 = some E2 ∧ R .nx E2) : WS F (.unp tg a) E R := by
  obtain ⟨w, E1, h1, E2, h2, h3⟩ := h
  exact ⟨_, E2, by rw [PV.exec, h1, Option.bind_some]; dsimp only; rw [h2]; rfl, h3⟩
theorem WW.nil {Q : List W → DE → Prop} (h : Q [] E) : WW F .nil E Q := ⟨[], E, rfl, h⟩
theorem WW.cons {Q : List W → DE → Prop} (h : WE F a E fun w E1 => WW F es E1 fun ds E2 => Q (w :: ds) E2) : WW F (.cons a es) E Q := by
  obtain ⟨w, E1, h1, ds, E2, h2, h3⟩ := h
  exact ⟨_, E2, by rw [evws, h1, Option.bind_some]; dsimp only; rw [h2]; rfl, h3⟩
theorem WS.par {is : List Nat} (h : WW F es E fun ws E1 => ∃ E2, bindWs is ws E1 = some E2 ∧ R .nx E2) : WS F (.par is es) E R := by
  obtain ⟨w, E1, h1, E2, h2, h3⟩ := h
  exact ⟨_, E2, by rw [PV.exec, h1, Option.bind_some]; dsimp only; rw [h2]; rfl, h3⟩
theorem WS.ex (h : WE F a E fun _ E1 => R .nx E1) : WS F (.ex a) E R := by
  obtain ⟨w, E1, h1, h2⟩ := h
  exact ⟨_, E1, by rw [PV.exec, h1]; rfl, h2⟩
theorem WS.app {xs0 : List D} (h0 : getL E i = some xs0) (h : WE F a E fun w E1 => ∃ xs, getL E1 i = some xs ∧ xs.length < lim ∧ R .nx (setL E1 i (xs ++ [w.data]))) : WS F (.app i a) E R := by
  obtain ⟨w, E1, h1, xs, h2, h3, h4⟩ := h
  exact ⟨_, _, by rw [PV.exec, h0, Option.bind_some, h1, Option.bind_some]; dsimp only; rw [h2, Option.bind_some, if_pos h3], h4⟩
theorem WS.rem {xs0 : List D} (h0 : getL E i = some xs0) (h : WE F a E fun w E1 => ∃ k xs ys, asI w = some k ∧ getL E1 i = some xs ∧ remD xs k = some ys ∧ R .nx (setL E1 i ys)) : WS F (.rem i a) E R := by
  obtain ⟨w, E1, h1, k, xs, ys, h2, h3, h4, h5⟩ := h
  exact ⟨_, _, by rw [PV.exec, h0, Option.bind_some, h1, Option.bind_some]; dsimp only; rw [h2, Option.bind_some, h3, Option.bind_some, h4]; rfl, h5⟩
theorem WS.pop {xs : List D} (h : getL E i = some xs) (hn : xs ≠ []) (q : R .nx (setL E i xs.dropLast)) : WS F (.pop i) E R := ⟨_, _, by rw [PV.exec, h, Option.bind_some, if_neg (fun z => hn (List.isEmpty_iff.mp z))], q⟩
theorem WS.six (h : WE F b E fun w E1 => ∃ xs0, getL E1 i = some xs0 ∧ WE F a E1 fun u E2 => ∃ k xs n, asI u = some k ∧ getL E2 i = some xs ∧ ixOf xs.length k = some n ∧ R .nx (setL E2 i (xs.set n w.data))) : WS F (.six i a b) E R := by
  obtain ⟨w, E1, h1, xs0, h0, u, E2, h2, k, xs, n, h3, h4, h5, h6⟩ := h
  exact ⟨_, _, by rw [PV.exec, h1, Option.bind_some]; dsimp only; rw [h0, Option.bind_some, h2, Option.bind_some]; dsimp only; rw [h3, Option.bind_some, h4, Option.bind_some, h5]; rfl, h6⟩
theorem WS.dvm (h : WE F b E fun w E1 => ∃ x y xs0, w = .d (.tuple [x, y]) ∧ getL E1 i = some xs0 ∧ WE F a E1 fun u E2 => ∃ k xs n E3, asI u = some k ∧ getL E2 i = some xs ∧ ixOf xs.length k = some n ∧ put (setL E2 i (xs.set n x)) j (.d y) = some E3 ∧ R .nx E3) : WS F (.dvm i a j b) E R := by
  obtain ⟨w, E1, h1, x, y, xs0, rfl, h0, u, E2, h2, k, xs, n, E3, h3, h4, h5, h6, h7⟩ := h
  exact ⟨_, E3, by rw [PV.exec, h1, Option.bind_some]; dsimp only; rw [h0, Option.bind_some, h2, Option.bind_some]; dsimp only; rw [h3, Option.bind_some, h4]; dsimp only; rw [h5, Option.bind_some, h6]; rfl, h7⟩
theorem WB.of {Q : Bool → DE → Prop} (h : WE F a E fun w E1 => ∃ k, asB w = some k ∧ Q k E1) : WB F a E Q := by
  obtain ⟨w, E1, h1, k, h2, h3⟩ := h
  exact ⟨_, E1, by rw [evb, h1, Option.bind_some]; dsimp only; rw [h2]; rfl, h3⟩
theorem WS.ifs {s t : CSs} (h : WE F c E fun w E1 => ∃ k, asB w = some k ∧ (k = true → WSs F s E1 R) ∧ (k = false → WSs F t E1 R)) : WS F (.ifs c s t) E R := by
  obtain ⟨w, E1, h1, k, h2, h3, h4⟩ := h
  have hb : evb F c E = some (k, E1) := by rw [evb, h1, Option.bind_some]; dsimp only; rw [h2]; rfl
  cases k with
  | true =>
    obtain ⟨f, E2, h5, h6⟩ := h3 rfl
    exact ⟨f, E2, by rw [PV.exec, hb, Option.bind_some]; exact h5, h6⟩
  | false =>
    obtain ⟨f, E2, h5, h6⟩ := h4 rfl
    exact ⟨f, E2, by rw [PV.exec, hb, Option.bind_some]; exact h5, h6⟩
/-- a for all of whose turns go on -/
theorem WS.fr {tg : CT} {it : CI} {s : CSs} (P : Nat → DE → Prop) (h : WI F it E fun xs E1 => P 0 E1 ∧ (∀ i x E2, xs[i]? = some x → P i E2 → ∃ E3, bindT tg x E2 = some E3 ∧ WSs F s E3 fun f E4 => (f = .nx ∨ f = .ct) ∧ P (i + 1) E4) ∧ ∀ E2, P xs.length E2 → R .nx E2) : WS F (.fr tg it s) E R := by
  obtain ⟨xs, E1, h1, h2, h3, h4⟩ := h
  obtain ⟨E', h5, h6⟩ := frGo_inv (bind := bindT tg) (body := PV.execs F s) (fl := .nx) (Ez := []) P (xs := xs) (k := 0) (E := E1) h2 fun i x E2 hx hp => by
    rw [Nat.zero_add] at hp ⊢
    obtain ⟨E3, g1, f, E4, g2, g3, g4⟩ := h3 i x E2 hx hp
    exact ⟨E3, E4, f, g1, g2, g3, g4⟩
  rw [Nat.zero_add] at h5
  exact ⟨_, E', by rw [PV.exec, h1, Option.bind_some]; exact h6, h4 E' h5⟩
/-- a while: a state with a measure below the limit -/
theorem wh_inv {c : CE} {s : CSs} (P : Nat → DE → Prop) (h : ∀ m E, P m E → WE F c E fun w E1 => ∃ k, asB w = some k ∧ (k = false → R .nx E1) ∧ (k = true → WSs F s E1 fun f E2 => (f = .nx ∨ f = .ct) ∧ ∃ m', m' < m ∧ P m' E2)) :
    ∀ (n m : Nat) (E : DE), m < n → P m E → ∃ f E', whGo (evb F c) (PV.execs F s) n E = some (f, E') ∧ R f E'
  | 0, m, E, hm, _ => absurd hm (Nat.not_lt_zero _)
  | n + 1, m, E, hm, hp => by
    obtain ⟨w, E1, h1, k, h2, h3, h4⟩ := h m E hp
    have hb : evb F c E = some (k, E1) := by rw [evb, h1, Option.bind_some]; dsimp only; rw [h2]; rfl
    cases k with
    | false => exact ⟨.nx, E1, by rw [whGo, hb, Option.bind_some]; rfl, h3 rfl⟩
    | true =>
      obtain ⟨f, E2, g1, g2, m', g3, g4⟩ := h4 rfl
      obtain ⟨f', E3, q1, q2⟩ := wh_inv P h n m' E2 (by omega) g4
      refine ⟨f', E3, ?_, q2⟩
      rw [whGo, hb, Option.bind_some]
      dsimp only
      rw [if_pos rfl, g1, Option.bind_some]
      rcases g2 with rfl | rfl <;> exact q1
theorem WS.wh {s : CSs} (m : Nat) (P : Nat → DE → Prop) (hm : m < lim) (h0 : P m E) (h : ∀ m E, P m E → WE F c E fun w E1 => ∃ k, asB w = some k ∧ (k = false → R .nx E1) ∧ (k = true → WSs F s E1 fun f E2 => (f = .nx ∨ f = .ct) ∧ ∃ m', m' < m ∧ P m' E2)) : WS F (.wh c s) E R := by
  obtain ⟨f, E', h1, h2⟩ := wh_inv P h lim m E hm h0
  exact ⟨f, E', by rw [PV.exec]; exact h1, h2⟩
theorem WS.retO {xs : List D} (h : E[i]? = some (some (.o xs))) (q : R (.rt (.o xs)) (E.set i none)) : WS F (.ret (.var i)) E R := ⟨_, _, by rw [PV.exec]; dsimp only; rw [h], q⟩
theorem WS.retD (h : E[i]? = some (some (.d x))) (q : R (.rt (.d x)) E) : WS F (.ret (.var i)) E R := ⟨_, _, by rw [PV.exec]; dsimp only; rw [h]; dsimp only; rw [show ev F (.var i) E = some (.d x, E) from by show take1 E i = _; unfold take1; rw [h]]; rfl, q⟩
theorem WS.ret (h : WE F a E fun w E1 => R (.rt w) E1) (hn : ∀ i, a ≠ .var i := by intro _ z; exact nomatch z) : WS F (.ret a) E R := by
  obtain ⟨w, E1, h1, h2⟩ := h
  refine ⟨.rt w, E1, ?_, h2⟩
  rw [PV.exec]
  · rw [h1]; rfl
  · exact fun i z => hn i z
theorem WS.retN (q : R (.rt (.d .none)) E) : WS F .retN E R := ⟨_, _, rfl, q⟩
theorem WS.pass (q : R .nx E) : WS F .pass E R := ⟨_, _, rfl, q⟩
theorem WS.brk (q : R .bk E) : WS F .brk E R := ⟨_, _, rfl, q⟩
theorem WS.cnt (q : R .ct E) : WS F .cnt E R := ⟨_, _, rfl, q⟩
/-- the call's end -/
theorem fin_of {b : CSs} {w : W} (h : WSs F b E fun f _ => f = .rt w ∨ (f = .nx ∧ w = .d .none)) : fin none (PV.execs F b E) = some (w, none) := by
  obtain ⟨f, E', h1, h2⟩ := h
  rw [h1]
  rcases h2 with rfl | ⟨rfl, rfl⟩ <;> rfl
theorem fin_ofR {b : CSs} {w : W} {xs xs' : List D} (h : WSs F b E fun f E' => (f = .rt w ∨ (f = .nx ∧ w = .d .none)) ∧ E'[0]? = some (some (.r xs'))) : fin (some xs) (PV.execs F b E) = some (w, some xs') := by
  obtain ⟨f, E', h1, h2, h3⟩ := h
  rw [h1]
  have e : endP (some xs) E' = some (some xs') := by unfold endP; dsimp only; rw [h3]
  rcases h2 with rfl | ⟨rfl, rfl⟩
  · show (endP (some xs) E').map _ = _
    rw [e]; rfl
  · show (endP (some xs) E').map _ = _
    rw [e]; rfl
end
theorem nx_c {A B : Prop} (h : A) : (Fl.nx = Fl.nx → A) ∧ (Fl.nx ≠ Fl.nx → B) := ⟨fun _ => h, fun z => absurd rfl z⟩
theorem rt_c {A B : Prop} {w : W} (h : B) : (Fl.rt w = Fl.nx → A) ∧ (Fl.rt w ≠ Fl.nx → B) := ⟨fun z => (nomatch z), fun _ => h⟩
theorem bk_c {A B : Prop} (h : B) : (Fl.bk = Fl.nx → A) ∧ (Fl.bk ≠ Fl.nx → B) := ⟨fun z => (nomatch z), fun _ => h⟩
theorem ct_c {A B : Prop} (h : B) : (Fl.ct = Fl.nx → A) ∧ (Fl.ct ≠ Fl.nx → B) := ⟨fun z => (nomatch z), fun _ => h⟩
theorem tf_c {A B : Prop} (h : B) : (true = false → A) ∧ (true = true → B) := ⟨fun z => (nomatch z), fun _ => h⟩
theorem ft_c {A B : Prop} (h : A) : (false = false → A) ∧ (false = true → B) := ⟨fun _ => h, fun z => nomatch z⟩
theorem tt_c {A B : Prop} (h : A) : (true = true → A) ∧ (true = false → B) := ⟨fun _ => h, fun z => nomatch z⟩
theorem ff_c {A B : Prop} (h : B) : (false = true → A) ∧ (false = false → B) := ⟨fun z => (nomatch z), fun _ => h⟩
end PV
end
local macro_rules | `(tactic| walk_at "ew") => `(tactic| (repeat (first | with_reducible exact rfl | refine PV.WSs.nil ?_ | refine PV.WSs.cons ?_ | refine PV.WS.set ?_ | refine PV.WS.unp ?_ | refine PV.WS.par ?_ | refine PV.WS.ex ?_ | refine PV.WS.app rfl ?_ | refine PV.WS.six ?_ | refine PV.WS.rem rfl ?_ | refine PV.WS.dvm ?_ | refine PV.WS.ifs ?_ | refine PV.WS.retO rfl ?_ | refine PV.WS.retD rfl ?_ | refine PV.WS.ret ?_ | refine PV.WS.retN ?_ | refine PV.WS.pass ?_ | refine PV.WS.brk ?_ | refine PV.WS.cnt ?_ | refine PV.WE.cst ?_ | refine PV.WE.var rfl ?_ | refine PV.WE.varO rfl ?_ | refine PV.WO.var rfl ?_ | refine PV.WO.of ?_ | refine PV.WE.tup ?_ | refine PV.WE.lst ?_ | refine PV.WL.nil ?_ | refine PV.WL.cons ?_ | refine PV.WW.nil ?_ | refine PV.WW.cons ?_ | refine PV.WE.neg ?_ | refine PV.WE.not ?_ | refine PV.WE.bin ?_ | refine PV.WE.cmp ?_ | refine PV.WE.chn ?_ | refine PV.WE.and ?_ | refine PV.WE.or ?_ | refine PV.WE.ite ?_ | refine PV.WE.idx ?_ | refine PV.WP.no ?_ | refine PV.WP.yes ?_ | refine PV.WE.slc ?_ | refine PV.WE.bi1 ?_ | refine PV.WE.bi2 ?_ | refine PV.WE.rpt ?_ | refine PV.WE.sm2 ?_ | refine PV.WE.isi ?_ | refine PV.WE.lrg ?_ | refine PV.WE.call ?_ | refine PV.WE.callrV rfl ?_ | refine PV.WE.callr ?_ | refine PV.WE.mth ?_ | refine PV.WI.seq ?_ | refine PV.WI.rng ?_ | refine PV.WI.enum ?_ | refine PV.WI.zip ?_ | refine PV.WC.no ?_ | refine PV.WC.yes ?_ | with_reducible refine PV.nx_c ?_ | with_reducible refine PV.rt_c ?_ | with_reducible refine PV.bk_c ?_ | with_reducible refine PV.ct_c ?_ | refine PV.tf_c ?_ | refine PV.ft_c ?_ | refine PV.tt_c ?_ | refine PV.ff_c ?_ | refine ⟨_, rfl, ?_⟩)))

section
set_option Elab.async false
set_option linter.all false
set_option maxRecDepth 100000
set_option autoImplicit false
/-! EVr: repr and equality of small data -/
namespace PV
open PySem
structure Sh (d : D) (dp sz : Nat) : Prop where
  lay : PyData.canLay0 d = true
  dep : PyData.depth d ≤ dp
  sho : PyData.showable d = true
  rs : rsz d ≤ sz
theorem sh_int {i : Int} (h : i.natAbs < 2 ^ 60) : Sh (.int i) 0 1921 := by
  refine ⟨rfl, Nat.le_refl _, ?_, Nat.le_refl _⟩
  show decide (i.natAbs.log2 < 1920) = true
  rw [decide_eq_true_eq]
  by_cases h0 : i.natAbs = 0
  · rw [h0]; decide
  · have := (Nat.log2_lt h0).mpr h
    omega
theorem sh_bool (b : Bool) : Sh (.bool b) 0 5 := ⟨rfl, Nat.le_refl _, rfl, Nat.le_refl _⟩
theorem Sh.mono {d : D} {dp sz dp' sz' : Nat} (h : Sh d dp sz) (h1 : dp ≤ dp') (h2 : sz ≤ sz') : Sh d dp' sz' := ⟨h.lay, Nat.le_trans h.dep h1, h.sho, Nat.le_trans h.rs h2⟩
theorem sh_all {dp sz : Nat} : ∀ {xs : List D}, (∀ x ∈ xs, Sh x dp sz) → PyData.canLayAll0 xs = true ∧ PyData.depthAll xs ≤ dp ∧ PyData.showableAll xs = true ∧ rszAll xs ≤ xs.length * (sz + 2)
  | [], _ => ⟨rfl, Nat.zero_le _, rfl, by simp [rszAll]⟩
  | x :: xs, h => by
    obtain ⟨a, b, c, d⟩ := sh_all (xs := xs) fun y hy => h y (List.mem_cons_of_mem _ hy)
    have hx := h x (List.mem_cons_self ..)
    refine ⟨by rw [PyData.canLayAll0, hx.lay, a]; rfl, by rw [PyData.depthAll]; have := hx.dep; omega, by rw [PyData.showableAll, hx.sho, c]; rfl, ?_⟩
    rw [rszAll, List.length_cons, Nat.succ_mul]
    have := hx.rs
    omega
theorem sh_list {dp sz n : Nat} {xs : List D} (h : ∀ x ∈ xs, Sh x dp sz) (hn : xs.length ≤ n) : Sh (.list xs) (dp + 1) (3 + n * (sz + 2)) := by
  obtain ⟨a, b, c, d⟩ := sh_all h
  have := Nat.mul_le_mul_right (sz + 2) hn
  exact ⟨by rw [PyData.canLay0]; exact a, by rw [PyData.depth]; omega, by rw [PyData.showable]; exact c, by rw [rsz]; omega⟩
theorem sh_tup {dp sz n : Nat} {xs : List D} (h : ∀ x ∈ xs, Sh x dp sz) (hn : xs.length ≤ n) : Sh (.tuple xs) (dp + 1) (3 + n * (sz + 2)) := by
  obtain ⟨a, b, c, d⟩ := sh_all h
  have := Nat.mul_le_mul_right (sz + 2) hn
  exact ⟨by rw [PyData.canLay0]; exact a, by rw [PyData.depth]; omega, by rw [PyData.showable]; exact c, by rw [rsz]; omega⟩
theorem Sh.shaped {d : D} {dp sz : Nat} (h : Sh d dp sz) (hd : dp ≤ 64) : SeqAt.shaped d = true := by
  unfold SeqAt.shaped
  rw [h.lay, Bool.true_and, decide_eq_true_eq]
  exact Nat.le_trans h.dep hd
theorem repr_list {dp sz : Nat} {xs : List D} (h : Sh (.list xs) dp sz) (hd : dp ≤ 64) (hs : sz ≤ 16000000) : bi1D .repr (.list xs) = some (.d (.str (PyData.list xs).shown)) := by
  show (if SeqAt.shaped (.list xs) && (PyData.list xs).showable && decide (rsz (.list xs) ≤ 16000000) then some _ else none) = _
  rw [if_pos (by rw [h.shaped hd, h.sho, Bool.true_and, Bool.true_and, decide_eq_true_eq]; exact Nat.le_trans h.rs hs)]
theorem str_ne (x : Str) : CmpIs .ne (.str x) (.str x) false := ⟨by
  show (eqD (.str x) (.str x)).map (!·) = _
  have : eqD (.str x) (.str x) = some (decide (x = x)) := rfl
  rw [this, decide_eq_true rfl]; rfl⟩
theorem str_eq (x : Str) : CmpIs .eq (.str x) (.str x) true := ⟨by
  show eqD (.str x) (.str x) = _
  have : eqD (.str x) (.str x) = some (decide (x = x)) := rfl
  rw [this, decide_eq_true rfl]⟩
theorem sh_ni {xs : List Nat} (h : ∀ x ∈ xs, x < 1000) {n : Nat} (hn : xs.length ≤ n) : Sh (.list (ni xs)) 1 (3 + n * 1923) ∧ Sh (.tuple (ni xs)) 1 (3 + n * 1923) := by
  have g : ∀ d ∈ ni xs, Sh d 0 1921 := fun d hd => by
    obtain ⟨k, hk, rfl⟩ := mem_ni.mp hd
    refine sh_int ?_
    have := h k hk
    have h2 : (1000 : Nat) < 2 ^ 60 := by decide
    omega
  exact ⟨sh_list g (by rw [ni_len]; exact hn), sh_tup g (by rw [ni_len]; exact hn)⟩
theorem eqvAll_ni : ∀ (xs ys : List Nat), PyData.eqvAll (ni xs) (ni ys) = decide (xs = ys)
  | [], [] => rfl
  | [], _ :: _ => rfl
  | _ :: _, [] => rfl
  | x :: xs, y :: ys => by
    show (PyData.eqv (.int (x : Int)) (.int (y : Int)) && PyData.eqvAll (ni xs) (ni ys)) = _
    rw [eqv_int, eqvAll_ni xs ys, Bool.eq_iff_iff]
    simp only [Bool.and_eq_true, decide_eq_true_eq, List.cons.injEq]
    exact ⟨fun h => ⟨by omega, h.2⟩, fun h => ⟨by omega, h.2⟩⟩
theorem eqD_ni {xs ys : List Nat} (hx : ∀ x ∈ xs, x < 1000) (hy : ∀ x ∈ ys, x < 1000) : eqD (.list (ni xs)) (.list (ni ys)) = some (decide (xs = ys)) := by
  show (if SeqAt.shaped (.list (ni xs)) && SeqAt.shaped (.list (ni ys)) then some (PyData.eqv (.list (ni xs)) (.list (ni ys))) else none) = _
  rw [(sh_ni hx (Nat.le_refl _)).1.shaped (by decide), (sh_ni hy (Nat.le_refl _)).1.shaped (by decide)]
  show some (PyData.eqvAll (ni xs) (ni ys)) = _
  rw [eqvAll_ni]
theorem ne_ni {xs ys : List Nat} (hx : ∀ x ∈ xs, x < 1000) (hy : ∀ x ∈ ys, x < 1000) {b : Bool} (h : (!decide (xs = ys)) = b) : CmpIs .ne (.list (ni xs)) (.list (ni ys)) b := ⟨by
  show (eqD (.list (ni xs)) (.list (ni ys))).map (!·) = _
  rw [eqD_ni hx hy, ← h]; rfl⟩
/-- sorted numbers -/
theorem sorted_ni {xs ys : List Nat} (hp : ys.Perm xs) (hs : ys.Pairwise (· < ·)) (hl : xs.length ≤ lim) : bi1D .sorted (.list (ni xs)) = some (.o (ni ys)) := by
  show (match intsD (ni xs) with
    | some ns => if ns.length ≤ lim then some (W.o ((isort ns).map PyData.int)) else none
    | none => if tupsOk (ni xs) && decide ((ni xs).length ≤ lim) then some (.o (sortD (ni xs))) else none) = _
  rw [intsD_ni]
  dsimp only
  rw [if_pos (by rw [List.length_map]; exact hl)]
  have e : isort (xs.map fun (k : Nat) => (k : Int)) = ys.map fun (k : Nat) => (k : Int) := by
    unfold isort
    have p1 : ((xs.map fun (k : Nat) => (k : Int)).mergeSort (fun a b => decide (a ≤ b))).Perm (xs.map fun (k : Nat) => (k : Int)) := List.mergeSort_perm _ _
    have s1 := List.pairwise_mergeSort (le := fun a b : Int => decide (a ≤ b)) (fun a b c h1 h2 => decide_eq_true (Int.le_trans (of_decide_eq_true h1) (of_decide_eq_true h2))) (fun a b => by
      rcases Int.le_total a b with h | h
      · simp [h]
      · simp [h]) (xs.map fun (k : Nat) => (k : Int))
    refine List.Perm.eq_of_pairwise (fun a b _ _ h g => Int.le_antisymm (of_decide_eq_true h) (of_decide_eq_true g)) s1 ?_ (p1.trans (hp.symm.map _))
    rw [List.pairwise_map]
    exact hs.imp fun h => decide_eq_true (by omega)
  rw [e]
  show some (W.o ((ys.map fun (k : Nat) => (k : Int)).map PyData.int)) = _
  rw [List.map_map]
  rfl
theorem listsD_ni (xss : List (List Nat)) : listsD (xss.map fun xs => .list (ni xs)) = some (xss.map ni) := by
  induction xss with
  | nil => rfl
  | cons x xs ih =>
    show (listsD (xs.map fun xs => .list (ni xs))).map (ni x :: ·) = _
    rw [ih]; rfl
theorem flat_ni (xss : List (List Nat)) : (xss.map ni).flatten = ni xss.flatten := by
  induction xss with
  | nil => rfl
  | cons x xs ih => rw [List.map_cons, List.flatten_cons, List.flatten_cons, ni_append, ih]
end PV
end

section
set_option Elab.async false
set_option linter.all false
set_option maxRecDepth 100000
set_option autoImplicit false
/-! EX: loops that may end in a return, comprehensions whose turns change slots -/
namespace PV
open PySem
section
variable {F : Fn} {R : Fl → DE → Prop}
theorem frGo_invR {bind : D → DE → Option DE} {body : DE → Option (Fl × DE)} (P : Nat → DE → Prop) : ∀ {xs : List D} {k : Nat} {E : DE}, P k E →
    (∀ i x E, xs[i]? = some x → P (k + i) E → ∃ E1 E2 f, bind x E = some E1 ∧ body E1 = some (f, E2) ∧ (((f = .nx ∨ f = .ct) ∧ P (k + i + 1) E2) ∨ ∃ w, f = .rt w ∧ R (.rt w) E2)) →
    (∀ E, P (k + xs.length) E → R .nx E) → ∃ f E', frGo bind body xs E = some (f, E') ∧ R f E'
  | [], k, E, h, _, q => ⟨_, E, rfl, q E h⟩
  | x :: xs, k, E, h, g, q => by
    obtain ⟨E1, E2, f, h1, h2, h3⟩ := g 0 x E rfl h
    rcases h3 with ⟨h3, h4⟩ | ⟨w, rfl, h4⟩
    · obtain ⟨f', E', h5, h6⟩ := frGo_invR P (bind := bind) (body := body) (xs := xs) (k := k + 1) (E := E2) h4 (fun i y E hy hp => by
        have e : k + 1 + i = k + (i + 1) := by omega
        rw [e] at hp ⊢
        exact g (i + 1) y E (by simpa using hy) hp) (fun E hp => q E (by
        have e : k + (x :: xs).length = k + 1 + xs.length := by simp; omega
        rw [e]; exact hp))
      refine ⟨f', E', ?_, h6⟩
      rw [frGo, h1, Option.bind_some, h2, Option.bind_some]
      rcases h3 with rfl | rfl <;> exact h5
    · refine ⟨_, E2, ?_, h4⟩
      rw [frGo, h1, Option.bind_some, h2, Option.bind_some]
/-- a for whose turns go on or return -/
theorem WS.frR {tg : CT} {it : CI} {s : CSs} {E : DE} (P : Nat → DE → Prop) (h : WI F it E fun xs E1 => P 0 E1 ∧ (∀ i x E2, xs[i]? = some x → P i E2 → ∃ E3, bindT tg x E2 = some E3 ∧ WSs F s E3 fun f E4 => ((f = .nx ∨ f = .ct) ∧ P (i + 1) E4) ∨ ∃ w, f = .rt w ∧ R (.rt w) E4) ∧ ∀ E2, P xs.length E2 → R .nx E2) : WS F (.fr tg it s) E R := by
  obtain ⟨xs, E1, h1, h2, h3, h4⟩ := h
  obtain ⟨f, E', h5, h6⟩ := frGo_invR (R := R) (bind := bindT tg) (body := PV.execs F s) P (xs := xs) (k := 0) (E := E1) h2 (fun i x E2 hx hp => by
    rw [Nat.zero_add] at hp ⊢
    obtain ⟨E3, g1, f, E4, g2, g3⟩ := h3 i x E2 hx hp
    exact ⟨E3, E4, f, g1, g2, g3⟩) (fun E2 hp => by
    rw [Nat.zero_add] at hp
    exact h4 E2 hp)
  exact ⟨f, E', by rw [PV.exec, h1, Option.bind_some]; exact h5, h6⟩
/-- a comprehension without a test, whose turns may change slots -/
theorem lcGo_inv {bind : D → DE → Option DE} {cond : DE → Option (Bool × DE)} {elt : DE → Option (W × DE)} {vs : List Nat} (P : Nat → List D → DE → Prop) : ∀ {xs : List D} {k : Nat} {acc : List D} {E : DE}, P k acc E →
    (∀ i x acc E, xs[i]? = some x → P (k + i) acc E → ∃ E1 E2 b, bind x E = some E1 ∧ cond E1 = some (b, E2) ∧ (b = true → ∃ w E3, elt E2 = some (w, E3) ∧ P (k + i + 1) (acc ++ [w.data]) (wipeE E3 vs)) ∧ (b = false → P (k + i + 1) acc (wipeE E2 vs))) →
    ∃ ys E', lcGo bind cond elt vs xs E = some (ys, E') ∧ P (k + xs.length) (acc ++ ys) E'
  | [], k, acc, E, h, _ => ⟨[], E, rfl, by rw [List.append_nil]; exact h⟩
  | x :: xs, k, acc, E, h, g => by
    obtain ⟨E1, E2, b, h1, h2, h3, h4⟩ := g 0 x acc E rfl h
    have shift : ∀ {acc' : List D} {E' : DE}, P (k + 0 + 1) acc' E' → ∃ ys E'', lcGo bind cond elt vs xs E' = some (ys, E'') ∧ P (k + (x :: xs).length) (acc' ++ ys) E'' := fun {acc' E'} hp => by
      obtain ⟨ys, E'', q1, q2⟩ := lcGo_inv P (bind := bind) (cond := cond) (elt := elt) (vs := vs) (xs := xs) (k := k + 1) (acc := acc') (E := E') hp fun i y acc E hy hp => by
        have e : k + 1 + i = k + (i + 1) := by omega
        rw [e] at hp ⊢
        exact g (i + 1) y acc E (by simpa using hy) hp
      refine ⟨ys, E'', q1, ?_⟩
      have e : k + (x :: xs).length = k + 1 + xs.length := by simp; omega
      rw [e]; exact q2
    cases b with
    | true =>
      obtain ⟨w, E3, h5, h6⟩ := h3 rfl
      obtain ⟨ys, E', q1, q2⟩ := shift h6
      refine ⟨w.data :: ys, E', ?_, by rw [List.append_assoc] at q2; exact q2⟩
      rw [lcGo, h1, Option.bind_some, h2, Option.bind_some]
      dsimp only
      rw [if_pos rfl, h5, Option.bind_some]
      dsimp only
      rw [q1]; rfl
    | false =>
      obtain ⟨ys, E', q1, q2⟩ := shift (h4 rfl)
      refine ⟨ys, E', ?_, q2⟩
      rw [lcGo, h1, Option.bind_some, h2, Option.bind_some]
      dsimp only
      rw [if_neg Bool.false_ne_true, q1]
theorem WE.compI {Q : W → DE → Prop} {vs : List Nat} {tg : CT} {it : CI} {cond : CO} {elt : CE} {E : DE} (P : Nat → List D → DE → Prop)
    (h : WI F it E fun xs E1 => P 0 [] (wipeE E1 vs) ∧ (∀ i x acc E, xs[i]? = some x → P i acc E → ∃ E1, bindT tg x E = some E1 ∧ WC F cond E1 fun b E2 => (b = true → WE F elt E2 fun w E3 => P (i + 1) (acc ++ [w.data]) (wipeE E3 vs)) ∧ (b = false → P (i + 1) acc (wipeE E2 vs))) ∧
      ∀ ys E2, P xs.length ys E2 → Q (.o ys) (backE E2 E1 vs)) (hn : ∀ i, it ≠ .own i := by intro _ z; exact nomatch z) :
    WE F (.comp vs tg it cond elt) E Q := by
  obtain ⟨xs, E1, h1, h2, h3, h4⟩ := h
  obtain ⟨ys, E', q1, q2⟩ := lcGo_inv (bind := bindT tg) (cond := evc F cond) (elt := ev F elt) (vs := vs) P (xs := xs) (k := 0) (acc := []) (E := wipeE E1 vs) h2 fun i x acc E hx hp => by
    rw [Nat.zero_add] at hp ⊢
    obtain ⟨E2, g1, b, E3, g2, g3, g4⟩ := h3 i x acc E hx hp
    exact ⟨E2, E3, b, g1, g2, fun e => let ⟨w, E4, q1, q2⟩ := g3 e; ⟨w, E4, q1, q2⟩, g4⟩
  rw [Nat.zero_add, List.nil_append] at q2
  refine ⟨_, _, ?_, h4 ys E' q2⟩
  rw [ev]
  · rw [h1, Option.bind_some]
    dsimp only
    rw [q1]; rfl
  · exact fun i z => hn i z
theorem WE.dct0 {Q : W → DE → Prop} {E : DE} (q : Q (.d (.dict [])) E) : WE F .dct0 E Q := ⟨_, _, rfl, q⟩
/-- append to a list that nobody holds -/
theorem WS.apt {a b : CE} {E : DE} (h : WE F a E fun w E1 => ∃ xs, w = .o xs ∧ WE F b E1 fun _ E2 => xs.length < lim ∧ R .nx E2) : WS F (.apt a b) E R := by
  obtain ⟨w, E1, h1, xs, rfl, w2, E2, h2, h3, h4⟩ := h
  exact ⟨_, E2, by rw [PV.exec, h1, Option.bind_some]; dsimp only; rw [h2, Option.bind_some]; dsimp only; rw [if_pos h3], h4⟩
end
end PV
end

section
set_option Elab.async false
set_option linter.all false
set_option maxRecDepth 100000
set_option autoImplicit false
/-! EY: own lists told in a tuple: rules -/
namespace PV
open PySem
section
variable {F : Fn} {E : DE} {R : Fl → DE → Prop} {es : CEs} {f : Nat} {q : List Nat}
def WT (F : Fn) (es : CEs) (E : DE) (Q : List (List D) → DE → Prop) : Prop := ∃ xss E', evT F es E = some (xss, E') ∧ Q xss E'
theorem WT.nil {Q : List (List D) → DE → Prop} (h : Q [] E) : WT F .nil E Q := ⟨_, _, rfl, h⟩
theorem WT.consV {Q : List (List D) → DE → Prop} {i : Nat} {xs : List D} (h : E[i]? = some (some (.o xs))) (q : WT F es (E.set i none) fun xss E2 => Q (xs :: xss) E2) : WT F (.cons (.var i) es) E Q := by
  obtain ⟨xss, E2, h1, h2⟩ := q
  refine ⟨_, E2, ?_, h2⟩
  show (ev1T F (.var i) E).bind _ = _
  rw [show ev1T F (.var i) E = some (xs, E.set i none) from by unfold ev1T; dsimp only; rw [h], Option.bind_some]
  dsimp only
  rw [h1]; rfl
theorem WT.consE {Q : List (List D) → DE → Prop} {a : CE} (h : WE F a E fun w E1 => ∃ xs, w = .o xs ∧ WT F es E1 fun xss E2 => Q (xs :: xss) E2) (hn : ∀ i, a ≠ .var i := by intro _ z; exact nomatch z) : WT F (.cons a es) E Q := by
  obtain ⟨w, E1, h0, xs, rfl, xss, E2, h1, h2⟩ := h
  refine ⟨_, E2, ?_, h2⟩
  show (ev1T F a E).bind _ = _
  have e : ev1T F a E = some (xs, E1) := by
    unfold ev1T
    split
    · exact absurd rfl (hn _)
    · rw [h0]; rfl
  rw [e, Option.bind_some]
  dsimp only
  rw [h1]; rfl
theorem WS.retT (h : ownable es E = true) (hT : WT F es E fun xss E1 => xss.length ≤ lim ∧ R (.rt (.t xss)) E1) : WS F (.retT es) E R := by
  obtain ⟨xss, E1, h1, h2, h3⟩ := hT
  exact ⟨_, E1, by rw [PV.exec, if_pos h, h1, Option.bind_some]; dsimp only; rw [if_pos h2], h3⟩
theorem WS.retC (h : WL F es E fun ds E1 => ∃ ds', permD ds q = some ds' ∧ ∃ w, F f none ds' = some (w, none) ∧ R (.rt w) E1) : WS F (.retC f es q) E R := by
  obtain ⟨ds, E1, h1, ds', h2, w, h3, h4⟩ := h
  refine ⟨_, E1, ?_, h4⟩
  rw [PV.exec]
  unfold evcall
  rw [h1, Option.bind_some]; dsimp only; rw [h2, Option.bind_some, h3]; rfl
theorem WS.tap1 {k : Nat} {d : CE} (h : WL F es E fun ds E1 => ∃ ds', permD ds q = some ds' ∧ ∃ xss, F f none ds' = some (.t xss, none) ∧ WE F d E1 fun _ E2 => ∃ xs, xss[k]? = some xs ∧ xs.length < lim ∧ R .nx E2) : WS F (.tap1 f es q k d) E R := by
  obtain ⟨ds, E1, h1, ds', h2, xss, h3, w, E2, h4, xs, h5, h6, h7⟩ := h
  refine ⟨_, E2, ?_, h7⟩
  rw [PV.exec]
  unfold evcall
  rw [h1, Option.bind_some]; dsimp only; rw [h2, Option.bind_some, h3, Option.bind_some]; dsimp only
  rw [Option.bind_some]; dsimp only; rw [h4, Option.bind_some]; dsimp only; rw [h5]; dsimp only; rw [if_pos h6]
theorem WS.tap2 {i : Nat} (h : WL F es E fun ds E1 => ∃ ds', permD ds q = some ds' ∧ ∃ xs ys, F f none ds' = some (.t [xs, ys], none) ∧ ∃ E2, put E1 i (.d .none) = some E2 ∧ (xs.length < lim ∧ ys.length < lim) ∧ R .nx (E2.set i none)) : WS F (.tap2 i f es q) E R := by
  obtain ⟨ds, E1, h1, ds', h2, xs, ys, h3, E2, h4, h5, h6⟩ := h
  refine ⟨_, _, ?_, h6⟩
  rw [PV.exec]
  unfold evcall
  rw [h1, Option.bind_some]; dsimp only; rw [h2, Option.bind_some, h3, Option.bind_some]; dsimp only
  rw [Option.bind_some]; dsimp only; rw [h4, Option.bind_some, if_pos h5]
theorem lcZO_eq {α : Type} {i : Nat} {xs : List D} {bind : D → DE → Option DE} {cond : DE → Option (Bool × DE)} {elt : DE → Option (W × DE)} {vs : List Nat} {E : DE} {f1 f2 f : α → D} {ls : List α} (hx : xs = ls.map f1) (hg : getL E i = some (ls.map f2))
    (h : ∀ y ∈ ls, ∃ E1 E2 w E3, bind (.tuple [f1 y, f2 y]) E = some E1 ∧ cond E1 = some (true, E2) ∧ elt E2 = some (w, E3) ∧ w.data = f y ∧ wipeE E3 vs = E) :
    ∀ (m k : Nat), ls.length - k < m → k ≤ ls.length → lcZO i xs bind cond elt vs m k E = some ((ls.drop k).map f, E)
  | 0, k, hm, _ => by omega
  | m + 1, k, hm, hl => by
    rw [lcZO, hg, Option.bind_some, hx]
    by_cases hk : k < ls.length
    · rw [List.getElem?_map, List.getElem?_map, List.getElem?_eq_getElem hk, Option.map_some, Option.map_some]
      obtain ⟨E1, E2, w, E3, h1, h2, h3, h4, h5⟩ := h ls[k] (List.getElem_mem hk)
      have ih := lcZO_eq hx hg h m (k + 1) (by omega) (by omega)
      rw [hx] at ih
      dsimp only
      rw [h1, Option.bind_some, h2, Option.bind_some, List.drop_eq_getElem_cons hk]
      dsimp only
      rw [if_pos rfl, h3, Option.bind_some]
      dsimp only
      rw [h5, ih, List.map_cons, h4]
      rfl
    · rw [List.getElem?_eq_none (by rw [List.length_map]; omega), List.drop_of_length_le (by omega)]
      dsimp only
      rw [if_pos (by rw [List.length_map, List.length_map]; omega)]
      rfl
theorem WS.retZ {α : Type} {vs : List Nat} {tg : CT} {a elt : CE} {i : Nat} (ls : List α) (f1 f2 f : α → D) (zs : List D)
    (h : WE F a E fun w E1 => seqD w.data = some (ls.map f1) ∧ getL (wipeE E1 vs) i = some (ls.map f2) ∧ ls.length < lim ∧ (∀ y ∈ ls, Turn1 F tg .no elt vs (wipeE E1 vs) (.tuple [f1 y, f2 y]) true (f y)) ∧
      (backE (wipeE E1 vs) E1 vs)[i]? = some (some (.o zs)) ∧ R (.rt (.t [ls.map f, zs])) ((backE (wipeE E1 vs) E1 vs).set i none)) : WS F (.retZ vs tg a i .no elt) E R := by
  obtain ⟨w, E1, h1, h2, h3, h4, h5, h6, h7⟩ := h
  refine ⟨_, _, ?_, h7⟩
  rw [PV.exec, h1, Option.bind_some]
  dsimp only
  rw [h2, Option.bind_some]
  rw [lcZO_eq (f1 := f1) (f2 := f2) (f := f) rfl h3 (fun y hy => by
    obtain ⟨E2, E3, g1, g2, g3, _⟩ := (h5 y hy).use
    obtain ⟨w, E4, g4, g5, g6⟩ := g3 rfl
    exact ⟨E2, E3, w, E4, g1, g2, g4, g5, g6⟩) lim 0 (by omega) (Nat.zero_le _), Option.bind_some]
  dsimp only
  rw [h6]; rfl
end
end PV
end

section
set_option Elab.async false
set_option linter.all false
set_option maxRecDepth 100000
set_option maxHeartbeats 2000000
set_option autoImplicit false
/-! FR: fractions: pairs of ints as rational numbers -/
namespace PV
open PySem
theorem mulD {i j : Int} (h : i.natAbs.log2 + j.natAbs.log2 < 1000000) : binD .mul (.int i) (.int j) = some (.d (.int (i * j))) := by
  show (if i.natAbs.log2 + j.natAbs.log2 < 1000000 then some _ else none) = _
  rw [if_pos h]
theorem log_le {i : Int} {k : Nat} (h : i.natAbs < 2 ^ k) : i.natAbs.log2 ≤ k := by
  by_cases h0 : i.natAbs = 0
  · rw [h0]; simp
  · exact Nat.le_of_lt ((Nat.log2_lt h0).mpr h)
theorem mulS {i j : Int} {n : Nat} (h1 : i.natAbs < 2 ^ n) (h2 : j.natAbs < 2 ^ n) (hn : n ≤ 400000) : binD .mul (.int i) (.int j) = some (.d (.int (i * j))) := mulD (by
  have := log_le h1
  have := log_le h2
  omega)
theorem modD {i j : Int} (h : 0 < j) : binD .mod (.int i) (.int j) = some (.d (.int (i % j))) := by
  show (if 0 < j then some _ else none) = _
  rw [if_pos h]
theorem fdivD {i j : Int} (h : 0 < j) (h2 : j.natAbs.log2 < 9000) : binD .fdiv (.int i) (.int j) = some (.d (.int (i / j))) := by
  show (if 0 < j ∧ j.natAbs.log2 < 9000 then some _ else none) = _
  rw [if_pos ⟨h, h2⟩]
theorem eqD_i (i j : Int) : eqD (.int i) (.int j) = some (decide (i = j)) := by
  show (if SeqAt.shaped (.int i) && SeqAt.shaped (.int j) then some (PyData.eqv (.int i) (.int j)) else none) = _
  rw [if_pos (by rfl), eqv_int]
/-! ### Euclid -/
def mu (a b : Nat) : Nat := if b = 0 then 0 else 2 * Nat.log2 (a * b) + 2 + (if a < b then 1 else 0)
theorem mu_step {a b : Nat} (hb : b ≠ 0) : mu b (a % b) < mu a b := by
  unfold mu
  rw [if_neg hb]
  by_cases hr : a % b = 0
  · rw [if_pos hr]; omega
  · rw [if_neg hr]
    have hlt := Nat.mod_lt a (Nat.pos_of_ne_zero hb)
    by_cases h : a < b
    · rw [Nat.mod_eq_of_lt h] at hr ⊢
      rw [if_neg (by omega), if_pos h, Nat.mul_comm b a]
      omega
    · rw [if_neg (by omega), if_neg h]
      have ha : a ≠ 0 := by
        intro e
        rw [e] at h
        omega
      have h2 : 2 * (a % b) < a + 1 := by
        have := Nat.div_add_mod a b
        have h1 : 1 ≤ a / b := (Nat.le_div_iff_mul_le (by omega)).mpr (by omega)
        have h3 : b * 1 ≤ b * (a / b) := Nat.mul_le_mul_left b h1
        omega
      have h4 : 2 * (b * (a % b)) ≤ a * b := by
        have : b * (2 * (a % b)) ≤ b * a := Nat.mul_le_mul_left b (by omega)
        rw [Nat.mul_comm a b, Nat.mul_left_comm]
        exact this
      have h5 : b * (a % b) ≠ 0 := Nat.mul_ne_zero hb hr
      have h6 : a * b ≠ 0 := Nat.mul_ne_zero ha hb
      have h7 : 2 ^ (Nat.log2 (b * (a % b)) + 1) ≤ a * b := by
        have := Nat.log2_self_le h5
        rw [Nat.pow_succ]
        omega
      have h8 := (Nat.le_log2 h6).mpr h7
      omega
theorem mu_lim {a b n : Nat} (ha : a < 2 ^ n) (hb : b < 2 ^ n) (hn : n ≤ 9000) : mu a b < lim := by
  unfold mu lim
  split
  · omega
  · by_cases h0 : a * b = 0
    · rw [h0]; simp; split <;> omega
    · have h : a * b < 2 ^ (n + n) := by
        rw [Nat.pow_add]
        exact Nat.mul_lt_mul_of_lt_of_le ha (Nat.le_of_lt hb) (Nat.pow_pos (by omega))
      have := (Nat.log2_lt h0).mpr h
      split <;> omega
def divB : CSs := (.cons (.wh (.cmp .gt (.var 1) (.cst (.int 0)))
 (.cons (.par [0, 1] (.cons (.var 1) (.cons (.bin .mod (.bi1 .int (.var 0)) (.var 1)) .nil)))
 .nil))
 (.cons (.ret (.var 0))
 .nil))
section
variable {F : Fn}
theorem gt_is (i j : Int) : CmpIs .gt (.int i) (.int j) (decide (j < i)) := ⟨rfl⟩
theorem lt_is (i j : Int) : CmpIs .lt (.int i) (.int j) (decide (i < j)) := ⟨rfl⟩
theorem le_is (i j : Int) : CmpIs .le (.int i) (.int j) (decide (i ≤ j)) := ⟨rfl⟩
theorem eq_is (i j : Int) : CmpIs .eq (.int i) (.int j) (decide (i = j)) := ⟨eqD_i i j⟩
theorem ne_is (i j : Int) : CmpIs .ne (.int i) (.int j) (!decide (i = j)) := ⟨by
  show (eqD (.int i) (.int j)).map (!·) = _
  rw [eqD_i]; rfl⟩
theorem div_ok {a b n : Nat} (ha : a < 2 ^ n) (hb : b < 2 ^ n) (hn : n ≤ 9000) : fin none (PV.execs F divB [some (.d (.int (a : Nat))), some (.d (.int (b : Nat)))]) = some (.d (.int (Nat.gcd a b : Nat)), none) := by
  apply fin_of
  unfold divB
  refine WSs.cons ?_
  refine WS.wh (mu a b) (fun m E => ∃ x y : Nat, E = [some (.d (.int (x : Nat))), some (.d (.int (y : Nat)))] ∧ Nat.gcd x y = Nat.gcd a b ∧ mu x y = m) (mu_lim ha hb hn) ⟨a, b, rfl, rfl, rfl⟩ ?_
  rintro m E ⟨x, y, rfl, hg, hm⟩
  walk_at "ew"
  refine ⟨_, gt_is _ _, ?_⟩
  refine ⟨_, rfl, fun h => ?_, fun h => ?_⟩
  · have h := of_decide_eq_false h
    have : y = 0 := by omega
    subst this
    walk_at "ew"
    rw [Nat.gcd_zero_right] at hg
    rw [← hg]
    exact .inl rfl
  · have h := of_decide_eq_true h
    walk_at "ew"
    refine ⟨_, modD (by omega), ?_⟩
    walk_at "ew"
    refine ⟨.inl rfl, mu y (x % y), ?_, y, x % y, rfl, ?_, rfl⟩
    · rw [← hm]
      exact mu_step (by omega)
    · rw [← hg, Nat.gcd_comm x y, Nat.gcd_rec y x, Nat.gcd_comm]
/-! ### fractions -/
def fq (q : Rat) : D := .tuple [.int q.num, .int (q.den : Nat)]
def szq (q : Rat) (n : Nat) : Prop := q.num.natAbs < 2 ^ n ∧ q.den < 2 ^ n
theorem szq_mono {q : Rat} {n m : Nat} (h : szq q n) (hm : n ≤ m) : szq q m := ⟨Nat.lt_of_lt_of_le h.1 (Nat.pow_le_pow_right (by omega) hm), Nat.lt_of_lt_of_le h.2 (Nat.pow_le_pow_right (by omega) hm)⟩
theorem szq_divInt {a b : Int} {n : Nat} (ha : a.natAbs < 2 ^ n) (hb : b.natAbs < 2 ^ n) (h0 : b ≠ 0) : szq (Rat.divInt a b) n := by
  constructor
  · rw [Rat.num_divInt]
    refine Nat.lt_of_le_of_lt ?_ ha
    rw [Int.natAbs_ediv_of_dvd (by
      refine Int.dvd_trans ?_ (Int.dvd_mul_left _ _)
      exact Int.gcd_dvd_right ..)]
    rw [Int.natAbs_mul, Int.natAbs_sign_of_ne_zero h0, Nat.one_mul]
    exact Nat.div_le_self _ _
  · rw [Rat.den_divInt, if_neg h0]
    exact Nat.lt_of_le_of_lt (Nat.div_le_self _ _) hb
theorem szq_mul {p q : Rat} {n m : Nat} (h : szq p n) (g : szq q m) : szq (p * q) (n + m) := by
  have e : p * q = Rat.divInt (p.num * q.num) ((p.den * q.den : Nat) : Int) := by
    rw [Rat.mul_def', Rat.divInt_ofNat]
  rw [e]
  have hp := p.den_pos
  have hq := q.den_pos
  refine szq_divInt ?_ ?_ ?_
  · rw [Int.natAbs_mul, Nat.pow_add]
    exact Nat.mul_lt_mul'' h.1 g.1
  · show p.den * q.den < _
    rw [Nat.pow_add]
    exact Nat.mul_lt_mul'' h.2 g.2
  · have := Nat.mul_pos hp hq
    omega
theorem szq_add {p q : Rat} {n m : Nat} (h : szq p n) (g : szq q m) : szq (p + q) (n + m + 1) := by
  have e : p + q = Rat.divInt (p.num * q.den + q.num * p.den) ((p.den * q.den : Nat) : Int) := by
    rw [Rat.add_def', Rat.divInt_ofNat]
  rw [e]
  have hp := p.den_pos
  have hq := q.den_pos
  refine szq_divInt ?_ ?_ ?_
  · refine Nat.lt_of_le_of_lt (Int.natAbs_add_le _ _) ?_
    rw [Int.natAbs_mul, Int.natAbs_mul, Int.natAbs_natCast, Int.natAbs_natCast]
    have h1 : p.num.natAbs * q.den < 2 ^ (n + m) := by rw [Nat.pow_add]; exact Nat.mul_lt_mul'' h.1 g.2
    have h2 : q.num.natAbs * p.den < 2 ^ (n + m) := by rw [Nat.add_comm, Nat.pow_add]; exact Nat.mul_lt_mul'' g.1 h.2
    rw [Nat.pow_succ]
    omega
  · show p.den * q.den < _
    have h1 : p.den * q.den < 2 ^ (n + m) := by rw [Nat.pow_add]; exact Nat.mul_lt_mul'' h.2 g.2
    rw [Nat.pow_succ]
    omega
  · have := Nat.mul_pos hp hq
    omega
theorem fq_divInt {a b : Int} (hb : 0 < b) : fq (Rat.divInt a b) = .tuple [.int (a / (Nat.gcd a.natAbs b.natAbs : Nat)), .int (b / (Nat.gcd a.natAbs b.natAbs : Nat))] := by
  unfold fq
  rw [Rat.num_divInt, Rat.den_divInt, if_neg (by omega), Int.sign_eq_one_of_pos hb, Int.one_mul, Int.gcd_comm]
  have e : ((b.natAbs / a.gcd b : Nat) : Int) = b / (a.gcd b : Nat) := by
    rw [Int.natCast_ediv, Int.natAbs_of_nonneg (by omega)]
  rw [e]
  rfl
def redR (k : Nat) : CSs := (.cons (.set 2 (.call k (.cons (.bi1 .abs (.var 0)) (.cons (.var 1) .nil)) [0, 1]))
 (.cons (.ret (.tup (.cons (.bin .fdiv (.var 0) (.var 2)) (.cons (.bin .fdiv (.var 1) (.var 2)) .nil))))
 .nil))
def redB (k : Nat) : CSs := (.cons (.ifs (.cmp .lt (.var 1) (.cst (.int 0)))
 (.cons (.par [0, 1] (.cons (.bin .sub (.cst (.int 0)) (.var 0)) (.cons (.bin .sub (.cst (.int 0)) (.var 1)) .nil)))
 .nil)
 .nil)
 (redR k))
/-- what divisor promises -/
def DivS (F : Fn) (k : Nat) : Prop := ∀ a b : Nat, a < 2 ^ 8000 → b < 2 ^ 8000 → F k none [.int (a : Nat), .int (b : Nat)] = some (.d (.int (Nat.gcd a b : Nat)), none)
theorem abs_if (a : Int) : (if a < 0 then -a else a) = (a.natAbs : Nat) := by split <;> omega
theorem red_pos {k : Nat} (hd : DivS F k) {a b : Int} (hb : 0 < b) (ha : a.natAbs < 2 ^ 8000) (hb2 : b.natAbs < 2 ^ 8000) :
    WSs F (redR k) [some (.d (.int a)), some (.d (.int b)), none] fun f _ => f = .rt (.d (fq (Rat.divInt a b))) ∨ (f = .nx ∧ W.d (fq (Rat.divInt a b)) = .d .none) := by
  have hb' : b = ((b.natAbs : Nat) : Int) := by omega
  have g1 : Nat.gcd a.natAbs b.natAbs ≤ b.natAbs := Nat.gcd_le_right _ (by omega)
  have g0 : 0 < Nat.gcd a.natAbs b.natAbs := Nat.gcd_pos_of_pos_right _ (by omega)
  have hl : ((Nat.gcd a.natAbs b.natAbs : Nat) : Int).natAbs.log2 < 9000 := by
    have : ((Nat.gcd a.natAbs b.natAbs : Nat) : Int).natAbs < 2 ^ 8000 := by
      show Nat.gcd a.natAbs b.natAbs < _
      exact Nat.lt_of_le_of_lt g1 hb2
    have := log_le this
    omega
  have hc := hd a.natAbs b.natAbs ha hb2
  rw [← hb'] at hc
  rw [fq_divInt hb]
  unfold redR
  walk_at "ew"
  rw [abs_if]
  refine ⟨_, hc, ?_⟩
  walk_at "ew"
  refine ⟨_, fdivD (by omega) hl, ?_⟩
  walk_at "ew"
  refine ⟨_, fdivD (by omega) hl, ?_⟩
  walk_at "ew"
  refine ⟨show (2 : Nat) ≤ lim from by decide, ?_⟩
  walk_at "ew"
  exact .inl rfl
theorem red_ok {k : Nat} (hd : DivS F k) {a b : Int} (hb : b ≠ 0) (ha : a.natAbs < 2 ^ 8000) (hb2 : b.natAbs < 2 ^ 8000) :
    fin none (PV.execs F (redB k) [some (.d (.int a)), some (.d (.int b)), none]) = some (.d (fq (Rat.divInt a b)), none) := by
  apply fin_of
  unfold redB
  generalize er : redR k = rest
  walk_at "ew"
  refine ⟨_, lt_is _ _, ?_⟩
  refine ⟨_, rfl, fun h => ?_, fun h => ?_⟩
  · have h := of_decide_eq_true h
    walk_at "ew"
    have e : Rat.divInt a b = Rat.divInt (0 - a) (0 - b) := by
      rw [show (0 - a) = -a from by omega, show (0 - b) = -b from by omega, Rat.neg_divInt_neg]
    rw [e, ← er]
    refine red_pos hd (by omega) ?_ ?_
    · rw [show (0 - a) = -a from by omega, Int.natAbs_neg]; exact ha
    · rw [show (0 - b) = -b from by omega, Int.natAbs_neg]; exact hb2
  · have h := of_decide_eq_false h
    walk_at "ew"
    rw [← er]
    exact red_pos hd (by omega) ha hb2
end
end PV
end

section
set_option Elab.async false
set_option linter.all false
set_option maxRecDepth 100000
set_option maxHeartbeats 2000000
set_option autoImplicit false
/-! FRa: products, the law's own fractions -/
namespace PV
open PySem
section
variable {F : Fn}
/-- what reduced promises -/
def RedS (F : Fn) (k : Nat) : Prop := ∀ a b : Int, b ≠ 0 → a.natAbs < 2 ^ 8000 → b.natAbs < 2 ^ 8000 → F k none [.int a, .int b] = some (.d (fq (Rat.divInt a b)), none)
/-- what a product of fractions promises -/
def MulS (F : Fn) (k : Nat) : Prop := ∀ p q : Rat, szq p 4000 → szq q 4000 → F k none [fq p, fq q] = some (.d (fq (p * q)), none)
def mulB (k : Nat) : CSs := (.cons (.ret (.call k (.cons (.bin .mul (.idx (.var 0) (.cst (.int 0))) (.idx (.var 1) (.cst (.int 0)))) (.cons (.bin .mul (.idx (.var 0) (.cst (.int 1))) (.idx (.var 1) (.cst (.int 1)))) .nil)) [0, 1]))
 .nil)
theorem mul_eq (p q : Rat) : p * q = Rat.divInt (p.num * q.num) ((p.den : Int) * (q.den : Int)) := by
  rw [Rat.mul_def', ← Rat.divInt_ofNat]; rfl
theorem natAbs_mul_lt {a b : Int} {n m k : Nat} (h : a.natAbs < 2 ^ n) (g : b.natAbs < 2 ^ m) (e : n + m = k) : (a * b).natAbs < 2 ^ k := by
  rw [← e, Int.natAbs_mul, Nat.pow_add]
  exact Nat.mul_lt_mul'' h g
theorem mul_ok {k : Nat} (hr : RedS F k) {p q : Rat} (hp : szq p 4000) (hq : szq q 4000) : fin none (PV.execs F (mulB k) [some (.d (fq p)), some (.d (fq q))]) = some (.d (fq (p * q)), none) := by
  have h0 : ((p.den : Int) * (q.den : Int)) ≠ 0 := by
    have := Nat.mul_pos p.den_pos q.den_pos
    have e : ((p.den : Int) * (q.den : Int)) = ((p.den * q.den : Nat) : Int) := rfl
    rw [e]; omega
  have dp : ((p.den : Nat) : Int).natAbs < 2 ^ 4000 := hp.2
  have dq : ((q.den : Nat) : Int).natAbs < 2 ^ 4000 := hq.2
  have hc := hr (p.num * q.num) ((p.den : Int) * (q.den : Int)) h0 (natAbs_mul_lt hp.1 hq.1 rfl) (natAbs_mul_lt dp dq rfl)
  rw [← mul_eq] at hc
  apply fin_of
  unfold mulB
  generalize hw : W.d (fq (p * q)) = w at *
  unfold fq at *
  walk_at "ew"
  refine ⟨_, mulS hp.1 hq.1 (by decide), ?_⟩
  walk_at "ew"
  refine ⟨_, mulS dp dq (by decide), ?_⟩
  walk_at "ew"
  refine ⟨_, hc, ?_⟩
  walk_at "ew"
  exact .inl (by rw [← hw]; rfl)
/-! ### the law's own -/
def plnB : CSs := (.cons (.par [3, 4] (.cons (.bi1 .abs (.var 0)) (.cons (.bi1 .abs (.var 1)) .nil)))
 (.cons (.wh (.cmp .ne (.var 4) (.cst (.int 0)))
 (.cons (.par [3, 4] (.cons (.var 4) (.cons (.bi1 .int (.bin .mod (.var 3) (.var 4))) .nil)))
 .nil))
 (.cons (.set 2 (.ite (.cmp .gt (.var 1) (.cst (.int 0))) (.cst (.int 1)) (.neg (.cst (.int 1)))))
 (.cons (.ret (.tup (.cons (.bi1 .int (.bin .fdiv (.bin .mul (.var 2) (.var 0)) (.var 3))) (.cons (.bi1 .int (.bin .fdiv (.bin .mul (.var 2) (.var 1)) (.var 3))) .nil))))
 .nil))))
theorem pln_ok {a b : Int} (hb : b ≠ 0) (ha : a.natAbs < 2 ^ 8000) (hb2 : b.natAbs < 2 ^ 8000) :
    fin none (PV.execs F plnB [some (.d (.int a)), some (.d (.int b)), none, none, none]) = some (.d (fq (Rat.divInt a b)), none) := by
  have g1 : Nat.gcd a.natAbs b.natAbs ≤ b.natAbs := Nat.gcd_le_right _ (by omega)
  have g0 : 0 < Nat.gcd a.natAbs b.natAbs := Nat.gcd_pos_of_pos_right _ (by omega)
  have hl : ((Nat.gcd a.natAbs b.natAbs : Nat) : Int).natAbs.log2 < 9000 := by
    have : ((Nat.gcd a.natAbs b.natAbs : Nat) : Int).natAbs < 2 ^ 8000 := by
      show Nat.gcd a.natAbs b.natAbs < _
      exact Nat.lt_of_le_of_lt g1 hb2
    have := log_le this
    omega
  apply fin_of
  unfold plnB
  walk_at "ew"
  rw [abs_if, abs_if]
  refine WS.wh (mu a.natAbs b.natAbs) (fun m E => ∃ x y : Nat, E = [some (.d (.int a)), some (.d (.int b)), none, some (.d (.int (x : Nat))), some (.d (.int (y : Nat)))] ∧ Nat.gcd x y = Nat.gcd a.natAbs b.natAbs ∧ mu x y = m) (mu_lim ha hb2 (by decide)) ⟨_, _, rfl, rfl, rfl⟩ ?_
  rintro m E ⟨x, y, rfl, hg, hm⟩
  walk_at "ew"
  refine ⟨_, ne_is _ _, ?_⟩
  refine ⟨_, rfl, fun h => ?_, fun h => ?_⟩
  · have : y = 0 := by simpa using h
    subst this
    rw [Nat.gcd_zero_right] at hg
    subst hg
    generalize hx : Nat.gcd a.natAbs b.natAbs = g at *
    have m1 : ∀ c : Int, c.natAbs < 2 ^ 8000 → ∀ s : Int, s.natAbs < 2 ^ 8000 → binD .mul (.int s) (.int c) = some (.d (.int (s * c))) := fun c h s h2 => mulS h2 h (by decide)
    have s0 : 1 < 2 ^ 8000 := Nat.one_lt_two_pow (by decide)
    have s1 : (1 : Int).natAbs < 2 ^ 8000 := s0
    have s2 : (-1 : Int).natAbs < 2 ^ 8000 := s0
    by_cases hp : 0 < b
    · walk_at "ew"
      refine ⟨_, gt_is _ _, ?_⟩
      rw [decide_eq_true hp]
      walk_at "ew"
      refine ⟨_, m1 a ha 1 s1, ?_⟩
      walk_at "ew"
      refine ⟨_, fdivD (by omega) hl, ?_⟩
      walk_at "ew"
      refine ⟨_, m1 b hb2 1 s1, ?_⟩
      walk_at "ew"
      refine ⟨_, fdivD (by omega) hl, ?_⟩
      walk_at "ew"
      refine ⟨show (2 : Nat) ≤ lim from by decide, ?_⟩
      walk_at "ew"
      refine .inl ?_
      rw [fq_divInt hp, hx, Int.one_mul, Int.one_mul]
      rfl
    · walk_at "ew"
      refine ⟨_, gt_is _ _, ?_⟩
      rw [decide_eq_false hp]
      walk_at "ew"
      refine ⟨_, m1 a ha (-1) s2, ?_⟩
      walk_at "ew"
      refine ⟨_, fdivD (by omega) hl, ?_⟩
      walk_at "ew"
      refine ⟨_, m1 b hb2 (-1) s2, ?_⟩
      walk_at "ew"
      refine ⟨_, fdivD (by omega) hl, ?_⟩
      walk_at "ew"
      refine ⟨show (2 : Nat) ≤ lim from by decide, ?_⟩
      walk_at "ew"
      refine .inl ?_
      have e : Rat.divInt a b = Rat.divInt (-a) (-b) := by rw [Rat.neg_divInt_neg]
      rw [e, fq_divInt (by omega), Int.natAbs_neg, Int.natAbs_neg, hx, Int.neg_one_mul, Int.neg_one_mul]
      rfl
  · have h : y ≠ 0 := by
      intro e
      subst e
      simp at h
    walk_at "ew"
    refine ⟨_, modD (by omega), ?_⟩
    walk_at "ew"
    refine ⟨.inl rfl, mu y (x % y), ?_, y, x % y, rfl, ?_, rfl⟩
    · rw [← hm]
      exact mu_step h
    · rw [← hg, Nat.gcd_comm x y, Nat.gcd_rec y x, Nat.gcd_comm]
end
end PV
end

section
set_option Elab.async false
set_option linter.all false
set_option maxRecDepth 100000
set_option maxHeartbeats 2000000
set_option autoImplicit false
/-! ML0: bodies of functions, the called ones as parameters (printed by genbody.py) -/
namespace PV
open PySem
def NR (z : Option W) : Prop := ∀ xs, z ≠ some (.r xs)
theorem NR.n : NR none := fun _ z => nomatch z
theorem NR.d (x : D) : NR (some (.d x)) := fun _ z => nomatch z
theorem NR.o (x : List D) : NR (some (.o x)) := fun _ z => nomatch z
theorem put_nr {E : DE} {i : Nat} {z : Option W} {w : W} (h : E[i]? = some z) (hz : NR z) : put E i w = some (E.set i (some w)) := by
  unfold put
  rw [h]
  cases z with
  | none => rfl
  | some w => cases w <;> first | rfl | exact absurd rfl (hz _)
/-- add: 0 one, 1 late -/
def b_add (i_reduced : Nat) : CSs := (.cons (.ret (.call i_reduced (.cons (.bin .add (.bin .mul (.idx (.var 0) (.cst (.int 0))) (.idx (.var 1) (.cst (.int 1)))) (.bin .mul (.idx (.var 1) (.cst (.int 0))) (.idx (.var 0) (.cst (.int 1))))) (.cons (.bin .mul (.idx (.var 0) (.cst (.int 1))) (.idx (.var 1) (.cst (.int 1)))) .nil)) [0, 1]))
 .nil)
/-- take: 0 one, 1 late -/
def b_take (i_reduced : Nat) : CSs := (.cons (.ret (.call i_reduced (.cons (.bin .sub (.bin .mul (.idx (.var 0) (.cst (.int 0))) (.idx (.var 1) (.cst (.int 1)))) (.bin .mul (.idx (.var 1) (.cst (.int 0))) (.idx (.var 0) (.cst (.int 1))))) (.cons (.bin .mul (.idx (.var 0) (.cst (.int 1))) (.idx (.var 1) (.cst (.int 1)))) .nil)) [0, 1]))
 .nil)
/-- divide: 0 one, 1 late -/
def b_divide (i_reduced : Nat) : CSs := (.cons (.ret (.call i_reduced (.cons (.bin .mul (.idx (.var 0) (.cst (.int 0))) (.idx (.var 1) (.cst (.int 1)))) (.cons (.bin .mul (.idx (.var 0) (.cst (.int 1))) (.idx (.var 1) (.cst (.int 0)))) .nil)) [0, 1]))
 .nil)
/-- total: 0 some, 1 found, 2 one -/
def b_total (i_add : Nat) : CSs := (.cons (.set 1 (.cst (.tuple [(.int 0), (.int 1)])))
 (.cons (.fr (.v 2) (.seq (.var 0))
 (.cons (.set 1 (.call i_add (.cons (.var 1) (.cons (.var 2) .nil)) [0, 1]))
 .nil))
 (.cons (.ret (.var 1))
 .nil)))
/-- products_sum: 0 some, 1 others, 2 one, 3 late -/
def b_products_sum (i_total i_multiply : Nat) : CSs := (.cons (.ret (.call i_total (.cons (.comp [2, 3] (.t (.cons (.v 2) (.cons (.v 3) .nil))) (.zip (.var 0) (.var 1)) .no (.call i_multiply (.cons (.var 2) (.cons (.var 3) .nil)) [0, 1])) .nil) [0]))
 .nil)
/-- is_fraction_of: 0 value -/
def b_is_fraction_of (i_is_integer i_divisor : Nat) : CSs := (.cons (.ifs (.or (.not (.isi [.tuple] (.var 0))) (.or (.cmp .ne (.bi1 .len (.var 0)) (.cst (.int 2))) (.or (.not (.call i_is_integer (.cons (.idx (.var 0) (.cst (.int 0))) .nil) [0])) (.not (.call i_is_integer (.cons (.idx (.var 0) (.cst (.int 1))) .nil) [0])))))
 (.cons (.ret (.cst (.bool false)))
 .nil)
 .nil)
 (.cons (.ret (.and (.cmp .ge (.idx (.var 0) (.cst (.int 1))) (.cst (.int 1))) (.cmp .eq (.call i_divisor (.cons (.bi1 .abs (.idx (.var 0) (.cst (.int 0)))) (.cons (.idx (.var 0) (.cst (.int 1))) .nil)) [0, 1]) (.cst (.int 1)))))
 .nil))
/-- is_short: 0 value -/
def b_is_short (i_is_fraction_of : Nat) : CSs := (.cons (.ret (.and (.call i_is_fraction_of (.cons (.var 0) .nil) [0]) (.and (.cmp .lt (.bi1 .abs (.idx (.var 0) (.cst (.int 0)))) (.cst (.int 1000000000000))) (.cmp .lt (.idx (.var 0) (.cst (.int 1))) (.cst (.int 1000000000000))))))
 .nil)
/-- is_integer: 0 value -/
def b_is_integer : CSs := (.cons (.ret (.and (.isi [.int] (.var 0)) (.not (.isi [.bool] (.var 0)))))
 .nil)
/-- is_within: 0 value, 1 least, 2 most -/
def b_is_within (i_is_integer : Nat) : CSs := (.cons (.ret (.and (.call i_is_integer (.cons (.var 0) .nil) [0]) (.chn .le .le (.var 1) (.var 0) (.var 2))))
 .nil)
/-- is_list: 0 value -/
def b_is_list : CSs := (.cons (.ret (.isi [.list, .tuple] (.var 0)))
 .nil)
/-- _law_divisor: 0 one, 1 other -/
def b_law_divisor : CSs := (.cons (.par [0, 1] (.cons (.bi1 .abs (.var 0)) (.cons (.bi1 .abs (.var 1)) .nil)))
 (.cons (.wh (.cmp .ne (.var 1) (.cst (.int 0)))
 (.cons (.par [0, 1] (.cons (.var 1) (.cons (.bin .sub (.var 0) (.bin .mul (.bin .fdiv (.var 0) (.var 1)) (.var 1))) .nil)))
 .nil))
 (.cons (.ret (.var 0))
 .nil)))
/-- _law_fraction: 0 top, 1 bottom, 2 part -/
def b_law_fraction (i_law_divisor : Nat) : CSs := (.cons (.set 2 (.ite (.cmp .gt (.var 1) (.cst (.int 0))) (.call i_law_divisor (.cons (.var 0) (.cons (.var 1) .nil)) [0, 1]) (.bin .sub (.cst (.int 0)) (.call i_law_divisor (.cons (.var 0) (.cons (.var 1) .nil)) [0, 1]))))
 (.cons (.ret (.tup (.cons (.bin .fdiv (.var 0) (.var 2)) (.cons (.bin .fdiv (.var 1) (.var 2)) .nil))))
 .nil))
/-- _law_total: 0 some, 1 found, 2 one -/
def b_law_total (i_law_plus : Nat) : CSs := (.cons (.set 1 (.tup (.cons (.cst (.int 0)) (.cons (.cst (.int 1)) .nil))))
 (.cons (.fr (.v 2) (.seq (.var 0))
 (.cons (.set 1 (.call i_law_plus (.cons (.var 1) (.cons (.var 2) .nil)) [0, 1]))
 .nil))
 (.cons (.ret (.var 1))
 .nil)))
end PV
end

section
set_option Elab.async false
set_option linter.all false
set_option maxRecDepth 100000
set_option maxHeartbeats 2000000
set_option autoImplicit false
/-! ML1: sums, differences, quotients of fractions, totals -/
namespace PV
open PySem
/-! ### plain sums -/
def tot : List Rat → Rat
  | [] => 0
  | q :: qs => q + tot qs
theorem tot_append (xs ys : List Rat) : tot (xs ++ ys) = tot xs + tot ys := by
  induction xs with
  | nil => exact (Rat.zero_add _).symm
  | cons x xs ih => show x + tot (xs ++ ys) = x + tot xs + tot ys; rw [ih, Rat.add_assoc]
theorem tot_one (q : Rat) : tot [q] = q := Rat.add_zero q
theorem tot_perm {xs ys : List Rat} (h : xs.Perm ys) : tot xs = tot ys := by
  induction h with
  | nil => rfl
  | cons x _ ih => show x + _ = x + _; rw [ih]
  | swap x y l => show y + (x + tot l) = x + (y + tot l); rw [← Rat.add_assoc, ← Rat.add_assoc, Rat.add_comm y x]
  | trans _ _ h1 h2 => rw [h1, h2]
theorem tot_flat (xss : List (List Rat)) : tot xss.flatten = tot (xss.map tot) := by
  induction xss with
  | nil => rfl
  | cons xs xss ih => rw [List.flatten_cons, tot_append, ih]; rfl
theorem tot_mul (c : Rat) (xs : List Rat) : tot (xs.map (c * ·)) = c * tot xs := by
  induction xs with
  | nil => exact (Rat.mul_zero c).symm
  | cons x xs ih => show c * x + tot (xs.map (c * ·)) = c * (x + tot xs); rw [ih, Rat.mul_add]
theorem szq_zero : szq 0 1 := ⟨by decide, by decide⟩
theorem szq_tot {n : Nat} : ∀ (xs : List Rat), (∀ q ∈ xs, szq q n) → szq (tot xs) (xs.length * (n + 1) + 1)
  | [], _ => szq_mono szq_zero (Nat.le_add_left 1 _)
  | x :: xs, h => by
    have h1 := szq_add (h x (List.mem_cons_self ..)) (szq_tot xs fun q hq => h q (List.mem_cons_of_mem _ hq))
    refine szq_mono h1 ?_
    rw [List.length_cons, Nat.succ_mul]
    omega
/-! ### two fractions -/
theorem num_gt {q : Rat} (h : 0 < q) : 0 < q.num := by
  have := (Rat.lt_iff 0 q).mp h
  simpa using this
theorem gt_num {q : Rat} (h : 0 < q.num) : 0 < q := by
  refine (Rat.lt_iff 0 q).mpr ?_
  simpa using h
theorem den_gt (p q : Rat) : 0 < ((p.den : Int) * (q.den : Int)) := by
  have := Nat.mul_pos p.den_pos q.den_pos
  have e : ((p.den : Int) * (q.den : Int)) = ((p.den * q.den : Nat) : Int) := rfl
  rw [e]; omega
theorem den_ne (p q : Rat) : ((p.den : Int) * (q.den : Int)) ≠ 0 := by
  have := Nat.mul_pos p.den_pos q.den_pos
  have e : ((p.den : Int) * (q.den : Int)) = ((p.den * q.den : Nat) : Int) := rfl
  rw [e]; omega
theorem add_eq (p q : Rat) : p + q = Rat.divInt (p.num * q.den + q.num * p.den) ((p.den : Int) * (q.den : Int)) := by
  rw [Rat.add_def', ← Rat.divInt_ofNat]; rfl
theorem sub_eq (p q : Rat) : p - q = Rat.divInt (p.num * q.den - q.num * p.den) ((p.den : Int) * (q.den : Int)) := by
  rw [Rat.sub_def', ← Rat.divInt_ofNat]; rfl
theorem div_eq (p q : Rat) : p / q = Rat.divInt (p.num * q.den) ((p.den : Int) * q.num) := by
  rw [Rat.div_def, Rat.inv_def]
  conv => lhs; rw [← Rat.num_divInt_den p]
  rw [Rat.divInt_mul_divInt]
section
variable {F : Fn}
/-- what reduced promises, the bottom above 0 -/
def RedP (F : Fn) (k : Nat) : Prop := ∀ a b : Int, 0 < b → a.natAbs < 2 ^ 8000 → b.natAbs < 2 ^ 8000 → F k none [.int a, .int b] = some (.d (fq (Rat.divInt a b)), none)
theorem RedS.p {k : Nat} (h : RedS F k) : RedP F k := fun a b hb h1 h2 => h a b (by omega) h1 h2
def AddS (F : Fn) (k : Nat) : Prop := ∀ p q : Rat, szq p 3900 → szq q 3900 → F k none [fq p, fq q] = some (.d (fq (p + q)), none)
def SubS (F : Fn) (k : Nat) : Prop := ∀ p q : Rat, szq p 3900 → szq q 3900 → F k none [fq p, fq q] = some (.d (fq (p - q)), none)
def QuoS (F : Fn) (k : Nat) : Prop := ∀ p q : Rat, szq p 3900 → szq q 3900 → 0 < q → F k none [fq p, fq q] = some (.d (fq (p / q)), none)
theorem num_lt {p : Rat} {n : Nat} (h : szq p n) : p.num.natAbs < 2 ^ n := h.1
theorem den_lt {p : Rat} {n : Nat} (h : szq p n) : ((p.den : Nat) : Int).natAbs < 2 ^ n := h.2
theorem sum_lt {a b : Int} {n : Nat} (h : a.natAbs < 2 ^ n) (g : b.natAbs < 2 ^ n) : (a + b).natAbs < 2 ^ (n + 1) := by
  rw [Nat.pow_succ]
  have := Int.natAbs_add_le a b
  omega
theorem dif_lt {a b : Int} {n : Nat} (h : a.natAbs < 2 ^ n) (g : b.natAbs < 2 ^ n) : (a - b).natAbs < 2 ^ (n + 1) := by
  rw [Nat.pow_succ]
  have := Int.natAbs_sub_le a b
  omega
theorem up {a : Int} {n m : Nat} (h : a.natAbs < 2 ^ n) (hm : n ≤ m) : a.natAbs < 2 ^ m := Nat.lt_of_lt_of_le h (Nat.pow_le_pow_right (by omega) hm)
theorem add_ok {k : Nat} (hr : RedP F k) {p q : Rat} (hp : szq p 3900) (hq : szq q 3900) : fin none (PV.execs F (b_add k) [some (.d (fq p)), some (.d (fq q))]) = some (.d (fq (p + q)), none) := by
  have m1 := natAbs_mul_lt (num_lt hp) (den_lt hq) (show 3900 + 3900 = 7800 from rfl)
  have m2 := natAbs_mul_lt (num_lt hq) (den_lt hp) (show 3900 + 3900 = 7800 from rfl)
  have m3 := natAbs_mul_lt (den_lt hp) (den_lt hq) (show 3900 + 3900 = 7800 from rfl)
  have hc := hr (p.num * q.den + q.num * p.den) ((p.den : Int) * (q.den : Int)) (den_gt p q) (up (sum_lt m1 m2) (by decide)) (up m3 (by decide))
  rw [← add_eq] at hc
  apply fin_of
  unfold b_add
  generalize hw : W.d (fq (p + q)) = w at *
  have dp := den_lt hp
  have dq := den_lt hq
  have np := num_lt hp
  have nq := num_lt hq
  unfold fq at *
  walk_at "ew"
  refine ⟨_, mulS np dq (by decide), ?_⟩
  walk_at "ew"
  refine ⟨_, mulS nq dp (by decide), ?_⟩
  walk_at "ew"
  refine ⟨_, mulS dp dq (by decide), ?_⟩
  walk_at "ew"
  refine ⟨_, hc, ?_⟩
  walk_at "ew"
  first | exact .inl rfl | (rw [← hw]; exact .inl rfl)
theorem sub_ok {k : Nat} (hr : RedP F k) {p q : Rat} (hp : szq p 3900) (hq : szq q 3900) : fin none (PV.execs F (b_take k) [some (.d (fq p)), some (.d (fq q))]) = some (.d (fq (p - q)), none) := by
  have m1 := natAbs_mul_lt (num_lt hp) (den_lt hq) (show 3900 + 3900 = 7800 from rfl)
  have m2 := natAbs_mul_lt (num_lt hq) (den_lt hp) (show 3900 + 3900 = 7800 from rfl)
  have m3 := natAbs_mul_lt (den_lt hp) (den_lt hq) (show 3900 + 3900 = 7800 from rfl)
  have hc := hr (p.num * q.den - q.num * p.den) ((p.den : Int) * (q.den : Int)) (den_gt p q) (up (dif_lt m1 m2) (by decide)) (up m3 (by decide))
  rw [← sub_eq] at hc
  apply fin_of
  unfold b_take
  generalize hw : W.d (fq (p - q)) = w at *
  have dp := den_lt hp
  have dq := den_lt hq
  have np := num_lt hp
  have nq := num_lt hq
  unfold fq at *
  walk_at "ew"
  refine ⟨_, mulS np dq (by decide), ?_⟩
  walk_at "ew"
  refine ⟨_, mulS nq dp (by decide), ?_⟩
  walk_at "ew"
  refine ⟨_, mulS dp dq (by decide), ?_⟩
  walk_at "ew"
  refine ⟨_, hc, ?_⟩
  walk_at "ew"
  first | exact .inl rfl | (rw [← hw]; exact .inl rfl)
theorem quo_ok {k : Nat} (hr : RedP F k) {p q : Rat} (hp : szq p 3900) (hq : szq q 3900) (h0 : 0 < q) : fin none (PV.execs F (b_divide k) [some (.d (fq p)), some (.d (fq q))]) = some (.d (fq (p / q)), none) := by
  have m1 := natAbs_mul_lt (num_lt hp) (den_lt hq) (show 3900 + 3900 = 7800 from rfl)
  have m3 := natAbs_mul_lt (den_lt hp) (num_lt hq) (show 3900 + 3900 = 7800 from rfl)
  have hn : 0 < q.num := num_gt h0
  have hd : 0 < (p.den : Int) := by have := p.den_pos; omega
  have hc := hr (p.num * q.den) ((p.den : Int) * q.num) (Int.mul_pos hd hn) (up m1 (by decide)) (up m3 (by decide))
  rw [← div_eq p q] at hc
  apply fin_of
  unfold b_divide
  generalize hw : W.d (fq (p / q)) = w at *
  have dp := den_lt hp
  have dq := den_lt hq
  have np := num_lt hp
  have nq := num_lt hq
  unfold fq at *
  walk_at "ew"
  refine ⟨_, mulS np dq (by decide), ?_⟩
  walk_at "ew"
  refine ⟨_, mulS dp nq (by decide), ?_⟩
  walk_at "ew"
  refine ⟨_, hc, ?_⟩
  walk_at "ew"
  first | exact .inl rfl | (rw [← hw]; exact .inl rfl)
theorem mulP_ok {k : Nat} (hr : RedP F k) {p q : Rat} (hp : szq p 3900) (hq : szq q 3900) : fin none (PV.execs F (mulB k) [some (.d (fq p)), some (.d (fq q))]) = some (.d (fq (p * q)), none) := by
  have m1 := natAbs_mul_lt (num_lt hp) (num_lt hq) (show 3900 + 3900 = 7800 from rfl)
  have m3 := natAbs_mul_lt (den_lt hp) (den_lt hq) (show 3900 + 3900 = 7800 from rfl)
  have hc := hr (p.num * q.num) ((p.den : Int) * (q.den : Int)) (den_gt p q) (up m1 (by decide)) (up m3 (by decide))
  rw [← mul_eq] at hc
  apply fin_of
  unfold mulB
  generalize hw : W.d (fq (p * q)) = w at *
  have dp := den_lt hp
  have dq := den_lt hq
  have np := num_lt hp
  have nq := num_lt hq
  unfold fq at *
  walk_at "ew"
  refine ⟨_, mulS np nq (by decide), ?_⟩
  walk_at "ew"
  refine ⟨_, mulS dp dq (by decide), ?_⟩
  walk_at "ew"
  refine ⟨_, hc, ?_⟩
  walk_at "ew"
  first | exact .inl rfl | (rw [← hw]; exact .inl rfl)
def MulP (F : Fn) (k : Nat) : Prop := ∀ p q : Rat, szq p 3900 → szq q 3900 → F k none [fq p, fq q] = some (.d (fq (p * q)), none)
/-! ### totals -/
def TotS (F : Fn) (k : Nat) : Prop := ∀ (qs : List Rat) (d : D), seqD d = some (qs.map fq) → (∀ q ∈ qs, szq q 250) → qs.length ≤ 15 → F k none [d] = some (.d (fq (tot qs)), none)
theorem tot_loop {k : Nat} (ha : AddS F k) {qs : List Rat} {d : D} (hd : seqD d = some (qs.map fq)) (hz : ∀ q ∈ qs, szq q 250) (hl : qs.length ≤ 15) :
    WSs F (.cons (.fr (.v 2) (.seq (.var 0)) (.cons (.set 1 (.call k (.cons (.var 1) (.cons (.var 2) .nil)) [0, 1])) .nil)) (.cons (.ret (.var 1)) .nil)) [some (.d d), some (.d (fq 0)), none]
      fun f _ => f = .rt (.d (fq (tot qs))) ∨ (f = .nx ∧ W.d (fq (tot qs)) = .d .none) := by
  refine WSs.cons (WS.fr (fun i E => ∃ z, NR z ∧ E = [some (.d d), some (.d (fq (tot (qs.take i)))), z]) ?_)
  refine WI.seq (WE.var rfl ⟨_, hd, by rw [List.length_map]; unfold lim; omega, ?_⟩)
  refine ⟨⟨none, .n, rfl⟩, ?_, ?_⟩
  · rintro i x E hx ⟨z, gz, rfl⟩
    rw [List.getElem?_map] at hx
    obtain ⟨q, hq, rfl⟩ := Option.map_eq_some_iff.mp hx
    have hi := (List.getElem?_eq_some_iff.mp hq).1
    have ht : tot (qs.take (i + 1)) = tot (qs.take i) + q := by
      rw [List.take_add_one, hq, tot_append]
      show _ + tot [q] = _
      rw [tot_one]
    have hs : szq (tot (qs.take i)) 3900 := by
      refine szq_mono (szq_tot (n := 250) _ fun q hq => hz q (List.mem_of_mem_take hq)) ?_
      rw [List.length_take, Nat.min_eq_left (by omega)]
      omega
    have hc := ha (tot (qs.take i)) q hs (szq_mono (hz q (List.mem_of_getElem? hq)) (by decide))
    rw [← ht] at hc
    refine ⟨[some (.d d), some (.d (fq (tot (qs.take i)))), some (.d (fq q))], put_nr rfl gz, ?_⟩
    refine WSs.cons (WS.set (WE.call (WL.cons (WE.var rfl (WL.cons (WE.var rfl (WL.nil ⟨_, rfl, _, hc, ?_⟩)))))))
    exact ⟨_, rfl, nx_c (WSs.nil ⟨.inl rfl, _, .d _, rfl⟩)⟩
  · rintro E ⟨z, gz, rfl⟩
    rw [List.length_map, List.take_length]
    exact nx_c (WSs.cons (WS.retD rfl (rt_c (.inl rfl))))
theorem total_ok {k : Nat} (ha : AddS F k) {qs : List Rat} {d : D} (hd : seqD d = some (qs.map fq)) (hz : ∀ q ∈ qs, szq q 250) (hl : qs.length ≤ 15) :
    fin none (PV.execs F (b_total k) [some (.d d), none, none]) = some (.d (fq (tot qs)), none) := by
  apply fin_of
  unfold b_total
  refine WSs.cons (WS.set (WE.cst ⟨_, rfl, nx_c ?_⟩))
  exact tot_loop ha hd hz hl
theorem ltotal_ok {k : Nat} (ha : AddS F k) {qs : List Rat} {d : D} (hd : seqD d = some (qs.map fq)) (hz : ∀ q ∈ qs, szq q 250) (hl : qs.length ≤ 15) :
    fin none (PV.execs F (b_law_total k) [some (.d d), none, none]) = some (.d (fq (tot qs)), none) := by
  apply fin_of
  unfold b_law_total
  refine WSs.cons (WS.set (WE.tup (WL.cons (WE.cst (WL.cons (WE.cst (WL.nil ⟨show (2 : Nat) ≤ lim from by decide, ?_⟩)))))))
  refine ⟨_, rfl, nx_c ?_⟩
  exact tot_loop ha hd hz hl
end
end PV
end

section
set_option Elab.async false
set_option linter.all false
set_option maxRecDepth 100000
set_option maxHeartbeats 2000000
set_option autoImplicit false
/-! ML2: products' sums, the laws' own divisor and fraction, what is a fraction -/
namespace PV
open PySem
section
variable {F : Fn}
/-! ### products -/
def PsmS (F : Fn) (k : Nat) : Prop := ∀ (ps qs : List Rat) (d1 d2 : D), seqD d1 = some (ps.map fq) → seqD d2 = some (qs.map fq) → (∀ p ∈ ps, szq p 100) → (∀ q ∈ qs, szq q 100) → ps.length ≤ 15 → qs.length ≤ 15 → F k none [d1, d2] = some (.d (fq (tot (List.zipWith (· * ·) ps qs))), none)
theorem zipD_map {α β : Type} (f : α → D) (g : β → D) : ∀ (xs : List α) (ys : List β), zipD (xs.map f) (ys.map g) = (List.zip xs ys).map fun p => .tuple [f p.1, g p.2]
  | [], _ => by simp [zipD]
  | _ :: _, [] => by simp [zipD]
  | x :: xs, y :: ys => by
    have := zipD_map f g xs ys
    simp only [zipD] at this
    simp [zipD, this]
theorem zw_eq {α β γ : Type} (f : α → β → γ) : ∀ (xs : List α) (ys : List β), List.zipWith f xs ys = (List.zip xs ys).map fun p => f p.1 p.2
  | [], _ => by simp
  | _ :: _, [] => by simp
  | x :: xs, y :: ys => by
    have := zw_eq f xs ys
    simp [this]
theorem mem_zip_l {α β : Type} {xs : List α} {ys : List β} {p : α × β} (h : p ∈ List.zip xs ys) : p.1 ∈ xs ∧ p.2 ∈ ys := by
  obtain ⟨a, b⟩ := p
  exact ⟨(List.of_mem_zip h).1, (List.of_mem_zip h).2⟩
theorem psm_ok {kt km : Nat} (ht : TotS F kt) (hm : MulP F km) {ps qs : List Rat} {d1 d2 : D} (h1 : seqD d1 = some (ps.map fq)) (h2 : seqD d2 = some (qs.map fq)) (z1 : ∀ p ∈ ps, szq p 100) (z2 : ∀ q ∈ qs, szq q 100) (l1 : ps.length ≤ 15) (l2 : qs.length ≤ 15) :
    fin none (PV.execs F (b_products_sum kt km) [some (.d d1), some (.d d2), none, none]) = some (.d (fq (tot (List.zipWith (· * ·) ps qs))), none) := by
  apply fin_of
  unfold b_products_sum
  refine WSs.cons (WS.ret (WE.call (WL.cons ?_)))
  refine WE.comp (List.zip ps qs) (fun p => .tuple [fq p.1, fq p.2]) (fun _ => true) (fun p => fq (p.1 * p.2)) ?_
  refine WI.zip (WE.var rfl (WE.var rfl ⟨_, _, show zip2 d1 d2 = some (ps.map fq, qs.map fq) by unfold zip2; rw [h1, h2]; rfl, ⟨by rw [List.length_map]; unfold lim; omega, by rw [List.length_map]; unfold lim; omega⟩, zipD_map _ _ _ _, ?_, ?_⟩))
  · intro p hp
    obtain ⟨m1, m2⟩ := mem_zip_l hp
    have hc := hm p.1 p.2 (szq_mono (z1 _ m1) (by decide)) (szq_mono (z2 _ m2) (by decide))
    refine ⟨[some (.d d1), some (.d d2), some (.d (fq p.1)), some (.d (fq p.2))], rfl, WC.no ⟨rfl, fun _ => ?_, fun z => nomatch z⟩⟩
    refine WE.call (WL.cons (WE.var rfl (WL.cons (WE.var rfl (WL.nil ⟨_, rfl, _, hc, rfl, rfl⟩)))))
  rw [List.filter_eq_self.mpr fun _ _ => rfl]
  have e : (List.zip ps qs).map (fun p => fq (p.1 * p.2)) = (List.zipWith (· * ·) ps qs).map fq := by
    rw [zw_eq, List.map_map]; rfl
  rw [e]
  have hl : (List.zipWith (· * ·) ps qs).length ≤ 15 := by rw [List.length_zipWith]; omega
  have hz : ∀ q ∈ List.zipWith (· * ·) ps qs, szq q 250 := fun q hq => by
    rw [zw_eq] at hq
    obtain ⟨p, hp, rfl⟩ := List.mem_map.mp hq
    obtain ⟨m1, m2⟩ := mem_zip_l hp
    exact szq_mono (szq_mul (z1 _ m1) (z2 _ m2)) (by decide)
  exact WL.nil ⟨_, rfl, _, ht _ _ rfl hz hl, rt_c (.inl rfl)⟩
/-! ### the laws' own divisor -/
def GcdS (F : Fn) (k : Nat) : Prop := ∀ a b : Int, a.natAbs < 2 ^ 8000 → b.natAbs < 2 ^ 8000 → F k none [.int a, .int b] = some (.d (.int (Nat.gcd a.natAbs b.natAbs : Nat)), none)
theorem gcd_ok {a b : Int} (ha : a.natAbs < 2 ^ 8000) (hb : b.natAbs < 2 ^ 8000) : fin none (PV.execs F b_law_divisor [some (.d (.int a)), some (.d (.int b))]) = some (.d (.int (Nat.gcd a.natAbs b.natAbs : Nat)), none) := by
  apply fin_of
  unfold b_law_divisor
  refine WSs.cons (WS.par (WW.cons (WE.bi1 (WO.var rfl ⟨.d (.int (a.natAbs : Nat)), by rw [← abs_if]; rfl, WW.cons (WE.bi1 (WO.var rfl ⟨.d (.int (b.natAbs : Nat)), by rw [← abs_if]; rfl, WW.nil ?_⟩))⟩))))
  refine ⟨[some (.d (.int (a.natAbs : Nat))), some (.d (.int (b.natAbs : Nat)))], rfl, nx_c ?_⟩
  refine WSs.cons (WS.wh (mu a.natAbs b.natAbs) (fun m E => ∃ x y : Nat, E = [some (.d (.int (x : Nat))), some (.d (.int (y : Nat)))] ∧ Nat.gcd x y = Nat.gcd a.natAbs b.natAbs ∧ mu x y = m ∧ x < 2 ^ 8000 ∧ y < 2 ^ 8000) (mu_lim ha hb (by decide)) ⟨_, _, rfl, rfl, rfl, ha, hb⟩ ?_)
  rintro m E ⟨x, y, rfl, hg, hm, hx, hy⟩
  refine WE.cmp (WO.var rfl (WO.of (WE.cst ⟨_, rfl, _, ne_is _ _, ?_⟩)))
  refine ⟨_, rfl, fun h => ?_, fun h => ?_⟩
  · have : y = 0 := by simpa using h
    subst this
    rw [Nat.gcd_zero_right] at hg
    rw [← hg]
    exact nx_c (WSs.cons (WS.retD rfl (rt_c (.inl rfl))))
  · have h : y ≠ 0 := by
      intro e
      subst e
      simp at h
    have hq : ((x : Int) / (y : Int)).natAbs < 2 ^ 8000 := by
      have : ((x : Int) / (y : Int)) = ((x / y : Nat) : Int) := rfl
      rw [this, Int.natAbs_natCast]
      exact Nat.lt_of_le_of_lt (Nat.div_le_self _ _) hx
    have hy2 : ((y : Nat) : Int).natAbs < 2 ^ 8000 := hy
    have hl : ((y : Nat) : Int).natAbs.log2 < 9000 := by
      have := log_le hy2
      omega
    have e : (x : Int) - (x : Int) / (y : Int) * (y : Int) = ((x % y : Nat) : Int) := by
      have := Int.mul_ediv_add_emod (x : Int) (y : Int)
      rw [Int.mul_comm] at this
      have e2 : ((x % y : Nat) : Int) = (x : Int) % (y : Int) := rfl
      omega
    refine WSs.cons (WS.par (WW.cons (WE.var rfl (WW.cons (WE.bin (WO.var rfl (WO.of (WE.bin (WO.of (WE.bin (WO.var rfl (WO.var rfl ⟨_, rfl, _, fdivD (by omega) hl, ?_⟩))))))))))))
    refine WO.var rfl ⟨_, rfl, _, mulS hq hy2 (by decide), ?_⟩
    refine ⟨_, rfl, _, rfl, WW.nil ?_⟩
    refine ⟨[some (.d (.int (y : Nat))), some (.d (.int ((x % y : Nat) : Int)))], by rw [← e]; rfl, nx_c (WSs.nil ⟨.inl rfl, mu y (x % y), ?_, y, x % y, rfl, ?_, rfl, hy, Nat.lt_of_le_of_lt (Nat.mod_le _ _) hx⟩)⟩
    · rw [← hm]
      exact mu_step h
    · rw [← hg, Nat.gcd_comm x y, Nat.gcd_rec y x, Nat.gcd_comm]
theorem frac_ok {k : Nat} (hd : GcdS F k) {a b : Int} (hb : 0 < b) (ha : a.natAbs < 2 ^ 8000) (hb2 : b.natAbs < 2 ^ 8000) : fin none (PV.execs F (b_law_fraction k) [some (.d (.int a)), some (.d (.int b)), none]) = some (.d (fq (Rat.divInt a b)), none) := by
  have g1 : Nat.gcd a.natAbs b.natAbs ≤ b.natAbs := Nat.gcd_le_right _ (by omega)
  have g0 : 0 < Nat.gcd a.natAbs b.natAbs := Nat.gcd_pos_of_pos_right _ (by omega)
  have hl : ((Nat.gcd a.natAbs b.natAbs : Nat) : Int).natAbs.log2 < 9000 := by
    have : ((Nat.gcd a.natAbs b.natAbs : Nat) : Int).natAbs < 2 ^ 8000 := by
      show Nat.gcd a.natAbs b.natAbs < _
      exact Nat.lt_of_le_of_lt g1 hb2
    have := log_le this
    omega
  have hc := hd a b ha hb2
  apply fin_of
  unfold b_law_fraction
  rw [fq_divInt hb]
  generalize Nat.gcd a.natAbs b.natAbs = g at *
  refine WSs.cons (WS.set (WE.ite (WE.cmp (WO.var rfl (WO.of (WE.cst ⟨_, rfl, _, gt_is _ _, ?_⟩))))))
  rw [decide_eq_true hb]
  refine ⟨_, rfl, fun _ => ?_, fun z => nomatch z⟩
  refine WE.call (WL.cons (WE.var rfl (WL.cons (WE.var rfl (WL.nil ⟨_, rfl, _, hc, ?_⟩)))))
  refine ⟨_, rfl, nx_c ?_⟩
  refine WSs.cons (WS.ret (WE.tup (WL.cons (WE.bin (WO.var rfl (WO.var rfl ⟨_, rfl, _, fdivD (by omega) hl, ?_⟩))))))
  refine WL.cons (WE.bin (WO.var rfl (WO.var rfl ⟨_, rfl, _, fdivD (by omega) hl, WL.nil ⟨show (2 : Nat) ≤ lim from by decide, ?_⟩⟩)))
  exact rt_c (.inl rfl)
end
end PV
end

section
set_option Elab.async false
set_option linter.all false
set_option maxRecDepth 100000
set_option maxHeartbeats 2000000
set_option autoImplicit false
/-! MT0: bodies of the trees' functions (printed by genbody.py) -/
namespace PV
open PySem
/-- times_of: 0 tree, 1 found, 2 parent -/
def b_times_of : CSs := (.cons (.set 1 (.lst (.cons (.cst (.int 0)) .nil)))
 (.cons (.fr (.v 2) (.seq (.slc (.var 0) (.yes (.cst (.int 1))) .no))
 (.cons (.app 1 (.bin .add (.idx (.var 1) (.var 2)) (.cst (.int 1))))
 .nil))
 (.cons (.ret (.var 1))
 .nil)))
/-- children_of: 0 tree, 1 node, 2 late, 3 parent -/
def b_children_of : CSs := (.cons (.ret (.comp [2, 3] (.t (.cons (.v 2) (.cons (.v 3) .nil))) (.enum (.var 0)) (.yes (.cmp .eq (.var 3) (.var 1))) (.var 2)))
 .nil)
/-- leaves_of: 0 tree, 1 node -/
def b_leaves_of : CSs := (.cons (.ret (.comp [1] (.v 1) (.rng (.cst (.int 0)) (.bi1 .len (.var 0))) (.yes (.cmp .notin (.var 1) (.var 0))) (.var 1)))
 .nil)
/-- inner_of: 0 tree, 1 node -/
def b_inner_of : CSs := (.cons (.ret (.comp [1] (.v 1) (.rng (.cst (.int 0)) (.bi1 .len (.var 0))) (.yes (.cmp .isin (.var 1) (.var 0))) (.var 1)))
 .nil)
/-- way_of: 0 tree, 1 node, 2 found -/
def b_way_of : CSs := (.cons (.set 2 (.tup (.cons (.var 1) .nil)))
 (.cons (.wh (.cmp .ge (.idx (.var 0) (.idx (.var 2) (.cst (.int 0)))) (.cst (.int 0)))
 (.cons (.set 2 (.bin .add (.tup (.cons (.idx (.var 0) (.idx (.var 2) (.cst (.int 0)))) .nil)) (.var 2)))
 .nil))
 (.cons (.ret (.var 2))
 .nil)))
/-- lot_by: 0 tree, 1 node, 2 leaf -/
def b_lot_by (i_leaves_of i_way_of : Nat) : CSs := (.cons (.ret (.bi1 .tuple (.comp [2] (.v 2) (.seq (.call i_leaves_of (.cons (.var 0) .nil) [0])) (.yes (.cmp .isin (.var 1) (.call i_way_of (.cons (.var 0) (.cons (.var 2) .nil)) [0, 1]))) (.var 2))))
 .nil)
/-- is_tree_of: 0 value, 1 times, 2 leaf, 3 node, 4 parent -/
def b_is_tree_of (i_is_list i_is_within i_times_of i_leaves_of : Nat) : CSs := (.cons (.ifs (.or (.not (.call i_is_list (.cons (.var 0) .nil) [0])) (.or (.not (.chn .le .le (.cst (.int 1)) (.bi1 .len (.var 0)) (.cst (.int 12)))) (.not (.call i_is_within (.cons (.idx (.var 0) (.cst (.int 0))) (.cons (.neg (.cst (.int 1))) (.cons (.neg (.cst (.int 1))) .nil))) [0, 1, 2]))))
 (.cons (.ret (.cst (.bool false)))
 .nil)
 .nil)
 (.cons (.ifs (.not (.bi1 .all (.comp [3, 4] (.t (.cons (.v 3) (.cons (.v 4) .nil))) (.enum (.slc (.var 0) (.yes (.cst (.int 1))) .no)) .no (.call i_is_within (.cons (.var 4) (.cons (.cst (.int 0)) (.cons (.var 3) .nil))) [0, 1, 2]))))
 (.cons (.ret (.cst (.bool false)))
 .nil)
 .nil)
 (.cons (.set 1 (.call i_times_of (.cons (.var 0) .nil) [0]))
 (.cons (.ret (.and (.cmp .le (.bi1 .maxl (.var 1)) (.cst (.int 3))) (.bi1 .all (.comp [2] (.v 2) (.seq (.call i_leaves_of (.cons (.var 0) .nil) [0])) .no (.cmp .eq (.idx (.var 1) (.var 2)) (.bi1 .maxl (.var 1)))))))
 .nil))))
/-- check_tree: 0 value -/
def b_check_tree (i_is_tree_of : Nat) : CSs := (.cons (.ifs (.not (.call i_is_tree_of (.cons (.var 0) .nil) [0]))
 (.cons .stuck
 .nil)
 .nil)
 .nil)
/-- check_node: 0 tree, 1 value -/
def b_check_node (i_is_within : Nat) : CSs := (.cons (.ifs (.not (.call i_is_within (.cons (.var 1) (.cons (.cst (.int 0)) (.cons (.bin .sub (.bi1 .len (.var 0)) (.cst (.int 1))) .nil))) [0, 1, 2]))
 (.cons .stuck
 .nil)
 .nil)
 .nil)
/-- _law_children: 0 tree, 1 node, 2 late -/
def b_law_children : CSs := (.cons (.ret (.comp [2] (.v 2) (.rng (.cst (.int 0)) (.bi1 .len (.var 0))) (.yes (.cmp .eq (.idx (.var 0) (.var 2)) (.var 1))) (.var 2)))
 .nil)
/-- _law_leaves: 0 tree, 1 node -/
def b_law_leaves (i_law_children : Nat) : CSs := (.cons (.ret (.comp [1] (.v 1) (.rng (.cst (.int 0)) (.bi1 .len (.var 0))) (.yes (.cmp .eq (.call i_law_children (.cons (.var 0) (.cons (.var 1) .nil)) [0, 1]) (.lst .nil))) (.var 1)))
 .nil)
/-- _law_inner: 0 tree, 1 node -/
def b_law_inner (i_law_children : Nat) : CSs := (.cons (.ret (.comp [1] (.v 1) (.rng (.cst (.int 0)) (.bi1 .len (.var 0))) (.yes (.cmp .ne (.call i_law_children (.cons (.var 0) (.cons (.var 1) .nil)) [0, 1]) (.lst .nil))) (.var 1)))
 .nil)
/-- _law_way: 0 tree, 1 node, 2 found -/
def b_law_way : CSs := (.cons (.set 2 (.lst (.cons (.var 1) .nil)))
 (.cons (.wh (.cmp .ne (.idx (.var 2) (.cst (.int 0))) (.cst (.int 0)))
 (.cons (.set 2 (.bin .add (.lst (.cons (.idx (.var 0) (.idx (.var 2) (.cst (.int 0)))) .nil)) (.var 2)))
 .nil))
 (.cons (.ret (.var 2))
 .nil)))
/-- _law_lot: 0 tree, 1 node, 2 leaf -/
def b_law_lot (i_law_leaves i_law_way : Nat) : CSs := (.cons (.ret (.comp [2] (.v 2) (.seq (.call i_law_leaves (.cons (.var 0) .nil) [0])) (.yes (.cmp .isin (.var 1) (.call i_law_way (.cons (.var 0) (.cons (.var 2) .nil)) [0, 1]))) (.var 2)))
 .nil)
end PV
end

section
set_option Elab.async false
set_option linter.all false
set_option maxRecDepth 100000
set_option maxHeartbeats 2000000
set_option autoImplicit false
/-! MT: the trees' functions, for any numbers of the called ones (made of K12f.lean by genmt.py) -/
namespace PV
open PySem TR
variable {F : Fn}
def td (ps : List Nat) : List D := .int (-1) :: ni ps
def TD (d : D) (ps : List Nat) : Prop := d = .list (td ps) ∨ d = .tuple (td ps)
theorem TD.seq {d : D} {ps : List Nat} (h : TD d ps) : seqD d = some (td ps) := by rcases h with rfl | rfl <;> rfl
theorem td_len (ps : List Nat) : (td ps).length = ps.length + 1 := by simp [td, ni_len]
theorem td_zero (ps : List Nat) : (td ps)[0]? = some (.int (-1)) := rfl
theorem td_succ (ps : List Nat) (i : Nat) : (td ps)[i + 1]? = ps[i]?.map fun (k : Nat) => PyData.int k := by
  show (ni ps)[i]? = _
  exact ni_get
theorem TD.len {d : D} {ps : List Nat} (h : TD d ps) : bi1D .len d = some (.d (.int ((ps.length : Int) + 1))) := by
  rcases h with rfl | rfl <;> (simp only [bi1D, td_len]; rfl)
theorem TD.idx {d x : D} {ps : List Nat} {i : Nat} (h : TD d ps) (hx : (td ps)[i]? = some x) : idxD d (.int (i : Int)) = some x := by
  rcases h with rfl | rfl <;> exact dAt_nat hx
theorem TD.idx0 {d : D} {ps : List Nat} (h : TD d ps) : idxD d (.int 0) = some (.int (-1)) := h.idx (i := 0) rfl
theorem TD.tail {d : D} {ps : List Nat} (h : TD d ps) : ∃ w, slcD d (some 1) none = some w ∧ seqD w.data = some (ni ps) := by
  have e : cutD (td ps) (some 1) none = ni ps := cut_from (td ps) 1
  rcases h with rfl | rfl
  · exact ⟨.o (ni ps), by simp only [slcD, e], rfl⟩
  · exact ⟨.d (.tuple (ni ps)), by simp only [slcD, e], rfl⟩
def times (ps : List Nat) : List Nat := (List.range (ps.length + 1)).map (depth ps)
theorem times_get {ps : List Nat} {i : Nat} (h : i ≤ ps.length) : (times ps)[i]? = some (depth ps i) := by
  simp [times, Nat.lt_succ_of_le h]
theorem times_take {ps : List Nat} (v : Valid ps) {i p : Nat} (h : ps[i]? = some p) : ((List.range (i + 1)).map (depth ps))[p]? = some (depth ps p) := by
  have := v i p h
  simp [Nat.lt_succ_of_le this]
theorem times_ok {d : D} {ps : List Nat} (h : TD d ps) (v : Valid ps) (hl : ps.length ≤ 1000) : fin none (PV.execs F b_times_of [some (.d d), none, none]) = some (.o (ni (times ps)), none) := by
  obtain ⟨w, hw1, hw2⟩ := h.tail
  apply fin_of
  unfold b_times_of
  walk_at "ew"
  refine ⟨by decide, ?_⟩
  walk_at "ew"
  refine WS.fr (fun k E => ∃ z, E = [some (.d d), some (.o (ni ((List.range (k + 1)).map (depth ps)))), z] ∧ ∀ xs, z ≠ some (.r xs)) ?_
  walk_at "ew"
  refine ⟨_, hw1, _, hw2, ?_, ⟨none, ?_, fun _ z => nomatch z⟩, ?_, ?_⟩
  · rw [ni_len]; exact Nat.le_trans hl (by decide)
  · simp [depth_zero]; rfl
  · rintro i x E hx ⟨z, rfl, hz⟩
    rw [ni_get] at hx
    obtain ⟨p, hp, rfl⟩ := Option.map_eq_some_iff.mp hx
    refine ⟨[some (.d d), some (.o (ni ((List.range (i + 1)).map (depth ps)))), some (.d (.int p))], ?_, ?_⟩
    · cases z with
      | none => rfl
      | some w => cases w <;> first | rfl | exact absurd rfl (hz _)
    walk_at "ew"
    refine ⟨_, dAt_nat (i := p) (d := .int (depth ps p : Nat)) (by rw [ni_get, times_take v hp]; rfl), ?_⟩
    walk_at "ew"
    have hil := (List.getElem?_eq_some_iff.mp hp).1
    refine ⟨?_, ?_⟩
    · rw [ni_len, List.length_map, List.length_range]; unfold lim; omega
    walk_at "ew"
    refine ⟨.inl rfl, some (.d (.int p)), ?_, fun _ z => nomatch z⟩
    have e : ni ((List.range (i + 1 + 1)).map (depth ps)) = ni ((List.range (i + 1)).map (depth ps)) ++ [.int ((depth ps p : Int) + 1)] := by
      rw [List.range_succ, List.map_append, ni_append]
      show _ ++ [PyData.int ((depth ps (i + 1) : Nat) : Int)] = _
      rw [depth_succ v hp]; rfl
    rw [e]; rfl
  · rintro E ⟨z, rfl, hz⟩
    walk_at "ew"
    exact .inl (by rw [ni_len]; rfl)
/-- the greatest of the times -/
def high (ps : List Nat) : Nat := (times ps).foldr max 0
theorem maxI_ni : ∀ (xs : List Nat), xs ≠ [] → maxI (xs.map fun (k : Nat) => (k : Int)) = some ((xs.foldr max 0 : Nat) : Int)
  | [], h => absurd rfl h
  | [x], _ => by simp [maxI]
  | x :: y :: r, _ => by
    have ih := maxI_ni (y :: r) (by simp)
    show (maxI ((y :: r).map fun (k : Nat) => (k : Int))).map (max (x : Int)) = _
    rw [ih]
    simp only [Option.map_some, List.foldr_cons]
    congr 1
    omega
theorem times_ne (ps : List Nat) : times ps ≠ [] := by simp [times]
theorem max_times (ps : List Nat) : bi1D .maxl (.list (ni (times ps))) = some (.d (.int (high ps))) := by
  simp only [bi1D, intsD_ni, Option.bind_some, maxI_ni _ (times_ne ps)]; rfl
/-- a node's parent -/
def par (ps : List Nat) : Nat → Option Nat
  | 0 => none
  | k + 1 => ps[k]?
/-- the k-th item -/
def pd : Option Nat → D
  | some q => .int (q : Nat)
  | none => .int (-1)
def tdAt (ps : List Nat) (k : Nat) : D := pd (par ps k)
theorem tdAt_get {ps : List Nat} {k : Nat} (h : k < ps.length + 1) : (td ps)[k]? = some (tdAt ps k) := by
  cases k with
  | zero => rfl
  | succ k =>
    rw [td_succ, List.getElem?_eq_getElem (by omega)]
    simp [tdAt, par, pd, List.getElem?_eq_getElem (show k < ps.length by omega)]
theorem eqD_int (i j : Int) : eqD (.int i) (.int j) = some (decide (i = j)) := by
  show (if SeqAt.shaped (.int i) && SeqAt.shaped (.int j) then some (PyData.eqv (.int i) (.int j)) else none) = _
  rw [if_pos (show (SeqAt.shaped (.int i) && SeqAt.shaped (.int j)) = true from rfl), eqv_int]
theorem pd_eq (o : Option Nat) (a : Nat) : cmpD .eq (pd o) (.int (a : Int)) = some (o == some a) := by
  cases o with
  | none =>
    show eqD (.int (-1)) (.int (a : Int)) = _
    rw [eqD_int, decide_eq_false (by omega)]; rfl
  | some q =>
    show eqD (.int (q : Int)) (.int (a : Int)) = _
    rw [eqD_int]
    congr 1
    rw [Bool.eq_iff_iff]
    simp only [decide_eq_true_eq, beq_iff_eq, Option.some.injEq]
    omega
theorem enum_td (ps : List Nat) : enumD (td ps) = (List.range (ps.length + 1)).map fun k => .tuple [.int (k : Nat), tdAt ps k] := by
  apply List.ext_getElem?
  intro i
  unfold enumD
  rw [List.getElem?_mapIdx, List.getElem?_map]
  by_cases h : i < ps.length + 1
  · rw [tdAt_get h, List.getElem?_range h]; rfl
  · rw [List.getElem?_eq_none (by rw [td_len]; omega), List.getElem?_eq_none (by simp; omega)]; rfl
theorem range_filter (m : Nat) (q : Nat → Bool) (h : q 0 = false) : (List.range (m + 1)).filter q = ((List.range m).filter fun k => q (k + 1)).map (· + 1) := by
  rw [List.range_succ_eq_map, List.filter_cons_of_neg (by rw [h]; exact Bool.false_ne_true), List.filter_map]
  rfl
/-- the children -/
theorem children_ok {d : D} {ps : List Nat} (h : TD d ps) (v : Valid ps) (hl : ps.length ≤ 1000) (a : Nat) : fin none (PV.execs F b_children_of [some (.d d), some (.d (.int (a : Int))), none, none]) = some (.o (ni (kids ps a)), none) := by
  apply fin_of
  unfold b_children_of
  walk_at "ew"
  refine WE.comp (List.range (ps.length + 1)) (fun k => .tuple [.int (k : Nat), tdAt ps k]) (fun k => par ps k == some a) (fun k => .int (k : Nat)) ?_
  walk_at "ew"
  refine ⟨_, h.seq, by rw [td_len]; exact Nat.le_trans (Nat.succ_le_succ hl) (by decide), enum_td ps, ?_, ?_⟩
  · intro k hk
    refine ⟨_, rfl, ?_⟩
    walk_at "ew"
    refine ⟨_, ⟨pd_eq (par ps k) a⟩, ?_⟩
    walk_at "ew"
    refine ⟨rfl, fun e => ?_, fun _ => rfl⟩
    walk_at "ew"
    exact ⟨rfl, rfl⟩
  · walk_at "ew"
    refine .inl ?_
    rw [range_filter _ _ rfl]
    unfold kids ni
    rw [List.map_map, List.map_map]
    rfl
theorem in_td (ps : List Nat) (k : Nat) : inD (.int (k : Int)) (td ps) = some (decide (k ∈ ps)) := by
  have h := inD_ni k ps
  unfold inD at h ⊢
  unfold td
  rw [List.all_cons, List.any_cons]
  rw [show isFlat (.int (-1)) = true from rfl, eqv_int, decide_eq_false (show ¬ ((-1 : Int) = (k : Int)) by omega)]
  simpa using h
theorem TD.notin {d : D} {ps : List Nat} (h : TD d ps) (k : Nat) : cmpD .notin (.int (k : Int)) d = some (!decide (k ∈ ps)) := by
  rcases h with rfl | rfl
  · show (inD (.int (k : Int)) (td ps)).map (!·) = _
    rw [in_td]; rfl
  · show (inD (.int (k : Int)) (td ps)).map (!·) = _
    rw [in_td]; rfl
theorem rng_len (ps : List Nat) : rngD 0 ((ps.length : Int) + 1) = (List.range (ps.length + 1)).map fun (k : Nat) => .int k := by
  have := rng0 (ps.length + 1)
  unfold ni at this
  rw [← this]; rfl
/-- the leaves -/
theorem leaves_ok {d : D} {ps : List Nat} (h : TD d ps) (hl : ps.length ≤ 1000) : fin none (PV.execs F b_leaves_of [some (.d d), none]) = some (.o (ni (leavesT ps)), none) := by
  apply fin_of
  unfold b_leaves_of
  walk_at "ew"
  refine WE.comp (List.range (ps.length + 1)) (fun (k : Nat) => .int k) (fun k => !decide (k ∈ ps)) (fun (k : Nat) => .int k) ?_
  walk_at "ew"
  refine ⟨_, h.len, ?_⟩
  refine ⟨0, _, rfl, rfl, ⟨by omega, by omega, by omega, by omega⟩, rng_len ps, ?_, ?_⟩
  · intro k hk
    refine ⟨_, rfl, ?_⟩
    walk_at "ew"
    refine ⟨_, ⟨h.notin k⟩, ?_⟩
    walk_at "ew"
    refine ⟨rfl, fun e => ?_, fun _ => rfl⟩
    walk_at "ew"
    exact ⟨rfl, rfl⟩
  · walk_at "ew"
    exact .inl rfl
/-- the way to a node -/
theorem head_way {ps : List Nat} (v : Valid ps) {a : Nat} (ha : a ≤ ps.length) : a = 0 ∨ ∃ p, par ps a = some p ∧ p < a ∧ way ps a = way ps p ++ [a] := by
  cases a with
  | zero => exact .inl rfl
  | succ a =>
    have hp : ps[a]? = some ps[a] := List.getElem?_eq_getElem (by omega)
    exact .inr ⟨ps[a], hp, Nat.lt_succ_of_le (v a _ hp), way_succ v hp⟩
theorem way_length_le {ps : List Nat} (v : Valid ps) (a : Nat) : (way ps a).length ≤ a + 1 := by
  have h := way_sorted v a
  have hb : ∀ x ∈ way ps a, x < a + 1 := fun x hx => Nat.lt_succ_of_le (mem_le v a hx)
  have nd := way_nodup v a
  have := (List.Nodup.length_le_of_subset nd (l₂ := List.range (a + 1)) fun x hx => List.mem_range.mpr (hb x hx))
  simpa using this
theorem pd_ge0 : cmpD .ge (pd none) (.int 0) = some false := rfl
theorem pd_geS (q : Nat) : cmpD .ge (pd (some q)) (.int 0) = some true := by
  show some (decide ((0 : Int) ≤ (q : Int))) = _
  rw [decide_eq_true (by omega)]
theorem t0 (m : Nat) (w : List Nat) : idxD (.tuple (ni (m :: w))) (.int 0) = some (.int (m : Nat)) := dAt_nat (i := 0) rfl
theorem way_ok {d : D} {ps : List Nat} (h : TD d ps) (v : Valid ps) (hl : ps.length ≤ 1000) {a : Nat} (ha : a ≤ ps.length) : fin none (PV.execs F b_way_of [some (.d d), some (.d (.int (a : Int))), none]) = some (.d (.tuple (ni (way ps a))), none) := by
  apply fin_of
  unfold b_way_of
  walk_at "ew"
  refine ⟨show (1 : Nat) ≤ lim from by decide, ?_⟩
  walk_at "ew"
  refine WS.wh a (fun m E => ∃ w, way ps a = way ps m ++ w ∧ m ≤ ps.length ∧ E = [some (.d d), some (.d (.int (a : Int))), some (.d (.tuple (ni (m :: w))))]) (by unfold lim; omega) ⟨[], by simp, ha, rfl⟩ ?_
  rintro m E ⟨w, hw, hm, rfl⟩
  walk_at "ew"
  refine ⟨_, t0 m w, ?_⟩
  walk_at "ew"
  refine ⟨_, h.idx (tdAt_get (Nat.lt_succ_of_le hm)), ?_⟩
  walk_at "ew"
  unfold tdAt
  have lw : (m :: w).length ≤ 1002 := by
    have h1 := way_length_le v a
    have h2 := way_len (ps := ps) m
    rw [hw, List.length_append] at h1
    simp
    omega
  rcases head_way v hm with rfl | ⟨p, hp, hpm, hwp⟩
  · refine ⟨_, ⟨pd_ge0⟩, ?_⟩
    walk_at "ew"
    refine .inl ?_
    rw [hw, way_zero]; rfl
  · rw [hp]
    refine ⟨_, ⟨pd_geS p⟩, ?_⟩
    walk_at "ew"
    refine ⟨_, t0 m w, ?_⟩
    walk_at "ew"
    refine ⟨_, h.idx (tdAt_get (Nat.lt_succ_of_le hm)), ?_⟩
    unfold tdAt
    rw [hp]
    walk_at "ew"
    refine ⟨show (1 : Nat) ≤ lim from by decide, ?_⟩
    walk_at "ew"
    have e : binD .add (.tuple [(W.d (pd (some p))).data]) (.tuple (ni (m :: w))) = some (.d (.tuple (ni (p :: m :: w)))) := by
      show mkT ([PyData.int (p : Nat)] ++ ni (m :: w)) = _
      unfold mkT
      rw [if_pos (by rw [List.length_append, ni_len]; unfold lim; simp at lw ⊢; omega)]; rfl
    refine ⟨_, e, ?_⟩
    walk_at "ew"
    refine ⟨.inl rfl, p, hpm, m :: w, ?_, by omega, rfl⟩
    rw [hw, hwp]; simp
/-- the lot of a node -/
theorem lot_ok {kl kw : Nat} {d : D} {ps : List Nat} (h : TD d ps) (v : Valid ps) (hl : ps.length ≤ 1000) (a : Nat) (h6 : F kl none [d] = some (.o (ni (leavesT ps)), none)) (h8 : ∀ b : Nat, b ≤ ps.length → F kw none [d, .int (b : Int)] = some (.d (.tuple (ni (way ps b))), none)) : fin none (PV.execs F (b_lot_by kl kw) [some (.d d), some (.d (.int (a : Int))), none]) = some (.d (.tuple (ni (lot ps a))), none) := by
  apply fin_of
  unfold b_lot_by
  walk_at "ew"
  refine WE.comp (leavesT ps) (fun (k : Nat) => .int k) (fun k => decide (a ∈ way ps k)) (fun (k : Nat) => .int k) ?_
  walk_at "ew"
  refine ⟨_, h6, _, rfl, ?_, rfl, ?_, ?_⟩
  · rw [ni_len]
    have : (leavesT ps).length ≤ (List.range (ps.length + 1)).length := List.length_filter_le ..
    rw [List.length_range] at this
    unfold lim; omega
  · intro k hk
    have hk' : k ≤ ps.length := by
      unfold leavesT at hk
      have := (List.mem_filter.mp hk).1
      simp at this; omega
    refine ⟨_, rfl, ?_⟩
    walk_at "ew"
    refine ⟨_, h8 k hk', ?_⟩
    walk_at "ew"
    have e : cmpD .isin (.int (a : Int)) (.tuple (ni (way ps k))) = some (decide (a ∈ way ps k)) := inD_ni a _
    refine ⟨_, ⟨e⟩, ?_⟩
    walk_at "ew"
    refine ⟨rfl, fun e => ?_, fun _ => rfl⟩
    walk_at "ew"
    exact ⟨rfl, rfl⟩
  · walk_at "ew"
    exact .inl rfl
theorem foldr_max : ∀ (xs : List Nat) (e : Nat), (∀ x ∈ xs, x ≤ e) → e ∈ xs → xs.foldr max 0 = e
  | [], e, _, h => by cases h
  | x :: xs, e, h, hm => by
    rw [List.foldr_cons]
    have hx := h x (by simp)
    have hb : ∀ ys : List Nat, (∀ y ∈ ys, y ≤ e) → ys.foldr max 0 ≤ e := fun ys => by
      induction ys with
      | nil => intro _; simp
      | cons y ys ih => intro g; rw [List.foldr_cons]; have := g y (by simp); have := ih (fun z hz => g z (by simp [hz])); omega
    have h1 := hb xs fun y hy => h y (by simp [hy])
    rcases List.mem_cons.mp hm with rfl | hm
    · omega
    · have := foldr_max xs e (fun y hy => h y (by simp [hy])) hm
      omega
theorem high_eq {ps : List Nat} {e : Nat} (g : Good ps e) : high ps = e := by
  unfold high
  refine foldr_max _ e (fun x hx => ?_) ?_
  · unfold times at hx
    obtain ⟨i, hi, rfl⟩ := List.mem_map.mp hx
    exact g.le (by have := List.mem_range.mp hi; omega)
  · obtain ⟨l, h1, _⟩ := leaf_under g.v _ 0 (Nat.le_refl _) (Nat.zero_le _)
    have hl : l < ps.length + 1 := by
      unfold leavesT at h1
      exact List.mem_range.mp (List.mem_filter.mp h1).1
    exact List.mem_map.mpr ⟨l, List.mem_range.mpr hl, g.ends l h1⟩
theorem bools_all (xs : List Bool) : bi1D .all (.list (xs.map .bool)) = some (.d (.bool (xs.all id))) := by
  have : boolsD (xs.map .bool) = some xs := by
    induction xs with
    | nil => rfl
    | cons x xs ih =>
      show (boolsD (xs.map .bool)).map (x :: ·) = _
      rw [ih]; rfl
  simp only [bi1D, this, Option.map_some]
/-- all of a comprehension's values true -/
theorem all_true {α : Type} (ys : List α) : bi1D .all (.list (ys.map fun _ => .bool true)) = some (.d (.bool true)) := by
  have h := bools_all (ys.map fun _ => true)
  rw [List.map_map] at h
  have e : ((fun b => PyData.bool b) ∘ fun (_ : α) => true) = fun _ => .bool true := rfl
  rw [e] at h
  rw [h]
  simp
theorem enum_ni (xs : List Nat) : enumD (ni xs) = (List.range xs.length).map fun k => .tuple [.int (k : Nat), .int ((xs[k]?.getD 0 : Nat) : Int)] := by
  apply List.ext_getElem?
  intro i
  unfold enumD
  rw [List.getElem?_mapIdx, List.getElem?_map, ni_get]
  by_cases h : i < xs.length
  · rw [List.getElem?_eq_getElem h, List.getElem?_range h]; simp [h]
  · rw [List.getElem?_eq_none (by omega), List.getElem?_eq_none (by simp; omega)]; rfl
theorem istree_ok {k2 k1 k4 k6 : Nat} {d : D} {ps : List Nat} {e : Nat} (h : TD d ps) (g : Good ps e) (h2 : F k2 none [d] = some (.d (.bool true), none)) (h1 : ∀ v a b : Int, F k1 none [.int v, .int a, .int b] = some (.d (.bool (decide (a ≤ v) && decide (v ≤ b))), none)) (h4 : F k4 none [d] = some (.o (ni (times ps)), none)) (h6 : F k6 none [d] = some (.o (ni (leavesT ps)), none)) : fin none (PV.execs F (b_is_tree_of k2 k1 k4 k6) [some (.d d), none, none, none, none]) = some (.d (.bool true), none) := by
  have hl : ps.length ≤ 1000 := Nat.le_trans g.len (by decide)
  have hh := high_eq g
  have hm := max_times ps
  have he := g.e3
  have hv := g.v
  have hln := g.len
  have hends := g.ends
  obtain ⟨w, hw1, hw2⟩ := h.tail
  apply fin_of
  unfold b_is_tree_of
  walk_at "ew"
  refine ⟨_, h2, ?_⟩
  walk_at "ew"
  refine ⟨_, h.len, ?_⟩
  have c1 : cmpD .le (.int 1) (.int ((ps.length : Int) + 1)) = some true := by
    show some (decide ((1 : Int) ≤ (ps.length : Int) + 1)) = _
    rw [decide_eq_true (by omega)]
  walk_at "ew"
  refine ⟨_, ⟨c1⟩, ?_⟩
  walk_at "ew"
  have c2 : cmpD .le (.int ((ps.length : Int) + 1)) (.int 12) = some true := by
    show some (decide ((ps.length : Int) + 1 ≤ 12)) = _
    rw [decide_eq_true (by omega)]
  refine ⟨_, ⟨c2⟩, ?_⟩
  walk_at "ew"
  refine ⟨_, h.idx0, ?_⟩
  walk_at "ew"
  refine ⟨_, h1 (-1) (-1) (-1), ?_⟩
  walk_at "ew"
  refine WE.comp (List.range ps.length) (fun k => .tuple [.int (k : Nat), .int ((ps[k]?.getD 0 : Nat) : Int)]) (fun _ => true) (fun _ => .bool true) ?_
  walk_at "ew"
  refine ⟨_, hw1, _, hw2, ?_, enum_ni ps, ?_, ?_⟩
  · rw [ni_len]; unfold lim; omega
  · intro k hk
    have hk := List.mem_range.mp hk
    refine ⟨_, rfl, ?_⟩
    walk_at "ew"
    refine ⟨rfl, fun _ => ?_, fun z => nomatch z⟩
    walk_at "ew"
    have hp := hv k _ (List.getElem?_eq_getElem hk)
    refine ⟨_, h1 _ _ _, ?_⟩
    refine ⟨?_, rfl⟩
    show PyData.bool _ = .bool true
    rw [List.getElem?_eq_getElem hk]
    simp only [Option.getD_some]
    rw [decide_eq_true (by omega), decide_eq_true (by omega)]; rfl
  · rw [List.filter_eq_self.mpr (fun _ _ => rfl)]
    refine ⟨_, all_true _, ?_⟩
    walk_at "ew"
    refine ⟨_, h4, ?_⟩
    walk_at "ew"
    refine ⟨_, hm, ?_⟩
    walk_at "ew"
    rw [hh]
    refine ⟨true, ⟨by show some (decide ((e : Int) ≤ 3)) = _; rw [decide_eq_true (by omega)]⟩, ?_⟩
    walk_at "ew"
    refine WE.comp (leavesT ps) (fun (k : Nat) => .int k) (fun _ => true) (fun _ => .bool true) ?_
    walk_at "ew"
    refine ⟨_, h6, _, rfl, ?_, rfl, ?_, ?_⟩
    · rw [ni_len]
      have : (leavesT ps).length ≤ (List.range (ps.length + 1)).length := List.length_filter_le ..
      rw [List.length_range] at this
      unfold lim; omega
    · intro k hk
      have hk' : k ≤ ps.length := by
        unfold leavesT at hk
        have := (List.mem_filter.mp hk).1
        simp at this; omega
      refine ⟨_, rfl, ?_⟩
      walk_at "ew"
      refine ⟨rfl, fun _ => ?_, fun z => nomatch z⟩
      walk_at "ew"
      refine ⟨_, dAt_nat (i := k) (d := .int (depth ps k : Nat)) (by rw [ni_get, times_get hk']; rfl), ?_⟩
      walk_at "ew"
      refine ⟨_, hm, ?_⟩
      walk_at "ew"
      refine ⟨true, ⟨by rw [hh]; show eqD (.int (depth ps k : Nat)) (.int (e : Nat)) = _; rw [eqD_int, hends k hk, decide_eq_true rfl]⟩, ?_⟩
      exact ⟨rfl, rfl⟩
    · rw [List.filter_eq_self.mpr (fun _ _ => rfl)]
      refine ⟨_, all_true _, ?_⟩
      walk_at "ew"
      exact .inl rfl
section
variable {d : D} {ps : List Nat} {e : Nat}
theorem checktree_ok {k : Nat} {d : D} (h10 : F k none [d] = some (.d (.bool true), none)) : fin none (PV.execs F (b_check_tree k) [some (.d d)]) = some (.d .none, none) := by
  apply fin_of
  unfold b_check_tree
  walk_at "ew"
  refine ⟨_, h10, ?_⟩
  walk_at "ew"
  exact .inr ⟨rfl, rfl⟩
theorem checknode_ok {k : Nat} {d : D} {ps : List Nat} (h : TD d ps) {a : Nat} (ha : a ≤ ps.length) (hk : ∀ v a b : Int, F k none [.int v, .int a, .int b] = some (.d (.bool (decide (a ≤ v) && decide (v ≤ b))), none)) : fin none (PV.execs F (b_check_node k) [some (.d d), some (.d (.int (a : Int)))]) = some (.d .none, none) := by
  have h1 := hk (a : Int) 0 ((ps.length : Int) + 1 - 1)
  rw [decide_eq_true (show (0 : Int) ≤ (a : Int) by omega), decide_eq_true (show (a : Int) ≤ (ps.length : Int) + 1 - 1 by omega)] at h1
  apply fin_of
  unfold b_check_node
  walk_at "ew"
  refine ⟨_, h.len, ?_⟩
  walk_at "ew"
  refine ⟨_, h1, ?_⟩
  walk_at "ew"
  exact .inr ⟨rfl, rfl⟩

end
end PV
end

section
set_option Elab.async false
set_option linter.all false
set_option maxRecDepth 100000
set_option maxHeartbeats 2000000
set_option autoImplicit false
/-! MT2: the laws' own trees' functions -/
namespace PV
open PySem TR
variable {F : Fn} {d : D} {ps : List Nat}
theorem rngL (ps : List Nat) : rngD 0 ((ps.length : Int) + 1) = (List.range (ps.length + 1)).map fun (k : Nat) => .int k := rng_len ps
theorem lchildren_ok (h : TD d ps) (hl : ps.length ≤ 1000) (a : Nat) : fin none (PV.execs F b_law_children [some (.d d), some (.d (.int (a : Nat))), none]) = some (.o (ni (kids ps a)), none) := by
  apply fin_of
  unfold b_law_children
  refine WSs.cons (WS.ret ?_)
  refine WE.comp (List.range (ps.length + 1)) (fun (k : Nat) => .int k) (fun k => par ps k == some a) (fun (k : Nat) => .int k) ?_
  refine WI.rng (WE.cst (WE.bi1 (WO.var rfl ⟨_, h.len, ⟨0, ((ps.length + 1 : Nat) : Int), rfl, rfl, ⟨by omega, by omega, by omega, by omega⟩, rngL ps, ?_, ?_⟩⟩)))
  · intro k hk
    have hk := List.mem_range.mp hk
    refine ⟨[some (.d d), some (.d (.int (a : Nat))), some (.d (.int (k : Nat)))], rfl, WC.yes ?_⟩
    refine WE.cmp (WO.of (WE.idx (WO.var rfl (WO.var rfl ⟨_, rfl, _, h.idx (tdAt_get hk), ?_⟩))))
    refine WO.var rfl ⟨_, rfl, _, ⟨pd_eq (par ps k) a⟩, ?_⟩
    refine ⟨_, rfl, rfl, fun _ => ?_, fun _ => rfl⟩
    exact WE.var rfl ⟨rfl, rfl⟩
  · refine rt_c (.inl ?_)
    rw [range_filter _ _ rfl]
    unfold kids ni
    rw [List.map_map, List.map_map]
    rfl
/-- inner nodes -/
def innerT (ps : List Nat) : List Nat := (List.range (ps.length + 1)).filter fun i => decide (i ∈ ps)
theorem inner_ok (h : TD d ps) (hl : ps.length ≤ 1000) : fin none (PV.execs F b_inner_of [some (.d d), none]) = some (.o (ni (innerT ps)), none) := by
  apply fin_of
  unfold b_inner_of
  refine WSs.cons (WS.ret ?_)
  refine WE.comp (List.range (ps.length + 1)) (fun (k : Nat) => .int k) (fun k => decide (k ∈ ps)) (fun (k : Nat) => .int k) ?_
  refine WI.rng (WE.cst (WE.bi1 (WO.var rfl ⟨_, h.len, ⟨0, ((ps.length + 1 : Nat) : Int), rfl, rfl, ⟨by omega, by omega, by omega, by omega⟩, rngL ps, ?_, ?_⟩⟩)))
  · intro k hk
    have e : cmpD .isin (.int (k : Int)) d = some (decide (k ∈ ps)) := by
      rcases h with rfl | rfl <;> exact in_td ps k
    refine ⟨[some (.d d), some (.d (.int (k : Nat)))], rfl, WC.yes ?_⟩
    refine WE.cmp (WO.var rfl (WO.var rfl ⟨_, rfl, _, ⟨e⟩, ?_⟩))
    refine ⟨_, rfl, rfl, fun _ => ?_, fun _ => rfl⟩
    exact WE.var rfl ⟨rfl, rfl⟩
  · exact rt_c (.inl rfl)
theorem eqD_nil {xs : List Nat} (h : ∀ x ∈ xs, x < 1000) : eqD (.list (ni xs)) (.list []) = some (decide (xs = [])) := by
  have := eqD_ni h (show ∀ x ∈ ([] : List Nat), x < 1000 from fun _ z => nomatch z)
  exact this
theorem kids_lt (hl : ps.length < 900) (k : Nat) : ∀ x ∈ kids ps k, x < 1000 := fun x hx => by
  obtain ⟨i, rfl, hi⟩ := mem_kids.mp hx
  have := (List.getElem?_eq_some_iff.mp hi).1
  omega
theorem leaves_kids (ps : List Nat) : (List.range (ps.length + 1)).filter (fun a => decide (kids ps a = [])) = leavesT ps := by
  unfold leavesT
  apply List.filter_congr
  intro a ha
  have ha := List.mem_range.mp ha
  have := kids_nil (ps := ps) (a := a) (by omega)
  unfold leavesT at this
  rw [List.mem_filter, List.mem_range] at this
  rw [Bool.eq_iff_iff, decide_eq_true_eq, this]
  exact ⟨fun z => z.2, fun z => ⟨ha, z⟩⟩
theorem inner_kids (ps : List Nat) : (List.range (ps.length + 1)).filter (fun a => !decide (kids ps a = [])) = innerT ps := by
  unfold innerT
  apply List.filter_congr
  intro a ha
  have ha := List.mem_range.mp ha
  have := kids_nil (ps := ps) (a := a) (by omega)
  unfold leavesT at this
  rw [List.mem_filter, List.mem_range] at this
  have e : decide (kids ps a = []) = !decide (a ∈ ps) := by
    rw [Bool.eq_iff_iff, decide_eq_true_eq, this]
    exact ⟨fun z => z.2, fun z => ⟨ha, z⟩⟩
  rw [e, Bool.not_not]
theorem lleaves_ok {kc : Nat} (h : TD d ps) (hl : ps.length < 900) (hc : ∀ a : Nat, F kc none [d, .int (a : Nat)] = some (.o (ni (kids ps a)), none)) : fin none (PV.execs F (b_law_leaves kc) [some (.d d), none]) = some (.o (ni (leavesT ps)), none) := by
  apply fin_of
  unfold b_law_leaves
  refine WSs.cons (WS.ret ?_)
  refine WE.comp (List.range (ps.length + 1)) (fun (k : Nat) => .int k) (fun a => decide (kids ps a = [])) (fun (k : Nat) => .int k) ?_
  refine WI.rng (WE.cst (WE.bi1 (WO.var rfl ⟨_, h.len, ⟨0, ((ps.length + 1 : Nat) : Int), rfl, rfl, ⟨by omega, by omega, by omega, by omega⟩, rngL ps, ?_, ?_⟩⟩)))
  · intro k hk
    refine ⟨[some (.d d), some (.d (.int (k : Nat)))], rfl, WC.yes ?_⟩
    refine WE.cmp (WO.of (WE.call (WL.cons (WE.var rfl (WL.cons (WE.var rfl (WL.nil ⟨_, rfl, _, hc k, ?_⟩)))))))
    refine WO.of (WE.lst (WL.nil ⟨show (0 : Nat) ≤ lim from by decide, _, rfl, _, ⟨eqD_nil (kids_lt hl k)⟩, ?_⟩))
    refine ⟨_, rfl, rfl, fun _ => ?_, fun _ => rfl⟩
    exact WE.var rfl ⟨rfl, rfl⟩
  · rw [leaves_kids]
    exact rt_c (.inl rfl)
theorem linner_ok {kc : Nat} (h : TD d ps) (hl : ps.length < 900) (hc : ∀ a : Nat, F kc none [d, .int (a : Nat)] = some (.o (ni (kids ps a)), none)) : fin none (PV.execs F (b_law_inner kc) [some (.d d), none]) = some (.o (ni (innerT ps)), none) := by
  apply fin_of
  unfold b_law_inner
  refine WSs.cons (WS.ret ?_)
  refine WE.comp (List.range (ps.length + 1)) (fun (k : Nat) => .int k) (fun a => !decide (kids ps a = [])) (fun (k : Nat) => .int k) ?_
  refine WI.rng (WE.cst (WE.bi1 (WO.var rfl ⟨_, h.len, ⟨0, ((ps.length + 1 : Nat) : Int), rfl, rfl, ⟨by omega, by omega, by omega, by omega⟩, rngL ps, ?_, ?_⟩⟩)))
  · intro k hk
    refine ⟨[some (.d d), some (.d (.int (k : Nat)))], rfl, WC.yes ?_⟩
    refine WE.cmp (WO.of (WE.call (WL.cons (WE.var rfl (WL.cons (WE.var rfl (WL.nil ⟨_, rfl, _, hc k, ?_⟩)))))))
    refine WO.of (WE.lst (WL.nil ⟨show (0 : Nat) ≤ lim from by decide, _, rfl, !decide (kids ps k = []), ⟨by show (eqD (.list (ni (kids ps k))) (.list [])).map _ = _; rw [eqD_nil (kids_lt hl k)]; rfl⟩, ?_⟩))
    refine ⟨_, rfl, rfl, fun _ => ?_, fun _ => rfl⟩
    exact WE.var rfl ⟨rfl, rfl⟩
  · rw [inner_kids]
    exact rt_c (.inl rfl)
theorem l0 (m : Nat) (w : List Nat) : idxD (.list (ni (m :: w))) (.int 0) = some (.int (m : Nat)) := dAt_nat (i := 0) rfl
theorem lway_ok (h : TD d ps) (v : Valid ps) (hl : ps.length ≤ 1000) {a : Nat} (ha : a ≤ ps.length) : fin none (PV.execs F b_law_way [some (.d d), some (.d (.int (a : Nat))), none]) = some (.o (ni (way ps a)), none) := by
  apply fin_of
  unfold b_law_way
  refine WSs.cons (WS.set (WE.lst (WL.cons (WE.var rfl (WL.nil ⟨show (1 : Nat) ≤ lim from by decide, ?_⟩)))))
  refine ⟨_, rfl, nx_c ?_⟩
  refine WSs.cons (WS.wh a (fun m E => ∃ w, way ps a = way ps m ++ w ∧ m ≤ ps.length ∧ E = [some (.d d), some (.d (.int (a : Nat))), some (.o (ni (m :: w)))]) (by unfold lim; omega) ⟨[], by simp, ha, rfl⟩ ?_)
  rintro m E ⟨w, hw, hm, rfl⟩
  refine WE.cmp (WO.of (WE.idx (WO.var rfl (WO.of (WE.cst ⟨_, rfl, _, l0 m w, ?_⟩)))))
  refine WO.of (WE.cst ⟨_, rfl, _, ne_is _ _, ?_⟩)
  have lw : (m :: w).length ≤ 1002 := by
    have h1 := way_length_le v a
    have h2 := way_len (ps := ps) m
    rw [hw, List.length_append] at h1
    simp
    omega
  refine ⟨_, rfl, fun e => ?_, fun e => ?_⟩
  · have : m = 0 := by simpa using e
    subst this
    refine nx_c (WSs.cons (WS.retO rfl (rt_c (.inl ?_))))
    rw [hw, way_zero]; rfl
  · have hm0 : m ≠ 0 := by
      rintro rfl
      simp at e
    rcases head_way v hm with rfl | ⟨p, hp, hpm, hwp⟩
    · exact absurd rfl hm0
    have hx : idxD d (.int (m : Nat)) = some (.int (p : Nat)) := by
      have := h.idx (tdAt_get (Nat.lt_succ_of_le hm))
      unfold tdAt at this
      rw [hp] at this
      exact this
    have e : binD .add (.list [.int (p : Nat)]) (.list (ni (m :: w))) = some (.o (ni (p :: m :: w))) := by
      show mkL ([PyData.int (p : Nat)] ++ ni (m :: w)) = _
      unfold mkL
      rw [if_pos (by rw [List.length_append, ni_len]; unfold lim; simp at lw ⊢; omega)]; rfl
    refine WSs.cons (WS.set (WE.bin (WO.of (WE.lst (WL.cons (WE.idx (WO.var rfl (WO.of (WE.idx (WO.var rfl (WO.of (WE.cst ⟨_, rfl, _, l0 m w, ?_⟩))))))))))))
    refine ⟨_, rfl, _, hx, WL.nil ⟨show (1 : Nat) ≤ lim from by decide, ?_⟩⟩
    refine WO.var rfl ⟨_, rfl, _, e, ?_⟩
    exact ⟨_, rfl, nx_c (WSs.nil ⟨.inl rfl, p, hpm, m :: w, by rw [hw, hwp]; simp, by omega, rfl⟩)⟩
theorem llot_ok {kl kw : Nat} (h : TD d ps) (v : Valid ps) (hl : ps.length ≤ 1000) (a : Nat) (h6 : F kl none [d] = some (.o (ni (leavesT ps)), none)) (h8 : ∀ b : Nat, b ≤ ps.length → F kw none [d, .int (b : Int)] = some (.o (ni (way ps b)), none)) :
    fin none (PV.execs F (b_law_lot kl kw) [some (.d d), some (.d (.int (a : Nat))), none]) = some (.o (ni (lot ps a)), none) := by
  apply fin_of
  unfold b_law_lot
  refine WSs.cons (WS.ret ?_)
  refine WE.comp (leavesT ps) (fun (k : Nat) => .int k) (fun k => decide (a ∈ way ps k)) (fun (k : Nat) => .int k) ?_
  refine WI.seq (WE.call (WL.cons (WE.var rfl (WL.nil ⟨_, rfl, _, h6, _, rfl, ?_, rfl, ?_, ?_⟩))))
  · rw [ni_len]
    have : (leavesT ps).length ≤ (List.range (ps.length + 1)).length := List.length_filter_le ..
    rw [List.length_range] at this
    unfold lim; omega
  · intro k hk
    have hk' : k ≤ ps.length := by
      unfold leavesT at hk
      have := (List.mem_filter.mp hk).1
      simp at this; omega
    refine ⟨[some (.d d), some (.d (.int (a : Nat))), some (.d (.int (k : Nat)))], rfl, WC.yes ?_⟩
    have e : cmpD .isin (.int (a : Int)) (.list (ni (way ps k))) = some (decide (a ∈ way ps k)) := inD_ni a _
    refine WE.cmp (WO.var rfl (WO.of (WE.call (WL.cons (WE.var rfl (WL.cons (WE.var rfl (WL.nil ⟨_, rfl, _, h8 k hk', _, rfl, _, ⟨e⟩, ?_⟩))))))))
    refine ⟨_, rfl, rfl, fun _ => ?_, fun _ => rfl⟩
    exact WE.var rfl ⟨rfl, rfl⟩
  · exact rt_c (.inl rfl)
end PV
end

section
set_option Elab.async false
set_option linter.all false
set_option maxRecDepth 100000
set_option maxHeartbeats 2000000
set_option autoImplicit false
/-! MM0: bodies of the means' functions (printed by genbody.py) -/
namespace PV
open PySem
/-- are_chances_of: 0 tree, 1 value, 2 one -/
def b_are_chances_of (i_is_list i_leaves_of i_is_fraction_of i_total : Nat) : CSs := (.cons (.ifs (.or (.not (.call i_is_list (.cons (.var 1) .nil) [0])) (.cmp .ne (.bi1 .len (.var 1)) (.bi1 .len (.call i_leaves_of (.cons (.var 0) .nil) [0]))))
 (.cons (.ret (.cst (.bool false)))
 .nil)
 .nil)
 (.cons (.ret (.and (.bi1 .all (.comp [2] (.v 2) (.own 1) .no (.and (.call i_is_fraction_of (.cons (.var 2) .nil) [0]) (.cmp .ge (.idx (.var 2) (.cst (.int 0))) (.cst (.int 0)))))) (.cmp .eq (.call i_total (.cons (.bi1 .list (.var 1)) .nil) [0]) (.cst (.tuple [(.int 1), (.int 1)])))))
 .nil))
/-- check_chances: 0 tree, 1 value, 2 one -/
def b_check_chances (i_are_chances_of i_is_short : Nat) : CSs := (.cons (.ifs (.or (.not (.call i_are_chances_of (.cons (.var 0) (.cons (.var 1) .nil)) [0, 1])) (.not (.bi1 .all (.comp [2] (.v 2) (.own 1) .no (.call i_is_short (.cons (.var 2) .nil) [0])))))
 (.cons .stuck
 .nil)
 .nil)
 .nil)
/-- are_numbers: 0 value, 1 many, 2 one -/
def b_are_numbers (i_is_list i_is_fraction_of : Nat) : CSs := (.cons (.ret (.and (.call i_is_list (.cons (.var 0) .nil) [0]) (.and (.cmp .eq (.bi1 .len (.var 0)) (.var 1)) (.bi1 .all (.comp [2] (.v 2) (.own 0) .no (.call i_is_fraction_of (.cons (.var 2) .nil) [0]))))))
 .nil)
/-- are_short: 0 value, 1 many, 2 one -/
def b_are_short (i_are_numbers i_is_short : Nat) : CSs := (.cons (.ret (.and (.call i_are_numbers (.cons (.var 0) (.cons (.var 1) .nil)) [0, 1]) (.bi1 .all (.comp [2] (.v 2) (.own 0) .no (.call i_is_short (.cons (.var 2) .nil) [0])))))
 .nil)
/-- check_values: 0 tree, 1 value -/
def b_check_values (i_are_short i_leaves_of : Nat) : CSs := (.cons (.ifs (.not (.call i_are_short (.cons (.var 1) (.cons (.bi1 .len (.call i_leaves_of (.cons (.var 0) .nil) [0])) .nil)) [0, 1]))
 (.cons .stuck
 .nil)
 .nil)
 .nil)
/-- check_game: 0 tree, 1 value -/
def b_check_game (i_are_short : Nat) : CSs := (.cons (.ifs (.not (.call i_are_short (.cons (.var 1) (.cons (.bi1 .len (.var 0)) .nil)) [0, 1]))
 (.cons .stuck
 .nil)
 .nil)
 .nil)
/-- check_odds: 0 tree, 1 chances -/
def b_check_odds (i_check_tree i_check_chances : Nat) : CSs := (.cons (.ex (.call i_check_tree (.cons (.var 0) .nil) [0]))
 (.cons (.ex (.call i_check_chances (.cons (.var 0) (.cons (.var 1) .nil)) [0, 1]))
 .nil))
/-- check_prize: 0 tree, 1 chances, 2 values -/
def b_check_prize (i_check_odds i_check_values : Nat) : CSs := (.cons (.ex (.call i_check_odds (.cons (.var 0) (.cons (.var 1) .nil)) [0, 1]))
 (.cons (.ex (.call i_check_values (.cons (.var 0) (.cons (.var 2) .nil)) [0, 1]))
 .nil))
/-- are_full: 0 chances, 1 one -/
def b_are_full : CSs := (.cons (.ret (.bi1 .all (.comp [1] (.v 1) (.own 0) .no (.cmp .gt (.idx (.var 1) (.cst (.int 0))) (.cst (.int 0))))))
 .nil)
/-- want_full: 0 chances -/
def b_want_full (i_are_full : Nat) : CSs := (.cons (.ifs (.not (.call i_are_full (.cons (.var 0) .nil) [0]))
 (.cons .stuck
 .nil)
 .nil)
 .nil)
/-- by_leaves: 0 tree, 1 some -/
def b_by_leaves (i_leaves_of : Nat) : CSs := (.cons (.ret (.bi2 .dzip (.call i_leaves_of (.cons (.var 0) .nil) [0]) (.var 1)))
 .nil)
/-- node_chance: 0 tree, 1 chances, 2 node, 3 odds, 4 leaf -/
def b_node_chance (i_by_leaves i_total i_lot_by : Nat) : CSs := (.cons (.set 3 (.call i_by_leaves (.cons (.var 0) (.cons (.var 1) .nil)) [0, 1]))
 (.cons (.ret (.call i_total (.cons (.comp [4] (.v 4) (.seq (.call i_lot_by (.cons (.var 0) (.cons (.var 2) .nil)) [0, 1])) .no (.idx (.var 3) (.var 4))) .nil) [0]))
 .nil))
/-- mean_from: 0 tree, 1 chances, 2 node, 3 values, 4 lot, 5 whole, 6 odds, 7 prize, 8 leaf -/
def b_mean_from (i_by_leaves i_lot_by i_total i_multiply i_divide i_node_chance : Nat) : CSs := (.cons (.par [6, 7] (.cons (.call i_by_leaves (.cons (.var 0) (.cons (.var 1) .nil)) [0, 1]) (.cons (.call i_by_leaves (.cons (.var 0) (.cons (.var 3) .nil)) [0, 1]) .nil)))
 (.cons (.set 4 (.call i_lot_by (.cons (.var 0) (.cons (.var 2) .nil)) [0, 1]))
 (.cons (.set 5 (.call i_total (.cons (.comp [8] (.v 8) (.own 4) .no (.call i_multiply (.cons (.idx (.var 6) (.var 8)) (.cons (.idx (.var 7) (.var 8)) .nil)) [0, 1])) .nil) [0]))
 (.cons (.ret (.call i_divide (.cons (.var 5) (.cons (.call i_node_chance (.cons (.var 0) (.cons (.var 1) (.cons (.var 2) .nil))) [0, 1, 2]) .nil)) [0, 1]))
 .nil))))
/-- mean_of: 0 chances, 1 values -/
def b_mean_of (i_products_sum : Nat) : CSs := (.cons (.ret (.call i_products_sum (.cons (.var 0) (.cons (.var 1) .nil)) [0, 1]))
 .nil)
/-- seen_game: 0 tree, 1 chances, 2 values, 3 node -/
def b_seen_game (i_mean_from : Nat) : CSs := (.cons (.ret (.comp [3] (.v 3) (.rng (.cst (.int 0)) (.bi1 .len (.var 0))) .no (.call i_mean_from (.cons (.var 0) (.cons (.var 1) (.cons (.var 3) (.cons (.var 2) .nil)))) [0, 1, 2, 3])))
 .nil)
/-- chance_of: 0 tree, 1 chances, 2 node -/
def b_chance_of (i_check_odds i_check_node i_node_chance : Nat) : CSs := (.cons (.ex (.call i_check_odds (.cons (.var 0) (.cons (.var 1) .nil)) [0, 1]))
 (.cons (.ex (.call i_check_node (.cons (.var 0) (.cons (.var 2) .nil)) [0, 1]))
 (.cons (.ret (.call i_node_chance (.cons (.var 0) (.cons (.var 1) (.cons (.var 2) .nil))) [0, 1, 2]))
 .nil)))
/-- is_full: 0 tree, 1 chances -/
def b_is_full (i_check_odds i_are_full : Nat) : CSs := (.cons (.ex (.call i_check_odds (.cons (.var 0) (.cons (.var 1) .nil)) [0, 1]))
 (.cons (.ret (.call i_are_full (.cons (.var 1) .nil) [0]))
 .nil))
/-- mean: 0 tree, 1 chances, 2 values -/
def b_mean (i_check_prize i_mean_of : Nat) : CSs := (.cons (.ex (.call i_check_prize (.cons (.var 0) (.cons (.var 1) (.cons (.var 2) .nil))) [0, 1, 2]))
 (.cons (.ret (.call i_mean_of (.cons (.var 1) (.cons (.var 2) .nil)) [0, 1]))
 .nil))
/-- mean_at: 0 tree, 1 chances, 2 node, 3 values -/
def b_mean_at (i_check_odds i_check_node i_check_values i_node_chance i_mean_from : Nat) : CSs := (.cons (.ex (.call i_check_odds (.cons (.var 0) (.cons (.var 1) .nil)) [0, 1]))
 (.cons (.ex (.call i_check_node (.cons (.var 0) (.cons (.var 2) .nil)) [0, 1]))
 (.cons (.ex (.call i_check_values (.cons (.var 0) (.cons (.var 3) .nil)) [0, 1]))
 (.cons (.ifs (.cmp .eq (.idx (.call i_node_chance (.cons (.var 0) (.cons (.var 1) (.cons (.var 2) .nil))) [0, 1, 2]) (.cst (.int 0))) (.cst (.int 0)))
 (.cons .stuck
 .nil)
 .nil)
 (.cons (.ret (.call i_mean_from (.cons (.var 0) (.cons (.var 1) (.cons (.var 2) (.cons (.var 3) .nil)))) [0, 1, 2, 3]))
 .nil)))))
/-- seen: 0 tree, 1 chances, 2 values -/
def b_seen (i_check_prize i_want_full i_seen_game : Nat) : CSs := (.cons (.ex (.call i_check_prize (.cons (.var 0) (.cons (.var 1) (.cons (.var 2) .nil))) [0, 1, 2]))
 (.cons (.ex (.call i_want_full (.cons (.var 1) .nil) [0]))
 (.cons (.ret (.call i_seen_game (.cons (.var 0) (.cons (.var 1) (.cons (.var 2) .nil))) [0, 1, 2]))
 .nil)))
/-- check_played: 0 tree, 1 chances, 2 game -/
def b_check_played (i_check_odds i_check_game : Nat) : CSs := (.cons (.ex (.call i_check_odds (.cons (.var 0) (.cons (.var 1) .nil)) [0, 1]))
 (.cons (.ex (.call i_check_game (.cons (.var 0) (.cons (.var 2) .nil)) [0, 1]))
 .nil))
/-- next_of: 0 tree, 1 chances, 2 game, 3 node, 4 some, 5 whole, 6 late -/
def b_next_of (i_children_of i_node_chance i_divide i_total i_multiply : Nat) : CSs := (.cons (.par [4, 5] (.cons (.call i_children_of (.cons (.var 0) (.cons (.var 3) .nil)) [0, 1]) (.cons (.call i_node_chance (.cons (.var 0) (.cons (.var 1) (.cons (.var 3) .nil))) [0, 1, 2]) .nil)))
 (.cons (.ifs (.or (.cmp .eq (.var 4) (.lst .nil)) (.cmp .eq (.idx (.var 5) (.cst (.int 0))) (.cst (.int 0))))
 (.cons (.ret (.cst .none))
 .nil)
 .nil)
 (.cons (.ret (.call i_divide (.cons (.call i_total (.cons (.comp [6] (.v 6) (.own 4) .no (.call i_multiply (.cons (.call i_node_chance (.cons (.var 0) (.cons (.var 1) (.cons (.var 6) .nil))) [0, 1, 2]) (.cons (.idx (.var 2) (.var 6)) .nil)) [0, 1])) .nil) [0]) (.cons (.var 5) .nil)) [0, 1]))
 .nil)))
/-- next_steps: 0 tree, 1 chances, 2 game, 3 found, 4 node, 5 late -/
def b_next_steps (i_inner_of i_next_of i_take : Nat) : CSs := (.cons (.set 3 (.lst .nil))
 (.cons (.fr (.v 4) (.seq (.call i_inner_of (.cons (.var 0) .nil) [0]))
 (.cons (.set 5 (.call i_next_of (.cons (.var 0) (.cons (.var 1) (.cons (.var 2) (.cons (.var 4) .nil)))) [0, 1, 2, 3]))
 (.cons (.ifs (.cmp .isnot (.var 5) (.cst .none))
 (.cons (.app 3 (.call i_take (.cons (.var 5) (.cons (.idx (.var 2) (.var 4)) .nil)) [0, 1]))
 .nil)
 .nil)
 .nil)))
 (.cons (.ret (.var 3))
 .nil)))
/-- is_fair_of: 0 tree, 1 chances, 2 game, 3 one -/
def b_is_fair_of (i_next_steps : Nat) : CSs := (.cons (.ret (.bi1 .all (.comp [3] (.v 3) (.seq (.call i_next_steps (.cons (.var 0) (.cons (.var 1) (.cons (.var 2) .nil))) [0, 1, 2])) .no (.cmp .eq (.idx (.var 3) (.cst (.int 0))) (.cst (.int 0))))))
 .nil)
/-- next_mean: 0 tree, 1 chances, 2 game, 3 node -/
def b_next_mean (i_check_played i_check_node i_next_of : Nat) : CSs := (.cons (.ex (.call i_check_played (.cons (.var 0) (.cons (.var 1) (.cons (.var 2) .nil))) [0, 1, 2]))
 (.cons (.ex (.call i_check_node (.cons (.var 0) (.cons (.var 3) .nil)) [0, 1]))
 (.cons (.ret (.call i_next_of (.cons (.var 0) (.cons (.var 1) (.cons (.var 2) (.cons (.var 3) .nil)))) [0, 1, 2, 3]))
 .nil)))
/-- is_fair: 0 tree, 1 chances, 2 game -/
def b_is_fair (i_check_played i_is_fair_of : Nat) : CSs := (.cons (.ex (.call i_check_played (.cons (.var 0) (.cons (.var 1) (.cons (.var 2) .nil))) [0, 1, 2]))
 (.cons (.ret (.call i_is_fair_of (.cons (.var 0) (.cons (.var 1) (.cons (.var 2) .nil))) [0, 1, 2]))
 .nil))
/-- _law_chance: 0 tree, 1 chances, 2 node, 3 odds, 4 leaf -/
def b_law_chance (i_law_leaves i_law_total i_law_lot : Nat) : CSs := (.cons (.set 3 (.bi2 .dzip (.call i_law_leaves (.cons (.var 0) .nil) [0]) (.var 1)))
 (.cons (.ret (.call i_law_total (.cons (.comp [4] (.v 4) (.seq (.call i_law_lot (.cons (.var 0) (.cons (.var 2) .nil)) [0, 1])) .no (.idx (.var 3) (.var 4))) .nil) [0]))
 .nil))
/-- _law_mean_at: 0 tree, 1 chances, 2 node, 3 values, 4 whole, 5 odds, 6 prize, 7 leaf -/
def b_law_mean_at (i_law_leaves i_law_total i_law_lot i_law_times i_law_over i_law_chance : Nat) : CSs := (.cons (.par [5, 6] (.cons (.bi2 .dzip (.call i_law_leaves (.cons (.var 0) .nil) [0]) (.var 1)) (.cons (.bi2 .dzip (.call i_law_leaves (.cons (.var 0) .nil) [0]) (.var 3)) .nil)))
 (.cons (.set 4 (.call i_law_total (.cons (.comp [7] (.v 7) (.seq (.call i_law_lot (.cons (.var 0) (.cons (.var 2) .nil)) [0, 1])) .no (.call i_law_times (.cons (.idx (.var 5) (.var 7)) (.cons (.idx (.var 6) (.var 7)) .nil)) [0, 1])) .nil) [0]))
 (.cons (.ret (.call i_law_over (.cons (.var 4) (.cons (.call i_law_chance (.cons (.var 0) (.cons (.var 1) (.cons (.var 2) .nil))) [0, 1, 2]) .nil)) [0, 1]))
 .nil)))
/-- _law_seen: 0 tree, 1 chances, 2 values, 3 node -/
def b_law_seen (i_law_mean_at : Nat) : CSs := (.cons (.ret (.comp [3] (.v 3) (.rng (.cst (.int 0)) (.bi1 .len (.var 0))) .no (.call i_law_mean_at (.cons (.var 0) (.cons (.var 1) (.cons (.var 3) (.cons (.var 2) .nil)))) [0, 1, 2, 3])))
 .nil)
end PV
end

section
set_option Elab.async false
set_option linter.all false
set_option maxRecDepth 100000
set_option maxHeartbeats 2000000
set_option autoImplicit false
/-! MM1: chances of nodes, means -/
namespace PV
open PySem TR
/-! ### numbers, lists, fractions -/
section
variable {F : Fn}
def IntS (F : Fn) (k : Nat) : Prop := ∀ i : Int, F k none [.int i] = some (.d (.bool true), none)
def WitS (F : Fn) (k : Nat) : Prop := ∀ v a b : Int, F k none [.int v, .int a, .int b] = some (.d (.bool (decide (a ≤ v) && decide (v ≤ b))), none)
def LisS (F : Fn) (k : Nat) : Prop := ∀ (d : D) (xs : List D), seqD d = some xs → F k none [d] = some (.d (.bool true), none)
def FraS (F : Fn) (k : Nat) : Prop := ∀ q : Rat, szq q 8000 → F k none [fq q] = some (.d (.bool true), none)
/-- at most twelve digits -/
def short (q : Rat) : Prop := q.num.natAbs < 10 ^ 12 ∧ q.den < 10 ^ 12
def ShoS (F : Fn) (k : Nat) : Prop := ∀ q : Rat, short q → F k none [fq q] = some (.d (.bool true), none)
theorem short.sz {q : Rat} (h : short q) : szq q 40 := ⟨Nat.lt_trans h.1 (by decide), Nat.lt_trans h.2 (by decide)⟩
theorem int_ok (i : Int) : fin none (PV.execs F b_is_integer [some (.d (.int i))]) = some (.d (.bool true), none) := rfl
theorem lis_ok {d : D} {xs : List D} (h : seqD d = some xs) : fin none (PV.execs F b_is_list [some (.d d)]) = some (.d (.bool true), none) := by
  cases d <;> first | rfl | exact nomatch h
theorem wit_ok {k : Nat} (hi : IntS F k) (v a b : Int) : fin none (PV.execs F (b_is_within k) [some (.d (.int v)), some (.d (.int a)), some (.d (.int b))]) = some (.d (.bool (decide (a ≤ v) && decide (v ≤ b))), none) := by
  have h0 := hi v
  apply fin_of
  unfold b_is_within
  walk_at "ew"
  refine ⟨_, h0, ?_⟩
  walk_at "ew"
  refine ⟨decide (a ≤ v), ⟨rfl⟩, fun h => ?_, fun h => ?_⟩
  · walk_at "ew"
    rw [h]
    exact .inl rfl
  · walk_at "ew"
    refine ⟨decide (v ≤ b), ⟨rfl⟩, ?_⟩
    walk_at "ew"
    rw [h]
    exact .inl rfl
theorem ge_is (i j : Int) : CmpIs .ge (.int i) (.int j) (decide (i ≥ j)) := ⟨rfl⟩
theorem i0 (a b : D) : idxD (.tuple [a, b]) (.int 0) = some a := dAt_nat (i := 0) rfl
theorem i1 (a b : D) : idxD (.tuple [a, b]) (.int 1) = some b := dAt_nat (i := 1) rfl
theorem fra_ok {ki kd : Nat} (hi : IntS F ki) (hd : DivS F kd) {q : Rat} (h : szq q 8000) : fin none (PV.execs F (b_is_fraction_of ki kd) [some (.d (fq q))]) = some (.d (.bool true), none) := by
  have hc := hd q.num.natAbs q.den h.1 h.2
  have hg : Nat.gcd q.num.natAbs q.den = 1 := q.reduced
  rw [hg] at hc
  have hp := q.den_pos
  apply fin_of
  unfold b_is_fraction_of
  have hq : fq q = .tuple [.int q.num, .int (q.den : Nat)] := rfl
  generalize q.num = a at *
  generalize q.den = b at *
  rw [hq]
  refine WSs.cons (WS.ifs (WE.or (WE.not (WE.isi (WO.var rfl ?_)))))
  refine ⟨true, rfl, _, rfl, (fun z => nomatch z), fun _ => ?_⟩
  refine WE.or (WE.cmp (WO.of (WE.bi1 (WO.var rfl ⟨.d (.int 2), rfl, WO.of (WE.cst ⟨_, rfl, _, ne_is 2 2, ?_⟩)⟩))))
  refine ⟨_, rfl, (fun z => absurd z (by decide)), fun _ => ?_⟩
  refine WE.or (WE.not (WE.call (WL.cons (WE.idx (WO.var rfl (WO.of (WE.cst ⟨_, rfl, _, i0 _ _, WL.nil ⟨_, rfl, _, hi _, ?_⟩⟩)))))))
  refine ⟨true, rfl, _, rfl, (fun z => nomatch z), fun _ => ?_⟩
  refine WE.not (WE.call (WL.cons (WE.idx (WO.var rfl (WO.of (WE.cst ⟨_, rfl, _, i1 _ _, WL.nil ⟨_, rfl, _, hi _, ?_⟩⟩))))))
  refine ⟨true, rfl, _, rfl, (fun z => nomatch z), fun _ => WSs.nil (nx_c ?_)⟩
  refine WSs.cons (WS.ret (WE.and (WE.cmp (WO.of (WE.idx (WO.var rfl (WO.of (WE.cst ⟨_, rfl, _, i1 _ _, WO.of (WE.cst ⟨_, rfl, _, ge_is _ _, ?_⟩)⟩))))))))
  rw [decide_eq_true (show ((b : Nat) : Int) ≥ 1 by omega)]
  refine ⟨_, rfl, (fun z => nomatch z), fun _ => ?_⟩
  refine WE.cmp (WO.of (WE.call (WL.cons (WE.bi1 (WO.of (WE.idx (WO.var rfl (WO.of (WE.cst ⟨_, rfl, _, i0 _ _, .d (.int (a.natAbs : Nat)), by rw [← abs_if]; rfl, ?_⟩)))))))))
  refine WL.cons (WE.idx (WO.var rfl (WO.of (WE.cst ⟨_, rfl, _, i1 _ _, WL.nil ⟨_, rfl, _, hc, ?_⟩⟩))))
  refine WO.of (WE.cst ⟨_, rfl, _, eq_is _ _, rt_c (.inl ?_)⟩)
  rw [decide_eq_true (show (((1 : Nat) : Int)) = 1 from rfl)]
theorem sho_ok {kf : Nat} (hf : FraS F kf) {q : Rat} (h : short q) : fin none (PV.execs F (b_is_short kf) [some (.d (fq q))]) = some (.d (.bool true), none) := by
  have hc := hf q (szq_mono h.sz (by decide))
  have h1 := h.1
  have h2 := h.2
  apply fin_of
  unfold b_is_short
  have hq : fq q = .tuple [.int q.num, .int (q.den : Nat)] := rfl
  generalize q.num = a at *
  generalize q.den = b at *
  rw [hq] at hc ⊢
  refine WSs.cons (WS.ret (WE.and (WE.call (WL.cons (WE.var rfl (WL.nil ⟨_, rfl, _, hc, ?_⟩))))))
  refine ⟨_, rfl, (fun z => nomatch z), fun _ => ?_⟩
  refine WE.and (WE.cmp (WO.of (WE.bi1 (WO.of (WE.idx (WO.var rfl (WO.of (WE.cst ⟨_, rfl, _, i0 _ _, .d (.int (a.natAbs : Nat)), by rw [← abs_if]; rfl, ?_⟩))))))))
  refine WO.of (WE.cst ⟨_, rfl, _, lt_is _ _, ?_⟩)
  rw [decide_eq_true (show ((a.natAbs : Nat) : Int) < 1000000000000 by omega)]
  refine ⟨_, rfl, (fun z => nomatch z), fun _ => ?_⟩
  refine WE.cmp (WO.of (WE.idx (WO.var rfl (WO.of (WE.cst ⟨_, rfl, _, i1 _ _, WO.of (WE.cst ⟨_, rfl, _, lt_is _ _, rt_c (.inl ?_)⟩)⟩)))))
  rw [decide_eq_true (show ((b : Nat) : Int) < 1000000000000 by omega)]
end
end PV
end

section
set_option Elab.async false
set_option linter.all false
set_option maxRecDepth 100000
set_option maxHeartbeats 2000000
set_option autoImplicit false
/-! FRq: fractions compared and shown -/
namespace PV
open PySem
def fql (qs : List Rat) : List D := qs.map fq
theorem fq_inj {p q : Rat} (h : fq p = fq q) : p = q := by
  unfold fq at h
  injection h with h
  injection h with h1 h2
  injection h2 with h2 h3
  injection h1 with h1
  injection h2 with h2
  exact Rat.ext h1 (by omega)
theorem sh_i {i : Int} (h : i.natAbs < 2 ^ 1900) : Sh (.int i) 0 1921 := by
  refine ⟨rfl, Nat.le_refl _, ?_, Nat.le_refl _⟩
  show decide (i.natAbs.log2 < 1920) = true
  rw [decide_eq_true_eq]
  have := log_le h
  omega
theorem sh_fq {q : Rat} (h : szq q 1900) : Sh (fq q) 1 (3 + 2 * (1921 + 2)) := sh_tup (fun x hx => by
  simp only [List.mem_cons, List.not_mem_nil, or_false] at hx
  rcases hx with rfl | rfl
  · exact sh_i h.1
  · exact sh_i (show ((q.den : Nat) : Int).natAbs < _ from h.2)) (Nat.le_refl _)
theorem sh_fql {qs : List Rat} {n : Nat} (h : ∀ q ∈ qs, szq q 1900) (hl : qs.length ≤ n) : Sh (.list (fql qs)) 2 (3 + n * ((3 + 2 * (1921 + 2)) + 2)) := sh_list (fun x hx => by
  obtain ⟨q, hq, rfl⟩ := List.mem_map.mp hx
  exact sh_fq (h q hq)) (by unfold fql; rw [List.length_map]; exact hl)
theorem shaped_fq (q : Rat) : SeqAt.shaped (fq q) = true := by
  unfold SeqAt.shaped fq
  simp [PyData.canLay0, PyData.canLayAll0, PyData.depth, PyData.depthAll]
theorem eqv_fq (p q : Rat) : PyData.eqv (fq p) (fq q) = decide (p = q) := by
  show (PyData.eqv (.int p.num) (.int q.num) && (PyData.eqv (.int (p.den : Nat)) (.int (q.den : Nat)) && true)) = _
  rw [eqv_int, eqv_int, Bool.and_true, Bool.eq_iff_iff]
  simp only [Bool.and_eq_true, decide_eq_true_eq]
  exact ⟨fun h => Rat.ext h.1 (by omega), fun h => by subst h; exact ⟨rfl, rfl⟩⟩
theorem ne_fq (p q : Rat) : CmpIs .ne (fq p) (fq q) (!decide (p = q)) := ⟨by
  show (eqD (fq p) (fq q)).map (!·) = _
  have : eqD (fq p) (fq q) = some (decide (p = q)) := by
    show (if SeqAt.shaped (fq p) && SeqAt.shaped (fq q) then some (PyData.eqv (fq p) (fq q)) else none) = _
    rw [shaped_fq, shaped_fq, eqv_fq]; rfl
  rw [this]; rfl⟩
theorem eqvAll_fql : ∀ (ps qs : List Rat), PyData.eqvAll (fql ps) (fql qs) = decide (ps = qs)
  | [], [] => rfl
  | [], _ :: _ => rfl
  | _ :: _, [] => rfl
  | p :: ps, q :: qs => by
    show (PyData.eqv (fq p) (fq q) && PyData.eqvAll (fql ps) (fql qs)) = _
    rw [eqv_fq, eqvAll_fql ps qs, Bool.eq_iff_iff]
    simp only [Bool.and_eq_true, decide_eq_true_eq, List.cons.injEq]
theorem shaped_fql (qs : List Rat) : SeqAt.shaped (.list (fql qs)) = true := by
  have h1 : PyData.canLayAll0 (fql qs) = true ∧ PyData.depthAll (fql qs) ≤ 1 := by
    induction qs with
    | nil => exact ⟨rfl, Nat.zero_le _⟩
    | cons q qs ih =>
      constructor
      · show (PyData.canLay0 (fq q) && PyData.canLayAll0 (fql qs)) = true
        rw [ih.1]; rfl
      · show max (PyData.depth (fq q)) (PyData.depthAll (fql qs)) ≤ 1
        have : PyData.depth (fq q) = 1 := rfl
        rw [this]
        exact Nat.max_le.mpr ⟨Nat.le_refl _, ih.2⟩
  unfold SeqAt.shaped
  rw [Bool.and_eq_true]
  refine ⟨h1.1, ?_⟩
  rw [decide_eq_true_eq, PyData.depth]
  omega
theorem eqD_fql (ps qs : List Rat) : eqD (.list (fql ps)) (.list (fql qs)) = some (decide (ps = qs)) := by
  show (if SeqAt.shaped (.list (fql ps)) && SeqAt.shaped (.list (fql qs)) then some (PyData.eqvAll (fql ps) (fql qs)) else none) = _
  rw [shaped_fql, shaped_fql, eqvAll_fql]; rfl
theorem ne_fql (ps qs : List Rat) : CmpIs .ne (.list (fql ps)) (.list (fql qs)) (!decide (ps = qs)) := ⟨by
  show (eqD (.list (fql ps)) (.list (fql qs))).map (!·) = _
  rw [eqD_fql]; rfl⟩
theorem eqD_fq (p q : Rat) : eqD (fq p) (fq q) = some (decide (p = q)) := by
  show (if SeqAt.shaped (fq p) && SeqAt.shaped (fq q) then some (PyData.eqv (fq p) (fq q)) else none) = _
  rw [shaped_fq, shaped_fq, eqv_fq]; rfl
theorem eq_fq (p q : Rat) : CmpIs .eq (fq p) (fq q) (decide (p = q)) := ⟨eqD_fq p q⟩
theorem fq_one : fq 1 = .tuple [.int 1, .int 1] := rfl
theorem fq_zero : fq 0 = .tuple [.int 0, .int 1] := rfl
end PV
end

section
set_option Elab.async false
set_option linter.all false
set_option maxRecDepth 100000
set_option maxHeartbeats 2000000
set_option autoImplicit false
/-! MM2: what is asked of chances, values, games -/
namespace PV
open PySem TR
section
variable {F : Fn}
theorem lenS {d : D} {xs : List D} (h : seqD d = some xs) : bi1D .len d = some (.d (.int (xs.length : Nat))) := by
  cases d <;> first | (cases h; done) | (cases h; rfl)
theorem listS {d : D} {xs : List D} (h : seqD d = some xs) : bi1D .list d = some (.o xs) := by
  cases d <;> first | (cases h; done) | (cases h; rfl)
/-- the numbers of a list -/
theorem all_comp {E : DE} {i k : Nat} {elt : CE} {Q : W → DE → Prop} {d : D} {cs : List Rat} (h0 : E[i]? = some (some (.d d))) (hd : seqD d = some (cs.map fq)) (hl : cs.length ≤ 15)
    (h : ∀ q ∈ cs, WE F elt ((wipeE E [k]).set k (some (.d (fq q)))) fun w E3 => w.data = .bool true ∧ wipeE E3 [k] = wipeE E [k]) (hb : bindT (.v k) = fun x E => put E k (.d x)) (hp : ∀ x, put (wipeE E [k]) k (.d x) = some ((wipeE E [k]).set k (some (.d x))))
    (q : Q (.d (.bool true)) (backE (wipeE E [k]) E [k])) : WE F (.bi1 .all (.comp [k] (.v k) (.own i) .no elt)) E Q := by
  refine WE.bi1 (WO.of ?_)
  refine WE.compD cs fq (fun _ => true) (fun _ => .bool true) h0 hd (by unfold lim; omega) ?_ ?_
  · intro c hc
    exact ⟨_, hp _, WC.no ⟨rfl, fun _ => h c hc, fun z => nomatch z⟩⟩
  · rw [List.filter_eq_self.mpr fun _ _ => rfl]
    exact ⟨_, all_true _, q⟩
/-- chances of a tree -/
structure CD (ps : List Nat) (cs : List Rat) : Prop where
  len : cs.length = (leavesT ps).length
  nn : ∀ c ∈ cs, 0 ≤ c
  one : tot cs = 1
  sh : ∀ c ∈ cs, short c
def LvS (F : Fn) (k : Nat) (ps : List Nat) : Prop := ∀ d, TD d ps → F k none [d] = some (.o (ni (leavesT ps)), none)
theorem lv_len {ps : List Nat} (hl : ps.length ≤ 11) : (leavesT ps).length ≤ 12 := by
  have : (leavesT ps).length ≤ (List.range (ps.length + 1)).length := List.length_filter_le ..
  rw [List.length_range] at this
  omega
theorem arechances_ok {k2 k6 kf kt : Nat} {d d2 : D} {ps : List Nat} {cs : List Rat} (h : TD d ps) (hp : ps.length ≤ 11) (hd : seqD d2 = some (cs.map fq)) (c : CD ps cs) (h2 : LisS F k2) (h6 : LvS F k6 ps) (hf : FraS F kf) (ht : TotS F kt) :
    fin none (PV.execs F (b_are_chances_of k2 k6 kf kt) [some (.d d), some (.d d2), none]) = some (.d (.bool true), none) := by
  have ll := lv_len hp
  have hl : cs.length ≤ 15 := by rw [c.len]; omega
  have hc2 := h2 d2 _ hd
  apply fin_of
  unfold b_are_chances_of
  refine WSs.cons (WS.ifs (WE.or (WE.not (WE.call (WL.cons (WE.var rfl (WL.nil ⟨_, rfl, _, hc2, ?_⟩)))))))
  refine ⟨true, rfl, _, rfl, (fun z => nomatch z), fun _ => ?_⟩
  refine WE.cmp (WO.of (WE.bi1 (WO.var rfl ⟨_, lenS hd, WO.of (WE.bi1 (WO.of (WE.call (WL.cons (WE.var rfl (WL.nil ⟨_, rfl, _, h6 d h, _, rfl, _, rfl, _, ne_is _ _, ?_⟩))))))⟩)))
  have e : (!decide ((((cs.map fq).length : Nat) : Int) = ((ni (leavesT ps)).length : Nat))) = false := by
    rw [List.length_map, ni_len, c.len, decide_eq_true rfl]; rfl
  rw [e]
  refine ⟨false, rfl, (fun z => nomatch z), fun _ => WSs.nil (nx_c ?_)⟩
  refine WSs.cons (WS.ret (WE.and ?_))
  refine all_comp rfl hd hl ?_ rfl (fun _ => rfl) ?_
  · intro q hq
    refine WE.and (WE.call (WL.cons (WE.var rfl (WL.nil ⟨_, rfl, _, hf q (szq_mono (c.sh q hq).sz (by decide)), ?_⟩))))
    refine ⟨true, rfl, (fun z => nomatch z), fun _ => ?_⟩
    refine WE.cmp (WO.of (WE.idx (WO.var rfl (WO.of (WE.cst ⟨_, rfl, _, i0 _ _, WO.of (WE.cst ⟨_, rfl, _, ge_is _ _, ?_⟩)⟩)))))
    rw [decide_eq_true (show q.num ≥ 0 from Rat.num_nonneg.mpr (c.nn q hq))]
    exact ⟨rfl, rfl⟩
  refine ⟨true, rfl, (fun z => nomatch z), fun _ => ?_⟩
  refine WE.cmp (WO.of (WE.call (WL.cons (WE.bi1 (WO.var rfl ⟨_, listS hd, WL.nil ⟨_, rfl, _, ht cs _ rfl (fun q hq => szq_mono (c.sh q hq).sz (by decide)) hl, ?_⟩⟩)))))
  rw [c.one]
  refine WO.of (WE.cst ⟨_, rfl, _, eq_fq 1 1, rt_c (.inl ?_)⟩)
  rw [decide_eq_true rfl]
end
end PV
end

section
set_option Elab.async false
set_option linter.all false
set_option maxRecDepth 100000
set_option maxHeartbeats 2000000
set_option autoImplicit false
/-! MM3: the looks at chances, values, games -/
namespace PV
open PySem TR
section
variable {F : Fn}
theorem checkchances_ok {ka ks : Nat} {d d2 : D} {cs : List Rat} (hd : seqD d2 = some (cs.map fq)) (hl : cs.length ≤ 15) (sh : ∀ c ∈ cs, short c) (ha : F ka none [d, d2] = some (.d (.bool true), none)) (hs : ShoS F ks) :
    fin none (PV.execs F (b_check_chances ka ks) [some (.d d), some (.d d2), none]) = some (.d .none, none) := by
  apply fin_of
  unfold b_check_chances
  refine WSs.cons (WS.ifs (WE.or (WE.not (WE.call (WL.cons (WE.var rfl (WL.cons (WE.var rfl (WL.nil ⟨_, rfl, _, ha, ?_⟩)))))))))
  refine ⟨true, rfl, _, rfl, (fun z => nomatch z), fun _ => ?_⟩
  refine WE.not (all_comp rfl hd hl ?_ rfl (fun _ => rfl) ?_)
  · intro q hq
    exact WE.call (WL.cons (WE.var rfl (WL.nil ⟨_, rfl, _, hs q (sh q hq), rfl, rfl⟩)))
  exact ⟨true, rfl, _, rfl, (fun z => nomatch z), fun _ => WSs.nil (nx_c (WSs.nil (.inr ⟨rfl, rfl⟩)))⟩
theorem arenumbers_ok {k2 kf : Nat} {d : D} {cs : List Rat} {m : Int} (hd : seqD d = some (cs.map fq)) (hl : cs.length ≤ 15) (hm : m = (cs.length : Nat)) (sh : ∀ c ∈ cs, short c) (h2 : LisS F k2) (hf : FraS F kf) :
    fin none (PV.execs F (b_are_numbers k2 kf) [some (.d d), some (.d (.int m)), none]) = some (.d (.bool true), none) := by
  have hc2 := h2 d _ hd
  apply fin_of
  unfold b_are_numbers
  refine WSs.cons (WS.ret (WE.and (WE.call (WL.cons (WE.var rfl (WL.nil ⟨_, rfl, _, hc2, ?_⟩))))))
  refine ⟨true, rfl, (fun z => nomatch z), fun _ => ?_⟩
  refine WE.and (WE.cmp (WO.of (WE.bi1 (WO.var rfl ⟨_, lenS hd, WO.var rfl ⟨_, rfl, _, eq_is _ _, ?_⟩⟩))))
  rw [List.length_map, hm, decide_eq_true rfl]
  refine ⟨true, rfl, (fun z => nomatch z), fun _ => ?_⟩
  refine all_comp rfl hd hl ?_ rfl (fun _ => rfl) (rt_c (.inl rfl))
  intro q hq
  exact WE.call (WL.cons (WE.var rfl (WL.nil ⟨_, rfl, _, hf q (szq_mono (sh q hq).sz (by decide)), rfl, rfl⟩)))
theorem areshort_ok {kn ks : Nat} {d : D} {cs : List Rat} {m : Int} (hd : seqD d = some (cs.map fq)) (hl : cs.length ≤ 15) (sh : ∀ c ∈ cs, short c) (hn : F kn none [d, .int m] = some (.d (.bool true), none)) (hs : ShoS F ks) :
    fin none (PV.execs F (b_are_short kn ks) [some (.d d), some (.d (.int m)), none]) = some (.d (.bool true), none) := by
  apply fin_of
  unfold b_are_short
  refine WSs.cons (WS.ret (WE.and (WE.call (WL.cons (WE.var rfl (WL.cons (WE.var rfl (WL.nil ⟨_, rfl, _, hn, ?_⟩))))))))
  refine ⟨true, rfl, (fun z => nomatch z), fun _ => ?_⟩
  refine all_comp rfl hd hl ?_ rfl (fun _ => rfl) (rt_c (.inl rfl))
  intro q hq
  exact WE.call (WL.cons (WE.var rfl (WL.nil ⟨_, rfl, _, hs q (sh q hq), rfl, rfl⟩)))
/-- so many numbers of at most twelve digits are let -/
def AshS (F : Fn) (k : Nat) : Prop := ∀ (d : D) (cs : List Rat) (m : Int), seqD d = some (cs.map fq) → cs.length ≤ 15 → m = (cs.length : Nat) → (∀ c ∈ cs, short c) → F k none [d, .int m] = some (.d (.bool true), none)
theorem checkvalues_ok {ka k6 : Nat} {d d2 : D} {ps : List Nat} {vs : List Rat} (h : TD d ps) (hp : ps.length ≤ 11) (hd : seqD d2 = some (vs.map fq)) (hl : vs.length = (leavesT ps).length) (sh : ∀ c ∈ vs, short c) (ha : AshS F ka) (h6 : LvS F k6 ps) :
    fin none (PV.execs F (b_check_values ka k6) [some (.d d), some (.d d2)]) = some (.d .none, none) := by
  have ll := lv_len hp
  have hc := ha d2 vs ((ni (leavesT ps)).length : Nat) hd (by omega) (by rw [ni_len, hl]) sh
  apply fin_of
  unfold b_check_values
  refine WSs.cons (WS.ifs (WE.not (WE.call (WL.cons (WE.var rfl (WL.cons (WE.bi1 (WO.of (WE.call (WL.cons (WE.var rfl (WL.nil ⟨_, rfl, _, h6 d h, _, rfl, WL.nil ⟨_, rfl, _, hc, ?_⟩⟩))))))))))))
  exact ⟨true, rfl, _, rfl, (fun z => nomatch z), fun _ => WSs.nil (nx_c (WSs.nil (.inr ⟨rfl, rfl⟩)))⟩
theorem checkgame_ok {ka : Nat} {d d2 : D} {ps : List Nat} {gs : List Rat} (h : TD d ps) (hp : ps.length ≤ 11) (hd : seqD d2 = some (gs.map fq)) (hl : gs.length = ps.length + 1) (sh : ∀ c ∈ gs, short c) (ha : AshS F ka) :
    fin none (PV.execs F (b_check_game ka) [some (.d d), some (.d d2)]) = some (.d .none, none) := by
  have hc := ha d2 gs ((ps.length : Int) + 1) hd (by omega) (by rw [hl]; rfl) sh
  apply fin_of
  unfold b_check_game
  refine WSs.cons (WS.ifs (WE.not (WE.call (WL.cons (WE.var rfl (WL.cons (WE.bi1 (WO.var rfl ⟨_, h.len, WL.nil ⟨_, rfl, _, hc, ?_⟩⟩))))))))
  exact ⟨true, rfl, _, rfl, (fun z => nomatch z), fun _ => WSs.nil (nx_c (WSs.nil (.inr ⟨rfl, rfl⟩)))⟩
theorem two2_ok {k1 k2 : Nat} {d d2 : D} (h1 : F k1 none [d] = some (.d .none, none)) (h2 : F k2 none [d, d2] = some (.d .none, none)) : fin none (PV.execs F (b_check_odds k1 k2) [some (.d d), some (.d d2)]) = some (.d .none, none) := by
  apply fin_of
  unfold b_check_odds
  refine WSs.cons (WS.ex (WE.call (WL.cons (WE.var rfl (WL.nil ⟨_, rfl, _, h1, nx_c ?_⟩)))))
  exact WSs.cons (WS.ex (WE.call (WL.cons (WE.var rfl (WL.cons (WE.var rfl (WL.nil ⟨_, rfl, _, h2, nx_c (WSs.nil (.inr ⟨rfl, rfl⟩))⟩)))))))
theorem two3_ok {k1 k2 : Nat} {d d2 d3 : D} (h1 : F k1 none [d, d2] = some (.d .none, none)) (h2 : F k2 none [d, d3] = some (.d .none, none)) : fin none (PV.execs F (b_check_prize k1 k2) [some (.d d), some (.d d2), some (.d d3)]) = some (.d .none, none) := by
  apply fin_of
  unfold b_check_prize
  refine WSs.cons (WS.ex (WE.call (WL.cons (WE.var rfl (WL.cons (WE.var rfl (WL.nil ⟨_, rfl, _, h1, nx_c ?_⟩)))))))
  exact WSs.cons (WS.ex (WE.call (WL.cons (WE.var rfl (WL.cons (WE.var rfl (WL.nil ⟨_, rfl, _, h2, nx_c (WSs.nil (.inr ⟨rfl, rfl⟩))⟩)))))))
theorem played_ok {k1 k2 : Nat} {d d2 d3 : D} (h1 : F k1 none [d, d2] = some (.d .none, none)) (h2 : F k2 none [d, d3] = some (.d .none, none)) : fin none (PV.execs F (b_check_played k1 k2) [some (.d d), some (.d d2), some (.d d3)]) = some (.d .none, none) := two3_ok h1 h2
theorem arefull_ok {d : D} {cs : List Rat} (hd : seqD d = some (cs.map fq)) (hl : cs.length ≤ 15) :
    fin none (PV.execs F b_are_full [some (.d d), none]) = some (.d (.bool (cs.all fun c => decide (0 < c))), none) := by
  apply fin_of
  unfold b_are_full
  refine WSs.cons (WS.ret (WE.bi1 (WO.of ?_)))
  refine WE.compD cs fq (fun _ => true) (fun c => .bool (decide (0 < c))) rfl hd (by unfold lim; omega) ?_ ?_
  · intro c hc
    refine ⟨[some (.d d), some (.d (fq c))], rfl, WC.no ⟨rfl, fun _ => ?_, fun z => nomatch z⟩⟩
    refine WE.cmp (WO.of (WE.idx (WO.var rfl (WO.of (WE.cst ⟨_, rfl, _, i0 _ _, WO.of (WE.cst ⟨_, rfl, _, gt_is _ _, ?_⟩)⟩)))))
    refine ⟨?_, rfl⟩
    show PyData.bool _ = PyData.bool _
    rw [Bool.eq_iff_iff.mpr (show decide (0 < c.num) = true ↔ decide (0 < c) = true from by
      rw [decide_eq_true_eq, decide_eq_true_eq]
      exact ⟨gt_num, num_gt⟩)]
  · rw [List.filter_eq_self.mpr fun _ _ => rfl]
    have e : bi1D .all (.list (cs.map fun c => .bool (decide (0 < c)))) = some (.d (.bool (cs.all fun c => decide (0 < c)))) := by
      have := bools_all (cs.map fun c => decide (0 < c))
      rw [List.map_map] at this
      rw [show (cs.map fun c => PyData.bool (decide (0 < c))) = cs.map (PyData.bool ∘ fun c => decide (0 < c)) from rfl, this]
      rw [List.all_map]; rfl
    exact ⟨_, e, rt_c (.inl rfl)⟩
theorem wantfull_ok {k : Nat} {d : D} (h : F k none [d] = some (.d (.bool true), none)) : fin none (PV.execs F (b_want_full k) [some (.d d)]) = some (.d .none, none) := by
  apply fin_of
  unfold b_want_full
  refine WSs.cons (WS.ifs (WE.not (WE.call (WL.cons (WE.var rfl (WL.nil ⟨_, rfl, _, h, ?_⟩))))))
  exact ⟨true, rfl, _, rfl, (fun z => nomatch z), fun _ => WSs.nil (nx_c (WSs.nil (.inr ⟨rfl, rfl⟩)))⟩
end
end PV
end

section
set_option Elab.async false
set_option linter.all false
set_option maxRecDepth 100000
set_option maxHeartbeats 2000000
set_option autoImplicit false
/-! MM4: chances of nodes, means, seen games -/
namespace PV
open PySem TR
def CL (d : D) (ps : List Nat) (c : Nat → Rat) : Prop := seqD d = some ((leavesT ps).map fun l => fq (c l))
def oddsD (ps : List Nat) (c : Nat → Rat) : D := .dict ((leavesT ps).map fun l => (PyData.int (l : Nat), fq (c l)))
def pr (ps : List Nat) (c : Nat → Rat) (a : Nat) : Rat := tot ((lot ps a).map c)
def wh (ps : List Nat) (c v : Nat → Rat) (a : Nat) : Rat := tot ((lot ps a).map fun l => c l * v l)
def gm (ps : List Nat) (c v : Nat → Rat) (a : Nat) : Rat := wh ps c v a / pr ps c a
def mn (ps : List Nat) (c v : Nat → Rat) : Rat := tot ((leavesT ps).map fun l => c l * v l)
theorem findK_map {ls : List Nat} (g : Nat → D) {l : Nat} (h : l ∈ ls) : findK (ls.map fun l => (PyData.int (l : Nat), g l)) (l : Nat) = some (g l) := by
  induction ls with
  | nil => exact nomatch h
  | cons x ls ih =>
    by_cases e : x = l
    · subst e
      exact if_pos rfl
    · have h : l ∈ ls := by
        rcases List.mem_cons.mp h with h | h
        · exact absurd h.symm e
        · exact h
      have ne : ¬ ((x : Nat) : Int) = (l : Nat) := by omega
      exact (if_neg ne).trans (ih h)
theorem odds_idx {ps : List Nat} (c : Nat → Rat) {l : Nat} (h : l ∈ leavesT ps) : idxD (oddsD ps c) (.int (l : Nat)) = some (fq (c l)) := findK_map (fun l => fq (c l)) h
theorem zw_map (ls : List Nat) (g : Nat → D) : List.zipWith (fun n y => (PyData.int n, y)) (ls.map fun (k : Nat) => (k : Int)) (ls.map g) = ls.map fun l => (PyData.int (l : Nat), g l) := by
  induction ls with
  | nil => rfl
  | cons x ls ih => simp [ih]
theorem lv_nodup (ps : List Nat) : ((leavesT ps).map fun (k : Nat) => (k : Int)).Nodup := by
  have h : (leavesT ps).Pairwise (· < ·) := leaves_sorted
  exact List.Pairwise.map _ (fun a b h e => by
    have h : a < b := h
    have e : (a : Int) = (b : Int) := e
    omega) h
theorem dzip_ok {ps : List Nat} (hp : ps.length ≤ 11) {d : D} {c : Nat → Rat} (h : CL d ps c) : bi2D .dzip (.list (ni (leavesT ps))) d = some (.d (oddsD ps c)) := by
  have ll := lv_len hp
  have e : bi2D .dzip (.list (ni (leavesT ps))) d = (seqD d).bind fun ys => dzipD (ni (leavesT ps)) ys := by cases d <;> rfl
  rw [e, h, Option.bind_some]
  unfold dzipD
  rw [intsD_ni, Option.bind_some, if_pos ⟨lv_nodup ps, by rw [List.length_map]; unfold lim; omega⟩, zw_map]
  rfl
section
variable {F : Fn} {ps : List Nat}
def LotS (F : Fn) (k : Nat) (ps : List Nat) : Prop := ∀ (d : D) (a : Nat), TD d ps → F k none [d, .int (a : Nat)] = some (.d (.tuple (ni (lot ps a))), none)
def LotL (F : Fn) (k : Nat) (ps : List Nat) : Prop := ∀ (d : D) (a : Nat), TD d ps → F k none [d, .int (a : Nat)] = some (.o (ni (lot ps a)), none)
def BlS (F : Fn) (k : Nat) (ps : List Nat) : Prop := ∀ (d d2 : D) (c : Nat → Rat), TD d ps → CL d2 ps c → F k none [d, d2] = some (.d (oddsD ps c), none)
def SzL (ps : List Nat) (c : Nat → Rat) (n : Nat) : Prop := ∀ l ∈ leavesT ps, szq (c l) n
def NcS (F : Fn) (k : Nat) (ps : List Nat) : Prop := ∀ (d d2 : D) (c : Nat → Rat) (a : Nat), TD d ps → CL d2 ps c → SzL ps c 10 → F k none [d, d2, .int (a : Nat)] = some (.d (fq (pr ps c a)), none)
def MfS (F : Fn) (k : Nat) (ps : List Nat) : Prop := ∀ (d d2 d3 : D) (c v : Nat → Rat) (a : Nat), TD d ps → CL d2 ps c → CL d3 ps v → SzL ps c 10 → SzL ps v 60 → 0 < pr ps c a → F k none [d, d2, .int (a : Nat), d3] = some (.d (fq (gm ps c v a)), none)
theorem lot_sub {a l : Nat} (h : l ∈ lot ps a) : l ∈ leavesT ps := (List.mem_filter.mp h).1
theorem lot_len (hp : ps.length ≤ 11) (a : Nat) : (lot ps a).length ≤ 12 := Nat.le_trans (List.length_filter_le ..) (lv_len hp)
theorem byleaves_ok {k : Nat} (h6 : LvS F k ps) (hp : ps.length ≤ 11) {d d2 : D} {c : Nat → Rat} (h : TD d ps) (h2 : CL d2 ps c) : fin none (PV.execs F (b_by_leaves k) [some (.d d), some (.d d2)]) = some (.d (oddsD ps c), none) := by
  apply fin_of
  unfold b_by_leaves
  exact WSs.cons (WS.ret (WE.bi2 (WE.call (WL.cons (WE.var rfl (WL.nil ⟨_, rfl, _, h6 d h, WE.var rfl ⟨_, dzip_ok hp h2, rt_c (.inl rfl)⟩⟩))))))
theorem pr_sz {c : Nat → Rat} (hp : ps.length ≤ 11) (hz : SzL ps c 10) (a : Nat) : szq (pr ps c a) 133 := by
  have := szq_tot ((lot ps a).map c) (fun q hq => by
    obtain ⟨l, hl, rfl⟩ := List.mem_map.mp hq
    exact hz l (lot_sub hl))
  refine szq_mono this ?_
  rw [List.length_map]
  have := lot_len hp a
  omega
theorem wh_sz {c v : Nat → Rat} (hp : ps.length ≤ 11) (hz : SzL ps c 10) (hv : SzL ps v 60) (a : Nat) : szq (wh ps c v a) 900 := by
  have := szq_tot (n := 70) ((lot ps a).map fun l => c l * v l) (fun q hq => by
    obtain ⟨l, hl, rfl⟩ := List.mem_map.mp hq
    exact szq_mul (hz l (lot_sub hl)) (hv l (lot_sub hl)))
  refine szq_mono this ?_
  rw [List.length_map]
  have := lot_len hp a
  omega
theorem tot_lot {kt : Nat} (ht : TotS F kt) (hp : ps.length ≤ 11) (a : Nat) (f : Nat → Rat) (hz : ∀ l ∈ leavesT ps, szq (f l) 250) : F kt none [.list ((lot ps a).map fun l => fq (f l))] = some (.d (fq (tot ((lot ps a).map f))), none) := by
  refine ht ((lot ps a).map f) _ ?_ ?_ ?_
  · show some _ = some _
    rw [List.map_map]; rfl
  · intro q hq
    obtain ⟨l, hl, rfl⟩ := List.mem_map.mp hq
    exact hz l (lot_sub hl)
  · rw [List.length_map]
    have := lot_len hp a
    omega
theorem nodechance_ok {kb kt kl : Nat} (hb : BlS F kb ps) (ht : TotS F kt) (hl : LotS F kl ps) (hp : ps.length ≤ 11) {d d2 : D} {c : Nat → Rat} (a : Nat) (h : TD d ps) (h2 : CL d2 ps c) (hz : SzL ps c 10) :
    fin none (PV.execs F (b_node_chance kb kt kl) [some (.d d), some (.d d2), some (.d (.int (a : Nat))), none, none]) = some (.d (fq (pr ps c a)), none) := by
  have hll := lot_len hp a
  apply fin_of
  unfold b_node_chance
  refine WSs.cons (WS.set (WE.call (WL.cons (WE.var rfl (WL.cons (WE.var rfl (WL.nil ⟨_, rfl, _, hb d d2 c h h2, ?_⟩)))))))
  refine ⟨_, rfl, nx_c ?_⟩
  refine WSs.cons (WS.ret (WE.call (WL.cons ?_)))
  refine WE.comp (lot ps a) (fun (k : Nat) => .int k) (fun _ => true) (fun l => fq (c l)) ?_
  refine WI.seq (WE.call (WL.cons (WE.var rfl (WL.cons (WE.var rfl (WL.nil ⟨_, rfl, _, hl d a h, _, rfl, by rw [ni_len]; unfold lim; omega, rfl, ?_, ?_⟩))))))
  · intro l hl
    refine ⟨[some (.d d), some (.d d2), some (.d (.int (a : Nat))), some (.d (oddsD ps c)), some (.d (.int (l : Nat)))], rfl, WC.no ⟨rfl, fun _ => ?_, fun z => nomatch z⟩⟩
    exact WE.idx (WO.var rfl (WO.var rfl ⟨_, rfl, _, odds_idx c (lot_sub hl), rfl, rfl⟩))
  · rw [List.filter_eq_self.mpr fun _ _ => rfl]
    exact WL.nil ⟨_, rfl, _, tot_lot ht hp a c (fun l hl => szq_mono (hz l hl) (by decide)), rt_c (.inl rfl)⟩
theorem lchance_ok {k6 kt kl : Nat} (h6 : LvS F k6 ps) (ht : TotS F kt) (hl : LotL F kl ps) (hp : ps.length ≤ 11) {d d2 : D} {c : Nat → Rat} (a : Nat) (h : TD d ps) (h2 : CL d2 ps c) (hz : SzL ps c 10) :
    fin none (PV.execs F (b_law_chance k6 kt kl) [some (.d d), some (.d d2), some (.d (.int (a : Nat))), none, none]) = some (.d (fq (pr ps c a)), none) := by
  have hll := lot_len hp a
  apply fin_of
  unfold b_law_chance
  refine WSs.cons (WS.set (WE.bi2 (WE.call (WL.cons (WE.var rfl (WL.nil ⟨_, rfl, _, h6 d h, WE.var rfl ⟨_, dzip_ok hp h2, ?_⟩⟩))))))
  refine ⟨_, rfl, nx_c ?_⟩
  refine WSs.cons (WS.ret (WE.call (WL.cons ?_)))
  refine WE.comp (lot ps a) (fun (k : Nat) => .int k) (fun _ => true) (fun l => fq (c l)) ?_
  refine WI.seq (WE.call (WL.cons (WE.var rfl (WL.cons (WE.var rfl (WL.nil ⟨_, rfl, _, hl d a h, _, rfl, by rw [ni_len]; unfold lim; omega, rfl, ?_, ?_⟩))))))
  · intro l hl
    refine ⟨[some (.d d), some (.d d2), some (.d (.int (a : Nat))), some (.d (oddsD ps c)), some (.d (.int (l : Nat)))], rfl, WC.no ⟨rfl, fun _ => ?_, fun z => nomatch z⟩⟩
    exact WE.idx (WO.var rfl (WO.var rfl ⟨_, rfl, _, odds_idx c (lot_sub hl), rfl, rfl⟩))
  · rw [List.filter_eq_self.mpr fun _ _ => rfl]
    exact WL.nil ⟨_, rfl, _, tot_lot ht hp a c (fun l hl => szq_mono (hz l hl) (by decide)), rt_c (.inl rfl)⟩
theorem mulL {km : Nat} (hm : MulP F km) {c v : Nat → Rat} (hz : SzL ps c 10) (hv : SzL ps v 60) {l : Nat} (hl : l ∈ leavesT ps) : F km none [fq (c l), fq (v l)] = some (.d (fq (c l * v l)), none) := hm _ _ (szq_mono (hz l hl) (by decide)) (szq_mono (hv l hl) (by decide))
theorem mulZ {c v : Nat → Rat} (hz : SzL ps c 10) (hv : SzL ps v 60) {l : Nat} (hl : l ∈ leavesT ps) : szq (c l * v l) 250 := szq_mono (szq_mul (hz l hl) (hv l hl)) (by decide)
theorem meanfrom_ok {kb kl kt km kd kn : Nat} (hb : BlS F kb ps) (hl : LotS F kl ps) (ht : TotS F kt) (hm : MulP F km) (hd : QuoS F kd) (hn : NcS F kn ps) (hp : ps.length ≤ 11) {d d2 d3 : D} {c v : Nat → Rat} (a : Nat) (h : TD d ps) (h2 : CL d2 ps c) (h3 : CL d3 ps v) (hz : SzL ps c 10) (hv : SzL ps v 60) (h0 : 0 < pr ps c a) :
    fin none (PV.execs F (b_mean_from kb kl kt km kd kn) [some (.d d), some (.d d2), some (.d (.int (a : Nat))), some (.d d3), none, none, none, none, none]) = some (.d (fq (gm ps c v a)), none) := by
  have hll := lot_len hp a
  apply fin_of
  unfold b_mean_from
  refine WSs.cons (WS.par (WW.cons (WE.call (WL.cons (WE.var rfl (WL.cons (WE.var rfl (WL.nil ⟨_, rfl, _, hb d d2 c h h2, ?_⟩))))))))
  refine WW.cons (WE.call (WL.cons (WE.var rfl (WL.cons (WE.var rfl (WL.nil ⟨_, rfl, _, hb d d3 v h h3, WW.nil ?_⟩))))))
  refine ⟨[some (.d d), some (.d d2), some (.d (.int (a : Nat))), some (.d d3), none, none, some (.d (oddsD ps c)), some (.d (oddsD ps v)), none], rfl, nx_c ?_⟩
  refine WSs.cons (WS.set (WE.call (WL.cons (WE.var rfl (WL.cons (WE.var rfl (WL.nil ⟨_, rfl, _, hl d a h, ?_⟩)))))))
  refine ⟨[some (.d d), some (.d d2), some (.d (.int (a : Nat))), some (.d d3), some (.d (.tuple (ni (lot ps a)))), none, some (.d (oddsD ps c)), some (.d (oddsD ps v)), none], rfl, nx_c ?_⟩
  refine WSs.cons (WS.set (WE.call (WL.cons ?_)))
  refine WE.compD (lot ps a) (fun (k : Nat) => .int k) (fun _ => true) (fun l => fq (c l * v l)) rfl rfl (by unfold lim; omega) ?_ ?_
  · intro l hl
    refine ⟨[some (.d d), some (.d d2), some (.d (.int (a : Nat))), some (.d d3), some (.d (.tuple (ni (lot ps a)))), none, some (.d (oddsD ps c)), some (.d (oddsD ps v)), some (.d (.int (l : Nat)))], rfl, WC.no ⟨rfl, fun _ => ?_, fun z => nomatch z⟩⟩
    refine WE.call (WL.cons (WE.idx (WO.var rfl (WO.var rfl ⟨_, rfl, _, odds_idx c (lot_sub hl), ?_⟩))))
    refine WL.cons (WE.idx (WO.var rfl (WO.var rfl ⟨_, rfl, _, odds_idx v (lot_sub hl), WL.nil ⟨_, rfl, _, mulL hm hz hv (lot_sub hl), rfl, rfl⟩⟩)))
  rw [List.filter_eq_self.mpr fun _ _ => rfl]
  refine WL.nil ⟨_, rfl, _, tot_lot ht hp a (fun l => c l * v l) (fun l hl => mulZ hz hv hl), ?_⟩
  refine ⟨[some (.d d), some (.d d2), some (.d (.int (a : Nat))), some (.d d3), some (.d (.tuple (ni (lot ps a)))), some (.d (fq (wh ps c v a))), some (.d (oddsD ps c)), some (.d (oddsD ps v)), none], rfl, nx_c ?_⟩
  refine WSs.cons (WS.ret (WE.call (WL.cons (WE.var rfl (WL.cons (WE.call (WL.cons (WE.var rfl (WL.cons (WE.var rfl (WL.cons (WE.var rfl (WL.nil ⟨_, rfl, _, hn d d2 c a h h2 hz, ?_⟩)))))))))))))
  exact WL.nil ⟨_, rfl, _, hd _ _ (szq_mono (wh_sz hp hz hv a) (by decide)) (szq_mono (pr_sz hp hz a) (by decide)) h0, rt_c (.inl rfl)⟩
theorem lmeanat_ok {k6 kl kt km kd kn : Nat} (h6 : LvS F k6 ps) (ht : TotS F kt) (hl : LotL F kl ps) (hm : MulP F km) (hd : QuoS F kd) (hn : NcS F kn ps) (hp : ps.length ≤ 11) {d d2 d3 : D} {c v : Nat → Rat} (a : Nat) (h : TD d ps) (h2 : CL d2 ps c) (h3 : CL d3 ps v) (hz : SzL ps c 10) (hv : SzL ps v 60) (h0 : 0 < pr ps c a) :
    fin none (PV.execs F (b_law_mean_at k6 kt kl km kd kn) [some (.d d), some (.d d2), some (.d (.int (a : Nat))), some (.d d3), none, none, none, none]) = some (.d (fq (gm ps c v a)), none) := by
  have hll := lot_len hp a
  apply fin_of
  unfold b_law_mean_at
  refine WSs.cons (WS.par (WW.cons (WE.bi2 (WE.call (WL.cons (WE.var rfl (WL.nil ⟨_, rfl, _, h6 d h, WE.var rfl ⟨_, dzip_ok hp h2, ?_⟩⟩)))))))
  refine WW.cons (WE.bi2 (WE.call (WL.cons (WE.var rfl (WL.nil ⟨_, rfl, _, h6 d h, WE.var rfl ⟨_, dzip_ok hp h3, WW.nil ?_⟩⟩)))))
  refine ⟨[some (.d d), some (.d d2), some (.d (.int (a : Nat))), some (.d d3), none, some (.d (oddsD ps c)), some (.d (oddsD ps v)), none], rfl, nx_c ?_⟩
  refine WSs.cons (WS.set (WE.call (WL.cons ?_)))
  refine WE.comp (lot ps a) (fun (k : Nat) => .int k) (fun _ => true) (fun l => fq (c l * v l)) ?_
  refine WI.seq (WE.call (WL.cons (WE.var rfl (WL.cons (WE.var rfl (WL.nil ⟨_, rfl, _, hl d a h, _, rfl, by rw [ni_len]; unfold lim; omega, rfl, ?_, ?_⟩))))))
  · intro l hl
    refine ⟨[some (.d d), some (.d d2), some (.d (.int (a : Nat))), some (.d d3), none, some (.d (oddsD ps c)), some (.d (oddsD ps v)), some (.d (.int (l : Nat)))], rfl, WC.no ⟨rfl, fun _ => ?_, fun z => nomatch z⟩⟩
    refine WE.call (WL.cons (WE.idx (WO.var rfl (WO.var rfl ⟨_, rfl, _, odds_idx c (lot_sub hl), ?_⟩))))
    refine WL.cons (WE.idx (WO.var rfl (WO.var rfl ⟨_, rfl, _, odds_idx v (lot_sub hl), WL.nil ⟨_, rfl, _, mulL hm hz hv (lot_sub hl), rfl, rfl⟩⟩)))
  rw [List.filter_eq_self.mpr fun _ _ => rfl]
  refine WL.nil ⟨_, rfl, _, tot_lot ht hp a (fun l => c l * v l) (fun l hl => mulZ hz hv hl), ?_⟩
  refine ⟨[some (.d d), some (.d d2), some (.d (.int (a : Nat))), some (.d d3), some (.d (fq (wh ps c v a))), some (.d (oddsD ps c)), some (.d (oddsD ps v)), none], rfl, nx_c ?_⟩
  refine WSs.cons (WS.ret (WE.call (WL.cons (WE.var rfl (WL.cons (WE.call (WL.cons (WE.var rfl (WL.cons (WE.var rfl (WL.cons (WE.var rfl (WL.nil ⟨_, rfl, _, hn d d2 c a h h2 hz, ?_⟩)))))))))))))
  exact WL.nil ⟨_, rfl, _, hd _ _ (szq_mono (wh_sz hp hz hv a) (by decide)) (szq_mono (pr_sz hp hz a) (by decide)) h0, rt_c (.inl rfl)⟩
end
end PV
end

section
set_option Elab.async false
set_option linter.all false
set_option maxRecDepth 100000
set_option maxHeartbeats 2000000
set_option autoImplicit false
/-! MM5: seen games, next means -/
namespace PV
open PySem TR
def GD (d : D) (ps : List Nat) (g : Nat → Rat) : Prop := seqD d = some ((List.range (ps.length + 1)).map fun i => fq (g i))
def nx (ps : List Nat) (c g : Nat → Rat) (a : Nat) : Rat := tot ((kids ps a).map fun k => pr ps c k * g k) / pr ps c a
theorem seq_idx {d : D} {xs : List D} {i : Nat} {x : D} (h : seqD d = some xs) (hx : xs[i]? = some x) : idxD d (.int (i : Nat)) = some x := by
  cases d <;> first | (cases h; done) | (cases h; exact dAt_nat hx)
theorem gd_idx {d : D} {ps : List Nat} {g : Nat → Rat} (h : GD d ps g) {i : Nat} (hi : i ≤ ps.length) : idxD d (.int (i : Nat)) = some (fq (g i)) :=
  seq_idx h (by rw [List.getElem?_map, List.getElem?_range (by omega)]; rfl)
section
variable {F : Fn} {ps : List Nat}
def MnS (F : Fn) (k : Nat) (ps : List Nat) : Prop := ∀ (d2 d3 : D) (c v : Nat → Rat), CL d2 ps c → CL d3 ps v → SzL ps c 10 → SzL ps v 60 → F k none [d2, d3] = some (.d (fq (mn ps c v)), none)
def KidS (F : Fn) (k : Nat) (ps : List Nat) : Prop := ∀ (d : D) (a : Nat), TD d ps → F k none [d, .int (a : Nat)] = some (.o (ni (kids ps a)), none)
def NxS (F : Fn) (k : Nat) (ps : List Nat) : Prop := ∀ (d d2 d3 : D) (c g : Nat → Rat) (a : Nat), TD d ps → CL d2 ps c → GD d3 ps g → SzL ps c 10 → (∀ i, i ≤ ps.length → szq (g i) 60) → 0 < pr ps c a → kids ps a ≠ [] → F k none [d, d2, d3, .int (a : Nat)] = some (.d (fq (nx ps c g a)), none)
theorem meanof_ok {k : Nat} (hs : PsmS F k) (hp : ps.length ≤ 11) {d2 d3 : D} {c v : Nat → Rat} (h2 : CL d2 ps c) (h3 : CL d3 ps v) (hz : SzL ps c 10) (hv : SzL ps v 60) : fin none (PV.execs F (b_mean_of k) [some (.d d2), some (.d d3)]) = some (.d (fq (mn ps c v)), none) := by
  have ll := lv_len hp
  have hc := hs ((leavesT ps).map c) ((leavesT ps).map v) d2 d3 (by rw [List.map_map]; exact h2) (by rw [List.map_map]; exact h3)
    (fun p hp => by obtain ⟨l, hl, rfl⟩ := List.mem_map.mp hp; exact szq_mono (hz l hl) (by decide))
    (fun p hp => by obtain ⟨l, hl, rfl⟩ := List.mem_map.mp hp; exact szq_mono (hv l hl) (by decide)) (by rw [List.length_map]; omega) (by rw [List.length_map]; omega)
  have e : List.zipWith (· * ·) ((leavesT ps).map c) ((leavesT ps).map v) = (leavesT ps).map fun l => c l * v l := by
    induction leavesT ps with
    | nil => rfl
    | cons x xs ih => simp [ih]
  rw [e] at hc
  apply fin_of
  unfold b_mean_of
  exact WSs.cons (WS.ret (WE.call (WL.cons (WE.var rfl (WL.cons (WE.var rfl (WL.nil ⟨_, rfl, _, hc, rt_c (.inl rfl)⟩)))))))
theorem seengame_ok {k : Nat} (hm : MfS F k ps) (hp : ps.length ≤ 11) {d d2 d3 : D} {c v : Nat → Rat} (h : TD d ps) (h2 : CL d2 ps c) (h3 : CL d3 ps v) (hz : SzL ps c 10) (hv : SzL ps v 60) (h0 : ∀ a, a ≤ ps.length → 0 < pr ps c a) :
    fin none (PV.execs F (b_seen_game k) [some (.d d), some (.d d2), some (.d d3), none]) = some (.o ((List.range (ps.length + 1)).map fun a => fq (gm ps c v a)), none) := by
  apply fin_of
  unfold b_seen_game
  refine WSs.cons (WS.ret ?_)
  refine WE.comp (List.range (ps.length + 1)) (fun (k : Nat) => .int k) (fun _ => true) (fun a => fq (gm ps c v a)) ?_
  refine WI.rng (WE.cst (WE.bi1 (WO.var rfl ⟨_, h.len, ⟨0, ((ps.length + 1 : Nat) : Int), rfl, rfl, ⟨by omega, by omega, by omega, by omega⟩, rng_len ps, ?_, ?_⟩⟩)))
  · intro a ha
    have ha := List.mem_range.mp ha
    refine ⟨[some (.d d), some (.d d2), some (.d d3), some (.d (.int (a : Nat)))], rfl, WC.no ⟨rfl, fun _ => ?_, fun z => nomatch z⟩⟩
    exact WE.call (WL.cons (WE.var rfl (WL.cons (WE.var rfl (WL.cons (WE.var rfl (WL.cons (WE.var rfl (WL.nil ⟨_, rfl, _, hm d d2 d3 c v a h h2 h3 hz hv (h0 a (by omega)), rfl, rfl⟩)))))))))
  · rw [List.filter_eq_self.mpr fun _ _ => rfl]
    exact rt_c (.inl rfl)
theorem lseen_ok {k : Nat} (hm : MfS F k ps) (hp : ps.length ≤ 11) {d d2 d3 : D} {c v : Nat → Rat} (h : TD d ps) (h2 : CL d2 ps c) (h3 : CL d3 ps v) (hz : SzL ps c 10) (hv : SzL ps v 60) (h0 : ∀ a, a ≤ ps.length → 0 < pr ps c a) :
    fin none (PV.execs F (b_law_seen k) [some (.d d), some (.d d2), some (.d d3), none]) = some (.o ((List.range (ps.length + 1)).map fun a => fq (gm ps c v a)), none) := seengame_ok hm hp h h2 h3 hz hv h0
theorem kids_len (hp : ps.length ≤ 11) (a : Nat) : (kids ps a).length ≤ 11 := by
  unfold kids
  rw [List.length_map]
  refine Nat.le_trans (List.length_filter_le ..) ?_
  rw [List.length_range]
  exact hp
theorem kids_le {a : Nat} : ∀ k ∈ kids ps a, k ≤ ps.length := fun k hk => by
  obtain ⟨i, rfl, hi⟩ := mem_kids.mp hk
  have := (List.getElem?_eq_some_iff.mp hi).1
  omega
theorem nextof_ok {kc kn kd kt km : Nat} (hc : KidS F kc ps) (hn : NcS F kn ps) (hd : QuoS F kd) (ht : TotS F kt) (hm : MulP F km) (hp : ps.length ≤ 11) {d d2 d3 : D} {c g : Nat → Rat} (a : Nat) (h : TD d ps) (h2 : CL d2 ps c) (h3 : GD d3 ps g) (hz : SzL ps c 10) (hg : ∀ i, i ≤ ps.length → szq (g i) 60) (h0 : 0 < pr ps c a) (hk : kids ps a ≠ []) :
    fin none (PV.execs F (b_next_of kc kn kd kt km) [some (.d d), some (.d d2), some (.d d3), some (.d (.int (a : Nat))), none, none, none]) = some (.d (fq (nx ps c g a)), none) := by
  have kl := kids_len hp a
  apply fin_of
  unfold b_next_of
  refine WSs.cons (WS.par (WW.cons (WE.call (WL.cons (WE.var rfl (WL.cons (WE.var rfl (WL.nil ⟨_, rfl, _, hc d a h, ?_⟩))))))))
  refine WW.cons (WE.call (WL.cons (WE.var rfl (WL.cons (WE.var rfl (WL.cons (WE.var rfl (WL.nil ⟨_, rfl, _, hn d d2 c a h h2 hz, WW.nil ?_⟩))))))))
  refine ⟨[some (.d d), some (.d d2), some (.d d3), some (.d (.int (a : Nat))), some (.o (ni (kids ps a))), some (.d (fq (pr ps c a))), none], rfl, nx_c ?_⟩
  refine WSs.cons (WS.ifs (WE.or (WE.cmp (WO.var rfl (WO.of (WE.lst (WL.nil ⟨show (0 : Nat) ≤ lim from by decide, _, rfl, _, ⟨eqD_nil (kids_lt (by omega) a)⟩, ?_⟩)))))))
  rw [decide_eq_false hk]
  refine ⟨false, rfl, (fun z => nomatch z), fun _ => ?_⟩
  refine WE.cmp (WO.of (WE.idx (WO.var rfl (WO.of (WE.cst ⟨_, rfl, _, i0 _ _, WO.of (WE.cst ⟨_, rfl, _, eq_is _ _, ?_⟩)⟩)))))
  rw [decide_eq_false (show ¬ (pr ps c a).num = 0 by have := num_gt h0; omega)]
  refine ⟨false, rfl, (fun z => nomatch z), fun _ => WSs.nil (nx_c ?_)⟩
  refine WSs.cons (WS.ret (WE.call (WL.cons (WE.call (WL.cons ?_)))))
  refine WE.compO (kids ps a) (fun (k : Nat) => .int k) (fun _ => true) (fun k => fq (pr ps c k * g k)) rfl rfl (by unfold lim; omega) ?_ ?_
  · intro k hk
    have hk := kids_le k hk
    refine ⟨[some (.d d), some (.d d2), some (.d d3), some (.d (.int (a : Nat))), some (.o (ni (kids ps a))), some (.d (fq (pr ps c a))), some (.d (.int (k : Nat)))], rfl, WC.no ⟨rfl, fun _ => ?_, fun z => nomatch z⟩⟩
    refine WE.call (WL.cons (WE.call (WL.cons (WE.var rfl (WL.cons (WE.var rfl (WL.cons (WE.var rfl (WL.nil ⟨_, rfl, _, hn d d2 c k h h2 hz, ?_⟩)))))))))
    refine WL.cons (WE.idx (WO.var rfl (WO.var rfl ⟨_, rfl, _, gd_idx h3 hk, WL.nil ⟨_, rfl, _, hm _ _ (szq_mono (pr_sz hp hz k) (by decide)) (szq_mono (hg k hk) (by decide)), rfl, rfl⟩⟩)))
  rw [List.filter_eq_self.mpr fun _ _ => rfl]
  have hq : ∀ q ∈ (kids ps a).map fun k => pr ps c k * g k, szq q 250 := fun q hq => by
    obtain ⟨k, hk, rfl⟩ := List.mem_map.mp hq
    exact szq_mono (szq_mul (pr_sz hp hz k) (hg k (kids_le k hk))) (by decide)
  have hT := ht ((kids ps a).map fun k => pr ps c k * g k) (.list ((kids ps a).map fun k => fq (pr ps c k * g k))) (by show some _ = some _; rw [List.map_map]; rfl) hq (by rw [List.length_map]; omega)
  have hS : szq (tot ((kids ps a).map fun k => pr ps c k * g k)) 3900 := szq_mono (szq_tot _ hq) (by rw [List.length_map]; omega)
  refine WL.nil ⟨_, rfl, _, hT, ?_⟩
  exact WL.cons (WE.var rfl (WL.nil ⟨_, rfl, _, hd _ _ hS (szq_mono (pr_sz hp hz a) (by decide)) h0, rt_c (.inl rfl)⟩))
theorem inner_le : ∀ k ∈ innerT ps, k ≤ ps.length := fun k hk => by
  have := List.mem_range.mp (List.mem_filter.mp hk).1
  omega
theorem inner_kid {k : Nat} (hk : k ∈ innerT ps) : kids ps k ≠ [] := fun e => by
  rw [← inner_kids] at hk
  have := (List.mem_filter.mp hk).2
  rw [decide_eq_true e] at this
  exact nomatch this
theorem inner_len (hp : ps.length ≤ 11) : (innerT ps).length ≤ 12 := by
  have : (innerT ps).length ≤ (List.range (ps.length + 1)).length := List.length_filter_le ..
  rw [List.length_range] at this
  omega
def InS (F : Fn) (k : Nat) (ps : List Nat) : Prop := ∀ d, TD d ps → F k none [d] = some (.o (ni (innerT ps)), none)
/-- a game whose steps are none: next_steps -/
theorem nextsteps_ok {ki kn ks : Nat} (hi : InS F ki ps) (hn : NxS F kn ps) (hs : SubS F ks) (hp : ps.length ≤ 11) {d d2 d3 : D} {c g : Nat → Rat} (h : TD d ps) (h2 : CL d2 ps c) (h3 : GD d3 ps g) (hz : SzL ps c 10) (hg : ∀ i, i ≤ ps.length → szq (g i) 60) (h0 : ∀ a, a ≤ ps.length → 0 < pr ps c a) (hf : ∀ a ∈ innerT ps, nx ps c g a = g a) :
    fin none (PV.execs F (b_next_steps ki kn ks) [some (.d d), some (.d d2), some (.d d3), none, none, none]) = some (.o ((innerT ps).map fun _ => fq 0), none) := by
  have il := inner_len hp
  apply fin_of
  unfold b_next_steps
  refine WSs.cons (WS.set (WE.lst (WL.nil ⟨show (0 : Nat) ≤ lim from by decide, ?_⟩)))
  refine ⟨[some (.d d), some (.d d2), some (.d d3), some (.o []), none, none], rfl, nx_c ?_⟩
  refine WSs.cons (WS.fr (fun i E => ∃ z4 z5, NR z4 ∧ NR z5 ∧ E = [some (.d d), some (.d d2), some (.d d3), some (.o (((innerT ps).take i).map fun _ => fq 0)), z4, z5]) ?_)
  refine WI.seq (WE.call (WL.cons (WE.var rfl (WL.nil ⟨_, rfl, _, hi d h, _, rfl, by rw [ni_len]; unfold lim; omega, ?_⟩))))
  refine ⟨⟨none, none, .n, .n, rfl⟩, ?_, ?_⟩
  · rintro i x E hx ⟨z4, z5, g4, g5, rfl⟩
    rw [ni_get] at hx
    obtain ⟨a, ha, rfl⟩ := Option.map_eq_some_iff.mp hx
    have hm := List.mem_of_getElem? ha
    have hal := inner_le a hm
    have hi := (List.getElem?_eq_some_iff.mp ha).1
    refine ⟨[some (.d d), some (.d d2), some (.d d3), some (.o (((innerT ps).take i).map fun _ => fq 0)), some (.d (.int (a : Nat))), z5], put_nr rfl g4, ?_⟩
    have hc := hn d d2 d3 c g a h h2 h3 hz hg (h0 a hal) (inner_kid hm)
    rw [hf a hm] at hc
    refine WSs.cons (WS.set (WE.call (WL.cons (WE.var rfl (WL.cons (WE.var rfl (WL.cons (WE.var rfl (WL.cons (WE.var rfl (WL.nil ⟨_, rfl, _, hc, ?_⟩)))))))))))
    refine ⟨[some (.d d), some (.d d2), some (.d d3), some (.o (((innerT ps).take i).map fun _ => fq 0)), some (.d (.int (a : Nat))), some (.d (fq (g a)))], put_nr rfl g5, nx_c ?_⟩
    refine WSs.cons (WS.ifs (WE.cmp (WO.var rfl (WO.of (WE.cst ⟨_, rfl, true, ⟨rfl⟩, ?_⟩)))))
    refine ⟨true, rfl, fun _ => ?_, fun z => nomatch z⟩
    have hsub := hs (g a) (g a) (szq_mono (hg a hal) (by decide)) (szq_mono (hg a hal) (by decide))
    rw [Rat.sub_self] at hsub
    refine WSs.cons (WS.app rfl (WE.call (WL.cons (WE.var rfl (WL.cons (WE.idx (WO.var rfl (WO.var rfl ⟨_, rfl, _, gd_idx h3 hal, WL.nil ⟨_, rfl, _, hsub, ?_⟩⟩))))))))
    refine ⟨_, rfl, ?_, ?_⟩
    · rw [List.length_map, List.length_take]
      unfold lim
      omega
    refine nx_c (WSs.nil (nx_c (WSs.nil ⟨.inl rfl, some (.d (.int (a : Nat))), some (.d (fq (g a))), .d _, .d _, ?_⟩)))
    rw [List.take_add_one, ha, List.map_append]
    rfl
  · rintro E ⟨z4, z5, g4, g5, rfl⟩
    rw [ni_len, List.take_length]
    exact nx_c (WSs.cons (WS.retO rfl (rt_c (.inl rfl))))
theorem isfairof_ok {k : Nat} (hp : ps.length ≤ 11) {d d2 d3 : D} (hs : F k none [d, d2, d3] = some (.o ((innerT ps).map fun _ => fq 0), none)) :
    fin none (PV.execs F (b_is_fair_of k) [some (.d d), some (.d d2), some (.d d3), none]) = some (.d (.bool true), none) := by
  have il := inner_len hp
  apply fin_of
  unfold b_is_fair_of
  refine WSs.cons (WS.ret (WE.bi1 (WO.of ?_)))
  refine WE.comp (innerT ps) (fun _ => fq 0) (fun _ => true) (fun _ => .bool true) ?_
  refine WI.seq (WE.call (WL.cons (WE.var rfl (WL.cons (WE.var rfl (WL.cons (WE.var rfl (WL.nil ⟨_, rfl, _, hs, _, rfl, by rw [List.length_map]; unfold lim; omega, rfl, ?_, ?_⟩))))))))
  · intro a _
    refine ⟨[some (.d d), some (.d d2), some (.d d3), some (.d (fq 0))], rfl, WC.no ⟨rfl, fun _ => ?_, fun z => nomatch z⟩⟩
    refine WE.cmp (WO.of (WE.idx (WO.var rfl (WO.of (WE.cst ⟨_, rfl, _, i0 _ _, WO.of (WE.cst ⟨_, rfl, _, eq_is _ _, ?_⟩)⟩)))))
    exact ⟨rfl, rfl⟩
  · rw [List.filter_eq_self.mpr fun _ _ => rfl]
    exact ⟨_, all_true _, rt_c (.inl rfl)⟩
end
end PV
end

section
set_option Elab.async false
set_option linter.all false
set_option maxRecDepth 100000
set_option maxHeartbeats 2000000
set_option autoImplicit false
/-! MM6: the functions from outside -/
namespace PV
open PySem TR
section
variable {F : Fn} {ps : List Nat} {d d2 d3 : D} {w : W}
theorem chanceof_ok {k1 k2 k3 : Nat} {a : Nat} (h1 : F k1 none [d, d2] = some (.d .none, none)) (h2 : F k2 none [d, .int (a : Nat)] = some (.d .none, none)) (h3 : F k3 none [d, d2, .int (a : Nat)] = some (w, none)) (hw : w.frz = w := by rfl) :
    fin none (PV.execs F (b_chance_of k1 k2 k3) [some (.d d), some (.d d2), some (.d (.int (a : Nat)))]) = some (w, none) := by
  apply fin_of
  unfold b_chance_of
  refine WSs.cons (WS.ex (WE.call (WL.cons (WE.var rfl (WL.cons (WE.var rfl (WL.nil ⟨_, rfl, _, h1, nx_c ?_⟩)))))))
  refine WSs.cons (WS.ex (WE.call (WL.cons (WE.var rfl (WL.cons (WE.var rfl (WL.nil ⟨_, rfl, _, h2, nx_c ?_⟩)))))))
  exact WSs.cons (WS.ret (WE.call (WL.cons (WE.var rfl (WL.cons (WE.var rfl (WL.cons (WE.var rfl (WL.nil ⟨_, rfl, _, h3, rt_c (.inl (by rw [hw]))⟩)))))))))
theorem isfull_ok {k1 k2 : Nat} (h1 : F k1 none [d, d2] = some (.d .none, none)) (h2 : F k2 none [d2] = some (w, none)) (hw : w.frz = w := by rfl) :
    fin none (PV.execs F (b_is_full k1 k2) [some (.d d), some (.d d2)]) = some (w, none) := by
  apply fin_of
  unfold b_is_full
  refine WSs.cons (WS.ex (WE.call (WL.cons (WE.var rfl (WL.cons (WE.var rfl (WL.nil ⟨_, rfl, _, h1, nx_c ?_⟩)))))))
  exact WSs.cons (WS.ret (WE.call (WL.cons (WE.var rfl (WL.nil ⟨_, rfl, _, h2, rt_c (.inl (by rw [hw]))⟩)))))
theorem mean_ok {k1 k2 : Nat} (h1 : F k1 none [d, d2, d3] = some (.d .none, none)) (h2 : F k2 none [d2, d3] = some (w, none)) (hw : w.frz = w := by rfl) :
    fin none (PV.execs F (b_mean k1 k2) [some (.d d), some (.d d2), some (.d d3)]) = some (w, none) := by
  apply fin_of
  unfold b_mean
  refine WSs.cons (WS.ex (WE.call (WL.cons (WE.var rfl (WL.cons (WE.var rfl (WL.cons (WE.var rfl (WL.nil ⟨_, rfl, _, h1, nx_c ?_⟩)))))))))
  exact WSs.cons (WS.ret (WE.call (WL.cons (WE.var rfl (WL.cons (WE.var rfl (WL.nil ⟨_, rfl, _, h2, rt_c (.inl (by rw [hw]))⟩)))))))
theorem meanat_ok {k1 k2 k3 k4 k5 : Nat} {a : Nat} {q : Rat} (h1 : F k1 none [d, d2] = some (.d .none, none)) (h2 : F k2 none [d, .int (a : Nat)] = some (.d .none, none)) (h3 : F k3 none [d, d3] = some (.d .none, none)) (h4 : F k4 none [d, d2, .int (a : Nat)] = some (.d (fq q), none)) (h0 : 0 < q) (h5 : F k5 none [d, d2, .int (a : Nat), d3] = some (w, none)) (hw : w.frz = w := by rfl) :
    fin none (PV.execs F (b_mean_at k1 k2 k3 k4 k5) [some (.d d), some (.d d2), some (.d (.int (a : Nat))), some (.d d3)]) = some (w, none) := by
  apply fin_of
  unfold b_mean_at
  refine WSs.cons (WS.ex (WE.call (WL.cons (WE.var rfl (WL.cons (WE.var rfl (WL.nil ⟨_, rfl, _, h1, nx_c ?_⟩)))))))
  refine WSs.cons (WS.ex (WE.call (WL.cons (WE.var rfl (WL.cons (WE.var rfl (WL.nil ⟨_, rfl, _, h2, nx_c ?_⟩)))))))
  refine WSs.cons (WS.ex (WE.call (WL.cons (WE.var rfl (WL.cons (WE.var rfl (WL.nil ⟨_, rfl, _, h3, nx_c ?_⟩)))))))
  refine WSs.cons (WS.ifs (WE.cmp (WO.of (WE.idx (WO.of (WE.call (WL.cons (WE.var rfl (WL.cons (WE.var rfl (WL.cons (WE.var rfl (WL.nil ⟨_, rfl, _, h4, ?_⟩)))))))))))))
  refine WO.of (WE.cst ⟨_, rfl, _, i0 _ _, WO.of (WE.cst ⟨_, rfl, _, eq_is _ _, ?_⟩)⟩)
  rw [decide_eq_false (show ¬ q.num = 0 by have := num_gt h0; omega)]
  refine ⟨false, rfl, (fun z => nomatch z), fun _ => WSs.nil (nx_c ?_)⟩
  exact WSs.cons (WS.ret (WE.call (WL.cons (WE.var rfl (WL.cons (WE.var rfl (WL.cons (WE.var rfl (WL.cons (WE.var rfl (WL.nil ⟨_, rfl, _, h5, rt_c (.inl (by rw [hw]))⟩)))))))))))
theorem seen_ok {k1 k2 k3 : Nat} (h1 : F k1 none [d, d2, d3] = some (.d .none, none)) (h2 : F k2 none [d2] = some (.d .none, none)) (h3 : F k3 none [d, d2, d3] = some (w, none)) (hw : w.frz = w := by rfl) :
    fin none (PV.execs F (b_seen k1 k2 k3) [some (.d d), some (.d d2), some (.d d3)]) = some (w, none) := by
  apply fin_of
  unfold b_seen
  refine WSs.cons (WS.ex (WE.call (WL.cons (WE.var rfl (WL.cons (WE.var rfl (WL.cons (WE.var rfl (WL.nil ⟨_, rfl, _, h1, nx_c ?_⟩)))))))))
  refine WSs.cons (WS.ex (WE.call (WL.cons (WE.var rfl (WL.nil ⟨_, rfl, _, h2, nx_c ?_⟩)))))
  exact WSs.cons (WS.ret (WE.call (WL.cons (WE.var rfl (WL.cons (WE.var rfl (WL.cons (WE.var rfl (WL.nil ⟨_, rfl, _, h3, rt_c (.inl (by rw [hw]))⟩)))))))))
theorem nextmean_ok {k1 k2 k3 : Nat} {a : Nat} (h1 : F k1 none [d, d2, d3] = some (.d .none, none)) (h2 : F k2 none [d, .int (a : Nat)] = some (.d .none, none)) (h3 : F k3 none [d, d2, d3, .int (a : Nat)] = some (w, none)) (hw : w.frz = w := by rfl) :
    fin none (PV.execs F (b_next_mean k1 k2 k3) [some (.d d), some (.d d2), some (.d d3), some (.d (.int (a : Nat)))]) = some (w, none) := by
  apply fin_of
  unfold b_next_mean
  refine WSs.cons (WS.ex (WE.call (WL.cons (WE.var rfl (WL.cons (WE.var rfl (WL.cons (WE.var rfl (WL.nil ⟨_, rfl, _, h1, nx_c ?_⟩)))))))))
  refine WSs.cons (WS.ex (WE.call (WL.cons (WE.var rfl (WL.cons (WE.var rfl (WL.nil ⟨_, rfl, _, h2, nx_c ?_⟩)))))))
  exact WSs.cons (WS.ret (WE.call (WL.cons (WE.var rfl (WL.cons (WE.var rfl (WL.cons (WE.var rfl (WL.cons (WE.var rfl (WL.nil ⟨_, rfl, _, h3, rt_c (.inl (by rw [hw]))⟩)))))))))))
theorem isfair_ok {k1 k2 : Nat} (h1 : F k1 none [d, d2, d3] = some (.d .none, none)) (h2 : F k2 none [d, d2, d3] = some (w, none)) (hw : w.frz = w := by rfl) :
    fin none (PV.execs F (b_is_fair k1 k2) [some (.d d), some (.d d2), some (.d d3)]) = some (w, none) := by
  apply fin_of
  unfold b_is_fair
  refine WSs.cons (WS.ex (WE.call (WL.cons (WE.var rfl (WL.cons (WE.var rfl (WL.cons (WE.var rfl (WL.nil ⟨_, rfl, _, h1, nx_c ?_⟩)))))))))
  exact WSs.cons (WS.ret (WE.call (WL.cons (WE.var rfl (WL.cons (WE.var rfl (WL.cons (WE.var rfl (WL.nil ⟨_, rfl, _, h2, rt_c (.inl (by rw [hw]))⟩)))))))))
end
/-! ### the maths of seen games -/
section
variable {ps : List Nat} {c v : Nat → Rat}
theorem tot_pos {xs : List Rat} (h : ∀ x ∈ xs, 0 < x) (hn : xs ≠ []) : 0 < tot xs := by
  induction xs with
  | nil => exact absurd rfl hn
  | cons x xs ih =>
    by_cases e : xs = []
    · subst e
      rw [tot_one]
      exact h x (List.mem_cons_self ..)
    · have h1 := h x (List.mem_cons_self ..)
      have h2 := ih (fun y hy => h y (List.mem_cons_of_mem _ hy)) e
      show 0 < x + tot xs
      have := Rat.add_lt_add_left (c := x) |>.mpr h2
      rw [Rat.add_zero] at this
      refine Rat.lt_iff_le_and_not_ge.mpr ⟨Rat.le_trans (Rat.le_of_lt h1) (Rat.le_of_lt this), fun z => ?_⟩
      exact absurd (Rat.le_trans (Rat.le_of_lt this) z) (Rat.lt_iff_le_and_not_ge.mp h1).2
theorem tot_nn {xs : List Rat} (h : ∀ x ∈ xs, 0 ≤ x) : 0 ≤ tot xs := by
  induction xs with
  | nil => exact Rat.le_refl
  | cons x xs ih => exact Rat.add_nonneg (h x (List.mem_cons_self ..)) (ih fun y hy => h y (List.mem_cons_of_mem _ hy))
theorem lot_ne (vd : Valid ps) {a : Nat} (ha : a ≤ ps.length) : lot ps a ≠ [] := by
  obtain ⟨l, h1, h2⟩ := leaf_under vd (ps.length - a) a (Nat.le_refl _) ha
  intro e
  have : l ∈ lot ps a := List.mem_filter.mpr ⟨h1, decide_eq_true h2⟩
  rw [e] at this
  exact nomatch this
theorem pr_pos (vd : Valid ps) (hc : ∀ l ∈ leavesT ps, 0 < c l) {a : Nat} (ha : a ≤ ps.length) : 0 < pr ps c a := by
  refine tot_pos ?_ ?_
  · intro x hx
    obtain ⟨l, hl, rfl⟩ := List.mem_map.mp hx
    exact hc l (lot_sub hl)
  · intro e
    exact lot_ne vd ha (List.map_eq_nil_iff.mp e)
theorem gm_wh {a : Nat} (h : 0 < pr ps c a) : pr ps c a * gm ps c v a = wh ps c v a := by
  unfold gm
  have h0 : pr ps c a ≠ 0 := fun e => by rw [e] at h; exact absurd h (Rat.lt_irrefl)
  rw [Rat.mul_comm, Rat.div_mul_cancel h0]
/-- over parts of lots -/
theorem wh_flat {as : List Nat} {ls : List Nat} (hp : ((as.map (lot ps)).flatten).Perm ls) : tot (as.map (wh ps c v)) = tot (ls.map fun l => c l * v l) := by
  rw [← tot_perm (hp.map fun l => c l * v l), List.map_flatten, tot_flat, List.map_map, List.map_map]
  rfl
theorem nx_gm (vd : Valid ps) (hc : ∀ l ∈ leavesT ps, 0 < c l) {a : Nat} (ha : a ≤ ps.length) (hk : kids ps a ≠ []) : nx ps c (gm ps c v) a = gm ps c v a := by
  have e : (kids ps a).map (fun k => pr ps c k * gm ps c v k) = (kids ps a).map (wh ps c v) := List.map_congr_left fun k hk => gm_wh (pr_pos vd hc (kids_le k hk))
  unfold nx gm
  rw [show (kids ps a).map (fun k => pr ps c k * (wh ps c v k / pr ps c k)) = (kids ps a).map (wh ps c v) from e, wh_flat (kids_lots vd ha hk)]
  rfl
theorem level_gm (vd : Valid ps) (hc : ∀ l ∈ leavesT ps, 0 < c l) {t : Nat} (ht : ∀ l ∈ leavesT ps, t ≤ depth ps l) : tot ((level ps t).map fun a => pr ps c a * gm ps c v a) = mn ps c v := by
  have e : (level ps t).map (fun k => pr ps c k * gm ps c v k) = (level ps t).map (wh ps c v) := List.map_congr_left fun k hk => gm_wh (pr_pos vd hc (by
    have := List.mem_range.mp (List.mem_filter.mp hk).1
    omega))
  rw [e, wh_flat (level_lots vd ht)]
  rfl
theorem mn_lin {o : Nat → Rat} (m : Rat) : mn ps c (fun l => v l + m * o l) = mn ps c v + m * mn ps c o := by
  unfold mn
  rw [← tot_mul, List.map_map]
  induction leavesT ps with
  | nil => exact (Rat.zero_add 0).symm
  | cons x xs ih =>
    simp only [List.map_cons, tot, Function.comp_apply] at ih ⊢
    rw [ih, Rat.mul_add]
    have e : c x * (m * o x) = m * (c x * o x) := by rw [← Rat.mul_assoc, Rat.mul_comm (c x) m, Rat.mul_assoc]
    rw [e]
    generalize c x * v x = A
    generalize m * (c x * o x) = B
    generalize tot (List.map (fun l => c l * v l) xs) = C
    generalize tot (List.map ((fun x => m * x) ∘ fun l => c l * o l) xs) = D'
    rw [Rat.add_assoc, Rat.add_assoc, ← Rat.add_assoc B C, Rat.add_comm B C, Rat.add_assoc C B]
end
end PV
end

section
set_option Elab.async false
set_option linter.all false
set_option maxRecDepth 100000
set_option maxHeartbeats 2000000
set_option autoImplicit false
/-! MD0: draws, the laws' numbers as parameters -/
namespace PV
open PySem TR
/-- _law_pot: 0 script, 1 k, 2 digits -/
def b_law_pot (cp cq cr cs cu cm cn : Int) : CSs := (.cons (.set 2 (.ite (.cmp .lt (.var 1) (.bi1 .len (.var 0))) (.bi1 .abs (.idx (.var 0) (.var 1))) (.bin .add (.bin .mul (.cst (.int cp)) (.var 1)) (.cst (.int cq)))))
 (.cons (.ret (.lst (.cons (.bi2 .max2 (.cst (.int 0)) (.bin .sub (.var 2) (.bin .pow (.cst (.int 10)) (.cst (.int 18))))) (.cons (.bin .add (.bin .mod (.bi1 .int (.bin .add (.bin .add (.bin .mul (.bin .mod (.bi1 .int (.var 2)) (.cst (.int cm))) (.cst (.int cr))) (.bin .mul (.cst (.int cs)) (.var 1))) (.cst (.int cu)))) (.cst (.int cn))) (.cst (.int 1))) .nil))))
 .nil))
/-- _law_draw: 0 pot, 1 many, 2 digit -/
def b_law_draw (ca cb cm cd ce : Int) : CSs := (.cons (.ifs (.cmp .gt (.idx (.var 0) (.cst (.int 0))) (.cst (.int 0)))
 (.cons (.dvm 0 (.cst (.int 0)) 2 (.bi2 .divmod (.idx (.var 0) (.cst (.int 0))) (.var 1)))
 (.cons (.ret (.var 2))
 .nil))
 .nil)
 (.cons (.six 0 (.cst (.int 1)) (.bin .mod (.bi1 .int (.bin .add (.bin .mul (.idx (.var 0) (.cst (.int 1))) (.cst (.int ca))) (.cst (.int cb)))) (.cst (.int cm))))
 (.cons (.ret (.bin .mod (.bi1 .int (.bin .fdiv (.bin .mod (.bi1 .int (.bin .mul (.idx (.var 0) (.cst (.int 1))) (.idx (.var 0) (.cst (.int 1))))) (.cst (.int cd))) (.cst (.int ce)))) (.var 1)))
 .nil)))
/-- _law_pick: 0 pot, 1 some -/
def b_law_pick (i_law_draw : Nat) : CSs := (.cons (.ret (.idx (.var 1) (.callr i_law_draw (.var 0) (.cons (.bi1 .len (.var 1)) .nil))))
 .nil)
/-- _law_some: 0 pot, 1 size -/
def b_law_some (i_law_fraction i_law_draw i_law_pick : Nat) : CSs := (.cons (.ret (.call i_law_fraction (.cons (.bin .sub (.callr i_law_draw (.var 0) (.cons (.bin .add (.bin .mul (.cst (.int 2)) (.var 1)) (.cst (.int 1))) .nil)) (.var 1)) (.cons (.callr i_law_pick (.var 0) (.cons (.lst (.cons (.cst (.int 1)) (.cons (.cst (.int 1)) (.cons (.cst (.int 2)) .nil)))) .nil)) .nil)) [0, 1]))
 .nil)
/-- _law_values: 0 pot, 1 tree, 2 leaf -/
def b_law_values (i_law_leaves i_law_some : Nat) : CSs := (.cons (.ret (.comp [2] (.v 2) (.seq (.call i_law_leaves (.cons (.var 1) .nil) [0])) .no (.callr i_law_some (.var 0) (.cons (.cst (.int 6)) .nil))))
 .nil)
/-- _law_chances: 0 pot, 1 tree, 2 fully, 3 tops, 4 leaf, 5 top -/
def b_law_chances (i_law_leaves i_law_draw i_law_fraction : Nat) : CSs := (.cons (.set 3 (.comp [4] (.v 4) (.seq (.call i_law_leaves (.cons (.var 1) .nil) [0])) .no (.bin .add (.bi1 .int (.var 2)) (.callr i_law_draw (.var 0) (.cons (.cst (.int 4)) .nil)))))
 (.cons (.set 3 (.ite (.cmp .gt (.bi1 .sum (.var 3)) (.cst (.int 0))) (.var 3) (.rpt (.lst (.cons (.cst (.int 1)) .nil)) (.bi1 .len (.var 3)))))
 (.cons (.ret (.comp [5] (.v 5) (.own 3) .no (.call i_law_fraction (.cons (.var 5) (.cons (.bi1 .sum (.var 3)) .nil)) [0, 1])))
 .nil)))
/-- _law_tree: 0 pot, 1 most, 2 times, 3 time, 4 tree, 5 level, 6 late, 7 at, 8 node, 9 spare, 10 turn -/
def b_law_tree (i_law_draw : Nat) : CSs := (.cons (.par [4, 5] (.cons (.lst (.cons (.neg (.cst (.int 1))) .nil)) (.cons (.lst (.cons (.cst (.int 0)) .nil)) .nil)))
 (.cons (.fr (.v 3) (.rng (.cst (.int 0)) (.callr i_law_draw (.var 0) (.cons (.bin .add (.var 2) (.cst (.int 1))) .nil)))
 (.cons (.ifs (.cmp .le (.bin .add (.bi1 .len (.var 4)) (.bi1 .len (.var 5))) (.var 1))
 (.cons (.set 6 (.lst .nil))
 (.cons (.fr (.t (.cons (.v 7) (.cons (.v 8) .nil))) (.enum (.var 5))
 (.cons (.set 9 (.bin .sub (.bin .sub (.var 1) (.bi1 .len (.var 4))) (.bin .sub (.bi1 .len (.var 5)) (.var 7))))
 (.cons (.fr (.v 10) (.rng (.cst (.int 0)) (.bin .add (.cst (.int 1)) (.callr i_law_draw (.var 0) (.cons (.bi2 .min2 (.cst (.int 3)) (.bin .add (.var 9) (.cst (.int 1)))) .nil))))
 (.cons (.app 6 (.bi1 .len (.var 4)))
 (.cons (.app 4 (.var 8))
 .nil)))
 .nil)))
 (.cons (.set 5 (.var 6))
 .nil)))
 .nil)
 .nil))
 (.cons (.ret (.var 4))
 .nil)))
end PV
end

section
set_option Elab.async false
set_option linter.all false
set_option maxRecDepth 100000
set_option maxHeartbeats 2000000
set_option autoImplicit false
/-! MD1: the pot, its draws -/
namespace PV
open PySem TR
structure Pot (xs : List D) : Prop where
  ex : ∃ a b : Int, xs = [.int a, .int b] ∧ 0 ≤ a ∧ 0 ≤ b ∧ b < 2147483648
section
variable {F : Fn}
theorem draw_ok {ca cb cm cd ce : Int} (ha : ca.natAbs.log2 ≤ 20) (hm : 0 < cm) (hm2 : cm ≤ 2147483647) (hd : 0 < cd) (he : 0 < ce) (he2 : ce.natAbs.log2 < 9000) {xs : List D} (hp : Pot xs) {many : Int} (h1 : 1 ≤ many) (h2 : many < 1073741824) : ∃ (k : Int) (xs' : List D), fin (some xs) (PV.execs F (b_law_draw ca cb cm cd ce) [some (.r xs), some (.d (.int many)), none]) = some (.d (.int k), some xs') ∧ 0 ≤ k ∧ k < many ∧ Pot xs' := by
  obtain ⟨a, b, rfl, ha0, hb, hb2⟩ := hp.ex
  by_cases h0 : 0 < a
  · refine ⟨a % many, [.int (a / many), .int b], ?_, Int.emod_nonneg _ (by omega), Int.emod_lt_of_pos _ (by omega), ⟨_, _, rfl, Int.ediv_nonneg ha0 (by omega), hb, hb2⟩⟩
    apply fin_ofR
    unfold b_law_draw
    walk_at "ew"
    refine ⟨true, ⟨by show some (decide ((0 : Int) < a)) = _; rw [decide_eq_true h0]⟩, ?_⟩
    walk_at "ew"
    have e : bi2D .divmod (.int a) (.int many) = some (.d (.tuple [.int (a / many), .int (a % many)])) := by
      show (if 0 < many ∧ many < 1073741824 then some _ else none) = _
      rw [if_pos ⟨by omega, h2⟩]
    refine ⟨_, e, ?_⟩
    walk_at "ew"
    refine ⟨_, _, _, rfl, rfl, ?_⟩
    walk_at "ew"
    refine ⟨_, _, _, _, rfl, rfl, rfl, rfl, ?_⟩
    walk_at "ew"
    exact ⟨.inl rfl, rfl⟩
  · have l1 : b.natAbs < 2 ^ 31 := by omega
    have hb' : 0 ≤ (b * ca + cb) % cm := Int.emod_nonneg _ (by omega)
    have hb3 : (b * ca + cb) % cm < cm := Int.emod_lt_of_pos _ (by omega)
    generalize hc : (b * ca + cb) % cm = c at *
    have l2 : c.natAbs < 2 ^ 31 := by omega
    refine ⟨(c * c) % cd / ce % many, [.int a, .int c], ?_, Int.emod_nonneg _ (by omega), Int.emod_lt_of_pos _ (by omega), ⟨_, _, rfl, ha0, hb', by omega⟩⟩
    apply fin_ofR
    unfold b_law_draw
    walk_at "ew"
    refine ⟨false, ⟨by show some (decide ((0 : Int) < a)) = _; rw [decide_eq_false h0]⟩, ?_⟩
    walk_at "ew"
    refine ⟨_, mulD (by have := log_le l1; have := ha
                        omega), ?_⟩
    walk_at "ew"
    refine ⟨_, modD hm, ?_⟩
    rw [hc]
    refine ⟨_, rfl, WE.cst ⟨_, _, _, rfl, rfl, rfl, fun _ => ?_, fun z => absurd rfl z⟩⟩
    walk_at "ew"
    refine ⟨_, mulD (by have := log_le l2; omega), ?_⟩
    walk_at "ew"
    refine ⟨_, modD hd, ?_⟩
    walk_at "ew"
    refine ⟨_, fdivD he he2, ?_⟩
    walk_at "ew"
    refine ⟨_, modD (by omega), ?_⟩
    walk_at "ew"
    exact ⟨.inl rfl, rfl⟩
theorem pot_ok {cp cq cr cs cu cm cn : Int} (hpp : cp.natAbs.log2 ≤ 20) (hr : cr.natAbs.log2 ≤ 20) (hs : cs.natAbs.log2 ≤ 20) (hm : 0 < cm) (hm2 : cm ≤ 2147483647) (hn : 0 < cn) (hn2 : cn ≤ 2147483647) (ns : List Int) (k : Nat) (hk : k < 64) : ∃ xs, fin none (PV.execs F (b_law_pot cp cq cr cs cu cm cn) [some (.d (.list (ns.map .int))), some (.d (.int (k : Int))), none]) = some (.o xs, none) ∧ Pot xs := by
  have tail : ∀ (F : Fn) (c : Int), ∃ xs, Pot xs ∧ WE F (.lst (.cons (.bi2 .max2 (.cst (.int 0)) (.bin .sub (.var 2) (.bin .pow (.cst (.int 10)) (.cst (.int 18))))) (.cons (.bin .add (.bin .mod (.bi1 .int (.bin .add (.bin .add (.bin .mul (.bin .mod (.bi1 .int (.var 2)) (.cst (.int cm))) (.cst (.int cr))) (.bin .mul (.cst (.int cs)) (.var 1))) (.cst (.int cu)))) (.cst (.int cn))) (.cst (.int 1))) .nil)))
      [some (.d (.list (ns.map .int))), some (.d (.int (k : Int))), some (.d (.int c))] fun w _ => w = .o xs := by
    intro F c
    refine ⟨[.int (if c - 1000000000000000000 > 0 then c - 1000000000000000000 else 0), .int ((c % cm * cr + cs * (k : Int) + cu) % cn + 1)], ⟨_, _, rfl, ?_, ?_, ?_⟩, ?_⟩
    · split <;> omega
    · have := Int.emod_nonneg (c % cm * cr + cs * (k : Int) + cu) (show cn ≠ 0 by omega)
      omega
    · have := Int.emod_lt_of_pos (c % cm * cr + cs * (k : Int) + cu) hn
      omega
    · have hb1 := Int.emod_nonneg c (show cm ≠ 0 by omega)
      have hb2 := Int.emod_lt_of_pos c hm
      walk_at "ew"
      refine ⟨_, modD hm, ?_⟩
      walk_at "ew"
      refine ⟨_, mulD (by
        have h1 : (c % cm).natAbs < 2 ^ 31 := by omega
        have := log_le h1
        omega), ?_⟩
      walk_at "ew"
      refine ⟨_, mulD (by
        have h1 : (k : Int).natAbs < 2 ^ 6 := by omega
        have := log_le h1
        omega), ?_⟩
      walk_at "ew"
      refine ⟨_, modD hn, ?_⟩
      walk_at "ew"
      refine ⟨show (2 : Nat) ≤ lim from by decide, rfl⟩
  have fin2 : ∀ c : Int, (∃ xs, Pot xs ∧ WSs F (.cons (.ret (.lst (.cons (.bi2 .max2 (.cst (.int 0)) (.bin .sub (.var 2) (.bin .pow (.cst (.int 10)) (.cst (.int 18))))) (.cons (.bin .add (.bin .mod (.bi1 .int (.bin .add (.bin .add (.bin .mul (.bin .mod (.bi1 .int (.var 2)) (.cst (.int cm))) (.cst (.int cr))) (.bin .mul (.cst (.int cs)) (.var 1))) (.cst (.int cu)))) (.cst (.int cn))) (.cst (.int 1))) .nil)))) .nil)
      [some (.d (.list (ns.map .int))), some (.d (.int (k : Int))), some (.d (.int c))] fun f _ => f = .rt (.o xs) ∨ (f = .nx ∧ W.o xs = .d .none)) := fun c => by
    obtain ⟨xs, h1, w, E', h2, h3⟩ := tail F c
    subst h3
    refine ⟨xs, h1, ?_⟩
    refine WSs.cons (WS.ret ⟨_, _, h2, ?_⟩)
    walk_at "ew"
    exact .inl rfl
  have start : ∃ c : Int, WE F (.ite (.cmp .lt (.var 1) (.bi1 .len (.var 0))) (.bi1 .abs (.idx (.var 0) (.var 1))) (.bin .add (.bin .mul (.cst (.int cp)) (.var 1)) (.cst (.int cq)))) [some (.d (.list (ns.map .int))), some (.d (.int (k : Int))), none]
      fun w E => w = .d (.int c) ∧ E = [some (.d (.list (ns.map .int))), some (.d (.int (k : Int))), none] := by
    by_cases hl : k < ns.length
    · have hx : (ns.map PyData.int)[k]? = some (.int ns[k]) := by rw [List.getElem?_map, List.getElem?_eq_getElem hl]; rfl
      refine ⟨if ns[k] < 0 then -ns[k] else ns[k], ?_⟩
      walk_at "ew"
      refine ⟨true, ⟨by show some (decide ((k : Int) < ((ns.map PyData.int).length : Int))) = _; rw [List.length_map, decide_eq_true (by omega)]⟩, ?_⟩
      walk_at "ew"
      refine ⟨_, dAt_nat hx, ?_⟩
      walk_at "ew"
      exact ⟨rfl, rfl⟩
    · refine ⟨cp * (k : Int) + cq, ?_⟩
      walk_at "ew"
      refine ⟨false, ⟨by show some (decide ((k : Int) < ((ns.map PyData.int).length : Int))) = _; rw [List.length_map, decide_eq_false (by omega)]⟩, ?_⟩
      walk_at "ew"
      refine ⟨_, mulD (by
        have h1 : (k : Int).natAbs < 2 ^ 6 := by omega
        have := log_le h1
        have := hpp
        omega), ?_⟩
      walk_at "ew"
      exact ⟨rfl, rfl⟩
  obtain ⟨c, w, E, h1, rfl, rfl⟩ := start
  obtain ⟨xs, h2, h3⟩ := fin2 c
  refine ⟨xs, ?_, h2⟩
  apply fin_of
  unfold b_law_pot
  exact WSs.cons (WS.set ⟨_, _, h1, _, rfl, nx_c h3⟩)
end
end PV
end

section
set_option Elab.async false
set_option linter.all false
set_option maxRecDepth 100000
set_option maxHeartbeats 2000000
set_option autoImplicit false
/-! MD2: drawn fractions, values -/
namespace PV
open PySem TR
section
variable {F : Fn}
theorem fin_ofRX {α : Type} {b : CSs} {F : Fn} {E : DE} {xs : List D} (P : W → List D → Prop) (h : WSs F b E fun f E' => ∃ w xs', f = .rt w ∧ P w xs' ∧ E'[0]? = some (some (.r xs'))) : ∃ w xs', fin (some xs) (PV.execs F b E) = some (w, some xs') ∧ P w xs' := by
  obtain ⟨f, E', h1, w, xs', rfl, h2, h3⟩ := h
  refine ⟨w, xs', ?_, h2⟩
  rw [h1]
  have e : endP (some xs) E' = some (some xs') := by unfold endP; dsimp only; rw [h3]
  show (endP (some xs) E').map _ = _
  rw [e]; rfl
def DrS (F : Fn) (k : Nat) : Prop := ∀ xs, Pot xs → ∀ many : Nat, 1 ≤ many → many < 1000 → ∃ (j : Nat) (xs' : List D), F k (some xs) [.int (many : Nat)] = some (.d (.int (j : Nat)), some xs') ∧ j < many ∧ Pot xs'
def PkS (F : Fn) (k : Nat) : Prop := ∀ (xs ys : List D), Pot xs → ys ≠ [] → ys.length < 1000 → ∃ (x : D) (xs' : List D), F k (some xs) [.list ys] = some (.d x, some xs') ∧ x ∈ ys ∧ Pot xs'
/-- a small fraction -/
def smallq (q : Rat) (n : Nat) : Prop := q.num.natAbs ≤ n ∧ q.den ≤ 2
def SmS (F : Fn) (k : Nat) : Prop := ∀ (xs : List D) (n : Nat), Pot xs → n ≤ 100 → ∃ (q : Rat) (xs' : List D), F k (some xs) [.int (n : Nat)] = some (.d (fq q), some xs') ∧ smallq q n ∧ Pot xs'
def FrcS (F : Fn) (k : Nat) : Prop := RedP F k
theorem pick_ok {k : Nat} (hd : DrS F k) {xs ys : List D} (hp : Pot xs) (h1 : ys ≠ []) (h2 : ys.length < 1000) : ∃ (w : W) (xs' : List D), fin (some xs) (PV.execs F (b_law_pick k) [some (.r xs), some (.d (.list ys))]) = some (w, some xs') ∧ (∃ x, w = .d x ∧ x ∈ ys ∧ Pot xs') := by
  have hl : 1 ≤ ys.length := List.length_pos_iff.mpr h1
  obtain ⟨j, xs', d1, hj, p⟩ := hd xs hp ys.length hl h2
  refine fin_ofRX (α := Unit) (fun w xs' => ∃ x, w = .d x ∧ x ∈ ys ∧ Pot xs') ?_
  unfold b_law_pick
  refine WSs.cons (WS.ret (WE.idx (WO.var rfl (WO.of (WE.callrV rfl (WL.cons (WE.bi1 (WO.var rfl ⟨.d (.int (ys.length : Nat)), rfl, WL.nil ⟨_, rfl, _, _, d1, ?_⟩⟩))))))))
  exact ⟨_, rfl, _, dAt_nat (List.getElem?_eq_getElem hj), rt_c ⟨_, xs', rfl, ⟨_, rfl, List.getElem_mem hj, p⟩, rfl⟩⟩
theorem small_divInt {a b : Int} (h0 : b ≠ 0) : (Rat.divInt a b).num.natAbs ≤ a.natAbs ∧ (Rat.divInt a b).den ≤ b.natAbs := by
  constructor
  · rw [Rat.num_divInt, Int.natAbs_ediv_of_dvd (by
      refine Int.dvd_trans ?_ (Int.dvd_mul_left _ _)
      exact Int.gcd_dvd_right ..), Int.natAbs_mul, Int.natAbs_sign_of_ne_zero h0, Nat.one_mul]
    exact Nat.div_le_self _ _
  · rw [Rat.den_divInt, if_neg h0]
    exact Nat.div_le_self _ _
theorem small_lt {a : Int} {n : Nat} (h : a.natAbs ≤ n) (hn : n < 1000) : a.natAbs < 2 ^ 8000 := Nat.lt_of_le_of_lt h (Nat.lt_of_lt_of_le (show n < 2 ^ 10 from Nat.lt_trans hn (by decide)) (Nat.pow_le_pow_right (by decide) (by decide)))
theorem some_ok {kf kd kp : Nat} (hf : RedP F kf) (hd : DrS F kd) (hk : PkS F kp) {xs : List D} {n : Nat} (hp : Pot xs) (hn : n ≤ 100) : ∃ (w : W) (xs' : List D), fin (some xs) (PV.execs F (b_law_some kf kd kp) [some (.r xs), some (.d (.int (n : Nat)))]) = some (w, some xs') ∧ (∃ q, w = .d (fq q) ∧ smallq q n ∧ Pot xs') := by
  obtain ⟨j, x1, d1, hj, p1⟩ := hd xs hp (2 * n + 1) (by omega) (by omega)
  obtain ⟨y, x2, d2, hy, p2⟩ := hk x1 [.int 1, .int 1, .int 2] p1 (by simp) (by simp)
  obtain ⟨b, rfl, hb⟩ : ∃ b : Int, y = .int b ∧ (b = 1 ∨ b = 2) := by
    simp only [List.mem_cons, List.not_mem_nil, or_false] at hy
    rcases hy with rfl | rfl | rfl
    · exact ⟨1, rfl, .inl rfl⟩
    · exact ⟨1, rfl, .inl rfl⟩
    · exact ⟨2, rfl, .inr rfl⟩
  have ha : ((j : Int) - (n : Nat)).natAbs ≤ n := by omega
  have hc := hf ((j : Int) - (n : Nat)) b (by omega) (small_lt ha (by omega)) (small_lt (n := 2) (by omega) (by decide))
  have hs := small_divInt (a := (j : Int) - (n : Nat)) (b := b) (by omega)
  refine fin_ofRX (α := Unit) (fun w xs' => ∃ q, w = .d (fq q) ∧ smallq q n ∧ Pot xs') ?_
  unfold b_law_some
  have m2 : binD .mul (.int 2) (.int (n : Nat)) = some (.d (.int (2 * (n : Nat)))) := mulD (by
    have h1 : ((n : Nat) : Int).natAbs < 2 ^ 7 := by omega
    have := log_le h1
    have e2 : (2 : Int).natAbs.log2 ≤ 2 := by decide
    omega)
  refine WSs.cons (WS.ret (WE.call (WL.cons (WE.bin (WO.of (WE.callrV rfl (WL.cons (WE.bin (WO.of (WE.bin (WO.of (WE.cst (WO.var rfl ⟨_, rfl, _, m2, ?_⟩)))))))))))))
  refine WO.of (WE.cst ⟨_, rfl, .d (.int ((2 * n + 1 : Nat) : Int)), rfl, WL.nil ⟨_, rfl, _, _, d1, ?_⟩⟩)
  refine WO.var rfl ⟨_, rfl, .d (.int ((j : Int) - (n : Nat))), rfl, ?_⟩
  refine WL.cons (WE.callrV rfl (WL.cons (WE.lst (WL.cons (WE.cst (WL.cons (WE.cst (WL.cons (WE.cst (WL.nil ⟨show (3 : Nat) ≤ lim from by decide, ?_⟩))))))))))
  refine WL.nil ⟨_, rfl, _, _, d2, WL.nil ⟨_, rfl, _, hc, rt_c ⟨_, x2, rfl, ⟨_, rfl, ⟨Nat.le_trans hs.1 ha, Nat.le_trans hs.2 (by omega)⟩, p2⟩, rfl⟩⟩⟩
theorem smallq.sz {q : Rat} {n : Nat} (h : smallq q n) (hn : n < 1000) : szq q 10 := ⟨Nat.lt_of_le_of_lt h.1 (by omega), Nat.lt_of_le_of_lt h.2 (by decide)⟩
/-- drawn values -/
theorem values_ok {kl ks : Nat} {ps : List Nat} (h6 : LvS F kl ps) (hs : SmS F ks) {d : D} (h : TD d ps) (hp : ps.length ≤ 11) {xs : List D} (p : Pot xs) : ∃ (w : W) (xs' : List D), fin (some xs) (PV.execs F (b_law_values kl ks) [some (.r xs), some (.d d), none]) = some (w, some xs') ∧ (∃ vs : List Rat, w = .o (vs.map fq) ∧ vs.length = (leavesT ps).length ∧ (∀ v ∈ vs, smallq v 6) ∧ Pot xs') := by
  have ll := lv_len hp
  refine fin_ofRX (α := Unit) (fun w xs' => ∃ vs : List Rat, w = .o (vs.map fq) ∧ vs.length = (leavesT ps).length ∧ (∀ v ∈ vs, smallq v 6) ∧ Pot xs') ?_
  unfold b_law_values
  refine WSs.cons (WS.ret ?_)
  refine WE.compI (fun i acc E => ∃ (vs : List Rat) (xs' : List D), Pot xs' ∧ vs.length = i ∧ (∀ v ∈ vs, smallq v 6) ∧ acc = vs.map fq ∧ E = [some (.r xs'), some (.d d), none]) ?_
  refine WI.seq (WE.call (WL.cons (WE.var rfl (WL.nil ⟨_, rfl, _, h6 d h, _, rfl, by rw [ni_len]; unfold lim; omega, ?_⟩))))
  refine ⟨⟨[], xs, p, rfl, (fun _ z => nomatch z), rfl, rfl⟩, ?_, ?_⟩
  · rintro i x acc E hx ⟨vs, xs, p, hl, hv, rfl, rfl⟩
    obtain ⟨q, x1, d1, hq, p1⟩ := hs xs 6 p (by decide)
    refine ⟨[some (.r xs), some (.d d), some (.d x)], rfl, WC.no ⟨fun _ => ?_, fun z => (nomatch z)⟩⟩
    refine WE.callrV rfl (WL.cons (WE.cst (WL.nil ⟨_, rfl, _, _, d1, ?_⟩)))
    refine ⟨vs ++ [q], x1, p1, by rw [List.length_append, hl]; rfl, ?_, by rw [List.map_append]; rfl, rfl⟩
    intro v hv'
    rcases List.mem_append.mp hv' with h | h
    · exact hv v h
    · rw [List.mem_singleton.mp h]; exact hq
  · rintro ys E ⟨vs, x1, p1, hl, hv, rfl, rfl⟩
    rw [ni_len] at hl
    exact rt_c ⟨_, x1, rfl, ⟨vs, rfl, hl, hv, p1⟩, rfl⟩
end
end PV
end

section
set_option Elab.async false
set_option linter.all false
set_option maxRecDepth 100000
set_option maxHeartbeats 2000000
set_option autoImplicit false
/-! MD3: drawn chances -/
namespace PV
open PySem TR
section
variable {F : Fn}
theorem sum_cast (ts : List Nat) : (ts.map fun (k : Nat) => (k : Int)).sum = ((ts.sum : Nat) : Int) := by
  induction ts with
  | nil => rfl
  | cons t ts ih => simp [ih]
theorem sum_ni (ts : List Nat) : bi1D .sum (.list (ni ts)) = some (.d (.int (ts.sum : Nat))) := by
  show (intsD (ni ts)).map (fun ns => W.d (.int ns.sum)) = _
  rw [intsD_ni, Option.map_some, sum_cast]
/-- tops of chances -/
structure Tops (ps ts : List Nat) (b : Bool) : Prop where
  len : ts.length = (leavesT ps).length
  most : ∀ t ∈ ts, t ≤ 4
  full : b = true → ∀ t ∈ ts, 1 ≤ t
  pos : 0 < ts.sum
theorem sum_le {ts : List Nat} (h : ∀ t ∈ ts, t ≤ 4) : ts.sum ≤ 4 * ts.length := by
  induction ts with
  | nil => simp
  | cons t ts ih =>
    have := h t (List.mem_cons_self ..)
    have := ih fun x hx => h x (List.mem_cons_of_mem _ hx)
    simp only [List.sum_cons, List.length_cons]
    omega
def chq (ts : List Nat) (t : Nat) : Rat := Rat.divInt (t : Nat) ((ts.sum : Nat) : Int)
theorem chances_end {kf : Nat} (hf : RedP F kf) {ps ts : List Nat} {b : Bool} {d : D} (hp : ps.length ≤ 11) (h : Tops ps ts b) {xs : List D} {z : W} (hz : z = .o (ni ts) ∨ z = .d (.list (ni ts))) {Q : W → DE → Prop}
    (q : Q (.o (ts.map fun t => fq (chq ts t))) [some (.r xs), some (.d d), some (.d (.bool b)), some z, none, none]) :
    WE F (.comp [5] (.v 5) (.own 3) .no (.call kf (.cons (.var 5) (.cons (.bi1 .sum (.var 3)) .nil)) [0, 1])) [some (.r xs), some (.d d), some (.d (.bool b)), some z, none, none] Q := by
  have ll := lv_len hp
  have hl := h.len
  have hs := sum_le h.most
  have turn : ∀ t ∈ ts, F kf none [.int (t : Nat), .int (ts.sum : Nat)] = some (.d (fq (chq ts t)), none) := fun t ht => by
    have h1 := h.most t ht
    have h2 := h.pos
    refine hf (t : Nat) (ts.sum : Nat) (by omega) (small_lt (n := 4) (by omega) (by decide)) (small_lt (n := 48) (by omega) (by decide))
  rcases hz with rfl | rfl
  · refine WE.compO ts (fun (k : Nat) => .int k) (fun _ => true) (fun t => fq (chq ts t)) rfl rfl (by unfold lim; omega) ?_ ?_
    · intro t ht
      refine ⟨[some (.r xs), some (.d d), some (.d (.bool b)), some (.o (ni ts)), none, some (.d (.int (t : Nat)))], rfl, WC.no ⟨rfl, fun _ => ?_, fun z => nomatch z⟩⟩
      exact WE.call (WL.cons (WE.var rfl (WL.cons (WE.bi1 (WO.var rfl ⟨_, sum_ni ts, WL.nil ⟨_, rfl, _, turn t ht, rfl, rfl⟩⟩)))))
    · rw [List.filter_eq_self.mpr fun _ _ => rfl]
      exact q
  · refine WE.compD ts (fun (k : Nat) => .int k) (fun _ => true) (fun t => fq (chq ts t)) rfl rfl (by unfold lim; omega) ?_ ?_
    · intro t ht
      refine ⟨[some (.r xs), some (.d d), some (.d (.bool b)), some (.d (.list (ni ts))), none, some (.d (.int (t : Nat)))], rfl, WC.no ⟨rfl, fun _ => ?_, fun z => nomatch z⟩⟩
      exact WE.call (WL.cons (WE.var rfl (WL.cons (WE.bi1 (WO.var rfl ⟨_, sum_ni ts, WL.nil ⟨_, rfl, _, turn t ht, rfl, rfl⟩⟩)))))
    · rw [List.filter_eq_self.mpr fun _ _ => rfl]
      exact q
theorem chances_ok {kl kd kf : Nat} {ps : List Nat} (h6 : LvS F kl ps) (hd : DrS F kd) (hf : RedP F kf) {d : D} (h : TD d ps) (hp : ps.length ≤ 11) (vd : leavesT ps ≠ []) {xs : List D} {b : Bool} (p : Pot xs) : ∃ (w : W) (xs' : List D), fin (some xs) (PV.execs F (b_law_chances kl kd kf) [some (.r xs), some (.d d), some (.d (.bool b)), none, none, none]) = some (w, some xs') ∧ (∃ ts, w = .o (ts.map fun t => fq (chq ts t)) ∧ Tops ps ts b ∧ Pot xs') := by
  have ll := lv_len hp
  refine fin_ofRX (α := Unit) (fun w xs' => ∃ ts, w = .o (ts.map fun t => fq (chq ts t)) ∧ Tops ps ts b ∧ Pot xs') ?_
  unfold b_law_chances
  refine WSs.cons (WS.set ?_)
  refine WE.compI (fun i acc E => ∃ (ts : List Nat) (xs' : List D), Pot xs' ∧ ts.length = i ∧ (∀ t ∈ ts, t ≤ 4) ∧ (b = true → ∀ t ∈ ts, 1 ≤ t) ∧ acc = ni ts ∧ E = [some (.r xs'), some (.d d), some (.d (.bool b)), none, none, none]) ?_
  refine WI.seq (WE.call (WL.cons (WE.var rfl (WL.nil ⟨_, rfl, _, h6 d h, _, rfl, by rw [ni_len]; unfold lim; omega, ?_⟩))))
  refine ⟨⟨[], xs, p, rfl, (fun _ z => nomatch z), (fun _ _ z => nomatch z), rfl, rfl⟩, ?_, ?_⟩
  · rintro i x acc E hx ⟨ts, xs, p, hl, ht, hb, rfl, rfl⟩
    obtain ⟨j, x1, d1, hj, p1⟩ := hd xs p 4 (by decide) (by decide)
    refine ⟨[some (.r xs), some (.d d), some (.d (.bool b)), none, some (.d x), none], rfl, WC.no ⟨fun _ => ?_, fun z => (nomatch z)⟩⟩
    refine WE.bin (WO.of (WE.bi1 (WO.var rfl ⟨.d (.int (if b then 1 else 0)), rfl, WO.of (WE.callrV rfl (WL.cons (WE.cst (WL.nil ⟨_, rfl, _, _, d1, ?_⟩))))⟩)))
    refine ⟨_, rfl, .d (.int (((if b then 1 else 0) + j : Nat) : Int)), by cases b <;> (show some _ = some _; congr 3), ?_⟩
    refine ⟨ts ++ [(if b then 1 else 0) + j], x1, p1, by rw [List.length_append, hl]; rfl, ?_, ?_, (ni_append ts [_]).symm, rfl⟩
    · intro t ht'
      rcases List.mem_append.mp ht' with h | h
      · exact ht t h
      · rw [List.mem_singleton.mp h]; split <;> omega
    · intro hb' t ht'
      rcases List.mem_append.mp ht' with h | h
      · exact hb hb' t h
      · rw [List.mem_singleton.mp h, if_pos hb']; omega
  rintro ys E ⟨ts, x1, p1, hl, ht, hb, rfl, rfl⟩
  rw [ni_len] at hl
  refine ⟨[some (.r x1), some (.d d), some (.d (.bool b)), some (.o (ni ts)), none, none], rfl, nx_c ?_⟩
  refine WSs.cons (WS.set (WE.ite (WE.cmp (WO.of (WE.bi1 (WO.var rfl ⟨_, sum_ni ts, WO.of (WE.cst ⟨_, rfl, _, gt_is _ _, ?_⟩)⟩))))))
  refine ⟨_, rfl, fun hp0 => ?_, fun hp0 => ?_⟩
  · have hpos : 0 < ts.sum := by have := of_decide_eq_true hp0; omega
    refine WE.varO rfl ?_
    refine ⟨[some (.r x1), some (.d d), some (.d (.bool b)), some (.d (.list (ni ts))), none, none], rfl, nx_c ?_⟩
    exact WSs.cons (WS.ret (chances_end hf hp ⟨hl, ht, hb, hpos⟩ (.inr rfl) (rt_c ⟨_, x1, rfl, ⟨ts, rfl, ⟨hl, ht, hb, hpos⟩, p1⟩, rfl⟩)))
  · have hr : (List.replicate (((ts.length : Nat) : Int)).toNat [PyData.int 1]).flatten = ni (List.replicate ts.length 1) := by
      rw [Int.toNat_natCast]
      induction ts.length with
      | zero => rfl
      | succ n ih => rw [List.replicate_succ, List.flatten_cons, ih]; rfl
    have tp : Tops ps (List.replicate ts.length 1) b := ⟨by rw [List.length_replicate, hl], fun t ht => by rw [List.eq_of_mem_replicate ht]; decide, fun _ t ht => by rw [List.eq_of_mem_replicate ht]; exact Nat.le_refl _, by
      rw [List.sum_replicate_nat, hl]
      have := List.length_pos_iff.mpr vd
      omega⟩
    refine WE.rpt (WE.lst (WL.cons (WE.cst (WL.nil ⟨show (1 : Nat) ≤ lim from by decide, ?_⟩))))
    refine WE.bi1 (WO.var rfl ⟨.d (.int (ts.length : Nat)), by show some (W.d (.int ((ni ts).length : Nat))) = _; rw [ni_len], ?_⟩)
    refine ⟨_, _, rfl, rfl, ⟨by omega, by show 1 * _ ≤ lim; unfold lim; omega, by omega⟩, ?_⟩
    show ∃ E2, put _ 3 (.o (List.replicate (((ts.length : Nat) : Int)).toNat [PyData.int 1]).flatten) = some E2 ∧ _
    rw [hr]
    refine ⟨[some (.r x1), some (.d d), some (.d (.bool b)), some (.o (ni (List.replicate ts.length 1))), none, none], rfl, nx_c ?_⟩
    exact WSs.cons (WS.ret (chances_end hf hp tp (.inl rfl) (rt_c ⟨_, x1, rfl, ⟨_, rfl, tp, p1⟩, rfl⟩)))
end
end PV
end

section
set_option Elab.async false
set_option linter.all false
set_option maxRecDepth 100000
set_option maxHeartbeats 2000000
set_option autoImplicit false
/-! MM7: what the functions from outside promise -/
namespace PV
open PySem TR
def TimS (F : Fn) (k : Nat) (ps : List Nat) : Prop := ∀ d, TD d ps → F k none [d] = some (.o (ni (times ps)), none)
def TruS (F : Fn) (k : Nat) (ps : List Nat) : Prop := ∀ d, TD d ps → F k none [d] = some (.d (.bool true), none)
def OkS (F : Fn) (k : Nat) (ps : List Nat) : Prop := ∀ d, TD d ps → F k none [d] = some (.d .none, none)
def NodS (F : Fn) (k : Nat) (ps : List Nat) : Prop := ∀ (d : D) (a : Nat), TD d ps → a ≤ ps.length → F k none [d, .int (a : Nat)] = some (.d .none, none)
def AcS (F : Fn) (k : Nat) (ps : List Nat) : Prop := ∀ (d d2 : D) (cs : List Rat), TD d ps → seqD d2 = some (cs.map fq) → CD ps cs → F k none [d, d2] = some (.d (.bool true), none)
def CcS (F : Fn) (k : Nat) (ps : List Nat) : Prop := ∀ (d d2 : D) (cs : List Rat), TD d ps → seqD d2 = some (cs.map fq) → CD ps cs → F k none [d, d2] = some (.d .none, none)
def AnmS (F : Fn) (k : Nat) : Prop := ∀ (d : D) (cs : List Rat) (m : Int), seqD d = some (cs.map fq) → cs.length ≤ 15 → m = (cs.length : Nat) → (∀ c ∈ cs, short c) → F k none [d, .int m] = some (.d (.bool true), none)
def VaS (F : Fn) (k : Nat) (ps : List Nat) : Prop := ∀ (d d2 : D) (vs : List Rat), TD d ps → seqD d2 = some (vs.map fq) → vs.length = (leavesT ps).length → (∀ c ∈ vs, short c) → F k none [d, d2] = some (.d .none, none)
def GaS (F : Fn) (k : Nat) (ps : List Nat) : Prop := ∀ (d d2 : D) (gs : List Rat), TD d ps → seqD d2 = some (gs.map fq) → gs.length = ps.length + 1 → (∀ c ∈ gs, short c) → F k none [d, d2] = some (.d .none, none)
def PzS (F : Fn) (k : Nat) (ps : List Nat) : Prop := ∀ (d d2 d3 : D) (cs vs : List Rat), TD d ps → seqD d2 = some (cs.map fq) → CD ps cs → seqD d3 = some (vs.map fq) → vs.length = (leavesT ps).length → (∀ c ∈ vs, short c) → F k none [d, d2, d3] = some (.d .none, none)
def PlS (F : Fn) (k : Nat) (ps : List Nat) : Prop := ∀ (d d2 d3 : D) (cs gs : List Rat), TD d ps → seqD d2 = some (cs.map fq) → CD ps cs → seqD d3 = some (gs.map fq) → gs.length = ps.length + 1 → (∀ c ∈ gs, short c) → F k none [d, d2, d3] = some (.d .none, none)
def FuS (F : Fn) (k : Nat) : Prop := ∀ (d : D) (cs : List Rat), seqD d = some (cs.map fq) → cs.length ≤ 15 → F k none [d] = some (.d (.bool (cs.all fun c => decide (0 < c))), none)
theorem cd_len {ps : List Nat} {cs : List Rat} (c : CD ps cs) (hp : ps.length ≤ 11) : cs.length ≤ 15 := by
  have := lv_len hp
  rw [c.len]; omega
end PV
end

section
set_option Elab.async false
set_option linter.all false
set_option maxRecDepth 100000
set_option maxHeartbeats 2000000
set_option autoImplicit false
/-! MD4: drawn trees, time by time -/
namespace PV
open PySem TR
def lv (a w : Nat) : List Nat := (List.range w).map (a + ·)
theorem lvr_len (a w : Nat) : (lv a w).length = w := by simp [lv]
theorem mem_lv {a w k : Nat} : k ∈ lv a w ↔ a ≤ k ∧ k < a + w := by
  unfold lv
  rw [List.mem_map]
  constructor
  · rintro ⟨i, hi, rfl⟩
    have := List.mem_range.mp hi
    omega
  · rintro ⟨h1, h2⟩
    exact ⟨k - a, List.mem_range.mpr (by omega), by omega⟩
theorem lv_sorted (a w : Nat) : (lv a w).Pairwise (· < ·) := by
  unfold lv
  rw [List.pairwise_map]
  exact List.pairwise_lt_range.imp fun h => by omega
theorem rng_lv (a w : Nat) : rngD (a : Int) ((a + w : Nat) : Int) = ni (lv a w) := by
  rw [rng_ni]
  have e : a + w - a = w := by omega
  rw [e]; rfl
/-- sorted numbers, some alike -/
def en11 (z0 z3 z4 z5 z6 z7 z8 z9 z10 : Option W) : DE := [z0, some (.d (.int 12)), some (.d (.int 3)), z3, z4, z5, z6, z7, z8, z9, z10]
theorem lv_snoc (a m : Nat) : ni (lv a m) ++ [PyData.int ((a + m : Nat) : Int)] = ni (lv a (m + 1)) := by
  unfold lv
  rw [List.range_succ, List.map_append, ni_append]
  rfl
theorem td_snoc (qs : List Nat) (k : Nat) : td qs ++ [PyData.int (k : Nat)] = td (qs ++ [k]) := by
  unfold td
  rw [ni_append]; rfl
section
variable {F : Fn}
/-- the inmost loop: k nodes below node a -/
theorem grow_in {qs rs : List Nat} {a m : Nat} {z0 z3 z5 z7 z9 : Option W} (hl : qs.length + rs.length + m ≤ 11) {it : CI} {z0' : Option W} {z10 : Option W} (h10 : NR z10)
    (hit : ∀ Q : List D → DE → Prop, Q (ni (List.range m)) (en11 z0' z3 (some (.o (td (qs ++ rs)))) z5 (some (.o (ni (lv (qs.length + 1) rs.length)))) z7 (some (.d (.int (a : Nat)))) z9 z10) → WI F it (en11 z0 z3 (some (.o (td (qs ++ rs)))) z5 (some (.o (ni (lv (qs.length + 1) rs.length)))) z7 (some (.d (.int (a : Nat)))) z9 z10) Q)
    {R : Fl → DE → Prop} (q : ∀ z10', NR z10' → R .nx (en11 z0' z3 (some (.o (td (qs ++ (rs ++ List.replicate m a))))) z5 (some (.o (ni (lv (qs.length + 1) (rs.length + m))))) z7 (some (.d (.int (a : Nat)))) z9 z10')) :
    WS F (.fr (.v 10) it (.cons (.app 6 (.bi1 .len (.var 4))) (.cons (.app 4 (.var 8)) .nil))) (en11 z0 z3 (some (.o (td (qs ++ rs)))) z5 (some (.o (ni (lv (qs.length + 1) rs.length)))) z7 (some (.d (.int (a : Nat)))) z9 z10) R := by
  refine WS.fr (fun i E => ∃ z10', NR z10' ∧ E = en11 z0' z3 (some (.o (td (qs ++ (rs ++ List.replicate i a))))) z5 (some (.o (ni (lv (qs.length + 1) (rs.length + i))))) z7 (some (.d (.int (a : Nat)))) z9 z10') ?_
  refine hit _ ⟨⟨z10, h10, by simp⟩, ?_, ?_⟩
  · rintro i x E hx ⟨z10', g10, rfl⟩
    rw [ni_get] at hx
    obtain ⟨y, hy, rfl⟩ := Option.map_eq_some_iff.mp hx
    have hi := (List.getElem?_eq_some_iff.mp hy).1
    rw [List.length_range] at hi
    refine ⟨en11 z0' z3 (some (.o (td (qs ++ (rs ++ List.replicate i a))))) z5 (some (.o (ni (lv (qs.length + 1) (rs.length + i))))) z7 (some (.d (.int (a : Nat)))) z9 (some (.d (.int (y : Nat)))), put_nr rfl g10, ?_⟩
    have hlen : bi1D .len (.list (td (qs ++ (rs ++ List.replicate i a)))) = some (.d (.int ((qs.length + 1 + (rs.length + i) : Nat) : Int))) := by
      show some (W.d (.int ((td (qs ++ (rs ++ List.replicate i a))).length : Nat))) = _
      rw [td_len, List.length_append, List.length_append, List.length_replicate]
      congr 4
      omega
    refine WSs.cons (WS.app rfl (WE.bi1 (WO.var rfl ⟨_, hlen, _, rfl, ?_, ?_⟩)))
    · rw [ni_len, lvr_len]; unfold lim; omega
    refine nx_c (WSs.cons (WS.app rfl (WE.var rfl ⟨_, rfl, ?_, ?_⟩)))
    · rw [td_len, List.length_append, List.length_append, List.length_replicate]; unfold lim; omega
    refine nx_c (WSs.nil ⟨.inl rfl, some (.d (.int (y : Nat))), .d _, ?_⟩)
    have e1 : td (qs ++ (rs ++ List.replicate i a)) ++ [PyData.int (a : Nat)] = td (qs ++ (rs ++ List.replicate (i + 1) a)) := by
      rw [td_snoc, List.replicate_succ', List.append_assoc, List.append_assoc]
    have e2 : ni (lv (qs.length + 1) (rs.length + i)) ++ [PyData.int ((qs.length + 1 + (rs.length + i) : Nat) : Int)] = ni (lv (qs.length + 1) (rs.length + (i + 1))) := lv_snoc _ _
    rw [← e1, ← e2]
    rfl
  · rintro E ⟨z10', g10, rfl⟩
    rw [ni_len, List.length_range]
    exact q z10' g10
end
end PV
end

section
set_option Elab.async false
set_option linter.all false
set_option maxRecDepth 100000
set_option maxHeartbeats 2000000
set_option autoImplicit false
/-! MD5: the middle loop -/
namespace PV
open PySem TR
def midB (kd : Nat) : CS := (.fr (.t (.cons (.v 7) (.cons (.v 8) .nil))) (.enum (.var 5))
 (.cons (.set 9 (.bin .sub (.bin .sub (.var 1) (.bi1 .len (.var 4))) (.bin .sub (.bi1 .len (.var 5)) (.var 7))))
 (.cons (.fr (.v 10) (.rng (.cst (.int 0)) (.bin .add (.cst (.int 1)) (.callr kd (.var 0) (.cons (.bi2 .min2 (.cst (.int 3)) (.bin .add (.var 9) (.cst (.int 1)))) .nil))))
 (.cons (.app 6 (.bi1 .len (.var 4)))
 (.cons (.app 4 (.var 8))
 .nil)))
 .nil)))
section
variable {F : Fn}
theorem rng0n (m : Nat) : rngD 0 ((m : Nat) : Int) = ni (List.range m) := rng0 m
theorem grow_mid {kd : Nat} (hd : DrS F kd) {qs : List Nat} {t w : Nat} (g : Grown qs t w) (hb : qs.length + 1 + w ≤ 12) {xs : List D} (p : Pot xs) {z3 z5 z7 z8 z9 z10 : Option W} (h5 : z5 = some (.o (ni (lv (qs.length + 1 - w) w))) ∨ z5 = some (.d (.list (ni (lv (qs.length + 1 - w) w))))) (h7 : NR z7) (h8 : NR z8) (h9 : NR z9) (h10 : NR z10)
    {R : Fl → DE → Prop} (q : ∀ rs xs' z7 z8 z9 z10, Pot xs' → NR z7 → NR z8 → NR z9 → NR z10 → Grown (qs ++ rs) (t + 1) rs.length → qs.length + rs.length ≤ 11 → R .nx (en11 (some (.r xs')) z3 (some (.o (td (qs ++ rs)))) (some (.d (.list (ni (lv (qs.length + 1 - w) w))))) (some (.o (ni (lv (qs.length + 1) rs.length)))) z7 z8 z9 z10)) :
    WS F (midB kd) (en11 (some (.r xs)) z3 (some (.o (td qs))) z5 (some (.o [])) z7 z8 z9 z10) R := by
  have w1 := g.w1
  have wl := g.wl
  unfold midB
  refine WS.fr (fun j E => ∃ rs xs' z7 z8 z9 z10, Pot xs' ∧ NR z7 ∧ NR z8 ∧ NR z9 ∧ NR z10 ∧ (∀ r ∈ rs, qs.length + 1 - w ≤ r ∧ r < qs.length + 1 - w + j) ∧ (∀ r, qs.length + 1 - w ≤ r → r < qs.length + 1 - w + j → r ∈ rs) ∧ qs.length + 1 + rs.length + (w - j) ≤ 12 ∧
    E = en11 (some (.r xs')) z3 (some (.o (td (qs ++ rs)))) (some (.d (.list (ni (lv (qs.length + 1 - w) w))))) (some (.o (ni (lv (qs.length + 1) rs.length)))) z7 z8 z9 z10) ?_
  have main : ∀ (E1 : DE), E1 = en11 (some (.r xs)) z3 (some (.o (td qs))) (some (.d (.list (ni (lv (qs.length + 1 - w) w))))) (some (.o [])) z7 z8 z9 z10 → WE F (.var 5) (en11 (some (.r xs)) z3 (some (.o (td qs))) z5 (some (.o [])) z7 z8 z9 z10) fun w' E => w' = .d (.list (ni (lv (qs.length + 1 - w) w))) ∧ E = E1 := by
    rintro E1 rfl
    rcases h5 with rfl | rfl
    · exact WE.varO rfl ⟨rfl, rfl⟩
    · exact WE.var rfl ⟨rfl, rfl⟩
  obtain ⟨w', E1, e1, rfl, rfl⟩ := main _ rfl
  refine WI.enum ⟨_, _, e1, _, rfl, by rw [ni_len, lvr_len]; unfold lim; omega, ?_⟩
  rw [enum_ni, lvr_len]
  refine ⟨⟨[], xs, z7, z8, z9, z10, p, h7, h8, h9, h10, (fun _ z => nomatch z), (fun r h1 h2 => by omega), by simp only [List.length_nil]; omega, by rw [List.append_nil]; rfl⟩, ?_, ?_⟩
  · rintro j x E hx ⟨rs, xs, z7, z8, z9, z10, p, h7, h8, h9, h10, r1, r2, r3, rfl⟩
    rw [List.getElem?_map] at hx
    obtain ⟨y, hy, rfl⟩ := Option.map_eq_some_iff.mp hx
    obtain ⟨hj, hy2⟩ := List.getElem?_eq_some_iff.mp hy
    rw [List.length_range] at hj
    rw [List.getElem_range] at hy2
    subst hy2
    have hlj : ((lv (qs.length + 1 - w) w)[j]?).getD 0 = qs.length + 1 - w + j := by
      unfold lv
      rw [List.getElem?_map, List.getElem?_range hj]; rfl
    rw [hlj]
    refine ⟨en11 (some (.r xs)) z3 (some (.o (td (qs ++ rs)))) (some (.d (.list (ni (lv (qs.length + 1 - w) w))))) (some (.o (ni (lv (qs.length + 1) rs.length)))) (some (.d (.int (j : Nat)))) (some (.d (.int ((qs.length + 1 - w + j : Nat) : Int)))) z9 z10, ?_, ?_⟩
    · show ((put _ 7 _).bind fun E => (put E 8 _).bind fun E => some E) = _
      rw [put_nr rfl h7, Option.bind_some]
      rw [put_nr rfl h8]
      rfl
    obtain ⟨s, hs⟩ : ∃ s : Nat, s = 12 - (qs.length + 1 + rs.length) - (w - j) := ⟨_, rfl⟩
    have hlen : bi1D .len (.list (td (qs ++ rs))) = some (.d (.int ((qs.length + 1 + rs.length : Nat) : Int))) := by
      show some (W.d (.int ((td (qs ++ rs)).length : Nat))) = _
      rw [td_len, List.length_append]
      congr 4
      omega
    have hlen5 : bi1D .len (.list (ni (lv (qs.length + 1 - w) w))) = some (.d (.int ((w : Nat) : Int))) := by
      show some (W.d (.int ((ni (lv (qs.length + 1 - w) w)).length : Nat))) = _
      rw [ni_len, lvr_len]
    refine WSs.cons (WS.set (WE.bin (WO.of (WE.bin (WO.var rfl (WO.of (WE.bi1 (WO.var rfl ⟨_, hlen, _, rfl, _, rfl, ?_⟩))))))))
    refine WO.of (WE.bin (WO.of (WE.bi1 (WO.var rfl ⟨_, hlen5, WO.var rfl ⟨_, rfl, _, rfl, ?_⟩⟩))))
    refine ⟨_, rfl, .d (.int ((s : Nat) : Int)), by show some (W.d (.int _)) = _; congr 3; omega, ?_⟩
    refine ⟨en11 (some (.r xs)) z3 (some (.o (td (qs ++ rs)))) (some (.d (.list (ni (lv (qs.length + 1 - w) w))))) (some (.o (ni (lv (qs.length + 1) rs.length)))) (some (.d (.int (j : Nat)))) (some (.d (.int ((qs.length + 1 - w + j : Nat) : Int)))) (some (.d (.int (s : Nat)))) z10, put_nr rfl h9, nx_c ?_⟩
    obtain ⟨k, x1, d1, hk, p1⟩ := hd xs p (min 3 (s + 1)) (by omega) (by omega)
    refine WSs.cons (grow_in (m := k + 1) (z0' := some (.r x1)) (by omega) h10 ?_ ?_)
    · intro Q hq
      refine WI.rng (WE.cst (WE.bin (WO.of (WE.cst (WO.of (WE.callrV rfl (WL.cons (WE.bi2 (WE.cst (WE.bin (WO.var rfl (WO.of (WE.cst ⟨_, rfl, .d (.int ((s + 1 : Nat) : Int)), rfl, ?_⟩)))))))))))))
      refine ⟨.d (.int ((min 3 (s + 1) : Nat) : Int)), ?_, WL.nil ⟨_, rfl, _, _, d1, ?_⟩⟩
      · show some (W.d (.int (if ((s + 1 : Nat) : Int) < 3 then ((s + 1 : Nat) : Int) else 3))) = _
        congr 3
        split <;> omega
      refine ⟨_, rfl, .d (.int ((k + 1 : Nat) : Int)), by show some (W.d (.int _)) = _; congr 3; omega, 0, ((k + 1 : Nat) : Int), rfl, rfl, ⟨by omega, by omega, by omega, by omega⟩, ?_⟩
      rw [rng0n]
      exact hq
    · intro z10' g10
      refine nx_c (WSs.nil ⟨.inl rfl, rs ++ List.replicate (k + 1) (qs.length + 1 - w + j), x1, some (.d (.int (j : Nat))), some (.d (.int ((qs.length + 1 - w + j : Nat) : Int))), some (.d (.int (s : Nat))), z10', p1, .d _, .d _, .d _, g10, ?_, ?_, ?_, ?_⟩)
      · intro r hr
        rcases List.mem_append.mp hr with h | h
        · have := r1 r h; omega
        · have := List.eq_of_mem_replicate h; omega
      · intro r a1 a2
        by_cases h : r < qs.length + 1 - w + j
        · exact List.mem_append_left _ (r2 r a1 h)
        · exact List.mem_append_right _ (List.mem_replicate.mpr ⟨by omega, by omega⟩)
      · rw [List.length_append, List.length_replicate]; omega
      · rw [List.length_append, List.length_replicate]
  · rintro E ⟨rs, xs, z7, z8, z9, z10, p, h7, h8, h9, h10, r1, r2, r3, rfl⟩
    rw [List.length_map, List.length_range] at r1 r2 r3
    refine q rs xs z7 z8 z9 z10 p h7 h8 h9 h10 (g.next (fun r hr => ?_) fun r a1 a2 => r2 r a1 (by omega)) (by omega)
    have := r1 r hr
    omega
end
end PV
end

section
set_option Elab.async false
set_option linter.all false
set_option maxRecDepth 100000
set_option maxHeartbeats 2000000
set_option autoImplicit false
/-! MD6: drawn trees, whole -/
namespace PV
open PySem TR
section
variable {F : Fn}
theorem tree_ok {kd : Nat} (hd : DrS F kd) {xs : List D} (p : Pot xs) : ∃ (w : W) (xs' : List D), fin (some xs) (PV.execs F (b_law_tree kd) (en11 (some (.r xs)) none none none none none none none none)) = some (w, some xs') ∧ (∃ ps e, w = .o (td ps) ∧ Good ps e ∧ Pot xs') := by
  obtain ⟨e, x1, d1, he, p1⟩ := hd xs p 4 (by decide) (by decide)
  refine fin_ofRX (α := Unit) (fun w xs' => ∃ ps e, w = .o (td ps) ∧ Good ps e ∧ Pot xs') ?_
  unfold b_law_tree
  refine WSs.cons (WS.par (WW.cons (WE.lst (WL.cons (WE.neg (WE.cst ⟨_, rfl, WL.nil ⟨show (1 : Nat) ≤ lim from by decide, ?_⟩⟩))))))
  refine WW.cons (WE.lst (WL.cons (WE.cst (WL.nil ⟨show (1 : Nat) ≤ lim from by decide, WW.nil ?_⟩))))
  refine ⟨en11 (some (.r xs)) none (some (.o (td []))) (some (.o (ni (lv 0 1)))) none none none none none, rfl, nx_c ?_⟩
  refine WSs.cons (WS.fr (fun i E => ∃ qs t w xs' z3 z5 z6 z7 z8 z9 z10, Pot xs' ∧ Grown qs t w ∧ t ≤ i ∧ qs.length ≤ 11 ∧ NR z3 ∧ (z5 = some (.o (ni (lv (qs.length + 1 - w) w))) ∨ z5 = some (.d (.list (ni (lv (qs.length + 1 - w) w))))) ∧ NR z6 ∧ NR z7 ∧ NR z8 ∧ NR z9 ∧ NR z10 ∧
    E = en11 (some (.r xs')) z3 (some (.o (td qs))) z5 z6 z7 z8 z9 z10) ?_)
  refine WI.rng (WE.cst (WE.callrV rfl (WL.cons (WE.bin (WO.var rfl (WO.of (WE.cst ⟨_, rfl, .d (.int ((4 : Nat) : Int)), rfl, WL.nil ⟨_, rfl, _, _, d1, ?_⟩⟩)))))))
  refine ⟨0, ((e : Nat) : Int), rfl, rfl, ⟨by omega, by omega, by omega, by omega⟩, ?_⟩
  rw [rng0n]
  refine ⟨⟨[], 0, 1, x1, none, _, none, none, none, none, none, p1, Grown.zero, Nat.le_refl _, by decide, .n, .inl rfl, .n, .n, .n, .n, .n, rfl⟩, ?_, ?_⟩
  · rintro i x E hx ⟨qs, t, w, xs, z3, z5, z6, z7, z8, z9, z10, p, g, ht, hl, h3, h5, h6, h7, h8, h9, h10, rfl⟩
    have hlen : bi1D .len (.list (td qs)) = some (.d (.int ((qs.length + 1 : Nat) : Int))) := by
      show some (W.d (.int ((td qs).length : Nat))) = _
      rw [td_len]
    have hlen5 : bi1D .len (.list (ni (lv (qs.length + 1 - w) w))) = some (.d (.int ((w : Nat) : Int))) := by
      show some (W.d (.int ((ni (lv (qs.length + 1 - w) w)).length : Nat))) = _
      rw [ni_len, lvr_len]
    have hpk : peek (en11 (some (.r xs)) (some (.d x)) (some (.o (td qs))) z5 z6 z7 z8 z9 z10) 5 = some (.list (ni (lv (qs.length + 1 - w) w))) := by
      rcases h5 with rfl | rfl <;> rfl
    refine ⟨en11 (some (.r xs)) (some (.d x)) (some (.o (td qs))) z5 z6 z7 z8 z9 z10, put_nr rfl h3, ?_⟩
    refine WSs.cons (WS.ifs (WE.cmp (WO.of (WE.bin (WO.of (WE.bi1 (WO.var rfl ⟨_, hlen, WO.of (WE.bi1 (WO.var hpk ⟨_, hlen5, ?_⟩))⟩)))))))
    refine ⟨_, rfl, .d (.int ((qs.length + 1 + w : Nat) : Int)), rfl, WO.var rfl ⟨_, rfl, _, le_is _ _, ?_⟩⟩
    refine ⟨_, rfl, fun hb => ?_, fun _ => WSs.nil (nx_c (WSs.nil ⟨.inl rfl, qs, t, w, xs, _, z5, z6, z7, z8, z9, z10, p, g, by omega, hl, .d x, h5, h6, h7, h8, h9, h10, rfl⟩))⟩
    have hb := of_decide_eq_true hb
    refine WSs.cons (WS.set (WE.lst (WL.nil ⟨show (0 : Nat) ≤ lim from by decide, ?_⟩)))
    refine ⟨en11 (some (.r xs)) (some (.d x)) (some (.o (td qs))) z5 (some (.o [])) z7 z8 z9 z10, put_nr rfl h6, nx_c ?_⟩
    refine WSs.cons (grow_mid hd g (by omega) p h5 h7 h8 h9 h10 ?_)
    intro rs xs' z7 z8 z9 z10 p' h7 h8 h9 h10 g' hl'
    refine nx_c (WSs.cons (WS.set (WE.varO rfl ?_)))
    have eww : (qs ++ rs).length + 1 - rs.length = qs.length + 1 := by rw [List.length_append]; omega
    refine ⟨en11 (some (.r xs')) (some (.d x)) (some (.o (td (qs ++ rs)))) (some (.d (.list (ni (lv (qs.length + 1) rs.length))))) (some (.d (.list (ni (lv (qs.length + 1) rs.length))))) z7 z8 z9 z10, rfl, nx_c (WSs.nil (nx_c (WSs.nil ⟨.inl rfl, qs ++ rs, t + 1, rs.length, xs', _, _, _, z7, z8, z9, z10, p', g', by omega, by rw [List.length_append]; exact hl', .d x, .inr (by rw [eww]), .d _, h7, h8, h9, h10, rfl⟩)))⟩
  · rintro E ⟨qs, t, w, xs, z3, z5, z6, z7, z8, z9, z10, p, g, ht, hl, h3, h5, h6, h7, h8, h9, h10, rfl⟩
    rw [ni_len, List.length_range] at ht
    exact nx_c (WSs.cons (WS.retO rfl (rt_c ⟨_, xs, rfl, ⟨qs, t, rfl, g.good hl (by omega), p⟩, rfl⟩)))
end
end PV
end

section
set_option Elab.async false
set_option linter.all false
set_option maxRecDepth 100000
set_option maxHeartbeats 2000000
set_option autoImplicit false
/-! MP1: plain facts of drawn chances and values -/
namespace PV
open PySem TR
theorem fun_of {ls : List Nat} (hn : ls.Nodup) : ∀ {cs : List Rat}, cs.length = ls.length → ∃ c : Nat → Rat, cs = ls.map c := by
  induction ls with
  | nil => intro cs h; exact ⟨fun _ => 0, List.length_eq_zero_iff.mp h⟩
  | cons x ls ih =>
    intro cs h
    cases cs with
    | nil => exact nomatch h
    | cons q cs =>
      obtain ⟨hx, hn⟩ := List.nodup_cons.mp hn
      obtain ⟨c, hc⟩ := ih hn (cs := cs) (Nat.succ.inj h)
      refine ⟨fun k => if k = x then q else c k, ?_⟩
      rw [List.map_cons, if_pos rfl, hc]
      congr 1
      refine List.map_congr_left fun k hk => ?_
      have ne : ¬ k = x := fun e => hx (by rw [← e]; exact hk)
      exact (if_neg ne).symm
theorem leaves_nodup (ps : List Nat) : (leavesT ps).Nodup := (leaves_sorted (ps := ps)).imp fun h => Nat.ne_of_lt h
theorem chq_div (ts : List Nat) (t : Nat) : chq ts t = (t : Rat) * ((ts.sum : Nat) : Rat)⁻¹ := by
  unfold chq
  rw [Rat.divInt_eq_div, Rat.div_def]
  rfl
theorem tot_chq (ts rs : List Nat) : tot (rs.map (chq ts)) = ((rs.sum : Nat) : Rat) * ((ts.sum : Nat) : Rat)⁻¹ := by
  induction rs with
  | nil => exact (Rat.zero_mul _).symm
  | cons r rs ih =>
    show chq ts r + tot (rs.map (chq ts)) = _
    rw [ih, chq_div, ← Rat.add_mul, List.sum_cons, Rat.natCast_add]
theorem chances_cd {ps ts : List Nat} {b : Bool} (h : Tops ps ts b) (hp : ps.length ≤ 11) : CD ps (ts.map (chq ts)) where
  len := by rw [List.length_map]; exact h.len
  nn := fun c hc => by
    obtain ⟨t, ht, rfl⟩ := List.mem_map.mp hc
    exact Rat.divInt_nonneg (by omega) (by omega)
  one := by
    rw [tot_chq]
    refine Rat.mul_inv_cancel _ ?_
    have := h.pos
    intro e
    have e : ((ts.sum : Nat) : Rat) = ((0 : Nat) : Rat) := e
    have := Rat.natCast_inj.mp e
    omega
  sh := fun c hc => by
    obtain ⟨t, ht, rfl⟩ := List.mem_map.mp hc
    have h1 := h.most t ht
    have h2 := h.pos
    have h3 := sum_le h.most
    have ll := lv_len hp
    have hl := h.len
    have hs := small_divInt (a := (t : Nat)) (b := ((ts.sum : Nat) : Int)) (by omega)
    have e1 : ((t : Nat) : Int).natAbs = t := rfl
    have e2 : ((ts.sum : Nat) : Int).natAbs = ts.sum := rfl
    exact ⟨Nat.lt_of_le_of_lt hs.1 (by omega), Nat.lt_of_le_of_lt hs.2 (by omega)⟩
theorem chq_sz {ps ts : List Nat} {b : Bool} (h : Tops ps ts b) (hp : ps.length ≤ 11) {t : Nat} (ht : t ∈ ts) : szq (chq ts t) 10 := by
  have h1 := h.most t ht
  have h2 := h.pos
  have h3 := sum_le h.most
  have ll := lv_len hp
  have hl := h.len
  have hs := small_divInt (a := (t : Nat)) (b := ((ts.sum : Nat) : Int)) (by omega)
  have e1 : ((t : Nat) : Int).natAbs = t := rfl
  have e2 : ((ts.sum : Nat) : Int).natAbs = ts.sum := rfl
  exact ⟨Nat.lt_of_le_of_lt hs.1 (by omega), Nat.lt_of_le_of_lt hs.2 (by omega)⟩
theorem chq_pos {ts : List Nat} (h : 0 < ts.sum) {t : Nat} (ht : 1 ≤ t) : 0 < chq ts t := by
  have h0 : 0 ≤ chq ts t := Rat.divInt_nonneg (by omega) (by omega)
  refine Rat.lt_iff_le_and_ne.mpr ⟨h0, fun e => ?_⟩
  have hS : ((ts.sum : Nat) : Rat) ≠ 0 := fun z => by
    have z : ((ts.sum : Nat) : Rat) = ((0 : Nat) : Rat) := z
    have := Rat.natCast_inj.mp z
    omega
  have e2 : (t : Rat) = chq ts t * ((ts.sum : Nat) : Rat) := by rw [chq_div, Rat.mul_assoc, Rat.inv_mul_cancel _ hS, Rat.mul_one]
  rw [← e, Rat.zero_mul] at e2
  have e2 : ((t : Nat) : Rat) = ((0 : Nat) : Rat) := e2
  have := Rat.natCast_inj.mp e2
  omega
theorem smallq.short {q : Rat} {n : Nat} (h : smallq q n) (hn : n < 1000) : short q := ⟨Nat.lt_of_le_of_lt h.1 (by omega), Nat.lt_of_le_of_lt h.2 (by decide)⟩
end PV
end

section
set_option Elab.async false
set_option linter.all false
set_option maxRecDepth 100000
set_option maxHeartbeats 2000000
set_option autoImplicit false
/-! MP2: promises of seen games and fair ones -/
namespace PV
open PySem TR
def WfS (F : Fn) (k : Nat) : Prop := ∀ (d : D) (cs : List Rat), seqD d = some (cs.map fq) → cs.length ≤ 15 → (∀ c ∈ cs, 0 < c) → F k none [d] = some (.d .none, none)
def SgS (F : Fn) (k : Nat) (ps : List Nat) : Prop := ∀ (d d2 d3 : D) (c v : Nat → Rat), TD d ps → CL d2 ps c → CL d3 ps v → SzL ps c 10 → SzL ps v 60 → (∀ a, a ≤ ps.length → 0 < pr ps c a) → F k none [d, d2, d3] = some (.o ((List.range (ps.length + 1)).map fun a => fq (gm ps c v a)), none)
def NsS (F : Fn) (k : Nat) (ps : List Nat) : Prop := ∀ (d d2 d3 : D) (c g : Nat → Rat), TD d ps → CL d2 ps c → GD d3 ps g → SzL ps c 10 → (∀ i, i ≤ ps.length → szq (g i) 60) → (∀ a, a ≤ ps.length → 0 < pr ps c a) → (∀ a ∈ innerT ps, nx ps c g a = g a) → F k none [d, d2, d3] = some (.o ((innerT ps).map fun _ => fq 0), none)
def FaS (F : Fn) (k : Nat) (ps : List Nat) : Prop := ∀ (d d2 d3 : D) (c g : Nat → Rat), TD d ps → CL d2 ps c → GD d3 ps g → SzL ps c 10 → (∀ i, i ≤ ps.length → szq (g i) 60) → (∀ a, a ≤ ps.length → 0 < pr ps c a) → (∀ a ∈ innerT ps, nx ps c g a = g a) → F k none [d, d2, d3] = some (.d (.bool true), none)
theorem all_pos {cs : List Rat} (h : ∀ c ∈ cs, 0 < c) : (cs.all fun c => decide (0 < c)) = true := List.all_eq_true.mpr fun c hc => decide_eq_true (h c hc)
end PV
namespace PV
open PySem TR
theorem drS_of {G : Fn} {kk : Nat} (h : ∀ {xs : List D}, Pot xs → ∀ {many : Int}, 1 ≤ many → many < 1073741824 → ∃ (k : Int) (xs' : List D), G kk (some xs) [.int many] = some (.d (.int k), some xs') ∧ 0 ≤ k ∧ k < many ∧ Pot xs') : DrS G kk := fun xs p many h1 h2 => by
  obtain ⟨k, xs', e, k0, k1, p'⟩ := h p (many := (many : Nat)) (by omega) (by omega)
  obtain ⟨j, rfl⟩ : ∃ j : Nat, k = j := ⟨k.toNat, by omega⟩
  exact ⟨j, xs', e, by omega, p'⟩
end PV
end

section
set_option Elab.async false
set_option linter.all false
set_option maxRecDepth 100000
set_option maxHeartbeats 2000000
set_option autoImplicit false
/-! MP3: promises of the functions from outside, over functions of leaves and nodes -/
namespace PV
open PySem TR
structure Ch (ps : List Nat) (c : Nat → Rat) : Prop where
  cd : CD ps ((leavesT ps).map c)
  sz : SzL ps c 10
structure Vl (ps : List Nat) (v : Nat → Rat) : Prop where
  sh : ∀ l ∈ leavesT ps, short (v l)
structure Gm (ps : List Nat) (g : Nat → Rat) : Prop where
  sh : ∀ i, i ≤ ps.length → short (g i)
section
variable {ps : List Nat} {c v g : Nat → Rat}
theorem Ch.nn (h : Ch ps c) : ∀ l ∈ leavesT ps, 0 ≤ c l := fun l hl => h.cd.nn _ (List.mem_map_of_mem hl)
theorem Vl.sz (h : Vl ps v) : SzL ps v 60 := fun l hl => szq_mono (h.sh l hl).sz (by decide)
theorem Gm.sz (h : Gm ps g) : ∀ i, i ≤ ps.length → szq (g i) 60 := fun l hl => szq_mono (h.sh l hl).sz (by decide)
theorem cl_map {d : D} (h : CL d ps c) : seqD d = some (((leavesT ps).map c).map fq) := by rw [List.map_map]; exact h
theorem gd_map {d : D} (h : GD d ps g) : seqD d = some (((List.range (ps.length + 1)).map g).map fq) := by rw [List.map_map]; exact h
theorem Vl.all (h : Vl ps v) : ∀ q ∈ (leavesT ps).map v, short q := fun q hq => by
  obtain ⟨l, hl, rfl⟩ := List.mem_map.mp hq
  exact h.sh l hl
theorem Gm.all (h : Gm ps g) : ∀ q ∈ (List.range (ps.length + 1)).map g, short q := fun q hq => by
  obtain ⟨l, hl, rfl⟩ := List.mem_map.mp hq
  have := List.mem_range.mp hl
  exact h.sh l (by omega)
theorem Gm.len (g : Nat → Rat) : ((List.range (ps.length + 1)).map g).length = ps.length + 1 := by rw [List.length_map, List.length_range]
theorem vl_len (v : Nat → Rat) : ((leavesT ps).map v).length = (leavesT ps).length := List.length_map ..
theorem pos_map (h : ∀ l ∈ leavesT ps, 0 < c l) : ∀ q ∈ (leavesT ps).map c, 0 < q := fun q hq => by
  obtain ⟨l, hl, rfl⟩ := List.mem_map.mp hq
  exact h l hl
end
def CoS (F : Fn) (k : Nat) (ps : List Nat) : Prop := ∀ (d d2 : D) (c : Nat → Rat) (a : Nat), TD d ps → CL d2 ps c → Ch ps c → a ≤ ps.length → F k none [d, d2, .int (a : Nat)] = some (.d (fq (pr ps c a)), none)
def IfS (F : Fn) (k : Nat) (ps : List Nat) : Prop := ∀ (d d2 : D) (c : Nat → Rat), TD d ps → CL d2 ps c → Ch ps c → F k none [d, d2] = some (.d (.bool (((leavesT ps).map c).all fun q => decide (0 < q))), none)
def MeS (F : Fn) (k : Nat) (ps : List Nat) : Prop := ∀ (d d2 d3 : D) (c v : Nat → Rat), TD d ps → CL d2 ps c → CL d3 ps v → Ch ps c → Vl ps v → F k none [d, d2, d3] = some (.d (fq (mn ps c v)), none)
def MaS (F : Fn) (k : Nat) (ps : List Nat) : Prop := ∀ (d d2 d3 : D) (c v : Nat → Rat) (a : Nat), TD d ps → CL d2 ps c → CL d3 ps v → Ch ps c → Vl ps v → a ≤ ps.length → 0 < pr ps c a → F k none [d, d2, .int (a : Nat), d3] = some (.d (fq (gm ps c v a)), none)
def SeS (F : Fn) (k : Nat) (ps : List Nat) : Prop := ∀ (d d2 d3 : D) (c v : Nat → Rat), TD d ps → CL d2 ps c → CL d3 ps v → Ch ps c → Vl ps v → (∀ l ∈ leavesT ps, 0 < c l) → F k none [d, d2, d3] = some (.o ((List.range (ps.length + 1)).map fun a => fq (gm ps c v a)), none)
def NmS (F : Fn) (k : Nat) (ps : List Nat) : Prop := ∀ (d d2 d3 : D) (c g : Nat → Rat) (a : Nat), TD d ps → CL d2 ps c → GD d3 ps g → Ch ps c → Gm ps g → a ≤ ps.length → 0 < pr ps c a → kids ps a ≠ [] → F k none [d, d2, d3, .int (a : Nat)] = some (.d (fq (nx ps c g a)), none)
def IsS (F : Fn) (k : Nat) (ps : List Nat) : Prop := ∀ (d d2 d3 : D) (c g : Nat → Rat), TD d ps → CL d2 ps c → GD d3 ps g → Ch ps c → Gm ps g → (∀ l ∈ leavesT ps, 0 < c l) → (∀ a ∈ innerT ps, nx ps c g a = g a) → F k none [d, d2, d3] = some (.d (.bool true), none)
/-- draws -/
def TrS (F : Fn) (k : Nat) : Prop := ∀ xs, Pot xs → ∃ (ps : List Nat) (e : Nat) (xs' : List D), F k (some xs) [.int 12, .int 3] = some (.o (td ps), some xs') ∧ Good ps e ∧ Pot xs'
def DvS (F : Fn) (k : Nat) (ps : List Nat) : Prop := ∀ (xs : List D) (d : D), Pot xs → TD d ps → ∃ (v : Nat → Rat) (xs' : List D), F k (some xs) [d] = some (.o ((leavesT ps).map fun l => fq (v l)), some xs') ∧ (∀ l ∈ leavesT ps, smallq (v l) 6) ∧ Pot xs'
/-- drawn chances: tops t, not all 0 -/
structure Dc (ps : List Nat) (t : Nat → Nat) (b : Bool) : Prop where
  most : ∀ l ∈ leavesT ps, t l ≤ 4
  full : b = true → ∀ l ∈ leavesT ps, 1 ≤ t l
  pos : 0 < ((leavesT ps).map t).sum
def cq (ps : List Nat) (t : Nat → Nat) (l : Nat) : Rat := chq ((leavesT ps).map t) (t l)
def DcS (F : Fn) (k : Nat) (ps : List Nat) : Prop := ∀ (xs : List D) (d : D) (b : Bool), Pot xs → TD d ps → ∃ (t : Nat → Nat) (xs' : List D), F k (some xs) [d, .bool b] = some (.o ((leavesT ps).map fun l => fq (cq ps t l)), some xs') ∧ Dc ps t b ∧ Pot xs'
def PotS (F : Fn) (k : Nat) : Prop := ∀ (ns : List Int) (i : Nat), i < 64 → ∃ xs, F k none [.list (ns.map .int), .int (i : Int)] = some (.o xs, none) ∧ Pot xs
theorem fun_ofA {α : Type} (z : α) {ls : List Nat} (hn : ls.Nodup) : ∀ {cs : List α}, cs.length = ls.length → ∃ c : Nat → α, cs = ls.map c := by
  induction ls with
  | nil => intro cs h; exact ⟨fun _ => z, List.length_eq_zero_iff.mp h⟩
  | cons x ls ih =>
    intro cs h
    cases cs with
    | nil => exact nomatch h
    | cons q cs =>
      obtain ⟨hx, hn⟩ := List.nodup_cons.mp hn
      obtain ⟨c, hc⟩ := ih hn (cs := cs) (Nat.succ.inj h)
      refine ⟨fun k => if k = x then q else c k, ?_⟩
      rw [List.map_cons, if_pos rfl, hc]
      congr 1
      refine List.map_congr_left fun k hk => ?_
      have ne : ¬ k = x := fun e => hx (by rw [← e]; exact hk)
      exact (if_neg ne).symm
section
variable {ps : List Nat} {t : Nat → Nat} {b : Bool}
theorem Dc.tops (h : Dc ps t b) : Tops ps ((leavesT ps).map t) b where
  len := List.length_map ..
  most := fun x hx => by
    obtain ⟨l, hl, rfl⟩ := List.mem_map.mp hx
    exact h.most l hl
  full := fun e x hx => by
    obtain ⟨l, hl, rfl⟩ := List.mem_map.mp hx
    exact h.full e l hl
  pos := h.pos
theorem dc_of {ts : List Nat} (h : Tops ps ts b) : ∃ t, ts = (leavesT ps).map t ∧ Dc ps t b := by
  obtain ⟨t, rfl⟩ := fun_ofA 0 (leaves_nodup ps) h.len
  exact ⟨t, rfl, fun l hl => h.most _ (List.mem_map_of_mem hl), fun e l hl => h.full e _ (List.mem_map_of_mem hl), h.pos⟩
theorem Dc.ch (h : Dc ps t b) (hp : ps.length ≤ 11) : Ch ps (cq ps t) where
  cd := by
    have := chances_cd h.tops hp
    rw [List.map_map] at this
    exact this
  sz := fun l hl => chq_sz h.tops hp (List.mem_map_of_mem hl)
theorem Dc.cpos (h : Dc ps t true) : ∀ l ∈ leavesT ps, 0 < cq ps t l := fun l hl => chq_pos h.pos (h.full rfl l hl)
theorem leaves_ne (v : Valid ps) : leavesT ps ≠ [] := by
  obtain ⟨l, h1, h2⟩ := leaf_under v _ 0 (Nat.le_refl _) (Nat.zero_le _)
  exact List.ne_nil_of_mem h1
theorem tree_k {F : Fn} {k : Nat} (h : ∀ xs, Pot xs → ∃ (w : W) (xs' : List D), F k (some xs) [.int 12, .int 3] = some (w, some xs') ∧ (∃ ps e, w = .o (td ps) ∧ Good ps e ∧ Pot xs')) : TrS F k := fun xs p => by
  obtain ⟨w, xs', e, ps, e', rfl, g, p'⟩ := h xs p
  exact ⟨ps, e', xs', e, g, p'⟩
theorem values_k {F : Fn} {k : Nat} (h : ∀ xs d, Pot xs → TD d ps → ∃ (w : W) (xs' : List D), F k (some xs) [d] = some (w, some xs') ∧ (∃ vs : List Rat, w = .o (vs.map fq) ∧ vs.length = (leavesT ps).length ∧ (∀ v ∈ vs, smallq v 6) ∧ Pot xs')) : DvS F k ps := fun xs d p g => by
  obtain ⟨w, xs', e, vs, rfl, hl, hv, p'⟩ := h xs d p g
  obtain ⟨v, rfl⟩ := fun_of (leaves_nodup ps) hl
  rw [List.map_map] at e
  exact ⟨v, xs', e, fun l hl => hv _ (List.mem_map_of_mem hl), p'⟩
theorem chances_k {F : Fn} {k : Nat} (h : ∀ xs d b, Pot xs → TD d ps → ∃ (w : W) (xs' : List D), F k (some xs) [d, .bool b] = some (w, some xs') ∧ (∃ ts, w = .o (ts.map fun t => fq (chq ts t)) ∧ Tops ps ts b ∧ Pot xs')) : DcS F k ps := fun xs d b p g => by
  obtain ⟨w, xs', e, ts, rfl, ht, p'⟩ := h xs d b p g
  obtain ⟨t, rfl, hd⟩ := dc_of ht
  rw [List.map_map] at e
  exact ⟨t, xs', e, hd, p'⟩
end
/-! ### seen games are short -/
section
variable {ps : List Nat} {t : Nat → Nat} {b : Bool}
theorem Rat.natCast_add' (a b : Nat) : ((a + b : Nat) : Rat) = (a : Rat) + (b : Rat) := Rat.natCast_add a b
/-- whole numbers' sums -/
def ts (f : Nat → Int) : List Nat → Int
  | [] => 0
  | l :: ls => f l + ts f ls
theorem ts_abs {f : Nat → Int} {n : Nat} : ∀ {ls : List Nat}, (∀ l ∈ ls, (f l).natAbs ≤ n) → (ts f ls).natAbs ≤ ls.length * n
  | [], _ => by simp [ts]
  | l :: ls, h => by
    have h1 := h l (List.mem_cons_self ..)
    have h2 := ts_abs (ls := ls) fun x hx => h x (List.mem_cons_of_mem _ hx)
    show (f l + ts f ls).natAbs ≤ _
    rw [List.length_cons, Nat.add_mul]
    omega
theorem tot_ts (q : Rat) (f : Nat → Int) (g : Nat → Rat) : ∀ (ls : List Nat), (∀ l ∈ ls, g l * q = (f l : Rat)) → tot (ls.map g) * q = (ts f ls : Rat)
  | [], _ => Rat.zero_mul _
  | l :: ls, h => by
    show (g l + tot (ls.map g)) * q = ((f l + ts f ls : Int) : Rat)
    rw [Rat.add_mul, h l (List.mem_cons_self ..), tot_ts q f g ls (fun x hx => h x (List.mem_cons_of_mem _ hx)), Rat.intCast_add]
theorem whole_short {q : Rat} {n : Nat} {a : Int} (h0 : 0 < n) (h : q * (n : Rat) = (a : Rat)) (hn : n < 10 ^ 12) (ha : a.natAbs < 10 ^ 12) : short q := by
  have hz : ((n : Nat) : Rat) ≠ 0 := fun z => by
    have z : ((n : Nat) : Rat) = ((0 : Nat) : Rat) := z
    have := Rat.natCast_inj.mp z
    omega
  have e : q = Rat.divInt a (n : Nat) := by
    rw [Rat.divInt_eq_div, Rat.div_def, ← h]
    show q = q * (n : Rat) * ((n : Nat) : Rat)⁻¹
    rw [Rat.mul_assoc, Rat.mul_inv_cancel _ hz, Rat.mul_one]
  have hs := small_divInt (a := a) (b := ((n : Nat) : Int)) (by omega)
  rw [← e] at hs
  exact ⟨Nat.lt_of_le_of_lt hs.1 ha, Nat.lt_of_le_of_lt hs.2 (by omega)⟩
theorem mul_den (q : Rat) : q * (q.den : Rat) = (q.num : Rat) := by
  have e : q = (q.num : Rat) / (q.den : Rat) := by
    have := Rat.divInt_eq_div q.num (q.den : Int)
    rw [Rat.num_divInt_den] at this
    exact this
  have h0 : (q.den : Rat) ≠ 0 := fun z => by
    have z : ((q.den : Nat) : Rat) = ((0 : Nat) : Rat) := z
    have := Rat.natCast_inj.mp z
    have := q.den_pos
    omega
  rw [Rat.div_def] at e
  generalize (q.num : Rat) = n at *
  generalize (q.den : Rat) = d at *
  rw [e, Rat.mul_assoc, Rat.inv_mul_cancel _ h0, Rat.mul_one]
theorem half_int {q : Rat} {n : Nat} (h : smallq q n) : ∃ a : Int, q * 2 = (a : Rat) ∧ a.natAbs ≤ 2 * n := by
  have hd := q.den_pos
  have e : q * (q.den : Rat) = (q.num : Rat) := mul_den q
  have h1 := h.1
  have h2 := h.2
  by_cases e1 : q.den = 1
  · rw [e1] at e
    refine ⟨q.num * 2, ?_, by omega⟩
    rw [Rat.intCast_mul, ← e]
    show q * 2 = q * 1 * 2
    rw [Rat.mul_one]
  · have e2 : q.den = 2 := by omega
    rw [e2] at e
    exact ⟨q.num, e, by omega⟩
theorem gm_quo {v : Nat → Rat} (h : Dc ps t b) (hv : ∀ l ∈ leavesT ps, smallq (v l) 6) (hp : ps.length ≤ 11) {a : Nat} (h0 : 0 < pr ps (cq ps t) a) : ∃ (n : Nat) (A : Int), 0 < n ∧ n ≤ 96 ∧ A.natAbs ≤ 576 ∧ gm ps (cq ps t) v a * (n : Rat) = (A : Rat) := by
  have hll := lot_len hp a
  have hS : (((((leavesT ps).map t).sum : Nat)) : Rat) ≠ 0 := fun z => by
    have z : (((((leavesT ps).map t).sum : Nat)) : Rat) = ((0 : Nat) : Rat) := z
    have := Rat.natCast_inj.mp z
    have := h.pos
    omega
  have hc : ∀ l, cq ps t l * ((((leavesT ps).map t).sum : Nat) : Rat) = (((t l : Nat) : Int) : Rat) := fun l => by
    unfold cq
    rw [chq_div, Rat.mul_assoc, Rat.inv_mul_cancel _ hS, Rat.mul_one]; rfl
  generalize ((((leavesT ps).map t).sum : Nat) : Rat) = S at *
  have hx : ∀ l, ∃ x : Int, l ∈ leavesT ps → v l * 2 = (x : Rat) ∧ x.natAbs ≤ 12 := fun l => by
    by_cases hl : l ∈ leavesT ps
    · obtain ⟨x, h1, h2⟩ := half_int (hv l hl)
      exact ⟨x, fun _ => ⟨h1, h2⟩⟩
    · exact ⟨0, fun z => absurd z hl⟩
  obtain ⟨x, hx⟩ : ∃ x : Nat → Int, ∀ l, l ∈ leavesT ps → v l * 2 = (x l : Rat) ∧ (x l).natAbs ≤ 12 := ⟨fun l => Classical.choose (hx l), fun l hl => Classical.choose_spec (hx l) hl⟩
  have e1 : pr ps (cq ps t) a * S = (ts (fun l => ((t l : Nat) : Int)) (lot ps a) : Rat) := tot_ts S _ _ _ fun l _ => hc l
  have e2 : wh ps (cq ps t) v a * (S * 2) = (ts (fun l => ((t l : Nat) : Int) * x l) (lot ps a) : Rat) := tot_ts (S * 2) _ _ _ fun l hl => by
    rw [Rat.intCast_mul, ← hc l, ← (hx l (lot_sub hl)).1]
    rw [Rat.mul_assoc, Rat.mul_assoc, ← Rat.mul_assoc (v l) S 2, Rat.mul_comm (v l) S, Rat.mul_assoc S]
  have b1 : (ts (fun l => ((t l : Nat) : Int)) (lot ps a)).natAbs ≤ (lot ps a).length * 4 := ts_abs fun l hl => h.most l (lot_sub hl)
  have b2 : (ts (fun l => ((t l : Nat) : Int) * x l) (lot ps a)).natAbs ≤ (lot ps a).length * 48 := ts_abs fun l hl => by
    show (((t l : Nat) : Int) * x l).natAbs ≤ 48
    rw [Int.natAbs_mul]
    exact Nat.mul_le_mul (h.most l (lot_sub hl)) (hx l (lot_sub hl)).2
  have b3 : 0 ≤ ts (fun l => ((t l : Nat) : Int)) (lot ps a) := by
    generalize lot ps a = ls
    induction ls with
    | nil => exact Int.le_refl _
    | cons l ls ih =>
      show 0 ≤ ((t l : Nat) : Int) + ts _ ls
      omega
  generalize ts (fun l => ((t l : Nat) : Int)) (lot ps a) = T at *
  generalize ts (fun l => ((t l : Nat) : Int) * x l) (lot ps a) = A at *
  have hT : 0 < T := by
    rcases Int.lt_or_eq_of_le b3 with h | h
    · exact h
    · rw [← h] at e1
      have e1 : pr ps (cq ps t) a * S = 0 := e1
      rcases Rat.mul_eq_zero.mp e1 with z | z
      · rw [z] at h0; exact absurd h0 (Rat.lt_irrefl)
      · exact absurd z hS
  obtain ⟨n, rfl⟩ : ∃ n : Nat, T = (n : Nat) := ⟨T.toNat, by omega⟩
  refine ⟨n * 2, A, by omega, by omega, by omega, ?_⟩
  rw [Rat.natCast_mul]
  have e1 : pr ps (cq ps t) a * S = (n : Rat) := e1
  rw [← e2, ← e1, ← gm_wh h0]
  generalize gm ps (cq ps t) v a = G
  show G * (pr ps (cq ps t) a * S * 2) = pr ps (cq ps t) a * G * (S * 2)
  rw [Rat.mul_comm _ G]
  simp only [Rat.mul_assoc]
theorem gm_short {v : Nat → Rat} (h : Dc ps t b) (hv : ∀ l ∈ leavesT ps, smallq (v l) 6) (hp : ps.length ≤ 11) {a : Nat} (h0 : 0 < pr ps (cq ps t) a) : short (gm ps (cq ps t) v a) := by
  obtain ⟨n, A, h1, h2, h3, h4⟩ := gm_quo h hv hp h0
  exact whole_short h1 h4 (by omega) (by omega)
end
end PV
end

section
set_option Elab.async false
set_option linter.all false
set_option maxRecDepth 100000
set_option maxHeartbeats 2000000
set_option autoImplicit false
/-! MU: trees drawn level upon level and told in a drawn sequence (k12, k13, k14); printed by portmu.py -/
namespace PVU
open PySem PV TR
/-- _law_tree: 0 pot, 1 end, 2 time, 3 turn, 4 parents, 5 level, 6 whole, 7 most, 8 wide, 9 some, 10 order, 11 left, 12 free, 13 node -/
def b_law_treeU (i_law_draw : Nat) : CSs := (.cons (.par [4, 5, 6] (.cons (.lst (.cons (.neg (.cst (.int 1))) .nil)) (.cons (.lst (.cons (.cst (.int 0)) .nil)) (.cons (.cst (.int 1)) .nil))))
 (.cons (.fr (.v 2) (.rng (.cst (.int 0)) (.var 1))
 (.cons (.set 7 (.bin .fdiv (.bin .sub (.cst (.int 12)) (.var 6)) (.bin .sub (.var 1) (.var 2))))
 (.cons (.set 8 (.bin .add (.bi1 .len (.var 5)) (.callr i_law_draw (.var 0) (.cons (.bin .add (.bin .sub (.var 7) (.bi1 .len (.var 5))) (.cst (.int 1))) .nil))))
 (.cons (.set 9 (.bi1 .list (.var 5)))
 (.cons (.fr (.v 3) (.rng (.cst (.int 0)) (.bin .sub (.var 8) (.bi1 .len (.var 5))))
 (.cons (.app 9 (.idx (.var 5) (.callr i_law_draw (.var 0) (.cons (.bi1 .len (.var 5)) .nil))))
 .nil))
 (.cons (.set 5 (.lrg (.var 6) (.bin .add (.var 6) (.var 8))))
 (.cons (.par [4, 6] (.cons (.bin .add (.var 4) (.bi1 .sorted (.var 9))) (.cons (.bin .add (.var 6) (.var 8)) .nil)))
 .nil)))))))
 (.cons (.par [10, 11] (.cons (.lst (.cons (.cst (.int 0)) .nil)) (.cons (.lrg (.cst (.int 1)) (.var 6)) .nil)))
 (.cons (.fr (.v 3) (.rng (.cst (.int 0)) (.bin .sub (.var 6) (.cst (.int 1))))
 (.cons (.set 12 (.comp [13] (.v 13) (.own 11) (.yes (.cmp .isin (.idx (.var 4) (.var 13)) (.var 10))) (.var 13)))
 (.cons (.app 10 (.idx (.var 12) (.callr i_law_draw (.var 0) (.cons (.bi1 .len (.var 12)) .nil))))
 (.cons (.rem 11 (.idx (.var 10) (.neg (.cst (.int 1)))))
 .nil))))
 (.cons (.ret (.bin .add (.lst (.cons (.neg (.cst (.int 1))) .nil)) (.comp [13] (.v 13) (.seq (.slc (.var 10) (.yes (.cst (.int 1))) .no)) .no (.mth .index (.var 10) (.idx (.var 4) (.var 13))))))
 .nil)))))
def lv (a w : Nat) : List Nat := (List.range w).map (a + ·)
theorem lv_len (a w : Nat) : (lv a w).length = w := by simp [lv]
theorem mem_lv {a w k : Nat} : k ∈ lv a w ↔ a ≤ k ∧ k < a + w := by
  unfold lv
  rw [List.mem_map]
  constructor
  · rintro ⟨i, hi, rfl⟩
    have := List.mem_range.mp hi
    omega
  · rintro ⟨h1, h2⟩
    exact ⟨k - a, List.mem_range.mpr (by omega), by omega⟩
theorem lv_sorted (a w : Nat) : (lv a w).Pairwise (· < ·) := by
  unfold lv
  rw [List.pairwise_map]
  exact List.pairwise_lt_range.imp fun h => by omega
theorem rng_lv (a w : Nat) : rngD (a : Int) ((a + w : Nat) : Int) = ni (lv a w) := by
  rw [rng_ni]
  have e : a + w - a = w := by omega
  rw [e]; rfl
/-- sorted numbers, some alike -/
theorem sorted_le {xs : List Nat} (hl : xs.length ≤ lim) : ∃ ys, ys.Perm xs ∧ bi1D .sorted (.list (ni xs)) = some (.o (ni ys)) := by
  have tr : ∀ a b c : Nat, decide (a ≤ b) = true → decide (b ≤ c) = true → decide (a ≤ c) = true := fun a b c h1 h2 => decide_eq_true (Nat.le_trans (of_decide_eq_true h1) (of_decide_eq_true h2))
  have to : ∀ a b : Nat, (decide (a ≤ b) || decide (b ≤ a)) = true := fun a b => by
    rcases Nat.le_total a b with h | h <;> simp [h]
  refine ⟨xs.mergeSort (fun a b => decide (a ≤ b)), List.mergeSort_perm _ _, ?_⟩
  have hp := List.mergeSort_perm xs (fun a b => decide (a ≤ b))
  have hs := List.pairwise_mergeSort (le := fun a b : Nat => decide (a ≤ b)) tr to xs
  generalize xs.mergeSort (fun a b => decide (a ≤ b)) = ys at *
  show (match intsD (ni xs) with
    | some ns => if ns.length ≤ lim then some (W.o ((isort ns).map PyData.int)) else none
    | none => if tupsOk (ni xs) && decide ((ni xs).length ≤ lim) then some (.o (sortD (ni xs))) else none) = _
  rw [intsD_ni]
  dsimp only
  rw [if_pos (by rw [List.length_map]; exact hl)]
  have e : isort (xs.map fun (k : Nat) => (k : Int)) = ys.map fun (k : Nat) => (k : Int) := by
    unfold isort
    have p1 : ((xs.map fun (k : Nat) => (k : Int)).mergeSort (fun a b => decide (a ≤ b))).Perm (xs.map fun (k : Nat) => (k : Int)) := List.mergeSort_perm _ _
    have s1 := List.pairwise_mergeSort (le := fun a b : Int => decide (a ≤ b)) (fun a b c h1 h2 => decide_eq_true (Int.le_trans (of_decide_eq_true h1) (of_decide_eq_true h2))) (fun a b => by
      rcases Int.le_total a b with h | h
      · simp [h]
      · simp [h]) (xs.map fun (k : Nat) => (k : Int))
    refine List.Perm.eq_of_pairwise (fun a b _ _ h g => Int.le_antisymm (of_decide_eq_true h) (of_decide_eq_true g)) s1 ?_ (p1.trans (hp.symm.map _))
    rw [List.pairwise_map]
    exact hs.imp fun h => decide_eq_true (by have := of_decide_eq_true h; omega)
  rw [e]
  show some (W.o ((ys.map fun (k : Nat) => (k : Int)).map PyData.int)) = _
  rw [List.map_map]
  rfl
def en14 (po en z2 z3 pa le wh z7 z8 z9 z10 z11 z12 z13 : Option W) : DE := [po, en, z2, z3, pa, le, wh, z7, z8, z9, z10, z11, z12, z13]
def body1 (kd : Nat) : CSs := (.cons (.set 7 (.bin .fdiv (.bin .sub (.cst (.int 12)) (.var 6)) (.bin .sub (.var 1) (.var 2))))
 (.cons (.set 8 (.bin .add (.bi1 .len (.var 5)) (.callr kd (.var 0) (.cons (.bin .add (.bin .sub (.var 7) (.bi1 .len (.var 5))) (.cst (.int 1))) .nil))))
 (.cons (.set 9 (.bi1 .list (.var 5)))
 (.cons (.fr (.v 3) (.rng (.cst (.int 0)) (.bin .sub (.var 8) (.bi1 .len (.var 5))))
 (.cons (.app 9 (.idx (.var 5) (.callr kd (.var 0) (.cons (.bi1 .len (.var 5)) .nil))))
 .nil))
 (.cons (.set 5 (.lrg (.var 6) (.bin .add (.var 6) (.var 8))))
 (.cons (.par [4, 6] (.cons (.bin .add (.var 4) (.bi1 .sorted (.var 9))) (.cons (.bin .add (.var 6) (.var 8)) .nil)))
 .nil))))))
section
variable {F : Fn}
theorem b1 {kd : Nat} (dr : DrS F kd) {qs : List Nat} {t w e : Nat} (g : Grown qs t w) (ht : t < e) (he : e ≤ 3) (hb : qs.length + 1 + (e - t) * w ≤ 12) {xs : List D} (hp : Pot xs) {z3 z7 z8 z9 : Option W} (h3 : NR z3) (h7 : NR z7) (h8 : NR z8) (h9 : NR z9) :
    WSs F (body1 kd) (en14 (some (.r xs)) (some (.d (.int (e : Nat)))) (some (.d (.int (t : Nat)))) z3 (some (.o (td qs))) (some (.o (ni (lv (qs.length + 1 - w) w)))) (some (.d (.int (qs.length + 1 : Nat)))) z7 z8 z9 none none none none)
      fun f E => f = .nx ∧ ∃ xs qs' w' z3 z7 z8 z9, Pot xs ∧ Grown qs' (t + 1) w' ∧ qs'.length + 1 + (e - (t + 1)) * w' ≤ 12 ∧ NR z3 ∧ NR z7 ∧ NR z8 ∧ NR z9 ∧ E = (en14 (some (.r xs)) (some (.d (.int (e : Nat)))) (some (.d (.int (t : Nat)))) z3 (some (.o (td qs'))) (some (.o (ni (lv (qs'.length + 1 - w') w')))) (some (.d (.int (qs'.length + 1 : Nat)))) z7 z8 z9 none none none none) := by
  have hw1 := g.w1
  have hwl := g.wl
  have het : 1 ≤ (e - t) * w := Nat.mul_pos (by omega) (by omega)
  obtain ⟨m, hm⟩ : ∃ m, (12 - (qs.length + 1)) / (e - t) = m := ⟨_, rfl⟩
  have hm1 : w ≤ m := by
    rw [← hm, Nat.le_div_iff_mul_le (by omega)]
    have := Nat.mul_comm w (e - t)
    omega
  have hm2 : (e - t) * m ≤ 12 - (qs.length + 1) := by
    rw [← hm]; exact Nat.mul_div_le ..
  have hm3 : m ≤ 12 := by
    rw [← hm]
    exact Nat.le_trans (Nat.div_le_self ..) (by omega)
  unfold body1
  walk_at "ew"
  refine ⟨_, fdivD (by omega) (by
    have : ((e : Int) - (t : Int)).natAbs < 2 ^ 10 := by omega
    have := log_le this
    omega), ?_⟩
  have em : ((12 : Int) - ((qs.length + 1 : Nat) : Int)) / ((e : Int) - (t : Int)) = (m : Nat) := by
    rw [show ((12 : Int) - ((qs.length + 1 : Nat) : Int)) = ((12 - (qs.length + 1) : Nat) : Int) from by omega, show ((e : Int) - (t : Int)) = ((e - t : Nat) : Int) from by omega, ← hm]
    rfl
  rw [em]
  refine ⟨_, put_nr rfl h7, ?_⟩
  walk_at "ew"
  rw [ni_len, lv_len, show ((m : Int) - (w : Int) + 1) = ((m - w + 1 : Nat) : Int) from by omega]
  obtain ⟨k, x1, d1, hk, p1⟩ := dr xs hp (m - w + 1) (by omega) (by omega)
  refine ⟨_, _, d1, ?_⟩
  obtain ⟨v, hv⟩ : ∃ v, w + k = v := ⟨_, rfl⟩
  refine ⟨_, rfl, .d (.int (v : Nat)), by rw [← hv]; rfl, (en14 (some (.r x1)) (some (.d (.int (e : Nat)))) (some (.d (.int (t : Nat)))) z3 (some (.o (td qs))) (some (.o (ni (lv (qs.length + 1 - w) w)))) (some (.d (.int (qs.length + 1 : Nat)))) (some (.d (.int (m : Nat)))) (some (.d (.int (v : Nat)))) z9 none none none none), put_nr rfl h8, nx_c ?_⟩
  refine WSs.cons (WS.set (WE.bi1 (WO.var rfl ⟨_, rfl, (en14 (some (.r x1)) (some (.d (.int (e : Nat)))) (some (.d (.int (t : Nat)))) z3 (some (.o (td qs))) (some (.o (ni (lv (qs.length + 1 - w) w)))) (some (.d (.int (qs.length + 1 : Nat)))) (some (.d (.int (m : Nat)))) (some (.d (.int (v : Nat)))) (some (.o (ni (lv (qs.length + 1 - w) w)))) none none none none), put_nr rfl h9, nx_c ?_⟩)))
  refine WSs.cons ?_
  refine WS.fr (fun i E => ∃ xs z3 rs, Pot xs ∧ NR z3 ∧ rs.length = i ∧ (∀ r ∈ rs, r ∈ lv (qs.length + 1 - w) w) ∧ E = (en14 (some (.r xs)) (some (.d (.int (e : Nat)))) (some (.d (.int (t : Nat)))) z3 (some (.o (td qs))) (some (.o (ni (lv (qs.length + 1 - w) w)))) (some (.d (.int (qs.length + 1 : Nat)))) (some (.d (.int (m : Nat)))) (some (.d (.int (v : Nat)))) (some (.o (ni (lv (qs.length + 1 - w) w ++ rs)))) none none none none)) ?_
  walk_at "ew"
  rw [ni_len, lv_len, show ((v : Int) - (w : Int)) = ((v - w : Nat) : Int) from by omega]
  refine ⟨0, ((v - w : Nat) : Int), rfl, rfl, ⟨by omega, by omega, by omega, by omega⟩, ?_⟩
  rw [rng0]
  refine ⟨⟨_, _, [], p1, h3, rfl, (fun _ h => nomatch h), by rw [List.append_nil]⟩, ?_, ?_⟩
  · rintro i x E hx ⟨xs, z3, rs, p, g3, hrl, hr, rfl⟩
    rw [ni_get] at hx
    obtain ⟨j, hj, rfl⟩ := Option.map_eq_some_iff.mp hx
    have hj2 := (List.getElem?_eq_some_iff.mp hj).1
    rw [List.length_range] at hj2
    refine ⟨(en14 (some (.r xs)) (some (.d (.int (e : Nat)))) (some (.d (.int (t : Nat)))) (some (.d (.int (j : Nat)))) (some (.o (td qs))) (some (.o (ni (lv (qs.length + 1 - w) w)))) (some (.d (.int (qs.length + 1 : Nat)))) (some (.d (.int (m : Nat)))) (some (.d (.int (v : Nat)))) (some (.o (ni (lv (qs.length + 1 - w) w ++ rs)))) none none none none), put_nr rfl g3, ?_⟩
    walk_at "ew"
    rw [ni_len, lv_len]
    obtain ⟨k2, x2, d2, hk2, p2⟩ := dr xs p w (by omega) (by omega)
    refine ⟨_, _, d2, ?_⟩
    refine ⟨_, rfl, ?_⟩
    obtain ⟨a, ha⟩ : ∃ a, (lv (qs.length + 1 - w) w)[k2]? = some a := ⟨_, List.getElem?_eq_getElem (by rw [lv_len]; exact hk2)⟩
    refine ⟨_, dAt_nat (i := k2) (d := .int (a : Nat)) (by rw [ni_get, ha]; rfl), ?_⟩
    refine ⟨_, rfl, ?_, ?_⟩
    · rw [ni_len, List.length_append, lv_len]; unfold lim; omega
    refine nx_c (WSs.nil ⟨.inl rfl, x2, _, rs ++ [a], p2, .d (.int (j : Nat)), by simp [hrl], ?_, ?_⟩)
    · intro r hr2
      rcases List.mem_append.mp hr2 with h | h
      · exact hr r h
      · rw [List.mem_singleton.mp h]; exact List.mem_of_getElem? ha
    · rw [← List.append_assoc, ni_append (_ ++ rs) [a]]
      rfl
  rintro E ⟨x3, y3, rs, p3, g3, hrl, hr, rfl⟩
  rw [ni_len, List.length_range] at hrl
  walk_at "ew"
  refine ⟨((qs.length + 1 : Nat) : Int), ((qs.length + 1 + v : Nat) : Int), rfl, by show some (_ + _) = some _; congr 1, ⟨by omega, by omega, by omega, by omega⟩, ?_, ?_⟩
  · rw [rng_lv, ni_len, lv_len]; unfold lim; omega
  rw [rng_lv]
  refine ⟨(en14 (some (.r x3)) (some (.d (.int (e : Nat)))) (some (.d (.int (t : Nat)))) y3 (some (.o (td qs))) (some (.o (ni (lv (qs.length + 1) v)))) (some (.d (.int (qs.length + 1 : Nat)))) (some (.d (.int (m : Nat)))) (some (.d (.int (v : Nat)))) (some (.o (ni (lv (qs.length + 1 - w) w ++ rs)))) none none none none), rfl, ?_⟩
  walk_at "ew"
  have hll : (lv (qs.length + 1 - w) w ++ rs).length = v := by rw [List.length_append, lv_len]; omega
  obtain ⟨ys, hys, es⟩ := sorted_le (xs := lv (qs.length + 1 - w) w ++ rs) (by unfold lim; omega)
  refine ⟨_, es, ?_⟩
  have hyl : ys.length = v := by rw [hys.length_eq, hll]
  have g2 := g.next (rs := ys) (fun r hr2 => by
    have := hys.mem_iff.mp hr2
    have : r ∈ lv (qs.length + 1 - w) w := (List.mem_append.mp this).elim id (hr r)
    have := mem_lv.mp this
    omega) (fun r r1 r2 => hys.mem_iff.mpr (List.mem_append_left _ (mem_lv.mpr (by omega))))
  rw [hyl] at g2
  refine ⟨_, rfl, .o (td qs ++ ni ys), ?_, ?_⟩
  · show mkL (td qs ++ ni ys) = _
    unfold mkL
    rw [if_pos (by rw [List.length_append, td_len, ni_len]; unfold lim; omega)]
  walk_at "ew"
  refine ⟨rfl, x3, qs ++ ys, v, _, _, _, _, p3, g2, ?_, g3, .d (.int (m : Nat)), .d (.int (v : Nat)), .o (ni (lv (qs.length + 1 - w) w ++ rs)), ?_⟩
  · have h1 : (e - t) * v ≤ (e - t) * m := Nat.mul_le_mul_left _ (by omega)
    have h2 : (e - t) * v = (e - (t + 1)) * v + v := by
      rw [show e - t = (e - (t + 1)) + 1 from by omega, Nat.succ_mul]
    rw [List.length_append, hyl]
    omega
  · have e1 : td qs ++ ni ys = td (qs ++ ys) := by unfold td; rw [ni_append]; rfl
    have e2 : (qs ++ ys).length + 1 - v = qs.length + 1 := by rw [List.length_append, hyl]; omega
    have e3 : (((qs ++ ys).length + 1 : Nat) : Int) = ((qs.length + 1 : Nat) : Int) + (v : Int) := by rw [List.length_append, hyl]; omega
    rw [e2, e3, e1]
    rfl
end
/-- the parent of a node other than 0 -/
def pan (qs : List Nat) (c : Nat) : Nat := qs.getD (c - 1) 0
structure Ext (qs ord lf : List Nat) : Prop where
  nd : ord.Nodup
  zero : ord[0]? = some 0
  lfs : lf.Pairwise (· < ·)
  mem : ∀ c, c ≤ qs.length → c ∈ ord ∨ c ∈ lf
  ap : ∀ c ∈ lf, c ∉ ord
  lfr : ∀ c ∈ lf, 1 ≤ c ∧ c ≤ qs.length
  len : ord.length + lf.length = qs.length + 1
  par : ∀ k, k + 1 < ord.length → ∃ c p i, ord[k + 1]? = some (c + 1) ∧ qs[c]? = some p ∧ ord[i]? = some p ∧ i ≤ k
theorem Ext.start (qs : List Nat) : Ext qs [0] (lv 1 qs.length) where
  nd := by simp
  zero := rfl
  lfs := lv_sorted ..
  mem := fun c hc => by
    by_cases h : c = 0
    · exact .inl (by simp [h])
    · exact .inr (mem_lv.mpr (by omega))
  ap := fun c hc h => by
    have := mem_lv.mp hc
    have := List.mem_singleton.mp h
    omega
  lfr := fun c hc => by
    have := mem_lv.mp hc
    omega
  len := by rw [lv_len]; simp; omega
  par := fun k hk => by simp at hk
theorem pan_get {qs : List Nat} {c : Nat} (h1 : 1 ≤ c) (h2 : c ≤ qs.length) : qs[c - 1]? = some (pan qs c) := by
  unfold pan
  rw [List.getD_eq_getElem?_getD, List.getElem?_eq_getElem (by omega)]
  rfl
theorem Ext.free {qs ord lf : List Nat} (x : Ext qs ord lf) (v : Valid qs) (h : lf ≠ []) : 1 ≤ (lf.filter fun c => decide (pan qs c ∈ ord)).length := by
  obtain ⟨c, r, rfl⟩ := List.exists_cons_of_ne_nil h
  have hc := x.lfr c (by simp)
  have hg := pan_get hc.1 hc.2
  have hv := v _ _ hg
  have hs := List.pairwise_cons.mp x.lfs
  have hm : pan qs c ∈ ord := by
    rcases x.mem (pan qs c) (by omega) with h | h
    · exact h
    · exfalso
      rcases List.mem_cons.mp h with h | h
      · omega
      · have := hs.1 _ h
        omega
  exact List.length_pos_iff.mpr (List.ne_nil_of_mem (List.mem_filter.mpr ⟨List.mem_cons_self .., decide_eq_true hm⟩))
theorem Ext.next {qs ord lf : List Nat} (x : Ext qs ord lf) {c : Nat} (hc : c ∈ lf) (hm : pan qs c ∈ ord) : Ext qs (ord ++ [c]) (lf.erase c) where
  nd := by
    rw [List.nodup_append]
    exact ⟨x.nd, by simp, fun a ha b hb e => by
      have := List.mem_singleton.mp hb
      subst this
      subst e
      exact x.ap _ hc ha⟩
  zero := by
    have := (List.getElem?_eq_some_iff.mp x.zero).1
    rw [List.getElem?_append_left this]
    exact x.zero
  lfs := x.lfs.sublist List.erase_sublist
  mem := fun d hd => by
    by_cases e : d = c
    · exact .inl (by simp [e])
    · rcases x.mem d hd with h | h
      · exact .inl (List.mem_append_left _ h)
      · exact .inr ((List.mem_erase_of_ne e).mpr h)
  ap := fun d hd h => by
    have nd : lf.Nodup := x.lfs.imp fun h => Nat.ne_of_lt h
    have h2 := (List.Nodup.mem_erase_iff nd).mp hd
    rcases List.mem_append.mp h with h | h
    · exact x.ap d h2.2 h
    · exact h2.1 (List.mem_singleton.mp h)
  lfr := fun d hd => x.lfr d (List.mem_of_mem_erase hd)
  len := by
    have := x.len
    rw [List.length_append, List.length_erase_of_mem hc]
    have := List.length_pos_of_mem hc
    simp
    omega
  par := fun k hk => by
    rw [List.length_append] at hk
    simp at hk
    by_cases h : k + 1 < ord.length
    · obtain ⟨d, p, i, h1, h2, h3, h4⟩ := x.par k h
      exact ⟨d, p, i, by rw [List.getElem?_append_left h]; exact h1, h2, by rw [List.getElem?_append_left (List.getElem?_eq_some_iff.mp h3).1]; exact h3, h4⟩
    · have hr := x.lfr c hc
      obtain ⟨i, hi⟩ := List.getElem?_of_mem hm
      have hil := (List.getElem?_eq_some_iff.mp hi).1
      refine ⟨c - 1, pan qs c, i, ?_, pan_get hr.1 hr.2, by rw [List.getElem?_append_left hil]; exact hi, by omega⟩
      rw [List.getElem?_append_right (by omega), show k + 1 - ord.length = 0 from by omega, show c - 1 + 1 = c from by omega]
      rfl
theorem Ext.done {qs ord : List Nat} (x : Ext qs ord []) : Renamed qs ord ((ord.drop 1).map fun c => ord.idxOf (pan qs c)) where
  len := by
    have := x.len
    rw [List.length_map, List.length_drop]
    simp at this
    omega
  ol := by simpa using x.len
  nd := x.nd
  zero := x.zero
  all := fun c hc => (x.mem c hc).elim id fun h => nomatch h
  par := fun k hk => by
    have hl := x.len
    simp at hl
    obtain ⟨c, p, i, h1, h2, h3, h4⟩ := x.par k (by omega)
    refine ⟨c, p, i, h1, h2, h3, h4, ?_⟩
    rw [List.getElem?_map, List.getElem?_drop, show 1 + k = k + 1 from by omega, h1]
    have hp : pan qs (c + 1) = p := by
      unfold pan
      rw [List.getD_eq_getElem?_getD, show c + 1 - 1 = c from by omega, h2]
      rfl
    have hm := List.mem_of_getElem? h3
    have h5 : ord.idxOf p < ord.length := List.idxOf_lt_length_iff.mpr hm
    have h6 := List.getElem_idxOf h5
    have hi := List.getElem?_eq_some_iff.mp h3
    have : ord.idxOf p = i := (List.getElem_inj x.nd (h₀ := h5) (h₁ := hi.1)).mp (h6.trans hi.2.symm)
    show some (ord.idxOf (pan qs (c + 1))) = _
    rw [hp, this]
theorem erase_int {xs : List Nat} (k : Nat) : ((xs.map fun (k : Nat) => (k : Int)).erase (k : Int)) = (xs.erase k).map fun (k : Nat) => (k : Int) := by
  induction xs with
  | nil => rfl
  | cons x xs ih =>
    rw [List.map_cons, List.erase_cons, List.erase_cons]
    by_cases h : x = k
    · subst h
      simp
    · have h2 : ¬ (x : Int) = (k : Int) := by omega
      rw [if_neg (by simpa using h2), if_neg (by simpa using h), ih]
      rfl
theorem remD_ni {xs : List Nat} {k : Nat} (h : k ∈ xs) : remD (ni xs) (k : Int) = some (ni (xs.erase k)) := by
  unfold remD
  rw [intsD_ni, Option.bind_some, if_pos (by rw [List.contains_iff_mem]; exact List.mem_map.mpr ⟨k, h, rfl⟩), erase_int, List.map_map]
  rfl
theorem findIdx_ni {k : Nat} : ∀ {xs : List Nat}, k ∈ xs → ((ni xs).findIdx? fun y => PyData.eqv y (.int (k : Int))) = some (xs.idxOf k)
  | [], h => nomatch h
  | x :: xs, h => by
    show ((PyData.int (x : Int)) :: ni xs).findIdx? _ = _
    rw [List.findIdx?_cons, eqv_int, List.idxOf_cons]
    by_cases e : x = k
    · subst e
      simp
    · have h2 : ¬ (x : Int) = (k : Int) := by omega
      rw [decide_eq_false h2]
      have := findIdx_ni (xs := xs) ((List.mem_cons.mp h).resolve_left fun z => e z.symm)
      have h3 : (x == k) = false := by simpa using e
      simp [this, h3]
theorem index_ni {xs : List Nat} {k : Nat} (h : k ∈ xs) : mthD .index (.list (ni xs)) (.int (k : Int)) = some (.int (xs.idxOf k : Nat)) := by
  show (if isFlat (.int (k : Int)) && (ni xs).all isFlat then ((ni xs).findIdx? fun y => PyData.eqv y (.int (k : Int))).map (fun (k : Nat) => PyData.int k) else none) = _
  rw [ni_flat, findIdx_ni h]
  rfl
section
variable {F : Fn}
def body2 (kd : Nat) : CSs := (.cons (.set 12 (.comp [13] (.v 13) (.own 11) (.yes (.cmp .isin (.idx (.var 4) (.var 13)) (.var 10))) (.var 13)))
 (.cons (.app 10 (.idx (.var 12) (.callr kd (.var 0) (.cons (.bi1 .len (.var 12)) .nil))))
 (.cons (.rem 11 (.idx (.var 10) (.neg (.cst (.int 1)))))
 .nil)))
theorem td_pan {qs : List Nat} {c : Nat} (h1 : 1 ≤ c) (h2 : c ≤ qs.length) : (td qs)[c]? = some (.int (pan qs c : Nat)) := by
  obtain ⟨d, rfl⟩ : ∃ d, c = d + 1 := ⟨c - 1, by omega⟩
  rw [td_succ]
  have := pan_get h1 h2
  rw [show d + 1 - 1 = d from by omega] at this
  rw [this]; rfl
theorem b2 {kd : Nat} (dr : DrS F kd) {qs ord lf : List Nat} (v : Valid qs) (hl : qs.length ≤ 11) (x : Ext qs ord lf) (hne : lf ≠ []) {xs : List D} (hp : Pot xs) {en z2 z3 z5 z6 z7 z8 z9 z12 : Option W} (h12 : NR z12) :
    WSs F (body2 kd) (en14 (some (.r xs)) en z2 z3 (some (.o (td qs))) z5 z6 z7 z8 z9 (some (.o (ni ord))) (some (.o (ni lf))) z12 none)
      fun f E => f = .nx ∧ ∃ xs ord' lf' z12, Pot xs ∧ Ext qs ord' lf' ∧ lf'.length + 1 = lf.length ∧ NR z12 ∧ E = (en14 (some (.r xs)) en z2 z3 (some (.o (td qs))) z5 z6 z7 z8 z9 (some (.o (ni ord'))) (some (.o (ni lf'))) z12 none) := by
  have hlen := x.len
  have hfr := x.free v hne
  unfold body2
  refine WSs.cons (WS.set ?_)
  refine WE.compO lf (fun (k : Nat) => .int k) (fun c => decide (pan qs c ∈ ord)) (fun (k : Nat) => .int k) rfl rfl ?_ ?_ ?_
  · unfold lim; omega
  · intro k hk
    have hr := x.lfr k hk
    refine ⟨_, rfl, ?_⟩
    walk_at "ew"
    refine ⟨_, dAt_nat (td_pan hr.1 hr.2), ?_⟩
    walk_at "ew"
    refine ⟨_, ⟨inD_ni (pan qs k) ord⟩, ?_⟩
    walk_at "ew"
    refine ⟨rfl, fun _ => ?_, fun _ => rfl⟩
    walk_at "ew"
    exact ⟨rfl, rfl⟩
  generalize hfl : lf.filter (fun c => decide (pan qs c ∈ ord)) = fr at *
  have hfl2 : fr.length ≤ lf.length := by rw [← hfl]; exact List.length_filter_le ..
  refine ⟨(en14 (some (.r xs)) en z2 z3 (some (.o (td qs))) z5 z6 z7 z8 z9 (some (.o (ni ord))) (some (.o (ni lf))) (some (.o (ni fr))) none), put_nr rfl h12, nx_c ?_⟩
  walk_at "ew"
  rw [ni_len]
  obtain ⟨k, x1, d1, hk, p1⟩ := dr xs hp fr.length hfr (by omega)
  refine ⟨_, _, d1, ?_⟩
  refine ⟨_, rfl, ?_⟩
  obtain ⟨a, ha⟩ : ∃ a, fr[k]? = some a := ⟨_, List.getElem?_eq_getElem hk⟩
  refine ⟨_, dAt_nat (i := k) (d := .int (a : Nat)) (by rw [ni_get, ha]; rfl), ?_⟩
  refine ⟨ni ord, rfl, ?_, ?_⟩
  · rw [ni_len]; unfold lim; omega
  have ham := List.mem_of_getElem? ha
  rw [← hfl, List.mem_filter] at ham
  have hap := of_decide_eq_true ham.2
  have e1 : ni ord ++ [PyData.int (a : Nat)] = ni (ord ++ [a]) := (ni_append ord [a]).symm
  show (Fl.nx = Fl.nx → WSs F _ (en14 (some (.r x1)) en z2 z3 (some (.o (td qs))) z5 z6 z7 z8 z9 (some (.o (ni ord ++ [.int (a : Nat)]))) (some (.o (ni lf))) (some (.o (ni fr))) none) _) ∧ _
  rw [e1]
  refine nx_c ?_
  refine WSs.cons (WS.rem rfl ?_)
  refine WE.idx (WO.var rfl ?_)
  walk_at "ew"
  refine ⟨_, dAt_last (d := .int (a : Nat)) (by rw [← e1]; simp), ?_⟩
  refine ⟨(a : Nat), ni lf, _, rfl, rfl, remD_ni ham.1, ?_⟩
  walk_at "ew"
  refine ⟨rfl, x1, _, _, _, p1, x.next ham.1 hap, ?_, .o (ni fr), rfl⟩
  have := List.length_erase_of_mem ham.1
  have := List.length_pos_of_mem ham.1
  omega
theorem treeU_ok {kd : Nat} (dr : DrS F kd) {xs : List D} {e : Nat} (hp : Pot xs) (he : e ≤ 3) : ∃ ps xs', fin (some xs) (PV.execs F (b_law_treeU kd) [some (.r xs), some (.d (.int (e : Nat))), none, none, none, none, none, none, none, none, none, none, none, none]) = some (.o (td ps), some xs') ∧ Good ps e ∧ Pot xs' := by
  suffices h : ∃ ps xs', Good ps e ∧ Pot xs' ∧ WSs F (b_law_treeU kd) [some (.r xs), some (.d (.int (e : Nat))), none, none, none, none, none, none, none, none, none, none, none, none] fun f E' => (f = .rt (.o (td ps)) ∨ (f = .nx ∧ W.o (td ps) = .d .none)) ∧ E'[0]? = some (some (.r xs')) by
    obtain ⟨ps, xs', g, p, h⟩ := h
    exact ⟨ps, xs', fin_ofR h, g, p⟩
  have L1 : WS F (.fr (.v 2) (.rng (.cst (.int 0)) (.var 1)) (body1 kd)) (en14 (some (.r xs)) (some (.d (.int (e : Nat)))) none none (some (.o (td []))) (some (.o (ni (lv 0 1)))) (some (.d (.int (0 + 1 : Nat)))) none none none none none none none)
      fun f E => f = .nx ∧ ∃ x1 qs w z2 z3 z7 z8 z9, Pot x1 ∧ Grown qs e w ∧ qs.length ≤ 11 ∧ NR z2 ∧ NR z3 ∧ NR z7 ∧ NR z8 ∧ NR z9 ∧ E = (en14 (some (.r x1)) (some (.d (.int (e : Nat)))) z2 z3 (some (.o (td qs))) (some (.o (ni (lv (qs.length + 1 - w) w)))) (some (.d (.int (qs.length + 1 : Nat)))) z7 z8 z9 none none none none) := by
    refine WS.fr (fun t E => ∃ x1 qs w z2 z3 z7 z8 z9, Pot x1 ∧ Grown qs t w ∧ qs.length + 1 + (e - t) * w ≤ 12 ∧ NR z2 ∧ NR z3 ∧ NR z7 ∧ NR z8 ∧ NR z9 ∧ E = (en14 (some (.r x1)) (some (.d (.int (e : Nat)))) z2 z3 (some (.o (td qs))) (some (.o (ni (lv (qs.length + 1 - w) w)))) (some (.d (.int (qs.length + 1 : Nat)))) z7 z8 z9 none none none none)) ?_
    walk_at "ew"
    refine ⟨0, (e : Nat), rfl, rfl, ⟨by omega, by omega, by omega, by omega⟩, ?_⟩
    rw [rng0]
    refine ⟨⟨xs, [], 1, _, _, _, _, _, hp, Grown.zero, by simp; omega, .n, .n, .n, .n, .n, rfl⟩, ?_, ?_⟩
    · rintro t d E hx ⟨x1, qs, w, z2, z3, z7, z8, z9, p1, g, hb, g2, g3, g7, g8, g9, rfl⟩
      rw [ni_get] at hx
      obtain ⟨j, hj, rfl⟩ := Option.map_eq_some_iff.mp hx
      have hj2 := List.getElem?_eq_some_iff.mp hj
      obtain ⟨hj3, hj4⟩ := hj2
      rw [List.length_range] at hj3
      rw [List.getElem_range] at hj4
      subst hj4
      refine ⟨(en14 (some (.r x1)) (some (.d (.int (e : Nat)))) (some (.d (.int (t : Nat)))) z3 (some (.o (td qs))) (some (.o (ni (lv (qs.length + 1 - w) w)))) (some (.d (.int (qs.length + 1 : Nat)))) z7 z8 z9 none none none none), put_nr rfl g2, ?_⟩
      obtain ⟨f, E', q, rfl, x2, qs', w', y3, y7, y8, y9, h1, h2, h3, h4, h5, h6, h7, rfl⟩ := b1 dr g hj3 he hb p1 g3 g7 g8 g9
      exact ⟨_, _, q, .inl rfl, x2, qs', w', _, y3, y7, y8, y9, h1, h2, h3, .d (.int (t : Nat)), h4, h5, h6, h7, rfl⟩
    · rintro E ⟨x1, qs, w, z2, z3, z7, z8, z9, p1, g, hb, g2, g3, g7, g8, g9, rfl⟩
      rw [ni_len, List.length_range] at g hb
      exact ⟨rfl, x1, qs, w, z2, z3, z7, z8, z9, p1, g, by omega, g2, g3, g7, g8, g9, rfl⟩
  obtain ⟨f, E1, q1, rfl, x1, qs, w, z2, z3, z7, z8, z9, p1, g, hl, g2, g3, g7, g8, g9, rfl⟩ := L1
  have L2 : WS F (.fr (.v 3) (.rng (.cst (.int 0)) (.bin .sub (.var 6) (.cst (.int 1)))) (body2 kd)) (en14 (some (.r x1)) (some (.d (.int (e : Nat)))) z2 z3 (some (.o (td qs))) (some (.o (ni (lv (qs.length + 1 - w) w)))) (some (.d (.int (qs.length + 1 : Nat)))) z7 z8 z9 (some (.o (ni [0]))) (some (.o (ni (lv 1 qs.length)))) none none)
      fun f E => f = .nx ∧ ∃ x2 ord z3 z12, Pot x2 ∧ Ext qs ord [] ∧ E = (en14 (some (.r x2)) (some (.d (.int (e : Nat)))) z2 z3 (some (.o (td qs))) (some (.o (ni (lv (qs.length + 1 - w) w)))) (some (.d (.int (qs.length + 1 : Nat)))) z7 z8 z9 (some (.o (ni ord))) (some (.o (ni []))) z12 none) := by
    refine WS.fr (fun i E => ∃ x2 ord lf z3 z12, Pot x2 ∧ Ext qs ord lf ∧ i + lf.length = qs.length ∧ NR z3 ∧ NR z12 ∧ E = (en14 (some (.r x2)) (some (.d (.int (e : Nat)))) z2 z3 (some (.o (td qs))) (some (.o (ni (lv (qs.length + 1 - w) w)))) (some (.d (.int (qs.length + 1 : Nat)))) z7 z8 z9 (some (.o (ni ord))) (some (.o (ni lf))) z12 none)) ?_
    walk_at "ew"
    rw [show (((qs.length + 1 : Nat) : Int) - 1) = ((qs.length : Nat) : Int) from by omega]
    refine ⟨0, (qs.length : Nat), rfl, rfl, ⟨by omega, by omega, by omega, by omega⟩, ?_⟩
    rw [rng0]
    refine ⟨⟨x1, _, _, _, _, p1, Ext.start qs, by rw [lv_len]; omega, g3, .n, rfl⟩, ?_, ?_⟩
    · rintro i d E hx ⟨x2, ord, lf, z3, z12, p2, xx, hi, g3, g12, rfl⟩
      rw [ni_get] at hx
      obtain ⟨j, hj, rfl⟩ := Option.map_eq_some_iff.mp hx
      have hj3 := (List.getElem?_eq_some_iff.mp hj).1
      rw [List.length_range] at hj3
      refine ⟨(en14 (some (.r x2)) (some (.d (.int (e : Nat)))) z2 (some (.d (.int (j : Nat)))) (some (.o (td qs))) (some (.o (ni (lv (qs.length + 1 - w) w)))) (some (.d (.int (qs.length + 1 : Nat)))) z7 z8 z9 (some (.o (ni ord))) (some (.o (ni lf))) z12 none), put_nr rfl g3, ?_⟩
      obtain ⟨f, E', q, rfl, x3, ord', lf', y12, h1, h2, h3, h4, rfl⟩ := b2 dr g.v hl xx (by intro z; rw [z] at hi; simp at hi; omega) p2 (en := some (.d (.int (e : Nat)))) (z2 := z2) (z3 := some (.d (.int (j : Nat)))) (z5 := some (.o (ni (lv (qs.length + 1 - w) w)))) (z6 := some (.d (.int (qs.length + 1 : Nat)))) (z7 := z7) (z8 := z8) (z9 := z9) g12
      exact ⟨_, _, q, .inl rfl, x3, ord', lf', _, y12, h1, h2, by omega, .d (.int (j : Nat)), h4, rfl⟩
    · rintro E ⟨x2, ord, lf, z3, z12, p2, xx, hi, g3, g12, rfl⟩
      rw [ni_len, List.length_range] at hi
      have : lf = [] := List.length_eq_zero_iff.mp (by omega)
      subst this
      exact ⟨rfl, x2, ord, z3, z12, p2, xx, rfl⟩
  obtain ⟨f, E2, q2, rfl, x2, ord, y3, y12, p2, xx, rfl⟩ := L2
  have rn := xx.done
  have hol := rn.ol
  refine ⟨(ord.drop 1).map fun c => ord.idxOf (pan qs c), x2, rn.good (g.good hl he), p2, ?_⟩
  unfold b_law_treeU
  refine WSs.cons (WS.par ?_)
  refine WW.cons (WE.lst (WL.cons (WE.neg (WE.cst ⟨_, rfl, WL.nil ⟨show (1 : Nat) ≤ lim from by decide, ?_⟩⟩))))
  refine WW.cons (WE.lst (WL.cons (WE.cst (WL.nil ⟨show (1 : Nat) ≤ lim from by decide, ?_⟩))))
  refine WW.cons (WE.cst (WW.nil ⟨_, rfl, nx_c ?_⟩))
  refine WSs.cons ⟨_, _, q1, nx_c ?_⟩
  refine WSs.cons (WS.par ?_)
  refine WW.cons (WE.lst (WL.cons (WE.cst (WL.nil ⟨show (1 : Nat) ≤ lim from by decide, ?_⟩))))
  have rr := rng_lv 1 qs.length
  have r2 : (((1 + qs.length : Nat)) : Int) = ((qs.length + 1 : Nat) : Int) := by omega
  rw [r2] at rr
  refine WW.cons (WE.lrg (WE.cst (WE.var rfl ⟨1, ((qs.length + 1 : Nat) : Int), rfl, rfl, ⟨by omega, by omega, by omega, by omega⟩, ?_, ?_⟩)))
  · rw [show ((1 : Int)) = ((1 : Nat) : Int) from rfl, rr, ni_len, lv_len]; unfold lim; omega
  rw [show ((1 : Int)) = ((1 : Nat) : Int) from rfl, rr]
  refine WW.nil ⟨_, rfl, nx_c ?_⟩
  refine WSs.cons ⟨_, _, q2, nx_c ?_⟩
  refine WSs.cons (WS.ret (WE.bin (WO.of ?_)))
  refine WE.lst (WL.cons (WE.neg (WE.cst ⟨_, rfl, WL.nil ⟨show (1 : Nat) ≤ lim from by decide, ?_⟩⟩)))
  refine WO.of ?_
  refine WE.comp (ord.drop 1) (fun (k : Nat) => .int k) (fun _ => true) (fun c => .int (ord.idxOf (pan qs c) : Nat)) ?_
  walk_at "ew"
  have e1 : cutD (ni ord) (some ((1 : Nat) : Int)) none = ni (ord.drop 1) := by
    rw [cut_from]
    unfold ni
    rw [List.map_drop]
  rw [e1]
  refine ⟨?_, rfl, ?_, ?_⟩
  · rw [ni_len, List.length_drop]; unfold lim; omega
  · intro c hc
    obtain ⟨k, hk⟩ := List.getElem?_of_mem hc
    have hkl := (List.getElem?_eq_some_iff.mp hk).1
    rw [List.length_drop] at hkl
    rw [List.getElem?_drop] at hk
    obtain ⟨c', p, i, h1, h2, h3, h4⟩ := xx.par k (by omega)
    rw [show 1 + k = k + 1 from by omega, h1] at hk
    cases hk
    have hcl := (List.getElem?_eq_some_iff.mp h2).1
    have hpg := pan_get (qs := qs) (c := c' + 1) (by omega) (by omega)
    rw [show c' + 1 - 1 = c' from by omega, h2] at hpg
    cases hpg
    refine ⟨_, rfl, ?_⟩
    walk_at "ew"
    refine ⟨rfl, fun _ => ?_, fun z => nomatch z⟩
    walk_at "ew"
    refine ⟨_, dAt_nat (td_pan (by omega) (by omega)), ?_⟩
    walk_at "ew"
    refine ⟨_, index_ni (List.mem_of_getElem? h3), ?_⟩
    exact ⟨rfl, rfl⟩
  rw [List.filter_eq_self.mpr (fun _ _ => rfl)]
  refine ⟨_, rfl, .o (td ((ord.drop 1).map fun c => ord.idxOf (pan qs c))), ?_, ?_⟩
  · have e2 : (ord.drop 1).map (fun c => PyData.int (ord.idxOf (pan qs c) : Nat)) = ni ((ord.drop 1).map fun c => ord.idxOf (pan qs c)) := by
      unfold ni
      rw [List.map_map]
      rfl
    rw [e2]
    show mkL ([PyData.int (-1)] ++ ni _) = _
    unfold mkL
    rw [if_pos (by rw [List.length_append, ni_len, List.length_map, List.length_drop, hol]; simp; unfold lim; omega)]
    rfl
  walk_at "ew"
  exact ⟨.inl rfl, rfl⟩
end
end PVU
end

section
set_option Elab.async false
set_option linter.all false
set_option maxRecDepth 100000
set_option maxHeartbeats 2000000
set_option autoImplicit false
/-! MV: functions on trees cut and parted, and their shapes (k13) -/
namespace PV
open PySem TR
/-- check_number: 0 value, 1 least, 2 most -/
def b_check_number (i_is_within : Nat) : CSs := (.cons (.ifs (.not (.call i_is_within (.cons (.var 0) (.cons (.var 1) (.cons (.var 2) .nil))) [0, 1, 2]))
 (.cons .stuck
 .nil)
 .nil)
 .nil)
/-- end_by: 0 tree -/
def b_end_by (i_times_of : Nat) : CSs := (.cons (.ret (.bi1 .maxl (.call i_times_of (.cons (.var 0) .nil) [0])))
 .nil)
/-- behind: 0 tree, 1 node, 2 late -/
def b_behind (i_way_of : Nat) : CSs := (.cons (.ret (.comp [2] (.v 2) (.rng (.cst (.int 0)) (.bi1 .len (.var 0))) (.yes (.cmp .isin (.var 1) (.call i_way_of (.cons (.var 0) (.cons (.var 2) .nil)) [0, 1]))) (.var 2)))
 .nil)
/-- check_noded: 0 tree, 1 node -/
def b_check_noded (i_check_tree i_check_node : Nat) : CSs := (.cons (.ex (.call i_check_tree (.cons (.var 0) .nil) [0]))
 (.cons (.ex (.call i_check_node (.cons (.var 0) (.cons (.var 1) .nil)) [0, 1]))
 .nil))
/-- is_tree: 0 value -/
def b_is_tree (i_is_tree_of : Nat) : CSs := (.cons (.ret (.call i_is_tree_of (.cons (.var 0) .nil) [0]))
 .nil)
/-- end_of: 0 tree -/
def b_end_of (i_check_tree i_end_by : Nat) : CSs := (.cons (.ex (.call i_check_tree (.cons (.var 0) .nil) [0]))
 (.cons (.ret (.call i_end_by (.cons (.var 0) .nil) [0]))
 .nil))
/-- time_of: 0 tree, 1 node -/
def b_time_of (i_check_noded i_times_of : Nat) : CSs := (.cons (.ex (.call i_check_noded (.cons (.var 0) (.cons (.var 1) .nil)) [0, 1]))
 (.cons (.ret (.idx (.call i_times_of (.cons (.var 0) .nil) [0]) (.var 1)))
 .nil))
/-- leaves: 0 tree -/
def b_leaves (i_check_tree i_leaves_of : Nat) : CSs := (.cons (.ex (.call i_check_tree (.cons (.var 0) .nil) [0]))
 (.cons (.ret (.call i_leaves_of (.cons (.var 0) .nil) [0]))
 .nil))
/-- renumbered: 0 tree, 1 nodes, 2 parents, 3 node -/
def b_renumbered : CSs := (.cons (.set 2 (.bin .add (.lst (.cons (.neg (.cst (.int 1))) .nil)) (.comp [3] (.v 3) (.seq (.slc (.var 1) (.yes (.cst (.int 1))) .no)) .no (.mth .index (.var 1) (.idx (.var 0) (.var 3))))))
 (.cons (.retT (.cons (.var 2) (.cons (.bi1 .list (.var 1)) .nil)))
 .nil))
/-- shape_of: 0 tree, 1 node, 2 shapes, 3 late, 4 child -/
def b_shape_of (i_children_of : Nat) : CSs := (.cons (.set 2 (.rpt (.lst (.cons (.tup .nil) .nil)) (.bi1 .len (.var 0))))
 (.cons (.fr (.v 3) (.rngd (.bin .sub (.bi1 .len (.var 0)) (.cst (.int 1))) (.neg (.cst (.int 1))))
 (.cons (.six 2 (.var 3) (.bi1 .tuple (.bi1 .sorted (.comp [4] (.v 4) (.seq (.call i_children_of (.cons (.var 0) (.cons (.var 3) .nil)) [0, 1])) .no (.idx (.var 2) (.var 4))))))
 .nil))
 (.cons (.ret (.idx (.var 2) (.var 1)))
 .nil)))
/-- way_to: 0 tree, 1 node -/
def b_way_to (i_check_noded i_way_of : Nat) : CSs := (.cons (.ex (.call i_check_noded (.cons (.var 0) (.cons (.var 1) .nil)) [0, 1]))
 (.cons (.ret (.call i_way_of (.cons (.var 0) (.cons (.var 1) .nil)) [0, 1]))
 .nil))
/-- lot_of: 0 tree, 1 node -/
def b_lot_of (i_check_noded i_lot_by : Nat) : CSs := (.cons (.ex (.call i_check_noded (.cons (.var 0) (.cons (.var 1) .nil)) [0, 1]))
 (.cons (.ret (.call i_lot_by (.cons (.var 0) (.cons (.var 1) .nil)) [0, 1]))
 .nil))
/-- cut_at: 0 tree, 1 number, 2 node, 3 time -/
def b_cut_at (i_renumbered i_check_tree i_check_number i_end_by i_times_of : Nat) : CSs := (.cons (.ex (.call i_check_tree (.cons (.var 0) .nil) [0]))
 (.cons (.ex (.call i_check_number (.cons (.var 1) (.cons (.cst (.int 0)) (.cons (.call i_end_by (.cons (.var 0) .nil) [0]) .nil))) [0, 1, 2]))
 (.cons (.retC i_renumbered (.cons (.var 0) (.cons (.comp [2, 3] (.t (.cons (.v 2) (.cons (.v 3) .nil))) (.enum (.call i_times_of (.cons (.var 0) .nil) [0])) (.yes (.cmp .le (.var 3) (.var 1))) (.var 2)) .nil)) [0, 1])
 .nil)))
/-- part_of: 0 tree, 1 node -/
def b_part_of (i_renumbered i_check_noded i_behind : Nat) : CSs := (.cons (.ex (.call i_check_noded (.cons (.var 0) (.cons (.var 1) .nil)) [0, 1]))
 (.cons (.retC i_renumbered (.cons (.var 0) (.cons (.call i_behind (.cons (.var 0) (.cons (.var 1) .nil)) [0, 1]) .nil)) [0, 1])
 .nil))
/-- shape: 0 tree -/
def b_shape (i_check_tree i_shape_of : Nat) : CSs := (.cons (.ex (.call i_check_tree (.cons (.var 0) .nil) [0]))
 (.cons (.ret (.call i_shape_of (.cons (.var 0) (.cons (.cst (.int 0)) .nil)) [0, 1]))
 .nil))
/-- _law_way: 0 tree, 1 node, 2 found -/
def b_law_wayT : CSs := (.cons (.set 2 (.lst (.cons (.var 1) .nil)))
 (.cons (.wh (.cmp .ne (.idx (.var 2) (.cst (.int 0))) (.cst (.int 0)))
 (.cons (.set 2 (.bin .add (.lst (.cons (.idx (.var 0) (.idx (.var 2) (.cst (.int 0)))) .nil)) (.var 2)))
 .nil))
 (.cons (.ret (.bi1 .tuple (.var 2)))
 .nil)))
/-- _law_again: 0 tree, 1 nodes, 2 node -/
def b_law_again : CSs := (.cons (.ret (.tup (.cons (.bin .add (.lst (.cons (.neg (.cst (.int 1))) .nil)) (.comp [2] (.v 2) (.seq (.slc (.var 1) (.yes (.cst (.int 1))) .no)) .no (.mth .index (.var 1) (.idx (.var 0) (.var 2))))) (.cons (.var 1) .nil))))
 .nil)

section
variable {F : Fn} {ps ns : List Nat} {d : D} {e : Nat}
def CnS (F : Fn) (k : Nat) : Prop := ∀ v a b : Int, a ≤ v → v ≤ b → F k none [.int v, .int a, .int b] = some (.d .none, none)
def EbS (F : Fn) (k : Nat) (ps : List Nat) : Prop := ∀ d, TD d ps → F k none [d] = some (.d (.int (high ps : Nat)), none)
def WyS (F : Fn) (k : Nat) (ps : List Nat) : Prop := ∀ (d : D) (a : Nat), TD d ps → a ≤ ps.length → F k none [d, .int (a : Nat)] = some (.d (.tuple (ni (way ps a))), none)
def BhS (F : Fn) (k : Nat) (ps : List Nat) : Prop := ∀ (d : D) (a : Nat), TD d ps → F k none [d, .int (a : Nat)] = some (.o (ni (partN ps a)), none)
def TmS (F : Fn) (k : Nat) (ps : List Nat) : Prop := ∀ (d : D) (a : Nat), TD d ps → a ≤ ps.length → F k none [d, .int (a : Nat)] = some (.d (.int (depth ps a : Nat)), none)
def LotA (F : Fn) (k : Nat) (ps : List Nat) : Prop := ∀ (d : D) (a : Nat), TD d ps → a ≤ ps.length → F k none [d, .int (a : Nat)] = some (.d (.tuple (ni (lot ps a))), none)
def RnS (F : Fn) (k : Nat) : Prop := ∀ (d : D) (ps ns : List Nat), TD d ps → Part ps ns → ps.length ≤ 11 → Valid ps → F k none [d, .list (ni ns)] = some (.t [td (renum ps ns), ni ns], none)
def AgS (F : Fn) (k : Nat) : Prop := ∀ (d : D) (ps ns : List Nat), TD d ps → Part ps ns → ps.length ≤ 11 → Valid ps → F k none [d, .list (ni ns)] = some (.d (.tuple [.list (td (renum ps ns)), .list (ni ns)]), none)
def CuS (F : Fn) (k : Nat) (ps : List Nat) : Prop := ∀ (d : D) (t : Nat), TD d ps → t ≤ high ps → F k none [d, .int (t : Nat)] = some (.t [td (renum ps (cutN ps t)), ni (cutN ps t)], none)
def PoS (F : Fn) (k : Nat) (ps : List Nat) : Prop := ∀ (d : D) (a : Nat), TD d ps → a ≤ ps.length → F k none [d, .int (a : Nat)] = some (.t [td (renum ps (partN ps a)), ni (partN ps a)], none)
theorem checknumber_ok {k : Nat} (h : WitS F k) {v a b : Int} (h1 : a ≤ v) (h2 : v ≤ b) : fin none (PV.execs F (b_check_number k) [some (.d (.int v)), some (.d (.int a)), some (.d (.int b))]) = some (.d .none, none) := by
  have hc := h v a b
  rw [decide_eq_true h1, decide_eq_true h2] at hc
  apply fin_of
  unfold b_check_number
  walk_at "ew"
  refine ⟨_, hc, ?_⟩
  walk_at "ew"
  exact .inr ⟨rfl, rfl⟩
theorem endby_ok {k : Nat} (ht : F k none [d] = some (.o (ni (times ps)), none)) : fin none (PV.execs F (b_end_by k) [some (.d d)]) = some (.d (.int (high ps : Nat)), none) := by
  apply fin_of
  unfold b_end_by
  exact WSs.cons (WS.ret (WE.bi1 (WO.of (WE.call (WL.cons (WE.var rfl (WL.nil ⟨_, rfl, _, ht, _, max_times ps, rt_c (.inl rfl)⟩)))))))
theorem behind_ok {k : Nat} (h : TD d ps) (hl : ps.length ≤ 11) (a : Nat) (hw : ∀ b : Nat, b ≤ ps.length → F k none [d, .int (b : Nat)] = some (.d (.tuple (ni (way ps b))), none)) : fin none (PV.execs F (b_behind k) [some (.d d), some (.d (.int (a : Nat))), none]) = some (.o (ni (partN ps a)), none) := by
  apply fin_of
  unfold b_behind
  refine WSs.cons (WS.ret ?_)
  refine WE.comp (List.range (ps.length + 1)) (fun (k : Nat) => .int k) (fun k => decide (a ∈ way ps k)) (fun (k : Nat) => .int k) ?_
  refine WI.rng (WE.cst (WE.bi1 (WO.var rfl ⟨_, h.len, 0, (ps.length : Int) + 1, rfl, rfl, ⟨by omega, by omega, by omega, by omega⟩, rng_len ps, fun b hb => ?_, rt_c (.inl rfl)⟩)))
  have hb := List.mem_range.mp hb
  refine ⟨[some (.d d), some (.d (.int (a : Nat))), some (.d (.int (b : Nat)))], rfl, WC.yes (WE.cmp (WO.var rfl (WO.of (WE.call (WL.cons (WE.var rfl (WL.cons (WE.var rfl (WL.nil ⟨_, rfl, _, hw b (by omega), _, rfl, _, ⟨inD_ni a _⟩, _, rfl, rfl, fun _ => ?_, fun _ => rfl⟩)))))))))⟩
  exact WE.var rfl ⟨rfl, rfl⟩
theorem checknoded_ok {k1 k2 : Nat} {x : D} (h1 : F k1 none [d] = some (.d .none, none)) (h2 : F k2 none [d, x] = some (.d .none, none)) : fin none (PV.execs F (b_check_noded k1 k2) [some (.d d), some (.d x)]) = some (.d .none, none) := by
  apply fin_of
  unfold b_check_noded
  refine WSs.cons (WS.ex (WE.call (WL.cons (WE.var rfl (WL.nil ⟨_, rfl, _, h1, nx_c ?_⟩)))))
  exact WSs.cons (WS.ex (WE.call (WL.cons (WE.var rfl (WL.cons (WE.var rfl (WL.nil ⟨_, rfl, _, h2, nx_c (WSs.nil (.inr ⟨rfl, rfl⟩))⟩)))))))
theorem istree1_ok {k : Nat} {w : W} (h1 : F k none [d] = some (w, none)) (hw : w.frz = w := by rfl) : fin none (PV.execs F (b_is_tree k) [some (.d d)]) = some (w, none) := by
  apply fin_of
  unfold b_is_tree
  exact WSs.cons (WS.ret (WE.call (WL.cons (WE.var rfl (WL.nil ⟨_, rfl, _, h1, rt_c (.inl (by rw [hw]))⟩)))))
theorem endof_ok {k1 k2 : Nat} {w : W} (h1 : F k1 none [d] = some (.d .none, none)) (h2 : F k2 none [d] = some (w, none)) (hw : w.frz = w := by rfl) : fin none (PV.execs F (b_end_of k1 k2) [some (.d d)]) = some (w, none) := by
  apply fin_of
  unfold b_end_of
  refine WSs.cons (WS.ex (WE.call (WL.cons (WE.var rfl (WL.nil ⟨_, rfl, _, h1, nx_c ?_⟩)))))
  exact WSs.cons (WS.ret (WE.call (WL.cons (WE.var rfl (WL.nil ⟨_, rfl, _, h2, rt_c (.inl (by rw [hw]))⟩)))))
theorem leavesf_ok {k1 k2 : Nat} {w : W} (h1 : F k1 none [d] = some (.d .none, none)) (h2 : F k2 none [d] = some (w, none)) (hw : w.frz = w := by rfl) : fin none (PV.execs F (b_leaves k1 k2) [some (.d d)]) = some (w, none) := endof_ok h1 h2 hw
theorem timeof_ok {k1 k2 a : Nat} (ha : a ≤ ps.length) (h1 : F k1 none [d, .int (a : Nat)] = some (.d .none, none)) (h2 : F k2 none [d] = some (.o (ni (times ps)), none)) : fin none (PV.execs F (b_time_of k1 k2) [some (.d d), some (.d (.int (a : Nat)))]) = some (.d (.int (depth ps a : Nat)), none) := by
  apply fin_of
  unfold b_time_of
  refine WSs.cons (WS.ex (WE.call (WL.cons (WE.var rfl (WL.cons (WE.var rfl (WL.nil ⟨_, rfl, _, h1, nx_c ?_⟩)))))))
  exact WSs.cons (WS.ret (WE.idx (WO.of (WE.call (WL.cons (WE.var rfl (WL.nil ⟨_, rfl, _, h2, WO.var rfl ⟨_, rfl, _, dAt_nat (by rw [ni_get, times_get ha]; rfl), rt_c (.inl rfl)⟩⟩)))))))
theorem wayto_ok {k1 k2 : Nat} {x : D} {w : W} (h1 : F k1 none [d, x] = some (.d .none, none)) (h2 : F k2 none [d, x] = some (w, none)) (hw : w.frz = w := by rfl) : fin none (PV.execs F (b_way_to k1 k2) [some (.d d), some (.d x)]) = some (w, none) := by
  apply fin_of
  unfold b_way_to
  refine WSs.cons (WS.ex (WE.call (WL.cons (WE.var rfl (WL.cons (WE.var rfl (WL.nil ⟨_, rfl, _, h1, nx_c ?_⟩)))))))
  exact WSs.cons (WS.ret (WE.call (WL.cons (WE.var rfl (WL.cons (WE.var rfl (WL.nil ⟨_, rfl, _, h2, rt_c (.inl (by rw [hw]))⟩)))))))
theorem lotof_ok {k1 k2 : Nat} {x : D} {w : W} (h1 : F k1 none [d, x] = some (.d .none, none)) (h2 : F k2 none [d, x] = some (w, none)) (hw : w.frz = w := by rfl) : fin none (PV.execs F (b_lot_of k1 k2) [some (.d d), some (.d x)]) = some (w, none) := wayto_ok h1 h2 hw
theorem part_len (p : Part ps ns) (hl : ps.length ≤ 11) : ns.length ≤ 12 := by
  have := sub_len p.srt p.le
  omega
theorem slc_ni (ns : List Nat) : slcD (.list (ni ns)) (some 1) none = some (.o (ni ns.tail)) := by
  show some (W.o (cutD (ni ns) (some ((1 : Nat) : Int)) none)) = _
  rw [cut_from]
  unfold ni
  rw [← List.map_drop, List.drop_one]
/-- the comprehension of new parents -/
theorem renum_turn (h : TD d ps) (p : Part ps ns) (v : Valid ps) {x : Nat} (hx : x ∈ ns.tail) : ∃ q, idxD d (.int (x : Nat)) = some (.int (q : Nat)) ∧ mthD .index (.list (ni ns)) (.int (q : Nat)) = some (.int (ns.idxOf (pofn ps x) : Nat)) := by
  obtain ⟨i, hi⟩ := List.getElem?_of_mem hx
  rw [List.getElem?_tail] at hi
  obtain ⟨y, q, j, h1, h2, h3, _⟩ := p.get v (List.getElem?_eq_some_iff.mp hi).1
  rw [hi] at h1
  cases h1
  have hq : pofn ps (y + 1) = q := by
    unfold pofn
    rw [show y + 1 - 1 = y from rfl, h2]; rfl
  refine ⟨q, h.idx (by rw [td_succ, h2]; rfl), ?_⟩
  rw [hq]
  exact PVU.index_ni (List.mem_of_getElem? h3)
theorem renumbered_ok (h : TD d ps) (p : Part ps ns) (hl : ps.length ≤ 11) (v : Valid ps) : fin none (PV.execs F b_renumbered [some (.d d), some (.d (.list (ni ns))), none, none]) = some (.t [td (renum ps ns), ni ns], none) := by
  have nl := part_len p hl
  apply fin_of
  unfold b_renumbered
  refine WSs.cons (WS.set (WE.bin (WO.of (WE.lst (WL.cons (WE.neg (WE.cst ⟨_, rfl, WL.nil ⟨show (1 : Nat) ≤ lim from by decide, WO.of ?_⟩⟩)))))))
  refine WE.comp ns.tail (fun (x : Nat) => .int x) (fun _ => true) (fun x => .int (ns.idxOf (pofn ps x) : Nat)) ?_
  refine WI.seq (WE.slc (WO.var rfl (WP.yes (WE.cst ⟨1, rfl, WP.no ⟨_, rfl, _, slc_ni ns, _, rfl, by rw [ni_len, List.length_tail]; unfold lim; omega, rfl, fun x hx => ?_, ?_⟩⟩))))
  · obtain ⟨q, g1, g2⟩ := renum_turn h p v hx
    refine ⟨[some (.d d), some (.d (.list (ni ns))), none, some (.d (.int (x : Nat)))], rfl, WC.no ⟨rfl, fun _ => ?_, fun z => nomatch z⟩⟩
    exact WE.mth (WO.var rfl ⟨_, rfl, WO.of (WE.idx (WO.var rfl (WO.var rfl ⟨_, rfl, _, g1, _, rfl, _, g2, rfl, rfl⟩)))⟩)
  rw [List.filter_eq_self.mpr fun _ _ => rfl]
  have e2 : ns.tail.map (fun x => PyData.int (ns.idxOf (pofn ps x) : Nat)) = ni (renum ps ns) := by
    unfold ni renum
    rw [List.map_map]; rfl
  rw [e2]
  refine ⟨_, rfl, .o (td (renum ps ns)), ?_, ?_⟩
  · show mkL ([PyData.int (-1)] ++ ni _) = _
    unfold mkL
    rw [if_pos (by rw [List.length_append, ni_len]; have := p.len; show 1 + _ ≤ lim; unfold lim; omega)]
    rfl
  refine ⟨[some (.d d), some (.d (.list (ni ns))), some (.o (td (renum ps ns))), none], rfl, nx_c ?_⟩
  exact WSs.cons (WS.retT rfl (WT.consV rfl (WT.consE (WE.bi1 (WO.var rfl ⟨_, rfl, _, rfl, WT.nil ⟨show (2 : Nat) ≤ lim from by decide, rt_c (.inl rfl)⟩⟩)))))
theorem again_ok (h : TD d ps) (p : Part ps ns) (hl : ps.length ≤ 11) (v : Valid ps) : fin none (PV.execs F b_law_again [some (.d d), some (.d (.list (ni ns))), none]) = some (.d (.tuple [.list (td (renum ps ns)), .list (ni ns)]), none) := by
  have nl := part_len p hl
  apply fin_of
  unfold b_law_again
  refine WSs.cons (WS.ret (WE.tup (WL.cons (WE.bin (WO.of (WE.lst (WL.cons (WE.neg (WE.cst ⟨_, rfl, WL.nil ⟨show (1 : Nat) ≤ lim from by decide, WO.of ?_⟩⟩)))))))))
  refine WE.comp ns.tail (fun (x : Nat) => .int x) (fun _ => true) (fun x => .int (ns.idxOf (pofn ps x) : Nat)) ?_
  refine WI.seq (WE.slc (WO.var rfl (WP.yes (WE.cst ⟨1, rfl, WP.no ⟨_, rfl, _, slc_ni ns, _, rfl, by rw [ni_len, List.length_tail]; unfold lim; omega, rfl, fun x hx => ?_, ?_⟩⟩))))
  · obtain ⟨q, g1, g2⟩ := renum_turn h p v hx
    refine ⟨[some (.d d), some (.d (.list (ni ns))), some (.d (.int (x : Nat)))], rfl, WC.no ⟨rfl, fun _ => ?_, fun z => nomatch z⟩⟩
    exact WE.mth (WO.var rfl ⟨_, rfl, WO.of (WE.idx (WO.var rfl (WO.var rfl ⟨_, rfl, _, g1, _, rfl, _, g2, rfl, rfl⟩)))⟩)
  rw [List.filter_eq_self.mpr fun _ _ => rfl]
  have e2 : ns.tail.map (fun x => PyData.int (ns.idxOf (pofn ps x) : Nat)) = ni (renum ps ns) := by
    unfold ni renum
    rw [List.map_map]; rfl
  rw [e2]
  refine ⟨_, rfl, .o (td (renum ps ns)), ?_, ?_⟩
  · show mkL ([PyData.int (-1)] ++ ni _) = _
    unfold mkL
    rw [if_pos (by rw [List.length_append, ni_len]; have := p.len; show 1 + _ ≤ lim; unfold lim; omega)]
    rfl
  exact WL.cons (WE.var rfl (WL.nil ⟨show (2 : Nat) ≤ lim from by decide, rt_c (.inl rfl)⟩))
theorem le_nat (a b : Nat) : CmpIs .le (.int (a : Nat)) (.int (b : Nat)) (decide (a ≤ b)) := ⟨by
  show some (decide ((a : Int) ≤ (b : Int))) = _
  rw [decide_eq_decide.mpr Int.ofNat_le]⟩
theorem enum_times (ps : List Nat) : enumD (ni (times ps)) = (List.range (ps.length + 1)).map fun k => .tuple [.int (k : Nat), .int (depth ps k : Nat)] := by
  rw [enum_ni]
  rw [show (times ps).length = ps.length + 1 from by unfold times; rw [List.length_map, List.length_range]]
  refine List.map_congr_left fun k hk => ?_
  have := List.mem_range.mp hk
  rw [times_get (by omega)]; rfl
theorem cutat_ok {k1 k2 k3 k4 kr t : Nat} (h : TD d ps) (hl : ps.length ≤ 11) (v : Valid ps) (hr : RnS F kr) (h1 : F k1 none [d] = some (.d .none, none)) (h2 : CnS F k2) (h3 : F k3 none [d] = some (.d (.int (high ps : Nat)), none)) (h4 : F k4 none [d] = some (.o (ni (times ps)), none)) (ht : t ≤ high ps) :
    fin none (PV.execs F (b_cut_at kr k1 k2 k3 k4) [some (.d d), some (.d (.int (t : Nat))), none, none]) = some (.t [td (renum ps (cutN ps t)), ni (cutN ps t)], none) := by
  apply fin_of
  unfold b_cut_at
  refine WSs.cons (WS.ex (WE.call (WL.cons (WE.var rfl (WL.nil ⟨_, rfl, _, h1, nx_c ?_⟩)))))
  refine WSs.cons (WS.ex (WE.call (WL.cons (WE.var rfl (WL.cons (WE.cst (WL.cons (WE.call (WL.cons (WE.var rfl (WL.nil ⟨_, rfl, _, h3, WL.nil ⟨_, rfl, _, h2 _ _ _ (by omega) (by omega), nx_c ?_⟩⟩)))))))))))
  refine WSs.cons (WS.retC (WL.cons (WE.var rfl (WL.cons ?_))))
  refine WE.comp (List.range (ps.length + 1)) (fun k => .tuple [.int (k : Nat), .int (depth ps k : Nat)]) (fun k => decide (depth ps k ≤ t)) (fun (k : Nat) => .int k) ?_
  refine WI.enum (WE.call (WL.cons (WE.var rfl (WL.nil ⟨_, rfl, _, h4, _, rfl, by rw [ni_len]; unfold times; rw [List.length_map, List.length_range]; unfold lim; omega, enum_times ps, fun k hk => ?_, ?_⟩))))
  · refine ⟨[some (.d d), some (.d (.int (t : Nat))), some (.d (.int (k : Nat))), some (.d (.int (depth ps k : Nat)))], rfl, WC.yes (WE.cmp (WO.var rfl (WO.var rfl ⟨_, rfl, _, le_nat _ _, _, rfl, rfl, fun _ => ?_, fun _ => rfl⟩)))⟩
    exact WE.var rfl ⟨rfl, rfl⟩
  · exact WL.nil ⟨_, rfl, _, hr d ps (cutN ps t) h (cut_part v t) hl v, rt_c (.inl rfl)⟩
theorem partof_ok {k1 k2 kr a : Nat} (h : TD d ps) (hl : ps.length ≤ 11) (v : Valid ps) (hr : RnS F kr) (ha : a ≤ ps.length) (h1 : F k1 none [d, .int (a : Nat)] = some (.d .none, none)) (h2 : F k2 none [d, .int (a : Nat)] = some (.o (ni (partN ps a)), none)) :
    fin none (PV.execs F (b_part_of kr k1 k2) [some (.d d), some (.d (.int (a : Nat)))]) = some (.t [td (renum ps (partN ps a)), ni (partN ps a)], none) := by
  apply fin_of
  unfold b_part_of
  refine WSs.cons (WS.ex (WE.call (WL.cons (WE.var rfl (WL.cons (WE.var rfl (WL.nil ⟨_, rfl, _, h1, nx_c ?_⟩)))))))
  exact WSs.cons (WS.retC (WL.cons (WE.var rfl (WL.cons (WE.call (WL.cons (WE.var rfl (WL.cons (WE.var rfl (WL.nil ⟨_, rfl, _, h2, WL.nil ⟨_, rfl, _, hr d ps (partN ps a) h (part_part v ha) hl v, rt_c (.inl rfl)⟩⟩))))))))))
theorem lwayT_ok (h : TD d ps) (v : Valid ps) (hl : ps.length ≤ 1000) {a : Nat} (ha : a ≤ ps.length) : fin none (PV.execs F b_law_wayT [some (.d d), some (.d (.int (a : Nat))), none]) = some (.d (.tuple (ni (way ps a))), none) := by
  apply fin_of
  unfold b_law_wayT
  refine WSs.cons (WS.set (WE.lst (WL.cons (WE.var rfl (WL.nil ⟨show (1 : Nat) ≤ lim from by decide, ?_⟩)))))
  refine ⟨_, rfl, nx_c ?_⟩
  refine WSs.cons (WS.wh a (fun m E => ∃ w, way ps a = way ps m ++ w ∧ m ≤ ps.length ∧ E = [some (.d d), some (.d (.int (a : Nat))), some (.o (ni (m :: w)))]) (by unfold lim; omega) ⟨[], by simp, ha, rfl⟩ ?_)
  rintro m E ⟨w, hw, hm, rfl⟩
  refine WE.cmp (WO.of (WE.idx (WO.var rfl (WO.of (WE.cst ⟨_, rfl, _, l0 m w, ?_⟩)))))
  refine WO.of (WE.cst ⟨_, rfl, _, ne_is _ _, ?_⟩)
  have lw : (m :: w).length ≤ 1002 := by
    have h1 := way_length_le v a
    have h2 := way_len (ps := ps) m
    rw [hw, List.length_append] at h1
    simp
    omega
  refine ⟨_, rfl, fun e => ?_, fun e => ?_⟩
  · have : m = 0 := by simpa using e
    subst this
    refine nx_c (WSs.cons (WS.ret (WE.bi1 (WO.var rfl ⟨_, rfl, rt_c (.inl ?_)⟩))))
    rw [hw, way_zero]; rfl
  · have hm0 : m ≠ 0 := by
      rintro rfl
      simp at e
    rcases head_way v hm with rfl | ⟨p, hp, hpm, hwp⟩
    · exact absurd rfl hm0
    have hx : idxD d (.int (m : Nat)) = some (.int (p : Nat)) := by
      have := h.idx (tdAt_get (Nat.lt_succ_of_le hm))
      unfold tdAt at this
      rw [hp] at this
      exact this
    have e : binD .add (.list [.int (p : Nat)]) (.list (ni (m :: w))) = some (.o (ni (p :: m :: w))) := by
      show mkL ([PyData.int (p : Nat)] ++ ni (m :: w)) = _
      unfold mkL
      rw [if_pos (by rw [List.length_append, ni_len]; unfold lim; simp at lw ⊢; omega)]; rfl
    refine WSs.cons (WS.set (WE.bin (WO.of (WE.lst (WL.cons (WE.idx (WO.var rfl (WO.of (WE.idx (WO.var rfl (WO.of (WE.cst ⟨_, rfl, _, l0 m w, ?_⟩))))))))))))
    refine ⟨_, rfl, _, hx, WL.nil ⟨show (1 : Nat) ≤ lim from by decide, ?_⟩⟩
    refine WO.var rfl ⟨_, rfl, _, e, ?_⟩
    exact ⟨_, rfl, nx_c (WSs.nil ⟨.inl rfl, p, hpm, m :: w, by rw [hw, hwp]; simp, by omega, rfl⟩)⟩
end
/-! ### shapes -/
def Shp : Nat → D → Prop
  | 0, x => x = .tuple []
  | h + 1, x => ∃ xs, x = .tuple xs ∧ xs ≠ [] ∧ ∀ y ∈ xs, Shp h y
theorem shp_tup {h : Nat} {x : D} (s : Shp h x) : ∃ xs, x = .tuple xs ∧ (h = 0 → xs = []) ∧ (h ≠ 0 → xs ≠ []) := by
  cases h with
  | zero => exact ⟨[], s, fun _ => rfl, fun z => absurd rfl z⟩
  | succ h =>
    obtain ⟨xs, e, n, _⟩ := s
    exact ⟨xs, e, fun z => absurd z (Nat.succ_ne_zero _), fun _ => n⟩
theorem alike_all {f : D → Prop} (hf : ∀ x y, f x → f y → PySem.W.alike x y = true) : ∀ (xs ys : List D), (∀ x ∈ xs, f x) → (∀ y ∈ ys, f y) → PySem.W.alikeAll xs ys = true
  | [], _, _, _ => by simp [PySem.W.alikeAll]
  | _ :: _, [], _, _ => by simp [PySem.W.alikeAll]
  | x :: xs, y :: ys, h, g => by
    rw [PySem.W.alikeAll, hf x y (h x (List.mem_cons_self ..)) (g y (List.mem_cons_self ..)), alike_all hf xs ys (fun z hz => h z (List.mem_cons_of_mem _ hz)) fun z hz => g z (List.mem_cons_of_mem _ hz)]
    rfl
theorem shp_alike : ∀ (h : Nat) (x y : D), Shp h x → Shp h y → PySem.W.alike x y = true
  | 0, _, _, s, t => by
    have s : _ = PyData.tuple [] := s
    have t : _ = PyData.tuple [] := t
    rw [s, t]
    simp [PySem.W.alike, PySem.W.alikeAll]
  | h + 1, _, _, ⟨xs, e, _, s⟩, ⟨ys, e2, _, t⟩ => by
    rw [e, e2]
    show PySem.W.alike (.tuple xs) (.tuple ys) = true
    simp only [PySem.W.alike]
    exact alike_all (shp_alike h) xs ys s t
theorem shp_lay : ∀ (h : Nat) (x : D), Shp h x → x.canLay0 = true ∧ x.depth ≤ h + 1
  | 0, _, s => by
    have s : _ = PyData.tuple [] := s
    rw [s]
    exact ⟨rfl, by simp [PyData.depth, PyData.depthAll]⟩
  | h + 1, _, ⟨xs, e, _, s⟩ => by
    rw [e]
    have key : ∀ {ys : List D}, (∀ y ∈ ys, Shp h y) → PyData.canLayAll0 ys = true ∧ PyData.depthAll ys ≤ h + 1 := fun {ys} => by
      induction ys with
      | nil => exact fun _ => ⟨rfl, by simp [PyData.depthAll]⟩
      | cons y ys ih =>
        intro g
        obtain ⟨a, b⟩ := ih fun z hz => g z (List.mem_cons_of_mem _ hz)
        obtain ⟨c, d⟩ := shp_lay h y (g y (List.mem_cons_self ..))
        refine ⟨?_, ?_⟩
        · show (y.canLay0 && PyData.canLayAll0 ys) = true
          rw [a, c]; rfl
        · show max y.depth (PyData.depthAll ys) ≤ h + 1
          exact Nat.max_le.mpr ⟨d, b⟩
    obtain ⟨a, b⟩ := key s
    refine ⟨a, ?_⟩
    rw [PyData.depth]
    omega
theorem shp_eqv : ∀ (h : Nat) (x : D), Shp h x → PyData.eqv x x = true
  | 0, _, s => by
    have s : _ = PyData.tuple [] := s
    rw [s]; rfl
  | h + 1, _, ⟨xs, e, _, s⟩ => by
    rw [e]
    have key : ∀ {ys : List D}, (∀ y ∈ ys, Shp h y) → PyData.eqvAll ys ys = true := fun {ys} => by
      induction ys with
      | nil => exact fun _ => rfl
      | cons y ys ih =>
        intro g
        show (PyData.eqv y y && PyData.eqvAll ys ys) = true
        rw [shp_eqv h y (g y (List.mem_cons_self ..)), ih fun z hz => g z (List.mem_cons_of_mem _ hz)]; rfl
    exact key s
theorem shp_eqD {h : Nat} {x : D} (s : Shp h x) (hh : h ≤ 40) : eqD x x = some true := by
  obtain ⟨xs, e, _⟩ := shp_tup s
  obtain ⟨a, b⟩ := shp_lay h x s
  have hs : SeqAt.shaped x = true := by
    unfold SeqAt.shaped
    rw [a, Bool.true_and, decide_eq_true_eq]
    omega
  have he := shp_eqv h x s
  rw [e] at hs he ⊢
  show (if SeqAt.shaped (.tuple xs) && SeqAt.shaped (.tuple xs) then some (PyData.eqv (.tuple xs) (.tuple xs)) else none) = _
  rw [hs, he]; rfl
theorem sort_shp {h : Nat} {xs : List D} (hx : ∀ x ∈ xs, Shp h x) (hl : xs.length ≤ lim) (hh : h ≤ 40) : ∃ zs : List D, zs.Perm xs ∧ bi1D .sorted (.list xs) = some (.o zs) := by
  cases hc : xs with
  | nil =>
    refine ⟨[], List.Perm.refl _, ?_⟩
    show (if ([] : List Int).length ≤ lim then some (W.o ((isort []).map PyData.int)) else none) = _
    rw [if_pos (show ([] : List Int).length ≤ lim from Nat.zero_le _)]
    unfold isort
    rw [List.mergeSort_nil]; rfl
  | cons x r =>
    rw [← hc]
    obtain ⟨ys, e, _⟩ := shp_tup (hx x (by rw [hc]; exact List.mem_cons_self ..))
    have hi : intsD xs = none := by rw [hc, e]; rfl
    have ht : tupsOk xs = true := by
      unfold tupsOk
      rw [Bool.or_eq_true]
      by_cases h0 : h = 0
      · left
        refine List.all_eq_true.mpr fun y hy => ?_
        obtain ⟨zs, e2, z, _⟩ := shp_tup (hx y hy)
        rw [e2, z h0]
      · right
        simp only [Bool.and_eq_true]
        refine ⟨⟨List.all_eq_true.mpr fun y hy => ?_, List.all_eq_true.mpr fun y hy => List.all_eq_true.mpr fun z hz => shp_alike h y z (hx y hy) (hx z hz)⟩, List.all_eq_true.mpr fun y hy => ?_⟩
        · obtain ⟨zs, e2, _, z⟩ := shp_tup (hx y hy)
          cases zs with
          | nil => exact absurd rfl (z h0)
          | cons a b => rw [e2]
        · obtain ⟨a, b⟩ := shp_lay h y (hx y hy)
          rw [a, Bool.true_and, decide_eq_true_eq]
          omega
    refine ⟨sortD xs, List.mergeSort_perm _ _, ?_⟩
    show (match intsD xs with
      | some ns => if ns.length ≤ lim then some (W.o ((isort ns).map PyData.int)) else none
      | none => if tupsOk xs && decide (xs.length ≤ lim) then some (.o (sortD xs)) else none) = _
    rw [hi]
    dsimp only
    rw [ht, decide_eq_true hl]; rfl
theorem rngd_all (n : Nat) : rngdD (n : Int) (-1) = (List.range (n + 1)).map fun i => .int ((n - i : Nat) : Int) := by
  unfold rngdD
  rw [show ((n : Int) - -1).toNat = n + 1 by omega]
  refine List.map_congr_left fun i hi => ?_
  have := List.mem_range.mp hi
  congr 1
  omega
section
variable {F : Fn} {ps : List Nat} {d : D} {e : Nat}
def ShO (F : Fn) (k : Nat) (ps : List Nat) : Prop := ∀ d, TD d ps → ∃ (h : Nat) (x : D), h ≤ 40 ∧ Shp h x ∧ F k none [d, .int 0] = some (.d x, none)
def ShF (F : Fn) (k : Nat) (ps : List Nat) : Prop := ∀ d, TD d ps → ∃ (h : Nat) (x : D), h ≤ 40 ∧ Shp h x ∧ F k none [d] = some (.d x, none)
theorem shapeof_ok {kc : Nat} (h : TD d ps) (g : Good ps e) (hk : ∀ a : Nat, F kc none [d, .int (a : Nat)] = some (.o (ni (kids ps a)), none)) : ∃ x, Shp e x ∧ fin none (PV.execs F (b_shape_of kc) [some (.d d), some (.d (.int 0)), none, none, none]) = some (.d x, none) := by
  have hl := g.len
  have kl : ∀ a, (kids ps a).length ≤ 11 := fun a => by
    unfold kids
    rw [List.length_map]
    exact Nat.le_trans (List.length_filter_le ..) (by rw [List.length_range]; exact hl)
  have L : WS F (.fr (.v 3) (.rngd (.bin .sub (.bi1 .len (.var 0)) (.cst (.int 1))) (.neg (.cst (.int 1))))
 (.cons (.six 2 (.var 3) (.bi1 .tuple (.bi1 .sorted (.comp [4] (.v 4) (.seq (.call kc (.cons (.var 0) (.cons (.var 3) .nil)) [0, 1])) .no (.idx (.var 2) (.var 4))))))
 .nil)) [some (.d d), some (.d (.int 0)), some (.o ((List.range (ps.length + 1)).map fun _ => .tuple [])), none, none]
      fun f E => f = .nx ∧ ∃ L z3, NR z3 ∧ (∀ j, j ≤ ps.length → ∃ x, L[j]? = some x ∧ Shp (e - depth ps j) x) ∧ E = [some (.d d), some (.d (.int 0)), some (.o L), z3, none] := by
    refine WS.fr (fun i E => ∃ L z3, NR z3 ∧ L.length = ps.length + 1 ∧ (∀ j, ps.length + 1 - i ≤ j → j ≤ ps.length → ∃ x, L[j]? = some x ∧ Shp (e - depth ps j) x) ∧ E = [some (.d d), some (.d (.int 0)), some (.o L), z3, none]) ?_
    refine WI.rngd (WE.bin (WO.of (WE.bi1 (WO.var rfl ⟨_, h.len, WO.of (WE.cst ⟨_, rfl, .d (.int (ps.length : Nat)), by show some (W.d (.int _)) = _; congr 3; omega, ?_⟩)⟩))))
    refine WE.neg (WE.cst ⟨1, rfl, (ps.length : Nat), -1, rfl, rfl, ⟨by omega, by omega, by omega, by omega⟩, ?_⟩)
    rw [rngd_all, List.length_map, List.length_range]
    refine ⟨⟨_, none, .n, by rw [List.length_map, List.length_range], fun j h1 h2 => absurd h1 (by omega), rfl⟩, ?_, ?_⟩
    · rintro i y E hy ⟨L, z3, g3, hL, hs, rfl⟩
      rw [List.getElem?_map] at hy
      obtain ⟨k, hk1, rfl⟩ := Option.map_eq_some_iff.mp hy
      obtain ⟨hi, hk2⟩ := List.getElem?_eq_some_iff.mp hk1
      rw [List.length_range] at hi
      rw [List.getElem_range] at hk2
      subst hk2
      obtain ⟨l, hl2⟩ : ∃ l, ps.length - i = l := ⟨_, rfl⟩
      rw [hl2]
      have hll : l ≤ ps.length := by omega
      refine ⟨[some (.d d), some (.d (.int 0)), some (.o L), some (.d (.int (l : Nat))), none], put_nr rfl g3, ?_⟩
      have hkid : ∀ c ∈ kids ps l, ∃ x, L[c]? = some x ∧ Shp (e - depth ps c) x := fun c hc => by
        obtain ⟨j, rfl, hj⟩ := mem_kids.mp hc
        have h1 := g.v j _ hj
        have h2 := (List.getElem?_eq_some_iff.mp hj).1
        exact hs (j + 1) (by omega) (by omega)
      have hdep : ∀ c ∈ kids ps l, depth ps c = depth ps l + 1 ∧ depth ps c ≤ e := fun c hc => ⟨(kid_way g.v hc).2, g.le (kid_le hc)⟩
      have hall : ∀ x ∈ (kids ps l).map (fun c => L.getD c .none), Shp (e - depth ps l - 1) x := fun x hx => by
        obtain ⟨c, hc, rfl⟩ := List.mem_map.mp hx
        obtain ⟨y, h1, h2⟩ := hkid c hc
        rw [List.getD_eq_getElem?_getD, h1]
        have := (hdep c hc).1
        rw [show e - depth ps l - 1 = e - depth ps c by omega]
        exact h2
      have e3 := g.e3
      obtain ⟨zs, hz1, hz2⟩ := sort_shp hall (by rw [List.length_map]; have := kl l; unfold lim; omega) (by omega)
      have hnew : Shp (e - depth ps l) (.tuple zs) := by
        by_cases hn : kids ps l = []
        · have hd := g.ends l ((kids_nil hll).mp hn)
          rw [hn] at hz1
          have : zs = [] := List.perm_nil.mp hz1
          rw [this, hd, Nat.sub_self]
          rfl
        · obtain ⟨c, hc⟩ := List.exists_mem_of_ne_nil _ hn
          obtain ⟨h1, h2⟩ := hdep c hc
          obtain ⟨m, hm⟩ : ∃ m, e - depth ps l = m + 1 := ⟨e - depth ps l - 1, by omega⟩
          rw [hm]
          rw [hm] at hall
          refine ⟨zs, rfl, fun z => ?_, fun y hy => hall y (hz1.mem_iff.mp hy)⟩
          rw [z] at hz1
          have := List.nil_perm.mp hz1
          exact hn (List.map_eq_nil_iff.mp this)
      refine WSs.cons (WS.six (WE.bi1 (WO.of (WE.bi1 (WO.of ?_)))))
      refine WE.comp (kids ps l) (fun (c : Nat) => .int c) (fun _ => true) (fun c => L.getD c .none) ?_
      refine WI.seq (WE.call (WL.cons (WE.var rfl (WL.cons (WE.var rfl (WL.nil ⟨_, rfl, _, hk l, _, rfl, by rw [ni_len]; have := kl l; unfold lim; omega, rfl, fun c hc => ?_, ?_⟩))))))
      · obtain ⟨x, h1, _⟩ := hkid c hc
        refine ⟨[some (.d d), some (.d (.int 0)), some (.o L), some (.d (.int (l : Nat))), some (.d (.int (c : Nat)))], rfl, WC.no ⟨rfl, fun _ => ?_, fun z => nomatch z⟩⟩
        exact WE.idx (WO.var rfl (WO.var rfl ⟨_, rfl, _, dAt_nat h1, by rw [List.getD_eq_getElem?_getD, h1]; rfl, rfl⟩))
      rw [List.filter_eq_self.mpr fun _ _ => rfl]
      refine ⟨_, hz2, _, rfl, L, rfl, WE.var rfl ⟨(l : Nat), L, l, rfl, rfl, ix_nat (by omega), nx_c ?_⟩⟩
      refine WSs.nil ⟨.inl rfl, L.set l (.tuple zs), _, .d (.int (l : Nat)), by rw [List.length_set]; exact hL, fun j h1 h2 => ?_, rfl⟩
      by_cases hj : j = l
      · subst hj
        exact ⟨_, List.getElem?_set_self (by omega), hnew⟩
      · rw [List.getElem?_set_ne (fun z => hj z.symm)]
        exact hs j (by omega) h2
    · rintro E ⟨L, z3, g3, hL, hs, rfl⟩
      exact ⟨rfl, L, z3, g3, fun j hj => hs j (by omega) hj, rfl⟩
  obtain ⟨f, E1, q1, rfl, L, z3, g3, hs, rfl⟩ := L
  obtain ⟨x, hx1, hx2⟩ := hs 0 (Nat.zero_le _)
  rw [depth_zero, Nat.sub_zero] at hx2
  refine ⟨x, hx2, ?_⟩
  apply fin_of
  unfold b_shape_of
  refine WSs.cons (WS.set (WE.rpt (WE.lst (WL.cons (WE.tup (WL.nil ⟨Nat.zero_le _, WL.nil ⟨show (1 : Nat) ≤ lim from by decide, ?_⟩⟩))))))
  have en1 : ((ps.length : Int) + 1).toNat = ps.length + 1 := by omega
  refine WE.bi1 (WO.var rfl ⟨_, h.len, [.tuple []], (ps.length : Int) + 1, rfl, rfl, ⟨by omega, ?_, by omega⟩, ?_⟩)
  · rw [en1]
    show 1 * (ps.length + 1) ≤ lim
    unfold lim; omega
  have rf : ∀ {x : D} (n : Nat), (List.replicate n [x]).flatten = (List.range n).map fun _ => x := fun {x} n => by
    induction n with
    | zero => rfl
    | succ n ih => rw [List.replicate_succ, List.flatten_cons, ih, List.range_succ_eq_map, List.map_cons, List.map_map]; rfl
  rw [en1, rf]
  refine ⟨_, rfl, nx_c ?_⟩
  refine WSs.cons ⟨_, _, q1, nx_c ?_⟩
  exact WSs.cons (WS.ret (WE.idx (WO.var rfl (WO.var rfl ⟨_, rfl, _, dAt_nat (i := 0) hx1, rt_c (.inl rfl)⟩))))
theorem shape_ok {k1 k2 : Nat} {x : D} (h1 : F k1 none [d] = some (.d .none, none)) (h2 : F k2 none [d, .int 0] = some (.d x, none)) : fin none (PV.execs F (b_shape k1 k2) [some (.d d)]) = some (.d x, none) := by
  apply fin_of
  unfold b_shape
  refine WSs.cons (WS.ex (WE.call (WL.cons (WE.var rfl (WL.nil ⟨_, rfl, _, h1, nx_c ?_⟩)))))
  exact WSs.cons (WS.ret (WE.call (WL.cons (WE.var rfl (WL.cons (WE.cst (WL.nil ⟨_, rfl, _, h2, rt_c (.inl rfl)⟩)))))))
end
def TreS (F : Fn) (k : Nat) : Prop := ∀ (xs : List D) (e : Nat), Pot xs → e ≤ 3 → ∃ (ps : List Nat) (xs' : List D), F k (some xs) [.int (e : Nat)] = some (.o (td ps), some xs') ∧ Good ps e ∧ Pot xs'
theorem tree_kU {F : Fn} {k : Nat} {b : CSs} (h : ∀ (xs : List D) (e : Nat), Pot xs → e ≤ 3 → ∃ ps xs', F k (some xs) [.int (e : Nat)] = some (.o (td ps), some xs') ∧ Good ps e ∧ Pot xs') : TreS F k := h
end PV
end

section
set_option Elab.async false
set_option linter.all false
set_option maxRecDepth 100000
set_option maxHeartbeats 2000000
set_option autoImplicit false
/-! MQ1: steps that the laws about games share -/
namespace PV
open PySem TR
section
variable {F : Fn} {E : DE} {i : Nat} {Q : W → DE → Prop}
theorem two_shown {x : D} {dp sz : Nat} (hs : Sh x dp sz) (hd : dp ≤ 60) (hz : sz ≤ 1000000) : ∃ s, bi1D .repr (.list [x, x]) = some (.d (.str s)) :=
  ⟨_, repr_list (sh_list (n := 2) (xs := [x, x]) (fun y hy => by
    simp only [List.mem_cons, List.not_mem_nil, or_false, or_self] at hy
    rw [hy]; exact hs) (Nat.le_refl _)) (by omega) (by omega)⟩
/-- two answers shown against two of a value -/
theorem WE.nrp {x : D} {dp sz : Nat} (hs : Sh x dp sz) (hd : dp ≤ 60) (hz : sz ≤ 1000000) {e1 e2 : CE}
    (h : WE F e1 E fun w E1 => w.data = x ∧ WE F e2 E1 fun w2 E2 => w2.data = x ∧ E2[i]? = some (some (.d x)) ∧ Q (.d (.bool false)) E2) :
    WE F (.cmp .ne (.bi1 .repr (.lst (.cons e1 (.cons e2 .nil)))) (.bi1 .repr (.lst (.cons (.var i) (.cons (.var i) .nil))))) E Q := by
  obtain ⟨s, hr⟩ := two_shown hs hd hz
  obtain ⟨w, E1, h1, e, w2, E2, h2, e2, hi, q⟩ := h
  refine WE.cmp (WO.of (WE.bi1 (WO.of (WE.lst (WL.cons ⟨w, E1, h1, WL.cons ⟨w2, E2, h2, WL.nil ⟨show (2 : Nat) ≤ lim from by decide, ?_⟩⟩⟩)))))
  rw [e, e2]
  exact ⟨_, hr, WO.of (WE.bi1 (WO.of (WE.lst (WL.cons (WE.var hi (WL.cons (WE.var hi (WL.nil ⟨show (2 : Nat) ≤ lim from by decide, _, hr, _, rfl, _, str_ne _, q⟩))))))))⟩
theorem WE.nrpO {xs : List D} {dp sz : Nat} (hs : Sh (.list xs) dp sz) (hd : dp ≤ 60) (hz : sz ≤ 1000000) {e1 e2 : CE}
    (h : WE F e1 E fun w E1 => w.data = .list xs ∧ WE F e2 E1 fun w2 E2 => w2.data = .list xs ∧ E2[i]? = some (some (.o xs)) ∧ Q (.d (.bool false)) (E2.set i (some (.d (.list xs))))) :
    WE F (.cmp .ne (.bi1 .repr (.lst (.cons e1 (.cons e2 .nil)))) (.bi1 .repr (.lst (.cons (.var i) (.cons (.var i) .nil))))) E Q := by
  obtain ⟨s, hr⟩ := two_shown hs hd hz
  obtain ⟨w, E1, h1, e, w2, E2, h2, e2, hi, q⟩ := h
  refine WE.cmp (WO.of (WE.bi1 (WO.of (WE.lst (WL.cons ⟨w, E1, h1, WL.cons ⟨w2, E2, h2, WL.nil ⟨show (2 : Nat) ≤ lim from by decide, ?_⟩⟩⟩)))))
  rw [e, e2]
  have hl : i < E2.length := (List.getElem?_eq_some_iff.mp hi).1
  have hi' : (E2.set i (some (.d (.list xs))))[i]? = some (some (W.d (.list xs))) := List.getElem?_set_self hl
  exact ⟨_, hr, WO.of (WE.bi1 (WO.of (WE.lst (WL.cons (WE.varO hi (WL.cons (WE.var hi' (WL.nil ⟨show (2 : Nat) ≤ lim from by decide, _, hr, _, rfl, _, str_ne _, q⟩))))))))⟩
/-- an if whose test is false -/
theorem WS.no {c : CE} {s : CSs} {R : Fl → DE → Prop} (h : WE F c E fun w E1 => w = .d (.bool false) ∧ R .nx E1) : WS F (.ifs c s .nil) E R := by
  obtain ⟨w, E1, h1, rfl, h2⟩ := h
  exact WS.ifs ⟨_, E1, h1, false, rfl, (fun z => nomatch z), fun _ => WSs.nil h2⟩
end
theorem boolsD_f {α : Type} : ∀ (ys : List α), boolsD (ys.map fun _ => .bool false) = some (ys.map fun _ => false)
  | [] => rfl
  | _ :: ys => by
    show (boolsD (ys.map fun _ => .bool false)).map _ = _
    rw [boolsD_f ys]; rfl
theorem bools_any {α : Type} (ys : List α) : bi1D .any (.list (ys.map fun _ => .bool false)) = some (.d (.bool false)) := by
  show (boolsD (ys.map fun _ => .bool false)).map _ = _
  rw [boolsD_f, Option.map_some]
  have : ((ys.map fun _ => false).any id) = false := by
    induction ys with
    | nil => rfl
    | cons y ys ih => exact ih
  rw [this]
theorem bools_all' {α : Type} (ys : List α) (p : α → Bool) : bi1D .all (.list (ys.map fun y => .bool (p y))) = some (.d (.bool (ys.all p))) := by
  have := bools_all (ys.map p)
  rw [List.map_map] at this
  rw [show (ys.map fun y => PyData.bool (p y)) = ys.map (PyData.bool ∘ p) from rfl, this, List.all_map]
  rfl
theorem zip_map2 {α : Type} (ls : List α) (f g : α → D) : zipD (ls.map f) (ls.map g) = ls.map fun l => .tuple [f l, g l] := by
  rw [zipD_map]
  induction ls with
  | nil => rfl
  | cons x ls ih => simp [ih]
section
variable {F : Fn} {ps : List Nat}
theorem psm_mn {k : Nat} (hs : PsmS F k) (hp : ps.length ≤ 11) : MnS F k ps := fun d2 d3 c v h2 h3 hz hv => by
  have ll := lv_len hp
  have hc := hs ((leavesT ps).map c) ((leavesT ps).map v) d2 d3 (by rw [List.map_map]; exact h2) (by rw [List.map_map]; exact h3)
    (fun p hp => by obtain ⟨l, hl, rfl⟩ := List.mem_map.mp hp; exact szq_mono (hz l hl) (by decide))
    (fun p hp => by obtain ⟨l, hl, rfl⟩ := List.mem_map.mp hp; exact szq_mono (hv l hl) (by decide)) (by rw [List.length_map]; omega) (by rw [List.length_map]; omega)
  have e : List.zipWith (· * ·) ((leavesT ps).map c) ((leavesT ps).map v) = (leavesT ps).map fun l => c l * v l := by
    induction leavesT ps with
    | nil => rfl
    | cons x xs ih => simp [ih]
  rw [e] at hc
  exact hc
theorem mn_sz {c v : Nat → Rat} (hp : ps.length ≤ 11) (hz : SzL ps c 10) (hv : SzL ps v 60) : szq (mn ps c v) 900 := by
  have ll := lv_len hp
  have := szq_tot (n := 70) ((leavesT ps).map fun l => c l * v l) (fun q hq => by
    obtain ⟨l, hl, rfl⟩ := List.mem_map.mp hq
    exact szq_mul (hz l hl) (hv l hl))
  refine szq_mono this ?_
  rw [List.length_map]
  omega
/-- the next level, as it is looked for -/
theorem level_next (vd : Valid ps) (t : Nat) : ((List.range ps.length).map (1 + ·)).filter (fun k => decide ((ps[k - 1]?).any fun p => decide (p ∈ level ps t))) = level ps (t + 1) := by
  have e0 : level ps (t + 1) = ((List.range ps.length).map Nat.succ).filter fun i => depth ps i == t + 1 := by
    unfold level
    rw [List.range_succ_eq_map, List.filter_cons, if_neg (by rw [depth_zero]; simp)]
  rw [e0]
  unfold level
  rw [show (List.range ps.length).map (1 + ·) = (List.range ps.length).map Nat.succ from List.map_congr_left fun k _ => Nat.add_comm 1 k]
  refine List.filter_congr fun k hk => ?_
  obtain ⟨i, hi, rfl⟩ := List.mem_map.mp hk
  have hi := List.mem_range.mp hi
  have e : ps[Nat.succ i - 1]? = some ps[i] := by
    show ps[i]? = _
    exact List.getElem?_eq_getElem hi
  have hd := depth_succ vd (List.getElem?_eq_getElem hi)
  have hv := vd i ps[i] (List.getElem?_eq_getElem hi)
  rw [e]
  show decide (decide (ps[i] ∈ _) = true) = (depth ps (i + 1) == t + 1)
  rw [hd, Bool.eq_iff_iff]
  simp only [decide_eq_true_eq, List.mem_filter, List.mem_range, beq_iff_eq]
  omega
theorem level_zero (vd : Valid ps) : level ps 0 = [0] := by
  unfold level
  rw [List.range_succ_eq_map, List.filter_cons, if_pos (by rw [depth_zero]; rfl)]
  congr 1
  refine List.filter_eq_nil_iff.mpr fun k hk => ?_
  obtain ⟨i, hi, rfl⟩ := List.mem_map.mp hk
  have hi := List.mem_range.mp hi
  have hd := depth_succ vd (List.getElem?_eq_getElem hi)
  show ¬ (depth ps (i + 1) == 0) = true
  rw [hd]; simp
theorem level_le {t : Nat} : ∀ k ∈ level ps t, k ≤ ps.length ∧ depth ps k = t := fun k hk => by
  have h := List.mem_filter.mp hk
  have := List.mem_range.mp h.1
  exact ⟨by omega, by simpa using h.2⟩
theorem level_len {t : Nat} : (level ps t).length ≤ ps.length + 1 := by
  have : (level ps t).length ≤ (List.range (ps.length + 1)).length := List.length_filter_le ..
  rwa [List.length_range] at this
end
end PV
end

section
set_option Elab.async false
set_option linter.all false
set_option maxRecDepth 100000
set_option maxHeartbeats 2000000
set_option autoImplicit false
/-! MQ2: ends of laws -/
namespace PV
open PySem TR
theorem fin_ofRE {b : CSs} {F : Fn} {E : DE} {w : W} {xs : List D} {P : List D → Prop} (h : WSs F b E fun f E' => f = .rt w ∧ ∃ xs', P xs' ∧ E'[0]? = some (some (.r xs'))) : ∃ xs', fin (some xs) (PV.execs F b E) = some (w, some xs') ∧ P xs' := by
  obtain ⟨f, E', h1, rfl, xs', h2, h3⟩ := h
  refine ⟨xs', ?_, h2⟩
  rw [h1]
  have e : endP (some xs) E' = some (some xs') := by unfold endP; dsimp only; rw [h3]
  show (endP (some xs) E').map _ = _
  rw [e]; rfl
/-- a law that asks once for each of up to three cells -/
theorem law3 {F : Fn} {kp kr : Nat} (hp : PotS F kp) (hr : ∀ xs, Pot xs → ∃ xs', F kr (some xs) [] = some (.d (.bool true), some xs') ∧ Pot xs') (ns : List Int) (hl : ns.length ≤ 63) :
    fin none (PV.execs F (.cons (.fr (.v 1) (.rng (.cst (.int 0)) (.bi2 .max2 (.cst (.int 1)) (.bi2 .min2 (.cst (.int 3)) (.bi1 .len (.var 0)))))
 (.cons (.ifs (.not (.callr kr (.call kp (.cons (.var 0) (.cons (.var 1) .nil)) [0, 1]) .nil))
 (.cons (.ret (.cst (.bool false)))
 .nil)
 .nil)
 .nil))
 (.cons (.ret (.cst (.bool true)))
 .nil)) [some (.d (.list (ns.map .int))), none]) = some (.d (.bool true), none) := by
  obtain ⟨m, hm, hm2⟩ : ∃ m : Nat, (m : Int) = (if (if (ns.length : Int) < 3 then (ns.length : Int) else 3) > 1 then (if (ns.length : Int) < 3 then (ns.length : Int) else 3) else 1) ∧ m ≤ 3 := by
    refine ⟨((if (if (ns.length : Int) < 3 then (ns.length : Int) else 3) > 1 then (if (ns.length : Int) < 3 then (ns.length : Int) else 3) else 1) : Int).toNat, ?_, ?_⟩
    · split <;> split <;> omega
    · split <;> split <;> omega
  apply fin_of
  refine WSs.cons (WS.fr (fun i E => ∃ z1, NR z1 ∧ E = [some (.d (.list (ns.map .int))), z1]) ?_)
  refine WI.rng (WE.cst (WE.bi2 (WE.cst (WE.bi2 (WE.cst (WE.bi1 (WO.var rfl ⟨_, rfl, _, rfl, _, rfl, ?_⟩)))))))
  rw [List.length_map, ← hm]
  refine ⟨0, (m : Int), rfl, rfl, ⟨by omega, by omega, by omega, by omega⟩, ?_⟩
  rw [rng0]
  refine ⟨⟨none, .n, rfl⟩, ?_, ?_⟩
  · rintro i x E hx ⟨z1, h1, rfl⟩
    rw [ni_get] at hx
    obtain ⟨k, hk, rfl⟩ := Option.map_eq_some_iff.mp hx
    have hk := List.mem_range.mp (List.mem_of_getElem? hk)
    obtain ⟨xs, g1, g2⟩ := hp ns k (by omega)
    obtain ⟨xs', g3, _⟩ := hr xs g2
    refine ⟨[some (.d (.list (ns.map .int))), some (.d (.int (k : Nat)))], put_nr rfl h1, ?_⟩
    refine WSs.cons (WS.no (WE.not (WE.callr (WE.call (WL.cons (WE.var rfl (WL.cons (WE.var rfl (WL.nil ⟨_, rfl, _, g1, xs, rfl, WL.nil ⟨_, _, g3, true, rfl, rfl, ?_⟩⟩)))))))))
    exact nx_c (WSs.nil ⟨.inl rfl, _, .d _, rfl⟩)
  · rintro E ⟨z1, h1, rfl⟩
    exact nx_c (WSs.cons (WS.ret (WE.cst (rt_c (.inl rfl)))))
end PV
end

section
set_option Elab.async false
set_option linter.all false
set_option maxRecDepth 100000
set_option autoImplicit false
namespace HT
open PySem PV
def c_is_integer : CDef := ⟨PySem.Str.ofString "is_integer", [PySem.Str.ofString "value"], [PySem.Str.ofString "value"], false,
(.cons (.ret (.and (.isi [.int] (.var 0)) (.not (.isi [.bool] (.var 0)))))
 .nil)⟩
def c_is_within : CDef := ⟨PySem.Str.ofString "is_within", [PySem.Str.ofString "value", PySem.Str.ofString "least", PySem.Str.ofString "most"], [PySem.Str.ofString "value", PySem.Str.ofString "least", PySem.Str.ofString "most"], false,
(.cons (.ret (.and (.call 0 (.cons (.var 0) .nil) [0]) (.chn .le .le (.var 1) (.var 0) (.var 2))))
 .nil)⟩
def c_is_list : CDef := ⟨PySem.Str.ofString "is_list", [PySem.Str.ofString "value"], [PySem.Str.ofString "value"], false,
(.cons (.ret (.isi [.list, .tuple] (.var 0)))
 .nil)⟩
def c_check_number : CDef := ⟨PySem.Str.ofString "check_number", [PySem.Str.ofString "value", PySem.Str.ofString "least", PySem.Str.ofString "most"], [PySem.Str.ofString "value", PySem.Str.ofString "least", PySem.Str.ofString "most"], false,
(.cons (.ifs (.not (.call 1 (.cons (.var 0) (.cons (.var 1) (.cons (.var 2) .nil))) [0, 1, 2]))
 (.cons .stuck
 .nil)
 .nil)
 .nil)⟩
def c_times_of : CDef := ⟨PySem.Str.ofString "times_of", [PySem.Str.ofString "tree", PySem.Str.ofString "found", PySem.Str.ofString "parent"], [PySem.Str.ofString "tree"], false,
(.cons (.set 1 (.lst (.cons (.cst (.int 0)) .nil)))
 (.cons (.fr (.v 2) (.seq (.slc (.var 0) (.yes (.cst (.int 1))) .no))
 (.cons (.app 1 (.bin .add (.idx (.var 1) (.var 2)) (.cst (.int 1))))
 .nil))
 (.cons (.ret (.var 1))
 .nil)))⟩
def c_children_of : CDef := ⟨PySem.Str.ofString "children_of", [PySem.Str.ofString "tree", PySem.Str.ofString "node", PySem.Str.ofString "late", PySem.Str.ofString "parent"], [PySem.Str.ofString "tree", PySem.Str.ofString "node"], false,
(.cons (.ret (.comp [2, 3] (.t (.cons (.v 2) (.cons (.v 3) .nil))) (.enum (.var 0)) (.yes (.cmp .eq (.var 3) (.var 1))) (.var 2)))
 .nil)⟩
def c_leaves_of : CDef := ⟨PySem.Str.ofString "leaves_of", [PySem.Str.ofString "tree", PySem.Str.ofString "node"], [PySem.Str.ofString "tree"], false,
(.cons (.ret (.comp [1] (.v 1) (.rng (.cst (.int 0)) (.bi1 .len (.var 0))) (.yes (.cmp .notin (.var 1) (.var 0))) (.var 1)))
 .nil)⟩
def c_end_by : CDef := ⟨PySem.Str.ofString "end_by", [PySem.Str.ofString "tree"], [PySem.Str.ofString "tree"], false,
(.cons (.ret (.bi1 .maxl (.call 4 (.cons (.var 0) .nil) [0])))
 .nil)⟩
def c_way_of : CDef := ⟨PySem.Str.ofString "way_of", [PySem.Str.ofString "tree", PySem.Str.ofString "node", PySem.Str.ofString "found"], [PySem.Str.ofString "tree", PySem.Str.ofString "node"], false,
(.cons (.set 2 (.tup (.cons (.var 1) .nil)))
 (.cons (.wh (.cmp .ge (.idx (.var 0) (.idx (.var 2) (.cst (.int 0)))) (.cst (.int 0)))
 (.cons (.set 2 (.bin .add (.tup (.cons (.idx (.var 0) (.idx (.var 2) (.cst (.int 0)))) .nil)) (.var 2)))
 .nil))
 (.cons (.ret (.var 2))
 .nil)))⟩
def c_lot_by : CDef := ⟨PySem.Str.ofString "lot_by", [PySem.Str.ofString "tree", PySem.Str.ofString "node", PySem.Str.ofString "leaf"], [PySem.Str.ofString "tree", PySem.Str.ofString "node"], false,
(.cons (.ret (.bi1 .tuple (.comp [2] (.v 2) (.seq (.call 6 (.cons (.var 0) .nil) [0])) (.yes (.cmp .isin (.var 1) (.call 8 (.cons (.var 0) (.cons (.var 2) .nil)) [0, 1]))) (.var 2))))
 .nil)⟩
def c_behind : CDef := ⟨PySem.Str.ofString "behind", [PySem.Str.ofString "tree", PySem.Str.ofString "node", PySem.Str.ofString "late"], [PySem.Str.ofString "tree", PySem.Str.ofString "node"], false,
(.cons (.ret (.comp [2] (.v 2) (.rng (.cst (.int 0)) (.bi1 .len (.var 0))) (.yes (.cmp .isin (.var 1) (.call 8 (.cons (.var 0) (.cons (.var 2) .nil)) [0, 1]))) (.var 2)))
 .nil)⟩
def c_is_tree_of : CDef := ⟨PySem.Str.ofString "is_tree_of", [PySem.Str.ofString "value", PySem.Str.ofString "times", PySem.Str.ofString "leaf", PySem.Str.ofString "node", PySem.Str.ofString "parent"], [PySem.Str.ofString "value"], false,
(.cons (.ifs (.or (.not (.call 2 (.cons (.var 0) .nil) [0])) (.or (.not (.chn .le .le (.cst (.int 1)) (.bi1 .len (.var 0)) (.cst (.int 12)))) (.not (.call 1 (.cons (.idx (.var 0) (.cst (.int 0))) (.cons (.neg (.cst (.int 1))) (.cons (.neg (.cst (.int 1))) .nil))) [0, 1, 2]))))
 (.cons (.ret (.cst (.bool false)))
 .nil)
 .nil)
 (.cons (.ifs (.not (.bi1 .all (.comp [3, 4] (.t (.cons (.v 3) (.cons (.v 4) .nil))) (.enum (.slc (.var 0) (.yes (.cst (.int 1))) .no)) .no (.call 1 (.cons (.var 4) (.cons (.cst (.int 0)) (.cons (.var 3) .nil))) [0, 1, 2]))))
 (.cons (.ret (.cst (.bool false)))
 .nil)
 .nil)
 (.cons (.set 1 (.call 4 (.cons (.var 0) .nil) [0]))
 (.cons (.ret (.and (.cmp .le (.bi1 .maxl (.var 1)) (.cst (.int 3))) (.bi1 .all (.comp [2] (.v 2) (.seq (.call 6 (.cons (.var 0) .nil) [0])) .no (.cmp .eq (.idx (.var 1) (.var 2)) (.bi1 .maxl (.var 1)))))))
 .nil))))⟩
def c_check_tree : CDef := ⟨PySem.Str.ofString "check_tree", [PySem.Str.ofString "value"], [PySem.Str.ofString "value"], false,
(.cons (.ifs (.not (.call 11 (.cons (.var 0) .nil) [0]))
 (.cons .stuck
 .nil)
 .nil)
 .nil)⟩
def c_check_node : CDef := ⟨PySem.Str.ofString "check_node", [PySem.Str.ofString "tree", PySem.Str.ofString "value"], [PySem.Str.ofString "tree", PySem.Str.ofString "value"], false,
(.cons (.ifs (.not (.call 1 (.cons (.var 1) (.cons (.cst (.int 0)) (.cons (.bin .sub (.bi1 .len (.var 0)) (.cst (.int 1))) .nil))) [0, 1, 2]))
 (.cons .stuck
 .nil)
 .nil)
 .nil)⟩
def c_check_noded : CDef := ⟨PySem.Str.ofString "check_noded", [PySem.Str.ofString "tree", PySem.Str.ofString "node"], [PySem.Str.ofString "tree", PySem.Str.ofString "node"], false,
(.cons (.ex (.call 12 (.cons (.var 0) .nil) [0]))
 (.cons (.ex (.call 13 (.cons (.var 0) (.cons (.var 1) .nil)) [0, 1]))
 .nil))⟩
def c_is_tree : CDef := ⟨PySem.Str.ofString "is_tree", [PySem.Str.ofString "value"], [PySem.Str.ofString "value"], false,
(.cons (.ret (.call 11 (.cons (.var 0) .nil) [0]))
 .nil)⟩
def c_end_of : CDef := ⟨PySem.Str.ofString "end_of", [PySem.Str.ofString "tree"], [PySem.Str.ofString "tree"], false,
(.cons (.ex (.call 12 (.cons (.var 0) .nil) [0]))
 (.cons (.ret (.call 7 (.cons (.var 0) .nil) [0]))
 .nil))⟩
def c_time_of : CDef := ⟨PySem.Str.ofString "time_of", [PySem.Str.ofString "tree", PySem.Str.ofString "node"], [PySem.Str.ofString "tree", PySem.Str.ofString "node"], false,
(.cons (.ex (.call 14 (.cons (.var 0) (.cons (.var 1) .nil)) [0, 1]))
 (.cons (.ret (.idx (.call 4 (.cons (.var 0) .nil) [0]) (.var 1)))
 .nil))⟩
def c_leaves : CDef := ⟨PySem.Str.ofString "leaves", [PySem.Str.ofString "tree"], [PySem.Str.ofString "tree"], false,
(.cons (.ex (.call 12 (.cons (.var 0) .nil) [0]))
 (.cons (.ret (.call 6 (.cons (.var 0) .nil) [0]))
 .nil))⟩
def c_renumbered : CDef := ⟨PySem.Str.ofString "renumbered", [PySem.Str.ofString "tree", PySem.Str.ofString "nodes", PySem.Str.ofString "parents", PySem.Str.ofString "node"], [PySem.Str.ofString "tree", PySem.Str.ofString "nodes"], false,
(.cons (.set 2 (.bin .add (.lst (.cons (.neg (.cst (.int 1))) .nil)) (.comp [3] (.v 3) (.seq (.slc (.var 1) (.yes (.cst (.int 1))) .no)) .no (.mth .index (.var 1) (.idx (.var 0) (.var 3))))))
 (.cons (.retT (.cons (.var 2) (.cons (.bi1 .list (.var 1)) .nil)))
 .nil))⟩
def c_shape_of : CDef := ⟨PySem.Str.ofString "shape_of", [PySem.Str.ofString "tree", PySem.Str.ofString "node", PySem.Str.ofString "shapes", PySem.Str.ofString "late", PySem.Str.ofString "child"], [PySem.Str.ofString "tree", PySem.Str.ofString "node"], false,
(.cons (.set 2 (.rpt (.lst (.cons (.tup .nil) .nil)) (.bi1 .len (.var 0))))
 (.cons (.fr (.v 3) (.rngd (.bin .sub (.bi1 .len (.var 0)) (.cst (.int 1))) (.neg (.cst (.int 1))))
 (.cons (.six 2 (.var 3) (.bi1 .tuple (.bi1 .sorted (.comp [4] (.v 4) (.seq (.call 5 (.cons (.var 0) (.cons (.var 3) .nil)) [0, 1])) .no (.idx (.var 2) (.var 4))))))
 .nil))
 (.cons (.ret (.idx (.var 2) (.var 1)))
 .nil)))⟩
def c_way_to : CDef := ⟨PySem.Str.ofString "way_to", [PySem.Str.ofString "tree", PySem.Str.ofString "node"], [PySem.Str.ofString "tree", PySem.Str.ofString "node"], false,
(.cons (.ex (.call 14 (.cons (.var 0) (.cons (.var 1) .nil)) [0, 1]))
 (.cons (.ret (.call 8 (.cons (.var 0) (.cons (.var 1) .nil)) [0, 1]))
 .nil))⟩
def c_lot_of : CDef := ⟨PySem.Str.ofString "lot_of", [PySem.Str.ofString "tree", PySem.Str.ofString "node"], [PySem.Str.ofString "tree", PySem.Str.ofString "node"], false,
(.cons (.ex (.call 14 (.cons (.var 0) (.cons (.var 1) .nil)) [0, 1]))
 (.cons (.ret (.call 9 (.cons (.var 0) (.cons (.var 1) .nil)) [0, 1]))
 .nil))⟩
def c_cut_at : CDef := ⟨PySem.Str.ofString "cut_at", [PySem.Str.ofString "tree", PySem.Str.ofString "number", PySem.Str.ofString "node", PySem.Str.ofString "time"], [PySem.Str.ofString "tree", PySem.Str.ofString "number"], false,
(.cons (.ex (.call 12 (.cons (.var 0) .nil) [0]))
 (.cons (.ex (.call 3 (.cons (.var 1) (.cons (.cst (.int 0)) (.cons (.call 7 (.cons (.var 0) .nil) [0]) .nil))) [0, 1, 2]))
 (.cons (.retC 19 (.cons (.var 0) (.cons (.comp [2, 3] (.t (.cons (.v 2) (.cons (.v 3) .nil))) (.enum (.call 4 (.cons (.var 0) .nil) [0])) (.yes (.cmp .le (.var 3) (.var 1))) (.var 2)) .nil)) [0, 1])
 .nil)))⟩
def c_part_of : CDef := ⟨PySem.Str.ofString "part_of", [PySem.Str.ofString "tree", PySem.Str.ofString "node"], [PySem.Str.ofString "tree", PySem.Str.ofString "node"], false,
(.cons (.ex (.call 14 (.cons (.var 0) (.cons (.var 1) .nil)) [0, 1]))
 (.cons (.retC 19 (.cons (.var 0) (.cons (.call 10 (.cons (.var 0) (.cons (.var 1) .nil)) [0, 1]) .nil)) [0, 1])
 .nil))⟩
def c_shape : CDef := ⟨PySem.Str.ofString "shape", [PySem.Str.ofString "tree"], [PySem.Str.ofString "tree"], false,
(.cons (.ex (.call 12 (.cons (.var 0) .nil) [0]))
 (.cons (.ret (.call 20 (.cons (.var 0) (.cons (.cst (.int 0)) .nil)) [0, 1]))
 .nil))⟩
def c__law_pot : CDef := ⟨PySem.Str.ofString "_law_pot", [PySem.Str.ofString "script", PySem.Str.ofString "k", PySem.Str.ofString "cell"], [PySem.Str.ofString "script", PySem.Str.ofString "k"], false,
(.cons (.set 2 (.ite (.cmp .lt (.var 1) (.bi1 .len (.var 0))) (.bi1 .abs (.idx (.var 0) (.var 1))) (.bin .add (.bin .mul (.cst (.int 4507)) (.var 1)) (.cst (.int 3793)))))
 (.cons (.ret (.lst (.cons (.bi2 .max2 (.cst (.int 0)) (.bin .sub (.var 2) (.bin .pow (.cst (.int 10)) (.cst (.int 18))))) (.cons (.bin .add (.bin .mod (.bi1 .int (.bin .add (.bin .add (.bin .mul (.bin .mod (.bi1 .int (.var 2)) (.cst (.int 2147483549))) (.cst (.int 40692))) (.bin .mul (.cst (.int 41143)) (.var 1))) (.cst (.int 3067)))) (.cst (.int 2147483563))) (.cst (.int 1))) .nil))))
 .nil))⟩
def c__law_draw : CDef := ⟨PySem.Str.ofString "_law_draw", [PySem.Str.ofString "pot", PySem.Str.ofString "many", PySem.Str.ofString "digit"], [PySem.Str.ofString "pot", PySem.Str.ofString "many"], true,
(.cons (.ifs (.cmp .gt (.idx (.var 0) (.cst (.int 0))) (.cst (.int 0)))
 (.cons (.dvm 0 (.cst (.int 0)) 2 (.bi2 .divmod (.idx (.var 0) (.cst (.int 0))) (.var 1)))
 (.cons (.ret (.var 2))
 .nil))
 .nil)
 (.cons (.six 0 (.cst (.int 1)) (.bin .mod (.bi1 .int (.bin .add (.bin .mul (.idx (.var 0) (.cst (.int 1))) (.cst (.int 40014))) (.cst (.int 12583)))) (.cst (.int 2147483563))))
 (.cons (.ret (.bin .mod (.bi1 .int (.bin .fdiv (.bin .mod (.bi1 .int (.bin .mul (.idx (.var 0) (.cst (.int 1))) (.idx (.var 0) (.cst (.int 1))))) (.cst (.int 2147483549))) (.cst (.int 19)))) (.var 1)))
 .nil)))⟩
def c__law_tree : CDef := ⟨PySem.Str.ofString "_law_tree", [PySem.Str.ofString "pot", PySem.Str.ofString "end", PySem.Str.ofString "time", PySem.Str.ofString "turn", PySem.Str.ofString "parents", PySem.Str.ofString "level", PySem.Str.ofString "whole", PySem.Str.ofString "most", PySem.Str.ofString "wide", PySem.Str.ofString "some", PySem.Str.ofString "order", PySem.Str.ofString "left", PySem.Str.ofString "free", PySem.Str.ofString "node"], [PySem.Str.ofString "pot", PySem.Str.ofString "end"], true,
(.cons (.par [4, 5, 6] (.cons (.lst (.cons (.neg (.cst (.int 1))) .nil)) (.cons (.lst (.cons (.cst (.int 0)) .nil)) (.cons (.cst (.int 1)) .nil))))
 (.cons (.fr (.v 2) (.rng (.cst (.int 0)) (.var 1))
 (.cons (.set 7 (.bin .fdiv (.bin .sub (.cst (.int 12)) (.var 6)) (.bin .sub (.var 1) (.var 2))))
 (.cons (.set 8 (.bin .add (.bi1 .len (.var 5)) (.callr 27 (.var 0) (.cons (.bin .add (.bin .sub (.var 7) (.bi1 .len (.var 5))) (.cst (.int 1))) .nil))))
 (.cons (.set 9 (.bi1 .list (.var 5)))
 (.cons (.fr (.v 3) (.rng (.cst (.int 0)) (.bin .sub (.var 8) (.bi1 .len (.var 5))))
 (.cons (.app 9 (.idx (.var 5) (.callr 27 (.var 0) (.cons (.bi1 .len (.var 5)) .nil))))
 .nil))
 (.cons (.set 5 (.lrg (.var 6) (.bin .add (.var 6) (.var 8))))
 (.cons (.par [4, 6] (.cons (.bin .add (.var 4) (.bi1 .sorted (.var 9))) (.cons (.bin .add (.var 6) (.var 8)) .nil)))
 .nil)))))))
 (.cons (.par [10, 11] (.cons (.lst (.cons (.cst (.int 0)) .nil)) (.cons (.lrg (.cst (.int 1)) (.var 6)) .nil)))
 (.cons (.fr (.v 3) (.rng (.cst (.int 0)) (.bin .sub (.var 6) (.cst (.int 1))))
 (.cons (.set 12 (.comp [13] (.v 13) (.own 11) (.yes (.cmp .isin (.idx (.var 4) (.var 13)) (.var 10))) (.var 13)))
 (.cons (.app 10 (.idx (.var 12) (.callr 27 (.var 0) (.cons (.bi1 .len (.var 12)) .nil))))
 (.cons (.rem 11 (.idx (.var 10) (.neg (.cst (.int 1)))))
 .nil))))
 (.cons (.ret (.bin .add (.lst (.cons (.neg (.cst (.int 1))) .nil)) (.comp [13] (.v 13) (.seq (.slc (.var 10) (.yes (.cst (.int 1))) .no)) .no (.mth .index (.var 10) (.idx (.var 4) (.var 13))))))
 .nil)))))⟩
def c__law_way : CDef := ⟨PySem.Str.ofString "_law_way", [PySem.Str.ofString "tree", PySem.Str.ofString "node", PySem.Str.ofString "found"], [PySem.Str.ofString "tree", PySem.Str.ofString "node"], false,
(.cons (.set 2 (.lst (.cons (.var 1) .nil)))
 (.cons (.wh (.cmp .ne (.idx (.var 2) (.cst (.int 0))) (.cst (.int 0)))
 (.cons (.set 2 (.bin .add (.lst (.cons (.idx (.var 0) (.idx (.var 2) (.cst (.int 0)))) .nil)) (.var 2)))
 .nil))
 (.cons (.ret (.bi1 .tuple (.var 2)))
 .nil)))⟩
def c__law_leaves : CDef := ⟨PySem.Str.ofString "_law_leaves", [PySem.Str.ofString "tree", PySem.Str.ofString "node"], [PySem.Str.ofString "tree"], false,
(.cons (.ret (.comp [1] (.v 1) (.rng (.cst (.int 0)) (.bi1 .len (.var 0))) (.yes (.cmp .notin (.var 1) (.var 0))) (.var 1)))
 .nil)⟩
def c__law_lot : CDef := ⟨PySem.Str.ofString "_law_lot", [PySem.Str.ofString "tree", PySem.Str.ofString "node", PySem.Str.ofString "leaf"], [PySem.Str.ofString "tree", PySem.Str.ofString "node"], false,
(.cons (.ret (.bi1 .tuple (.comp [2] (.v 2) (.seq (.call 30 (.cons (.var 0) .nil) [0])) (.yes (.cmp .isin (.var 1) (.call 29 (.cons (.var 0) (.cons (.var 2) .nil)) [0, 1]))) (.var 2))))
 .nil)⟩
def c__law_again : CDef := ⟨PySem.Str.ofString "_law_again", [PySem.Str.ofString "tree", PySem.Str.ofString "nodes", PySem.Str.ofString "node"], [PySem.Str.ofString "tree", PySem.Str.ofString "nodes"], false,
(.cons (.ret (.tup (.cons (.bin .add (.lst (.cons (.neg (.cst (.int 1))) .nil)) (.comp [2] (.v 2) (.seq (.slc (.var 1) (.yes (.cst (.int 1))) .no)) .no (.mth .index (.var 1) (.idx (.var 0) (.var 2))))) (.cons (.var 1) .nil))))
 .nil)⟩
def c__law_tree_right : CDef := ⟨PySem.Str.ofString "_law_tree_right", [PySem.Str.ofString "tree", PySem.Str.ofString "times", PySem.Str.ofString "end", PySem.Str.ofString "number", PySem.Str.ofString "node", PySem.Str.ofString "shown", PySem.Str.ofString "every", PySem.Str.ofString "due", PySem.Str.ofString "less", PySem.Str.ofString "near", PySem.Str.ofString "nodes", PySem.Str.ofString "at", PySem.Str.ofString "late", PySem.Str.ofString "leaf", PySem.Str.ofString "one"], [PySem.Str.ofString "tree"], false,
(.cons (.par [5, 6] (.cons (.bi1 .repr (.var 0)) (.cons (.lrg (.cst (.int 0)) (.bi1 .len (.var 0))) .nil)))
 (.cons (.set 1 (.comp [4] (.v 4) (.own 6) .no (.bin .sub (.bi1 .len (.call 29 (.cons (.var 0) (.cons (.var 4) .nil)) [0, 1])) (.cst (.int 1)))))
 (.cons (.set 2 (.bi1 .maxl (.var 1)))
 (.cons (.fr (.v 3) (.rng (.cst (.int 0)) (.bin .add (.var 2) (.cst (.int 1))))
 (.cons (.set 7 (.call 32 (.cons (.var 0) (.cons (.comp [4] (.v 4) (.own 6) (.yes (.cmp .le (.idx (.var 1) (.var 4)) (.var 3))) (.var 4)) .nil)) [0, 1]))
 (.cons (.ifs (.cmp .ne (.bi1 .repr (.lst (.cons (.call 23 (.cons (.var 0) (.cons (.var 3) .nil)) [0, 1]) (.cons (.call 23 (.cons (.var 3) (.cons (.bi1 .tuple (.var 0)) .nil)) [1, 0]) .nil)))) (.bi1 .repr (.lst (.cons (.var 7) (.cons (.var 7) .nil)))))
 (.cons (.ret (.cst (.bool false)))
 .nil)
 .nil)
 (.cons (.unp (.t (.cons (.v 9) (.cons (.v 10) .nil))) (.var 7))
 (.cons (.ifs (.or (.cmp .isnot (.call 15 (.cons (.var 9) .nil) [0]) (.cst (.bool true))) (.or (.cmp .ne (.call 16 (.cons (.var 9) .nil) [0]) (.var 3)) (.cmp .ne (.comp [13] (.v 13) (.seq (.call 18 (.cons (.var 9) .nil) [0])) .no (.idx (.var 10) (.var 13))) (.comp [4] (.v 4) (.own 6) (.yes (.cmp .eq (.idx (.var 1) (.var 4)) (.var 3))) (.var 4)))))
 (.cons (.ret (.cst (.bool false)))
 .nil)
 .nil)
 (.cons (.ifs (.bi1 .any (.comp [11, 4] (.t (.cons (.v 11) (.cons (.v 4) .nil))) (.enum (.var 10)) .no (.cmp .ne (.bi1 .tuple (.comp [14] (.v 14) (.seq (.call 21 (.cons (.var 9) (.cons (.var 11) .nil)) [0, 1])) .no (.idx (.var 10) (.var 14)))) (.call 29 (.cons (.var 0) (.cons (.var 4) .nil)) [0, 1]))))
 (.cons (.ret (.cst (.bool false)))
 .nil)
 .nil)
 (.cons (.fr (.v 8) (.rng (.cst (.int 0)) (.var 3))
 (.cons (.ifs (.cmp .ne (.idx (.call 23 (.cons (.var 9) (.cons (.var 8) .nil)) [0, 1]) (.cst (.int 0))) (.idx (.call 23 (.cons (.var 0) (.cons (.var 8) .nil)) [0, 1]) (.cst (.int 0))))
 (.cons (.ret (.cst (.bool false)))
 .nil)
 .nil)
 .nil))
 .nil)))))))
 (.cons (.fr (.v 4) (.seq (.var 6))
 (.cons (.set 7 (.call 32 (.cons (.var 0) (.cons (.comp [12] (.v 12) (.own 6) (.yes (.cmp .isin (.var 4) (.call 29 (.cons (.var 0) (.cons (.var 12) .nil)) [0, 1]))) (.var 12)) .nil)) [0, 1]))
 (.cons (.ifs (.cmp .ne (.bi1 .repr (.lst (.cons (.call 24 (.cons (.var 0) (.cons (.var 4) .nil)) [0, 1]) (.cons (.call 24 (.cons (.var 4) (.cons (.bi1 .tuple (.var 0)) .nil)) [1, 0]) .nil)))) (.bi1 .repr (.lst (.cons (.var 7) (.cons (.var 7) .nil)))))
 (.cons (.ret (.cst (.bool false)))
 .nil)
 .nil)
 (.cons (.unp (.t (.cons (.v 9) (.cons (.v 10) .nil))) (.var 7))
 (.cons (.ifs (.or (.cmp .isnot (.call 15 (.cons (.var 9) .nil) [0]) (.cst (.bool true))) (.or (.cmp .ne (.call 16 (.cons (.var 9) .nil) [0]) (.bin .sub (.var 2) (.idx (.var 1) (.var 4)))) (.cmp .ne (.bi1 .tuple (.comp [13] (.v 13) (.seq (.call 18 (.cons (.var 9) .nil) [0])) .no (.idx (.var 10) (.var 13)))) (.call 31 (.cons (.var 0) (.cons (.var 4) .nil)) [0, 1]))))
 (.cons (.ret (.cst (.bool false)))
 .nil)
 .nil)
 (.cons (.fr (.t (.cons (.v 11) (.cons (.v 12) .nil))) (.enum (.var 10))
 (.cons (.ifs (.or (.cmp .ne (.bi1 .tuple (.comp [13] (.v 13) (.seq (.call 22 (.cons (.var 9) (.cons (.var 11) .nil)) [0, 1])) .no (.idx (.var 10) (.var 13)))) (.call 31 (.cons (.var 0) (.cons (.var 12) .nil)) [0, 1])) (.cmp .ne (.call 17 (.cons (.var 9) (.cons (.var 11) .nil)) [0, 1]) (.bin .sub (.idx (.var 1) (.var 12)) (.idx (.var 1) (.var 4)))))
 (.cons (.ret (.cst (.bool false)))
 .nil)
 .nil)
 (.cons (.ifs (.or (.cmp .ne (.idx (.call 24 (.cons (.var 9) (.cons (.var 11) .nil)) [0, 1]) (.cst (.int 0))) (.idx (.call 24 (.cons (.var 0) (.cons (.var 12) .nil)) [0, 1]) (.cst (.int 0)))) (.cmp .ne (.comp [14] (.v 14) (.seq (.idx (.call 24 (.cons (.var 9) (.cons (.var 11) .nil)) [0, 1]) (.cst (.int 1)))) .no (.idx (.var 10) (.var 14))) (.idx (.call 24 (.cons (.var 0) (.cons (.var 12) .nil)) [0, 1]) (.cst (.int 1)))))
 (.cons (.ret (.cst (.bool false)))
 .nil)
 .nil)
 .nil)))
 .nil))))))
 (.cons (.ifs (.or (.cmp .ne (.idx (.call 23 (.cons (.var 0) (.cons (.var 2) .nil)) [0, 1]) (.cst (.int 0))) (.bi1 .list (.var 0))) (.or (.cmp .ne (.call 24 (.cons (.var 0) (.cons (.cst (.int 0)) .nil)) [0, 1]) (.tup (.cons (.bi1 .list (.var 0)) (.cons (.var 6) .nil)))) (.or (.cmp .ne (.call 23 (.cons (.var 0) (.cons (.cst (.int 0)) .nil)) [0, 1]) (.tup (.cons (.lst (.cons (.neg (.cst (.int 1))) .nil)) (.cons (.lst (.cons (.cst (.int 0)) .nil)) .nil)))) (.cmp .ne (.call 25 (.cons (.idx (.call 24 (.cons (.var 0) (.cons (.cst (.int 0)) .nil)) [0, 1]) (.cst (.int 0))) .nil) [0]) (.call 25 (.cons (.var 0) .nil) [0])))))
 (.cons (.ret (.cst (.bool false)))
 .nil)
 .nil)
 (.cons (.tap1 23 (.cons (.var 0) (.cons (.var 2) .nil)) [0, 1] 0 (.cst .none))
 (.cons (.tap1 24 (.cons (.var 0) (.cons (.cst (.int 0)) .nil)) [0, 1] 1 (.cst .none))
 (.cons (.ret (.and (.cmp .eq (.call 23 (.cons (.var 0) (.cons (.var 2) .nil)) [0, 1]) (.tup (.cons (.bi1 .list (.var 0)) (.cons (.var 6) .nil)))) (.and (.cmp .eq (.call 24 (.cons (.var 0) (.cons (.cst (.int 0)) .nil)) [0, 1]) (.tup (.cons (.bi1 .list (.var 0)) (.cons (.var 6) .nil)))) (.cmp .eq (.bi1 .repr (.var 0)) (.var 5)))))
 .nil)))))))))⟩
def c__law_right : CDef := ⟨PySem.Str.ofString "_law_right", [PySem.Str.ofString "pot"], [PySem.Str.ofString "pot"], true,
(.cons (.ret (.and (.call 33 (.cons (.callr 28 (.var 0) (.cons (.callr 27 (.var 0) (.cons (.cst (.int 4)) .nil)) .nil)) .nil) [0]) (.and (.call 33 (.cons (.callr 28 (.var 0) (.cons (.cst (.int 3)) .nil)) .nil) [0]) (.call 33 (.cons (.callr 28 (.var 0) (.cons (.cst (.int 2)) .nil)) .nil) [0]))))
 .nil)⟩
def c_law : CDef := ⟨PySem.Str.ofString "law", [PySem.Str.ofString "script", PySem.Str.ofString "k"], [PySem.Str.ofString "script"], false,
(.cons (.ret (.bi1 .all (.comp [1] (.v 1) (.rng (.cst (.int 0)) (.bi2 .max2 (.cst (.int 1)) (.bi2 .min2 (.cst (.int 2)) (.bi1 .len (.var 0))))) .no (.callr 34 (.call 26 (.cons (.var 0) (.cons (.var 1) .nil)) [0, 1]) .nil))))
 .nil)⟩
def coreE : Core := [c_is_integer, c_is_within, c_is_list, c_check_number, c_times_of, c_children_of, c_leaves_of, c_end_by, c_way_of, c_lot_by, c_behind, c_is_tree_of, c_check_tree, c_check_node, c_check_noded, c_is_tree, c_end_of, c_time_of, c_leaves, c_renumbered, c_shape_of, c_way_to, c_lot_of, c_cut_at, c_part_of, c_shape, c__law_pot, c__law_draw, c__law_tree, c__law_way, c__law_leaves, c__law_lot, c__law_again, c__law_tree_right, c__law_right, c_law]
theorem e0 (n : Nat) (x0 : D) : callF coreE (n + 1) 0 none [x0] = fin none (PV.execs (callF coreE n) c_is_integer.body [some (.d x0)]) := callF_eq (df := c_is_integer) rfl rfl rfl (by decide)
theorem e1 (n : Nat) (x0 x1 x2 : D) : callF coreE (n + 1) 1 none [x0, x1, x2] = fin none (PV.execs (callF coreE n) c_is_within.body [some (.d x0), some (.d x1), some (.d x2)]) := callF_eq (df := c_is_within) rfl rfl rfl (by decide)
theorem e2 (n : Nat) (x0 : D) : callF coreE (n + 1) 2 none [x0] = fin none (PV.execs (callF coreE n) c_is_list.body [some (.d x0)]) := callF_eq (df := c_is_list) rfl rfl rfl (by decide)
theorem e3 (n : Nat) (x0 x1 x2 : D) : callF coreE (n + 1) 3 none [x0, x1, x2] = fin none (PV.execs (callF coreE n) c_check_number.body [some (.d x0), some (.d x1), some (.d x2)]) := callF_eq (df := c_check_number) rfl rfl rfl (by decide)
theorem e4 (n : Nat) (x0 : D) : callF coreE (n + 1) 4 none [x0] = fin none (PV.execs (callF coreE n) c_times_of.body [some (.d x0), none, none]) := callF_eq (df := c_times_of) rfl rfl rfl (by decide)
theorem e5 (n : Nat) (x0 x1 : D) : callF coreE (n + 1) 5 none [x0, x1] = fin none (PV.execs (callF coreE n) c_children_of.body [some (.d x0), some (.d x1), none, none]) := callF_eq (df := c_children_of) rfl rfl rfl (by decide)
theorem e6 (n : Nat) (x0 : D) : callF coreE (n + 1) 6 none [x0] = fin none (PV.execs (callF coreE n) c_leaves_of.body [some (.d x0), none]) := callF_eq (df := c_leaves_of) rfl rfl rfl (by decide)
theorem e7 (n : Nat) (x0 : D) : callF coreE (n + 1) 7 none [x0] = fin none (PV.execs (callF coreE n) c_end_by.body [some (.d x0)]) := callF_eq (df := c_end_by) rfl rfl rfl (by decide)
theorem e8 (n : Nat) (x0 x1 : D) : callF coreE (n + 1) 8 none [x0, x1] = fin none (PV.execs (callF coreE n) c_way_of.body [some (.d x0), some (.d x1), none]) := callF_eq (df := c_way_of) rfl rfl rfl (by decide)
theorem e9 (n : Nat) (x0 x1 : D) : callF coreE (n + 1) 9 none [x0, x1] = fin none (PV.execs (callF coreE n) c_lot_by.body [some (.d x0), some (.d x1), none]) := callF_eq (df := c_lot_by) rfl rfl rfl (by decide)
theorem e10 (n : Nat) (x0 x1 : D) : callF coreE (n + 1) 10 none [x0, x1] = fin none (PV.execs (callF coreE n) c_behind.body [some (.d x0), some (.d x1), none]) := callF_eq (df := c_behind) rfl rfl rfl (by decide)
theorem e11 (n : Nat) (x0 : D) : callF coreE (n + 1) 11 none [x0] = fin none (PV.execs (callF coreE n) c_is_tree_of.body [some (.d x0), none, none, none, none]) := callF_eq (df := c_is_tree_of) rfl rfl rfl (by decide)
theorem e12 (n : Nat) (x0 : D) : callF coreE (n + 1) 12 none [x0] = fin none (PV.execs (callF coreE n) c_check_tree.body [some (.d x0)]) := callF_eq (df := c_check_tree) rfl rfl rfl (by decide)
theorem e13 (n : Nat) (x0 x1 : D) : callF coreE (n + 1) 13 none [x0, x1] = fin none (PV.execs (callF coreE n) c_check_node.body [some (.d x0), some (.d x1)]) := callF_eq (df := c_check_node) rfl rfl rfl (by decide)
theorem e14 (n : Nat) (x0 x1 : D) : callF coreE (n + 1) 14 none [x0, x1] = fin none (PV.execs (callF coreE n) c_check_noded.body [some (.d x0), some (.d x1)]) := callF_eq (df := c_check_noded) rfl rfl rfl (by decide)
theorem e15 (n : Nat) (x0 : D) : callF coreE (n + 1) 15 none [x0] = fin none (PV.execs (callF coreE n) c_is_tree.body [some (.d x0)]) := callF_eq (df := c_is_tree) rfl rfl rfl (by decide)
theorem e16 (n : Nat) (x0 : D) : callF coreE (n + 1) 16 none [x0] = fin none (PV.execs (callF coreE n) c_end_of.body [some (.d x0)]) := callF_eq (df := c_end_of) rfl rfl rfl (by decide)
theorem e17 (n : Nat) (x0 x1 : D) : callF coreE (n + 1) 17 none [x0, x1] = fin none (PV.execs (callF coreE n) c_time_of.body [some (.d x0), some (.d x1)]) := callF_eq (df := c_time_of) rfl rfl rfl (by decide)
theorem e18 (n : Nat) (x0 : D) : callF coreE (n + 1) 18 none [x0] = fin none (PV.execs (callF coreE n) c_leaves.body [some (.d x0)]) := callF_eq (df := c_leaves) rfl rfl rfl (by decide)
theorem e19 (n : Nat) (x0 x1 : D) : callF coreE (n + 1) 19 none [x0, x1] = fin none (PV.execs (callF coreE n) c_renumbered.body [some (.d x0), some (.d x1), none, none]) := callF_eq (df := c_renumbered) rfl rfl rfl (by decide)
theorem e20 (n : Nat) (x0 x1 : D) : callF coreE (n + 1) 20 none [x0, x1] = fin none (PV.execs (callF coreE n) c_shape_of.body [some (.d x0), some (.d x1), none, none, none]) := callF_eq (df := c_shape_of) rfl rfl rfl (by decide)
theorem e21 (n : Nat) (x0 x1 : D) : callF coreE (n + 1) 21 none [x0, x1] = fin none (PV.execs (callF coreE n) c_way_to.body [some (.d x0), some (.d x1)]) := callF_eq (df := c_way_to) rfl rfl rfl (by decide)
theorem e22 (n : Nat) (x0 x1 : D) : callF coreE (n + 1) 22 none [x0, x1] = fin none (PV.execs (callF coreE n) c_lot_of.body [some (.d x0), some (.d x1)]) := callF_eq (df := c_lot_of) rfl rfl rfl (by decide)
theorem e23 (n : Nat) (x0 x1 : D) : callF coreE (n + 1) 23 none [x0, x1] = fin none (PV.execs (callF coreE n) c_cut_at.body [some (.d x0), some (.d x1), none, none]) := callF_eq (df := c_cut_at) rfl rfl rfl (by decide)
theorem e24 (n : Nat) (x0 x1 : D) : callF coreE (n + 1) 24 none [x0, x1] = fin none (PV.execs (callF coreE n) c_part_of.body [some (.d x0), some (.d x1)]) := callF_eq (df := c_part_of) rfl rfl rfl (by decide)
theorem e25 (n : Nat) (x0 : D) : callF coreE (n + 1) 25 none [x0] = fin none (PV.execs (callF coreE n) c_shape.body [some (.d x0)]) := callF_eq (df := c_shape) rfl rfl rfl (by decide)
theorem e26 (n : Nat) (x0 x1 : D) : callF coreE (n + 1) 26 none [x0, x1] = fin none (PV.execs (callF coreE n) c__law_pot.body [some (.d x0), some (.d x1), none]) := callF_eq (df := c__law_pot) rfl rfl rfl (by decide)
theorem e27 (n : Nat) (xs : List D) (x1 : D) : callF coreE (n + 1) 27 (some xs) [x1] = fin (some xs) (PV.execs (callF coreE n) c__law_draw.body [some (.r xs), some (.d x1), none]) := callF_eq (df := c__law_draw) rfl rfl rfl (by decide)
theorem e28 (n : Nat) (xs : List D) (x1 : D) : callF coreE (n + 1) 28 (some xs) [x1] = fin (some xs) (PV.execs (callF coreE n) c__law_tree.body [some (.r xs), some (.d x1), none, none, none, none, none, none, none, none, none, none, none, none]) := callF_eq (df := c__law_tree) rfl rfl rfl (by decide)
theorem e29 (n : Nat) (x0 x1 : D) : callF coreE (n + 1) 29 none [x0, x1] = fin none (PV.execs (callF coreE n) c__law_way.body [some (.d x0), some (.d x1), none]) := callF_eq (df := c__law_way) rfl rfl rfl (by decide)
theorem e30 (n : Nat) (x0 : D) : callF coreE (n + 1) 30 none [x0] = fin none (PV.execs (callF coreE n) c__law_leaves.body [some (.d x0), none]) := callF_eq (df := c__law_leaves) rfl rfl rfl (by decide)
theorem e31 (n : Nat) (x0 x1 : D) : callF coreE (n + 1) 31 none [x0, x1] = fin none (PV.execs (callF coreE n) c__law_lot.body [some (.d x0), some (.d x1), none]) := callF_eq (df := c__law_lot) rfl rfl rfl (by decide)
theorem e32 (n : Nat) (x0 x1 : D) : callF coreE (n + 1) 32 none [x0, x1] = fin none (PV.execs (callF coreE n) c__law_again.body [some (.d x0), some (.d x1), none]) := callF_eq (df := c__law_again) rfl rfl rfl (by decide)
theorem e33 (n : Nat) (x0 : D) : callF coreE (n + 1) 33 none [x0] = fin none (PV.execs (callF coreE n) c__law_tree_right.body [some (.d x0), none, none, none, none, none, none, none, none, none, none, none, none, none, none]) := callF_eq (df := c__law_tree_right) rfl rfl rfl (by decide)
theorem e34 (n : Nat) (xs : List D) : callF coreE (n + 1) 34 (some xs) [] = fin (some xs) (PV.execs (callF coreE n) c__law_right.body [some (.r xs)]) := callF_eq (df := c__law_right) rfl rfl rfl (by decide)
theorem e35 (n : Nat) (x0 : D) : callF coreE (n + 1) 35 none [x0] = fin none (PV.execs (callF coreE n) c_law.body [some (.d x0), none]) := callF_eq (df := c_law) rfl rfl rfl (by decide)
end HT
end

section
set_option Elab.async false
set_option linter.all false
set_option maxRecDepth 100000
set_option maxHeartbeats 2000000
set_option autoImplicit false
namespace HT
open PySem PV TR
def WayT (F : Fn) (k : Nat) (ps : List Nat) : Prop := ∀ (d : D) (a : Nat), TD d ps → a ≤ ps.length → F k none [d, .int (a : Nat)] = some (.d (.tuple (ni (way ps a))), none)
def WayL (F : Fn) (k : Nat) (ps : List Nat) : Prop := ∀ (d : D) (a : Nat), TD d ps → a ≤ ps.length → F k none [d, .int (a : Nat)] = some (.o (ni (way ps a)), none)
theorem s_is_integer (n : Nat) : IntS (callF coreE (n + 1)) 0 := fun i => by rw [e0]; exact int_ok i
theorem s_is_within (n : Nat) : WitS (callF coreE (n + 2)) 1 := fun v a b => by rw [e1]; exact wit_ok (s_is_integer (n + 0)) v a b
theorem s_is_list (n : Nat) : LisS (callF coreE (n + 1)) 2 := fun d xs h => by rw [e2]; exact lis_ok h
theorem s_children_of {ps : List Nat} (vd : Valid ps) (hp : ps.length ≤ 11) (n : Nat) : KidS (callF coreE (n + 1)) 5 ps := fun d a h => by rw [e5]; exact children_ok h vd (by omega) a
theorem s_leaves_of {ps : List Nat} (vd : Valid ps) (hp : ps.length ≤ 11) (n : Nat) : LvS (callF coreE (n + 1)) 6 ps := fun d h => by rw [e6]; exact leaves_ok h (by omega)
theorem s_law_leaves {ps : List Nat} (vd : Valid ps) (hp : ps.length ≤ 11) (n : Nat) : LvS (callF coreE (n + 1)) 30 ps := fun d h => by rw [e30]; exact leaves_ok h (by omega)
theorem s_way_of {ps : List Nat} (vd : Valid ps) (hp : ps.length ≤ 11) (n : Nat) : WyS (callF coreE (n + 1)) 8 ps := fun d a h ha => by rw [e8]; exact way_ok h vd (by omega) ha
theorem s_law_way {ps : List Nat} (vd : Valid ps) (hp : ps.length ≤ 11) (n : Nat) : WyS (callF coreE (n + 1)) 29 ps := fun d a h ha => by rw [e29]; exact lwayT_ok h vd (by omega) ha
theorem s_lot_by {ps : List Nat} (vd : Valid ps) (hp : ps.length ≤ 11) (n : Nat) : LotS (callF coreE (n + 2)) 9 ps := fun d a h => by rw [e9]; exact lot_ok h vd (by omega) a ((s_leaves_of vd hp (n + 0)) d h) fun b hb => (s_way_of vd hp (n + 0)) d b h hb
theorem s_law_lot {ps : List Nat} (vd : Valid ps) (hp : ps.length ≤ 11) (n : Nat) : LotS (callF coreE (n + 2)) 31 ps := fun d a h => by rw [e31]; exact lot_ok h vd (by omega) a ((s_law_leaves vd hp (n + 0)) d h) fun b hb => (s_law_way vd hp (n + 0)) d b h hb
theorem s_times_of {ps : List Nat} (vd : Valid ps) (hp : ps.length ≤ 11) (n : Nat) : TimS (callF coreE (n + 1)) 4 ps := fun d h => by rw [e4]; exact times_ok h vd (by omega)
theorem s_is_tree_of {ps : List Nat} {e : Nat} (g : Good ps e) (n : Nat) : TruS (callF coreE (n + 3)) 11 ps := fun d h => by rw [e11]; exact istree_ok h g ((s_is_list (n + 1)) d _ h.seq) (s_is_within (n + 0)) ((s_times_of g.v g.len (n + 1)) d h) ((s_leaves_of g.v g.len (n + 1)) d h)
theorem s_check_tree {ps : List Nat} {e : Nat} (g : Good ps e) (n : Nat) : OkS (callF coreE (n + 4)) 12 ps := fun d h => by rw [e12]; exact checktree_ok ((s_is_tree_of g (n + 0)) d h)
theorem s_check_node {ps : List Nat} (vd : Valid ps) (hp : ps.length ≤ 11) (n : Nat) : NodS (callF coreE (n + 3)) 13 ps := fun d a h ha => by rw [e13]; exact checknode_ok h ha (s_is_within (n + 0))
theorem s_check_number (n : Nat) : CnS (callF coreE (n + 3)) 3 := fun v a b h1 h2 => by rw [e3]; exact checknumber_ok (s_is_within (n + 0)) h1 h2
theorem s_end_by {ps : List Nat} (vd : Valid ps) (hp : ps.length ≤ 11) (n : Nat) : EbS (callF coreE (n + 2)) 7 ps := fun d h => by rw [e7]; exact endby_ok ((s_times_of vd hp (n + 0)) d h)
theorem s_behind {ps : List Nat} (vd : Valid ps) (hp : ps.length ≤ 11) (n : Nat) : BhS (callF coreE (n + 2)) 10 ps := fun d a h => by rw [e10]; exact behind_ok h hp a fun b hb => (s_way_of vd hp (n + 0)) d b h hb
theorem s_check_noded {ps : List Nat} {e : Nat} (g : Good ps e) (n : Nat) : NodS (callF coreE (n + 5)) 14 ps := fun d a h ha => by rw [e14]; exact checknoded_ok ((s_check_tree g (n + 0)) d h) ((s_check_node g.v g.len (n + 1)) d a h ha)
theorem s_is_tree {ps : List Nat} {e : Nat} (g : Good ps e) (n : Nat) : TruS (callF coreE (n + 4)) 15 ps := fun d h => by rw [e15]; exact istree1_ok ((s_is_tree_of g (n + 0)) d h)
theorem s_end_of {ps : List Nat} {e : Nat} (g : Good ps e) (n : Nat) : EbS (callF coreE (n + 5)) 16 ps := fun d h => by rw [e16]; exact endof_ok ((s_check_tree g (n + 0)) d h) ((s_end_by g.v g.len (n + 2)) d h)
theorem s_time_of {ps : List Nat} {e : Nat} (g : Good ps e) (n : Nat) : TmS (callF coreE (n + 6)) 17 ps := fun d a h ha => by rw [e17]; exact timeof_ok ha ((s_check_noded g (n + 0)) d a h ha) ((s_times_of g.v g.len (n + 4)) d h)
theorem s_leaves {ps : List Nat} {e : Nat} (g : Good ps e) (n : Nat) : LvS (callF coreE (n + 5)) 18 ps := fun d h => by rw [e18]; exact leavesf_ok ((s_check_tree g (n + 0)) d h) ((s_leaves_of g.v g.len (n + 3)) d h)
theorem s_renumbered (n : Nat) : RnS (callF coreE (n + 1)) 19 := fun d ps ns h p hl v => by rw [e19]; exact renumbered_ok h p hl v
theorem s_shape_of {ps : List Nat} {e : Nat} (g : Good ps e) (n : Nat) : ShO (callF coreE (n + 2)) 20 ps := fun d h => by obtain ⟨x, s, q⟩ := shapeof_ok h g (fun a => (s_children_of g.v g.len (n + 0)) d a h); exact ⟨e, x, Nat.le_trans g.e3 (by decide), s, by rw [e20]; exact q⟩
theorem s_way_to {ps : List Nat} {e : Nat} (g : Good ps e) (n : Nat) : WyS (callF coreE (n + 6)) 21 ps := fun d a h ha => by rw [e21]; exact wayto_ok ((s_check_noded g (n + 0)) d a h ha) ((s_way_of g.v g.len (n + 4)) d a h ha)
theorem s_lot_of {ps : List Nat} {e : Nat} (g : Good ps e) (n : Nat) : LotA (callF coreE (n + 6)) 22 ps := fun d a h ha => by rw [e22]; exact lotof_ok ((s_check_noded g (n + 0)) d a h ha) ((s_lot_by g.v g.len (n + 3)) d a h)
theorem s_cut_at {ps : List Nat} {e : Nat} (g : Good ps e) (n : Nat) : CuS (callF coreE (n + 5)) 23 ps := fun d t h ht => by rw [e23]; exact cutat_ok h g.len g.v (s_renumbered (n + 3)) ((s_check_tree g (n + 0)) d h) (s_check_number (n + 1)) ((s_end_by g.v g.len (n + 2)) d h) ((s_times_of g.v g.len (n + 3)) d h) ht
theorem s_part_of {ps : List Nat} {e : Nat} (g : Good ps e) (n : Nat) : PoS (callF coreE (n + 6)) 24 ps := fun d a h ha => by rw [e24]; exact partof_ok h g.len g.v (s_renumbered (n + 4)) ha ((s_check_noded g (n + 0)) d a h ha) ((s_behind g.v g.len (n + 3)) d a h)
theorem s_shape {ps : List Nat} {e : Nat} (g : Good ps e) (n : Nat) : ShF (callF coreE (n + 5)) 25 ps := fun d h => by obtain ⟨n1, x, h1, h2, h3⟩ := (s_shape_of g (n + 2)) d h; exact ⟨n1, x, h1, h2, by rw [e25]; exact shape_ok ((s_check_tree g (n + 0)) d h) h3⟩
theorem s_law_again (n : Nat) : AgS (callF coreE (n + 1)) 32 := fun d ps ns h p hl v => by rw [e32]; exact again_ok h p hl v
theorem s_law_draw (n : Nat) : DrS (callF coreE (n + 1)) 27 := drS_of fun p many h1 h2 => by rw [e27]; exact draw_ok (ca := 40014) (cb := 12583) (cm := 2147483563) (cd := 2147483549) (ce := 19) (by decide) (by decide) (by decide) (by decide) (by decide) (by decide) p h1 h2
theorem s_law_tree (n : Nat) : TreS (callF coreE (n + 2)) 28 := fun xs e hp he => by rw [e28]; exact PVU.treeU_ok (s_law_draw (n + 0)) hp he
theorem s_law_pot (n : Nat) : PotS (callF coreE (n + 1)) 26 := fun ns i hi => by rw [e26]; exact pot_ok (cp := 4507) (cq := 3793) (cm := 2147483549) (cr := 40692) (cs := 41143) (cu := 3067) (cn := 2147483563) (by decide) (by decide) (by decide) (by decide) (by decide) (by decide) (by decide) ns i hi
end HT
end

section
set_option Elab.async false
set_option linter.all false
set_option maxRecDepth 100000
set_option maxHeartbeats 2000000
set_option autoImplicit false
namespace HT
open PySem PV TR
/-- what _law_tree_right leans on -/
structure H13 (F : Fn) : Prop where
  it : ∀ ps e, Good ps e → TruS F 15 ps
  eo : ∀ ps e, Good ps e → EbS F 16 ps
  tm : ∀ ps e, Good ps e → TmS F 17 ps
  lv : ∀ ps e, Good ps e → LvS F 18 ps
  wt : ∀ ps e, Good ps e → WyS F 21 ps
  lo : ∀ ps e, Good ps e → LotA F 22 ps
  cu : ∀ ps e, Good ps e → CuS F 23 ps
  po : ∀ ps e, Good ps e → PoS F 24 ps
  sh : ∀ ps e, Good ps e → ShF F 25 ps
  wy : ∀ ps e, Good ps e → WyS F 29 ps
  ll : ∀ ps e, Good ps e → LotS F 31 ps
  ag : AgS F 32
abbrev en (t ti e nu no sh ev du le ne ns at_ la lf on : Option W) : DE := [t, ti, e, nu, no, sh, ev, du, le, ne, ns, at_, la, lf, on]
abbrev dl (xs : List D) : Option W := some (.d (.list xs))
abbrev il (k : Nat) : Option W := some (.d (.int (k : Nat)))
def bC : CSs := (.cons (.ifs (.or (.cmp .ne (.bi1 .tuple (.comp [13] (.v 13) (.seq (.call 22 (.cons (.var 9) (.cons (.var 11) .nil)) [0, 1])) .no (.idx (.var 10) (.var 13)))) (.call 31 (.cons (.var 0) (.cons (.var 12) .nil)) [0, 1])) (.cmp .ne (.call 17 (.cons (.var 9) (.cons (.var 11) .nil)) [0, 1]) (.bin .sub (.idx (.var 1) (.var 12)) (.idx (.var 1) (.var 4)))))
 (.cons (.ret (.cst (.bool false)))
 .nil)
 .nil)
 (.cons (.ifs (.or (.cmp .ne (.idx (.call 24 (.cons (.var 9) (.cons (.var 11) .nil)) [0, 1]) (.cst (.int 0))) (.idx (.call 24 (.cons (.var 0) (.cons (.var 12) .nil)) [0, 1]) (.cst (.int 0)))) (.cmp .ne (.comp [14] (.v 14) (.seq (.idx (.call 24 (.cons (.var 9) (.cons (.var 11) .nil)) [0, 1]) (.cst (.int 1)))) .no (.idx (.var 10) (.var 14))) (.idx (.call 24 (.cons (.var 0) (.cons (.var 12) .nil)) [0, 1]) (.cst (.int 1)))))
 (.cons (.ret (.cst (.bool false)))
 .nil)
 .nil)
 .nil))
def bA : CSs := (.cons (.set 7 (.call 32 (.cons (.var 0) (.cons (.comp [4] (.v 4) (.own 6) (.yes (.cmp .le (.idx (.var 1) (.var 4)) (.var 3))) (.var 4)) .nil)) [0, 1]))
 (.cons (.ifs (.cmp .ne (.bi1 .repr (.lst (.cons (.call 23 (.cons (.var 0) (.cons (.var 3) .nil)) [0, 1]) (.cons (.call 23 (.cons (.var 3) (.cons (.bi1 .tuple (.var 0)) .nil)) [1, 0]) .nil)))) (.bi1 .repr (.lst (.cons (.var 7) (.cons (.var 7) .nil)))))
 (.cons (.ret (.cst (.bool false)))
 .nil)
 .nil)
 (.cons (.unp (.t (.cons (.v 9) (.cons (.v 10) .nil))) (.var 7))
 (.cons (.ifs (.or (.cmp .isnot (.call 15 (.cons (.var 9) .nil) [0]) (.cst (.bool true))) (.or (.cmp .ne (.call 16 (.cons (.var 9) .nil) [0]) (.var 3)) (.cmp .ne (.comp [13] (.v 13) (.seq (.call 18 (.cons (.var 9) .nil) [0])) .no (.idx (.var 10) (.var 13))) (.comp [4] (.v 4) (.own 6) (.yes (.cmp .eq (.idx (.var 1) (.var 4)) (.var 3))) (.var 4)))))
 (.cons (.ret (.cst (.bool false)))
 .nil)
 .nil)
 (.cons (.ifs (.bi1 .any (.comp [11, 4] (.t (.cons (.v 11) (.cons (.v 4) .nil))) (.enum (.var 10)) .no (.cmp .ne (.bi1 .tuple (.comp [14] (.v 14) (.seq (.call 21 (.cons (.var 9) (.cons (.var 11) .nil)) [0, 1])) .no (.idx (.var 10) (.var 14)))) (.call 29 (.cons (.var 0) (.cons (.var 4) .nil)) [0, 1]))))
 (.cons (.ret (.cst (.bool false)))
 .nil)
 .nil)
 (.cons (.fr (.v 8) (.rng (.cst (.int 0)) (.var 3))
 (.cons (.ifs (.cmp .ne (.idx (.call 23 (.cons (.var 9) (.cons (.var 8) .nil)) [0, 1]) (.cst (.int 0))) (.idx (.call 23 (.cons (.var 0) (.cons (.var 8) .nil)) [0, 1]) (.cst (.int 0))))
 (.cons (.ret (.cst (.bool false)))
 .nil)
 .nil)
 .nil))
 .nil))))))
def bB : CSs := (.cons (.set 7 (.call 32 (.cons (.var 0) (.cons (.comp [12] (.v 12) (.own 6) (.yes (.cmp .isin (.var 4) (.call 29 (.cons (.var 0) (.cons (.var 12) .nil)) [0, 1]))) (.var 12)) .nil)) [0, 1]))
 (.cons (.ifs (.cmp .ne (.bi1 .repr (.lst (.cons (.call 24 (.cons (.var 0) (.cons (.var 4) .nil)) [0, 1]) (.cons (.call 24 (.cons (.var 4) (.cons (.bi1 .tuple (.var 0)) .nil)) [1, 0]) .nil)))) (.bi1 .repr (.lst (.cons (.var 7) (.cons (.var 7) .nil)))))
 (.cons (.ret (.cst (.bool false)))
 .nil)
 .nil)
 (.cons (.unp (.t (.cons (.v 9) (.cons (.v 10) .nil))) (.var 7))
 (.cons (.ifs (.or (.cmp .isnot (.call 15 (.cons (.var 9) .nil) [0]) (.cst (.bool true))) (.or (.cmp .ne (.call 16 (.cons (.var 9) .nil) [0]) (.bin .sub (.var 2) (.idx (.var 1) (.var 4)))) (.cmp .ne (.bi1 .tuple (.comp [13] (.v 13) (.seq (.call 18 (.cons (.var 9) .nil) [0])) .no (.idx (.var 10) (.var 13)))) (.call 31 (.cons (.var 0) (.cons (.var 4) .nil)) [0, 1]))))
 (.cons (.ret (.cst (.bool false)))
 .nil)
 .nil)
 (.cons (.fr (.t (.cons (.v 11) (.cons (.v 12) .nil))) (.enum (.var 10))
 bC)
 .nil)))))
/-! ### data shown and compared -/
mutual
theorem eqv_refl : ∀ (d : D), d.canLay0 = true → PyData.eqv d d = true
  | .none, _ => rfl
  | .bool b, _ => by cases b <;> rfl
  | .int i, _ => by
    show (i == i) = true
    exact beq_self_eq_true i
  | .str x, _ => by
    show (x == x) = true
    exact beq_self_eq_true x
  | .list xs, h => eqvAll_refl xs h
  | .tuple xs, h => eqvAll_refl xs h
  | .dict _, h => by simp [PyData.canLay0] at h
theorem eqvAll_refl : ∀ (xs : List D), PyData.canLayAll0 xs = true → PyData.eqvAll xs xs = true
  | [], _ => rfl
  | x :: xs, h => by
    rw [PyData.canLayAll0, Bool.and_eq_true] at h
    show (PyData.eqv x x && PyData.eqvAll xs xs) = true
    rw [eqv_refl x h.1, eqvAll_refl xs h.2]; rfl
end
theorem eqD_list {xs : List D} {dp sz : Nat} (s : Sh (.list xs) dp sz) (hd : dp ≤ 64) : eqD (.list xs) (.list xs) = some true := by
  show (if SeqAt.shaped (.list xs) && SeqAt.shaped (.list xs) then some (PyData.eqv (.list xs) (.list xs)) else none) = _
  rw [s.shaped hd, eqv_refl _ s.lay]; rfl
theorem eqD_tuple {xs : List D} {dp sz : Nat} (s : Sh (.tuple xs) dp sz) (hd : dp ≤ 64) : eqD (.tuple xs) (.tuple xs) = some true := by
  show (if SeqAt.shaped (.tuple xs) && SeqAt.shaped (.tuple xs) then some (PyData.eqv (.tuple xs) (.tuple xs)) else none) = _
  rw [s.shaped hd, eqv_refl _ s.lay]; rfl
theorem ne_list {xs ys : List D} {dp sz : Nat} (h : xs = ys) (s : Sh (.list ys) dp sz) (hd : dp ≤ 64) : CmpIs .ne (.list xs) (.list ys) false := ⟨by
  subst h
  show (eqD _ _).map (!·) = _
  rw [eqD_list s hd]; rfl⟩
theorem ne_tuple {xs ys : List D} {dp sz : Nat} (h : xs = ys) (s : Sh (.tuple ys) dp sz) (hd : dp ≤ 64) : CmpIs .ne (.tuple xs) (.tuple ys) false := ⟨by
  subst h
  show (eqD _ _).map (!·) = _
  rw [eqD_tuple s hd]; rfl⟩
theorem eq_tuple {xs ys : List D} {dp sz : Nat} (h : xs = ys) (s : Sh (.tuple ys) dp sz) (hd : dp ≤ 64) : CmpIs .eq (.tuple xs) (.tuple ys) true := ⟨by
  subst h
  exact eqD_tuple s hd⟩
section
variable {F : Fn} {ps ns : List Nat} {e : Nat} {R : Fl → DE → Prop}
theorem sh_td {e : Nat} (g : Good ps e) : Sh (.list (td ps)) 1 (3 + 12 * 1923) := sh_list (fun x hx => by
    rcases List.mem_cons.mp hx with rfl | hx
    · exact sh_int (by decide)
    · obtain ⟨k, hk, rfl⟩ := mem_ni.mp hx
      obtain ⟨i, hi⟩ := List.getElem?_of_mem hk
      have := g.v i k hi
      have := (List.getElem?_eq_some_iff.mp hi).1
      have := g.len
      have h2 : (1000 : Nat) < 2 ^ 60 := by decide
      exact sh_int (by omega)) (by rw [td_len]; have := g.len; omega)
theorem sh_nl {xs : List Nat} (h : ∀ x ∈ xs, x ≤ 11) (hl : xs.length ≤ 12) : Sh (.list (ni xs)) 1 (3 + 12 * 1923) := (sh_ni (fun x hx => by have := h x hx; omega) hl).1
theorem sh_nt {xs : List Nat} (h : ∀ x ∈ xs, x ≤ 11) (hl : xs.length ≤ 12) : Sh (.tuple (ni xs)) 1 (3 + 12 * 1923) := (sh_ni (fun x hx => by have := h x hx; omega) hl).2
theorem sh_pr {x y : D} (h : Sh x 1 (3 + 12 * 1923)) (h2 : Sh y 1 (3 + 12 * 1923)) : Sh (.tuple [x, y]) 2 (3 + 2 * ((3 + 12 * 1923) + 2)) := sh_tup (fun z hz => by
  simp only [List.mem_cons, List.not_mem_nil, or_false] at hz
  rcases hz with rfl | rfl
  · exact h
  · exact h2) (Nat.le_refl _)
theorem sh_part (g : Good ps e) (p : Part ps ns) : Sh (.list (ni ns)) 1 (3 + 12 * 1923) := sh_nl (fun x hx => Nat.le_trans (p.le x hx) g.len) (part_len p g.len)
theorem t_idx {k : Nat} (hk : k ≤ ps.length) : idxD (.list (ni (times ps))) (.int (k : Nat)) = some (.int (depth ps k : Nat)) := dAt_nat (by rw [ni_get, times_get hk]; rfl)
theorem eq_nat (a b : Nat) : CmpIs .eq (.int (a : Nat)) (.int (b : Nat)) (decide (a = b)) := by
  have h := eq_is (a : Int) (b : Int)
  rw [decide_eq_decide.mpr Int.natCast_inj] at h
  exact h
theorem ne_nat (a : Nat) : CmpIs .ne (.int (a : Nat)) (.int (a : Nat)) false := by
  have h := ne_is (a : Int) (a : Int)
  rw [show (!decide ((a : Int) = a)) = false from by simp] at h
  exact h
theorem level_dec (t : Nat) : level ps t = (List.range (ps.length + 1)).filter fun i => decide (depth ps i = t) := by
  unfold level
  refine List.filter_congr fun x _ => ?_
  rw [Bool.eq_iff_iff, beq_iff_eq, decide_eq_true_eq]
variable {z0 z1 z2 z3 z4 z5 z6 z7 z8 z9 z11 z12 z13 z14 : Option W}
theorem w13 {ks : List Nat} (hk : ∀ k ∈ ks, k < ns.length) (hl : ks.length ≤ 100) {A : CE} {Q : W → DE → Prop}
    (hA : WE F A (en z0 z1 z2 z3 z4 z5 z6 z7 z8 z9 (dl (ni ns)) z11 z12 z13 z14) fun w E1 => seqD w.data = some (ni ks) ∧ E1 = en z0 z1 z2 z3 z4 z5 z6 z7 z8 z9 (dl (ni ns)) z11 z12 z13 z14)
    (q : Q (.o (ni (ks.map (old ns)))) (en z0 z1 z2 z3 z4 z5 z6 z7 z8 z9 (dl (ni ns)) z11 z12 z13 z14)) :
    WE F (.comp [13] (.v 13) (.seq A) .no (.idx (.var 10) (.var 13))) (en z0 z1 z2 z3 z4 z5 z6 z7 z8 z9 (dl (ni ns)) z11 z12 z13 z14) Q := by
  obtain ⟨w, E1, h1, h2, rfl⟩ := hA
  refine WE.comp ks (fun (k : Nat) => .int k) (fun _ => true) (fun k => .int (old ns k : Nat)) ?_
  refine WI.seq ⟨w, _, h1, ni ks, h2, by rw [ni_len]; unfold lim; omega, rfl, fun k hkm => ?_, ?_⟩
  · refine ⟨en z0 z1 z2 z3 z4 z5 z6 z7 z8 z9 (dl (ni ns)) z11 z12 (il k) z14, rfl, WC.no ⟨rfl, fun _ => ?_, fun z => nomatch z⟩⟩
    exact WE.idx (WO.var rfl (WO.var rfl ⟨_, rfl, _, dAt_nat (by rw [ni_get, get_old (hk k hkm)]; rfl), rfl, rfl⟩))
  · rw [List.filter_eq_self.mpr fun _ _ => rfl]
    have e1 : ks.map (fun k => PyData.int (old ns k : Nat)) = ni (ks.map (old ns)) := by unfold ni; rw [List.map_map]; rfl
    rw [e1]
    exact q
theorem w14 {ks : List Nat} (hk : ∀ k ∈ ks, k < ns.length) (hl : ks.length ≤ 100) {A : CE} {Q : W → DE → Prop}
    (hA : WE F A (en z0 z1 z2 z3 z4 z5 z6 z7 z8 z9 (dl (ni ns)) z11 z12 z13 z14) fun w E1 => seqD w.data = some (ni ks) ∧ E1 = en z0 z1 z2 z3 z4 z5 z6 z7 z8 z9 (dl (ni ns)) z11 z12 z13 z14)
    (q : Q (.o (ni (ks.map (old ns)))) (en z0 z1 z2 z3 z4 z5 z6 z7 z8 z9 (dl (ni ns)) z11 z12 z13 z14)) :
    WE F (.comp [14] (.v 14) (.seq A) .no (.idx (.var 10) (.var 14))) (en z0 z1 z2 z3 z4 z5 z6 z7 z8 z9 (dl (ni ns)) z11 z12 z13 z14) Q := by
  obtain ⟨w, E1, h1, h2, rfl⟩ := hA
  refine WE.comp ks (fun (k : Nat) => .int k) (fun _ => true) (fun k => .int (old ns k : Nat)) ?_
  refine WI.seq ⟨w, _, h1, ni ks, h2, by rw [ni_len]; unfold lim; omega, rfl, fun k hkm => ?_, ?_⟩
  · refine ⟨en z0 z1 z2 z3 z4 z5 z6 z7 z8 z9 (dl (ni ns)) z11 z12 z13 (il k), rfl, WC.no ⟨rfl, fun _ => ?_, fun z => nomatch z⟩⟩
    exact WE.idx (WO.var rfl (WO.var rfl ⟨_, rfl, _, dAt_nat (by rw [ni_get, get_old (hk k hkm)]; rfl), rfl, rfl⟩))
  · rw [List.filter_eq_self.mpr fun _ _ => rfl]
    have e1 : ks.map (fun k => PyData.int (old ns k : Nat)) = ni (ks.map (old ns)) := by unfold ni; rw [List.map_map]; rfl
    rw [e1]
    exact q
theorem way_lt (p : Part ps ns) (v : Valid ps) {k : Nat} (hk : k < ns.length) : ∀ j ∈ way (renum ps ns) k, j < ns.length := fun j hj => by
  have := mem_le (p.valid v) k hj
  omega
theorem lvs_lt (p : Part ps ns) : ∀ j ∈ leavesT (renum ps ns), j < ns.length := fun j hj => by
  have := List.mem_range.mp (List.mem_filter.mp hj).1
  have := p.len
  omega
theorem lvs_len (g : Good ps e) : (leavesT ps).length ≤ 12 := by
  have h : (leavesT ps).length ≤ (List.range (ps.length + 1)).length := List.length_filter_le ..
  rw [List.length_range] at h
  have := g.len
  omega
theorem way_len12 (g : Good ps e) {a : Nat} (ha : a ≤ ps.length) : (way ps a).length ≤ 12 := by
  rw [way_len]
  have := g.le ha
  have := g.e3
  omega
theorem way_small (g : Good ps e) {a : Nat} (ha : a ≤ ps.length) : ∀ x ∈ way ps a, x ≤ 11 := fun x hx => by
  have := mem_le g.v a hx
  have := g.len
  omega
theorem lvs_small (g : Good ps e) : ∀ x ∈ leavesT ps, x ≤ 11 := fun x hx => by
  have := List.mem_range.mp (List.mem_filter.mp hx).1
  have := g.len
  omega
theorem lot_small (g : Good ps e) (a : Nat) : ∀ x ∈ lot ps a, x ≤ 11 := fun x hx => lvs_small g x (List.mem_filter.mp hx).1
theorem lot_len12 (g : Good ps e) (a : Nat) : (lot ps a).length ≤ 12 := Nat.le_trans (List.length_filter_le ..) (lvs_len g)
theorem level_small (g : Good ps e) (t : Nat) : (∀ x ∈ level ps t, x ≤ 11) ∧ (level ps t).length ≤ 12 := by
  refine ⟨fun x hx => ?_, ?_⟩
  · have := List.mem_range.mp (List.mem_filter.mp hx).1
    have := g.len
    omega
  · have h : (level ps t).length ≤ (List.range (ps.length + 1)).length := List.length_filter_le ..
    rw [List.length_range] at h
    have := g.len
    omega
end
end HT
end

section
set_option Elab.async false
set_option linter.all false
set_option maxRecDepth 100000
set_option maxHeartbeats 2000000
set_option autoImplicit false
namespace HT
open PySem PV TR
theorem bind2 {E : DE} {i j : Nat} {a b : D} {z z' : Option W} (h : E[i]? = some z) (hz : NR z) (h2 : (E.set i (some (.d a)))[j]? = some z') (hz' : NR z') : bindT (.t (.cons (.v i) (.cons (.v j) .nil))) (.tuple [a, b]) E = some ((E.set i (some (.d a))).set j (some (.d b))) := by
  show (put E i (.d a)).bind (bindTs (.cons (.v j) .nil) [b]) = _
  rw [put_nr h hz, Option.bind_some]
  show (put _ j (.d b)).bind (bindTs .nil []) = _
  rw [put_nr h2 hz', Option.bind_some]; rfl
theorem enum_old (ns : List Nat) : enumD (ni ns) = (List.range ns.length).map fun k => .tuple [.int (k : Nat), .int (old ns k : Nat)] := by
  rw [enum_ni]; rfl
section
variable {F : Fn} {ps : List Nat} {e : Nat} {sh : Option W}
variable {z3 z4 z7 z8 z9 z10 z11 z12 : Option W}
theorem stepA (s : H13 F) (g : Good ps e) {t : Nat} (ht : t ≤ e) (g7 : NR z7) (g8 : NR z8) (g9 : NR z9) (g10 : NR z10) :
    WSs F bA (en (dl (td ps)) (some (.o (ni (times ps)))) (il e) (il t) none sh (some (.o (ni (List.range (ps.length + 1))))) z7 z8 z9 z10 none none none none)
      fun f E => f = .nx ∧ ∃ y7 y8 y9 y10, NR y7 ∧ NR y8 ∧ NR y9 ∧ NR y10 ∧ E = (en (dl (td ps)) (some (.o (ni (times ps)))) (il e) (il t) none sh (some (.o (ni (List.range (ps.length + 1))))) y7 y8 y9 y10 none none none none) := by
  have T1 : TD (.list (td ps)) ps := .inl rfl
  have T2 : TD (.tuple (td ps)) ps := .inr rfl
  have v := g.v
  have hl := g.len
  have hi := high_eq g
  have p := cut_part v t
  have gc := cut_good g ht
  have nl := part_len p hl
  have pl := p.len
  have Tq : TD (.list (td (renum ps (cutN ps t)))) (renum ps (cutN ps t)) := .inl rfl
  have x1 := s.cu ps e g _ t T1 (by rw [hi]; exact ht)
  have x2 := s.cu ps e g _ t T2 (by rw [hi]; exact ht)
  have x3 := s.it _ _ gc _ Tq
  have x4 := s.eo _ _ gc _ Tq
  rw [high_eq gc] at x4
  have x5 := s.lv _ _ gc _ Tq
  unfold bA
  refine WSs.cons (WS.set (WE.call (WL.cons (WE.var rfl (WL.cons ?_)))))
  refine WE.compO (List.range (ps.length + 1)) (fun (k : Nat) => .int k) (fun k => decide (depth ps k ≤ t)) (fun (k : Nat) => .int k) rfl rfl (by rw [List.length_range]; unfold lim; omega) (fun k hk => ?_) ?_
  · have hk := List.mem_range.mp hk
    refine ⟨en (dl (td ps)) (some (.o (ni (times ps)))) (il e) (il t) (il k) sh (some (.o (ni (List.range (ps.length + 1))))) z7 z8 z9 z10 none none none none, rfl, WC.yes (WE.cmp (WO.of (WE.idx (WO.var rfl (WO.var rfl ⟨_, rfl, _, t_idx (by omega), WO.var rfl ⟨_, rfl, _, le_nat _ _, _, rfl, rfl, fun _ => ?_, fun _ => rfl⟩⟩)))))⟩
    exact WE.var rfl ⟨rfl, rfl⟩
  refine WL.nil ⟨_, rfl, _, s.ag _ ps _ T1 p hl v, ?_⟩
  refine ⟨en (dl (td ps)) (some (.o (ni (times ps)))) (il e) (il t) none sh (some (.o (ni (List.range (ps.length + 1))))) (some (.d (.tuple [.list (td (renum ps (cutN ps t))), .list (ni (cutN ps t))]))) z8 z9 z10 none none none none, put_nr rfl g7, nx_c ?_⟩
  refine WSs.cons (WS.no (WE.nrp (sh_pr (sh_td gc) (sh_part g p)) (by decide) (by decide) ?_))
  refine WE.call (WL.cons (WE.var rfl (WL.cons (WE.var rfl (WL.nil ⟨_, rfl, _, x1, rfl, ?_⟩)))))
  refine WE.call (WL.cons (WE.var rfl (WL.cons (WE.bi1 (WO.var rfl ⟨_, rfl, WL.nil ⟨_, rfl, _, x2, rfl, rfl, rfl, nx_c ?_⟩⟩)))))
  refine WSs.cons (WS.unp (WE.var rfl ⟨en (dl (td ps)) (some (.o (ni (times ps)))) (il e) (il t) none sh (some (.o (ni (List.range (ps.length + 1))))) (some (.d (.tuple [.list (td (renum ps (cutN ps t))), .list (ni (cutN ps t))]))) z8 (dl (td (renum ps (cutN ps t)))) (dl (ni (cutN ps t))) none none none none, bind2 rfl g9 rfl g10, nx_c ?_⟩))
  refine WSs.cons (WS.no ?_)
  · refine WE.or (WE.cmp (WO.of (WE.call (WL.cons (WE.var rfl (WL.nil ⟨_, rfl, _, x3, WO.of (WE.cst ⟨_, rfl, _, ⟨rfl⟩, false, rfl, (fun z => nomatch z), fun _ => ?_⟩)⟩))))))
    refine WE.or (WE.cmp (WO.of (WE.call (WL.cons (WE.var rfl (WL.nil ⟨_, rfl, _, x4, WO.var rfl ⟨_, rfl, _, ne_nat t, false, rfl, (fun z => nomatch z), fun _ => ?_⟩⟩))))))
    refine WE.cmp (WO.of (w13 (ks := leavesT (renum ps (cutN ps t))) (lvs_lt p) (by have := lvs_len gc; omega) (WE.call (WL.cons (WE.var rfl (WL.nil ⟨_, rfl, _, x5, rfl, rfl⟩)))) ?_))
    have hs : Sh (.list (ni ((List.range (ps.length + 1)).filter fun i => decide (depth ps i = t)))) 1 (3 + 12 * 1923) := by
      rw [← level_dec]
      exact sh_nl (level_small g t).1 (level_small g t).2
    refine WO.of (WE.compO (List.range (ps.length + 1)) (fun (k : Nat) => .int k) (fun k => decide (depth ps k = t)) (fun (k : Nat) => .int k) rfl rfl (by rw [List.length_range]; unfold lim; omega) (fun k hk => ?_) ?_)
    · have hk := List.mem_range.mp hk
      refine ⟨en (dl (td ps)) (some (.o (ni (times ps)))) (il e) (il t) (il k) sh (some (.o (ni (List.range (ps.length + 1))))) (some (.d (.tuple [.list (td (renum ps (cutN ps t))), .list (ni (cutN ps t))]))) z8 (dl (td (renum ps (cutN ps t)))) (dl (ni (cutN ps t))) none none none none, rfl, WC.yes (WE.cmp (WO.of (WE.idx (WO.var rfl (WO.var rfl ⟨_, rfl, _, t_idx (by omega), WO.var rfl ⟨_, rfl, _, eq_nat _ _, _, rfl, rfl, fun _ => ?_, fun _ => rfl⟩⟩)))))⟩
      exact WE.var rfl ⟨rfl, rfl⟩
    exact ⟨_, rfl, _, ne_list (by rw [cut_ends g ht, level_dec]; rfl) hs (by decide), rfl, nx_c (by
      refine WSs.cons (WS.no (WE.bi1 (WO.of ?_)))
      · refine WE.comp (List.range (cutN ps t).length) (fun k => .tuple [.int (k : Nat), .int (old (cutN ps t) k : Nat)]) (fun _ => true) (fun _ => .bool false) (WI.enum (WE.var rfl ⟨ni (cutN ps t), rfl, by rw [ni_len]; unfold lim; omega, enum_old _, fun k hk => ?_, ?_⟩))
        · have hk := List.mem_range.mp hk
          have ho := p.le _ (List.mem_of_getElem? (get_old hk))
          refine ⟨en (dl (td ps)) (some (.o (ni (times ps)))) (il e) (il t) (il (old (cutN ps t) k)) sh (some (.o (ni (List.range (ps.length + 1))))) (some (.d (.tuple [.list (td (renum ps (cutN ps t))), .list (ni (cutN ps t))]))) z8 (dl (td (renum ps (cutN ps t)))) (dl (ni (cutN ps t))) (il k) none none none, rfl, WC.no ⟨rfl, fun _ => ?_, fun z => nomatch z⟩⟩
          refine WE.cmp (WO.of (WE.bi1 (WO.of (w14 (ks := way (renum ps (cutN ps t)) k) (way_lt p v hk) (by have := way_len12 gc (a := k) (by omega); omega) (WE.call (WL.cons (WE.var rfl (WL.cons (WE.var rfl (WL.nil ⟨_, rfl, _, s.wt _ _ gc _ k Tq (by omega), rfl, rfl⟩)))))) ?_))))
          refine ⟨_, rfl, WO.of (WE.call (WL.cons (WE.var rfl (WL.cons (WE.var rfl (WL.nil ⟨_, rfl, _, s.wy ps e g _ _ T1 ho, ?_⟩))))))⟩
          exact ⟨_, rfl, _, ne_tuple (by rw [cut_way v (get_old hk)]) (sh_nt (way_small g ho) (way_len12 g ho)) (by decide), rfl, rfl⟩
        · rw [List.filter_eq_self.mpr fun _ _ => rfl]
          exact ⟨_, bools_any _, rfl, nx_c (by
            refine WSs.cons (WS.fr (fun _ E => ∃ y8, NR y8 ∧ E = en (dl (td ps)) (some (.o (ni (times ps)))) (il e) (il t) none sh (some (.o (ni (List.range (ps.length + 1))))) (some (.d (.tuple [.list (td (renum ps (cutN ps t))), .list (ni (cutN ps t))]))) y8 (dl (td (renum ps (cutN ps t)))) (dl (ni (cutN ps t))) none none none none) ?_)
            refine WI.rng (WE.cst (WE.var rfl ⟨0, (t : Nat), rfl, rfl, ⟨by omega, by have := g.e3; omega, by omega, by omega⟩, ?_⟩))
            rw [rng0]
            refine ⟨⟨_, g8, rfl⟩, ?_, ?_⟩
            · rintro i x E hx ⟨y8, h8, rfl⟩
              rw [ni_get] at hx
              obtain ⟨b, hb, rfl⟩ := Option.map_eq_some_iff.mp hx
              have hb := List.mem_range.mp (List.mem_of_getElem? hb)
              have gb := cut_good g (t := b) (by omega)
              refine ⟨en (dl (td ps)) (some (.o (ni (times ps)))) (il e) (il t) none sh (some (.o (ni (List.range (ps.length + 1))))) (some (.d (.tuple [.list (td (renum ps (cutN ps t))), .list (ni (cutN ps t))]))) (il b) (dl (td (renum ps (cutN ps t)))) (dl (ni (cutN ps t))) none none none none, put_nr rfl h8, ?_⟩
              have ee : td (renum (renum ps (cutN ps t)) (cutN (renum ps (cutN ps t)) b)) = td (renum ps (cutN ps b)) := by
                rw [← p.comp v (cut_part gc.v b), cut_again v (by omega)]
              have c1 := s.cu _ _ gc _ b Tq (by rw [high_eq gc]; omega)
              have c2 := s.cu ps e g _ b T1 (by rw [hi]; omega)
              refine WSs.cons (WS.no (WE.cmp (WO.of (WE.idx (WO.of (WE.call (WL.cons (WE.var rfl (WL.cons (WE.var rfl (WL.nil ⟨_, rfl, _, c1, WO.of (WE.cst ⟨_, rfl, _, rfl, ?_⟩)⟩)))))))))))
              refine WO.of (WE.idx (WO.of (WE.call (WL.cons (WE.var rfl (WL.cons (WE.var rfl (WL.nil ⟨_, rfl, _, c2, WO.of (WE.cst ⟨_, rfl, _, rfl, ?_⟩)⟩))))))))
              exact ⟨_, rfl, _, ne_list ee (sh_td gb) (by decide), rfl, nx_c (WSs.nil ⟨.inl rfl, _, .d _, rfl⟩)⟩
            · rintro E ⟨y8, h8, rfl⟩
              exact nx_c (WSs.nil ⟨rfl, _, _, _, _, .d _, h8, .d _, .d _, rfl⟩))⟩)⟩
theorem stepC (s : H13 F) (g : Good ps e) {a k : Nat} (ha : a ≤ ps.length) (hk : k < (partN ps a).length) :
    WSs F bC (en (dl (td ps)) (some (.o (ni (times ps)))) (il e) z3 (il a) sh (dl (ni (List.range (ps.length + 1)))) (some (.d (.tuple [.list (td (renum ps (partN ps a))), .list (ni (partN ps a))]))) z8 (dl (td (renum ps (partN ps a)))) (dl (ni (partN ps a))) (il k) (il (old (partN ps a) k)) none none) fun f E => f = .nx ∧ E = (en (dl (td ps)) (some (.o (ni (times ps)))) (il e) z3 (il a) sh (dl (ni (List.range (ps.length + 1)))) (some (.d (.tuple [.list (td (renum ps (partN ps a))), .list (ni (partN ps a))]))) z8 (dl (td (renum ps (partN ps a)))) (dl (ni (partN ps a))) (il k) (il (old (partN ps a) k)) none none) := by
  have T1 : TD (.list (td ps)) ps := .inl rfl
  have v := g.v
  have p := part_part v ha
  have gp := part_good g ha
  have pl := p.len
  have nl := part_len p g.len
  have hb := get_old hk
  have ho := p.le _ (List.mem_of_getElem? hb)
  have hk2 : k ≤ (renum ps (partN ps a)).length := by omega
  have Tq : TD (.list (td (renum ps (partN ps a)))) (renum ps (partN ps a)) := .inl rfl
  have x1 := s.lo _ _ gp _ k Tq hk2
  have x2 := s.ll ps e g _ (old (partN ps a) k) T1
  have x3 := s.tm _ _ gp _ k Tq hk2
  have x4 := s.po _ _ gp _ k Tq hk2
  have x5 := s.po ps e g _ _ T1 ho
  have pq := part_part gp.v hk2
  have go := part_good g ho
  have po := part_part v ho
  have dp := part_depth v ha hb
  have ee : td (renum (renum ps (partN ps a)) (partN (renum ps (partN ps a)) k)) = td (renum ps (partN ps (old (partN ps a) k))) := by
    rw [← p.comp v pq, part_again v ha hb]
  unfold bC
  refine WSs.cons (WS.no ?_)
  · refine WE.or (WE.cmp (WO.of (WE.bi1 (WO.of (w13 (ks := lot (renum ps (partN ps a)) k) (fun j hj => lvs_lt p j (List.mem_filter.mp hj).1) (by have := lot_len12 gp k; omega) (WE.call (WL.cons (WE.var rfl (WL.cons (WE.var rfl (WL.nil ⟨_, rfl, _, x1, rfl, rfl⟩)))))) ?_)))))
    refine ⟨_, rfl, WO.of (WE.call (WL.cons (WE.var rfl (WL.cons (WE.var rfl (WL.nil ⟨_, rfl, _, x2, ?_⟩))))))⟩
    refine ⟨_, rfl, _, ne_tuple (by rw [part_lot v ha hb]) (sh_nt (lot_small g _) (lot_len12 g _)) (by decide), false, rfl, (fun z => nomatch z), fun _ => ?_⟩
    refine WE.cmp (WO.of (WE.call (WL.cons (WE.var rfl (WL.cons (WE.var rfl (WL.nil ⟨_, rfl, _, x3, ?_⟩)))))))
    refine WO.of (WE.bin (WO.of (WE.idx (WO.var rfl (WO.var rfl ⟨_, rfl, _, t_idx ho, ?_⟩)))))
    refine WO.of (WE.idx (WO.var rfl (WO.var rfl ⟨_, rfl, _, t_idx ha, _, rfl, _, rfl, ?_⟩)))
    have ed : ((depth ps (old (partN ps a) k) : Nat) : Int) - ((depth ps a : Nat) : Int) = ((depth (renum ps (partN ps a)) k : Nat) : Int) := by omega
    refine ⟨_, rfl, false, ?_, rfl, nx_c ?_⟩
    · show CmpIs .ne _ (.int (((depth ps (old (partN ps a) k) : Nat) : Int) - ((depth ps a : Nat) : Int))) false
      rw [ed]
      exact ne_nat _
    refine WSs.cons (WS.no ?_)
    refine WE.or (WE.cmp (WO.of (WE.idx (WO.of (WE.call (WL.cons (WE.var rfl (WL.cons (WE.var rfl (WL.nil ⟨_, rfl, _, x4, WO.of (WE.cst ⟨_, rfl, _, rfl, ?_⟩)⟩))))))))))
    refine WO.of (WE.idx (WO.of (WE.call (WL.cons (WE.var rfl (WL.cons (WE.var rfl (WL.nil ⟨_, rfl, _, x5, WO.of (WE.cst ⟨_, rfl, _, rfl, ?_⟩)⟩))))))))
    refine ⟨_, rfl, _, ne_list ee (sh_td go) (by decide), false, rfl, (fun z => nomatch z), fun _ => ?_⟩
    refine WE.cmp (WO.of (w14 (ks := partN (renum ps (partN ps a)) k) (fun j hj => by have := (mem_partN.mp hj).1; omega) (by have := part_len pq gp.len; omega) ?_ ?_))
    · exact WE.idx (WO.of (WE.call (WL.cons (WE.var rfl (WL.cons (WE.var rfl (WL.nil ⟨_, rfl, _, x4, WO.of (WE.cst ⟨_, rfl, _, rfl, rfl, rfl⟩)⟩)))))))
    refine WO.of (WE.idx (WO.of (WE.call (WL.cons (WE.var rfl (WL.cons (WE.var rfl (WL.nil ⟨_, rfl, _, x5, WO.of (WE.cst ⟨_, rfl, _, rfl, ?_⟩)⟩))))))))
    exact ⟨_, rfl, _, ne_list (by rw [part_again v ha hb]) (sh_part g po) (by decide), rfl, nx_c (WSs.nil ⟨rfl, rfl⟩)⟩
theorem stepB (s : H13 F) (g : Good ps e) {a : Nat} (ha : a ≤ ps.length) (g7 : NR z7) (g9 : NR z9) (g10 : NR z10) (g11 : NR z11) (g12 : NR z12) :
    WSs F bB (en (dl (td ps)) (some (.o (ni (times ps)))) (il e) z3 (il a) sh (dl (ni (List.range (ps.length + 1)))) z7 z8 z9 z10 z11 z12 none none) fun f E => f = .nx ∧ ∃ y7 y9 y10 y11 y12, NR y7 ∧ NR y9 ∧ NR y10 ∧ NR y11 ∧ NR y12 ∧ E = (en (dl (td ps)) (some (.o (ni (times ps)))) (il e) z3 (il a) sh (dl (ni (List.range (ps.length + 1)))) y7 z8 y9 y10 y11 y12 none none) := by
  have T1 : TD (.list (td ps)) ps := .inl rfl
  have T2 : TD (.tuple (td ps)) ps := .inr rfl
  have v := g.v
  have hl := g.len
  have p := part_part v ha
  have gp := part_good g ha
  have pl := p.len
  have nl := part_len p hl
  have da := g.le ha
  have Tq : TD (.list (td (renum ps (partN ps a)))) (renum ps (partN ps a)) := .inl rfl
  have x1 := s.po ps e g _ a T1 ha
  have x2 := s.po ps e g _ a T2 ha
  have x3 := s.it _ _ gp _ Tq
  have x4 := s.eo _ _ gp _ Tq
  rw [high_eq gp] at x4
  have x5 := s.lv _ _ gp _ Tq
  have x6 := s.ll ps e g _ a T1
  unfold bB
  refine WSs.cons (WS.set (WE.call (WL.cons (WE.var rfl (WL.cons ?_)))))
  refine WE.compD (List.range (ps.length + 1)) (fun (k : Nat) => .int k) (fun k => decide (a ∈ way ps k)) (fun (k : Nat) => .int k) rfl rfl (by rw [List.length_range]; unfold lim; omega) (fun k hk => ?_) ?_
  · have hk := List.mem_range.mp hk
    refine ⟨(en (dl (td ps)) (some (.o (ni (times ps)))) (il e) z3 (il a) sh (dl (ni (List.range (ps.length + 1)))) z7 z8 z9 z10 z11 (il k) none none), rfl, WC.yes (WE.cmp (WO.var rfl (WO.of (WE.call (WL.cons (WE.var rfl (WL.cons (WE.var rfl (WL.nil ⟨_, rfl, _, s.wy ps e g _ k T1 (by omega), _, rfl, _, ⟨inD_ni a _⟩, _, rfl, rfl, fun _ => ?_, fun _ => rfl⟩)))))))))⟩
    exact WE.var rfl ⟨rfl, rfl⟩
  refine WL.nil ⟨_, rfl, _, s.ag _ ps _ T1 p hl v, ?_⟩
  refine ⟨(en (dl (td ps)) (some (.o (ni (times ps)))) (il e) z3 (il a) sh (dl (ni (List.range (ps.length + 1)))) (some (.d (.tuple [.list (td (renum ps (partN ps a))), .list (ni (partN ps a))]))) z8 z9 z10 z11 z12 none none), put_nr rfl g7, nx_c ?_⟩
  refine WSs.cons (WS.no (WE.nrp (sh_pr (sh_td gp) (sh_part g p)) (by decide) (by decide) ?_))
  refine WE.call (WL.cons (WE.var rfl (WL.cons (WE.var rfl (WL.nil ⟨_, rfl, _, x1, rfl, ?_⟩)))))
  refine WE.call (WL.cons (WE.var rfl (WL.cons (WE.bi1 (WO.var rfl ⟨_, rfl, WL.nil ⟨_, rfl, _, x2, rfl, rfl, rfl, nx_c ?_⟩⟩)))))
  refine WSs.cons (WS.unp (WE.var rfl ⟨(en (dl (td ps)) (some (.o (ni (times ps)))) (il e) z3 (il a) sh (dl (ni (List.range (ps.length + 1)))) (some (.d (.tuple [.list (td (renum ps (partN ps a))), .list (ni (partN ps a))]))) z8 (dl (td (renum ps (partN ps a)))) (dl (ni (partN ps a))) z11 z12 none none), bind2 rfl g9 rfl g10, nx_c ?_⟩))
  refine WSs.cons (WS.no ?_)
  · refine WE.or (WE.cmp (WO.of (WE.call (WL.cons (WE.var rfl (WL.nil ⟨_, rfl, _, x3, WO.of (WE.cst ⟨_, rfl, _, ⟨rfl⟩, false, rfl, (fun z => nomatch z), fun _ => ?_⟩)⟩))))))
    refine WE.or (WE.cmp (WO.of (WE.call (WL.cons (WE.var rfl (WL.nil ⟨_, rfl, _, x4, ?_⟩))))))
    refine WO.of (WE.bin (WO.var rfl (WO.of (WE.idx (WO.var rfl (WO.var rfl ⟨_, rfl, _, t_idx ha, _, rfl, _, rfl, ?_⟩))))))
    have ed : ((e : Nat) : Int) - ((depth ps a : Nat) : Int) = ((e - depth ps a : Nat) : Int) := by omega
    refine ⟨_, rfl, false, ?_, false, rfl, (fun z => nomatch z), fun _ => ?_⟩
    · show CmpIs .ne _ (.int (((e : Nat) : Int) - ((depth ps a : Nat) : Int))) false
      rw [ed]
      exact ne_nat _
    refine WE.cmp (WO.of (WE.bi1 (WO.of (w13 (ks := leavesT (renum ps (partN ps a))) (lvs_lt p) (by have := lvs_len gp; omega) (WE.call (WL.cons (WE.var rfl (WL.nil ⟨_, rfl, _, x5, rfl, rfl⟩)))) ?_))))
    refine ⟨_, rfl, WO.of (WE.call (WL.cons (WE.var rfl (WL.cons (WE.var rfl (WL.nil ⟨_, rfl, _, x6, ?_⟩))))))⟩
    refine ⟨_, rfl, _, ne_tuple (by rw [part_ends v ha]) (sh_nt (lot_small g _) (lot_len12 g _)) (by decide), rfl, nx_c ?_⟩
    refine WSs.cons (WS.fr (fun _ E => ∃ y11 y12, NR y11 ∧ NR y12 ∧ E = (en (dl (td ps)) (some (.o (ni (times ps)))) (il e) z3 (il a) sh (dl (ni (List.range (ps.length + 1)))) (some (.d (.tuple [.list (td (renum ps (partN ps a))), .list (ni (partN ps a))]))) z8 (dl (td (renum ps (partN ps a)))) (dl (ni (partN ps a))) y11 y12 none none)) ?_)
    refine WI.enum (WE.var rfl ⟨ni (partN ps a), rfl, by rw [ni_len]; unfold lim; omega, ?_⟩)
    rw [enum_old]
    refine ⟨⟨_, _, g11, g12, rfl⟩, ?_, ?_⟩
    · rintro i x E hx ⟨y11, y12, h11, h12, rfl⟩
      rw [List.getElem?_map] at hx
      obtain ⟨k, hk, rfl⟩ := Option.map_eq_some_iff.mp hx
      have hk := List.mem_range.mp (List.mem_of_getElem? hk)
      obtain ⟨f, E2, q1, rfl, rfl⟩ := stepC (sh := sh) (z3 := z3) (z8 := z8) s g ha hk
      exact ⟨_, bind2 rfl h11 rfl h12, _, _, q1, .inl rfl, _, _, .d _, .d _, rfl⟩
    · rintro E ⟨y11, y12, h11, h12, rfl⟩
      exact nx_c (WSs.nil ⟨rfl, _, _, _, _, _, .d _, .d _, .d _, h11, h12, rfl⟩)
end
end HT
end

section
set_option Elab.async false
set_option linter.all false
set_option maxRecDepth 100000
set_option maxHeartbeats 2000000
set_option autoImplicit false
namespace HT
open PySem PV TR
theorem eq_list {xs ys : List D} {dp sz : Nat} (h : xs = ys) (s : Sh (.list ys) dp sz) (hd : dp ≤ 64) : CmpIs .eq (.list xs) (.list ys) true := ⟨by
  subst h
  exact eqD_list s hd⟩
section
variable {F : Fn} {ps : List Nat} {e : Nat} {sh : Option W}
theorem tree_right (s : H13 F) (g : Good ps e) : WSs F c__law_tree_right.body (en (dl (td ps)) none none none none none none none none none none none none none none) fun f _ => f = .rt (.d (.bool true)) ∨ (f = .nx ∧ W.d (.bool true) = .d .none) := by
  have T1 : TD (.list (td ps)) ps := .inl rfl
  have v := g.v
  have hl := g.len
  have hi := high_eq g
  have std := sh_td g
  have ev0 : ni (List.range (ps.length + 1)) = (List.range (ps.length + 1)).map fun k => PyData.int (k : Nat) := rfl
  have srn : Sh (.list (ni (List.range (ps.length + 1)))) 1 (3 + 12 * 1923) := sh_nl (fun x hx => by have := List.mem_range.mp hx; omega) (by rw [List.length_range]; omega)
  have cA := s.cu ps e g _ e T1 (by rw [hi]; exact Nat.le_refl _)
  rw [cut_all g, renum_all v] at cA
  have pA := s.po ps e g _ 0 T1 (Nat.zero_le _)
  rw [part_all v, renum_all v] at pA
  have c0 := s.cu ps e g _ 0 T1 (Nat.zero_le _)
  rw [cut_one v] at c0
  obtain ⟨hh, x, hle, hx, hF⟩ := s.sh ps e g _ T1
  have pr := sh_pr std srn
  unfold c__law_tree_right
  dsimp only
  refine WSs.cons (WS.par ?_)
  refine WW.cons (WE.bi1 (WO.var rfl ⟨_, repr_list std (by decide) (by decide), ?_⟩))
  refine WW.cons (WE.lrg (WE.cst (WE.bi1 (WO.var rfl ⟨_, T1.len, ⟨0, ((ps.length + 1 : Nat) : Int), rfl, rfl, ⟨by omega, by omega, by omega, by omega⟩, ?_, ?_⟩⟩))))
  · rw [rng0, ni_len, List.length_range]; unfold lim; omega
  rw [rng0]
  generalize hsh : (PyData.list (td ps)).shown = shs
  refine WW.nil ⟨en (dl (td ps)) none none none none (some (.d (.str shs))) (some (.o (ni (List.range (ps.length + 1))))) none none none none none none none none, rfl, nx_c ?_⟩
  refine WSs.cons (WS.set ?_)
  refine WE.compO (List.range (ps.length + 1)) (fun (k : Nat) => .int k) (fun _ => true) (fun k => .int (depth ps k : Nat)) rfl rfl (by rw [List.length_range]; unfold lim; omega) (fun k hk => ?_) ?_
  · have hk := List.mem_range.mp hk
    refine ⟨en (dl (td ps)) none none none (il k) (some (.d (.str shs))) (some (.o (ni (List.range (ps.length + 1))))) none none none none none none none none, rfl, WC.no ⟨rfl, fun _ => ?_, fun z => nomatch z⟩⟩
    refine WE.bin (WO.of (WE.bi1 (WO.of (WE.call (WL.cons (WE.var rfl (WL.cons (WE.var rfl (WL.nil ⟨_, rfl, _, s.wy ps e g _ k T1 (by omega), _, rfl, ?_⟩)))))))))
    refine WO.of (WE.cst ⟨_, rfl, _, rfl, ?_, rfl⟩)
    show PyData.int (((ni (way ps k)).length : Int) - 1) = _
    rw [ni_len, way_len]
    congr 1
    omega
  rw [List.filter_eq_self.mpr fun _ _ => rfl]
  have et : (List.range (ps.length + 1)).map (fun k => PyData.int (depth ps k : Nat)) = ni (times ps) := by unfold ni times; rw [List.map_map]; rfl
  rw [et]
  refine ⟨en (dl (td ps)) (some (.o (ni (times ps)))) none none none (some (.d (.str shs))) (some (.o (ni (List.range (ps.length + 1))))) none none none none none none none none, rfl, nx_c ?_⟩
  have mt := max_times ps
  rw [hi] at mt
  refine WSs.cons (WS.set (WE.bi1 (WO.var rfl ⟨_, mt, en (dl (td ps)) (some (.o (ni (times ps)))) (il e) none none (some (.d (.str shs))) (some (.o (ni (List.range (ps.length + 1))))) none none none none none none none none, rfl, nx_c ?_⟩)))
  -- the first loop
  refine WSs.cons (WS.fr (fun _ E => ∃ z3 y7 y8 y9 y10, NR z3 ∧ NR y7 ∧ NR y8 ∧ NR y9 ∧ NR y10 ∧ E = (en (dl (td ps)) (some (.o (ni (times ps)))) (il e) z3 none (some (.d (.str shs))) (some (.o (ni (List.range (ps.length + 1))))) y7 y8 y9 y10 none none none none)) ?_)
  refine WI.rng (WE.cst (WE.bin (WO.var rfl (WO.of (WE.cst ⟨_, rfl, .d (.int ((e : Int) + 1)), rfl, 0, ((e + 1 : Nat) : Int), rfl, rfl, ⟨by omega, by have := g.e3; omega, by omega, by omega⟩, ?_⟩)))))
  rw [rng0]
  refine ⟨⟨_, _, _, _, _, .n, .n, .n, .n, .n, rfl⟩, ?_, ?_⟩
  · rintro i x E hx ⟨z3, y7, y8, y9, y10, h3, h7, h8, h9, h10, rfl⟩
    rw [ni_get] at hx
    obtain ⟨t, ht, rfl⟩ := Option.map_eq_some_iff.mp hx
    have ht := List.mem_range.mp (List.mem_of_getElem? ht)
    obtain ⟨f, E2, q1, rfl, w7, w8, w9, w10, k7, k8, k9, k10, rfl⟩ := stepA (sh := some (.d (.str shs))) s g (t := t) (by omega) h7 h8 h9 h10
    exact ⟨_, put_nr rfl h3, _, _, q1, .inl rfl, _, _, _, _, _, .d _, k7, k8, k9, k10, rfl⟩
  rintro E ⟨z3, y7, y8, y9, y10, h3, h7, h8, h9, h10, rfl⟩
  refine nx_c ?_
  -- the second loop
  refine WSs.cons (WS.fr (fun _ E => ∃ z4 y7 y9 y10 y11 y12, NR z4 ∧ NR y7 ∧ NR y9 ∧ NR y10 ∧ NR y11 ∧ NR y12 ∧ E = (en (dl (td ps)) (some (.o (ni (times ps)))) (il e) z3 z4 (some (.d (.str shs))) (dl (ni (List.range (ps.length + 1)))) y7 y8 y9 y10 y11 y12 none none)) ?_)
  refine WI.seq (WE.varO rfl ⟨_, rfl, by rw [ni_len, List.length_range]; unfold lim; omega, ⟨_, _, _, _, _, _, .n, h7, h9, h10, .n, .n, rfl⟩, ?_, ?_⟩)
  · rintro i x E hx ⟨z4, y7, y9, y10, y11, y12, k4, k7, k9, k10, k11, k12, rfl⟩
    rw [ni_get] at hx
    obtain ⟨a, ha, rfl⟩ := Option.map_eq_some_iff.mp hx
    have ha := List.mem_range.mp (List.mem_of_getElem? ha)
    obtain ⟨f, E2, q1, rfl, w7, w9, w10, w11, w12, j7, j9, j10, j11, j12, rfl⟩ := stepB (sh := some (.d (.str shs))) (z3 := z3) (z8 := y8) s g (a := a) (by omega) k7 k9 k10 k11 k12
    exact ⟨_, put_nr rfl k4, _, _, q1, .inl rfl, _, _, _, _, _, _, .d _, j7, j9, j10, j11, j12, rfl⟩
  rintro E ⟨z4, y7, y9, y10, y11, y12, k4, k7, k9, k10, k11, k12, rfl⟩
  refine nx_c ?_
  -- the end
  refine WSs.cons (WS.no ?_)
  · refine WE.or (WE.cmp (WO.of (WE.idx (WO.of (WE.call (WL.cons (WE.var rfl (WL.cons (WE.var rfl (WL.nil ⟨_, rfl, _, cA, WO.of (WE.cst ⟨_, rfl, _, rfl, ?_⟩)⟩))))))))))
    refine WO.of (WE.bi1 (WO.var rfl ⟨_, rfl, _, rfl, _, ne_list rfl std (by decide), false, rfl, (fun z => nomatch z), fun _ => ?_⟩))
    refine WE.or (WE.cmp (WO.of (WE.call (WL.cons (WE.var rfl (WL.cons (WE.cst (WL.nil ⟨_, rfl, _, pA, ?_⟩))))))))
    refine WO.of (WE.tup (WL.cons (WE.bi1 (WO.var rfl ⟨_, rfl, WL.cons (WE.var rfl (WL.nil ⟨show (2 : Nat) ≤ lim from by decide, _, rfl, _, ne_tuple rfl pr (by decide), false, rfl, (fun z => nomatch z), fun _ => ?_⟩))⟩))))
    refine WE.or (WE.cmp (WO.of (WE.call (WL.cons (WE.var rfl (WL.cons (WE.cst (WL.nil ⟨_, rfl, _, c0, ?_⟩))))))))
    refine WO.of (WE.tup (WL.cons (WE.lst (WL.cons (WE.neg (WE.cst ⟨_, rfl, WL.nil ⟨show (1 : Nat) ≤ lim from by decide, ?_⟩⟩))))))
    refine WL.cons (WE.lst (WL.cons (WE.cst (WL.nil ⟨show (1 : Nat) ≤ lim from by decide, WL.nil ⟨show (2 : Nat) ≤ lim from by decide, _, rfl, false, ⟨rfl⟩, false, rfl, (fun z => nomatch z), fun _ => ?_⟩⟩))))
    refine WE.cmp (WO.of (WE.call (WL.cons (WE.idx (WO.of (WE.call (WL.cons (WE.var rfl (WL.cons (WE.cst (WL.nil ⟨_, rfl, _, pA, WO.of (WE.cst ⟨_, rfl, _, rfl, ?_⟩)⟩)))))))))))
    refine WL.nil ⟨_, rfl, _, hF, ?_⟩
    refine WO.of (WE.call (WL.cons (WE.var rfl (WL.nil ⟨_, rfl, _, hF, _, rfl, false, ⟨?_⟩, rfl, nx_c ?_⟩))))
    · show (eqD x x).map (!·) = _
      rw [shp_eqD hx hle]; rfl
    refine WSs.cons (WS.tap1 (WL.cons (WE.var rfl (WL.cons (WE.var rfl (WL.nil ⟨_, rfl, _, cA, WE.cst ⟨_, rfl, by rw [td_len]; unfold lim; omega, nx_c ?_⟩⟩))))))
    refine WSs.cons (WS.tap1 (WL.cons (WE.var rfl (WL.cons (WE.cst (WL.nil ⟨_, rfl, _, pA, WE.cst ⟨_, rfl, by rw [ni_len, List.length_range]; unfold lim; omega, nx_c ?_⟩⟩))))))
    refine WSs.cons (WS.ret ?_)
    refine WE.and (WE.cmp (WO.of (WE.call (WL.cons (WE.var rfl (WL.cons (WE.var rfl (WL.nil ⟨_, rfl, _, cA, ?_⟩))))))))
    refine WO.of (WE.tup (WL.cons (WE.bi1 (WO.var rfl ⟨_, rfl, WL.cons (WE.var rfl (WL.nil ⟨show (2 : Nat) ≤ lim from by decide, _, rfl, _, eq_tuple rfl pr (by decide), true, rfl, (fun z => nomatch z), fun _ => ?_⟩))⟩))))
    refine WE.and (WE.cmp (WO.of (WE.call (WL.cons (WE.var rfl (WL.cons (WE.cst (WL.nil ⟨_, rfl, _, pA, ?_⟩))))))))
    refine WO.of (WE.tup (WL.cons (WE.bi1 (WO.var rfl ⟨_, rfl, WL.cons (WE.var rfl (WL.nil ⟨show (2 : Nat) ≤ lim from by decide, _, rfl, _, eq_tuple rfl pr (by decide), true, rfl, (fun z => nomatch z), fun _ => ?_⟩))⟩))))
    have rl := repr_list std (by decide) (by decide)
    rw [hsh] at rl
    exact WE.cmp (WO.of (WE.bi1 (WO.var rfl ⟨_, rl, WO.var rfl ⟨_, rfl, _, str_eq _, rt_c (.inl rfl)⟩⟩)))
end
end HT
end

section
set_option Elab.async false
set_option linter.all false
set_option maxRecDepth 100000
set_option maxHeartbeats 2000000
set_option autoImplicit false
namespace HT
open PySem PV TR
theorem h_H13 (n : Nat) : H13 (callF coreE (n + 6)) where
  it := fun ps e g => s_is_tree g (n + 2)
  eo := fun ps e g => s_end_of g (n + 1)
  tm := fun ps e g => s_time_of g n
  lv := fun ps e g => s_leaves g (n + 1)
  wt := fun ps e g => s_way_to g n
  lo := fun ps e g => s_lot_of g n
  cu := fun ps e g => s_cut_at g (n + 1)
  po := fun ps e g => s_part_of g n
  sh := fun ps e g => s_shape g (n + 1)
  wy := fun ps e g => s_law_way g.v g.len (n + 5)
  ll := fun ps e g => s_law_lot g.v g.len (n + 4)
  ag := s_law_again (n + 5)
theorem s_tree_right {ps : List Nat} {e : Nat} (g : Good ps e) (n : Nat) : callF coreE (n + 7) 33 none [.list (td ps)] = some (.d (.bool true), none) := by
  rw [e33]
  exact fin_of (tree_right (h_H13 n) g)
theorem right {F : Fn} (hr : ∀ ps e, Good ps e → F 33 none [.list (td ps)] = some (.d (.bool true), none)) (ht : TreS F 28) (hd : DrS F 27) {xs : List D} (p : Pot xs) :
    WSs F c__law_right.body [some (.r xs)] fun f E' => f = .rt (.d (.bool true)) ∧ ∃ xs', Pot xs' ∧ E'[0]? = some (some (.r xs')) := by
  obtain ⟨k, x1, d1, k1, p1⟩ := hd xs p 4 (by omega) (by omega)
  obtain ⟨ps, x2, a1, a2, p2⟩ := ht x1 k p1 (by omega)
  obtain ⟨qs, x3, b1, b2, p3⟩ := ht x2 3 p2 (by omega)
  obtain ⟨rs, x4, c1, c2, p4⟩ := ht x3 2 p3 (by omega)
  unfold c__law_right
  refine WSs.cons (WS.ret ?_)
  refine WE.and (WE.call (WL.cons (WE.callrV rfl (WL.cons (WE.callrV rfl (WL.cons (WE.cst (WL.nil ⟨_, rfl, _, _, d1, ?_⟩))))))))
  refine WL.nil ⟨_, rfl, _, _, a1, WL.nil ⟨_, rfl, _, hr ps _ a2, true, rfl, (fun z => nomatch z), fun _ => ?_⟩⟩
  refine WE.and (WE.call (WL.cons (WE.callrV rfl (WL.cons (WE.cst (WL.nil ⟨_, rfl, _, _, b1, ?_⟩))))))
  refine WL.nil ⟨_, rfl, _, hr qs _ b2, true, rfl, (fun z => nomatch z), fun _ => ?_⟩
  refine WE.call (WL.cons (WE.callrV rfl (WL.cons (WE.cst (WL.nil ⟨_, rfl, _, _, c1, ?_⟩)))))
  exact WL.nil ⟨_, rfl, _, hr rs _ c2, rt_c ⟨rfl, x4, p4, rfl⟩⟩
theorem plain (ns : List Int) (hl : ns.length ≤ 63) : callF coreE 30 35 none [.list (ns.map .int)] = some (.d (.bool true), none) := by
  have hp : PotS (callF coreE 29) 26 := s_law_pot 28
  have hr : ∀ xs, Pot xs → ∃ xs', callF coreE 29 34 (some xs) [] = some (.d (.bool true), some xs') ∧ Pot xs' := fun xs p => by
    rw [e34 28]
    exact fin_ofRE (right (fun ps e g => s_tree_right g 21) (s_law_tree 26) (s_law_draw 27) p)
  rw [e35 29]
  generalize callF coreE 29 = F at *
  obtain ⟨m, hm, hm2⟩ : ∃ m : Nat, (m : Int) = (if (if (ns.length : Int) < 2 then (ns.length : Int) else 2) > 1 then (if (ns.length : Int) < 2 then (ns.length : Int) else 2) else 1) ∧ m ≤ 2 := by
    refine ⟨((if (if (ns.length : Int) < 2 then (ns.length : Int) else 2) > 1 then (if (ns.length : Int) < 2 then (ns.length : Int) else 2) else 1) : Int).toNat, ?_, ?_⟩
    · split <;> split <;> omega
    · split <;> split <;> omega
  apply fin_of
  unfold c_law
  refine WSs.cons (WS.ret (WE.bi1 (WO.of ?_)))
  refine WE.comp (List.range m) (fun (k : Nat) => .int k) (fun _ => true) (fun _ => .bool true) ?_
  refine WI.rng (WE.cst (WE.bi2 (WE.cst (WE.bi2 (WE.cst (WE.bi1 (WO.var rfl ⟨_, rfl, _, rfl, _, rfl, ?_⟩)))))))
  rw [List.length_map, ← hm]
  refine ⟨0, (m : Int), rfl, rfl, ⟨by omega, by omega, by omega, by omega⟩, rng0 m, ?_, ?_⟩
  · intro k hk
    have hk := List.mem_range.mp hk
    obtain ⟨xs, g1, g2⟩ := hp ns k (by omega)
    obtain ⟨xs', g3, _⟩ := hr xs g2
    refine ⟨[some (.d (.list (ns.map .int))), some (.d (.int (k : Nat)))], rfl, WC.no ⟨rfl, fun _ => ?_, fun z => nomatch z⟩⟩
    exact WE.callr (WE.call (WL.cons (WE.var rfl (WL.cons (WE.var rfl (WL.nil ⟨_, rfl, _, g1, xs, rfl, WL.nil ⟨_, _, g3, rfl, rfl⟩⟩))))))
  · rw [List.filter_eq_self.mpr fun _ _ => rfl]
    exact ⟨_, all_true _, rt_c (.inl rfl)⟩
end HT
end

section
set_option Elab.async false
set_option linter.all false
set_option maxRecDepth 100000
set_option maxHeartbeats 0
/-! ### the law's text: tables -/
namespace HT
open PySem PySem.Spec PyProof.Rows L2
abbrev rw_ := PySem.Challenge.rw_betsalong_k13_whole_trees_cut_and_parts
abbrev pw_ := PySem.Challenge.pw_betsalong_k13_whole_trees_cut_and_parts
def fn : List He.DefD := pw_.main.body.filterMap PV.defD
def tab : PV.Tab := [
  ([PySem.Str.ofString "value"], false),
  ([PySem.Str.ofString "value", PySem.Str.ofString "least", PySem.Str.ofString "most"], false),
  ([PySem.Str.ofString "value"], false),
  ([PySem.Str.ofString "value", PySem.Str.ofString "least", PySem.Str.ofString "most"], false),
  ([PySem.Str.ofString "tree", PySem.Str.ofString "found", PySem.Str.ofString "parent"], false),
  ([PySem.Str.ofString "tree", PySem.Str.ofString "node", PySem.Str.ofString "late", PySem.Str.ofString "parent"], false),
  ([PySem.Str.ofString "tree", PySem.Str.ofString "node"], false),
  ([PySem.Str.ofString "tree"], false),
  ([PySem.Str.ofString "tree", PySem.Str.ofString "node", PySem.Str.ofString "found"], false),
  ([PySem.Str.ofString "tree", PySem.Str.ofString "node", PySem.Str.ofString "leaf"], false),
  ([PySem.Str.ofString "tree", PySem.Str.ofString "node", PySem.Str.ofString "late"], false),
  ([PySem.Str.ofString "value", PySem.Str.ofString "times", PySem.Str.ofString "leaf", PySem.Str.ofString "node", PySem.Str.ofString "parent"], false),
  ([PySem.Str.ofString "value"], false),
  ([PySem.Str.ofString "tree", PySem.Str.ofString "value"], false),
  ([PySem.Str.ofString "tree", PySem.Str.ofString "node"], false),
  ([PySem.Str.ofString "value"], false),
  ([PySem.Str.ofString "tree"], false),
  ([PySem.Str.ofString "tree", PySem.Str.ofString "node"], false),
  ([PySem.Str.ofString "tree"], false),
  ([PySem.Str.ofString "tree", PySem.Str.ofString "nodes", PySem.Str.ofString "parents", PySem.Str.ofString "node"], false),
  ([PySem.Str.ofString "tree", PySem.Str.ofString "node", PySem.Str.ofString "shapes", PySem.Str.ofString "late", PySem.Str.ofString "child"], false),
  ([PySem.Str.ofString "tree", PySem.Str.ofString "node"], false),
  ([PySem.Str.ofString "tree", PySem.Str.ofString "node"], false),
  ([PySem.Str.ofString "tree", PySem.Str.ofString "number", PySem.Str.ofString "node", PySem.Str.ofString "time"], false),
  ([PySem.Str.ofString "tree", PySem.Str.ofString "node"], false),
  ([PySem.Str.ofString "tree"], false),
  ([PySem.Str.ofString "script", PySem.Str.ofString "k", PySem.Str.ofString "cell"], false),
  ([PySem.Str.ofString "pot", PySem.Str.ofString "many", PySem.Str.ofString "digit"], true),
  ([PySem.Str.ofString "pot", PySem.Str.ofString "end", PySem.Str.ofString "time", PySem.Str.ofString "turn", PySem.Str.ofString "parents", PySem.Str.ofString "level", PySem.Str.ofString "whole", PySem.Str.ofString "most", PySem.Str.ofString "wide", PySem.Str.ofString "some", PySem.Str.ofString "order", PySem.Str.ofString "left", PySem.Str.ofString "free", PySem.Str.ofString "node"], true),
  ([PySem.Str.ofString "tree", PySem.Str.ofString "node", PySem.Str.ofString "found"], false),
  ([PySem.Str.ofString "tree", PySem.Str.ofString "node"], false),
  ([PySem.Str.ofString "tree", PySem.Str.ofString "node", PySem.Str.ofString "leaf"], false),
  ([PySem.Str.ofString "tree", PySem.Str.ofString "nodes", PySem.Str.ofString "node"], false),
  ([PySem.Str.ofString "tree", PySem.Str.ofString "times", PySem.Str.ofString "end", PySem.Str.ofString "number", PySem.Str.ofString "node", PySem.Str.ofString "shown", PySem.Str.ofString "every", PySem.Str.ofString "due", PySem.Str.ofString "less", PySem.Str.ofString "near", PySem.Str.ofString "nodes", PySem.Str.ofString "at", PySem.Str.ofString "late", PySem.Str.ofString "leaf", PySem.Str.ofString "one"], false),
  ([PySem.Str.ofString "pot"], true),
  ([PySem.Str.ofString "script", PySem.Str.ofString "k"], false)]
def consts : List (Str × PV.CV) := [(PySem.Str.ofString "MOST_NODES", .i (12)), (PySem.Str.ofString "MOST_END", .i (3))]
def free : List Str := [PySem.Str.ofString "abs", PySem.Str.ofString "all", PySem.Str.ofString "any", PySem.Str.ofString "bool", PySem.Str.ofString "divmod", PySem.Str.ofString "enumerate", PySem.Str.ofString "int", PySem.Str.ofString "isinstance", PySem.Str.ofString "len", PySem.Str.ofString "list", PySem.Str.ofString "max", PySem.Str.ofString "min", PySem.Str.ofString "range", PySem.Str.ofString "repr", PySem.Str.ofString "sorted", PySem.Str.ofString "tuple"]
def bound : List Str := [PySem.Str.ofString "BetError", PySem.Str.ofString "InvalidTree", PySem.Str.ofString "InvalidNode", PySem.Str.ofString "InvalidNumber", PySem.Str.ofString "MOST_NODES", PySem.Str.ofString "MOST_END"]
def fa : List He.Fa := PV.faT consts free fn
def core : PV.Core := PV.coreT tab consts free fn
abbrev R : PySem.W.OpenRow := PySem.W.OpenLaw.row rw_
abbrev hk : PySem.W.Hook := PV.hookC 2 fa fn (PV.exT consts)
def ob (s : PySem.W.SharedT) : PV.AlC := PV.obsCG 2 fa fn (PV.exT consts) (HandSHeadRun.getT s)
theorem ob_eq (s : PySem.W.SharedT) : ob s = hk.obs s.abs := PV.obsCG_eq (HandSHeadRun.getT_eq s)
def loose : List Str := bound ++ (fn.map (·.name)).dropLast
theorem run (w : World) : HandSHeadRun.RunEq R (PySem.W.view R.prog [46]) hk ob 6000 loose w := by
  intro os
  kernel_rfl
theorem okT : PV.okT tab fn = true := by kernel_rfl
def dDf : PV.CDef := ⟨"", [], [], false, .nil⟩
theorem lawDf : core[35]? = some (core.getD 35 dDf) := by kernel_rfl
end HT
namespace HT
open PySem PV
def lev : Nat := 30
theorem core_eq : core = coreE := by kernel_rfl
theorem law_true : ∀ ns : List Int, ns.length ≤ 63 → PV.callF core lev 35 none [.list (ns.map .int)] = some (.d (.bool true), none) := by
  rw [core_eq]
  exact plain
end HT
/-! ### the end -/
open PySem PySem.W PySem.Calls PyProof.Rows
theorem hold : HT.rw_.Holds := by
  w_on; o_law
  refine HandSHeadRun.head_any (r := HT.R) (q := view HT.R.prog [46]) (H := HT.hk) (ob := HT.ob) (M := 6000) (loose := HT.loose) (d := HandSHeadRun.topDef HT.R.prog 46) (kwd := []) HT.ob_eq
    (by kernel_rfl) (fun s => by kernel_rfl) HT.run (by kernel_rfl) (by kernel_rfl) (by kernel_rfl) (by rfl) (by first | assumption | decide +kernel) (by decide +kernel) ⟨rfl, rfl, rfl, rfl, rfl, by decide +kernel⟩ ?hw ?hc
  case hw => w_witness2
  case hc =>
    refine PV.walk_g (l := HT.rw_) (n := 63) (k := HT.lev) (x := "script") rfl (by decide) (by kernel_rfl) ⟨rfl, by decide, by decide⟩ ?F
    intro w mg fa h Y G hmg0
    obtain ⟨K, KX, c⟩ := Y
    have hmg : mg ("law" : PySem.Str) = some (.ref fa) := by
      have e : (HandSHeadRun.topDef (OpenLaw.row HT.rw_).prog 46).name = ("law" : PySem.Str) := by kernel_rfl
      rw [← e]
      exact hmg0
    obtain ⟨fd, sp, hb, hsp, hF⟩ := PV.law_facts (P := HT.rw_.prog) (w := w) (x := "script") (n := 63) (lev := HT.lev) HT.okT c KX G HT.lawDf (by kernel_rfl) (show mg _ = _ from hmg) HT.law_true
    exact ⟨K, fd, sp, KX, hb, hsp, hF⟩
end
set_option maxRecDepth 100000 in
set_option maxHeartbeats 0 in
theorem PySem.Challenge.cw_betsalong_k13_whole_trees_cut_and_parts_holds : PySem.Challenge.rw_betsalong_k13_whole_trees_cut_and_parts.Holds := by
  exact hold
