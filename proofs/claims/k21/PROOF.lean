import PyProof.Rows.All
import Wide.All
import OpenK.AllK
import Wide.FinOn
import KE.KStateDown
import HandS.ForMost
import HandS.ForExc
import HandS.Flow
import HandS.CallSlots
import HandS.IsInst
import HandS.Zip
import HandS.SortInts
import HandS.TupAny
import HandS.TupMul
import HandS.Style
import HandS.NoneIn
import HandS.SetFor
import HandS.Walk
import HandS.Text
import KE.DataMinMax
import KE.OsSort
import HandS.Head0
import HandS.Head1
import HandS.Head2
import HandS.HeadEnd
import HandS.HeadHook1
import HandS.HeadHook2
import PySem.Challenge.RW_standsend_k21_whole_numbers_on_a_ring
set_option Elab.async false
set_option linter.all false
set_option maxRecDepth 100000
set_option maxHeartbeats 4000000
namespace Pv
open PySem L2

/-! ### values -/
inductive D where
  | non | bl (b : Bool) | int (i : Int) | str (x : Str)
  | tup (ds : List D) | lst (ds : List D) | scr (ds : List D)
  | dic (kvs : List (Key × D))
  | hnd (h : Nat)

abbrev Store := List D
inductive Slot where
  | no | sh (d : D) | ow (d : D)
abbrev Rho := List Slot

inductive Res (α : Type) where
  | ok (a : α) (M : Store) | exc (c : Nat) (M : Store) | fail
def Res.bind {α β : Type} (r : Res α) (k : α → Store → Res β) : Res β := match r with
  | .ok a M => k a M
  | .exc c M => .exc c M
  | .fail => .fail
def opt {α : Type} (o : Option α) (M : Store) : Res α := match o with
  | some a => .ok a M
  | none => .fail

/-! ### syntax -/
inductive BK where | add | sub | mul | fdiv | mod
inductive CK where | eq | ne | lt | le | gt | ge | isin | notin | is | isnot
inductive F1 where | len | abs | max | min | sum | all | any | int | str | tuple
inductive F2 where | max | min
inductive M1 where | join | count | get
inductive FF where | list | sorted | sset | dict
inductive Ty where | int | bool | tuple | str

inductive E where
  | int (i : Int) | str (x : Str) | bl (b : Bool) | non
  | var (i : Nat) | peek (i : Nat)
  | glob (x : Str) (i : Int)
  | bin (k : BK) (a b : E) | neg (a : E)
  | cmp (k : CK) (a b : E) | cmp2 (k l : CK) (a b c : E)
  | and (l : E) | or (l : E) | not (a : E)
  | ite (t a b : E)
  | tup (l : E)
  | idx (a b : E) | slice (a lo hi : E) | rev (a : E)
  | call (f : Nat) (l : E)
  | fn1 (k : F1) (a : E) | fn2 (k : F2) (a b : E)
  | meth1 (k : M1) (a b : E) | get2 (a b c : E)
  | isi (a : E) (t : Ty)
  | lst (l : E)
  | comp (tg : List Nat) (tt : Bool) (it : E) (cond : E) (elt : E) (own : List Nat)
  | ff (k : FF) (a : E)
  | dic0
  | fcall (f : Nat) (l : E)
  | move (i : Nat)
  | itSeq (a : E) | itRange1 (a : E) | itRange (a b : E) | itEnum (a : E) | itZip (a b : E)
  | nil | cons (e r : E)

inductive S where
  | skip | seq (a b : S)
  | asg (tg : List Nat) (tt : Bool) (e : E)
  | par (tg : List Nat) (l : E)
  | own (i : Nat) (e : E)
  | hnew (i : Nat) (e : E)
  | seti (i : Nat) (k e : E)
  | app (i : Nat) (e : E)
  | popd (i : Nat) (k : E)
  | upd (i : Nat) (e : E)
  | happ (h e : E)
  | expr (e : E)
  | ite (c : E) (a b : S)
  | «for» (tg : List Nat) (tt : Bool) (it : E) (body : S)
  | «while» (c : E) (body : S)
  | ret (e : E) | retF (e : E)
  | raise (c : Nat)
  | tryx (body : S) (c : Nat) (suite : S)
  | cont
  | frzB (i : Nat) (b : S)

/-! ### operations on values -/
def LIM : Nat := 16777216
def dr (M : Store) : D → D
  | .hnd h => match M[h]? with
    | some d => d
    | none => .non
  | d => d

mutual
def eqD : D → D → Bool
  | .non, .non => true
  | .bl a, .bl b => a == b
  | .bl a, .int j => (if a then 1 else 0) == j
  | .int i, .bl b => i == (if b then 1 else 0)
  | .int i, .int j => i == j
  | .str x, .str y => x == y
  | .lst xs, .lst ys => eqDs xs ys
  | .tup xs, .tup ys => eqDs xs ys
  | _, _ => false
def eqDs : List D → List D → Bool
  | [], [] => true
  | x :: xs, y :: ys => eqD x y && eqDs xs ys
  | _, _ => false
end
/-- plain data of a small depth -/
def okStr (x : Str) : Bool := PyData.strOk x
mutual
def okd : Nat → D → Bool
  | _, .non => true
  | _, .bl _ => true
  | _, .int _ => true
  | _, .str x => okStr x
  | n + 1, .tup ds => okds n ds
  | n + 1, .lst ds => okds n ds
  | _, _ => false
def okds : Nat → List D → Bool
  | _, [] => true
  | n, d :: ds => okd n d && okds n ds
end
def flatD : D → Bool
  | .non => true | .bl _ => true | .int _ => true | .str _ => true
  | _ => false

def keyOf : D → Option Key
  | .int i => some (.inl i)
  | .str x => some (.inr x)
  | _ => none
def dK : Key → D
  | .inl i => .int i
  | .inr x => .str x
def lookK {α : Type} (kvs : List (Key × α)) (k : Key) : Option α := (kvs.find? fun kv => decide (kv.1 = k)).map (·.2)
def setK {α : Type} (kvs : List (Key × α)) (k : Key) (v : α) : List (Key × α) :=
  if (kvs.any fun kv => decide (kv.1 = k)) = true then kvs.map (fun kv => if kv.1 = k then (kv.1, v) else kv) else kvs ++ [(k, v)]
def delK {α : Type} (kvs : List (Key × α)) (k : Key) : List (Key × α) := kvs.filter fun kv => decide (kv.1 ≠ k)

def smallI (i : Int) : Bool := decide (-(2 ^ 64) < i ∧ i < 2 ^ 64)
def binD : BK → D → D → Option D
  | .add, .int i, .int j => some (.int (i + j))
  | .add, .str x, .str y => if x.length + y.length ≤ LIM then some (.str (x ++ y)) else none
  | .add, .tup a, .tup b => if a.length + b.length ≤ LIM then some (.tup (a ++ b)) else none
  | .add, .lst a, .lst b => if a.length + b.length ≤ LIM then some (.lst (a ++ b)) else none
  | .sub, .int i, .int j => some (.int (i - j))
  | .mul, .int i, .int j => if smallI i || smallI j then some (.int (i * j)) else none
  | .fdiv, .int i, .int j => if 0 < j ∧ j < 1073741824 then some (.int (i / j)) else none
  | .mod, .int i, .int j => if 0 < j then some (.int (i % j)) else none
  | _, _, _ => none
def inD (x : D) (ds : List D) : Bool := ds.any fun y => eqD y x
def isinD (x y : D) : Option Bool := match y with
  | .tup ds => if flatD x && ds.all flatD then some (inD x ds) else none
  | .lst ds => if flatD x && ds.all flatD then some (inD x ds) else none
  | .dic kvs => match keyOf x with
    | some k => some (lookK kvs k).isSome
    | none => none
  | _ => none
def isD (x y : D) : Option Bool := match y with
  | .non => match x with
    | .non => some true
    | .hnd _ => none
    | _ => some false
  | .bl b => match x with
    | .bl a => some (decide (a = b))
    | _ => none
  | _ => none
def cmpD : CK → D → D → Option Bool
  | .eq, x, y => if okd 60 x && okd 60 y then some (eqD x y) else none
  | .ne, x, y => if okd 60 x && okd 60 y then some (!eqD x y) else none
  | .lt, .int i, .int j => some (decide (i < j))
  | .le, .int i, .int j => some (decide (i ≤ j))
  | .gt, .int i, .int j => some (decide (j < i))
  | .ge, .int i, .int j => some (decide (j ≤ i))
  | .isin, x, y => isinD x y
  | .notin, x, y => (isinD x y).map (!·)
  | .is, x, y => isD x y
  | .isnot, x, y => (isD x y).map (!·)
  | _, _, _ => none
def truD : D → Option Bool
  | .non => some false
  | .bl b => some b
  | .int i => some (i != 0)
  | .str x => some ((x.length : Int) != 0)
  | .tup ds => some (!ds.isEmpty)
  | .lst ds => some (!ds.isEmpty)
  | .scr ds => some (!ds.isEmpty)
  | .dic kvs => some (!kvs.isEmpty)
  | .hnd _ => none
def idxD : D → D → Option D
  | .tup ds, .int i => atI ds i
  | .lst ds, .int i => atI ds i
  | .scr ds, .int i => atI ds i
  | .str z, .int i => (atI z.cps.toList i).map fun c => .str ⟨#[c]⟩
  | .dic kvs, k => match keyOf k with
    | some k => lookK kvs k
    | none => none
  | _, _ => none
def cutL {α : Type} (xs : List α) (lo hi : Option Int) : List α := (xs.drop (HT.sIx xs.length 0 lo)).take (HT.sIx xs.length xs.length hi - HT.sIx xs.length 0 lo)
def sliceD : D → Option Int → Option Int → Option D
  | .tup ds, lo, hi => some (.tup (cutL ds lo hi))
  | .lst ds, lo, hi => some (.lst (cutL ds lo hi))
  | .str z, lo, hi => some (.str (cutS z lo hi))
  | _, _, _ => none
def revD : D → Option D
  | .tup ds => some (.tup ds.reverse)
  | .lst ds => some (.lst ds.reverse)
  | _ => none
def lenD : D → Option Nat
  | .str x => some x.length
  | .tup ds => some ds.length
  | .lst ds => some ds.length
  | .scr ds => some ds.length
  | .dic kvs => some kvs.length
  | _ => none
def intsOf : List D → Option (List Int)
  | [] => some []
  | .int i :: r => (intsOf r).map (i :: ·)
  | _ :: _ => none
def boolsOf : List D → Option (List Bool)
  | [] => some []
  | .bl b :: r => (boolsOf r).map (b :: ·)
  | _ :: _ => none
def strsOf : List D → Option (List Str)
  | [] => some []
  | .str x :: r => (strsOf r).map (x :: ·)
  | _ :: _ => none
def maxL : List Int → Option Int
  | [] => none
  | a :: r => some (r.foldl max a)
def minL : List Int → Option Int
  | [] => none
  | a :: r => some (r.foldl min a)
def fn1D : F1 → D → Option D
  | .len, d => (lenD d).map fun (n : Nat) => D.int (Int.ofNat n)
  | .abs, .int i => some (.int (if i < 0 then -i else i))
  | .max, .lst ds => ((intsOf ds).bind maxL).map .int
  | .min, .lst ds => ((intsOf ds).bind minL).map .int
  | .max, .tup ds => ((intsOf ds).bind maxL).map .int
  | .sum, .lst ds => (intsOf ds).map fun ns => .int ns.sum
  | .all, .lst ds => (boolsOf ds).map fun bs => .bl (bs.all id)
  | .any, .lst ds => (boolsOf ds).map fun bs => .bl (bs.any id)
  | .int, .int i => some (.int i)
  | .int, .bl b => some (.int (if b then 1 else 0))
  | .str, .int i => if 0 ≤ i ∧ i < 10 then some (.str (Str.ofString (toString i))) else none
  | .tuple, .tup ds => some (.tup ds)
  | .tuple, .lst ds => some (.tup ds)
  | _, _ => none
def fn2D : F2 → D → D → Option D
  | .max, .int i, .int j => some (.int (if j > i then j else i))
  | .min, .int i, .int j => some (.int (if j < i then j else i))
  | _, _, _ => none
def meth1D : M1 → D → D → Option D
  | .join, .str a, .lst ds => match strsOf ds with
    | some ys => if (ys.map (·.length)).sum + ys.length * a.length ≤ LIM then some (.str (Txt.join a ys)) else none
    | none => none
  | .count, .str a, .str b => some (.int (Txt.count a b))
  | .count, .lst ds, x => if flatD x && ds.all flatD then some (.int (Int.ofNat (ds.countP fun y => eqD y x))) else none
  | .get, .dic kvs, k => match keyOf k with
    | some k => some ((lookK kvs k).getD .non)
    | none => none
  | _, _, _ => none
def recvB : M1 → D → Bool
  | .join, .str _ => true
  | .count, .str _ => true
  | .count, .lst _ => true
  | .get, .dic _ => true
  | _, _ => false
def get2D : D → D → D → Option D
  | .dic kvs, k, x => match keyOf k with
    | some k => some ((lookK kvs k).getD x)
    | none => none
  | _, _, _ => none
def isiD : D → Ty → Option Bool
  | .non, _ => some false
  | .bl _, .int => some true
  | .bl _, .bool => some true
  | .bl _, _ => some false
  | .int _, .int => some true
  | .int _, _ => some false
  | .str _, .str => some true
  | .str _, _ => some false
  | .tup _, .tuple => some true
  | .tup _, _ => some false
  | .lst _, _ => some false
  | _, _ => none
def pairsOf : List D → Option (List (Key × D))
  | [] => some []
  | .tup [k, v] :: r => match keyOf k with
    | some k => (pairsOf r).map ((k, v) :: ·)
    | none => none
  | _ :: _ => none
def dictOf (ps : List (Key × D)) : List (Key × D) := ps.foldl (fun a p => setK a p.1 p.2) []
def isort (ns : List Int) : List Int := ns.mergeSort fun a b => decide (a ≤ b)
def ffD : FF → D → Option D
  | .list, .tup ds => some (.lst ds)
  | .list, .lst ds => some (.lst ds)
  | .sorted, .lst ds => (intsOf ds).map fun ns => .lst ((isort ns).map .int)
  | .dict, .dic kvs => some (.dic kvs)
  | .dict, .lst ds => (pairsOf ds).map fun ps => .dic (dictOf ps)
  | .dict, .tup ds => (pairsOf ds).map fun ps => .dic (dictOf ps)
  | _, _ => none
def itemsD : D → Option (List D)
  | .tup ds => some ds
  | .lst ds => some ds
  | .scr ds => some ds
  | .str x => some (x.cps.toList.map fun c => .str ⟨#[c]⟩)
  | _ => none
def rangeL (a : Int) (n : Nat) : List D := (List.range n).map fun (k : Nat) => D.int (a + k)
def rangeD : D → D → Option (List D)
  | .int a, .int b => if -(2 ^ 62) ≤ a ∧ a < 2 ^ 62 ∧ -(2 ^ 62) ≤ b ∧ b < 2 ^ 62 ∧ b - a ≤ LIM then some (rangeL a (b - a).toNat) else none
  | _, _ => none
def enumD (ds : List D) : List D := ds.zipIdx.map fun p => .tup [.int (p.2 : Nat), p.1]
def zipD (as bs : List D) : List D := (as.zip bs).map fun p => .tup [p.1, p.2]
def zipO : D → D → Option (List D)
  | .tup as, .tup bs => some (zipD as bs)
  | .lst as, .lst bs => some (zipD as bs)
  | _, _ => none

/-! ### slots -/
def setS (ρ : Rho) (i : Nat) (d : D) : Option Rho := if i < ρ.length then some (ρ.set i (.sh d)) else none
def setSs : Rho → List Nat → List D → Option Rho
  | ρ, [], [] => some ρ
  | ρ, i :: is, d :: ds => (setS ρ i d).bind fun ρ => setSs ρ is ds
  | _, _, _ => none
def bindT (tg : List Nat) (tt : Bool) (ρ : Rho) (d : D) : Option Rho := match tt with
  | false => match tg with
    | [i] => setS ρ i d
    | _ => none
  | true => match d with
    | .tup ds => setSs ρ tg ds
    | .lst ds => setSs ρ tg ds
    | _ => none
def wipeR (ρ : Rho) : List Nat → Rho
  | [] => ρ
  | v :: vs => (wipeR ρ vs).set v .no

/-! ### expressions -/
def compL (f : D → Store → Res (Option D)) : List D → Store → Res (List D)
  | [], M => .ok [] M
  | d :: ds, M => match f d M with
    | .ok o M1 => match compL f ds M1 with
      | .ok r M2 => .ok (match o with | some x => x :: r | none => r) M2
      | _ => .fail
    | _ => .fail
def truR (r : Res D) : Res Bool := r.bind fun d M => opt (truD (dr M d)) M
def isOpt : D → Option (Option Int)
  | .int i => some (some i)
  | _ => none

section
variable (C : Nat → List D → Store → Res D)
mutual
def ev : E → Rho → Store → Res D
  | .int i, _, M => .ok (.int i) M
  | .str x, _, M => .ok (.str x) M
  | .bl b, _, M => .ok (.bl b) M
  | .non, _, M => .ok .non M
  | .var i, ρ, M => match ρ[i]? with
    | some (.sh d) => .ok d M
    | _ => .fail
  | .peek i, ρ, M => match ρ[i]? with
    | some (.ow d) => .ok d M
    | _ => .fail
  | .move i, ρ, M => match ρ[i]? with
    | some (.ow d) => .ok d M
    | _ => .fail
  | .glob _ i, _, M => .ok (.int i) M
  | .bin k a b, ρ, M => (ev a ρ M).bind fun x M => (ev b ρ M).bind fun y M => opt (binD k x y) M
  | .neg a, ρ, M => (ev a ρ M).bind fun x M => match x with
    | .int i => .ok (.int (-i)) M
    | _ => .fail
  | .cmp k a b, ρ, M => (ev a ρ M).bind fun x M => (ev b ρ M).bind fun y M => opt ((cmpD k x y).map .bl) M
  | .cmp2 k l a b c, ρ, M => (ev a ρ M).bind fun x M => (ev b ρ M).bind fun y M => (opt (cmpD k x y) M).bind fun t M =>
      match t with
      | true => (ev c ρ M).bind fun z M => opt ((cmpD l y z).map .bl) M
      | false => .ok (.bl false) M
  | .and l, ρ, M => evAnd l ρ M
  | .or l, ρ, M => evOr l ρ M
  | .not a, ρ, M => (truR (ev a ρ M)).bind fun b M => .ok (.bl (!b)) M
  | .ite t a b, ρ, M => (evT t ρ M).bind fun c M => match c with
    | true => ev a ρ M
    | false => ev b ρ M
  | .tup l, ρ, M => (evs l ρ M).bind fun ds M => if ds.length ≤ LIM then .ok (.tup ds) M else .fail
  | .lst l, ρ, M => (evs l ρ M).bind fun ds M => if ds.length ≤ LIM then .ok (.lst ds) M else .fail
  | .idx a b, ρ, M => (ev a ρ M).bind fun x M => (ev b ρ M).bind fun y M => opt (idxD (dr M x) y) M
  | .slice a lo hi, ρ, M => (ev a ρ M).bind fun x M => (evO lo ρ M).bind fun l M => (evO hi ρ M).bind fun h M => opt (sliceD x l h) M
  | .rev a, ρ, M => (ev a ρ M).bind fun x M => opt (revD x) M
  | .call f l, ρ, M => (evs l ρ M).bind fun ds M => C f ds M
  | .fcall f l, ρ, M => (evs l ρ M).bind fun ds M => C f ds M
  | .fn1 k a, ρ, M => (ev a ρ M).bind fun x M => opt (fn1D k (dr M x)) M
  | .fn2 k a b, ρ, M => (ev a ρ M).bind fun x M => (ev b ρ M).bind fun y M => opt (fn2D k x y) M
  | .meth1 k a b, ρ, M => (ev a ρ M).bind fun x M => match recvB k x with
    | true => (ev b ρ M).bind fun y M => opt (meth1D k x y) M
    | false => .fail
  | .get2 a b c, ρ, M => (ev a ρ M).bind fun x M => match recvB .get x with
    | true => (ev b ρ M).bind fun y M => (ev c ρ M).bind fun z M => opt (get2D x y z) M
    | false => .fail
  | .isi a t, ρ, M => (ev a ρ M).bind fun x M => opt ((isiD x t).map .bl) M
  | .ff k a, ρ, M => (ev a ρ M).bind fun x M => opt (ffD k x) M
  | .dic0, _, M => .ok (.dic []) M
  | .comp tg tt it cond elt own, ρ, M => (evI it ρ M).bind fun ds M =>
      (compL (fun d M => match bindT tg tt (wipeR ρ own) d with
        | some ρ1 => match evC cond ρ1 M with
          | .ok true M1 => (ev elt ρ1 M1).bind fun x M2 => .ok (some x) M2
          | .ok false M1 => .ok none M1
          | _ => .fail
        | none => .fail) ds M).bind fun r M => .ok (.lst r) M
  | _, _, _ => .fail
/-- a condition that may be left out -/
def evC : E → Rho → Store → Res Bool
  | .nil, _, M => .ok true M
  | .cons c .nil, ρ, M => evT c ρ M
  | _, _, _ => .fail
/-- a bound that may be left out -/
def evO : E → Rho → Store → Res (Option Int)
  | .nil, _, M => .ok none M
  | .cons a .nil, ρ, M => (ev a ρ M).bind fun x M => match x with
    | .int i => .ok (some i) M
    | _ => .fail
  | _, _, _ => .fail
def evs : E → Rho → Store → Res (List D)
  | .nil, _, M => .ok [] M
  | .cons e r, ρ, M => (ev e ρ M).bind fun d M => (evs r ρ M).bind fun ds M => .ok (d :: ds) M
  | _, _, _ => .fail
def evAnd : E → Rho → Store → Res D
  | .cons e r, ρ, M => match r with
    | .nil => ev e ρ M
    | _ => (ev e ρ M).bind fun d M => (opt (truD (dr M d)) M).bind fun b M => match b with
      | true => evAnd r ρ M
      | false => .ok d M
  | _, _, _ => .fail
def evOr : E → Rho → Store → Res D
  | .cons e r, ρ, M => match r with
    | .nil => ev e ρ M
    | _ => (ev e ρ M).bind fun d M => (opt (truD (dr M d)) M).bind fun b M => match b with
      | true => .ok d M
      | false => evOr r ρ M
  | _, _, _ => .fail
def evT : E → Rho → Store → Res Bool
  | .and l, ρ, M => evAndT l ρ M
  | .or l, ρ, M => evOrT l ρ M
  | .not a, ρ, M => (evT a ρ M).bind fun b M => .ok (!b) M
  | .cmp k a b, ρ, M => (ev a ρ M).bind fun x M => (ev b ρ M).bind fun y M => opt (cmpD k x y) M
  | .cmp2 k l a b c, ρ, M => (ev a ρ M).bind fun x M => (ev b ρ M).bind fun y M => (opt (cmpD k x y) M).bind fun t M =>
      match t with
      | true => (ev c ρ M).bind fun z M => opt (cmpD l y z) M
      | false => .ok false M
  | .var i, ρ, M => match ρ[i]? with
    | some (.sh d) => opt (truD (dr M d)) M
    | _ => .fail
  | .peek i, ρ, M => match ρ[i]? with
    | some (.ow d) => opt (truD (dr M d)) M
    | _ => .fail
  | .call f l, ρ, M => (evs l ρ M).bind fun ds M => truR (C f ds M)
  | .idx a b, ρ, M => (ev a ρ M).bind fun x M => (ev b ρ M).bind fun y M => (opt (idxD (dr M x) y) M).bind fun d M => opt (truD (dr M d)) M
  | .fn1 k a, ρ, M => (ev a ρ M).bind fun x M => (opt (fn1D k (dr M x)) M).bind fun d M => opt (truD (dr M d)) M
  | .isi a t, ρ, M => (ev a ρ M).bind fun x M => opt (isiD x t) M
  | .bl b, _, M => .ok b M
  | .comp tg tt it cond elt own, ρ, M => (evI it ρ M).bind fun ds M =>
      (compL (fun d M => match bindT tg tt (wipeR ρ own) d with
        | some ρ1 => match evC cond ρ1 M with
          | .ok true M1 => (ev elt ρ1 M1).bind fun x M2 => .ok (some x) M2
          | .ok false M1 => .ok none M1
          | _ => .fail
        | none => .fail) ds M).bind fun r M => .ok (!r.isEmpty) M
  | _, _, _ => .fail
def evAndT : E → Rho → Store → Res Bool
  | .nil, _, M => .ok true M
  | .cons e r, ρ, M => (evT e ρ M).bind fun b M => match b with
    | true => evAndT r ρ M
    | false => .ok false M
  | _, _, _ => .fail
def evOrT : E → Rho → Store → Res Bool
  | .nil, _, M => .ok false M
  | .cons e r, ρ, M => (evT e ρ M).bind fun b M => match b with
    | true => .ok true M
    | false => evOrT r ρ M
  | _, _, _ => .fail
/-- what a loop walks -/
def evI : E → Rho → Store → Res (List D)
  | .itSeq a, ρ, M => (ev a ρ M).bind fun x M => opt (itemsD x) M
  | .itRange1 a, ρ, M => (ev a ρ M).bind fun x M => opt (rangeD (.int 0) x) M
  | .itRange a b, ρ, M => (ev a ρ M).bind fun x M => (ev b ρ M).bind fun y M => opt (rangeD x y) M
  | .itEnum a, ρ, M => (ev a ρ M).bind fun x M => (opt (itemsD x) M).bind fun ds M => .ok (enumD ds) M
  | .itZip a b, ρ, M => (ev a ρ M).bind fun x M => (ev b ρ M).bind fun y M => opt (zipO x y) M
  | _, _, _ => .fail
end

/-! ### statements -/
inductive Out where
  | nx (ρ : Rho) (M : Store) | ct (ρ : Rho) (M : Store) | ret (d : D) (M : Store) | exc (c : Nat) (ρ : Rho) (M : Store) | fail
def Out.seq (o : Out) (k : Rho → Store → Out) : Out := match o with
  | .nx ρ M => k ρ M
  | o => o
def ofR {α : Type} (ρ : Rho) (r : Res α) (k : α → Store → Out) : Out := match r with
  | .ok a M => k a M
  | .exc c M => .exc c ρ M
  | .fail => .fail
def oRho (o : Option Rho) (M : Store) : Out := match o with
  | some ρ => .nx ρ M
  | none => .fail
/-- a loop's next turn behind this end -/
def Out.again (o : Out) (k : Rho → Store → Out) : Out := match o with
  | .nx ρ M => k ρ M
  | .ct ρ M => k ρ M
  | o => o
def forL (b : D → Rho → Store → Out) : List D → Rho → Store → Out
  | [], ρ, M => .nx ρ M
  | d :: ds, ρ, M => (b d ρ M).again (forL b ds)
def whileL (c : Rho → Store → Res Bool) (b : Rho → Store → Out) : Nat → Rho → Store → Out
  | 0, _, _ => .fail
  | n + 1, ρ, M => ofR ρ (c ρ M) fun t M => match t with
    | true => (b ρ M).again (whileL c b n)
    | false => .nx ρ M
def WF : Nat := 1000000
def setO (ρ : Rho) (i : Nat) (d : D) : Option Rho := if i < ρ.length then some (ρ.set i (.ow d)) else none
def setParS : Rho → List Nat → List D → Option Rho := setSs

def ex : S → Rho → Store → Out
  | .skip, ρ, M => .nx ρ M
  | .seq a b, ρ, M => (ex a ρ M).seq (ex b)
  | .asg tg tt e, ρ, M => ofR ρ (ev C e ρ M) fun d M => oRho (bindT tg tt ρ d) M
  | .par tg l, ρ, M => ofR ρ (evs C l ρ M) fun ds M => oRho (setSs ρ tg ds) M
  | .own i e, ρ, M => ofR ρ (ev C e ρ M) fun d M => oRho (setO ρ i d) M
  | .hnew i e, ρ, M => ofR ρ (ev C e ρ M) fun d M => oRho (setS ρ i (.hnd M.length)) (M ++ [d])
  | .seti i k e, ρ, M => ofR ρ (ev C e ρ M) fun d M => match ρ[i]? with
    | some (.ow (.dic kvs)) => ofR ρ (ev C k ρ M) fun y M => match keyOf y with
      | some k => if kvs.length < LIM then .nx (ρ.set i (.ow (.dic (setK kvs k d)))) M else .fail
      | none => .fail
    | some (.ow (.lst ds)) => ofR ρ (ev C k ρ M) fun y M => match y with
      | .int j => match ixN ds.length j with
        | some j => .nx (ρ.set i (.ow (.lst (ds.set j d)))) M
        | none => .fail
      | _ => .fail
    | _ => .fail
  | .app i e, ρ, M => match ρ[i]? with
    | some (.ow (.lst ds)) => ofR ρ (ev C e ρ M) fun d M => if ds.length < LIM then .nx (ρ.set i (.ow (.lst (ds ++ [d])))) M else .fail
    | _ => .fail
  | .popd i k, ρ, M => match ρ[i]? with
    | some (.ow (.dic kvs)) => ofR ρ (ev C k ρ M) fun y M => match keyOf y with
      | some k => .nx (ρ.set i (.ow (.dic (delK kvs k)))) M
      | none => .fail
    | _ => .fail
  | .happ h e, ρ, M => ofR ρ (ev C h ρ M) fun x M => match dr M x with
    | .lst _ => ofR ρ (ev C e ρ M) fun d M => match x with
      | .hnd n => match M[n]? with
        | some (.lst ds) => if ds.length < LIM then .nx ρ (M.set n (.lst (ds ++ [d]))) else .fail
        | _ => .fail
      | _ => .fail
    | _ => .fail
  | .expr e, ρ, M => ofR ρ (ev C e ρ M) fun _ M => .nx ρ M
  | .ite c a b, ρ, M => ofR ρ (evT C c ρ M) fun t M => match t with
    | true => ex a ρ M
    | false => ex b ρ M
  | .for tg tt it body, ρ, M => ofR ρ (evI C it ρ M) fun ds M => forL (fun d ρ M => match bindT tg tt ρ d with
      | some ρ => ex body ρ M
      | none => .fail) ds ρ M
  | .while c body, ρ, M => whileL (evT C c) (ex body) WF ρ M
  | .ret e, ρ, M => ofR ρ (ev C e ρ M) fun d M => .ret d M
  | .retF e, ρ, M => ofR ρ (ev C e ρ M) fun d M => .ret d M
  | .raise c, ρ, M => .exc c ρ M
  | .tryx body c suite, ρ, M => match ex body ρ M with
    | .exc c' ρ M => if c = c' then ex suite ρ M else .exc c' ρ M
    | o => o
  | .cont, ρ, M => .ct ρ M
  | .frzB i b, ρ, M => match ρ[i]? with
    | some (.ow d) => ex b (ρ.set i (.sh d)) M
    | _ => .fail
  | _, _, _ => .fail
end

/-! ### functions -/
structure Fn where
  name : Str
  np : Nat
  N : List Str
  own : Bool
  body : S
def outR (own : Bool) : Out → Res D
  | .ret d M => .ok d M
  | .nx _ M => if own then .fail else .ok .non M
  | .exc c _ M => .exc c M
  | _ => .fail
def entry (fn : Fn) (ds : List D) : Rho := ds.map .sh ++ List.replicate (fn.N.length - ds.length) .no
def run (P : List Fn) : Nat → Nat → List D → Store → Res D
  | 0, _, _, _ => .fail
  | k + 1, f, ds, M => match P[f]? with
    | some fn => if ds.length = fn.np then outR fn.own (ex (run P k) fn.body (entry fn ds) M) else .fail
    | none => .fail
end Pv

set_option Elab.async false
set_option linter.all false
set_option maxRecDepth 100000
set_option maxHeartbeats 4000000
namespace Pv
open PySem L2

theorem LIM_eq : LIM = sizeLine := rfl

/-! ### how values stand in the heap -/
structure Wd where
  F : Addr → Prop
  A : List Addr
  H : Hp
  K : PySem.W.Frag

/-- a list of the written part -/
def KLst (K : PySem.W.Frag) (a : Addr) (xs : List V) : Prop :=
  ∃ (o : Obj) (its : Array Value) (n : Nat), K.lookup a = some o ∧ o.cls = .type "list" ∧ o.dict = none ∧ o.data = .seq its n ∧ its.size ≤ sizeLine ∧ Vals xs its.toList

mutual
inductive Rep (w : Wd) : V → D → Prop where
  | non : Rep w .non .non
  | bl (b : Bool) : Rep w (.bl b) (.bl b)
  | int (i : Int) : Rep w (.int i) (.int i)
  | str (x : Str) (h : x.length ≤ LIM) : Rep w (.str x) (.str x)
  | tup {p : Addr} {vs : List V} {ds : List D} : w.F p → w.H p = some (.tup vs) → Reps w vs ds → Rep w (.ref p) (.tup ds)
  | lst {p : Addr} {vs : List V} {ds : List D} : w.F p → w.H p = some (.lst vs) → Reps w vs ds → Rep w (.ref p) (.lst ds)
  | scr {p : Addr} {o : Obj} {vs : List V} {ds : List D} : w.F p → w.H p = some (.frz o (.lst vs)) → Reps w vs ds → Rep w (.ref p) (.scr ds)
  | scrK {p : Addr} {vs : List V} {ds : List D} : KLst w.K p vs → Reps w vs ds → Rep w (.ref p) (.scr ds)
  | dic {p : Addr} {kvs : List (Key × V)} {ks : List (Key × D)} : w.F p → w.H p = some (.dK kvs) → kvs.map (·.1) = ks.map (·.1) → Reps w (kvs.map (·.2)) (ks.map (·.2)) → Rep w (.ref p) (.dic ks)
  | hnd {p : Addr} {h : Nat} : w.A[h]? = some p → Rep w (.ref p) (.hnd h)
inductive Reps (w : Wd) : List V → List D → Prop where
  | nil : Reps w [] []
  | cons {v : V} {d : D} {vs : List V} {ds : List D} : Rep w v d → Reps w vs ds → Reps w (v :: vs) (d :: ds)
end

/-- an object of one's own: a list or a dict -/
def Own (w : Wd) (p : Addr) : D → Prop
  | .lst ds => ∃ vs, w.H p = some (.lst vs) ∧ Reps w vs ds
  | .dic ks => ∃ kvs : List (Key × V), w.H p = some (.dK kvs) ∧ kvs.map (·.1) = ks.map (·.1) ∧ Reps w (kvs.map (·.2)) (ks.map (·.2))
  | _ => False

/-- what holds of frozen things stays -/
structure Wle (w w' : Wd) : Prop where
  F : ∀ (a : Addr), w.F a → w'.F a ∧ w'.H a = w.H a
  A : ∀ (h : Nat) (a : Addr), w.A[h]? = some a → w'.A[h]? = some a
  K : w'.K = w.K
theorem Wle.refl (w : Wd) : Wle w w := ⟨fun _ h => ⟨h, rfl⟩, fun _ _ h => h, rfl⟩
theorem Wle.trans {a b c : Wd} (h : Wle a b) (k : Wle b c) : Wle a c :=
  ⟨fun x hx => ⟨(k.F x (h.F x hx).1).1, ((k.F x (h.F x hx).1).2).trans (h.F x hx).2⟩, fun i x e => k.A i x (h.A i x e), k.K.trans h.K⟩

mutual
theorem Rep.mono {w w' : Wd} (l : Wle w w') : ∀ {v : V} {d : D}, Rep w v d → Rep w' v d
  | _, _, .non => .non
  | _, _, .bl b => .bl b
  | _, _, .int i => .int i
  | _, _, .str x h => .str x h
  | _, _, .tup f h r => .tup (l.F _ f).1 ((l.F _ f).2.trans h) (Reps.mono l r)
  | _, _, .lst f h r => .lst (l.F _ f).1 ((l.F _ f).2.trans h) (Reps.mono l r)
  | _, _, .scr f h r => .scr (l.F _ f).1 ((l.F _ f).2.trans h) (Reps.mono l r)
  | _, _, .scrK h r => .scrK (by rw [l.K]; exact h) (Reps.mono l r)
  | _, _, .dic f h e r => .dic (l.F _ f).1 ((l.F _ f).2.trans h) e (Reps.mono l r)
  | _, _, .hnd h => .hnd (l.A _ _ h)
theorem Reps.mono {w w' : Wd} (l : Wle w w') : ∀ {vs : List V} {ds : List D}, Reps w vs ds → Reps w' vs ds
  | _, _, .nil => .nil
  | _, _, .cons r t => .cons (Rep.mono l r) (Reps.mono l t)
end
theorem Own.mono {w w' : Wd} (l : Wle w w') {p : Addr} (e : w'.H p = w.H p) : ∀ {d : D}, Own w p d → Own w' p d
  | .lst ds, ⟨vs, h, r⟩ => ⟨vs, e.trans h, r.mono l⟩
  | .dic ks, ⟨kvs, h, k, r⟩ => ⟨kvs, e.trans h, k, r.mono l⟩
theorem Own.some {w : Wd} {p : Addr} : ∀ {d : D}, Own w p d → ∃ o, w.H p = some o
  | .lst ds, ⟨vs, h, r⟩ => ⟨_, h⟩
  | .dic ks, ⟨kvs, h, k, r⟩ => ⟨_, h⟩
theorem Own.mut {w : Wd} {p : Addr} : ∀ {d : D}, Own w p d → Mut (w.H p)
  | .lst ds, ⟨vs, h, r⟩ => by rw [h]; trivial
  | .dic ks, ⟨kvs, h, k, r⟩ => by rw [h]; trivial
/-- frozen -/
theorem Own.rep {w : Wd} {p : Addr} (f : w.F p) : ∀ {d : D}, Own w p d → Rep w (.ref p) d
  | .lst ds, ⟨vs, h, r⟩ => .lst f h r
  | .dic ks, ⟨kvs, h, k, r⟩ => .dic f h k r

theorem Reps.length {w : Wd} : ∀ {vs : List V} {ds : List D}, Reps w vs ds → vs.length = ds.length
  | _, _, .nil => rfl
  | _, _, .cons r t => by simp [Reps.length t]
theorem Reps.get {w : Wd} : ∀ {vs : List V} {ds : List D} {i : Nat} {d : D}, Reps w vs ds → ds[i]? = some d → ∃ v, vs[i]? = some v ∧ Rep w v d
  | _, _, _, _, .nil, e => by simp at e
  | _, _, 0, _, .cons r _, e => by simp at e; subst e; exact ⟨_, rfl, r⟩
  | _, _, i + 1, _, .cons _ t, e => by
    obtain ⟨v, h1, h2⟩ := Reps.get (i := i) t (by simpa using e)
    exact ⟨v, by simpa using h1, h2⟩
theorem Reps.get' {w : Wd} : ∀ {vs : List V} {ds : List D} {i : Nat} {v : V}, Reps w vs ds → vs[i]? = some v → ∃ d, ds[i]? = some d ∧ Rep w v d
  | _, _, _, _, .nil, e => by simp at e
  | _, _, 0, _, .cons r _, e => by simp at e; subst e; exact ⟨_, rfl, r⟩
  | _, _, i + 1, _, .cons _ t, e => by
    obtain ⟨v, h1, h2⟩ := Reps.get' (i := i) t (by simpa using e)
    exact ⟨v, by simpa using h1, h2⟩
theorem Reps.append {w : Wd} : ∀ {vs us : List V} {ds es : List D}, Reps w vs ds → Reps w us es → Reps w (vs ++ us) (ds ++ es)
  | _, _, _, _, .nil, s => s
  | _, _, _, _, .cons r t, s => .cons r (t.append s)
theorem Reps.take {w : Wd} : ∀ {vs : List V} {ds : List D} (n : Nat), Reps w vs ds → Reps w (vs.take n) (ds.take n)
  | _, _, 0, _ => by simpa using Reps.nil
  | _, _, _ + 1, .nil => by simpa using Reps.nil
  | _, _, n + 1, .cons r t => by simpa using Reps.cons r (t.take n)
theorem Reps.drop {w : Wd} : ∀ {vs : List V} {ds : List D} (n : Nat), Reps w vs ds → Reps w (vs.drop n) (ds.drop n)
  | _, _, 0, h => h
  | _, _, _ + 1, .nil => by simpa using Reps.nil
  | _, _, n + 1, .cons r t => by simpa using t.drop n
theorem Reps.reverse {w : Wd} : ∀ {vs : List V} {ds : List D}, Reps w vs ds → Reps w vs.reverse ds.reverse
  | _, _, .nil => .nil
  | _, _, .cons r t => by
    rw [List.reverse_cons, List.reverse_cons]
    exact t.reverse.append (.cons r .nil)
theorem Reps.set {w : Wd} {v : V} {d : D} (r : Rep w v d) : ∀ {vs : List V} {ds : List D} (i : Nat), Reps w vs ds → Reps w (vs.set i v) (ds.set i d)
  | _, _, _, .nil => .nil
  | _, _, 0, .cons _ t => .cons r t
  | _, _, i + 1, .cons q t => .cons q (Reps.set r i t)
theorem Reps.ints {w : Wd} : ∀ {vs : List V} {ds : List D} {ns : List Int}, Reps w vs ds → intsOf ds = some ns → vs = ns.map .int
  | _, _, ns, .nil, e => by
    cases e; rfl
  | _, _, ns, .cons (d := d) r t, e => by
    cases r <;> simp only [intsOf, Option.map_eq_some_iff, reduceCtorEq] at e
    obtain ⟨l, e1, rfl⟩ := e
    rw [Reps.ints t e1]
    rfl
theorem Reps.bools {w : Wd} : ∀ {vs : List V} {ds : List D} {ns : List Bool}, Reps w vs ds → boolsOf ds = some ns → vs = ns.map .bl
  | _, _, ns, .nil, e => by
    cases e; rfl
  | _, _, ns, .cons (d := d) r t, e => by
    cases r <;> simp only [boolsOf, Option.map_eq_some_iff, reduceCtorEq] at e
    obtain ⟨l, e1, rfl⟩ := e
    rw [Reps.bools t e1]
    rfl
theorem Reps.strs {w : Wd} : ∀ {vs : List V} {ds : List D} {ns : List Str}, Reps w vs ds → strsOf ds = some ns → vs = ns.map .str
  | _, _, ns, .nil, e => by
    cases e; rfl
  | _, _, ns, .cons (d := d) r t, e => by
    cases r <;> simp only [strsOf, Option.map_eq_some_iff, reduceCtorEq] at e
    obtain ⟨l, e1, rfl⟩ := e
    rw [Reps.strs t e1]
    rfl
theorem Reps.of_ints {w : Wd} : ∀ ns : List Int, Reps w (ns.map V.int) (ns.map D.int)
  | [] => .nil
  | i :: r => .cons (.int i) (Reps.of_ints r)

/-! ### worlds -/
structure Wf (w : Wd) : Prop where
  f : ∀ (a : Addr), w.F a → a ∉ w.A ∧ ∃ o, w.H a = some o
  nd : w.A.Nodup
  a : ∀ x ∈ w.A, ∃ o, w.H x = some o
/-- behind a piece of code -/
structure Ext (w w' : Wd) : Prop where
  F : ∀ a, w.F a → w'.F a
  A : ∃ l, w'.A = w.A ++ l
  H : ∀ a o, w.H a = some o → a ∉ w.A → w'.H a = some o
  nF : ∀ a, w'.F a → w.F a ∨ w.H a = none
  nA : ∀ a ∈ w'.A, a ∈ w.A ∨ w.H a = none
  kp : ∀ a, w.H a ≠ none → w'.H a ≠ none
  K : w'.K = w.K
theorem Ext.refl (w : Wd) : Ext w w := ⟨fun _ h => h, ⟨[], by simp⟩, fun _ _ h _ => h, fun _ h => .inl h, fun _ h => .inl h, fun _ h => h, rfl⟩
theorem Ext.none {w w' : Wd} (e : Ext w w') {a : Addr} (h : w'.H a = none) : w.H a = none := by
  cases q : w.H a with
  | none => rfl
  | some o => exact absurd h (e.kp a (by rw [q]; exact fun z => nomatch z))
theorem Ext.trans {a b c : Wd} (h : Ext a b) (k : Ext b c) : Ext a c where
  F := fun x hx => k.F x (h.F x hx)
  A := by
    obtain ⟨l, e⟩ := h.A
    obtain ⟨m, f⟩ := k.A
    exact ⟨l ++ m, by rw [f, e, List.append_assoc]⟩
  H := fun x o e n => by
    refine k.H x o (h.H x o e n) fun z => ?_
    rcases h.nA x z with z | z
    · exact n z
    · rw [z] at e; cases e
  nF := fun x hx => (k.nF x hx).elim (fun z => h.nF x z) fun z => .inr (h.none z)
  nA := fun x hx => (k.nA x hx).elim (fun z => h.nA x z) fun z => .inr (h.none z)
  kp := fun x hx => k.kp x (h.kp x hx)
  K := k.K.trans h.K
theorem Ext.wle {w w' : Wd} (e : Ext w w') (f : Wf w) : Wle w w' where
  F := fun a ha => by
    obtain ⟨n, o, ho⟩ := f.f a ha
    exact ⟨e.F a ha, (e.H a o ho n).trans ho.symm⟩
  A := fun h a q => by
    obtain ⟨l, z⟩ := e.A
    rw [z, List.getElem?_append_left (List.getElem?_eq_some_iff.mp q).1]
    exact q
  K := e.K

/-- the handles' objects -/
structure Sto (w : Wd) (M : Store) : Prop where
  len : w.A.length = M.length
  at_ : ∀ (h : Nat) (a : Addr) (d : D), w.A[h]? = some a → M[h]? = some d → Own w a d

/-! ### states -/
structure Sr (w0 : Wd) (ρ : Rho) (M : Store) (w : Wd) (σ : St) : Prop where
  wf : Wf w
  e0 : Ext w0 w
  sto : Sto w M
  len : ρ.length = σ.length
  sh : ∀ (i : Nat) (d : D), ρ[i]? = some (.sh d) → ∃ v, σ[i]? = some (some v) ∧ Rep w v d
  ow : ∀ (i : Nat) (d : D), ρ[i]? = some (.ow d) → ∃ p, σ[i]? = some (some (.ref p)) ∧ Own w p d ∧ ¬ w.F p ∧ p ∉ w.A ∧ w0.H p = none
  dj : ∀ (i j : Nat) (d e : D) (p : Addr), ρ[i]? = some (.ow d) → ρ[j]? = some (.ow e) → σ[i]? = some (some (.ref p)) → σ[j]? = some (some (.ref p)) → i = j

theorem Sr.ext {w0 w w' : Wd} {ρ : Rho} {M M' : Store} {σ : St} (s : Sr w0 ρ M w σ) (e : Ext w w') (f : Wf w') (t : Sto w' M') : Sr w0 ρ M' w' σ where
  wf := f
  e0 := s.e0.trans e
  sto := t
  len := s.len
  sh := fun i d h => by
    obtain ⟨v, a, b⟩ := s.sh i d h
    exact ⟨v, a, b.mono (e.wle s.wf)⟩
  ow := fun i d h => by
    obtain ⟨p, a, b, c, n, z⟩ := s.ow i d h
    obtain ⟨o, ho⟩ := b.some
    refine ⟨p, a, b.mono (e.wle s.wf) ((e.H p o ho n).trans ho.symm), fun q => ?_, fun q => ?_, z⟩
    · rcases e.nF p q with q | q
      · exact c q
      · rw [q] at ho; cases ho
    · rcases e.nA p q with q | q
      · exact n q
      · rw [q] at ho; cases ho
  dj := s.dj

/-- a new frozen object -/
def Wd.frozen (w : Wd) (p : Addr) (o : HO) : Wd := ⟨fun a => w.F a ∨ a = p, w.A, upd w.H p o, w.K⟩
/-- a new object of one's own -/
def Wd.owned (w : Wd) (p : Addr) (o : HO) : Wd := ⟨w.F, w.A, upd w.H p o, w.K⟩
section
variable {w : Wd} {p : Addr} {o : HO} {M : Store}
theorem upd_keep {H : Hp} {p a : Addr} {o u : HO} (n : H p = none) (h : H a = some u) : upd H p o a = some u := by
  rw [upd_ne (ne_of_none h n)]; exact h
theorem frozen_ext (f : Wf w) (n : w.H p = none) : Ext w (w.frozen p o) where
  F := fun a h => .inl h
  A := ⟨[], by simp [Wd.frozen]⟩
  H := fun a u h _ => upd_keep n h
  nF := fun a h => h.elim .inl fun z => .inr (z ▸ n)
  nA := fun a h => .inl h
  kp := fun a h => by
    obtain ⟨u, e⟩ := Option.ne_none_iff_exists'.mp h
    show upd w.H p o a ≠ none
    rw [upd_keep n e]; exact fun z => nomatch z
  K := rfl
theorem owned_ext (f : Wf w) (n : w.H p = none) : Ext w (w.owned p o) where
  F := fun a h => h
  A := ⟨[], by simp [Wd.owned]⟩
  H := fun a u h _ => upd_keep n h
  nF := fun a h => .inl h
  nA := fun a h => .inl h
  kp := fun a h => by
    obtain ⟨u, e⟩ := Option.ne_none_iff_exists'.mp h
    show upd w.H p o a ≠ none
    rw [upd_keep n e]; exact fun z => nomatch z
  K := rfl
theorem Wf.notA (f : Wf w) (n : w.H p = none) : p ∉ w.A := fun z => by
  obtain ⟨u, e⟩ := f.a p z
  rw [n] at e; cases e
theorem Wf.notF (f : Wf w) (n : w.H p = none) : ¬ w.F p := fun z => by
  obtain ⟨_, u, e⟩ := f.f p z
  rw [n] at e; cases e
theorem frozen_wf (f : Wf w) (n : w.H p = none) : Wf (w.frozen p o) where
  f := fun a h => by
    rcases h with h | h
    · obtain ⟨x, u, e⟩ := f.f a h
      exact ⟨x, u, upd_keep n e⟩
    · subst h
      exact ⟨f.notA n, o, upd_same⟩
  nd := f.nd
  a := fun x hx => by
    obtain ⟨u, e⟩ := f.a x hx
    exact ⟨u, upd_keep n e⟩
theorem owned_wf (f : Wf w) (n : w.H p = none) : Wf (w.owned p o) where
  f := fun a h => by
    obtain ⟨x, u, e⟩ := f.f a h
    exact ⟨x, u, upd_keep n e⟩
  nd := f.nd
  a := fun x hx => by
    obtain ⟨u, e⟩ := f.a x hx
    exact ⟨u, upd_keep n e⟩
theorem Sto.ext {w' : Wd} (s : Sto w M) (f : Wf w) (e : Ext w w') (hA : w'.A = w.A) (k : ∀ a ∈ w.A, w'.H a = w.H a) : Sto w' M where
  len := by rw [hA]; exact s.len
  at_ := fun h a d h1 h2 => by
    rw [hA] at h1
    exact (s.at_ h a d h1 h2).mono (e.wle f) (k a (List.mem_of_getElem? h1))
theorem frozen_sto (s : Sto w M) (f : Wf w) (n : w.H p = none) : Sto (w.frozen p o) M := s.ext f (frozen_ext f n) rfl fun a h => by
  obtain ⟨u, e⟩ := f.a a h
  exact (upd_keep n e).trans e.symm
theorem owned_sto (s : Sto w M) (f : Wf w) (n : w.H p = none) : Sto (w.owned p o) M := s.ext f (owned_ext f n) rfl fun a h => by
  obtain ⟨u, e⟩ := f.a a h
  exact (upd_keep n e).trans e.symm
/-- freezing what stands -/
def Wd.freeze (w : Wd) (p : Addr) : Wd := ⟨fun a => w.F a ∨ a = p, w.A, w.H, w.K⟩
theorem freeze_wle : Wle w (w.freeze p) := ⟨fun _ h => ⟨.inl h, rfl⟩, fun _ _ h => h, rfl⟩
theorem freeze_wf (f : Wf w) (h : w.H p = some o) (n : p ∉ w.A) : Wf (w.freeze p) where
  f := fun a h' => by
    rcases h' with h' | h'
    · exact f.f a h'
    · subst h'; exact ⟨n, o, h⟩
  nd := f.nd
  a := f.a
theorem freeze_sto (s : Sto w M) : Sto (w.freeze p) M := ⟨s.len, fun h a d h1 h2 => (s.at_ h a d h1 h2).mono freeze_wle rfl⟩
end

/-! ### readings -/
/-- what a context wants: the world at the entry, the wish about exceptions, the classes -/
structure Gx where
  w0 : Wd
  W : WX
  cls : Nat → Value

/-- behind an expression: rel by the worlds ahead and behind -/
def Aft {α β : Type} (g : Gx) (rel : Wd → Wd → β → α → Prop) (w : Wd) (ρ : Rho) (σ : St) (Q : β → Hp → Prop) : Res α → Prop
  | .ok d M' => ∀ v w', Ext w w' → Sr g.w0 ρ M' w' σ → rel w w' v d → Q v w'.H
  | .exc c M' => ∀ w', Ext w w' → Sr g.w0 ρ M' w' σ → g.W (g.cls c) none σ w'.H
  | .fail => False
theorem Aft.later {α β : Type} {g : Gx} {rel : Wd → Wd → β → α → Prop} {w w1 : Wd} {ρ : Rho} {σ : St} {Q : β → Hp → Prop} {r : Res α} (h : Aft g rel w ρ σ Q r) (e : Ext w w1)
    (anti : ∀ w' v d, rel w1 w' v d → rel w w' v d) : Aft g rel w1 ρ σ Q r := by
  cases r with
  | ok d M' => exact fun v w' e' s r => h v w' (e.trans e') s (anti _ _ _ r)
  | exc c M' => exact fun w' e' s => h w' (e.trans e') s
  | fail => exact h
/-- one piece behind another -/
theorem Aft.bind {α β γ δ : Type} {g : Gx} {rel : Wd → Wd → β → α → Prop} {rel' : Wd → Wd → δ → γ → Prop} {w : Wd} {ρ : Rho} {σ : St} {Q : δ → Hp → Prop} {r : Res α} {k : α → Store → Res γ}
    (h : Aft g rel' w ρ σ Q (r.bind k)) (anti : ∀ w1, Ext w w1 → ∀ w' v d, rel' w1 w' v d → rel' w w' v d) :
    Aft g rel w ρ σ (fun v H1 => ∃ d M1 w1, w1.H = H1 ∧ Ext w w1 ∧ Sr g.w0 ρ M1 w1 σ ∧ rel w w1 v d ∧ Aft g rel' w1 ρ σ Q (k d M1)) r := by
  cases r with
  | ok d M' => exact fun v w' e' s r => ⟨d, M', w', rfl, e', s, r, Aft.later h e' (anti w' e')⟩
  | exc c M' => exact fun w' e' s => h w' e' s
  | fail => exact h
theorem Aft.opt {α β : Type} {g : Gx} {rel : Wd → Wd → β → α → Prop} {w : Wd} {ρ : Rho} {σ : St} {Q : β → Hp → Prop} {o : Option α} {M : Store} (h : Aft g rel w ρ σ Q (opt o M)) :
    ∃ a, o = some a ∧ Aft g rel w ρ σ Q (.ok a M) := by
  cases o with
  | none => exact h.elim
  | some a => exact ⟨a, rfl, h⟩

/-- kinds of results -/
inductive RK where | rep | frs | bor
def rl (g : Gx) (ρ : Rho) (σ : St) : RK → Wd → Wd → V → D → Prop
  | .rep, _, w', v, d => Rep w' v d
  | .frs, w, w', v, d => ∃ p, v = .ref p ∧ Own w' p d ∧ ¬ w'.F p ∧ p ∉ w'.A ∧ w.H p = none
  | .bor, _, w', v, d => ∃ i : Nat, ρ[i]? = some (.ow d) ∧ σ[i]? = some (some v)
theorem rl_anti {g : Gx} {ρ : Rho} {σ : St} : ∀ {k : RK} {w w1 : Wd}, Ext w w1 → ∀ w' v d, rl g ρ σ k w1 w' v d → rl g ρ σ k w w' v d
  | .rep, _, _, _, _, _, _, h => h
  | .frs, _, _, e, _, _, _, ⟨p, a, b, c, d, n⟩ => ⟨p, a, b, c, d, e.none n⟩
  | .bor, _, _, _, _, _, _, h => h
/-- an expression's reading by its interpreter -/
def GE (g : Gx) (k : RK) (f : Rho → Store → Res D) : TE := fun σ H Q => ∃ ρ M w, w.H = H ∧ Sr g.w0 ρ M w σ ∧ Aft g (rl g ρ σ k) w ρ σ Q (f ρ M)
def GT (g : Gx) (f : Rho → Store → Res Bool) : TT := fun σ H Q => ∃ ρ M w, w.H = H ∧ Sr g.w0 ρ M w σ ∧ Aft g (fun _ _ b d => b = d) w ρ σ Q (f ρ M)
def GA (g : Gx) (f : Rho → Store → Res (List D)) : TA := fun σ H Q => ∃ ρ M w, w.H = H ∧ Sr g.w0 ρ M w σ ∧ Aft g (fun _ w' vs ds => Reps w' vs ds) w ρ σ Q (f ρ M)

/-- a value's content, read -/
def Con (w : Wd) : V → D → Prop
  | v, .lst ds => ∃ p vs, v = .ref p ∧ w.H p = some (.lst vs) ∧ Reps w vs ds
  | v, .tup ds => ∃ p vs, v = .ref p ∧ w.H p = some (.tup vs) ∧ Reps w vs ds
  | v, .scr ds => ∃ p vs, v = .ref p ∧ SqL w.K w.H p vs ∧ Reps w vs ds
  | v, .dic ks => ∃ (p : Addr) (kvs : List (Key × V)), v = .ref p ∧ w.H p = some (.dK kvs) ∧ kvs.map (·.1) = ks.map (·.1) ∧ Reps w (kvs.map (·.2)) (ks.map (·.2))
  | v, .non => v = .non
  | v, .bl b => v = .bl b
  | v, .int i => v = .int i
  | v, .str x => v = .str x ∧ x.length ≤ LIM
  | _, .hnd _ => False
theorem Rep.con {w : Wd} {v : V} {d : D} (r : Rep w v d) (h : ∀ n, d ≠ .hnd n) : Con w v d := by
  cases r with
  | non => rfl
  | bl b => rfl
  | int i => rfl
  | str x h' => exact ⟨rfl, h'⟩
  | tup f h' r => exact ⟨_, _, rfl, h', r⟩
  | lst f h' r => exact ⟨_, _, rfl, h', r⟩
  | scr f h' r => exact ⟨_, _, rfl, .inl (.inr ⟨_, h'⟩), r⟩
  | scrK h' r => exact ⟨_, _, rfl, .inr h', r⟩
  | dic f h' e r => exact ⟨_, _, rfl, h', e, r⟩
  | hnd e => exact absurd rfl (h _)
theorem Own.con {w : Wd} {p : Addr} : ∀ {d : D}, Own w p d → Con w (.ref p) d
  | .lst ds, ⟨vs, h, r⟩ => ⟨p, vs, rfl, h, r⟩
  | .dic ks, ⟨kvs, h, k, r⟩ => ⟨p, kvs, rfl, h, k, r⟩
theorem Own.notH {w : Wd} {p : Addr} : ∀ {d : D}, Own w p d → ∀ M, dr M d = d
  | .lst ds, _, _ => rfl
  | .dic ks, _, _ => rfl
/-- what a result's content is, handles followed -/
theorem con_of {g : Gx} {ρ : Rho} {σ : St} {M : Store} {k : RK} {w w' : Wd} {v : V} {d : D} (s : Sr g.w0 ρ M w' σ) (r : rl g ρ σ k w w' v d) : Con w' v (dr M d) ∨ ∃ h, d = .hnd h ∧ M[h]? = none := by
  cases k with
  | rep =>
    have r : Rep w' v d := r
    cases d with
    | hnd h =>
      cases r with
      | hnd e =>
        cases q : M[h]? with
        | none => exact .inr ⟨h, rfl, q⟩
        | some x =>
          refine .inl ?_
          have := (s.sto.at_ h _ x e q).con
          show Con w' _ (match M[h]? with | some d => d | none => .non)
          rw [q]
          exact this
    | _ => exact .inl (r.con fun _ z => nomatch z)
  | frs =>
    obtain ⟨p, rfl, o, _⟩ := r
    refine .inl ?_
    rw [o.notH M]
    exact o.con
  | bor =>
    obtain ⟨i, h1, h2⟩ := r
    obtain ⟨p, e, o, _⟩ := s.ow i d h1
    rw [h2] at e
    cases e
    refine .inl ?_
    rw [o.notH M]
    exact o.con
theorem Sr.con {g : Gx} {ρ : Rho} {σ : St} {M : Store} {k : RK} {w w' : Wd} {v : V} {d : D} (s : Sr g.w0 ρ M w' σ) (r : rl g ρ σ k w w' v d) : Con w' v (dr M d) := by
  rcases con_of s r with h | ⟨h, rfl, e⟩
  · exact h
  · have r : (∃ p, w'.A[h]? = some p) := by
      cases k with
      | rep => cases r with | hnd e => exact ⟨_, e⟩
      | frs => obtain ⟨p, rfl, o, _⟩ := r; exact o.elim
      | bor =>
        obtain ⟨i, h1, h2⟩ := r
        obtain ⟨p, e, o, _⟩ := s.ow i _ h1
        exact o.elim
    obtain ⟨p, q⟩ := r
    have := (List.getElem?_eq_some_iff.mp q).1
    have := List.getElem?_eq_none_iff.mp e
    have := s.sto.len
    omega
/-- a fresh thing is frozen -/
theorem frs_rep {g : Gx} {ρ : Rho} {σ : St} {M : Store} {w w' : Wd} {v : V} {d : D} (e : Ext w w') (s : Sr g.w0 ρ M w' σ) (sw : Ext g.w0 w) (hs : ∀ (i : Nat) (d : D) (p : Addr), ρ[i]? = some (.ow d) → σ[i]? = some (some (.ref p)) → w.H p ≠ none) (r : rl g ρ σ .frs w w' v d) :
    ∃ w2, w2.H = w'.H ∧ Ext w w2 ∧ Sr g.w0 ρ M w2 σ ∧ Rep w2 v d := by
  obtain ⟨p, rfl, o, nF, nA, n⟩ := r
  obtain ⟨ob, ho⟩ := o.some
  have ext : ∀ u : Wd, Ext u w' → u.H p = none → Ext u (w'.freeze p) := fun u e n => ⟨fun a h => .inl (e.F a h), e.A, e.H, fun a h => h.elim (e.nF a) fun z => .inr (z ▸ n), e.nA, e.kp, e.K⟩
  refine ⟨w'.freeze p, rfl, ext w e n, ⟨freeze_wf s.wf ho nA, ext _ s.e0 (sw.none n), freeze_sto s.sto, s.len, fun i d h => ?_, fun i d h => ?_, s.dj⟩, ?_⟩
  · obtain ⟨v, a, b⟩ := s.sh i d h
    exact ⟨v, a, b.mono freeze_wle⟩
  · obtain ⟨q, a, b, c, x, y⟩ := s.ow i d h
    refine ⟨q, a, b.mono freeze_wle rfl, fun z => ?_, x, y⟩
    rcases z with z | z
    · exact c z
    · subst z
      exact hs i d q h a n
  · exact Own.rep (show (w'.freeze p).F p from Or.inr rfl) (o.mono (w' := w'.freeze p) freeze_wle rfl)
theorem Sr.owH {w0 : Wd} {ρ : Rho} {M : Store} {w : Wd} {σ : St} (s : Sr w0 ρ M w σ) : ∀ (i : Nat) (d : D) (p : Addr), ρ[i]? = some (.ow d) → σ[i]? = some (some (.ref p)) → w.H p ≠ none := fun i d p h1 h2 => by
  obtain ⟨q, a, b, _⟩ := s.ow i d h1
  rw [h2] at a; cases a
  obtain ⟨o, e⟩ := b.some
  rw [e]; exact fun z => nomatch z
/-- a fresh reading is a reading -/
theorem GE.freeze {g : Gx} {f : Rho → Store → Res D} {σ : St} {H : Hp} {Q : VK} (h : GE g .rep f σ H Q) : GE g .frs f σ H Q := by
  obtain ⟨ρ, M, w, e, s, a⟩ := h
  refine ⟨ρ, M, w, e, s, ?_⟩
  generalize f ρ M = r at a ⊢
  cases r with
  | ok d M' =>
    intro v w' e' s' r
    obtain ⟨w2, h1, h2, h3, h4⟩ := frs_rep e' s' s.e0 s.owH r
    rw [← h1]
    exact a v w2 h2 h3 h4
  | exc c M' => exact a
  | fail => exact a
end Pv

set_option Elab.async false
set_option linter.all false
set_option maxRecDepth 100000
set_option maxHeartbeats 4000000
namespace Pv
open PySem L2

theorem PE.imp {X : Cx} {e : Expr} {t t' : TE} (h : PE X e t) (k : ∀ σ H Q, t' σ H Q → t σ H Q) : PE X e t' := ⟨fun pins s σ H Q I q => h.run pins s σ H Q I (k σ H Q q)⟩
theorem PT.imp {X : Cx} {e : Expr} {t t' : TT} (h : PT X e t) (k : ∀ σ H Q, t' σ H Q → t σ H Q) : PT X e t' := ⟨fun pins s σ H Q I q => h.run pins s σ H Q I (k σ H Q q)⟩
theorem PA.imp {X : Cx} {e : List Expr} {t t' : TA} (h : PA X e t) (k : ∀ σ H Q, t' σ H Q → t σ H Q) : PA X e t' := ⟨fun pos pins s σ H Q I q => h.run pos pins s σ H Q I (k σ H Q q)⟩

section
variable {g : Gx}
theorem Aft.mono {α β : Type} {rel : Wd → Wd → β → α → Prop} {w : Wd} {ρ : Rho} {σ : St} {Q Q' : β → Hp → Prop} {r : Res α} (h : Aft g rel w ρ σ Q r) (k : ∀ v H, Q v H → Q' v H) : Aft g rel w ρ σ Q' r := by
  cases r with
  | ok d M' => exact fun v w' e s r => k _ _ (h v w' e s r)
  | exc c M' => exact h
  | fail => exact h
/-- an end where nothing is made -/
theorem Aft.fin {α β : Type} {rel : Wd → Wd → β → α → Prop} {w : Wd} {ρ : Rho} {σ : St} {Q : β → Hp → Prop} {d : α} {M : Store} {v : β} (h : Aft g rel w ρ σ Q (.ok d M)) (s : Sr g.w0 ρ M w σ) (r : rel w w v d) : Q v w.H :=
  h v w (Ext.refl w) s r
section
variable {w : Wd} {ρ : Rho} {σ : St} {Q : VK} {d : D} {M : Store} {p : Addr}
/-- a new frozen thing -/
theorem Aft.new {o : HO} (h : Aft g (rl g ρ σ .rep) w ρ σ Q (.ok d M)) (s : Sr g.w0 ρ M w σ) (n : w.H p = none) (r : Rep (w.frozen p o) (.ref p) d) : Q (.ref p) (upd w.H p o) :=
  h (.ref p) (w.frozen p o) (frozen_ext s.wf n) (s.ext (frozen_ext s.wf n) (frozen_wf s.wf n) (frozen_sto s.sto s.wf n)) r
theorem frozen_wle {o : HO} (f : Wf w) (n : w.H p = none) : Wle w (w.frozen p o) := (frozen_ext f n).wle f
theorem owned_wle {o : HO} (f : Wf w) (n : w.H p = none) : Wle w (w.owned p o) := (owned_ext f n).wle f
/-- a new thing of one's own -/
theorem Aft.newO {o : HO} (h : Aft g (rl g ρ σ .frs) w ρ σ Q (.ok d M)) (s : Sr g.w0 ρ M w σ) (n : w.H p = none) (r : Own (w.owned p o) p d) : Q (.ref p) (upd w.H p o) :=
  h (.ref p) (w.owned p o) (owned_ext s.wf n) (s.ext (owned_ext s.wf n) (owned_wf s.wf n) (owned_sto s.sto s.wf n)) ⟨p, rfl, r, s.wf.notF n, s.wf.notA n, n⟩
end

theorem rl_keep {ρ : Rho} {σ : St} : ∀ {k : RK} {w w1 w2 : Wd} {v : V} {d : D}, k ≠ .frs → Ext w1 w2 → Wf w1 → rl g ρ σ k w w1 v d → rl g ρ σ k w w2 v d
  | .rep, _, _, _, _, _, _, e, f, h => Rep.mono (e.wle f) h
  | .frs, _, _, _, _, _, n, _, _, _ => absurd rfl n
  | .bor, _, _, _, _, _, _, _, _, h => h

/-- one operand -/
theorem GE.one {α β : Type} {rel : Rho → St → Wd → Wd → β → α → Prop} {ka : RK} {fa : Rho → Store → Res D} {F : Rho → D → Store → Res α} {σ : St} {H : Hp} {Q : β → Hp → Prop}
    (anti : ∀ ρ w w1, Ext w w1 → ∀ w' v d, rel ρ σ w1 w' v d → rel ρ σ w w' v d)
    (h : ∃ ρ M w, w.H = H ∧ Sr g.w0 ρ M w σ ∧ Aft g (rel ρ σ) w ρ σ Q ((fa ρ M).bind fun x M => F ρ x M)) :
    GE g ka fa σ H (fun v H1 => ∃ ρ M w w0 x, w.H = H1 ∧ Sr g.w0 ρ M w σ ∧ Ext w0 w ∧ rl g ρ σ ka w0 w v x ∧ Aft g (rel ρ σ) w ρ σ Q (F ρ x M)) := by
  obtain ⟨ρ, M, w, e, s, a⟩ := h
  refine ⟨ρ, M, w, e, s, Aft.mono (Aft.bind a fun w1 ex => anti ρ w w1 ex) ?_⟩
  rintro v H1 ⟨d, M1, w1, e1, ex1, s1, r1, a1⟩
  exact ⟨ρ, M1, w1, w, d, e1, s1, ex1, r1, a1⟩
/-- two operands -/
theorem GE.two {α β : Type} {rel : Rho → St → Wd → Wd → β → α → Prop} {ka kb : RK} {fa fb : Rho → Store → Res D} {F : Rho → D → D → Store → Res α} {σ : St} {H : Hp} {Q : β → Hp → Prop} (hk : ka ≠ .frs)
    (anti : ∀ ρ w w1, Ext w w1 → ∀ w' v d, rel ρ σ w1 w' v d → rel ρ σ w w' v d)
    (h : ∃ ρ M w, w.H = H ∧ Sr g.w0 ρ M w σ ∧ Aft g (rel ρ σ) w ρ σ Q ((fa ρ M).bind fun x M => (fb ρ M).bind fun y M => F ρ x y M)) :
    GE g ka fa σ H (fun v H1 => GE g kb fb σ H1 (fun u H2 => ∃ ρ M w w0 w1 x y, w.H = H2 ∧ Sr g.w0 ρ M w σ ∧ rl g ρ σ ka w0 w v x ∧ rl g ρ σ kb w1 w u y ∧ Aft g (rel ρ σ) w ρ σ Q (F ρ x y M))) := by
  obtain ⟨ρ, M, w, e, s, a⟩ := h
  refine ⟨ρ, M, w, e, s, Aft.mono (Aft.bind a fun w1 ex => anti ρ w w1 ex) ?_⟩
  rintro v H1 ⟨d, M1, w1, e1, ex1, s1, r1, a1⟩
  refine ⟨ρ, M1, w1, e1, s1, Aft.mono (Aft.bind a1 fun w2 ex => anti ρ w1 w2 ex) ?_⟩
  rintro u H2 ⟨d2, M2, w2, e2, ex2, s2, r2, a2⟩
  exact ⟨ρ, M2, w2, w, w1, d, d2, e2, s2, rl_keep hk ex2 s1.wf r1, r2, a2⟩
theorem anti_rl {k : RK} {σ : St} : ∀ (ρ : Rho) (w w1 : Wd), Ext w w1 → ∀ w' v d, rl g ρ σ k w1 w' v d → rl g ρ σ k w w' v d := fun _ _ _ e w' v d h => rl_anti e w' v d h
theorem anti_b : ∀ (ρ : Rho) (w w1 : Wd), Ext w w1 → ∀ (w' : Wd) (v d : Bool), v = d → v = d := fun _ _ _ _ _ _ _ h => h
end

/-! ### the tables of a program, the context -/
structure Tb where
  P : List Fn
  cn : List Str
  gi : List (Str × Int)
  k : Nat
  C : Nat → List D → Store → Res D
  cls : Nat → Value
def bltN : List Str := ["len", "abs", "max", "min", "sum", "all", "any", "int", "str", "tuple", "list", "sorted", "set", "dict", "range", "enumerate", "zip", "isinstance", "bool"]
def resRel (own : Bool) (w w' : Wd) (v : V) (d : D) : Prop := match own with
  | false => Rep w' v d
  | true => ∃ p, v = .ref p ∧ Own w' p d ∧ ¬ w'.F p ∧ p ∉ w'.A ∧ w.H p = none
def AftC (cls : Nat → Value) (own : Bool) (w : Wd) (Q : VK) (E : XK) : Res D → Prop
  | .ok d M' => ∀ v w', Ext w w' → Wf w' → Sto w' M' → resRel own w w' v d → Q v w'.H
  | .exc c M' => ∀ w', Ext w w' → Wf w' → Sto w' M' → E (cls c) none w'.H
  | .fail => False
/-- a def's promise -/
def spF (cls : Nat → Value) (K : PySem.W.Frag) (own : Bool) (np : Nat) (call : List D → Store → Res D) : Sp := fun vs H Q E => vs.length = np ∧ ∃ ds M w, w.H = H ∧ w.K = K ∧ Wf w ∧ Sto w M ∧ Reps w vs ds ∧ AftC cls own w Q E (call ds M)
structure Fok (T : Tb) (P : Program) (w : World) (K : PySem.W.Frag) (mg : Str → Option Value) (base : Heap) (i : Nat) (fn : Fn) (f : Addr) (fd : FuncData) (ps : List Str) : Prop where
  mgf : mg fn.name = some (.ref f)
  kp : PySem.W.keepIn K (.ref f) = true
  bd : Binds K fd ps []
  ok : FnOk P w K mg base (L2.CX P w) T.k f fd ps (spF T.cls K fn.own fn.np (T.C i))
structure Pok (T : Tb) (P : Program) (w : World) (K : PySem.W.Frag) (mg : Str → Option Value) (base : Heap) : Prop where
  blt : ∀ x ∈ bltN, mg x = none
  fn : ∀ i fn, T.P[i]? = some fn → ∃ f fd ps, Fok T P w K mg base i fn f fd ps
  gi : ∀ x i, (x, i) ∈ T.gi → ∃ t, mg x = some (.int i t)
  len : ∀ f fn ds M, T.P[f]? = some fn → ds.length ≠ fn.np → T.C f ds M = .fail
structure Cok (T : Tb) (X : Cx) (g : Gx) (N : List Str) (sc : Scope) : Prop where
  p : Pok T X.prog X.w X.K X.mg X.base
  room : Room T.k X.A
  hN : X.N = N
  nd : N.Nodup
  sc : X.env.scope = sc
  calm : X.calm = true
  tk : Takes X g.W
  gc : g.cls = T.cls
  kk : g.w0.K = X.K

/-! ### the checker -/
def visB (sc : Scope) (x : Str) : Bool := match sc.names.lookup x with
  | some .local => true
  | some .cell => true
  | some .free => true
  | _ => false
def nameB (N : List Str) (sc : Scope) (i : Nat) (x : Str) : Bool := decide (N[i]? = some x) && (visB sc x && (!(x == ("__debug__" : Str)) && !(x == ("__classdict__" : Str))))
def locB (sc : Scope) (x : Str) : Bool := match sc.names.lookup x with
  | some .local => true
  | some .cell => true
  | _ => false
/-- a target's name: local, or a cell of the def's own -/
def tgB (N : List Str) (sc : Scope) (i : Nat) (x : Str) : Bool := decide (N[i]? = some x) && locB sc x
def glB (sc : Scope) (x : Str) : Bool := (match sc.names.lookup x with
  | some .globalImplicit => true
  | _ => false) && !(x == ("__debug__" : Str))
/-- a builtin's name -/
def isB (sc : Scope) (x y : Str) : Bool := decide (x = y) && glB sc x

def opB : BK → Operator → Bool
  | .add, .Add => true
  | .sub, .Sub => true
  | .mul, .Mult => true
  | .fdiv, .FloorDiv => true
  | .mod, .Mod => true
  | _, _ => false
def cpB : CK → CmpOp → Bool
  | .eq, .Eq => true
  | .ne, .NotEq => true
  | .lt, .Lt => true
  | .le, .LtE => true
  | .gt, .Gt => true
  | .ge, .GtE => true
  | .isin, .In => true
  | .notin, .NotIn => true
  | .is, .Is => true
  | .isnot, .IsNot => true
  | _, _ => false
def f1N : F1 → Str
  | .len => "len" | .abs => "abs" | .max => "max" | .min => "min" | .sum => "sum" | .all => "all" | .any => "any" | .int => "int" | .str => "str" | .tuple => "tuple"
def f2N : F2 → Str
  | .max => "max" | .min => "min"
def m1N : M1 → Str
  | .join => "join" | .count => "count" | .get => "get"
def tyN : Ty → Str
  | .int => "int" | .bool => "bool" | .tuple => "tuple" | .str => "str"
def ffN : FF → Str
  | .list => "list" | .sorted => "sorted" | .sset => "sorted" | .dict => "dict"
/-- kinds -/
def kindE : E → RK
  | .lst _ => .frs
  | .comp .. => .frs
  | .ff .. => .frs
  | .dic0 => .frs
  | .fcall .. => .frs
  | .peek _ => .bor
  | .move _ => .bor
  | _ => .rep
def notBor : E → Bool
  | .peek _ => false
  | .move _ => false
  | _ => true
def isPeek : E → Bool
  | .peek _ => true
  | _ => false
def tgsB (N : List Str) (sc : Scope) : List Nat → List Expr → Bool
  | [], [] => true
  | i :: is, .Name x _ :: es => tgB N sc i x && tgsB N sc is es
  | _, _ => false
def targetB (N : List Str) (sc : Scope) (tg : List Nat) (tt : Bool) (e : Expr) : Bool := match tt with
  | false => match tg, e with
    | [i], .Name x _ => tgB N sc i x
    | _, _ => false
  | true => match e with
    | .Tuple es _ _ => tgsB N sc tg es
    | _ => false
def noIf : List Expr → Bool
  | [] => true
  | _ => false

def ordB : CK → Bool
  | .lt => true | .le => true | .gt => true | .ge => true
  | _ => false
def cmpOk (k : CK) (b : E) : Bool := match k with
  | .isin => true | .notin => true
  | _ => notBor b
def isNil : E → Bool
  | .nil => true
  | _ => false
def noCall : Expr → Bool
  | .Call .. => false
  | _ => true
section
variable (P : List Fn) (gi : List (Str × Int)) (N : List Str)
mutual
def okE : Scope → E → Expr → Bool
  | _, .int i, x => match x with
    | .Constant c _ _ => (match c with | .int j => decide (i = j) | _ => false)
    | _ => false
  | _, .str z, x => match x with
    | .Constant c _ _ => (match c with | .str y => decide (z = y) && decide (z.length ≤ LIM) | _ => false)
    | _ => false
  | _, .bl b, x => match x with
    | .Constant c _ _ => (match c with | .bool j => decide (b = j) | _ => false)
    | _ => false
  | _, .non, x => match x with
    | .Constant c _ _ => (match c with | .none => true | _ => false)
    | _ => false
  | sc, .var i, x => match x with
    | .Name x _ => nameB N sc i x
    | _ => false
  | sc, .peek i, x => match x with
    | .Name x _ => nameB N sc i x
    | _ => false
  | sc, .move i, x => match x with
    | .Name x _ => nameB N sc i x
    | _ => false
  | sc, .glob y i, x => match x with
    | .Name x _ => decide (x = y) && (decide ((y, i) ∈ gi) && glB sc x)
    | _ => false
  | sc, .bin k a b, x => match x with
    | .BinOp l op r _ => opB k op && ((notBor a && okE sc a l) && (notBor b && okE sc b r))
    | _ => false
  | sc, .neg a, x => match x with
    | .UnaryOp op y _ => (match op with | .USub => true | _ => false) && (notBor a && okE sc a y)
    | _ => false
  | sc, .cmp k a b, x => match x with
    | .Compare l ops rs _ => (match ops with
      | [op] => (match rs with
        | [r] => cpB k op && ((notBor a && okE sc a l) && (okE sc b r && cmpOk k b))
        | _ => false)
      | _ => false)
    | _ => false
  | sc, .cmp2 k k' a b c, x => match x with
    | .Compare l ops rs _ => (match ops with
      | [op, op'] => (match rs with
        | [r, r'] => cpB k op && (cpB k' op' && ((notBor a && okE sc a l) && ((notBor b && okE sc b r) && ((notBor c && okE sc c r') && (ordB k && ordB k')))))
        | _ => false)
      | _ => false)
    | _ => false
  | sc, .and l, x => match x with
    | .BoolOp op xs _ => (match op with | .And => true | _ => false) && (!xs.isEmpty && okL sc l xs)
    | _ => false
  | sc, .or l, x => match x with
    | .BoolOp op xs _ => (match op with | .Or => true | _ => false) && (!xs.isEmpty && okL sc l xs)
    | _ => false
  | sc, .not a, x => match x with
    | .UnaryOp op y _ => (match op with | .Not => true | _ => false) && okE sc a y
    | _ => false
  | sc, .ite t a b, x => match x with
    | .IfExp c l r _ => okE sc t c && ((notBor a && okE sc a l) && (notBor b && okE sc b r))
    | _ => false
  | sc, .tup l, x => match x with
    | .Tuple xs _ _ => okL sc l xs
    | _ => false
  | sc, .lst l, x => match x with
    | .List xs _ => okL sc l xs
    | _ => false
  | sc, .idx a b, x => match x with
    | .Subscript l r _ => okE sc a l && (notBor b && okE sc b r)
    | _ => false
  | sc, .slice a lo hi, x => match x with
    | .Subscript l r _ => (match r with
      | .Slice u v st _ => (match st with
        | none => (notBor a && okE sc a l) && (okO sc lo u && okO sc hi v)
        | _ => false)
      | _ => false)
    | _ => false
  | sc, .call f l, x => match x with
    | .Call y xs kw _ => (match y with
      | .Name x _ => (match kw with
        | [] => (match P[f]? with
          | some fn => decide (fn.name = x) && !fn.own
          | none => false) && (glB sc x && (!xs.isEmpty && okL sc l xs))
        | _ => false)
      | _ => false)
    | _ => false
  | sc, .fcall f l, x => match x with
    | .Call y xs kw _ => (match y with
      | .Name x _ => (match kw with
        | [] => (match P[f]? with
          | some fn => decide (fn.name = x) && fn.own
          | none => false) && (glB sc x && (!xs.isEmpty && okL sc l xs))
        | _ => false)
      | _ => false)
    | _ => false
  | sc, .fn1 k a, x => match x with
    | .Call y xs kw _ => (match y with
      | .Name x _ => (match kw with
        | [] => (match xs with
          | [e] => isB sc x (f1N k) && okE sc a e
          | _ => false)
        | _ => false)
      | _ => false)
    | _ => false
  | sc, .fn2 k a b, x => match x with
    | .Call y xs kw _ => (match y with
      | .Name x _ => (match kw with
        | [] => (match xs with
          | [e, f] => isB sc x (f2N k) && ((notBor a && okE sc a e) && (notBor b && okE sc b f))
          | _ => false)
        | _ => false)
      | _ => false)
    | _ => false
  | sc, .meth1 k a b, x => match x with
    | .Call y xs kw pos => (match y with
      | .Attribute o m apos => (match kw with
        | [] => (match xs with
          | [e] => decide (m = m1N k) && (okE sc a o && ((notBor b && okE sc b e) && (noCall o && (apos.endLine == pos.line))))
          | _ => false)
        | _ => false)
      | _ => false)
    | _ => false
  | sc, .get2 a b c, x => match x with
    | .Call y xs kw pos => (match y with
      | .Attribute o m apos => (match kw with
        | [] => (match xs with
          | [e, f] => decide (m = "get") && (okE sc a o && ((notBor b && okE sc b e) && ((notBor c && okE sc c f) && (noCall o && (apos.endLine == pos.line)))))
          | _ => false)
        | _ => false)
      | _ => false)
    | _ => false
  | sc, .isi a t, x => match x with
    | .Call y xs kw _ => (match y with
      | .Name x _ => (match kw with
        | [] => (match xs with
          | [e, f] => (match f with
            | .Name z _ => isB sc x "isinstance" && (isB sc z (tyN t) && okE sc a e)
            | _ => false)
          | _ => false)
        | _ => false)
      | _ => false)
    | _ => false
  | sc, .ff k a, x => match x with
    | .Call y xs kw _ => (match y with
      | .Name x _ => (match kw with
        | [] => (match xs with
          | [e] => (match k with
            | .list => isB sc x "list" && okE sc a e
            | .sorted => isB sc x "sorted" && okE sc a e
            | _ => false)
          | _ => false)
        | _ => false)
      | _ => false)
    | _ => false
  | _, .dic0, x => match x with
    | .Dict ks vs _ => ks.isEmpty && vs.isEmpty
    | _ => false
  | sc, .comp tg tt it cond elt own, x => match x with
    | .ListComp x gs scope _ => (match gs with
      | [⟨t, i, ifs, na⟩] => decide (na = 0) && (okI sc tt it i && (blkC N sc scope (own.filterMap fun j => (N[j]?).map fun y => (y, j)) && (decide ((own.filterMap fun j => (N[j]?).map fun y => (y, j)).map (·.2) = own) &&
        (targetB N scope tg tt t && (tg.all (fun j => decide (j ∈ own)) && (okC (relS scope sc) cond ifs && (notBor elt && okE (relS scope sc) elt x)))))))
      | _ => false)
    | _ => false
  | _, .rev _, _ => false
  | _, .itSeq _, _ => false
  | _, .itRange1 _, _ => false
  | _, .itRange _ _, _ => false
  | _, .itEnum _, _ => false
  | _, .itZip _ _, _ => false
  | _, .nil, _ => false
  | _, .cons _ _, _ => false
def okL : Scope → E → List Expr → Bool
  | sc, l, xs => match l with
    | .nil => xs.isEmpty
    | .cons e r => (match xs with
      | x :: xs => notBor e && (okE sc e x && okL sc r xs)
      | [] => false)
    | _ => false
def okC : Scope → E → List Expr → Bool
  | sc, l, xs => match l with
    | .nil => xs.isEmpty
    | .cons e r => (match xs with
      | [x] => isNil r && okE sc e x
      | _ => false)
    | _ => false
def okO : Scope → E → Option Expr → Bool
  | sc, l, x => match l with
    | .nil => x.isNone
    | .cons e r => (match x with
      | some x => isNil r && (notBor e && okE sc e x)
      | none => false)
    | _ => false
def okI : Scope → Bool → E → Expr → Bool
  | sc, tt, it, x => match it with
    | .itSeq a => notBor a && okE sc a x
    | .itRange1 a => (match x with
      | .Call y xs kw _ => (match y with
        | .Name x _ => (match kw with
          | [] => (match xs with
            | [e] => isB sc x "range" && (notBor a && okE sc a e)
            | _ => false)
          | _ => false)
        | _ => false)
      | _ => false)
    | .itRange a b => (match x with
      | .Call y xs kw _ => (match y with
        | .Name x _ => (match kw with
          | [] => (match xs with
            | [e, f] => isB sc x "range" && ((notBor a && okE sc a e) && (notBor b && okE sc b f))
            | _ => false)
          | _ => false)
        | _ => false)
      | _ => false)
    | .itZip a b => (match x with
      | .Call y xs kw _ => (match y with
        | .Name x _ => (match kw with
          | [] => (match xs with
            | [e, f] => tt && (isB sc x "zip" && ((notBor a && okE sc a e) && (notBor b && okE sc b f)))
            | _ => false)
          | _ => false)
        | _ => false)
      | _ => false)
    | _ => false
end
end
end Pv

set_option Elab.async false
set_option linter.all false
set_option maxRecDepth 100000
set_option maxHeartbeats 4000000
namespace Pv
open PySem L2

/-! ### names -/
theorem nameB_of {N : List Str} {sc : Scope} {i : Nat} {x : Str} (h : nameB N sc i x = true) : N[i]? = some x ∧ Vis sc x ∧ (x == ("__debug__" : Str)) = false ∧ (x == ("__classdict__" : Str)) = false := by
  unfold nameB at h
  simp only [Bool.and_eq_true, decide_eq_true_eq, Bool.not_eq_true'] at h
  obtain ⟨h1, h2, h3, h4⟩ := h
  refine ⟨h1, ?_, h3, h4⟩
  unfold visB at h2
  unfold Vis
  split at h2 <;> simp_all
theorem glB_of {sc : Scope} {x : Str} (h : glB sc x = true) : sc.names.lookup x = some .globalImplicit ∧ (x == ("__debug__" : Str)) = false := by
  unfold glB at h
  simp only [Bool.and_eq_true, Bool.not_eq_true'] at h
  obtain ⟨h1, h2⟩ := h
  refine ⟨?_, h2⟩
  split at h1 <;> simp_all
theorem isB_of {sc : Scope} {x y : Str} (h : isB sc x y = true) : x = y ∧ sc.names.lookup x = some .globalImplicit := by
  unfold isB at h
  simp only [Bool.and_eq_true, decide_eq_true_eq] at h
  exact ⟨h.1, (glB_of h.2).1⟩
theorem tgB_of {N : List Str} {sc : Scope} {i : Nat} {x : Str} (h : tgB N sc i x = true) : N[i]? = some x ∧ L2.Loc sc x := by
  unfold tgB locB at h
  simp only [Bool.and_eq_true, decide_eq_true_eq] at h
  refine ⟨h.1, ?_⟩
  have h2 := h.2
  unfold L2.Loc
  split at h2 <;> simp_all

def nst : Expr → Bool
  | .Starred .. => false
  | _ => true
theorem star_ok {e : Expr} {es : List Expr} {env : PySem.Env} (h : nst e = true) : starEach (e :: es) env = (false, eval e env) :: starEach es env := by
  cases e <;> first | rfl | cases h
theorem star_any {pos : Pos} {env : PySem.Env} : ∀ {es : List Expr}, es.all nst = true → (backTo pos (starEach es env)).any (·.1) = false
  | [], _ => rfl
  | e :: es, h => by
    rw [List.all_cons, Bool.and_eq_true] at h
    rw [star_ok h.1]
    have := star_any (pos := pos) (env := env) h.2
    unfold backTo at this ⊢
    simpa using this

section
variable {T : Tb} {X : Cx} {g : Gx} {N : List Str} {sc : Scope} {pos : Pos}
theorem Cok.gl (h : Cok T X g N sc) {x : Str} (e : sc.names.lookup x = some .globalImplicit) : Gl X x := by
  show X.env.scope.names.lookup x = _
  rw [h.sc]; exact e
theorem Cok.blt (h : Cok T X g N sc) {x : Str} (e : x ∈ bltN) : X.mg x = none := h.p.blt x e
theorem Cok.hu (h : Cok T X g N sc) : X.A.units + 1 < cLine := hu_of h.room
theorem Cok.hu64 (h : Cok T X g N sc) : X.A.units + 64 < cLine := h.room.units
theorem Cok.hu0 (h : Cok T X g N sc) : X.A.units < cLine := h.room.units0

/-! ### constants and names -/
theorem s_const {e : Expr} {v : V} {d : D} (h : PE X e (tC v)) (r : ∀ w, Rep w v d) : PE X e (GE g .rep fun _ M => .ok d M) := PE.imp h fun σ H Q ⟨ρ, M, w, e, s, a⟩ => by
  subst e
  exact a.fin s (r w)
theorem s_var (h : Cok T X g N sc) {i : Nat} {x : Str} (c : nameB N sc i x = true) : PE X (.Name x pos) (GE g .rep (ev T.C (.var i))) := by
  obtain ⟨h1, h2, h3, h4⟩ := nameB_of c
  refine PE.imp (pe_var (i := i) (by rw [h.hN]; exact h1) (by rw [h.sc]; exact h2) h3 h4) ?_
  rintro σ H Q ⟨ρ, M, w, e, s, a⟩
  subst e
  simp only [ev] at a
  split at a
  · rename_i d q
    obtain ⟨v, e, r⟩ := s.sh i d q
    exact ⟨v, e, a.fin s r⟩
  · exact a.elim
theorem s_peek (h : Cok T X g N sc) {i : Nat} {x : Str} (c : nameB N sc i x = true) : PE X (.Name x pos) (GE g .bor (ev T.C (.peek i))) := by
  obtain ⟨h1, h2, h3, h4⟩ := nameB_of c
  refine PE.imp (pe_var (i := i) (by rw [h.hN]; exact h1) (by rw [h.sc]; exact h2) h3 h4) ?_
  rintro σ H Q ⟨ρ, M, w, e, s, a⟩
  subst e
  simp only [ev] at a
  split at a
  · rename_i d q
    obtain ⟨p, e, r⟩ := s.ow i d q
    exact ⟨_, e, a.fin s ⟨i, q, e⟩⟩
  · exact a.elim
theorem s_glob (h : Cok T X g N sc) {i : Int} {x : Str} (c : (x, i) ∈ T.gi) (c2 : glB sc x = true) : PE X (.Name x pos) (GE g .rep (ev T.C (.glob x i))) := by
  obtain ⟨t, e⟩ := h.p.gi x i c
  obtain ⟨h1, h2⟩ := glB_of c2
  exact s_const (pe_glob (v := .int i) (h.gl h1) e ⟨t, rfl⟩ h2) fun w => .int i

/-! ### operators -/
theorem Aft.optE {w : Wd} {ρ : Rho} {σ : St} {Q : VK} {k : RK} {o : Option D} {M : Store} (h : Aft g (rl g ρ σ k) w ρ σ Q (Pv.opt o M)) : ∃ d, o = some d ∧ Aft g (rl g ρ σ k) w ρ σ Q (.ok d M) := Aft.opt h

/-- all that + - * // % do -/
def rBin (g : Gx) (K : PySem.W.Frag) (k : BK) : R2 := fun x y H Q => ∃ (σ : St) (ρ : Rho) (M : Store) (w : Wd) (a b d : D), w.H = H ∧ Sr g.w0 ρ M w σ ∧ Rep w x a ∧ Rep w y b ∧ binD k a b = some d ∧ Aft g (rl g ρ σ .rep) w ρ σ Q (.ok d M)
theorem smallI_of {i : Int} (h : smallI i = true) : -(2 ^ 64) < i ∧ i < 2 ^ 64 := of_decide_eq_true h
theorem op_bin (h : Cok T X g N sc) {k : BK} {op : Operator} (c : opB k op = true) : OpR X (binaryOp op) (rBin g X.K k) := by
  rintro pins s σ H x y v u Q I rx ry ⟨σ', ρ, M, w, a, b, d, rfl, sr, ra, rb, e, af⟩
  cases k <;> cases op <;> first | (exfalso; exact Bool.noConfusion c) | skip
  · -- add
    cases ra <;> cases rb <;> simp only [binD, Option.some.injEq, reduceCtorEq, Option.ite_none_right_eq_some] at e
    · subst e
      exact op_add pins s σ _ _ _ _ _ Q I rx ry ⟨_, _, rfl, rfl, af.fin sr (.int _)⟩
    · obtain ⟨e1, rfl⟩ := e
      exact op_add_str pins s σ _ _ _ _ _ Q I rx ry ⟨_, _, rfl, rfl, e1, af.fin sr (.str _ (by show (_ ++ _ : Str).length ≤ LIM; rw [Str.length_append]; exact e1))⟩
    · obtain ⟨e1, rfl⟩ := e
      rename_i p vs ds f1 h1 r1 q us es f2 h2 r2
      refine op_catA pins s σ _ _ _ _ _ Q I rx ry ⟨p, q, vs, us, rfl, rfl, SqT.of h1, SqT.of h2, by rw [r1.length, r2.length]; exact e1, fun z => ?_, fun z z2 => ?_, fun z z2 p' n => ?_⟩
      · subst z
        cases r1
        exact af.fin sr (.tup f2 h2 r2)
      · subst z2
        cases r2
        rw [List.append_nil] at af
        exact af.fin sr (.tup f1 h1 r1)
      · exact af.new sr n (.tup (.inr rfl) upd_same ((r1.append r2).mono (frozen_wle sr.wf n)))
    · obtain ⟨e1, rfl⟩ := e
      rename_i p vs ds f1 h1 r1 q us es f2 h2 r2
      refine op_cat pins s σ _ _ _ _ _ Q I rx ry ⟨p, q, vs, us, rfl, rfl, h1, h2, by rw [r1.length, r2.length]; exact e1, fun p' n => ?_⟩
      exact af.new sr n (.lst (.inr rfl) upd_same ((r1.append r2).mono (frozen_wle sr.wf n)))
  · cases ra <;> cases rb <;> simp only [binD, Option.some.injEq, reduceCtorEq] at e
    subst e
    exact op_sub pins s σ _ _ _ _ _ Q I rx ry ⟨_, _, rfl, rfl, af.fin sr (.int _)⟩
  · cases ra <;> cases rb <;> simp only [binD, Option.some.injEq, reduceCtorEq, Option.ite_none_right_eq_some, Bool.or_eq_true] at e
    obtain ⟨e1, rfl⟩ := e
    exact op_mul pins s σ _ _ _ _ _ Q I rx ry ⟨_, _, rfl, rfl, e1.imp smallI_of smallI_of, af.fin sr (.int _)⟩
  · cases ra <;> cases rb <;> simp only [binD, Option.some.injEq, reduceCtorEq, Option.ite_none_right_eq_some] at e
    obtain ⟨e1, rfl⟩ := e
    exact op_fdiv pins s σ _ _ _ _ _ Q I rx ry ⟨_, _, rfl, rfl, e1, af.fin sr (.int _)⟩
  · cases ra <;> cases rb <;> simp only [binD, Option.some.injEq, reduceCtorEq, Option.ite_none_right_eq_some] at e
    obtain ⟨e1, rfl⟩ := e
    exact op_mod pins s σ _ _ _ _ _ Q I rx ry ⟨_, _, rfl, rfl, e1, af.fin sr (.int _)⟩
theorem s_bin (h : Cok T X g N sc) {k : BK} {op : Operator} (c : opB k op = true) {a b : Expr} {fa fb : Rho → Store → Res D} (ha : PE X a (GE g .rep fa)) (hb : PE X b (GE g .rep fb)) :
    PE X (.BinOp a op b pos) (GE g .rep fun ρ M => (fa ρ M).bind fun x M => (fb ρ M).bind fun y M => opt (binD k x y) M) := by
  refine PE.imp (pe_op (op_bin h c) ha hb) fun σ H Q q => ?_
  have t := GE.two (ka := .rep) (kb := .rep) (rel := fun ρ σ => rl g ρ σ .rep) (F := fun ρ x y M => opt (binD k x y) M) (fun z => nomatch z) (anti_rl (k := .rep) (σ := σ)) q
  obtain ⟨ρ, M, w, e, s, a⟩ := t
  refine ⟨ρ, M, w, e, s, a.mono ?_⟩
  rintro v H1 ⟨ρ1, M1, w1, e1, s1, a1⟩
  refine ⟨ρ1, M1, w1, e1, s1, a1.mono ?_⟩
  rintro u H2 ⟨ρ2, M2, w2, _, _, x, y, e2, s2, rx, ry, a2⟩
  obtain ⟨d, ed, a3⟩ := a2.optE
  exact ⟨σ, ρ2, M2, w2, x, y, d, e2, s2, rx, ry, ed, a3⟩
theorem s_neg {a : Expr} {fa : Rho → Store → Res D} (ha : PE X a (GE g .rep fa)) :
    PE X (.UnaryOp .USub a pos) (GE g .rep fun ρ M => (fa ρ M).bind fun x M => match x with | .int i => .ok (.int (-i)) M | _ => .fail) := by
  refine PE.imp (pe_un un_neg ha) fun σ H Q q => ?_
  have t := GE.one (ka := .rep) (rel := fun ρ σ => rl g ρ σ .rep) (F := fun ρ x M => match x with | .int i => .ok (.int (-i)) M | _ => .fail) (anti_rl (k := .rep) (σ := σ)) q
  obtain ⟨ρ, M, w, e, s, a⟩ := t
  refine ⟨ρ, M, w, e, s, a.mono ?_⟩
  rintro v H1 ⟨ρ1, M1, w1, _, x, e1, s1, _, r1, a1⟩
  subst e1
  have r1 : Rep w1 v x := r1
  cases r1 with
  | int i => exact ⟨i, rfl, a1.fin s1 (.int _)⟩
  | _ => exact a1.elim
end
end Pv

set_option Elab.async false
set_option linter.all false
set_option maxRecDepth 100000
set_option maxHeartbeats 4000000
namespace Pv
open PySem L2

/-! ### plain data -/
mutual
def toP : D → PyData
  | .non => .none
  | .bl b => .bool b
  | .int i => .int i
  | .str x => .str x
  | .tup ds => .tuple (toPs ds)
  | .lst ds => .list (toPs ds)
  | _ => .none
def toPs : List D → List PyData
  | [] => []
  | d :: ds => toP d :: toPs ds
end
mutual
theorem eqD_eqv : ∀ {n m : Nat} {d e : D}, okd n d = true → okd m e = true → eqD d e = PyData.eqv (toP d) (toP e)
  | _, _, .non, e, _, h => by cases e <;> first | rfl | (simp only [okd, Bool.false_eq_true] at h)
  | _, _, .bl b, e, _, h => by cases e <;> first | rfl | (simp only [okd, Bool.false_eq_true] at h)
  | _, _, .int i, e, _, h => by cases e <;> first | rfl | (simp only [okd, Bool.false_eq_true] at h)
  | _, _, .str x, e, _, h => by cases e <;> first | rfl | (simp only [okd, Bool.false_eq_true] at h)
  | 0, _, .tup ds, e, h, _ => by simp only [okd, Bool.false_eq_true] at h
  | n + 1, m, .tup ds, e, h, k => by
    cases e with
    | tup es =>
      cases m with
      | zero => simp only [okd, Bool.false_eq_true] at k
      | succ m =>
        simp only [okd] at h k
        simp only [eqD, toP, PyData.eqv]
        exact eqDs_eqv h k
    | _ => first | rfl | (simp only [okd, Bool.false_eq_true] at k)
  | 0, _, .lst ds, e, h, _ => by simp only [okd, Bool.false_eq_true] at h
  | n + 1, m, .lst ds, e, h, k => by
    cases e with
    | lst es =>
      cases m with
      | zero => simp only [okd, Bool.false_eq_true] at k
      | succ m =>
        simp only [okd] at h k
        simp only [eqD, toP, PyData.eqv]
        exact eqDs_eqv h k
    | _ => first | rfl | (simp only [okd, Bool.false_eq_true] at k)
  | n, _, .scr ds, e, h, _ => by simp only [okd, Bool.false_eq_true] at h
  | n, _, .dic ds, e, h, _ => by simp only [okd, Bool.false_eq_true] at h
  | n, _, .hnd ds, e, h, _ => by simp only [okd, Bool.false_eq_true] at h
theorem eqDs_eqv : ∀ {n m : Nat} {ds es : List D}, okds n ds = true → okds m es = true → eqDs ds es = PyData.eqvAll (toPs ds) (toPs es)
  | _, _, [], [], _, _ => rfl
  | _, _, [], _ :: _, _, _ => rfl
  | _, _, _ :: _, [], _, _ => rfl
  | n, m, d :: ds, e :: es, h, k => by
    simp only [okds, Bool.and_eq_true] at h k
    simp only [eqDs, toPs, PyData.eqvAll]
    rw [eqD_eqv h.1 k.1, eqDs_eqv h.2 k.2]
end
mutual
theorem shp : ∀ {n : Nat} {d : D}, okd n d = true → (toP d).canLay0 = true ∧ (toP d).depth ≤ n
  | _, .non, _ => ⟨rfl, Nat.zero_le _⟩
  | _, .bl b, _ => ⟨rfl, Nat.zero_le _⟩
  | _, .int i, _ => ⟨rfl, Nat.zero_le _⟩
  | _, .str x, h => by
    refine ⟨?_, Nat.zero_le _⟩
    simp only [okd, okStr] at h
    simpa only [toP, PyData.canLay0] using h
  | 0, .tup ds, h => by simp only [okd, Bool.false_eq_true] at h
  | n + 1, .tup ds, h => by
    simp only [okd] at h
    have := shps h
    exact ⟨by simpa only [toP, PyData.canLay0] using this.1, by simp only [toP, PyData.depth]; omega⟩
  | 0, .lst ds, h => by simp only [okd, Bool.false_eq_true] at h
  | n + 1, .lst ds, h => by
    simp only [okd] at h
    have := shps h
    exact ⟨by simpa only [toP, PyData.canLay0] using this.1, by simp only [toP, PyData.depth]; omega⟩
  | _, .scr ds, h => by simp only [okd, Bool.false_eq_true] at h
  | _, .dic ds, h => by simp only [okd, Bool.false_eq_true] at h
  | _, .hnd ds, h => by simp only [okd, Bool.false_eq_true] at h
theorem shps : ∀ {n : Nat} {ds : List D}, okds n ds = true → PyData.canLayAll0 (toPs ds) = true ∧ PyData.depthAll (toPs ds) ≤ n
  | _, [], _ => ⟨rfl, Nat.zero_le _⟩
  | n, d :: ds, h => by
    simp only [okds, Bool.and_eq_true] at h
    have h1 := shp h.1
    have h2 := shps h.2
    exact ⟨by simp only [toPs, PyData.canLayAll0, h1.1, h2.1]; rfl, by simp only [toPs, PyData.depthAll]; omega⟩
end
theorem shaped_of {n : Nat} {d : D} (h : okd n d = true) (hn : n ≤ 64) : SeqAt.shaped (toP d) = true := by
  have := shp h
  unfold SeqAt.shaped
  simp only [this.1, Bool.true_and, decide_eq_true_eq]
  omega
mutual
theorem dp_of {K : PySem.W.Frag} {w : Wd} : ∀ {n : Nat} {d : D} {v : V}, okd n d = true → Rep w v d → Dp K w.H v (toP d)
  | _, .non, _, _, r => by cases r; exact .non
  | _, .bl b, _, _, r => by cases r; exact .bl b
  | _, .int b, _, _, r => by cases r; exact .int b
  | _, .str b, _, _, r => by cases r; exact .str b
  | 0, .tup ds, _, h, r => by simp only [okd, Bool.false_eq_true] at h
  | n + 1, .tup ds, _, h, r => by
    cases r with
    | tup f e r =>
      simp only [okd] at h
      exact .tup (SqT.of e) (dps_of h r)
  | 0, .lst ds, _, h, r => by simp only [okd, Bool.false_eq_true] at h
  | n + 1, .lst ds, _, h, r => by
    cases r with
    | lst f e r =>
      simp only [okd] at h
      exact .lst (SqL.of e) (dps_of h r)
  | _, .scr ds, _, h, _ => by simp only [okd, Bool.false_eq_true] at h
  | _, .dic ds, _, h, _ => by simp only [okd, Bool.false_eq_true] at h
  | _, .hnd ds, _, h, _ => by simp only [okd, Bool.false_eq_true] at h
theorem dps_of {K : PySem.W.Frag} {w : Wd} : ∀ {n : Nat} {ds : List D} {vs : List V}, okds n ds = true → Reps w vs ds → DpAll K w.H vs (toPs ds)
  | _, [], _, _, .nil => .nil
  | n, d :: ds, _, h, .cons r t => by
    simp only [okds, Bool.and_eq_true] at h
    exact .cons (dp_of h.1 r) (dps_of h.2 t)
end
theorem dp_con {K : PySem.W.Frag} {w : Wd} : ∀ {n : Nat} {d : D} {v : V}, okd n d = true → Con w v d → Dp K w.H v (toP d)
  | _, .non, _, _, r => by cases r; exact .non
  | _, .bl b, _, _, r => by cases r; exact .bl b
  | _, .int b, _, _, r => by cases r; exact .int b
  | _, .str b, _, _, r => by obtain ⟨r, _⟩ := r; cases r; exact .str b
  | 0, .tup ds, _, h, r => by simp only [okd, Bool.false_eq_true] at h
  | n + 1, .tup ds, _, h, ⟨p, vs, e1, e, r⟩ => by
    subst e1
    simp only [okd] at h
    exact .tup (SqT.of e) (dps_of h r)
  | 0, .lst ds, _, h, r => by simp only [okd, Bool.false_eq_true] at h
  | n + 1, .lst ds, _, h, ⟨p, vs, e1, e, r⟩ => by
    subst e1
    simp only [okd] at h
    exact .lst (SqL.of e) (dps_of h r)
  | _, .scr ds, _, h, _ => by simp only [okd, Bool.false_eq_true] at h
  | _, .dic ds, _, h, _ => by simp only [okd, Bool.false_eq_true] at h
  | _, .hnd ds, _, h, _ => by simp only [okd, Bool.false_eq_true] at h

end Pv

set_option Elab.async false
set_option linter.all false
set_option maxRecDepth 100000
set_option maxHeartbeats 4000000
namespace Pv
open PySem L2

/-! ### flat things -/
theorem flat_of {w : Wd} {v : V} {d : D} (r : Rep w v d) (h : flatD d = true) : flatV v = true := by
  cases r <;> first | rfl | (cases h)
theorem flats_of {w : Wd} : ∀ {vs : List V} {ds : List D}, Reps w vs ds → ds.all flatD = true → vs.all flatV = true
  | _, _, .nil, _ => rfl
  | _, _, .cons r t, h => by
    rw [List.all_cons, Bool.and_eq_true] at h
    rw [List.all_cons, flat_of r h.1, flats_of t h.2]
    rfl
theorem eqV_of {w : Wd} {v u : V} {d e : D} (r : Rep w v d) (q : Rep w u e) (h : flatD d = true) (k : flatD e = true) : eqV v u = eqD d e := by
  cases r <;> first | (exfalso; exact Bool.noConfusion h) | skip
  all_goals cases q <;> first | (exfalso; exact Bool.noConfusion k) | rfl
theorem inV_of {w : Wd} {v : V} {d : D} (r : Rep w v d) (k : flatD d = true) : ∀ {vs : List V} {ds : List D}, Reps w vs ds → ds.all flatD = true → inV v vs = inD d ds
  | _, _, .nil, _ => rfl
  | _, _, .cons q t, h => by
    rw [List.all_cons, Bool.and_eq_true] at h
    have := inV_of r k t h.2
    unfold inV inD at this ⊢
    rw [List.any_cons, List.any_cons, eqV_of q r h.1 k, this]

/-! ### dicts -/
theorem keyOf_V {w : Wd} {v : V} {d : D} {k : Key} (r : Rep w v d) (h : keyOf d = some k) : v = kV k := by
  cases r <;> simp only [keyOf, reduceCtorEq, Option.some.injEq] at h <;> subst h <;> rfl
theorem look_of {w : Wd} (k : Key) : ∀ {kvs : List (Key × V)} {ks : List (Key × D)}, kvs.map (·.1) = ks.map (·.1) → Reps w (kvs.map (·.2)) (ks.map (·.2)) →
    (match lookK ks k with | some d => ∃ v, valV kvs k = some v ∧ Rep w v d | none => valV kvs k = none)
  | [], [], _, _ => rfl
  | (a, v) :: kvs, (b, d) :: ks, e, r => by
    rw [List.map_cons, List.map_cons] at e
    injection e with e1 e2
    have e1 : a = b := e1
    subst e1
    cases r with
    | cons r1 r2 =>
      have ih := look_of k e2 r2
      by_cases q : a = k
      · have h1 : lookK ((a, d) :: ks) k = some d := by unfold lookK; rw [List.find?_cons_of_pos (by simpa using q)]; rfl
        rw [h1]
        exact ⟨v, valV_pos q, r1⟩
      · have h1 : lookK ((a, d) :: ks) k = lookK ks k := by unfold lookK; rw [List.find?_cons_of_neg (by simpa using q)]
        rw [h1, valV_neg (p := (a, v)) q]
        exact ih

end Pv

set_option Elab.async false
set_option linter.all false
set_option maxRecDepth 100000
set_option maxHeartbeats 4000000
namespace Pv
open PySem L2

section
variable {T : Tb} {X : Cx} {g : Gx} {N : List Str} {sc : Scope} {pos : Pos}
/-- all that the comparisons do -/
def rCmp (g : Gx) (k : CK) : R2 := fun x y H Q => ∃ (w : Wd) (a b : D) (t : Bool), w.H = H ∧ Rep w x a ∧ Con w y b ∧ cmpD k a b = some t ∧ Q (.bl t) H
theorem Rep.is_non {w : Wd} {v : V} {d : D} (r : Rep w v d) : decide (v = V.non) = (match d with | .non => true | _ => false) := by
  cases r <;> rfl
theorem op_c_eq (h : Cok T X g N sc) : OpR X (compareOp .Eq) (rCmp g .eq) := by
  rintro pins s σ H x y v u Q I rx ry ⟨w, a, b, t, rfl, ra, cb, e, q⟩
  simp only [cmpD, Option.ite_none_right_eq_some, Bool.and_eq_true, Option.some.injEq] at e
  obtain ⟨⟨e1, e2⟩, rfl⟩ := e
  rw [eqD_eqv e1 e2] at q
  exact op_eqD h.hu64 pins s σ _ _ _ _ _ Q I rx ry ⟨_, _, dp_of e1 ra, dp_con e2 cb, shaped_of e1 (by decide), shaped_of e2 (by decide), q⟩
theorem op_c_ne (h : Cok T X g N sc) : OpR X (compareOp .NotEq) (rCmp g .ne) := by
  rintro pins s σ H x y v u Q I rx ry ⟨w, a, b, t, rfl, ra, cb, e, q⟩
  simp only [cmpD, Option.ite_none_right_eq_some, Bool.and_eq_true, Option.some.injEq] at e
  obtain ⟨⟨e1, e2⟩, rfl⟩ := e
  rw [eqD_eqv e1 e2] at q
  exact op_neD h.hu64 pins s σ _ _ _ _ _ Q I rx ry ⟨_, _, dp_of e1 ra, dp_con e2 cb, shaped_of e1 (by decide), shaped_of e2 (by decide), q⟩
theorem op_c_lt (h : Cok T X g N sc) : OpR X (compareOp .Lt) (rCmp g .lt) := by
  rintro pins s σ H x y v u Q I rx ry ⟨w, a, b, t, rfl, ra, cb, e, q⟩
  cases ra <;> cases b <;> simp only [cmpD, Option.some.injEq, reduceCtorEq] at e
  subst e; cases cb
  exact op_lt pins s σ _ _ _ _ _ Q I rx ry ⟨_, _, rfl, rfl, q⟩
theorem op_c_le (h : Cok T X g N sc) : OpR X (compareOp .LtE) (rCmp g .le) := by
  rintro pins s σ H x y v u Q I rx ry ⟨w, a, b, t, rfl, ra, cb, e, q⟩
  cases ra <;> cases b <;> simp only [cmpD, Option.some.injEq, reduceCtorEq] at e
  subst e; cases cb
  exact op_le pins s σ _ _ _ _ _ Q I rx ry ⟨_, _, rfl, rfl, q⟩
theorem op_c_gt (h : Cok T X g N sc) : OpR X (compareOp .Gt) (rCmp g .gt) := by
  rintro pins s σ H x y v u Q I rx ry ⟨w, a, b, t, rfl, ra, cb, e, q⟩
  cases ra <;> cases b <;> simp only [cmpD, Option.some.injEq, reduceCtorEq] at e
  subst e; cases cb
  exact op_gt pins s σ _ _ _ _ _ Q I rx ry ⟨_, _, rfl, rfl, q⟩
theorem op_c_ge (h : Cok T X g N sc) : OpR X (compareOp .GtE) (rCmp g .ge) := by
  rintro pins s σ H x y v u Q I rx ry ⟨w, a, b, t, rfl, ra, cb, e, q⟩
  cases ra <;> cases b <;> simp only [cmpD, Option.some.injEq, reduceCtorEq] at e
  subst e; cases cb
  exact op_ge pins s σ _ _ _ _ _ Q I rx ry ⟨_, _, rfl, rfl, q⟩
theorem op_c_isin (h : Cok T X g N sc) : OpR X (compareOp .In) (rCmp g .isin) := by
  rintro pins s σ H x y v u Q I rx ry ⟨w, a, b, t, rfl, ra, cb, e, q⟩
  simp only [cmpD] at e
  cases b <;> simp only [isinD, reduceCtorEq] at e
  · simp only [Option.ite_none_right_eq_some, Bool.and_eq_true, Option.some.injEq] at e
    obtain ⟨⟨e1, e2⟩, rfl⟩ := e
    obtain ⟨p, vs, rfl, hp, r⟩ := cb
    refine op_in_seq pins s σ _ _ _ _ _ Q I rx ry ⟨p, vs, rfl, .inr (SqT.of hp), flat_of ra e1, flats_of r e2, ?_⟩
    rw [inV_of ra e1 r e2]; exact q
  · simp only [Option.ite_none_right_eq_some, Bool.and_eq_true, Option.some.injEq] at e
    obtain ⟨⟨e1, e2⟩, rfl⟩ := e
    obtain ⟨p, vs, rfl, hp, r⟩ := cb
    refine op_in_seq pins s σ _ _ _ _ _ Q I rx ry ⟨p, vs, rfl, .inl (SqL.of hp), flat_of ra e1, flats_of r e2, ?_⟩
    rw [inV_of ra e1 r e2]; exact q
  · split at e
    · rename_i kvs _ key hk
      cases e
      obtain ⟨p, kvs', rfl, hp, e1, e2⟩ := cb
      cases ry
      have ex := keyOf_V ra hk
      subst ex
      refine d_in h.hu I (DGet.k (k := key) hp) rx fun s' I' => ⟨.bl (valV kvs' key).isSome, _, I', rfl, ?_⟩
      have := look_of key e1 e2
      cases q' : lookK kvs key with
      | none => rw [q'] at this q; rw [this]; exact q
      | some d =>
        rw [q'] at this q
        obtain ⟨v', hv, _⟩ := this
        rw [hv]; exact q
    · cases e
theorem op_c_notin (h : Cok T X g N sc) : OpR X (compareOp .NotIn) (rCmp g .notin) := by
  rintro pins s σ H x y v u Q I rx ry ⟨w, a, b, t, rfl, ra, cb, e, q⟩
  simp only [cmpD, Option.map_eq_some_iff] at e
  obtain ⟨t', e, rfl⟩ := e
  cases b <;> simp only [isinD, reduceCtorEq] at e
  · simp only [Option.ite_none_right_eq_some, Bool.and_eq_true, Option.some.injEq] at e
    obtain ⟨⟨e1, e2⟩, rfl⟩ := e
    obtain ⟨p, vs, rfl, hp, r⟩ := cb
    refine op_notIn_seq pins s σ _ _ _ _ _ Q I rx ry ⟨p, vs, rfl, .inr (SqT.of hp), flat_of ra e1, flats_of r e2, ?_⟩
    rw [inV_of ra e1 r e2]; exact q
  · simp only [Option.ite_none_right_eq_some, Bool.and_eq_true, Option.some.injEq] at e
    obtain ⟨⟨e1, e2⟩, rfl⟩ := e
    obtain ⟨p, vs, rfl, hp, r⟩ := cb
    refine op_notIn_seq pins s σ _ _ _ _ _ Q I rx ry ⟨p, vs, rfl, .inl (SqL.of hp), flat_of ra e1, flats_of r e2, ?_⟩
    rw [inV_of ra e1 r e2]; exact q
  · split at e
    · rename_i kvs _ key hk
      cases e
      obtain ⟨p, kvs', rfl, hp, e1, e2⟩ := cb
      cases ry
      have ex := keyOf_V ra hk
      subst ex
      refine d_notIn h.hu I (DGet.k (k := key) hp) rx fun s' I' => ⟨.bl (!(valV kvs' key).isSome), _, I', rfl, ?_⟩
      have := look_of key e1 e2
      cases q' : lookK kvs key with
      | none => rw [q'] at this q; rw [this]; exact q
      | some d =>
        rw [q'] at this q
        obtain ⟨v', hv, _⟩ := this
        rw [hv]; exact q
    · cases e
theorem op_c_is (h : Cok T X g N sc) : OpR X (compareOp .Is) (rCmp g .is) := by
  rintro pins s σ H x y v u Q I rx ry ⟨w, a, b, t, rfl, ra, cb, e, q⟩
  simp only [cmpD] at e
  cases b <;> simp only [isD, reduceCtorEq] at e
  · cases cb
    refine op_isN pins s σ _ _ _ _ _ Q I rx ry ⟨rfl, ?_⟩
    rw [ra.is_non]
    cases ra <;> simp only [Option.some.injEq, reduceCtorEq] at e <;> subst e <;> exact q
  · cases cb
    cases ra <;> simp only [Option.some.injEq, reduceCtorEq] at e
    subst e
    exact op_isBl pins s σ _ _ _ _ _ Q I rx ry ⟨_, _, rfl, rfl, q⟩
theorem op_c_isnot (h : Cok T X g N sc) : OpR X (compareOp .IsNot) (rCmp g .isnot) := by
  rintro pins s σ H x y v u Q I rx ry ⟨w, a, b, t, rfl, ra, cb, e, q⟩
  simp only [cmpD, Option.map_eq_some_iff] at e
  obtain ⟨t', e, rfl⟩ := e
  cases b <;> simp only [isD, reduceCtorEq] at e
  · cases cb
    refine op_notN pins s σ _ _ _ _ _ Q I rx ry ⟨rfl, ?_⟩
    rw [ra.is_non]
    cases ra <;> simp only [Option.some.injEq, reduceCtorEq] at e <;> subst e <;> exact q
  · cases cb
    cases ra <;> simp only [Option.some.injEq, reduceCtorEq] at e
    subst e
    exact op_notBl pins s σ _ _ _ _ _ Q I rx ry ⟨_, _, rfl, rfl, q⟩
theorem op_cmp (h : Cok T X g N sc) {k : CK} {op : CmpOp} (c : cpB k op = true) : OpR X (compareOp op) (rCmp g k) := by
  cases k <;> cases op <;> first | (exfalso; exact Bool.noConfusion c) | skip
  · exact op_c_eq h
  · exact op_c_ne h
  · exact op_c_lt h
  · exact op_c_le h
  · exact op_c_gt h
  · exact op_c_ge h
  · exact op_c_isin h
  · exact op_c_notin h
  · exact op_c_is h
  · exact op_c_isnot h
end
end Pv

set_option Elab.async false
set_option linter.all false
set_option maxRecDepth 100000
set_option maxHeartbeats 4000000
namespace Pv
open PySem L2

theorem dr_of {M : Store} {d : D} (h : ∀ n, d ≠ .hnd n) : dr M d = d := by
  cases d <;> first | rfl | exact absurd rfl (h _)
theorem cmp_hnd {k : CK} {x : D} {n : Nat} : cmpD k x (.hnd n) = none := by
  cases k <;> first | rfl | (cases x <;> rfl) | (simp only [cmpD, okd, Bool.and_false]; rfl)
theorem con_dr {g : Gx} {ρ : Rho} {σ : St} {M : Store} {k : RK} {w w' : Wd} {v : V} {d : D} (s : Sr g.w0 ρ M w' σ) (r : rl g ρ σ k w w' v d) (h : ∀ n, d ≠ .hnd n) : Con w' v d := by
  have := s.con r
  rwa [dr_of h] at this
theorem not_hnd {α : Type} {f : D → Option α} {d : D} {a : α} (e : f d = some a) (h : ∀ n, f (.hnd n) = none) : ∀ n, d ≠ .hnd n := by
  rintro n rfl
  rw [h n] at e; cases e

def nset : Expr → Bool
  | .Set .. => false
  | _ => true
theorem nset_ok {op : CmpOp} {e : Expr} (h : nset e = true) : behindInMarks op e = false := by
  cases e <;> first | rfl | cases h
def plainT : Expr → Bool
  | .UnaryOp .Not _ _ => false
  | .BoolOp .. => false
  | .IfExp .. => false
  | .Compare .. => false
  | _ => true
theorem plainT_ok {e : Expr} {env : PySem.Env} (h : plainT e = true) : ∀ whole, isTrue e env whole = (do let v ← whole; standAt e.pos; holding [v] (truthy v)) := by
  intro whole
  cases e <;> first | rfl | (cases h; done) | skip
  rename_i op a pos
  cases op <;> first | rfl | (cases h; done)

section
variable {T : Tb} {X : Cx} {g : Gx} {N : List Str} {sc : Scope} {pos : Pos} {a b c : Expr} {fa fb fc : Rho → Store → Res D}
theorem GE.cmp {k : CK} {kb : RK} {σ : St} {H : Hp} {Q : VK} (q : GE g .rep (fun ρ M => (fa ρ M).bind fun x M => (fb ρ M).bind fun y M => Pv.opt ((cmpD k x y).map .bl) M) σ H Q) :
    tOp (rCmp g k) (GE g .rep fa) (GE g kb fb) σ H Q := by
  have t := GE.two (ka := .rep) (kb := kb) (rel := fun ρ σ => rl g ρ σ .rep) (F := fun ρ x y M => Pv.opt ((cmpD k x y).map .bl) M) (fun z => nomatch z) (anti_rl (k := .rep) (σ := σ)) q
  obtain ⟨ρ, M, w, e, s, a⟩ := t
  refine ⟨ρ, M, w, e, s, a.mono ?_⟩
  rintro v H1 ⟨ρ1, M1, w1, e1, s1, a1⟩
  refine ⟨ρ1, M1, w1, e1, s1, a1.mono ?_⟩
  rintro u H2 ⟨ρ2, M2, w2, _, _, x, y, e2, s2, rx, ry, a2⟩
  obtain ⟨d, ed, a3⟩ := a2.optE
  obtain ⟨t, et, rfl⟩ := Option.map_eq_some_iff.mp ed
  subst e2
  exact ⟨w2, x, y, t, rfl, rx, con_dr s2 ry (not_hnd et fun n => cmp_hnd), et, a3.fin s2 (.bl t)⟩
theorem GT.cmp {k : CK} {kb : RK} {σ : St} {H : Hp} {Q : Bool → Hp → Prop} (q : GT g (fun ρ M => (fa ρ M).bind fun x M => (fb ρ M).bind fun y M => Pv.opt (cmpD k x y) M) σ H Q) :
    tTest (tOp (rCmp g k) (GE g .rep fa) (GE g kb fb)) σ H Q := by
  have t := GE.two (ka := .rep) (kb := kb) (rel := fun ρ σ _ _ b d => b = d) (F := fun ρ x y M => Pv.opt (cmpD k x y) M) (fun z => nomatch z) anti_b q
  obtain ⟨ρ, M, w, e, s, a⟩ := t
  refine ⟨ρ, M, w, e, s, a.mono ?_⟩
  rintro v H1 ⟨ρ1, M1, w1, e1, s1, a1⟩
  refine ⟨ρ1, M1, w1, e1, s1, a1.mono ?_⟩
  rintro u H2 ⟨ρ2, M2, w2, _, _, x, y, e2, s2, rx, ry, a2⟩
  obtain ⟨t, et, a3⟩ := Aft.opt a2
  subst e2
  exact ⟨w2, x, y, t, rfl, rx, con_dr s2 ry (not_hnd et fun n => cmp_hnd), et, t, rfl, a3.fin s2 rfl⟩
theorem s_cmp (h : Cok T X g N sc) {k : CK} {kb : RK} {op : CmpOp} (cc : cpB k op = true) (hb' : nset b = true) (ha : PE X a (GE g .rep fa)) (hb : PE X b (GE g kb fb)) :
    PE X (.Compare a [op] [b] pos) (GE g .rep fun ρ M => (fa ρ M).bind fun x M => (fb ρ M).bind fun y M => Pv.opt ((cmpD k x y).map .bl) M) :=
  PE.imp (pe_cmpR (op_cmp h cc) ha hb (nset_ok hb')) fun _ _ _ q => GE.cmp q
theorem t_cmp (h : Cok T X g N sc) {k : CK} {kb : RK} {op : CmpOp} (cc : cpB k op = true) (hb' : nset b = true) (ha : PE X a (GE g .rep fa)) (hb : PE X b (GE g kb fb)) :
    PT X (.Compare a [op] [b] pos) (GT g fun ρ M => (fa ρ M).bind fun x M => (fb ρ M).bind fun y M => Pv.opt (cmpD k x y) M) :=
  PT.imp (pt_cmpR (op_cmp h cc) ha hb (nset_ok hb')) fun _ _ _ q => GT.cmp q
/-! a op b op c -/
theorem lastM {op op' : CmpOp} (hc' : nset c = true) : lastMarks [op, op'] [b, c] = false := by
  show behindInMarks op' c = false
  exact nset_ok hc'
theorem chain_of {α β : Type} {rel : Rho → St → Wd → Wd → β → α → Prop} {k l : CK} {mk : Bool → Store → Res α} {σ : St} {H : Hp} {Q : β → Hp → Prop} {Q' : V → Hp → Prop}
    (anti : ∀ ρ w w1, Ext w w1 → ∀ w' v d, rel ρ σ w1 w' v d → rel ρ σ w w' v d)
    (hmk : ∀ t M, mk t M = .fail ∨ True)
    (fin : ∀ (ρ : Rho) (M : Store) (w : Wd) (t : Bool), Sr g.w0 ρ M w σ → Aft g (rel ρ σ) w ρ σ Q (mk t M) → Q' (.bl t) w.H)
    (q : ∃ ρ M w, w.H = H ∧ Sr g.w0 ρ M w σ ∧ Aft g (rel ρ σ) w ρ σ Q ((fa ρ M).bind fun x M => (fb ρ M).bind fun y M => (Pv.opt (cmpD k x y) M).bind fun t M =>
      match t with
      | true => (fc ρ M).bind fun z M => (Pv.opt (cmpD l y z) M).bind mk
      | false => mk false M)) : tChain (rCmp g k) (rCmp g l) (GE g .rep fa) (GE g .rep fb) (GE g .rep fc) σ H Q' := by
  have t := GE.two (ka := .rep) (kb := .rep) (F := fun ρ x y M => (Pv.opt (cmpD k x y) M).bind fun t M =>
      match t with
      | true => (fc ρ M).bind fun z M => (Pv.opt (cmpD l y z) M).bind mk
      | false => mk false M) (fun z => nomatch z) anti q
  obtain ⟨ρ, M, w, e, s, a⟩ := t
  refine ⟨ρ, M, w, e, s, a.mono ?_⟩
  rintro v H1 ⟨ρ1, M1, w1, e1, s1, a1⟩
  refine ⟨ρ1, M1, w1, e1, s1, a1.mono ?_⟩
  rintro u H2 ⟨ρ2, M2, w2, _, _, x, y, e2, s2, rx, ry, a2⟩
  cases et : cmpD k x y with
  | none => rw [et] at a2; exact a2.elim
  | some t =>
    rw [et] at a2
    subst e2
    refine ⟨w2, x, y, t, rfl, rx, con_dr s2 ry (not_hnd et fun n => cmp_hnd), et, t, rfl, ?_⟩
    cases t with
    | false => exact fin ρ2 M2 w2 false s2 a2
    | true =>
      refine ⟨ρ2, M2, w2, rfl, s2, ?_⟩
      have a2 : Aft g (rel ρ2 σ) w2 ρ2 σ Q ((fc ρ2 M2).bind fun z M => (Pv.opt (cmpD l y z) M).bind mk) := a2
      refine Aft.mono (Aft.bind (rel := rl g ρ2 σ .rep) a2 fun w1 ex => anti ρ2 w2 w1 ex) ?_
      rintro v3 H3 ⟨z, M3, w3, e3, ex3, s3, r3, a3⟩
      subst e3
      cases ez : cmpD l y z with
      | none => rw [ez] at a3; exact a3.elim
      | some t3 =>
        rw [ez] at a3
        exact ⟨w3, y, z, t3, rfl, Rep.mono (ex3.wle s2.wf) ry, con_dr (k := .rep) s3 r3 (not_hnd ez fun n => cmp_hnd), ez, fin ρ2 M3 w3 t3 s3 a3⟩
theorem s_cmp2 (h : Cok T X g N sc) {k l : CK} {op op' : CmpOp} (c1 : cpB k op = true) (c2 : cpB l op' = true) (hc' : nset c = true) (ha : PE X a (GE g .rep fa)) (hb : PE X b (GE g .rep fb)) (hc : PE X c (GE g .rep fc)) :
    PE X (.Compare a [op, op'] [b, c] pos) (GE g .rep fun ρ M => (fa ρ M).bind fun x M => (fb ρ M).bind fun y M => (Pv.opt (cmpD k x y) M).bind fun t M =>
      match t with
      | true => (fc ρ M).bind fun z M => Pv.opt ((cmpD l y z).map .bl) M
      | false => .ok (.bl false) M) := by
  refine PE.imp (pe_chain (op_cmp h c1) (op_cmp h c2) ha hb hc (lastM hc')) fun σ H Q q => ?_
  refine chain_of (rel := fun ρ σ => rl g ρ σ .rep) (mk := fun t M => .ok (.bl t) M) anti_rl (fun _ _ => .inr trivial) (fun ρ M w t s a => a.fin s (.bl t)) ?_
  have e : ∀ (o : Option Bool) (M : Store), (Pv.opt o M).bind (fun t M => Res.ok (D.bl t) M) = Pv.opt (o.map .bl) M := fun o M => by cases o <;> rfl
  simp only [e]
  exact q
theorem t_cmp2 (h : Cok T X g N sc) {k l : CK} {op op' : CmpOp} (c1 : cpB k op = true) (c2 : cpB l op' = true) (hc' : nset c = true) (ha : PE X a (GE g .rep fa)) (hb : PE X b (GE g .rep fb)) (hc : PE X c (GE g .rep fc)) :
    PT X (.Compare a [op, op'] [b, c] pos) (GT g fun ρ M => (fa ρ M).bind fun x M => (fb ρ M).bind fun y M => (Pv.opt (cmpD k x y) M).bind fun t M =>
      match t with
      | true => (fc ρ M).bind fun z M => Pv.opt (cmpD l y z) M
      | false => .ok false M) := by
  refine PT.imp (pt_chain (op_cmp h c1) (op_cmp h c2) ha hb hc (lastM hc')) fun σ H Q q => ?_
  refine chain_of (rel := fun ρ σ _ _ b d => b = d) (mk := fun t M => .ok t M) anti_b (fun _ _ => .inr trivial) (fun ρ M w t s a => ⟨t, rfl, a.fin s rfl⟩) ?_
  have e : ∀ (o : Option Bool) (M : Store), (Pv.opt o M).bind (fun t M => Res.ok t M) = Pv.opt o M := fun o M => by cases o <;> rfl
  simp only [e]
  exact q

/-! ### truth -/
theorem Reps.isEmpty {w : Wd} : ∀ {vs : List V} {ds : List D}, Reps w vs ds → vs.isEmpty = ds.isEmpty
  | _, _, .nil => rfl
  | _, _, .cons _ _ => rfl
theorem tru_of {K : PySem.W.Frag} {w : Wd} {v : V} {d : D} {t : Bool} (hK : w.K = K) (c : Con w v d) (e : truD d = some t) : TruV K v w.H t := by
  cases d <;> simp only [truD, Option.some.injEq, reduceCtorEq] at e
  · cases c; exact e.symm
  · cases c; exact e.symm
  · cases c; exact e.symm
  · rename_i x
    obtain ⟨rfl, c⟩ := c; exact ⟨c, e.symm⟩
  · obtain ⟨p, vs, rfl, hp, r⟩ := c
    exact .inr (.inl ⟨vs, SqT.of hp, by rw [r.isEmpty]; exact e.symm⟩)
  · obtain ⟨p, vs, rfl, hp, r⟩ := c
    exact .inl ⟨vs, SqL.of hp, by rw [r.isEmpty]; exact e.symm⟩
  · obtain ⟨p, vs, rfl, hp, r⟩ := c
    exact .inl ⟨vs, by rw [← hK]; exact hp, by rw [r.isEmpty]; exact e.symm⟩
  · obtain ⟨p, kvs, rfl, hp, e1, r⟩ := c
    refine .inr (.inr ⟨kvs, hp, ?_⟩)
    have := congrArg List.isEmpty e1
    simp only [List.isEmpty_map] at this
    rw [this]; exact e.symm
end
end Pv

set_option Elab.async false
set_option linter.all false
set_option maxRecDepth 100000
set_option maxHeartbeats 4000000
namespace Pv
open PySem L2

section
variable {T : Tb} {X : Cx} {g : Gx} {N : List Str} {sc : Scope} {pos : Pos} {a b c : Expr} {fa fb fc : Rho → Store → Res D}
/-- one operand, an end by cases -/
theorem ge_one {α β : Type} {rel : Rho → St → Wd → Wd → β → α → Prop} {ka : RK} {F : Rho → D → Store → Res α} {σ : St} {H : Hp} {Q : β → Hp → Prop} {Q' : V → Hp → Prop}
    (anti : ∀ ρ w w1, Ext w w1 → ∀ w' v d, rel ρ σ w1 w' v d → rel ρ σ w w' v d)
    (fin : ∀ (ρ : Rho) (M : Store) (w w0 : Wd) (v : V) (x : D), Sr g.w0 ρ M w σ → Ext w0 w → rl g ρ σ ka w0 w v x → Aft g (rel ρ σ) w ρ σ Q (F ρ x M) → Q' v w.H)
    (h : ∃ ρ M w, w.H = H ∧ Sr g.w0 ρ M w σ ∧ Aft g (rel ρ σ) w ρ σ Q ((fa ρ M).bind fun x M => F ρ x M)) : GE g ka fa σ H Q' := by
  obtain ⟨ρ, M, w, e, s, a⟩ := GE.one (ka := ka) anti h
  refine ⟨ρ, M, w, e, s, a.mono ?_⟩
  rintro v H1 ⟨ρ1, M1, w1, w0, x, e1, s1, ex, r1, a1⟩
  subst e1
  exact fin ρ1 M1 w1 w0 v x s1 ex r1 a1
theorem ge_two {α β : Type} {rel : Rho → St → Wd → Wd → β → α → Prop} {ka kb : RK} {F : Rho → D → D → Store → Res α} {σ : St} {H : Hp} {Q : β → Hp → Prop} {Q' : V → V → Hp → Prop} (hk : ka ≠ .frs)
    (anti : ∀ ρ w w1, Ext w w1 → ∀ w' v d, rel ρ σ w1 w' v d → rel ρ σ w w' v d)
    (fin : ∀ (ρ : Rho) (M : Store) (w w0 w1 : Wd) (v u : V) (x y : D), Sr g.w0 ρ M w σ → rl g ρ σ ka w0 w v x → rl g ρ σ kb w1 w u y → Aft g (rel ρ σ) w ρ σ Q (F ρ x y M) → Q' v u w.H)
    (h : ∃ ρ M w, w.H = H ∧ Sr g.w0 ρ M w σ ∧ Aft g (rel ρ σ) w ρ σ Q ((fa ρ M).bind fun x M => (fb ρ M).bind fun y M => F ρ x y M)) : GE g ka fa σ H (fun v H1 => GE g kb fb σ H1 (fun u H2 => Q' v u H2)) := by
  obtain ⟨ρ, M, w, e, s, a⟩ := GE.two (ka := ka) (kb := kb) hk anti h
  refine ⟨ρ, M, w, e, s, a.mono ?_⟩
  rintro v H1 ⟨ρ1, M1, w1, e1, s1, a1⟩
  refine ⟨ρ1, M1, w1, e1, s1, a1.mono ?_⟩
  rintro u H2 ⟨ρ2, M2, w2, _, _, x, y, e2, s2, rx, ry, a2⟩
  subst e2
  exact fin ρ2 M2 w2 _ _ v u x y s2 rx ry a2

/-! ### tests -/
theorem tru_dr (hK : g.w0.K = X.K) {M : Store} {k : RK} {ρ : Rho} {σ : St} {w w' : Wd} {v : V} {d : D} {t : Bool} (s : Sr g.w0 ρ M w' σ) (r : rl g ρ σ k w w' v d) (e : truD (dr M d) = some t) : TruV X.K v w'.H t := tru_of (s.e0.K.trans hK) (s.con r) e
/-- the truth of a value -/
theorem t_truth (hK : g.w0.K = X.K) (hp : plainT a = true) {ka : RK} (ha : PE X a (GE g ka fa)) : PT X a (GT g fun ρ M => truR (fa ρ M)) := by
  refine PT.imp (pt_truth ha (plainT_ok hp)) fun σ H Q q => ?_
  refine ge_one (ka := ka) (rel := fun ρ σ _ _ b d => b = d) (F := fun ρ x M => Pv.opt (truD (dr M x)) M) anti_b ?_ q
  intro ρ M w w0 v x s ex r af
  obtain ⟨t, et, a2⟩ := Aft.opt af
  exact ⟨t, tru_dr hK s r et, a2.fin s rfl⟩
theorem GT.bind {ft : Rho → Store → Res Bool} {F : Rho → Bool → Store → Res Bool} {σ : St} {H : Hp} {Q : Bool → Hp → Prop} (q : GT g (fun ρ M => (ft ρ M).bind fun t M => F ρ t M) σ H Q) :
    GT g ft σ H fun t H1 => GT g (fun ρ M => F ρ t M) σ H1 Q := by
  obtain ⟨ρ, M, w, e, s, a⟩ := q
  refine ⟨ρ, M, w, e, s, Aft.mono (Aft.bind a fun w1 ex => anti_b ρ w w1 ex) ?_⟩
  rintro t H1 ⟨d, M1, w1, e1, ex1, s1, rfl, a1⟩
  exact ⟨ρ, M1, w1, e1, s1, a1⟩
theorem GT.ok {t : Bool} {σ : St} {H : Hp} {Q : Bool → Hp → Prop} (q : GT g (fun ρ M => .ok t M) σ H Q) : Q t H := by
  obtain ⟨ρ, M, w, e, s, a⟩ := q
  subst e
  exact a.fin s rfl
theorem t_not {ft : Rho → Store → Res Bool} (ha : PT X a (GT g ft)) : PT X (.UnaryOp .Not a pos) (GT g fun ρ M => (ft ρ M).bind fun b M => .ok (!b) M) := by
  refine PT.imp (pt_not ha) fun σ H Q q => ?_
  obtain ⟨ρ, M, w, e, s, a⟩ := GT.bind q
  exact ⟨ρ, M, w, e, s, a.mono fun t H1 h => GT.ok h⟩
theorem s_not (hK : g.w0.K = X.K) {ka : RK} (ha : PE X a (GE g ka fa)) : PE X (.UnaryOp .Not a pos) (GE g .rep fun ρ M => (truR (fa ρ M)).bind fun b M => .ok (.bl (!b)) M) := by
  refine PE.imp (pe_notT ha) fun σ H Q q => ?_
  refine ge_one (ka := ka) (Q := Q) (rel := fun ρ σ => rl g ρ σ .rep) (F := fun ρ x M => (Pv.opt (truD (dr M x)) M).bind fun b M => .ok (.bl (!b)) M) anti_rl ?_ ?_
  · intro ρ M w w0 v x s ex r af
    cases et : truD (dr M x) with
    | none => rw [et] at af; exact af.elim
    | some t =>
      rw [et] at af
      exact ⟨t, tru_dr hK s r et, Aft.fin (rel := rl g ρ σ .rep) af s (Rep.bl (!t))⟩
  · obtain ⟨ρ, M, w, e, s, a⟩ := q
    refine ⟨ρ, M, w, e, s, ?_⟩
    have e2 : ((truR (fa ρ M)).bind fun b M => Res.ok (D.bl (!b)) M) = ((fa ρ M).bind fun x M => (Pv.opt (truD (dr M x)) M).bind fun b M => Res.ok (D.bl (!b)) M) := by
      unfold truR
      cases fa ρ M <;> rfl
    rw [← e2]; exact a
/-- and, or over tests -/
def ResB (r : Res Bool) (k : Bool) (f : Store → Res Bool) : Res Bool := r.bind fun b M => if b = k then f M else .ok b M
theorem w_and1 {ft : Rho → Store → Res Bool} (ha : PT X a (GT g ft)) : PW X (.BoolOp .And [a] pos) (GT g fun ρ M => (ft ρ M).bind fun b M => match b with | true => .ok true M | false => .ok false M) := by
  refine ⟨fun whole pins s σ H Q I h => (pw_and1 ha).run whole pins s σ H Q I ?_⟩
  obtain ⟨ρ, M, w, e, s, a⟩ := h
  refine ⟨ρ, M, w, e, s, ?_⟩
  have e2 : ((ft ρ M).bind fun b M => match b with | true => Res.ok true M | false => Res.ok false M) = ft ρ M := by
    cases ft ρ M with
    | ok b M => cases b <;> rfl
    | _ => rfl
  rw [← e2]; exact a
theorem w_or1 {ft : Rho → Store → Res Bool} (ha : PT X a (GT g ft)) : PW X (.BoolOp .Or [a] pos) (GT g fun ρ M => (ft ρ M).bind fun b M => match b with | true => .ok true M | false => .ok false M) := by
  refine ⟨fun whole pins s σ H Q I h => (pw_or1 ha).run whole pins s σ H Q I ?_⟩
  obtain ⟨ρ, M, w, e, s, a⟩ := h
  refine ⟨ρ, M, w, e, s, ?_⟩
  have e2 : ((ft ρ M).bind fun b M => match b with | true => Res.ok true M | false => Res.ok false M) = ft ρ M := by
    cases ft ρ M with
    | ok b M => cases b <;> rfl
    | _ => rfl
  rw [← e2]; exact a
theorem w_and {ft fr : Rho → Store → Res Bool} {rest : List Expr} (ha : PT X a (GT g ft)) (hb : PW X (.BoolOp .And (b :: rest) pos) (GT g fr)) :
    PW X (.BoolOp .And (a :: b :: rest) pos) (GT g fun ρ M => (ft ρ M).bind fun t M => match t with | true => fr ρ M | false => .ok false M) := by
  refine ⟨fun whole pins s σ H Q I h => (pw_and ha hb).run whole pins s σ H Q I ?_⟩
  obtain ⟨ρ, M, w, e, s, a⟩ := GT.bind h
  refine ⟨ρ, M, w, e, s, a.mono fun t H1 h => ?_⟩
  cases t with
  | true => rw [if_pos rfl]; exact h
  | false => rw [if_neg (by decide)]; exact GT.ok h
theorem w_or {ft fr : Rho → Store → Res Bool} {rest : List Expr} (ha : PT X a (GT g ft)) (hb : PW X (.BoolOp .Or (b :: rest) pos) (GT g fr)) :
    PW X (.BoolOp .Or (a :: b :: rest) pos) (GT g fun ρ M => (ft ρ M).bind fun t M => match t with | true => .ok true M | false => fr ρ M) := by
  refine ⟨fun whole pins s σ H Q I h => (pw_or ha hb).run whole pins s σ H Q I ?_⟩
  obtain ⟨ρ, M, w, e, s, a⟩ := GT.bind h
  refine ⟨ρ, M, w, e, s, a.mono fun t H1 h => ?_⟩
  cases t with
  | true => rw [if_pos rfl]; exact GT.ok h
  | false => rw [if_neg (by decide)]; exact h
/-- and, or over values -/
theorem v_and (hK : g.w0.K = X.K) {fr : Rho → Store → Res D} {rest : List Expr} (ha : PE X a (GE g .rep fa)) (hb : PE X (.BoolOp .And (b :: rest) pos) (GE g .rep fr)) :
    PE X (.BoolOp .And (a :: b :: rest) pos) (GE g .rep fun ρ M => (fa ρ M).bind fun d M => (Pv.opt (truD (dr M d)) M).bind fun t M => match t with | true => fr ρ M | false => .ok d M) := by
  refine PE.imp (pe_andT ha hb) fun σ H Q q => ?_
  refine ge_one (ka := .rep) (rel := fun ρ σ => rl g ρ σ .rep) (F := fun ρ d M => (Pv.opt (truD (dr M d)) M).bind fun t M => match t with | true => fr ρ M | false => .ok d M) anti_rl ?_ q
  intro ρ M w w0 v x s ex r af
  cases et : truD (dr M x) with
  | none => rw [et] at af; exact af.elim
  | some t =>
    rw [et] at af
    refine ⟨t, tru_dr hK s r et, ?_⟩
    cases t with
    | true => rw [if_pos rfl]; exact ⟨ρ, M, w, rfl, s, af⟩
    | false => rw [if_neg (by decide)]; exact Aft.fin (rel := rl g ρ σ .rep) af s r
theorem v_or (hK : g.w0.K = X.K) {fr : Rho → Store → Res D} {rest : List Expr} (ha : PE X a (GE g .rep fa)) (hb : PE X (.BoolOp .Or (b :: rest) pos) (GE g .rep fr)) :
    PE X (.BoolOp .Or (a :: b :: rest) pos) (GE g .rep fun ρ M => (fa ρ M).bind fun d M => (Pv.opt (truD (dr M d)) M).bind fun t M => match t with | true => .ok d M | false => fr ρ M) := by
  refine PE.imp (pe_orT ha hb) fun σ H Q q => ?_
  refine ge_one (ka := .rep) (rel := fun ρ σ => rl g ρ σ .rep) (F := fun ρ d M => (Pv.opt (truD (dr M d)) M).bind fun t M => match t with | true => .ok d M | false => fr ρ M) anti_rl ?_ q
  intro ρ M w w0 v x s ex r af
  cases et : truD (dr M x) with
  | none => rw [et] at af; exact af.elim
  | some t =>
    rw [et] at af
    refine ⟨t, tru_dr hK s r et, ?_⟩
    cases t with
    | true => rw [if_pos rfl]; exact Aft.fin (rel := rl g ρ σ .rep) af s r
    | false => rw [if_neg (by decide)]; exact ⟨ρ, M, w, rfl, s, af⟩
theorem s_ite {ft : Rho → Store → Res Bool} (hc : PT X c (GT g ft)) (ha : PE X a (GE g .rep fa)) (hb : PE X b (GE g .rep fb)) :
    PE X (.IfExp c a b pos) (GE g .rep fun ρ M => (ft ρ M).bind fun t M => match t with | true => fa ρ M | false => fb ρ M) := by
  refine PE.imp (pe_ifExp hc ha hb) fun σ H Q q => ?_
  obtain ⟨ρ, M, w, e, s, a⟩ := q
  refine ⟨ρ, M, w, e, s, Aft.mono (Aft.bind a fun w1 ex => anti_rl (k := .rep) (σ := σ) ρ w w1 ex) ?_⟩
  rintro t H1 ⟨d, M1, w1, e1, ex1, s1, rfl, a1⟩
  cases t with
  | true => rw [if_pos rfl]; exact ⟨ρ, M1, w1, e1, s1, a1⟩
  | false => rw [if_neg (by decide)]; exact ⟨ρ, M1, w1, e1, s1, a1⟩

/-! ### argument lists, displays -/
theorem a_nil : PA X [] (GA g fun _ M => .ok [] M) := PA.imp pa_nil fun σ H Q ⟨ρ, M, w, e, s, a⟩ => by
  subst e
  exact a.fin s .nil
theorem anti_a {σ : St} : ∀ (ρ : Rho) (w w1 : Wd), Ext w w1 → ∀ (w' : Wd) (vs : List V) (ds : List D), Reps w' vs ds → Reps w' vs ds := fun _ _ _ _ _ _ _ h => h
theorem a_cons {es : List Expr} {fr : Rho → Store → Res (List D)} (hn : nst a = true) (ha : PE X a (GE g .rep fa)) (hr : PA X es (GA g fr)) :
    PA X (a :: es) (GA g fun ρ M => (fa ρ M).bind fun d M => (fr ρ M).bind fun ds M => .ok (d :: ds) M) := by
  refine PA.imp (pa_cons ha hr (star_ok hn)) fun σ H Q q => ?_
  refine ge_one (ka := .rep) (rel := fun ρ σ => fun _ w' vs ds => Reps w' vs ds) (F := fun ρ d M => (fr ρ M).bind fun ds M => .ok (d :: ds) M) (anti_a (σ := σ)) ?_ q
  intro ρ M w w0 v x s ex r af
  refine ⟨ρ, M, w, rfl, s, Aft.mono (Aft.bind af fun w1 ex => anti_a (σ := σ) ρ w w1 ex) ?_⟩
  rintro vs H1 ⟨ds, M1, w1, e1, ex1, s1, r1, a1⟩
  subst e1
  exact Aft.fin (rel := fun _ w' vs ds => Reps w' vs ds) a1 s1 (.cons (Rep.mono (ex1.wle s.wf) r) r1)
theorem s_tup {es : List Expr} {k : Nat} {fr : Rho → Store → Res (List D)} (hr : PA X es (GA g fr)) :
    PE X (.Tuple es k pos) (GE g .rep fun ρ M => (fr ρ M).bind fun ds M => if ds.length ≤ LIM then .ok (.tup ds) M else .fail) := by
  refine PE.imp (pe_tup hr) fun σ H Q q => ?_
  obtain ⟨ρ, M, w, e, s, a⟩ := q
  refine ⟨ρ, M, w, e, s, Aft.mono (Aft.bind a fun w1 ex => anti_rl (k := .rep) (σ := σ) ρ w w1 ex) ?_⟩
  rintro vs H1 ⟨ds, M1, w1, e1, ex1, s1, r1, a1⟩
  subst e1
  split at a1
  · rename_i hz
    refine ⟨by rw [r1.length]; exact hz, fun p n => ?_⟩
    exact Aft.new a1 s1 n (.tup (.inr rfl) upd_same (r1.mono (frozen_wle s1.wf n)))
  · exact a1.elim
theorem s_lst {es : List Expr} {fr : Rho → Store → Res (List D)} (hr : PA X es (GA g fr)) :
    PE X (.List es pos) (GE g .frs fun ρ M => (fr ρ M).bind fun ds M => if ds.length ≤ LIM then .ok (.lst ds) M else .fail) := by
  refine PE.imp (pe_lst hr) fun σ H Q q => ?_
  obtain ⟨ρ, M, w, e, s, a⟩ := q
  refine ⟨ρ, M, w, e, s, Aft.mono (Aft.bind a fun w1 ex => anti_rl (k := .frs) (σ := σ) ρ w w1 ex) ?_⟩
  rintro vs H1 ⟨ds, M1, w1, e1, ex1, s1, r1, a1⟩
  subst e1
  split at a1
  · rename_i hz
    refine ⟨by rw [r1.length]; exact hz, fun p n => ?_⟩
    exact Aft.newO a1 s1 n ⟨vs, upd_same, r1.mono (owned_wle s1.wf n)⟩
  · exact a1.elim
theorem s_dic0 : PE X (.Dict [] [] pos) (GE g .frs fun _ M => .ok (.dic []) M) := PE.imp pe_dnewK fun σ H Q ⟨ρ, M, w, e, s, a⟩ => by
  subst e
  intro p n
  exact Aft.newO a s n ⟨[], upd_same, rfl, .nil⟩

/-! ### subscripts -/
theorem atI_of {w : Wd} {vs : List V} {ds : List D} {i : Int} {d : D} (r : Reps w vs ds) (e : atI ds i = some d) : ∃ v, atI vs i = some v ∧ Rep w v d := by
  unfold atI at e ⊢
  rw [r.length]
  cases q : ixN ds.length i with
  | none => rw [q] at e; cases e
  | some j =>
    rw [q] at e
    exact r.get e
theorem op_idx (h : Cok T X g N sc) : IxR X (fun x y H Q => ∃ (w : Wd) (a b d : D), w.H = H ∧ w.K = X.K ∧ Con w x a ∧ Rep w y b ∧ idxD a b = some d ∧ ∀ v, Rep w v d → Q v H) := by
  rintro vE sE pins s σ H x y v u Q I rx ry ⟨w, a, b, d, rfl, hK, ca, rb, e, q⟩ hs
  cases a <;> cases b <;> simp only [idxD, reduceCtorEq] at e
  · obtain ⟨rfl, hl⟩ := ca
    cases rb
    obtain ⟨c, e1, rfl⟩ := Option.map_eq_some_iff.mp e
    exact ix_str vE sE pins s σ _ _ _ _ _ Q I rx ry ⟨_, _, c, rfl, rfl, hl, e1, q _ (.str _ (by show 1 ≤ LIM; decide))⟩ hs
  · obtain ⟨p, vs, rfl, hp, r⟩ := ca
    cases rb
    obtain ⟨v', e1, r1⟩ := atI_of r e
    exact ix_tup vE sE pins s σ _ _ _ _ _ Q I rx ry ⟨p, vs, _, v', rfl, rfl, SqT.of hp, e1, q _ r1⟩ hs
  · obtain ⟨p, vs, rfl, hp, r⟩ := ca
    cases rb
    obtain ⟨v', e1, r1⟩ := atI_of r e
    exact ix_list vE sE pins s σ _ _ _ _ _ Q I rx ry ⟨p, vs, _, v', rfl, rfl, SqL.of hp, e1, q _ r1⟩ hs
  · obtain ⟨p, vs, rfl, hp, r⟩ := ca
    cases rb
    obtain ⟨v', e1, r1⟩ := atI_of r e
    exact ix_list vE sE pins s σ _ _ _ _ _ Q I rx ry ⟨p, vs, _, v', rfl, rfl, by rw [← hK]; exact hp, e1, q _ r1⟩ hs
  all_goals
    split at e
    · rename_i key hk
      obtain ⟨p, kvs', rfl, hp, e1, e2⟩ := ca
      cases rx
      have ex := keyOf_V rb hk
      subst ex
      have := look_of key e1 e2
      rw [e] at this
      obtain ⟨v', hv, r'⟩ := this
      refine PyProof.Rows.tail_any (dict_typeIs I (DGet.k (k := key) hp)) PySem.F.slot_dict_getitem.lookup (d_getItem h.hu I (v := v') (by rw [← hv]; exact DGet.k hp) ry fun w' s' I' rw' => ⟨v', _, I', rw', q v' r'⟩) hs
    · cases e
end
end Pv

set_option Elab.async false
set_option linter.all false
set_option maxRecDepth 100000
set_option maxHeartbeats 4000000
namespace Pv
open PySem L2

def nsl : Expr → Bool
  | .Slice .. => false
  | _ => true
theorem nsl_ok {e : Expr} (h : nsl e = true) : PlainIx e := by
  intro o i
  cases e <;> first | rfl | cases h
def ncall : Expr → Bool
  | .Call .. => false
  | _ => true
theorem ncall_ok {o : Expr} {m : Str} {env : PySem.Env} (h : ncall o = true) : attributeBase o m env (eval o env) = eval o env := by
  cases o <;> first | rfl | cases h

section
variable {T : Tb} {X : Cx} {g : Gx} {N : List Str} {sc : Scope} {pos : Pos} {a b c : Expr} {fa fb fc : Rho → Store → Res D}
theorem s_idx (h : Cok T X g N sc) {ka : RK} (hk : ka ≠ .frs) (hb' : nsl b = true) (ha : PE X a (GE g ka fa)) (hb : PE X b (GE g .rep fb)) :
    PE X (.Subscript a b pos) (GE g .rep fun ρ M => (fa ρ M).bind fun x M => (fb ρ M).bind fun y M => Pv.opt (idxD (dr M x) y) M) := by
  refine PE.imp (pe_ix (op_idx h) ha hb (nsl_ok hb')) fun σ H Q q => ?_
  refine ge_two (ka := ka) (kb := .rep) (rel := fun ρ σ => rl g ρ σ .rep) (F := fun ρ x y M => Pv.opt (idxD (dr M x) y) M) hk anti_rl ?_ q
  intro ρ M w w0 w1 v u x y s rx ry af
  obtain ⟨d, ed, a3⟩ := af.optE
  exact ⟨w, dr M x, y, d, rfl, s.e0.K.trans h.kk, s.con rx, ry, ed, fun v' r' => a3.fin s r'⟩
/-! slices -/
def GO (g : Gx) (f : Rho → Store → Res (Option Int)) : TO := fun σ H Q => ∃ ρ M w, w.H = H ∧ Sr g.w0 ρ M w σ ∧ Aft g (fun _ _ b d => b = d) w ρ σ Q (f ρ M)
theorem PO.imp {e : Option Expr} {t t' : TO} (h : PO X e t) (k : ∀ σ H Q, t' σ H Q → t σ H Q) : PO X e t' := ⟨fun pins s σ H Q I q => h.run pins s σ H Q I (k σ H Q q)⟩
theorem anti_o : ∀ (ρ : Rho) (w w1 : Wd), Ext w w1 → ∀ (w' : Wd) (v d : Option Int), v = d → v = d := fun _ _ _ _ _ _ _ h => h
theorem o_none : PO X none (GO g fun _ M => .ok none M) := PO.imp po_none fun σ H Q ⟨ρ, M, w, e, s, a⟩ => by
  subst e
  exact a.fin s rfl
theorem o_some (ha : PE X a (GE g .rep fa)) : PO X (some a) (GO g fun ρ M => (fa ρ M).bind fun x M => match x with | .int i => .ok (some i) M | _ => .fail) := by
  refine PO.imp (po_some ha) fun σ H Q q => ?_
  refine ge_one (ka := .rep) (rel := fun ρ σ _ _ b d => b = d) (F := fun ρ x M => match x with | .int i => .ok (some i) M | _ => .fail) anti_o ?_ q
  intro ρ M w w0 v x s ex r af
  have r : Rep w v x := r
  cases r with
  | int i => exact ⟨i, rfl, Aft.fin (rel := fun _ _ (b d : Option Int) => b = d) af s rfl⟩
  | _ => exact af.elim
theorem cut_of {w : Wd} {vs : List V} {ds : List D} {lo hi : Option Int} (r : Reps w vs ds) : Reps w (cutV vs lo hi) (cutL ds lo hi) := by
  unfold cutV cutL
  rw [r.length]
  exact (r.drop _).take _
theorem cut_all {α : Type} {xs : List α} {lo hi : Option Int} (h : HT.sIx xs.length 0 lo = 0 ∧ HT.sIx xs.length xs.length hi = xs.length) : cutL xs lo hi = xs := by
  unfold cutL
  rw [h.1, h.2]; simp
theorem cutS_len {z : Str} {lo hi : Option Int} : (cutS z lo hi).length ≤ z.length := by
  unfold cutS
  show (List.toArray _).size ≤ z.cps.size
  simp only [List.size_toArray, List.length_take, List.length_drop, Array.length_toList]
  omega
theorem sl_all : SlR X (fun x lo hi H Q => ∃ (w : Wd) (σ : St) (ρ : Rho) (M : Store) (a d : D), w.H = H ∧ Sr g.w0 ρ M w σ ∧ Rep w x a ∧ sliceD a lo hi = some d ∧ Aft g (rl g ρ σ .rep) w ρ σ Q (.ok d M)) := by
  rintro pins s σ H x v vl vu lo hi sl Q I rx hs pl pu ⟨w, σ', ρ, M, a, d, rfl, sr, ra, e, af⟩
  cases ra <;> simp only [sliceD, reduceCtorEq, Option.some.injEq] at e
  · subst e
    rename_i z hz
    exact sl_str pins s σ _ _ v vl vu lo hi sl Q I rx hs pl pu ⟨z, rfl, hz, af.fin sr (.str _ (Nat.le_trans cutS_len hz))⟩
  · subst e
    rename_i p vs ds f hp r
    refine sl_tupA pins s σ _ _ v vl vu lo hi sl Q I rx hs pl pu ⟨p, vs, rfl, SqT.of hp, fun z => ?_, fun z p' n => ?_⟩
    · rw [r.length] at z
      rw [cut_all z] at af
      exact af.fin sr (.tup f hp r)
    · exact af.new sr n (.tup (.inr rfl) upd_same ((cut_of r).mono (frozen_wle sr.wf n)))
  · subst e
    rename_i p vs ds f hp r
    refine sl_list pins s σ _ _ v vl vu lo hi sl Q I rx hs pl pu ⟨p, vs, rfl, SqL.of hp, fun p' n => ?_⟩
    exact af.new sr n (.lst (.inr rfl) upd_same ((cut_of r).mono (frozen_wle sr.wf n)))
theorem s_slice {lo hi : Option Expr} {fl fh : Rho → Store → Res (Option Int)} {p2 : Pos} (ha : PE X a (GE g .rep fa)) (hl : PO X lo (GO g fl)) (hh : PO X hi (GO g fh)) :
    PE X (.Subscript a (.Slice lo hi none p2) pos) (GE g .rep fun ρ M => (fa ρ M).bind fun x M => (fl ρ M).bind fun l M => (fh ρ M).bind fun h M => Pv.opt (sliceD x l h) M) := by
  refine PE.imp (pe_slice (sl_all (g := g)) ha hl hh) fun σ H Q q => ?_
  refine ge_one (ka := .rep) (rel := fun ρ σ => rl g ρ σ .rep) (F := fun ρ x M => (fl ρ M).bind fun l M => (fh ρ M).bind fun h M => Pv.opt (sliceD x l h) M) anti_rl ?_ q
  intro ρ M w w0 v x s ex r af
  refine ⟨ρ, M, w, rfl, s, Aft.mono (Aft.bind af fun w1 ex => anti_rl (k := .rep) (σ := σ) ρ w w1 ex) ?_⟩
  rintro l H1 ⟨d, M1, w1, e1, ex1, s1, rfl, a1⟩
  refine ⟨ρ, M1, w1, e1, s1, Aft.mono (Aft.bind a1 fun w2 ex => anti_rl (k := .rep) (σ := σ) ρ w1 w2 ex) ?_⟩
  rintro h H2 ⟨d2, M2, w2, e2, ex2, s2, rfl, a2⟩
  obtain ⟨d3, ed, a3⟩ := a2.optE
  exact ⟨w2, σ, ρ, M2, x, d3, e2, s2, (Rep.mono (ex1.wle s.wf) r).mono (ex2.wle s1.wf), ed, a3⟩

/-! ### calls of defs -/
theorem aft_call {own : Bool} {cls : Nat → Value} (hc : g.cls = cls) {w : Wd} {ρ : Rho} {M : Store} {σ : St} {Q : VK} {r : Res D} (s : Sr g.w0 ρ M w σ) (af : Aft g (rl g ρ σ (if own then .frs else .rep)) w ρ σ Q r) :
    AftC cls own w Q (fun c d H => g.W c d σ H) r := by
  cases r with
  | ok d M' =>
    intro v w' ex wf st rr
    refine af v w' ex (s.ext ex wf st) ?_
    cases own with
    | false => exact rr
    | true => exact rr
  | exc c M' =>
    intro w' ex wf st
    rw [← hc]
    exact af w' ex (s.ext ex wf st)
  | fail => exact af
theorem s_call (h : Cok T X g N sc) {f : Nat} {fn : Fn} (hf : T.P[f]? = some fn) {x : Str} {p : Pos} {e : Expr} {es : List Expr} {fr : Rho → Store → Res (List D)} (hx : glB sc x = true) (hn : fn.name = x) (hst : (e :: es).all nst = true) (ha : PA X (e :: es) (GA g fr)) :
    PE X (.Call (.Name x p) (e :: es) [] pos) (GE g (if fn.own then .frs else .rep) fun ρ M => (fr ρ M).bind fun ds M => T.C f ds M) := by
  obtain ⟨fa, fd, ps, F⟩ := h.p.fn f fn hf
  subst hn
  obtain ⟨g1, g2⟩ := glB_of hx
  rw [List.all_cons, Bool.and_eq_true] at hst
  refine PE.imp (pe_callSD (dvs := []) (E := WE g.W) F.ok h.room (h.gl g1) F.mgf F.kp F.bd .nil (fun σ => passAt h.tk σ) ha g2 (star_ok hst.1) (star_any hst.2)) ?_
  rintro σ H Q ⟨ρ, M, w, e, s, a⟩
  refine ⟨ρ, M, w, e, s, Aft.mono (Aft.bind a fun w1 ex => anti_rl (k := if fn.own then .frs else .rep) (σ := σ) ρ w w1 ex) ?_⟩
  rintro vs H1 ⟨ds, M1, w1, e1, ex1, s1, r1, a1⟩
  rw [List.append_nil]
  have hl : ds.length = fn.np := by
    apply Classical.byContradiction
    intro z
    rw [h.p.len f fn ds M1 hf z] at a1
    exact a1
  exact ⟨r1.length.trans hl, ds, M1, w1, e1, s1.e0.K.trans h.kk, s1.wf, s1.sto, r1, aft_call h.gc s1 a1⟩
end
end Pv

set_option Elab.async false
set_option linter.all false
set_option maxRecDepth 100000
set_option maxHeartbeats 4000000
namespace Pv
open PySem L2 PySem.W

/-! ### greatest and least -/
theorem foldmax (a : Int) : ∀ r : List Int, r.foldl max a ∈ a :: r ∧ ∀ y ∈ a :: r, y ≤ r.foldl max a := by
  intro r
  induction r generalizing a with
  | nil => exact ⟨by simp, fun y h => by simp at h; subst h; exact Int.le_refl _⟩
  | cons b r ih =>
    obtain ⟨h1, h2⟩ := ih (max a b)
    rw [List.foldl_cons]
    refine ⟨?_, fun y h => ?_⟩
    · rcases List.mem_cons.mp h1 with h | h
      · rw [h]
        by_cases q : a ≤ b
        · rw [Int.max_eq_right q]; simp
        · rw [Int.max_eq_left (by omega)]; simp
      · exact List.mem_cons_of_mem _ (List.mem_cons_of_mem _ h)
    · have hm := h2 (max a b) List.mem_cons_self
      rcases List.mem_cons.mp h with h | h
      · subst h; omega
      · rcases List.mem_cons.mp h with h | h
        · subst h; omega
        · exact h2 y (List.mem_cons_of_mem _ h)
theorem foldmin (a : Int) : ∀ r : List Int, r.foldl min a ∈ a :: r ∧ ∀ y ∈ a :: r, r.foldl min a ≤ y := by
  intro r
  induction r generalizing a with
  | nil => exact ⟨by simp, fun y h => by simp at h; subst h; exact Int.le_refl _⟩
  | cons b r ih =>
    obtain ⟨h1, h2⟩ := ih (min a b)
    rw [List.foldl_cons]
    refine ⟨?_, fun y h => ?_⟩
    · rcases List.mem_cons.mp h1 with h | h
      · rw [h]
        by_cases q : a ≤ b
        · rw [Int.min_eq_left q]; simp
        · rw [Int.min_eq_right (by omega)]; simp
      · exact List.mem_cons_of_mem _ (List.mem_cons_of_mem _ h)
    · have hm := h2 (min a b) List.mem_cons_self
      rcases List.mem_cons.mp h with h | h
      · subst h; omega
      · rcases List.mem_cons.mp h with h | h
        · subst h; omega
        · exact h2 y (List.mem_cons_of_mem _ h)

/-- a value frozen, or of one's own -/
def CO (w : Wd) (v : V) (d : D) : Prop := Rep w v d ∨ ∃ p, v = .ref p ∧ Own w p d
theorem CO.con {w : Wd} {v : V} {d : D} (c : CO w v d) (h : ∀ n, d ≠ .hnd n) : Con w v d := by
  rcases c with c | ⟨p, rfl, o⟩
  · exact c.con h
  · exact o.con
theorem co_of {g : Gx} {ρ : Rho} {σ : St} {M : Store} {k : RK} {w w' : Wd} {v : V} {d : D} (s : Sr g.w0 ρ M w' σ) (r : rl g ρ σ k w w' v d) : CO w' v (dr M d) := by
  cases k with
  | rep =>
    have r : Rep w' v d := r
    cases d with
    | hnd h =>
      cases r with
      | hnd e =>
        have hl : h < M.length := by rw [← s.sto.len]; exact (List.getElem?_eq_some_iff.mp e).1
        have q : M[h]? = some M[h] := List.getElem?_eq_getElem hl
        refine .inr ⟨_, rfl, ?_⟩
        have := s.sto.at_ h _ _ e q
        show Own w' _ (match M[h]? with | some d => d | none => .non)
        rw [q]; exact this
    | _ => exact .inl r
  | frs =>
    obtain ⟨p, rfl, o, _⟩ := r
    rw [o.notH M]
    exact .inr ⟨p, rfl, o⟩
  | bor =>
    obtain ⟨i, h1, h2⟩ := r
    obtain ⟨p, e, o, _⟩ := s.ow i d h1
    rw [h2] at e
    cases e
    rw [o.notH M]
    exact .inr ⟨p, rfl, o⟩

theorem ext_of_intsOf : ∀ {ds : List D} {ns : List Int}, intsOf ds = some ns → ds = ns.map .int
  | [], ns, e => by cases e; rfl
  | .int i :: r, ns, e => by
    simp only [intsOf, Option.map_eq_some_iff] at e
    obtain ⟨l, e1, rfl⟩ := e
    rw [ext_of_intsOf e1]; rfl
  | .non :: _, _, e => by cases e
  | .bl _ :: _, _, e => by cases e
  | .str _ :: _, _, e => by cases e
  | .tup _ :: _, _, e => by cases e
  | .lst _ :: _, _, e => by cases e
  | .scr _ :: _, _, e => by cases e
  | .dic _ :: _, _, e => by cases e
  | .hnd _ :: _, _, e => by cases e
theorem isort_eq {a b : List Int} (h : a.Perm b) (s : a.Pairwise (· ≤ ·)) : a = isort b := os_sorted_mergeSort h s

section
variable {T : Tb} {X : Cx} {g : Gx} {N : List Str} {sc : Scope} {pos : Pos} {a b c : Expr} {fa fb fc : Rho → Store → Res D}
/-- what a builtin of one argument does, a fresh thing not made -/
def r1 (g : Gx) (k : F1) : List V → Hp → VK → Prop := fun vs H Q => ∃ (σ : St) (ρ : Rho) (M : Store) (w : Wd) (v : V) (a d : D), vs = [v] ∧ w.H = H ∧ Sr g.w0 ρ M w σ ∧ CO w v a ∧ fn1D k a = some d ∧ Aft g (rl g ρ σ .rep) w ρ σ Q (.ok d M)
theorem str_dig (n : Int) (h : 0 ≤ n ∧ n < 10) : (Str.ofString (toString n)).length ≤ LIM := by
  have e : n = 0 ∨ n = 1 ∨ n = 2 ∨ n = 3 ∨ n = 4 ∨ n = 5 ∨ n = 6 ∨ n = 7 ∨ n = 8 ∨ n = 9 := by omega
  rcases e with e | e | e | e | e | e | e | e | e | e <;> subst e <;> decide
theorem c_len (hK : g.w0.K = X.K) : CallR X (.builtin "len") (r1 g .len) := by
  rintro pins s σ H xs us Q I r ⟨σ', ρ, M, w, v, a, d, rfl, rfl, sr, co, e, af⟩
  obtain ⟨n, e', rfl⟩ := Option.map_eq_some_iff.mp e
  clear e
  have c := co.con (by rintro n rfl; cases e')
  have q := af.fin sr (Rep.int n)
  cases a <;> simp only [lenD, reduceCtorEq, Option.some.injEq] at e' <;> subst e'
  · obtain ⟨rfl, hz⟩ := c
    exact call_len pins s σ _ _ _ Q I r ⟨_, _, rfl, ⟨hz, rfl⟩, q⟩
  · obtain ⟨p, vs, rfl, hp, rr⟩ := c
    refine call_len pins s σ _ _ _ Q I r ⟨_, _, rfl, .inr ⟨vs, SqT.of hp, rfl⟩, ?_⟩
    rw [rr.length]; exact q
  · obtain ⟨p, vs, rfl, hp, rr⟩ := c
    refine call_len pins s σ _ _ _ Q I r ⟨_, _, rfl, .inl ⟨vs, SqL.of hp, rfl⟩, ?_⟩
    rw [rr.length]; exact q
  · obtain ⟨p, vs, rfl, hp, rr⟩ := c
    refine call_len pins s σ _ _ _ Q I r ⟨_, _, rfl, .inl ⟨vs, by rw [← hK, ← sr.e0.K]; exact hp, rfl⟩, ?_⟩
    rw [rr.length]; exact q
  · obtain ⟨p, kvs, rfl, hp, e1, rr⟩ := c
    refine call_lenD pins s σ _ _ _ Q I r ⟨p, kvs, rfl, hp, ?_⟩
    have := congrArg List.length e1
    simp only [List.length_map] at this
    rw [this]; exact q
theorem c_abs : CallR X (.builtin "abs") (r1 g .abs) := by
  rintro pins s σ H xs us Q I r ⟨σ', ρ, M, w, v, a, d, rfl, rfl, sr, co, e, af⟩
  cases a <;> simp only [fn1D, reduceCtorEq, Option.some.injEq] at e
  subst e
  cases co.con (fun n z => nomatch z)
  exact call_abs pins s σ _ _ _ Q I r ⟨_, rfl, af.fin sr (.int _)⟩
theorem c_max (hc : X.calm = true) (hu : X.A.units + 64 < cLine) : CallR X (.builtin "max") (r1 g .max) := by
  rintro pins s σ H xs us Q I r ⟨σ', ρ, M, w, v, a, d, rfl, rfl, sr, co, e, af⟩
  cases a <;> simp only [fn1D, reduceCtorEq] at e
  all_goals
    obtain ⟨m, e', rfl⟩ := Option.map_eq_some_iff.mp e
    obtain ⟨ns, e1, e2⟩ := Option.bind_eq_some_iff.mp e'
    have q := af.fin sr (Rep.int m)
    obtain ⟨p, vs, rfl, hp, rr⟩ := co.con (fun n z => nomatch z)
    have hv := rr.ints e1
    subst hv
  · cases ns with
    | nil => cases e2
    | cons n ns =>
      obtain ⟨its, rv, pl, _⟩ := I.tuple (SqT.of hp)
      rw [Vals.ref1 r]
      have hI := rv.ints
      refine max_tuple_data (x := .int n) (xs := ns.map .int) (I.ok.hd hc) pl (as := []) ?_ ⟨?_, ?_⟩ ?_ ?_
      · have := hI.reads s.heap
        simpa using this
      · intro x hx y hy
        rw [← List.map_cons (f := PyData.int)] at hx hy
        obtain ⟨i, _, rfl⟩ := List.mem_map.mp hx
        obtain ⟨j, _, rfl⟩ := List.mem_map.mp hy
        rfl
      · intro x hx
        rw [← List.map_cons (f := PyData.int)] at hx
        obtain ⟨i, _, rfl⟩ := List.mem_map.mp hx
        exact fun z => nomatch z
      · have hd : ∀ l : List Int, PyData.depthAll (l.map .int) = 0 := by
          intro l
          induction l with
          | nil => rfl
          | cons i l ih => simp only [List.map_cons, PyData.depthAll, PyData.depth, ih]; rfl
        have := hd (n :: ns)
        rw [List.map_cons] at this
        rw [this]; omega
      · intro i v' h' tk bs hv' hr hk
        rw [maxD_ints] at hr
        cases hr with
        | int _ t =>
          simp only [maxL, Option.some.injEq] at e2
          subst e2
          exact ⟨.int _, _, I.kept hk, ⟨t, rfl⟩, q⟩
  · cases ns with
    | nil => cases e2
    | cons n ns =>
      refine cr_max hc pins s σ _ _ _ Q I r ⟨p, n :: ns, rfl, SqL.of hp, Nat.zero_lt_succ _, fun m' h1 h2 => ?_⟩
      simp only [maxL, Option.some.injEq] at e2
      obtain ⟨f1, f2⟩ := foldmax n ns
      have : m' = m := by
        have a1 := h2 _ f1
        have a2 := f2 _ h1
        omega
      subst this
      exact q
theorem c_min (hc : X.calm = true) : CallR X (.builtin "min") (r1 g .min) := by
  rintro pins s σ H xs us Q I r ⟨σ', ρ, M, w, v, a, d, rfl, rfl, sr, co, e, af⟩
  cases a <;> simp only [fn1D, reduceCtorEq] at e
  obtain ⟨m, e', rfl⟩ := Option.map_eq_some_iff.mp e
  obtain ⟨ns, e1, e2⟩ := Option.bind_eq_some_iff.mp e'
  have q := af.fin sr (Rep.int m)
  obtain ⟨p, vs, rfl, hp, rr⟩ := co.con (fun n z => nomatch z)
  have hv := rr.ints e1
  subst hv
  cases ns with
  | nil => cases e2
  | cons n ns =>
    refine cr_min hc pins s σ _ _ _ Q I r ⟨p, n :: ns, rfl, SqL.of hp, Nat.zero_lt_succ _, fun m' h1 h2 => ?_⟩
    simp only [minL, Option.some.injEq] at e2
    obtain ⟨f1, f2⟩ := foldmin n ns
    have : m' = m := by
      have a1 := h2 _ f1
      have a2 := f2 _ h1
      omega
    subst this
    exact q
theorem c_sum (hc : X.calm = true) : CallR X (.builtin "sum") (r1 g .sum) := by
  rintro pins s σ H xs us Q I r ⟨σ', ρ, M, w, v, a, d, rfl, rfl, sr, co, e, af⟩
  cases a <;> simp only [fn1D, reduceCtorEq] at e
  obtain ⟨ns, e1, rfl⟩ := Option.map_eq_some_iff.mp e
  obtain ⟨p, vs, rfl, hp, rr⟩ := co.con (fun n z => nomatch z)
  have hv := rr.ints e1
  subst hv
  exact cr_sum hc pins s σ _ _ _ Q I r ⟨p, ns, rfl, SqL.of hp, af.fin sr (.int _)⟩
theorem c_all (hc : X.calm = true) : CallR X (.builtin "all") (r1 g .all) := by
  rintro pins s σ H xs us Q I r ⟨σ', ρ, M, w, v, a, d, rfl, rfl, sr, co, e, af⟩
  cases a <;> simp only [fn1D, reduceCtorEq] at e
  obtain ⟨ns, e1, rfl⟩ := Option.map_eq_some_iff.mp e
  obtain ⟨p, vs, rfl, hp, rr⟩ := co.con (fun n z => nomatch z)
  have hv := rr.bools e1
  subst hv
  exact cr_all hc pins s σ _ _ _ Q I r ⟨p, ns, rfl, SqL.of hp, af.fin sr (.bl _)⟩
theorem c_any (hc : X.calm = true) : CallR X (.builtin "any") (r1 g .any) := by
  rintro pins s σ H xs us Q I r ⟨σ', ρ, M, w, v, a, d, rfl, rfl, sr, co, e, af⟩
  cases a <;> simp only [fn1D, reduceCtorEq] at e
  obtain ⟨ns, e1, rfl⟩ := Option.map_eq_some_iff.mp e
  obtain ⟨p, vs, rfl, hp, rr⟩ := co.con (fun n z => nomatch z)
  have hv := rr.bools e1
  subst hv
  exact cr_any hc pins s σ _ _ _ Q I r ⟨p, ns, rfl, SqL.of hp, af.fin sr (.bl _)⟩
theorem c_int : CallR X (.type "int") (r1 g .int) := by
  rintro pins s σ H xs us Q I r ⟨σ', ρ, M, w, v, a, d, rfl, rfl, sr, co, e, af⟩
  cases a <;> simp only [fn1D, reduceCtorEq, Option.some.injEq] at e
  · subst e
    cases co.con (fun n z => nomatch z)
    refine call_int1 pins s σ _ _ _ Q I r (.inr ⟨_, rfl, ?_⟩)
    exact af.fin sr (.int _)
  · subst e
    cases co.con (fun n z => nomatch z)
    exact call_int1 pins s σ _ _ _ Q I r (.inl ⟨_, rfl, af.fin sr (.int _)⟩)
theorem c_str : CallR X (.type "str") (r1 g .str) := by
  rintro pins s σ H xs us Q I r ⟨σ', ρ, M, w, v, a, d, rfl, rfl, sr, co, e, af⟩
  cases a <;> simp only [fn1D, reduceCtorEq, Option.ite_none_right_eq_some, Option.some.injEq] at e
  obtain ⟨e1, rfl⟩ := e
  cases co.con (fun n z => nomatch z)
  refine call_str_int pins s σ _ _ _ Q I r ⟨_, rfl, ?_, af.fin sr (.str _ (str_dig _ e1))⟩
  rename_i n
  have e : n = 0 ∨ n = 1 ∨ n = 2 ∨ n = 3 ∨ n = 4 ∨ n = 5 ∨ n = 6 ∨ n = 7 ∨ n = 8 ∨ n = 9 := by omega
  rcases e with e | e | e | e | e | e | e | e | e | e <;> subst e <;> decide
theorem c_tuple : CallR X (.type "tuple") (r1 g .tuple) := by
  rintro pins s σ H xs us Q I r ⟨σ', ρ, M, w, v, a, d, rfl, rfl, sr, co, e, af⟩
  cases a <;> simp only [fn1D, reduceCtorEq, Option.some.injEq] at e
  · subst e
    rcases co with co | ⟨p, rfl, o⟩
    · cases co with
      | tup f hp rr => exact call_tuple_of pins s σ _ _ _ Q I r ⟨_, _, rfl, .inr ⟨SqT.of hp, af.fin sr (.tup f hp rr)⟩⟩
    · exact o.elim
  · subst e
    obtain ⟨p, vs, rfl, hp, rr⟩ := co.con (fun n z => nomatch z)
    exact call_tuple_of pins s σ _ _ _ Q I r ⟨p, vs, rfl, .inl ⟨SqL.of hp, fun l n => af.new sr n (.tup (.inr rfl) upd_same (rr.mono (frozen_wle sr.wf n)))⟩⟩
/-- the reading of a call with one argument -/
theorem ga_one {k : F1} {ka : RK} {σ : St} {H : Hp} {Q : VK} (q : GE g .rep (fun ρ M => (fa ρ M).bind fun x M => Pv.opt (fn1D k (dr M x)) M) σ H Q) :
    tCB (r1 g k) (tCons (GE g ka fa) tNil) σ H Q := by
  refine ge_one (ka := ka) (rel := fun ρ σ => rl g ρ σ .rep) (F := fun ρ x M => Pv.opt (fn1D k (dr M x)) M) anti_rl ?_ q
  intro ρ M w w0 v x s ex r af
  obtain ⟨d, ed, a3⟩ := af.optE
  exact ⟨σ, ρ, M, w, v, dr M x, d, rfl, rfl, s, co_of s r, ed, a3⟩
theorem bm {x : Str} (h : x ∈ bltN) : x ∈ bltN := h
theorem s_fn1 (h : Cok T X g N sc) {k : F1} {ka : RK} {x : Str} {p : Pos} (hx : isB sc x (f1N k) = true) (hn : nst a = true) (ha : PE X a (GE g ka fa)) :
    PE X (.Call (.Name x p) [a] [] pos) (GE g .rep fun ρ M => (fa ρ M).bind fun x M => Pv.opt (fn1D k (dr M x)) M) := by
  obtain ⟨rfl, e⟩ := isB_of hx
  have pa : PA X [a] (tCons (GE g ka fa) tNil) := pa_cons ha pa_nil (star_ok hn)
  have hg := h.gl e
  cases k
  · exact PE.imp (pe_callB (c_len h.kk) hg (h.blt (by decide)) (by decide +kernel) pa (by decide) (by decide) (star_ok hn) rfl) fun _ _ _ q => ga_one q
  · exact PE.imp (pe_callB c_abs hg (h.blt (by decide)) (by decide +kernel) pa (by decide) (by decide) (star_ok hn) rfl) fun _ _ _ q => ga_one q
  · exact PE.imp (pe_callB (c_max h.calm h.hu64) hg (h.blt (by decide)) (by decide +kernel) pa (by decide) (by decide) (star_ok hn) rfl) fun _ _ _ q => ga_one q
  · exact PE.imp (pe_callB (c_min h.calm) hg (h.blt (by decide)) (by decide +kernel) pa (by decide) (by decide) (star_ok hn) rfl) fun _ _ _ q => ga_one q
  · exact PE.imp (pe_callB (c_sum h.calm) hg (h.blt (by decide)) (by decide +kernel) pa (by decide) (by decide) (star_ok hn) rfl) fun _ _ _ q => ga_one q
  · exact PE.imp (pe_callB (c_all h.calm) hg (h.blt (by decide)) (by decide +kernel) pa (by decide) (by decide) (star_ok hn) rfl) fun _ _ _ q => ga_one q
  · exact PE.imp (pe_callB (c_any h.calm) hg (h.blt (by decide)) (by decide +kernel) pa (by decide) (by decide) (star_ok hn) rfl) fun _ _ _ q => ga_one q
  · exact PE.imp (pe_callTy c_int hg (h.blt (by decide)) (by decide +kernel) pa (by decide) (by decide) (star_ok hn) rfl) fun _ _ _ q => ga_one q
  · exact PE.imp (pe_callTy c_str hg (h.blt (by decide)) (by decide +kernel) pa (by decide) (by decide) (star_ok hn) rfl) fun _ _ _ q => ga_one q
  · exact PE.imp (pe_callTy c_tuple hg (h.blt (by decide)) (by decide +kernel) pa (by decide) (by decide) (star_ok hn) rfl) fun _ _ _ q => ga_one q
end
end Pv

set_option Elab.async false
set_option linter.all false
set_option maxRecDepth 100000
set_option maxHeartbeats 4000000
namespace Pv
open PySem L2

/-! ### stores into slots -/
theorem Sr.set {w0 w : Wd} {ρ : Rho} {M : Store} {σ : St} {i : Nat} {v : V} {d : D} (s : Sr w0 ρ M w σ) (r : Rep w v d) (hi : i < ρ.length) : Sr w0 (ρ.set i (.sh d)) M w (σ.set i (some v)) where
  wf := s.wf
  e0 := s.e0
  sto := s.sto
  len := by simpa using s.len
  sh := fun j e h => by
    by_cases q : i = j
    · subst q
      rw [List.getElem?_set_self hi] at h
      cases h
      exact ⟨v, by rw [List.getElem?_set_self (by rw [← s.len]; exact hi)], r⟩
    · rw [List.getElem?_set_ne q] at h
      obtain ⟨u, a, b⟩ := s.sh j e h
      exact ⟨u, by rw [List.getElem?_set_ne q]; exact a, b⟩
  ow := fun j e h => by
    by_cases q : i = j
    · subst q
      rw [List.getElem?_set_self hi] at h
      cases h
    · rw [List.getElem?_set_ne q] at h
      obtain ⟨u, a, b⟩ := s.ow j e h
      exact ⟨u, by rw [List.getElem?_set_ne q]; exact a, b⟩
  dj := fun j k d e p h1 h2 h3 h4 => by
    by_cases q : i = j
    · subst q
      rw [List.getElem?_set_self hi] at h1
      cases h1
    · by_cases q' : i = k
      · subst q'
        rw [List.getElem?_set_self hi] at h2
        cases h2
      · rw [List.getElem?_set_ne q] at h1 h3
        rw [List.getElem?_set_ne q'] at h2 h4
        exact s.dj j k d e p h1 h2 h3 h4
theorem Sr.forget {w0 w : Wd} {ρ : Rho} {M : Store} {σ : St} {i : Nat} {o : Option V} (s : Sr w0 ρ M w σ) : Sr w0 (ρ.set i .no) M w (σ.set i o) where
  wf := s.wf
  e0 := s.e0
  sto := s.sto
  len := by simpa using s.len
  sh := fun j e h => by
    by_cases q : i = j
    · subst q
      by_cases hi : i < ρ.length
      · rw [List.getElem?_set_self hi] at h; cases h
      · rw [List.getElem?_eq_none (by simpa using hi)] at h; cases h
    · rw [List.getElem?_set_ne q] at h
      obtain ⟨u, a, b⟩ := s.sh j e h
      exact ⟨u, by rw [List.getElem?_set_ne q]; exact a, b⟩
  ow := fun j e h => by
    by_cases q : i = j
    · subst q
      by_cases hi : i < ρ.length
      · rw [List.getElem?_set_self hi] at h; cases h
      · rw [List.getElem?_eq_none (by simpa using hi)] at h; cases h
    · rw [List.getElem?_set_ne q] at h
      obtain ⟨u, a, b⟩ := s.ow j e h
      exact ⟨u, by rw [List.getElem?_set_ne q]; exact a, b⟩
  dj := fun j k d e p h1 h2 h3 h4 => by
    have ne : ∀ (j : Nat) (d : D), (ρ.set i .no)[j]? = some (.ow d) → i ≠ j := by
      rintro j d h rfl
      by_cases hi : i < ρ.length
      · rw [List.getElem?_set_self hi] at h; cases h
      · rw [List.getElem?_eq_none (by simpa using hi)] at h; cases h
    have q := ne j d h1
    have q' := ne k e h2
    rw [List.getElem?_set_ne q] at h1 h3
    rw [List.getElem?_set_ne q'] at h2 h4
    exact s.dj j k d e p h1 h2 h3 h4
theorem Sr.wipe {w0 w : Wd} {ρ : Rho} {M : Store} {σ : St} (s : Sr w0 ρ M w σ) : ∀ vs : List Nat, Sr w0 (wipeR ρ vs) M w (wipe σ vs)
  | [] => s
  | v :: vs => by
    unfold wipeR L2.wipe
    exact (s.wipe vs).forget
def setVs : St → List Nat → List V → St
  | σ, i :: is, v :: vs => setVs (σ.set i (some v)) is vs
  | σ, _, _ => σ
theorem Sr.setSs {w0 w : Wd} : ∀ {tg : List Nat} {ρ ρ1 : Rho} {M : Store} {σ : St} {vs : List V} {ds : List D}, Sr w0 ρ M w σ → Reps w vs ds → setSs ρ tg ds = some ρ1 → Sr w0 ρ1 M w (setVs σ tg vs) ∧ vs.length = tg.length
  | [], ρ, ρ1, M, σ, _, _, s, .nil, e => by
    simp only [Pv.setSs, Option.some.injEq] at e
    subst e
    exact ⟨s, rfl⟩
  | i :: is, ρ, ρ1, M, σ, _, _, s, .cons r t, e => by
    simp only [Pv.setSs, setS] at e
    split at e
    · rename_i hi
      obtain ⟨h1, h2⟩ := Sr.setSs (s.set r hi) t e
      exact ⟨h1, by simp [h2]⟩
    · cases e
  | [], _, _, _, _, _, _, _, .cons _ _, e => by cases e
  | _ :: _, _, _, _, _, _, _, _, .nil, e => by cases e
theorem wipe_set {σ : St} {i : Nat} {o : Option V} : ∀ {vs : List Nat}, i ∈ vs → wipe (σ.set i o) vs = wipe σ vs
  | v :: vs, h => by
    unfold wipe
    by_cases q : i ∈ vs
    · rw [wipe_set q]
    · have e : i = v := by
        rcases List.mem_cons.mp h with e | e
        · exact e
        · exact absurd e q
      subst e
      have : ∀ vs : List Nat, i ∉ vs → wipe (σ.set i o) vs = (wipe σ vs).set i o := by
        intro vs
        induction vs with
        | nil => intro _; rfl
        | cons u us ih =>
          intro hn
          have h1 : u ≠ i := fun z => hn (by simp [z])
          have h2 : i ∉ us := fun z => hn (List.mem_cons_of_mem _ z)
          unfold wipe
          rw [ih h2, List.set_comm _ _ (Ne.symm h1)]
      rw [this vs q, List.set_set]
theorem wipe_setVs {vs : List Nat} : ∀ {tg : List Nat} {us : List V} {σ : St}, (∀ i ∈ tg, i ∈ vs) → wipe (setVs σ tg us) vs = wipe σ vs
  | [], _, _, _ => rfl
  | _ :: _, [], _, _ => rfl
  | i :: is, u :: us, σ, h => by
    unfold setVs
    rw [wipe_setVs fun j hj => h j (List.mem_cons_of_mem _ hj), wipe_set (h i List.mem_cons_self)]

/-! ### targets -/
def gNs : List Nat → TGs
  | [] => gNil
  | i :: is => gCons (gName i) (gNs is)
theorem gNs_ok : ∀ {tg : List Nat} {vs : List V} {σ : St} {H : Hp} {Q : St → Hp → Prop}, vs.length = tg.length → Q (setVs σ tg vs) H → gNs tg vs σ H Q
  | [], [], _, _, _, _, h => ⟨rfl, h⟩
  | i :: is, v :: vs, σ, H, Q, hl, h => ⟨v, vs, rfl, gNs_ok (by simpa using hl) h⟩
def gT (K : PySem.W.Frag) (tg : List Nat) (tt : Bool) : TG := match tt with
  | false => match tg with
    | [i] => gName i
    | _ => fun _ _ _ _ => False
  | true => fun v σ H Q => gTup K tg.length (gNs tg) v σ H Q ∨ gUnl K tg.length (gNs tg) v σ H Q
/-- what bindT says, the target's reading does -/
theorem gT_ok {K : PySem.W.Frag} {w0 w : Wd} {tg : List Nat} {tt : Bool} {ρ ρ1 : Rho} {M : Store} {σ : St} {v : V} {d : D} {Q : St → Hp → Prop} (s : Sr w0 ρ M w σ) (r : Rep w v d) (e : bindT tg tt ρ d = some ρ1)
    (q : ∀ us, Sr w0 ρ1 M w (setVs σ tg us) → Q (setVs σ tg us) w.H) : gT K tg tt v σ w.H Q := by
  cases tt with
  | false =>
    unfold bindT at e
    match tg, e with
    | [i], e =>
      simp only [setS] at e
      split at e
      · rename_i hi
        cases e
        exact q [v] (s.set r hi)
      · cases e
  | true =>
    cases d <;> simp only [bindT, reduceCtorEq] at e
    · cases r with
      | tup f h rr =>
        obtain ⟨h1, h2⟩ := s.setSs rr e
        exact .inl ⟨_, _, rfl, SqT.of h, h2, gNs_ok h2 (q _ h1)⟩
    · cases r with
      | lst f h rr =>
        obtain ⟨h1, h2⟩ := s.setSs rr e
        exact .inr ⟨_, _, rfl, SqL.of h, h2, gNs_ok h2 (q _ h1)⟩
section
variable {X : Cx} {N : List Str} {sc sc' : Scope} {pos : Pos}
/-- the names of a target stand in X -/
def TgOk (X : Cx) (i : Nat) (x : Str) : Prop := X.N[i]? = some x ∧ L2.Loc X.env.scope x ∧ (X.fn x = true ∨ X.env.scope.names.lookup x = some .local)
theorem pg_gNs (nd : X.N.Nodup) (ok : ∀ i x, tgB N sc' i x = true → TgOk X i x) : ∀ {tg : List Nat} {es : List Expr}, tgsB N sc' tg es = true → PGs X es (gNs tg) ∧ (assignEach es X.env).length = tg.length ∧ (assignEach es X.env).findIdx? (·.1) = none
  | [], [], _ => ⟨pgs_nil, rfl, rfl⟩
  | [], _ :: _, h => by cases h
  | _ :: _, [], h => by cases h
  | i :: is, e :: es, h => by
    cases e with
    | Name x p =>
      simp only [tgsB, Bool.and_eq_true] at h
      obtain ⟨h1, h2, h3⟩ := ok i x h.1
      obtain ⟨k1, k2, k3⟩ := pg_gNs nd ok h.2
      refine ⟨pgs_cons (pg_name nd h1 h2 h3) k1, ?_, ?_⟩
      · show (_ :: assignEach es X.env).length = _
        simp [k2]
      · show (_ :: assignEach es X.env).findIdx? _ = none
        rw [List.findIdx?_cons]
        simp [k3]
    | _ => simp only [tgsB, Bool.false_eq_true] at h
theorem pg_gT (hc : X.calm = true) (nd : X.N.Nodup) (ok : ∀ i x, tgB N sc' i x = true → TgOk X i x) {tg : List Nat} {tt : Bool} {e : Expr} (h : targetB N sc' tg tt e = true) : PG X e (gT X.K tg tt) := by
  cases tt with
  | false =>
    unfold targetB at h
    match tg, e, h with
    | [i], .Name x p, h =>
      obtain ⟨h1, h2, h3⟩ := ok i x h
      exact pg_name nd h1 h2 h3
  | true =>
    cases e with
    | Tuple es k p =>
      obtain ⟨k1, k2, k3⟩ := pg_gNs nd ok (show tgsB N sc' tg es = true from h)
      refine ⟨fun pins s σ H v u Q I r hw => ?_⟩
      rcases hw with hw | hw
      · exact (pg_tup hc k1 k2 k3).run pins s σ H v u Q I r hw
      · exact (pg_unl hc k1 k2 k3).run pins s σ H v u Q I r hw
    | _ => simp only [targetB, Bool.false_eq_true] at h
end
end Pv

set_option Elab.async false
set_option linter.all false
set_option maxRecDepth 100000
set_option maxHeartbeats 4000000
namespace Pv
open PySem L2

section
variable {T : Tb} {X : Cx} {g : Gx} {N : List Str} {sc : Scope} {pos : Pos} {a b c : Expr} {fa fb fc : Rho → Store → Res D}
/-! ### max, min of two -/
def r2 (g : Gx) (k : F2) : List V → Hp → VK → Prop := fun vs H Q => ∃ (w : Wd) (v u : V) (x y d : D), vs = [v, u] ∧ w.H = H ∧ Rep w v x ∧ Rep w u y ∧ fn2D k x y = some d ∧ ∀ z, Rep w z d → Q z H
theorem c2_max (hc : X.calm = true) : CallR X (.builtin "max") (r2 g .max) := by
  rintro pins s σ H xs us Q I r ⟨w, v, u, x, y, d, rfl, rfl, rx, ry, e, q⟩
  cases rx <;> cases ry <;> simp only [fn2D, reduceCtorEq, Option.some.injEq] at e
  subst e
  exact call_max2 hc pins s σ _ _ _ Q I r ⟨_, _, rfl, q _ (.int _)⟩
theorem c2_min (hc : X.calm = true) : CallR X (.builtin "min") (r2 g .min) := by
  rintro pins s σ H xs us Q I r ⟨w, v, u, x, y, d, rfl, rfl, rx, ry, e, q⟩
  cases rx <;> cases ry <;> simp only [fn2D, reduceCtorEq, Option.some.injEq] at e
  subst e
  exact call_min2 hc pins s σ _ _ _ Q I r ⟨_, _, rfl, q _ (.int _)⟩
theorem ga_two {k : F2} {σ : St} {H : Hp} {Q : VK} (q : GE g .rep (fun ρ M => (fa ρ M).bind fun x M => (fb ρ M).bind fun y M => Pv.opt (fn2D k x y) M) σ H Q) :
    tCB (r2 g k) (tCons (GE g .rep fa) (tCons (GE g .rep fb) tNil)) σ H Q := by
  refine ge_two (ka := .rep) (kb := .rep) (rel := fun ρ σ => rl g ρ σ .rep) (F := fun ρ x y M => Pv.opt (fn2D k x y) M) (fun z => nomatch z) anti_rl ?_ q
  intro ρ M w w0 w1 v u x y s rx ry af
  obtain ⟨d, ed, a3⟩ := af.optE
  exact ⟨w, v, u, x, y, d, rfl, rfl, rx, ry, ed, fun z r => a3.fin s r⟩
theorem s_fn2 (h : Cok T X g N sc) {k : F2} {x : Str} {p : Pos} (hx : isB sc x (f2N k) = true) (hn : nst a = true) (hn' : nst b = true) (ha : PE X a (GE g .rep fa)) (hb : PE X b (GE g .rep fb)) :
    PE X (.Call (.Name x p) [a, b] [] pos) (GE g .rep fun ρ M => (fa ρ M).bind fun x M => (fb ρ M).bind fun y M => Pv.opt (fn2D k x y) M) := by
  obtain ⟨rfl, e⟩ := isB_of hx
  have pa : PA X [a, b] (tCons (GE g .rep fa) (tCons (GE g .rep fb) tNil)) := pa_cons ha (pa_cons hb pa_nil (star_ok hn')) (star_ok hn)
  have hp : (backTo pos (starEach [b] X.env)).any (·.1) = false := star_any (by simp [hn'])
  have hg := h.gl e
  cases k
  · exact PE.imp (pe_callB (c2_max h.calm) hg (h.blt (by decide)) (by decide +kernel) pa (by decide) (by decide) (star_ok hn) hp) fun _ _ _ q => ga_two q
  · exact PE.imp (pe_callB (c2_min h.calm) hg (h.blt (by decide)) (by decide +kernel) pa (by decide) (by decide) (star_ok hn) hp) fun _ _ _ q => ga_two q

/-! ### isinstance -/
def tyS : Ty → String
  | .int => "int" | .bool => "bool" | .tuple => "tuple" | .str => "str"
theorem tyx_of {K : PySem.W.Frag} {w : Wd} {v : V} {d : D} {t : Ty} {k : Bool} (c : Con w v d) (e : isiD d t = some k) : ∃ u, TyX K w.H v u ∧ PySem.W.kitOne K u (.type (tyS t)) = some k := by
  cases d with
  | non => cases c; refine ⟨_, .base .non, kit_ty ?_⟩; cases t <;> cases e <;> decide +kernel
  | bl b => cases c; refine ⟨_, .base (.bl b), kit_ty ?_⟩; cases t <;> cases e <;> decide +kernel
  | int i => cases c; refine ⟨_, .base (.int i), kit_ty ?_⟩; cases t <;> cases e <;> decide +kernel
  | str x => obtain ⟨rfl, _⟩ := c; refine ⟨_, .base (.str x), kit_ty ?_⟩; cases t <;> cases e <;> decide +kernel
  | tup ds =>
    obtain ⟨p, vs, rfl, hp, _⟩ := c
    refine ⟨_, .base (.tup hp), kit_ty ?_⟩; cases t <;> cases e <;> decide +kernel
  | lst ds =>
    obtain ⟨p, vs, rfl, hp, _⟩ := c
    refine ⟨_, .base (.lst hp), kit_ty ?_⟩; cases t <;> cases e <;> decide +kernel
  | scr ds => cases e
  | dic ds => cases e
  | hnd ds => cases e
theorem s_isi (h : Cok T X g N sc) {t : Ty} {ka : RK} {x y : Str} {p p2 : Pos} (hx : isB sc x "isinstance" = true) (hy : isB sc y (tyN t) = true) (hn : nst a = true) (ha : PE X a (GE g ka fa)) :
    PE X (.Call (.Name x p) [a, .Name y p2] [] pos) (GE g .rep fun ρ M => (fa ρ M).bind fun x M => Pv.opt ((isiD x t).map .bl) M) := by
  obtain ⟨rfl, e⟩ := isB_of hx
  obtain ⟨rfl, e2⟩ := isB_of hy
  have hg := h.gl e
  have hg2 := h.gl e2
  have pt : PE X (.Name (tyN t) p2) (tC (.ty (tyS t))) := by
    cases t
    · exact pe_bltn (u := .type "int") hg2 (h.blt (by decide)) (by decide +kernel) rfl (by decide) (by decide)
    · exact pe_bltn (u := .type "bool") hg2 (h.blt (by decide)) (by decide +kernel) rfl (by decide) (by decide)
    · exact pe_bltn (u := .type "tuple") hg2 (h.blt (by decide)) (by decide +kernel) rfl (by decide) (by decide)
    · exact pe_bltn (u := .type "str") hg2 (h.blt (by decide)) (by decide +kernel) rfl (by decide) (by decide)
  have pa : PA X [a, .Name (tyN t) p2] (tCons (GE g ka fa) (tCons (tC (.ty (tyS t))) tNil)) := pa_cons ha (pa_cons pt pa_nil rfl) (star_ok hn)
  refine PE.imp (pe_callB call_isi hg (h.blt (by decide)) (by decide +kernel) pa (by decide) (by decide) (star_ok hn) rfl) fun σ H Q q => ?_
  refine ge_one (ka := ka) (rel := fun ρ σ => rl g ρ σ .rep) (F := fun ρ x M => Pv.opt ((isiD x t).map .bl) M) anti_rl ?_ q
  intro ρ M w w0 v x s ex r af
  obtain ⟨d, ed, a3⟩ := af.optE
  obtain ⟨k, e3, rfl⟩ := Option.map_eq_some_iff.mp ed
  obtain ⟨u, h1, h2⟩ := tyx_of (K := X.K) (con_dr s r (not_hnd (f := fun d => isiD d t) e3 fun n => rfl)) e3
  exact ⟨v, _, u, _, k, rfl, .ty _, h1, h2, a3.fin s (.bl k)⟩
theorem t_isi (h : Cok T X g N sc) {t : Ty} {ka : RK} {x y : Str} {p p2 : Pos} (hx : isB sc x "isinstance" = true) (hy : isB sc y (tyN t) = true) (hn : nst a = true) (ha : PE X a (GE g ka fa)) :
    PT X (.Call (.Name x p) [a, .Name y p2] [] pos) (GT g fun ρ M => (fa ρ M).bind fun x M => Pv.opt (isiD x t) M) := by
  refine PT.imp (t_truth h.kk rfl (s_isi h hx hy hn ha)) ?_
  rintro σ H Q ⟨ρ, M, w, e, s, af⟩
  refine ⟨ρ, M, w, e, s, ?_⟩
  show Aft g _ w ρ σ Q (truR ((fa ρ M).bind fun x M => Pv.opt ((isiD x t).map D.bl) M))
  have e2 : truR ((fa ρ M).bind fun x M => Pv.opt ((isiD x t).map D.bl) M) = ((fa ρ M).bind fun x M => Pv.opt (isiD x t) M) := by
    unfold truR
    cases fa ρ M with
    | ok d M1 =>
      show ((Pv.opt ((isiD d t).map D.bl) M1).bind _) = Pv.opt (isiD d t) M1
      cases isiD d t <;> rfl
    | _ => rfl
  rw [e2]; exact af

/-! ### methods -/
theorem pe_bmP {o e : Expr} {es : List Expr} {name : Str} {apos cpos : Pos} {to : TE} {t : TA} (ho : PE X o to) (ha : PA X (e :: es) t)
    (hbase : attributeBase o name X.env (eval o X.env) = eval o X.env)
    (hfew : ((backTo cpos (starEach (e :: es) X.env)).all (fun x => !x.1) && (backToKw cpos (keywordEach [] X.env)).all (fun x => x.1.isSome)
      && decide ((e :: es).length + ([] : List Keyword).length + (if ([] : List Keyword).isEmpty then 0 else 1) < 30)) = true)
    (hline : (apos.endLine == cpos.line) = true) (hs : starEach (e :: es) X.env = (false, eval e X.env) :: starEach es X.env) (hplain : (backTo cpos (starEach es X.env)).any (·.1) = false) :
    PE X (.Call (.Attribute o name apos) (e :: es) [] cpos) (fun σ H Q => to σ H fun x H1 => ∃ (T id : String) (r : V → List V → Hp → VK → Prop), PlainAttrs T ∧ PySem.Slot T name id ∧ typeOf (.builtin id) = pure (.type "method_descriptor") ∧ MtR X id r ∧ tyV X.K T x H1 ∧ t σ H1 fun xs H2 => r x xs H2 Q) := by
  refine ⟨fun pins s σ H Q I h => ?_⟩
  refine wpAny_Call_method_late hbase hfew hline rfl (thn (ho.run pins s σ H _ I h) fun v s1 ⟨x, H1, I1, r1, T, id, r, pa, slot, hty, hm, ty, q1⟩ => ?_)
  obtain ⟨h1, h2⟩ := tyV_is I1 r1 ty
  refine ⟨T, id, pa, slot, hty, h1, h2, ?_⟩
  have hA := ha.run cpos pins s1 σ H1 _ I1 q1
  rw [hs] at hA ⊢
  refine Calls.callWith_builtin (by show (false || (backTo cpos (starEach es X.env)).any (·.1)) = false; rw [hplain] <;> rfl) (Calls.evalArgs_plain ?_)
  exact thn hA fun us s2 ⟨vs, H2, I2, r2, q2⟩ => hm pins s2 σ H2 x vs v us Q I2 r1 r2 q2
def rM (k : M1) : V → List V → Hp → VK → Prop := fun v vs H Q => ∃ (w : Wd) (u : V) (x y d : D), vs = [u] ∧ w.H = H ∧ Con w v x ∧ Rep w u y ∧ meth1D k x y = some d ∧ ∀ z, Rep w z d → Q z H
theorem join_len (a : Str) (ys : List Str) : (Txt.join a ys).length ≤ (ys.map (·.length)).sum + ys.length * a.length := by
  have h := TL.tl_join a ys
  rw [TL.join_eq]
  have h2 : (Str.join a ys).length = (TL.tl (Str.join a ys)).length := rfl
  have key : ∀ (S : List Nat) (ps : List (List Nat)), (TL.joinL S ps).length ≤ (ps.map List.length).sum + ps.length * S.length := by
    intro S ps
    induction ps with
    | nil => simp [TL.joinL]
    | cons p ps ih =>
      cases ps with
      | nil => simp [TL.joinL]
      | cons q r =>
        simp only [TL.joinL, List.length_append, List.map_cons, List.sum_cons, List.length_cons] at ih ⊢
        have : (r.length + 1 + 1) * S.length = (r.length + 1) * S.length + S.length := by rw [Nat.add_mul]; omega
        omega
  rw [h2, h]
  have k := key (TL.tl a) (ys.map TL.tl)
  rw [List.length_map, List.map_map] at k
  exact k
theorem m_join : MtR X "str.join" (rM .join) := by
  rintro pins s σ H x xs v us Q I rx rs ⟨w, u, a, b, d, rfl, rfl, ra, rb, e, q⟩
  cases a <;> cases rb <;> simp only [meth1D, reduceCtorEq] at e
  split at e
  · rename_i ys hy
    simp only [Option.ite_none_right_eq_some, Option.some.injEq] at e
    obtain ⟨hz, rfl⟩ := e
    rename_i sp p vs ds f hp rr _
    have hv := rr.strs hy
    subst hv
    obtain ⟨rfl, _⟩ := ra
    refine mt_join pins s σ _ _ _ _ _ Q I rx rs ⟨_, p, ys, rfl, rfl, .inl (SqL.of hp), hz, q _ (.str _ (Nat.le_trans (join_len _ _) hz))⟩
  · cases e
theorem m_count : MtR X "str.count" (fun v vs H Q => rM .count v vs H Q ∧ ∃ z, v = .str z) := by
  rintro pins s σ H x xs v us Q I rx rs ⟨⟨w, u, a, b, d, rfl, rfl, ra, rb, e, q⟩, z, rfl⟩
  cases a <;> try (first | (cases ra; done) | (obtain ⟨p, ra, _⟩ := ra; cases ra; done) | (obtain ⟨p, vs, ra, _⟩ := ra; cases ra; done) | (obtain ⟨p, o, vs, ra, _⟩ := ra; cases ra; done))
  · obtain ⟨ra, hz⟩ := ra
    cases ra
    cases rb <;> simp only [meth1D, reduceCtorEq, Option.some.injEq] at e
    subst e
    exact mt_count pins s σ _ _ _ _ _ Q I rx rs ⟨_, _, rfl, rfl, q _ (.int _)⟩
theorem countV {x : V} : ∀ {xs : List V} {us : List Value}, Vals xs us → xs.all flatV = true → us.countP (eqU x) = xs.countP fun y => eqV y x
  | _, _, .nil, _ => rfl
  | y :: xs, u :: us, .cons r t, f => by
    rw [List.all_cons, Bool.and_eq_true] at f
    rw [List.countP_cons, List.countP_cons, countV t f.2]
    have := any_eqU (x := x) (xs := [y]) (us := [u]) (.cons r .nil) (by simp [f.1])
    simp only [List.any_cons, List.any_nil, Bool.or_false] at this
    rw [this]
theorem countD {w : Wd} {v : V} {d : D} (r : Rep w v d) (k : flatD d = true) : ∀ {vs : List V} {ds : List D}, Reps w vs ds → ds.all flatD = true → (vs.countP fun y => eqV y v) = ds.countP fun y => eqD y d
  | _, _, .nil, _ => rfl
  | _, _, .cons q t, h => by
    rw [List.all_cons, Bool.and_eq_true] at h
    rw [List.countP_cons, List.countP_cons, countD r k t h.2, eqV_of q r h.1 k]
theorem m_lcount : MtR X "list.count" (fun v vs H Q => rM .count v vs H Q ∧ ∃ z, v = .ref z) := by
  rintro pins s σ H x xs v us Q I rx rs ⟨⟨w, u, a, b, d, rfl, rfl, ra, rb, e, q⟩, z, rfl⟩
  cases a <;> simp only [meth1D, reduceCtorEq] at e
  · obtain ⟨ra, _⟩ := ra; cases ra
  · simp only [Option.ite_none_right_eq_some, Bool.and_eq_true, Option.some.injEq] at e
    obtain ⟨⟨e1, e2⟩, rfl⟩ := e
    obtain ⟨p, vs, hz, hp, rr⟩ := ra
    cases hz
    cases rx
    obtain ⟨uv, rfl, ru⟩ := rs.one
    obtain ⟨its, rv, ⟨⟨cls, dd, data, sl⟩, n, ho, hc, hdn, hd⟩, hlen⟩ := I.list (SqL.of hp)
    simp only at hc hd
    subst hc hd
    refine call_meets PySem.F.slot_list_count ⟨_, ho, rfl⟩ PySem.F.entry_list_count (PySem.F.args_list_count_2 _ _)
      (SeqAt.list_countAt z its.toArray n dd sl uv (eqU u)) ⟨ho, fun y hy => mem_eqAt ru (flat_of rb e1) rv (flats_of rr e2) y (by simpa using hy), ?_⟩
    refine ⟨.int (Int.ofNat (its.countP (eqU u))), _, I.tok _, ⟨s.toks, ?_⟩, ?_⟩
    · show Value.int ((its.toArray.toList.countP (eqU u) : Nat) : Int) s.toks = _
      rw [List.toList_toArray]; rfl
    · rw [countV rv (flats_of rr e2), countD rb e1 rr e2]
      exact q _ (.int _)
theorem m_get (hu : X.A.units + 1 < cLine) : MtR X "dict.get" (rM .get) := by
  rintro pins s σ H x xs v us Q I rx rs ⟨w, u, a, b, d, rfl, rfl, ra, rb, e, q⟩
  cases a <;> simp only [meth1D, reduceCtorEq] at e
  split at e
  · rename_i kvs _ key hk
    cases e
    obtain ⟨p, kvs', rfl, hp, e1, e2⟩ := ra
    cases rx
    have ex := keyOf_V rb hk
    subst ex
    obtain ⟨uv, rfl, ru⟩ := rs.one
    refine d_get1 hu I (DGet.k (k := key) hp) ru fun w' s' I' rw' => ⟨_, _, I', rw', q _ ?_⟩
    have := look_of key e1 e2
    cases q' : lookK kvs key with
    | none => rw [q'] at this; rw [this]; exact .non
    | some d =>
      rw [q'] at this
      obtain ⟨v', hv, hr⟩ := this
      rw [hv]; exact hr
  · cases e
def rM2 : V → List V → Hp → VK → Prop := fun v vs H Q => ∃ (w : Wd) (u t : V) (x y z d : D), vs = [u, t] ∧ w.H = H ∧ Con w v x ∧ Rep w u y ∧ Rep w t z ∧ get2D x y z = some d ∧ ∀ z, Rep w z d → Q z H
theorem m_get2 (hu : X.A.units + 1 < cLine) : MtR X "dict.get" rM2 := by
  rintro pins s σ H x xs v us Q I rx rs ⟨w, u, t, a, b, c, d, rfl, rfl, ra, rb, rc, e, q⟩
  cases a <;> simp only [get2D, reduceCtorEq] at e
  split at e
  · rename_i kvs _ key hk
    cases e
    obtain ⟨p, kvs', rfl, hp, e1, e2⟩ := ra
    cases rx
    have ex := keyOf_V rb hk
    subst ex
    obtain ⟨uv, tv, rfl, ru, rt⟩ := vals2 rs
    refine d_get2 hu I (DGet.k (k := key) hp) ru rt fun w' s' I' rw' => ⟨_, _, I', rw', q _ ?_⟩
    have := look_of key e1 e2
    cases q' : lookK kvs key with
    | none => rw [q'] at this; rw [this]; exact rc
    | some d =>
      rw [q'] at this
      obtain ⟨v', hv, hr⟩ := this
      rw [hv]; exact hr
  · cases e
theorem few1 {e : Expr} {env : PySem.Env} (hn : nst e = true) : ((backTo pos (starEach [e] env)).all (fun x => !x.1) && (backToKw pos (keywordEach [] env)).all (fun x => x.1.isSome)
      && decide ([e].length + ([] : List Keyword).length + (if ([] : List Keyword).isEmpty then 0 else 1) < 30)) = true := by
  rw [star_ok hn]; rfl
theorem few2 {e f : Expr} {env : PySem.Env} (hn : nst e = true) (hn' : nst f = true) : ((backTo pos (starEach [e, f] env)).all (fun x => !x.1) && (backToKw pos (keywordEach [] env)).all (fun x => x.1.isSome)
      && decide ([e, f].length + ([] : List Keyword).length + (if ([] : List Keyword).isEmpty then 0 else 1) < 30)) = true := by
  rw [star_ok hn, star_ok hn']; rfl
theorem tyV_tuple {w : Wd} {K : PySem.W.Frag} {p : Addr} {vs : List V} (h : w.H p = some (.lst vs)) : tyV K "list" (.ref p) w.H := .inl ⟨rfl, _, SqL.of h⟩
theorem s_meth1 (h : Cok T X g N sc) {k : M1} {ka : RK} {apos : Pos} (hk : ka ≠ .frs) (hn : nst b = true) (ho : ncall a = true) (hl : (apos.endLine == pos.line) = true) (ha : PE X a (GE g ka fa)) (hb : PE X b (GE g .rep fb)) :
    PE X (.Call (.Attribute a (m1N k) apos) [b] [] pos) (GE g .rep fun ρ M => (fa ρ M).bind fun x M => match recvB k x with
      | true => (fb ρ M).bind fun y M => Pv.opt (meth1D k x y) M
      | false => .fail) := by
  refine PE.imp (pe_bmP (t := tCons (GE g .rep fb) tNil) ha (pa_cons hb pa_nil (star_ok hn)) (ncall_ok ho) (few1 hn) hl (star_ok hn) rfl) fun σ H Q q => ?_
  refine ge_one (ka := ka) (rel := fun ρ σ => rl g ρ σ .rep) (F := fun ρ x M => match recvB k x with
      | true => (fb ρ M).bind fun y M => Pv.opt (meth1D k x y) M
      | false => .fail) anti_rl ?_ q
  intro ρ M w w0 v x s ex r af
  have fin : ∀ (Z : V → List V → Hp → VK → Prop), (∀ vs H, rM k v vs H Q → Z v vs H Q) → recvB k x = true → tCons (GE g .rep fb) tNil σ w.H (fun xs H2 => Z v xs H2 Q) := by
    intro Z hZ hr
    rw [hr] at af
    refine ⟨ρ, M, w, rfl, s, Aft.mono (Aft.bind af fun w1 ex => anti_rl (k := .rep) (σ := σ) ρ w w1 ex) ?_⟩
    rintro u H1 ⟨y, M1, w1, e1, ex1, s1, r1, a1⟩
    obtain ⟨d, ed, a3⟩ := a1.optE
    subst e1
    refine hZ [u] _ ⟨w1, u, x, y, d, rfl, rfl, ?_, r1, ed, fun z rz => a3.fin s1 rz⟩
    exact con_dr s1 (rl_keep hk ex1 s.wf r) (by rintro n rfl; cases k <;> cases hr)
  cases k <;> cases x <;> first | exact af.elim | skip
  · -- join
    have c := con_dr s r (fun n z => nomatch z)
    obtain ⟨rfl, _⟩ := c
    exact ⟨"str", _, rM .join, PySem.F.plainAttrs_str, PySem.F.slot_str_join, PySem.F.type_str_join, m_join, rfl, fin _ (fun _ _ h => h) rfl⟩
  · have c := con_dr s r (fun n z => nomatch z)
    obtain ⟨rfl, _⟩ := c
    exact ⟨"str", _, _, PySem.F.plainAttrs_str, PySem.F.slot_str_count, PySem.F.type_str_count, m_count, rfl, fin (fun v vs H Q => rM .count v vs H Q ∧ ∃ z, v = .str z) (fun _ _ h => ⟨h, _, rfl⟩) rfl⟩
  · have c := con_dr s r (fun n z => nomatch z)
    obtain ⟨p, vs, rfl, hp, _⟩ := c
    exact ⟨"list", _, _, PySem.F.plainAttrs_list, PySem.F.slot_list_count, PySem.F.type_list_count, m_lcount, .inl ⟨rfl, _, SqL.of hp⟩, fin (fun v vs H Q => rM .count v vs H Q ∧ ∃ z, v = .ref z) (fun _ _ h => ⟨h, _, rfl⟩) rfl⟩
  · have c := con_dr s r (fun n z => nomatch z)
    obtain ⟨p, kvs, rfl, hp, _⟩ := c
    exact ⟨"dict", _, rM .get, PySem.F.plainAttrs_dict, PySem.F.slot_dict_get, PySem.F.type_dict_get, m_get h.hu, .inr (.inr (.inl ⟨rfl, .inl ⟨_, hp⟩⟩)), fin _ (fun _ _ h => h) rfl⟩
end
end Pv

set_option Elab.async false
set_option linter.all false
set_option maxRecDepth 100000
set_option maxHeartbeats 4000000
namespace Pv
open PySem L2

section
variable {T : Tb} {X : Cx} {g : Gx} {N : List Str} {sc : Scope} {pos : Pos} {a b c : Expr} {fa fb fc : Rho → Store → Res D}
theorem s_get2 (h : Cok T X g N sc) {ka : RK} {apos : Pos} (hk : ka ≠ .frs) (hn : nst b = true) (hn' : nst c = true) (ho : ncall a = true) (hl : (apos.endLine == pos.line) = true) (ha : PE X a (GE g ka fa)) (hb : PE X b (GE g .rep fb)) (hc : PE X c (GE g .rep fc)) :
    PE X (.Call (.Attribute a "get" apos) [b, c] [] pos) (GE g .rep fun ρ M => (fa ρ M).bind fun x M => match recvB .get x with
      | true => (fb ρ M).bind fun y M => (fc ρ M).bind fun z M => Pv.opt (get2D x y z) M
      | false => .fail) := by
  refine PE.imp (pe_bmP (t := tCons (GE g .rep fb) (tCons (GE g .rep fc) tNil)) ha (pa_cons hb (pa_cons hc pa_nil (star_ok hn')) (star_ok hn)) (ncall_ok ho) (few2 hn hn') hl (star_ok hn) (star_any (by simp [hn']))) fun σ H Q q => ?_
  refine ge_one (ka := ka) (rel := fun ρ σ => rl g ρ σ .rep) (F := fun ρ x M => match recvB .get x with
      | true => (fb ρ M).bind fun y M => (fc ρ M).bind fun z M => Pv.opt (get2D x y z) M
      | false => .fail) anti_rl ?_ q
  intro ρ M w w0 v x s ex r af
  cases x <;> first | exact af.elim | skip
  rename_i kvs
  have cc := con_dr s r (fun n z => nomatch z)
  have hcon := cc
  obtain ⟨p, kvs', rfl, hp, _⟩ := cc
  refine ⟨"dict", _, rM2, PySem.F.plainAttrs_dict, PySem.F.slot_dict_get, PySem.F.type_dict_get, m_get2 h.hu, .inr (.inr (.inl ⟨rfl, .inl ⟨_, hp⟩⟩)), ?_⟩
  have af : Aft g (rl g ρ σ .rep) w ρ σ Q ((fb ρ M).bind fun y M => (fc ρ M).bind fun z M => Pv.opt (get2D (.dic kvs) y z) M) := af
  refine ⟨ρ, M, w, rfl, s, Aft.mono (Aft.bind af fun w1 ex => anti_rl (k := .rep) (σ := σ) ρ w w1 ex) ?_⟩
  rintro u H1 ⟨y, M1, w1, e1, ex1, s1, r1, a1⟩
  refine ⟨ρ, M1, w1, e1, s1, Aft.mono (Aft.bind a1 fun w2 ex => anti_rl (k := .rep) (σ := σ) ρ w1 w2 ex) ?_⟩
  rintro t H2 ⟨z, M2, w2, e2, ex2, s2, r2, a2⟩
  obtain ⟨d, ed, a3⟩ := a2.optE
  subst e2
  refine ⟨w2, u, t, _, y, z, d, rfl, rfl, ?_, Rep.mono (ex2.wle s1.wf) r1, r2, ed, fun z rz => a3.fin s2 rz⟩
  exact con_dr s2 (rl_keep hk ex2 s1.wf (rl_keep hk ex1 s.wf r)) (fun n z => nomatch z)

/-! ### list(..), sorted(..): fresh things -/
def rF (g : Gx) (k : FF) : List V → Hp → VK → Prop := fun vs H Q => ∃ (σ : St) (ρ : Rho) (M : Store) (w : Wd) (v : V) (a d : D), vs = [v] ∧ w.H = H ∧ Sr g.w0 ρ M w σ ∧ Con w v a ∧ ffD k a = some d ∧ Aft g (rl g ρ σ .frs) w ρ σ Q (.ok d M)
theorem f_list : CallR X (.type "list") (rF g .list) := by
  rintro pins s σ H xs us Q I r ⟨σ', ρ, M, w, v, a, d, rfl, rfl, sr, c, e, af⟩
  cases a <;> simp only [ffD, reduceCtorEq, Option.some.injEq] at e <;> subst e
  · obtain ⟨p, vs, rfl, hp, rr⟩ := c
    exact call_list_of pins s σ _ _ _ Q I r ⟨p, vs, rfl, .inr (SqT.of hp), fun l n => af.newO sr n ⟨vs, upd_same, rr.mono (owned_wle sr.wf n)⟩⟩
  · obtain ⟨p, vs, rfl, hp, rr⟩ := c
    exact call_list_of pins s σ _ _ _ Q I r ⟨p, vs, rfl, .inl (SqL.of hp), fun l n => af.newO sr n ⟨vs, upd_same, rr.mono (owned_wle sr.wf n)⟩⟩
/-- sorted of a tuple of ints -/
theorem f_sorted : CallR X (.builtin "sorted") (fun vs H Q => rF g .sorted vs H Q ∧ ∃ p xs, vs = [.ref p] ∧ H p = some (.lst xs)) := by
  rintro pins s σ H xs us Q I r ⟨⟨σ', ρ, M, w, v, a, d, rfl, rfl, sr, c, e, af⟩, p0, xs0, e0, hp0⟩
  cases e0
  cases a <;> simp only [ffD, reduceCtorEq] at e
  · obtain ⟨ns, e1, rfl⟩ := Option.map_eq_some_iff.mp e
    obtain ⟨p, vs, hz, hp, rr⟩ := c
    cases hz
    have hv := rr.ints e1
    subst hv
    refine cr_sortedI pins s σ _ _ _ Q I r ⟨p0, ns, rfl, SqL.of hp, fun ns' q pm so n => ?_⟩
    rw [isort_eq pm so]
    exact af.newO sr n ⟨_, upd_same, Reps.of_ints _⟩
theorem gf_one {k : FF} {ka : RK} {σ : St} {H : Hp} {Q : VK} (q : GE g .frs (fun ρ M => (fa ρ M).bind fun x M => Pv.opt (ffD k x) M) σ H Q) :
    tCB (rF g k) (tCons (GE g ka fa) tNil) σ H Q := by
  refine ge_one (ka := ka) (rel := fun ρ σ => rl g ρ σ .frs) (F := fun ρ x M => Pv.opt (ffD k x) M) (anti_rl (k := .frs)) ?_ q
  intro ρ M w w0 v x s ex r af
  obtain ⟨d, ed, a3⟩ := Aft.optE af
  exact ⟨σ, ρ, M, w, v, x, d, rfl, rfl, s, con_dr s r (not_hnd ed fun n => by cases k <;> rfl), ed, a3⟩
theorem s_list (h : Cok T X g N sc) {ka : RK} {x : Str} {p : Pos} (hx : isB sc x "list" = true) (hn : nst a = true) (ha : PE X a (GE g ka fa)) :
    PE X (.Call (.Name x p) [a] [] pos) (GE g .frs fun ρ M => (fa ρ M).bind fun x M => Pv.opt (ffD .list x) M) := by
  obtain ⟨rfl, e⟩ := isB_of hx
  exact PE.imp (pe_callTy f_list (h.gl e) (h.blt (by decide)) (by decide +kernel) (pa_cons ha pa_nil (star_ok hn)) (by decide) (by decide) (star_ok hn) rfl) fun _ _ _ q => gf_one q

theorem s_sorted (h : Cok T X g N sc) {ka : RK} {x : Str} {p : Pos} (hx : isB sc x "sorted" = true) (hn : nst a = true) (ha : PE X a (GE g ka fa)) :
    PE X (.Call (.Name x p) [a] [] pos) (GE g .frs fun ρ M => (fa ρ M).bind fun x M => Pv.opt (ffD .sorted x) M) := by
  obtain ⟨rfl, e⟩ := isB_of hx
  refine PE.imp (pe_callB (f_sorted (g := g)) (h.gl e) (h.blt (by decide)) (by decide +kernel) (pa_cons ha pa_nil (star_ok hn)) (by decide) (by decide) (star_ok hn) rfl) fun σ H Q q => ?_
  refine ge_one (ka := ka) (rel := fun ρ σ => rl g ρ σ .frs) (F := fun ρ x M => Pv.opt (ffD .sorted x) M) (anti_rl (k := .frs)) ?_ q
  intro ρ M w w0 v x s ex r af
  obtain ⟨d, ed, a3⟩ := Aft.optE af
  have c := con_dr s r (not_hnd (f := ffD .sorted) ed fun n => rfl)
  refine ⟨⟨σ, ρ, M, w, v, x, d, rfl, rfl, s, c, ed, a3⟩, ?_⟩
  cases x <;> simp only [ffD, reduceCtorEq] at ed
  obtain ⟨p, vs, rfl, hp, _⟩ := c
  exact ⟨p, vs, rfl, hp⟩
/-! ### what is walked -/
structure Wk (K : PySem.W.Frag) (w : Wd) (J : It) (ds : List D) : Prop where
  len : ds.length ≤ LIM
  ex : ∃ (G : Hp → Prop) (Y : Nat → Hp → V → Hp → Prop), Walk J ds.length G Y ∧ (∀ w2, Wle w w2 → G w2.H) ∧
    ∀ (i : Nat) (w2 : Wd) (x : V) (H' : Hp) (d : D), ds[i]? = some d → Wle w w2 → Wf w2 → Y i w2.H x H' → ∃ w3, w3.H = H' ∧ Ext w2 w3 ∧ Wf w3 ∧ (∀ M, Sto w2 M → Sto w3 M) ∧ Rep w3 x d
def GI (g : Gx) (K : PySem.W.Frag) (f : Rho → Store → Res (List D)) : TI := fun σ H R => ∃ ρ M w, w.H = H ∧ Sr g.w0 ρ M w σ ∧ Aft g (fun _ w' J ds => Wk K w' J ds) w ρ σ R (f ρ M)
theorem PI.imp {tg e : Expr} {t t' : TI} (h : PI X tg e t) (k : ∀ σ H R, t' σ H R → t σ H R) : PI X tg e t' := ⟨fun pins s σ H R I q => h.run pins s σ H R I (k σ H R q)⟩
theorem anti_w {K : PySem.W.Frag} {σ : St} : ∀ (ρ : Rho) (w w1 : Wd), Ext w w1 → ∀ (w' : Wd) (J : It) (ds : List D), Wk K w' J ds → Wk K w' J ds := fun _ _ _ _ _ _ _ h => h
theorem wk_seq {K : PySem.W.Frag} {w : Wd} {J : It} {vs : List V} {ds : List D} {G : Hp → Prop} (hl : ds.length ≤ LIM) (r : Reps w vs ds) (W : Walk J vs.length G (YAt vs)) (hG : ∀ w2, Wle w w2 → G w2.H) : Wk K w J ds := by
  refine ⟨hl, G, YAt vs, by rw [← r.length]; exact W, hG, fun i w2 x H' d hd le wf y => ?_⟩
  obtain ⟨rfl, hx⟩ := y
  obtain ⟨v, h1, h2⟩ := r.get hd
  rw [hx] at h1; cases h1
  exact ⟨w2, rfl, Ext.refl _, wf, fun _ h => h, h2.mono le⟩
theorem signs_rep {w : Wd} : ∀ cs : List Nat, Reps w (cs.map fun c => V.str ⟨#[c]⟩) (cs.map fun c => D.str ⟨#[c]⟩)
  | [] => .nil
  | c :: cs => .cons (.str _ (by show 1 ≤ LIM; decide)) (signs_rep cs)
theorem i_seq (hK : g.w0.K = X.K) {tg : Expr} (ha : PE X a (GE g .rep fa)) : PI X tg a (GI g X.K fun ρ M => (fa ρ M).bind fun x M => Pv.opt (itemsD x) M) := by
  refine ⟨fun pins s σ H R I h => ?_⟩
  have q : GE g .rep fa σ H (fun v H1 => ∃ (ρ : Rho) (M : Store) (w : Wd) (x : D) (ds : List D), w.H = H1 ∧ Sr g.w0 ρ M w σ ∧ Rep w v x ∧ itemsD x = some ds ∧ Aft g (fun _ w' J ds => Wk X.K w' J ds) w ρ σ R (.ok ds M)) := by
    refine ge_one (ka := .rep) (rel := fun ρ σ => fun _ w' J ds => Wk X.K w' J ds) (F := fun ρ x M => Pv.opt (itemsD x) M) (anti_w (σ := σ)) ?_ h
    intro ρ M w w0 v x s ex r af
    obtain ⟨ds, ed, a3⟩ := Aft.opt af
    exact ⟨ρ, M, w, x, ds, rfl, s, r, ed, a3⟩
  refine thn (ha.run pins s σ H _ I q) fun v s1 ⟨x', H1, I1, r1, ρ, M, w, x, ds, e1, sr, r, ed, af⟩ => ?_
  subst e1
  cases r <;> simp only [itemsD, reduceCtorEq, Option.some.injEq] at ed <;> subst ed
  · rename_i z hz
    obtain ⟨t, rfl⟩ := r1
    have hR : R (Its z) w.H := by
      refine af.fin sr (wk_seq (vs := z.cps.toList.map fun c => V.str ⟨#[c]⟩) (G := fun _ => True) (by rw [List.length_map, Array.length_toList]; exact hz) (signs_rep _) ?_ fun _ _ => trivial)
      have W := walk_str (z := z)
      rw [List.length_map, Array.length_toList]
      refine W.mono (fun _ h => h) fun i H x H' hi _ y => ?_
      obtain ⟨e, c, hc, rfl⟩ := y
      refine ⟨e, ?_⟩
      rw [List.getElem?_map, Array.getElem?_toList, hc]; rfl
    cases ha' : z.cps.all (· < 128)
    · exact wpAny_pyIter_wide ha' (pi_one (tk := s1.toks) I1 _ (turn_str _ z t "str_iterator" (.inr rfl)) ⟨_, Heap.get?_push_size _ rfl, rfl, rfl⟩ hR)
    · exact wpAny_pyIter_ascii ha' (pi_one (tk := s1.toks) I1 _ (turn_str _ z t "str_ascii_iterator" (.inl rfl)) ⟨_, Heap.get?_push_size _ rfl, rfl, rfl⟩ hR)
  · rename_i p vs ds f hp rr
    cases r1
    obtain ⟨its, rv, pl, hz⟩ := I1.tuple (SqT.of hp)
    have hR : R (Itt X.K p) w.H := af.fin sr (wk_seq (by rw [← rr.length]; exact hz) rr walk_tup fun w2 le => SqT.of ((le.F p f).2.trans hp))
    exact wpAny_pyIter_tuple (show s1.heap.IsTuple p its.toArray from pl) (pi_one (tk := s1.toks) I1 _ (turn_tuple p _) ⟨_, Heap.get?_push_size _ rfl, rfl, rfl⟩ hR)
  · rename_i p vs ds f hp rr
    cases r1
    obtain ⟨its, rv, pl, hz⟩ := I1.list (SqL.of hp)
    have hR : R (Itl X.K p) w.H := af.fin sr (wk_seq (by rw [← rr.length]; exact hz) rr walk_list fun w2 le => SqL.of ((le.F p f).2.trans hp))
    exact wpAny_pyIter_list pl.isList (pi_one (tk := s1.toks) I1 _ (turn_list p _) ⟨_, Heap.get?_push_size _ rfl, rfl, rfl⟩ hR)
  · rename_i p o vs ds f hp rr
    cases r1
    have hs : SqL X.K w.H p vs := .inl (.inr ⟨o, hp⟩)
    obtain ⟨its, rv, pl, hz⟩ := I1.list hs
    have hR : R (Itl X.K p) w.H := af.fin sr (wk_seq (by rw [← rr.length]; exact hz) rr walk_list fun w2 le => .inl (.inr ⟨o, (le.F p f).2.trans hp⟩))
    exact wpAny_pyIter_list pl.isList (pi_one (tk := s1.toks) I1 _ (turn_list p _) ⟨_, Heap.get?_push_size _ rfl, rfl, rfl⟩ hR)
  · rename_i p vs ds hp rr
    cases r1
    have hp' : KLst X.K p vs := by rw [← hK, ← sr.e0.K]; exact hp
    have hs : SqL X.K w.H p vs := .inr hp'
    obtain ⟨its, rv, pl, hz⟩ := I1.list hs
    have hR : R (Itl X.K p) w.H := af.fin sr (wk_seq (by rw [← rr.length]; exact hz) rr walk_list fun w2 le => .inr hp')
    exact wpAny_pyIter_list pl.isList (pi_one (tk := s1.toks) I1 _ (turn_list p _) ⟨_, Heap.get?_push_size _ rfl, rfl, rfl⟩ hR)
/-! ranges -/
theorem reps_range {w : Wd} (lo : Int) (n : Nat) : Reps w ((List.range n).map fun (k : Nat) => V.int (lo + k)) (rangeL lo n) := by
  unfold rangeL
  generalize List.range n = l
  induction l with
  | nil => exact .nil
  | cons k l ih => exact .cons (.int _) ih
theorem wk_range {K : PySem.W.Frag} {w : Wd} {lo : Int} {n : Nat} (h : n ≤ LIM) : Wk K w (Itr lo n) (rangeL lo n) := by
  have hl : (rangeL lo n).length = n := by simp [rangeL]
  refine ⟨by rw [hl]; exact h, fun _ => True, YFn fun i => .int (lo + i), by rw [hl]; exact walk_range, fun _ _ => trivial, fun i w2 x H' d hd le wf y => ?_⟩
  obtain ⟨rfl, rfl⟩ := y
  have hi : i < n := by rw [← hl]; exact (List.getElem?_eq_some_iff.mp hd).1
  have : d = .int (lo + i) := by
    unfold rangeL at hd
    rw [List.getElem?_map, List.getElem?_range hi] at hd
    exact (Option.some.inj hd).symm
  subst this
  exact ⟨w2, rfl, Ext.refl _, wf, fun _ h => h, .int _⟩
theorem rangeD_of {x y : D} {ds : List D} (h : rangeD x y = some ds) : ∃ i j : Int, x = .int i ∧ y = .int j ∧ (-(2 ^ 62) ≤ i ∧ i < 2 ^ 62 ∧ -(2 ^ 62) ≤ j ∧ j < 2 ^ 62) ∧ (j - i).toNat ≤ LIM ∧ ds = rangeL i (j - i).toNat := by
  cases x <;> cases y <;> simp only [rangeD, reduceCtorEq, Option.ite_none_right_eq_some, Option.some.injEq] at h
  obtain ⟨⟨h1, h2, h3, h4, h5⟩, rfl⟩ := h
  exact ⟨_, _, rfl, rfl, ⟨h1, h2, h3, h4⟩, by omega, rfl⟩
theorem i_range1 (h : Cok T X g N sc) {tg : Expr} {x : Str} {p : Pos} (hx : isB sc x "range" = true) (hn : nst a = true) (ha : PE X a (GE g .rep fa)) :
    PI X tg (.Call (.Name x p) [a] [] pos) (GI g X.K fun ρ M => (fa ρ M).bind fun x M => Pv.opt (rangeD (.int 0) x) M) := by
  obtain ⟨rfl, e⟩ := isB_of hx
  refine PI.imp (pi_range1 (h.gl e) (h.blt (by decide)) (pa_cons ha pa_nil (star_ok hn)) (star_ok hn)) fun σ H R q => ?_
  refine ge_one (ka := .rep) (rel := fun ρ σ => fun _ w' J ds => Wk X.K w' J ds) (F := fun ρ x M => Pv.opt (rangeD (.int 0) x) M) (anti_w (σ := σ)) ?_ q
  intro ρ M w w0 v x s ex r af
  obtain ⟨ds, ed, a3⟩ := Aft.opt af
  obtain ⟨i, j, e1, rfl, e2, e3, rfl⟩ := rangeD_of ed
  cases e1
  cases (show Rep w v (.int j) from r)
  refine ⟨j, rfl, e2.2.2.1, e2.2.2.2, ?_⟩
  have := a3.fin s (wk_range (K := X.K) (lo := 0) e3)
  simpa using this
theorem i_range2 (h : Cok T X g N sc) {tg : Expr} {x : Str} {p : Pos} (hx : isB sc x "range" = true) (hn : nst a = true) (hn' : nst b = true) (ha : PE X a (GE g .rep fa)) (hb : PE X b (GE g .rep fb)) :
    PI X tg (.Call (.Name x p) [a, b] [] pos) (GI g X.K fun ρ M => (fa ρ M).bind fun x M => (fb ρ M).bind fun y M => Pv.opt (rangeD x y) M) := by
  obtain ⟨rfl, e⟩ := isB_of hx
  refine PI.imp (pi_range2 (h.gl e) (h.blt (by decide)) (pa_cons ha (pa_cons hb pa_nil (star_ok hn')) (star_ok hn)) (by rw [star_ok hn, star_ok hn']; rfl) (star_ok hn')) fun σ H R q => ?_
  refine ge_two (ka := .rep) (kb := .rep) (rel := fun ρ σ => fun _ w' J ds => Wk X.K w' J ds) (F := fun ρ x y M => Pv.opt (rangeD x y) M) (fun z => nomatch z) (anti_w (σ := σ)) ?_ q
  intro ρ M w w0 w1 v u x y s rx ry af
  obtain ⟨ds, ed, a3⟩ := Aft.opt af
  obtain ⟨i, j, rfl, rfl, e2, e3, rfl⟩ := rangeD_of ed
  cases (show Rep w v (.int i) from rx)
  cases (show Rep w u (.int j) from ry)
  exact ⟨i, j, rfl, e2, a3.fin s (wk_range (K := X.K) e3)⟩
end
end Pv

set_option Elab.async false
set_option linter.all false
set_option maxRecDepth 100000
set_option maxHeartbeats 4000000
namespace Pv
open PySem L2 RZ

section
variable {T : Tb} {X : Cx} {g : Gx} {N : List Str} {sc : Scope} {pos : Pos} {a b c : Expr} {fa fb fc : Rho → Store → Res D}
/-! ### zip -/
theorem walk_zipT {K : PySem.W.Frag} {p q : Addr} {xs ys : List V} {n : Nat} (hn : n = min xs.length ys.length) : Walk (ItzT K p q) n (fun H => SqT K H p xs ∧ SqT K H q ys) (YPair (fun i => xs[i]?) (fun i => ys[i]?)) := by
  subst hn
  refine ⟨fun i _ hi q => ?_, fun _ q => ⟨xs, ys, q.1, q.2, by omega⟩, fun i H v H' _ q y => ?_⟩
  · have h1 : i < xs.length := by omega
    have h2 : i < ys.length := by omega
    exact ⟨xs, ys, xs[i], ys[i], q.1, q.2, by simp [h1], by simp [h2]⟩
  · obtain ⟨T, x, z, h1, h2, h3, h4, h5⟩ := y
    exact ⟨T, x, z, h1, h2, h3, h4 xs q.1, h5 ys q.2⟩
theorem wk_pair {K : PySem.W.Frag} {w : Wd} {J : It} {ds : List D} {f1 f2 : Nat → Option V} {G : Hp → Prop} (hl : ds.length ≤ LIM) (W : Walk J ds.length G (YPair f1 f2)) (hG : ∀ w2, Wle w w2 → G w2.H)
    (hr : ∀ (i : Nat) (d : D) (x y : V), ds[i]? = some d → f1 i = some x → f2 i = some y → ∃ d1 d2, d = .tup [d1, d2] ∧ Rep w x d1 ∧ Rep w y d2) : Wk K w J ds := by
  refine ⟨hl, G, _, W, hG, fun i w2 x H' d hd le wf y => ?_⟩
  obtain ⟨p, x1, x2, rfl, n, rfl, e1, e2⟩ := y
  obtain ⟨d1, d2, rfl, r1, r2⟩ := hr i d x1 x2 hd e1 e2
  have le2 : Wle w2 (w2.frozen p (.tup [x1, x2])) := frozen_wle wf n
  exact ⟨w2.frozen p (.tup [x1, x2]), rfl, frozen_ext wf n, frozen_wf wf n, fun M s => frozen_sto s wf n, .tup (.inr rfl) upd_same (.cons ((r1.mono le).mono le2) (.cons ((r2.mono le).mono le2) .nil))⟩
theorem zip_len (xs ys : List D) : (zipD xs ys).length = min xs.length ys.length := by simp [zipD]
theorem zip_get {w : Wd} {vs us : List V} {xs ys : List D} (r1 : Reps w vs xs) (r2 : Reps w us ys) {i : Nat} {d : D} {x y : V} (hd : (zipD xs ys)[i]? = some d) (h1 : vs[i]? = some x) (h2 : us[i]? = some y) :
    ∃ d1 d2, d = .tup [d1, d2] ∧ Rep w x d1 ∧ Rep w y d2 := by
  obtain ⟨d1, e1, k1⟩ := r1.get' h1
  obtain ⟨d2, e2, k2⟩ := r2.get' h2
  unfold zipD at hd
  rw [List.getElem?_map] at hd
  have : (xs.zip ys)[i]? = some (d1, d2) := by
    rw [List.getElem?_zip_eq_some]
    exact ⟨e1, e2⟩
  rw [this] at hd
  exact ⟨d1, d2, (Option.some.inj hd).symm, k1, k2⟩
/-- lists and tuples are not too long -/
def Lens (H : Hp) : Prop := ∀ p vs, (H p = some (.tup vs) ∨ H p = some (.lst vs)) → vs.length ≤ sizeLine
theorem Inv.lens {pins : List (Addr × Obj)} {s : Shared} {σ : St} {H : Hp} (I : L2.Inv X pins σ H s) : Lens H := fun p vs h => by
  rcases h with h | h
  · exact (I.hok p _ h).1
  · exact (I.hok p _ h).1
theorem PE.lens {e : Expr} {t : TE} (h : PE X e t) : PE X e (fun σ H Q => t σ H fun v H' => Lens H' → Q v H') := ⟨fun pins s σ H Q I q => thn (h.run pins s σ H _ I q) fun u s' ⟨v, H', I', r, k⟩ => ⟨v, H', I', r, k (Inv.lens I')⟩⟩
theorem i_zip (h : Cok T X g N sc) {elts : List Expr} {kk : Nat} {tpos : Pos} {x : Str} {p : Pos} (hx : isB sc x "zip" = true) (hn : nst a = true) (hn' : nst b = true) (ha : PE X a (GE g .rep fa)) (hb : PE X b (GE g .rep fb)) :
    PI X (.Tuple elts kk tpos) (.Call (.Name x p) [a, b] [] pos) (GI g X.K fun ρ M => (fa ρ M).bind fun x M => (fb ρ M).bind fun y M => Pv.opt (zipO x y) M) := by
  obtain ⟨rfl, e⟩ := isB_of hx
  refine ⟨fun pins s σ H R I q => ?_⟩
  refine (pi_zipA (h.gl e) (h.blt (by decide)) (pa_cons ha (pa_cons (PE.lens hb) pa_nil (star_ok hn')) (star_ok hn)) (star_ok hn) (star_any (by simp [hn']))).run pins s σ H R I ?_
  refine ge_two (ka := .rep) (kb := .rep) (rel := fun ρ σ => fun _ w' J ds => Wk X.K w' J ds) (F := fun ρ x y M => Pv.opt (zipO x y) M) (fun z => nomatch z) (anti_w (σ := σ)) ?_ q
  intro ρ M w w0 w1 v u x y s rx ry af hL
  obtain ⟨ds, ed, a3⟩ := Aft.opt af
  have rx : Rep w v x := rx
  have ry : Rep w u y := ry
  cases rx <;> cases ry <;> simp only [zipO, reduceCtorEq, Option.some.injEq] at ed <;> subst ed
  · rename_i p1 vs xs f1 hp1 r1 p2 us ys f2 hp2 r2
    have hz : xs.length ≤ LIM := by rw [← r1.length]; exact hL p1 vs (.inl hp1)
    refine ⟨p1, p2, vs, us, rfl, .inr ⟨SqT.of hp1, SqT.of hp2, a3.fin s ?_⟩⟩
    refine wk_pair (by rw [zip_len]; omega) (walk_zipT (xs := vs) (ys := us) (by rw [zip_len, r1.length, r2.length])) (fun w2 le => ⟨SqT.of ((le.F p1 f1).2.trans hp1), SqT.of ((le.F p2 f2).2.trans hp2)⟩) ?_
    exact fun i d x y hd h1 h2 => zip_get r1 r2 hd h1 h2
  · rename_i p1 vs xs f1 hp1 r1 p2 us ys f2 hp2 r2
    have hz : xs.length ≤ LIM := by rw [← r1.length]; exact hL p1 vs (.inr hp1)
    refine ⟨p1, p2, vs, us, rfl, .inl ⟨SqL.of hp1, SqL.of hp2, a3.fin s ?_⟩⟩
    refine wk_pair (by rw [zip_len]; omega) (walk_zip (xs := vs) (ys := us) (by rw [zip_len, r1.length, r2.length])) (fun w2 le => ⟨SqL.of ((le.F p1 f1).2.trans hp1), SqL.of ((le.F p2 f2).2.trans hp2)⟩) ?_
    exact fun i d x y hd h1 h2 => zip_get r1 r2 hd h1 h2

/-! ### comprehensions -/
def Gx.blk (g : Gx) : Gx := { g with W := fun _ _ _ _ => False }
/-- one turn -/
def turnF (tg : List Nat) (tt : Bool) (own : List Nat) (fc : Rho → Store → Res Bool) (fe : Rho → Store → Res D) (ρ : Rho) : D → Store → Res (Option D) := fun d M =>
  match bindT tg tt (wipeR ρ own) d with
  | some ρ1 => match fc ρ1 M with
    | .ok true M1 => (fe ρ1 M1).bind fun x M2 => .ok (some x) M2
    | .ok false M1 => .ok none M1
    | _ => .fail
  | none => .fail
theorem wipe_wipe {σ : St} : ∀ {vs : List Nat}, wipe (wipe σ vs) vs = wipe σ vs := by
  intro vs
  have key : ∀ (us vs : List Nat) (σ : St), (∀ i ∈ us, i ∈ vs) → wipe (wipe σ us) vs = wipe σ vs := by
    intro us
    induction us with
    | nil => intro vs σ _; rfl
    | cons u us ih =>
      intro vs σ h
      show wipe ((wipe σ us).set u none) vs = _
      rw [wipe_set (h u List.mem_cons_self)]
      exact ih vs σ fun i hi => h i (List.mem_cons_of_mem _ hi)
  exact key vs vs σ fun _ h => h
theorem compL_len {f : D → Store → Res (Option D)} : ∀ {ds : List D} {M : Store} {r : List D} {M' : Store}, compL f ds M = .ok r M' → r.length ≤ ds.length
  | [], M, r, M', h => by cases h; exact Nat.le_refl _
  | d :: ds, M, r, M', h => by
    unfold compL at h
    split at h
    · rename_i o M1 _
      split at h
      · rename_i r1 M2 h2
        have := compL_len h2
        cases h
        cases o <;> simp <;> omega
      · cases h
    · cases h
/-- the list at D holds what was made -/
theorem Sr.blkOf {w0 w : Wd} {ρ : Rho} {M : Store} {σ : St} (s : Sr w0 ρ M w σ) : True := trivial
theorem comp_rd {tg own : List Nat} {tt : Bool} {fi : Rho → Store → Res (List D)} {fc : Rho → Store → Res Bool} {fe : Rho → Store → Res D} (nm : List (Str × Nat)) (hnm : nm.map (·.2) = own) (htg : ∀ i ∈ tg, i ∈ own) :
    ∀ (σ : St) (H : Hp) (Q : VK), GE g .frs (fun ρ M => (fi ρ M).bind fun ds M => (compL (turnF tg tt own fc fe ρ) ds M).bind fun r M => .ok (.lst r) M) σ H Q →
      tLc (GI g X.K fi) (gT X.K tg tt) (GT g.blk fc) (GE g.blk .rep fe) (nm.map (·.2)) σ H Q := by
  rintro σ H Q ⟨ρ, M, w, e, s, a⟩
  refine ⟨ρ, M, w, e, s, Aft.mono (Aft.bind (rel := fun _ w' J ds => Wk X.K w' J ds) a fun w1 ex => anti_rl (k := .frs) (σ := σ) ρ w w1 ex) ?_⟩
  rintro J H1 ⟨ds, M1, w1, e1, ex1, s1, ⟨hlen, G, Y, W, hG, hY⟩, a1⟩
  subst e1
  intro Dp hD
  rw [hnm]
  -- the rest of the items from turn i on, and what is made so far
  refine lc_it W (Pv := fun i H => ∃ (acc : List D) (vs : List V) (Mi : Store) (wi : Wd), wi.H = H ∧ Ext w1 wi ∧ Sr g.w0 ρ Mi wi σ ∧ wi.H Dp = some (.lst vs) ∧ Reps wi vs acc ∧ ¬ wi.F Dp ∧ Dp ∉ wi.A ∧ acc.length ≤ i ∧
      Aft g (rl g ρ σ .frs) w1 ρ σ Q ((compL (turnF tg tt own fc fe ρ) (ds.drop i) Mi).bind fun r M => .ok (.lst (acc ++ r)) M)) ?_ ?_ ?_ ?_
  · refine ⟨[], [], M1, w1.owned Dp (.lst []), rfl, owned_ext s1.wf hD, s1.ext (owned_ext s1.wf hD) (owned_wf s1.wf hD) (owned_sto s1.sto s1.wf hD), upd_same, .nil, s1.wf.notF hD, s1.wf.notA hD, Nat.zero_le _, ?_⟩
    simpa using a1
  · rintro i H hi ⟨acc, vs, Mi, wi, rfl, exi, _⟩
    exact hG wi (exi.wle s1.wf)
  · rintro i x H H' hi ⟨acc, vs, Mi, wi, rfl, exi, si, hDi, ri, nF, nA, hl, ai⟩ y
    have hd : ds[i]? = some ds[i] := List.getElem?_eq_getElem hi
    obtain ⟨w3, rfl, ex3, wf3, st3, r3⟩ := hY i wi x H' _ hd (exi.wle s1.wf) si.wf y
    have s3 : Sr g.w0 ρ Mi w3 σ := si.ext ex3 wf3 (st3 Mi si.sto)
    rw [List.drop_eq_getElem_cons hi] at ai
    unfold compL at ai
    -- the turn
    cases hb : bindT tg tt (wipeR ρ own) ds[i] with
    | none =>
      have : turnF tg tt own fc fe ρ ds[i] Mi = .fail := by unfold turnF; rw [hb]
      rw [this] at ai; exact ai.elim
    | some ρ1 =>
      refine gT_ok (s3.wipe own) r3 hb fun us s4 => ⟨by rw [wipe_setVs htg, wipe_wipe], ?_⟩
      have et : turnF tg tt own fc fe ρ ds[i] Mi = (match fc ρ1 Mi with
          | .ok true M1 => (fe ρ1 M1).bind fun x M2 => .ok (some x) M2
          | .ok false M1 => .ok none M1
          | _ => .fail) := by unfold turnF; rw [hb]
      rw [et] at ai
      -- the list at D is kept through a piece of code that goes from w3 to w'
      have keep : ∀ w', Ext w3 w' → w'.H Dp = some (.lst vs) ∧ ¬ w'.F Dp ∧ Dp ∉ w'.A := by
        intro w' ex'
        have exw := ex3.trans ex'
        refine ⟨exw.H Dp _ hDi nA, fun z => ?_, fun z => ?_⟩
        · rcases exw.nF Dp z with z | z
          · exact nF z
          · rw [z] at hDi; cases hDi
        · rcases exw.nA Dp z with z | z
          · exact nA z
          · rw [z] at hDi; cases hDi
      refine ⟨ρ1, Mi, w3, rfl, s4, ?_⟩
      cases hc : fc ρ1 Mi with
      | fail => rw [hc] at ai; exact ai.elim
      | exc k M5 => rw [hc] at ai; exact ai.elim
      | ok t M5 =>
        rw [hc] at ai
        intro t' w5 ex5 s5 e5
        subst e5
        have srS : ∀ {Mx : Store} {wx : Wd}, Ext w3 wx → Wf wx → Sto wx Mx → Sr g.w0 ρ Mx wx σ := fun ex wf st => s3.ext ex wf st
        cases t' with
        | false =>
          rw [if_neg (by decide)]
          obtain ⟨k1, k2, k3⟩ := keep w5 ex5
          refine ⟨acc, vs, M5, w5, rfl, exi.trans (ex3.trans ex5), srS ex5 s5.wf s5.sto, k1, (ri.mono ((ex3.trans ex5).wle si.wf)), k2, k3, by omega, ?_⟩
          revert ai
          show Aft g _ w1 ρ σ Q (Res.bind (match compL (turnF tg tt own fc fe ρ) (List.drop (i + 1) ds) M5 with | .ok r M2 => Res.ok r M2 | _ => .fail) _) → _
          cases compL (turnF tg tt own fc fe ρ) (List.drop (i + 1) ds) M5 with
          | ok r M6 => exact fun z => z
          | exc _ _ => exact fun z => z.elim
          | fail => exact fun z => z
        | true =>
          rw [if_pos rfl]
          refine ⟨ρ1, M5, w5, rfl, s5, ?_⟩
          have ai : Aft g (rl g ρ σ .frs) w1 ρ σ Q (Res.bind (match ((fe ρ1 M5).bind fun x M2 => .ok (some x) M2) with
            | .ok o M1 => match compL (turnF tg tt own fc fe ρ) (List.drop (i + 1) ds) M1 with
              | .ok r M2 => .ok (match o with | some x => x :: r | none => r) M2
              | _ => .fail
            | _ => .fail) fun r M => .ok (.lst (acc ++ r)) M) := ai
          cases hx : fe ρ1 M5 with
          | fail => rw [hx] at ai; exact ai.elim
          | exc k M6 => rw [hx] at ai; exact ai.elim
          | ok d6 M6 =>
            rw [hx] at ai
            intro v6 w6 ex6 s6 r6
            have ex36 := ex5.trans ex6
            obtain ⟨k1, k2, k3⟩ := keep w6 ex36
            have r6 : Rep w6 v6 d6 := r6
            have rv := ri.mono ((ex3.trans ex36).wle si.wf)
            refine ⟨vs, k1, ?_, ?_⟩
            · rw [rv.length]
              have : i < LIM := Nat.lt_of_lt_of_le hi hlen
              show acc.length < LIM
              omega
            · -- the list grows
              let w7 : Wd := ⟨w6.F, w6.A, upd w6.H Dp (.lst (vs ++ [v6])), w6.K⟩
              have hne : ∀ q, w6.F q → q ≠ Dp := fun q hq z => k2 (z ▸ hq)
              have le67 : Wle w6 w7 := ⟨fun q hq => ⟨hq, upd_ne (hne q hq)⟩, fun _ _ z => z, rfl⟩
              have wf7 : Wf w7 := ⟨fun q hq => by
                  obtain ⟨n1, o, ho⟩ := s6.wf.f q hq
                  exact ⟨n1, o, by show upd w6.H Dp _ q = some o; rw [upd_ne (hne q hq)]; exact ho⟩, s6.wf.nd, fun q hq => by
                  obtain ⟨o, ho⟩ := s6.wf.a q hq
                  exact ⟨o, by show upd w6.H Dp _ q = some o; rw [upd_ne (show q ≠ Dp from fun z => by subst z; exact k3 hq)]; exact ho⟩⟩
              have ex17 : Ext w1 w7 := by
                have ex16 := exi.trans (ex3.trans ex36)
                refine ⟨ex16.F, ex16.A, fun q o ho hn => ?_, ex16.nF, ex16.nA, fun q hq => ?_, ex16.K⟩
                · have hne : q ≠ Dp := ne_of_none ho hD
                  show upd w6.H Dp _ q = some o
                  rw [upd_ne hne]; exact ex16.H q o ho hn
                · show upd w6.H Dp _ q ≠ none
                  by_cases z : q = Dp
                  · subst z; rw [upd_same]; exact fun z => nomatch z
                  · rw [upd_ne z]; exact ex16.kp q hq
              have st7 : Sto w7 M6 := ⟨s6.sto.len, fun hh q dd h1 h2 => (s6.sto.at_ hh q dd h1 h2).mono le67 (upd_ne (show q ≠ Dp from fun z => by subst z; exact k3 (List.mem_of_getElem? h1)))⟩
              refine ⟨acc ++ [d6], vs ++ [v6], M6, w7, rfl, ex17, s1.ext ex17 wf7 st7, upd_same, (rv.append (.cons r6 .nil)).mono le67, k2, k3, by simp; omega, ?_⟩
              revert ai
              show Aft g _ w1 ρ σ Q (Res.bind (match compL (turnF tg tt own fc fe ρ) (List.drop (i + 1) ds) M6 with | .ok r M2 => Res.ok (d6 :: r) M2 | _ => .fail) _) → _
              cases compL (turnF tg tt own fc fe ρ) (List.drop (i + 1) ds) M6 with
              | ok r M6 =>
                intro z
                simpa [Res.bind] using z
              | exc _ _ => exact fun z => z.elim
              | fail => exact fun z => z
  · rintro H ⟨acc, vs, Mi, wi, rfl, exi, si, hDi, ri, nF, nA, hl, ai⟩
    rw [List.drop_length] at ai
    have ai : Aft g (rl g ρ σ .frs) w1 ρ σ Q (.ok (.lst (acc ++ [])) Mi) := ai
    rw [List.append_nil] at ai
    exact ai (.ref Dp) wi exi si ⟨Dp, rfl, ⟨vs, hDi, ri⟩, nF, nA, hD⟩
theorem s_comp (h : Cok T X g N sc) {tge iter elt : Expr} {ifs : List Expr} {scope : Scope} {tg own : List Nat} {tt : Bool} {fi : Rho → Store → Res (List D)} {fc : Rho → Store → Res Bool} {fe : Rho → Store → Res D}
    (nm : List (Str × Nat)) (hnm : nm.map (·.2) = own)
    (hi : PI X tge iter (GI g X.K fi)) (ok : BlkOk X.N X.env.scope scope nm) (htg : ∀ i ∈ tg, i ∈ own)
    (hg : ∀ (s : Shared) (H : Hp) (C : Addr) (cl : List (Str × Addr)) (fp : List Addr), PG (X.blk s H scope (compEnvC scope cl C X.env) fp) tge (gT X.K tg tt))
    (ht : ∀ (s : Shared) (H : Hp) (C : Addr) (cl : List (Str × Addr)) (fp : List Addr), PTs (X.blk s H scope (compEnvC scope cl C X.env) fp) ifs (GT g.blk fc))
    (he : ∀ (s : Shared) (H : Hp) (C : Addr) (cl : List (Str × Addr)) (fp : List Addr), PE (X.blk s H scope (compEnvC scope cl C X.env) fp) elt (GE g.blk .rep fe))
    (hs : ∀ x, foldedSetIterable iter X.env x = pure x) :
    PE X (.ListComp elt [⟨tge, iter, ifs, 0⟩] scope pos) (GE g .frs fun ρ M => (fi ρ M).bind fun ds M => (compL (turnF tg tt own fc fe ρ) ds M).bind fun r M => .ok (.lst r) M) := by
  exact PE.imp (pe_lc h.calm (by rw [h.hN]; exact h.nd) hi ok hg ht he hs) (comp_rd nm hnm htg)
end
end Pv

set_option Elab.async false
set_option linter.all false
set_option maxRecDepth 100000
set_option maxHeartbeats 4000000
namespace Pv
open PySem L2

section
variable {P : List Fn} {gi : List (Str × Int)} {N : List Str}
theorem okE_nst {sc : Scope} {a : E} {e : Expr} (h : okE P gi N sc a e = true) : nst e = true := by
  cases e <;> first | rfl | (exfalso; cases a <;> simp [okE] at h)
theorem okE_nset {sc : Scope} {a : E} {e : Expr} (h : okE P gi N sc a e = true) : nset e = true := by
  cases e <;> first | rfl | (exfalso; cases a <;> simp [okE] at h)
theorem okE_nsl {sc : Scope} {a : E} {e : Expr} (h : okE P gi N sc a e = true) : nsl e = true := by
  cases e <;> first | rfl | (exfalso; cases a <;> simp [okE] at h)
theorem okL_nst {sc : Scope} : ∀ (l : E) {xs : List Expr}, okL P gi N sc l xs = true → xs.all nst = true := by
  intro l
  induction l with
  | nil =>
    intro xs h
    cases xs with
    | nil => rfl
    | cons x xs => simp [okL] at h
  | cons e r ihe ihr =>
    intro xs h
    cases xs with
    | nil => rfl
    | cons x xs =>
      simp only [okL, Bool.and_eq_true] at h
      rw [List.all_cons, okE_nst h.2.1, ihr h.2.2]; rfl
  | _ => intro xs h; simp [okL] at h
theorem okI_nset {sc : Scope} {tt : Bool} {a : E} {e : Expr} (h : okI P gi N sc tt a e = true) : nset e = true := by
  cases e <;> first | rfl | skip
  exfalso
  cases a <;> simp [okI] at h
  exact absurd (okE_nset h.2) (by simp [nset])
/-- neither a list of arguments nor what is walked -/
def plainE : E → Bool
  | .nil => false | .cons _ _ => false | .itSeq _ => false | .itRange1 _ => false | .itRange _ _ => false | .itEnum _ => false | .itZip _ _ => false
  | _ => true
theorem plain_L {sc : Scope} {a : E} {xs : List Expr} (p : plainE a = true) : okL P gi N sc a xs = false := by cases a <;> first | (cases p; done) | rfl
theorem plain_C {sc : Scope} {a : E} {xs : List Expr} (p : plainE a = true) : okC P gi N sc a xs = false := by cases a <;> first | (cases p; done) | rfl
theorem plain_O {sc : Scope} {a : E} {xs : Option Expr} (p : plainE a = true) : okO P gi N sc a xs = false := by cases a <;> first | (cases p; done) | rfl
theorem plain_I {sc : Scope} {tt : Bool} {a : E} {x : Expr} (p : plainE a = true) : okI P gi N sc tt a x = false := by cases a <;> first | (cases p; done) | rfl
theorem fold_ok {e : Expr} {env : PySem.Env} (h : nset e = true) : ∀ x, foldedSetIterable e env x = pure x := by
  intro x
  cases e <;> first | rfl | cases h
end

section
variable {T : Tb} {X : Cx} {g : Gx} {N : List Str} {sc : Scope} {pos : Pos} {a b c : Expr} {fa fb fc : Rho → Store → Res D}
theorem to_rep {x : Expr} {e : E} (h : PE X x (GE g (kindE e) fa)) (n : notBor e = true) : PE X x (GE g .rep fa) := by
  cases k : kindE e with
  | rep => rw [k] at h; exact h
  | frs => rw [k] at h; exact PE.imp h fun _ _ _ q => GE.freeze q
  | bor => cases e <;> first | (cases n; done) | (cases k; done)
theorem to_nf {x : Expr} {e : E} (h : PE X x (GE g (kindE e) fa)) : ∃ k, k ≠ RK.frs ∧ PE X x (GE g k fa) := by
  cases k : kindE e with
  | rep => rw [k] at h; exact ⟨.rep, (fun z => nomatch z), h⟩
  | frs => rw [k] at h; exact ⟨.rep, (fun z => nomatch z), PE.imp h fun _ _ _ q => GE.freeze q⟩
  | bor => rw [k] at h; exact ⟨.bor, (fun z => nomatch z), h⟩
theorem t_fail {x : Expr} : PT X x (GT g fun _ _ => .fail) := ⟨fun pins s σ H Q I q => by
  obtain ⟨ρ, M, w, e, s, a⟩ := q
  exact a.elim⟩
theorem pt_eq {x : Expr} {f f' : Rho → Store → Res Bool} (h : PT X x (GT g f)) (e : ∀ ρ M, f' ρ M = f ρ M) : PT X x (GT g f') := by
  have : f' = f := funext fun ρ => funext fun M => e ρ M
  rw [this]; exact h
theorem pe_eq {x : Expr} {k : RK} {f f' : Rho → Store → Res D} (h : PE X x (GE g k f)) (e : ∀ ρ M, f' ρ M = f ρ M) : PE X x (GE g k f') := by
  have : f' = f := funext fun ρ => funext fun M => e ρ M
  rw [this]; exact h
/-- the context of a comprehension's block -/
theorem Cok.blk (h : Cok T X g N sc) (scope : Scope) (s : Shared) (H : Hp) (C : Addr) (cl : List (Str × Addr)) (fp : List Addr) : Cok T (X.blk s H scope (compEnvC scope cl C X.env) fp) g.blk N (relS scope sc) where
  p := h.p
  room := h.room
  hN := h.hN
  nd := h.nd
  sc := by
    show relabel scope X.env = relS scope sc
    rw [← h.sc]; rfl
  calm := h.calm
  tk := fun u s' x => by
    obtain ⟨_, _, _, _, _, _, _, _, _, _, _, _, _, _, _, _, z⟩ := x
    exact z.elim
  gc := h.gc
  kk := h.kk
theorem blk_tg (h : Cok T X g N sc) (scope : Scope) (s : Shared) (H : Hp) (C : Addr) (cl : List (Str × Addr)) (fp : List Addr) (i : Nat) (x : Str) (k : tgB N scope i x = true) : TgOk (X.blk s H scope (compEnvC scope cl C X.env) fp) i x := by
  have hsc : (X.blk s H scope (compEnvC scope cl C X.env) fp).env.scope = relS scope sc := (h.blk scope s H C cl fp).sc
  obtain ⟨h1, h2⟩ := tgB_of k
  refine ⟨by rw [← h.hN] at h1; exact h1, ?_, ?_⟩
  · rw [hsc]
    rcases h2 with h2 | h2
    · exact .inl (lookup_relS_keep (by decide) h2)
    · exact .inr (lookup_relS_keep (by decide) h2)
  · rcases h2 with h2 | h2
    · refine .inr ?_
      rw [hsc]
      exact lookup_relS_keep (by decide) h2
    · refine .inl ?_
      show (scope.names.lookup x == some .cell) = true
      rw [h2]; rfl
theorem truR_bind {α : Type} (r : Res α) (f : α → Store → Res D) : truR (r.bind f) = r.bind fun a M => truR (f a M) := by
  unfold truR; cases r <;> rfl
theorem truR_opt (o : Option D) (M : Store) : truR (Pv.opt o M) = (Pv.opt o M).bind fun d M => Pv.opt (truD (dr M d)) M := rfl

end
end Pv

set_option Elab.async false
set_option linter.all false
set_option maxRecDepth 100000
set_option maxHeartbeats 8000000
namespace Pv
open PySem L2

structure Snd (T : Tb) (N : List Str) (a : E) : Prop where
  e : ∀ {X : Cx} {g : Gx} {sc : Scope} (e : Expr), Cok T X g N sc → okE T.P T.gi N sc a e = true → PE X e (GE g (kindE a) (ev T.C a))
  t : ∀ {X : Cx} {g : Gx} {sc : Scope} (e : Expr), Cok T X g N sc → okE T.P T.gi N sc a e = true → PT X e (GT g (evT T.C a))
  l : ∀ {X : Cx} {g : Gx} {sc : Scope} (xs : List Expr), Cok T X g N sc → okL T.P T.gi N sc a xs = true → PA X xs (GA g (evs T.C a))
  c : ∀ {X : Cx} {g : Gx} {sc : Scope} (xs : List Expr), Cok T X g N sc → okC T.P T.gi N sc a xs = true → PTs X xs (GT g (evC T.C a))
  o : ∀ {X : Cx} {g : Gx} {sc : Scope} (x : Option Expr), Cok T X g N sc → okO T.P T.gi N sc a x = true → PO X x (GO g (evO T.C a))
  and : ∀ {X : Cx} {g : Gx} {sc : Scope} (xs : List Expr) (p : Pos), Cok T X g N sc → (!xs.isEmpty) = true → okL T.P T.gi N sc a xs = true → PE X (.BoolOp .And xs p) (GE g .rep (evAnd T.C a))
  or : ∀ {X : Cx} {g : Gx} {sc : Scope} (xs : List Expr) (p : Pos), Cok T X g N sc → (!xs.isEmpty) = true → okL T.P T.gi N sc a xs = true → PE X (.BoolOp .Or xs p) (GE g .rep (evOr T.C a))
  andT : ∀ {X : Cx} {g : Gx} {sc : Scope} (xs : List Expr) (p : Pos), Cok T X g N sc → (!xs.isEmpty) = true → okL T.P T.gi N sc a xs = true → PW X (.BoolOp .And xs p) (GT g (evAndT T.C a))
  orT : ∀ {X : Cx} {g : Gx} {sc : Scope} (xs : List Expr) (p : Pos), Cok T X g N sc → (!xs.isEmpty) = true → okL T.P T.gi N sc a xs = true → PW X (.BoolOp .Or xs p) (GT g (evOrT T.C a))
  i : ∀ {X : Cx} {g : Gx} {sc : Scope} {tt : Bool} (e tg : Expr), Cok T X g N sc → okI T.P T.gi N sc tt a e = true → (tt = true → ∃ elts kk p, tg = .Tuple elts kk p) → PI X tg e (GI g X.K (evI T.C a))

section
variable {T : Tb} {N : List Str}
theorem Snd.plain {a : E} (p : plainE a = true) (he : ∀ {X : Cx} {g : Gx} {sc : Scope} (e : Expr), Cok T X g N sc → okE T.P T.gi N sc a e = true → PE X e (GE g (kindE a) (ev T.C a)))
    (ht : ∀ {X : Cx} {g : Gx} {sc : Scope} (e : Expr), Cok T X g N sc → okE T.P T.gi N sc a e = true → PT X e (GT g (evT T.C a))) : Snd T N a where
  e := he
  t := ht
  l := fun xs h k => by rw [plain_L p] at k; cases k
  c := fun xs h k => by rw [plain_C p] at k; cases k
  o := fun xs h k => by rw [plain_O p] at k; cases k
  and := fun xs p' h n k => by rw [plain_L p] at k; cases k
  or := fun xs p' h n k => by rw [plain_L p] at k; cases k
  andT := fun xs p' h n k => by rw [plain_L p] at k; cases k
  orT := fun xs p' h n k => by rw [plain_L p] at k; cases k
  i := fun e tg h k => by rw [plain_I p] at k; cases k
theorem isNil_of {r : E} (h : isNil r = true) : r = .nil := by cases r <;> first | rfl | cases h
theorem noCall_of {o : Expr} (h : noCall o = true) : ncall o = true := by cases o <;> first | rfl | cases h

theorem snd (a : E) : Snd T N a := by
  induction a with
  | int i => exact .plain rfl (fun e h k => by
      cases e <;> try (simp [okE] at k; done)
      rename_i c _ _; cases c <;> simp [okE] at k
      subst k; exact s_const pe_int fun _ => .int _) (fun e h k => t_fail)
  | str x => exact .plain rfl (fun e h k => by
      cases e <;> try (simp [okE] at k; done)
      rename_i c _ _; cases c <;> simp [okE] at k
      obtain ⟨rfl, k⟩ := k
      exact s_const pe_str fun _ => .str _ k) (fun e h k => t_fail)
  | bl b =>
    have pe : ∀ {X : Cx} {g : Gx} {sc : Scope} (e : Expr), Cok T X g N sc → okE T.P T.gi N sc (.bl b) e = true → PE X e (GE g .rep (ev T.C (.bl b))) := fun e h k => by
      cases e <;> try (simp [okE] at k; done)
      rename_i c _ _; cases c <;> simp [okE] at k
      subst k; exact s_const pe_bl fun _ => .bl _
    exact .plain rfl pe (fun e h k => by
      have p := pe e h k
      cases e <;> try (simp [okE] at k; done)
      exact pt_eq (t_truth h.kk rfl p) fun ρ M => rfl)
  | non => exact .plain rfl (fun e h k => by
      cases e <;> try (simp [okE] at k; done)
      rename_i c _ _; cases c <;> simp [okE] at k
      exact s_const pe_non fun _ => .non) (fun e h k => t_fail)
  | var i => exact .plain rfl (fun e h k => by
      cases e <;> try (simp [okE] at k; done)
      exact s_var h (by simpa only [okE] using k)) (fun e h k => by
      cases e <;> try (simp [okE] at k; done)
      refine pt_eq (t_truth h.kk rfl (s_var h (by simpa only [okE] using k))) fun ρ M => ?_
      simp only [evT, ev]
      split <;> rfl)
  | peek i => exact .plain rfl (fun e h k => by
      cases e <;> try (simp [okE] at k; done)
      exact s_peek h (by simpa only [okE] using k)) (fun e h k => by
      cases e <;> try (simp [okE] at k; done)
      refine pt_eq (t_truth h.kk rfl (s_peek h (by simpa only [okE] using k))) fun ρ M => ?_
      simp only [evT, ev]
      split <;> rfl)
  | move i => exact .plain rfl (fun e h k => by
      cases e <;> try (simp [okE] at k; done)
      exact s_peek h (by simpa only [okE] using k)) (fun e h k => t_fail)
  | glob y i => exact .plain rfl (fun e h k => by
      cases e <;> try (simp [okE] at k; done)
      simp only [okE, Bool.and_eq_true, decide_eq_true_eq] at k
      obtain ⟨rfl, k1, k2⟩ := k
      exact s_glob h k1 k2) (fun e h k => t_fail)
  | bin bk a b iha ihb => exact .plain rfl (fun e h k => by
      cases e <;> try (simp [okE] at k; done)
      simp only [okE, Bool.and_eq_true] at k
      obtain ⟨k1, ⟨n1, k2⟩, n2, k3⟩ := k
      exact s_bin h k1 (to_rep (iha.e _ h k2) n1) (to_rep (ihb.e _ h k3) n2)) (fun e h k => t_fail)
  | neg a iha => exact .plain rfl (fun e h k => by
      cases e <;> try (simp [okE] at k; done)
      rename_i op x p; cases op <;> try (simp [okE] at k; done)
      simp only [okE, Bool.and_eq_true] at k
      exact s_neg (to_rep (iha.e _ h k.2.2) k.2.1)) (fun e h k => t_fail)
  | cmp ck a b iha ihb => exact .plain rfl (fun e h k => by
      cases e <;> try (simp [okE] at k; done)
      rename_i x ops ys p
      rcases ops with _ | ⟨op, _ | ⟨op2, ops⟩⟩ <;> try (simp [okE] at k; done)
      rcases ys with _ | ⟨y, _ | ⟨y2, ys⟩⟩ <;> try (simp [okE] at k; done)
      simp only [okE, Bool.and_eq_true] at k
      obtain ⟨k1, ⟨n1, k2⟩, k3, k4⟩ := k
      exact s_cmp h k1 (okE_nset k3) (to_rep (iha.e _ h k2) n1) (ihb.e _ h k3)) (fun e h k => by
      cases e <;> try (simp [okE] at k; done)
      rename_i x ops ys p
      rcases ops with _ | ⟨op, _ | ⟨op2, ops⟩⟩ <;> try (simp [okE] at k; done)
      rcases ys with _ | ⟨y, _ | ⟨y2, ys⟩⟩ <;> try (simp [okE] at k; done)
      simp only [okE, Bool.and_eq_true] at k
      obtain ⟨k1, ⟨n1, k2⟩, k3, k4⟩ := k
      exact t_cmp h k1 (okE_nset k3) (to_rep (iha.e _ h k2) n1) (ihb.e _ h k3))
  | cmp2 ck cl a b c iha ihb ihc => exact .plain rfl (fun e h k => by
      cases e <;> try (simp [okE] at k; done)
      rename_i x ops ys p
      rcases ops with _ | ⟨op, _ | ⟨op2, _ | ⟨op3, ops⟩⟩⟩ <;> try (simp [okE] at k; done)
      rcases ys with _ | ⟨y, _ | ⟨y2, _ | ⟨y3, ys⟩⟩⟩ <;> try (simp [okE] at k; done)
      simp only [okE, Bool.and_eq_true] at k
      obtain ⟨k1, k2, ⟨n1, k3⟩, ⟨n2, k4⟩, ⟨n3, k5⟩, _⟩ := k
      exact s_cmp2 h k1 k2 (okE_nset k5) (to_rep (iha.e _ h k3) n1) (to_rep (ihb.e _ h k4) n2) (to_rep (ihc.e _ h k5) n3)) (fun e h k => by
      cases e <;> try (simp [okE] at k; done)
      rename_i x ops ys p
      rcases ops with _ | ⟨op, _ | ⟨op2, _ | ⟨op3, ops⟩⟩⟩ <;> try (simp [okE] at k; done)
      rcases ys with _ | ⟨y, _ | ⟨y2, _ | ⟨y3, ys⟩⟩⟩ <;> try (simp [okE] at k; done)
      simp only [okE, Bool.and_eq_true] at k
      obtain ⟨k1, k2, ⟨n1, k3⟩, ⟨n2, k4⟩, ⟨n3, k5⟩, _⟩ := k
      exact t_cmp2 h k1 k2 (okE_nset k5) (to_rep (iha.e _ h k3) n1) (to_rep (ihb.e _ h k4) n2) (to_rep (ihc.e _ h k5) n3))
  | and l ihl => exact .plain rfl (fun e h k => by
      cases e <;> try (simp [okE] at k; done)
      rename_i op xs p; cases op <;> try (simp [okE] at k; done)
      simp only [okE, Bool.and_eq_true] at k
      exact ihl.and xs p h k.2.1 k.2.2) (fun e h k => by
      cases e <;> try (simp [okE] at k; done)
      rename_i op xs p; cases op <;> try (simp [okE] at k; done)
      simp only [okE, Bool.and_eq_true] at k
      exact (ihl.andT xs p h k.2.1 k.2.2).pt)
  | or l ihl => exact .plain rfl (fun e h k => by
      cases e <;> try (simp [okE] at k; done)
      rename_i op xs p; cases op <;> try (simp [okE] at k; done)
      simp only [okE, Bool.and_eq_true] at k
      exact ihl.or xs p h k.2.1 k.2.2) (fun e h k => by
      cases e <;> try (simp [okE] at k; done)
      rename_i op xs p; cases op <;> try (simp [okE] at k; done)
      simp only [okE, Bool.and_eq_true] at k
      exact (ihl.orT xs p h k.2.1 k.2.2).pt)
  | not a iha => exact .plain rfl (fun e h k => by
      cases e <;> try (simp [okE] at k; done)
      rename_i op x p; cases op <;> try (simp [okE] at k; done)
      simp only [okE, Bool.and_eq_true] at k
      exact s_not h.kk (iha.e _ h k.2)) (fun e h k => by
      cases e <;> try (simp [okE] at k; done)
      rename_i op x p; cases op <;> try (simp [okE] at k; done)
      simp only [okE, Bool.and_eq_true] at k
      exact t_not (iha.t _ h k.2))
  | ite t a b iht iha ihb => exact .plain rfl (fun e h k => by
      cases e <;> try (simp [okE] at k; done)
      simp only [okE, Bool.and_eq_true] at k
      obtain ⟨k1, ⟨n1, k2⟩, n2, k3⟩ := k
      exact s_ite (iht.t _ h k1) (to_rep (iha.e _ h k2) n1) (to_rep (ihb.e _ h k3) n2)) (fun e h k => t_fail)
  | tup l ihl => exact .plain rfl (fun e h k => by
      cases e <;> try (simp [okE] at k; done)
      simp only [okE] at k
      exact s_tup (ihl.l _ h k)) (fun e h k => t_fail)
  | lst l ihl => exact .plain rfl (fun e h k => by
      cases e <;> try (simp [okE] at k; done)
      simp only [okE] at k
      exact s_lst (ihl.l _ h k)) (fun e h k => t_fail)
  | idx a b iha ihb =>
    have pe : ∀ {X : Cx} {g : Gx} {sc : Scope} (e : Expr), Cok T X g N sc → okE T.P T.gi N sc (.idx a b) e = true → PE X e (GE g .rep (ev T.C (.idx a b))) := fun e h k => by
      cases e <;> try (simp [okE] at k; done)
      simp only [okE, Bool.and_eq_true] at k
      obtain ⟨k1, n2, k2⟩ := k
      obtain ⟨ka, hk, pa⟩ := to_nf (iha.e _ h k1)
      exact s_idx h hk (okE_nsl k2) pa (to_rep (ihb.e _ h k2) n2)
    exact .plain rfl pe (fun e h k => by
      have p := pe e h k
      cases e <;> try (simp [okE] at k; done)
      refine pt_eq (t_truth h.kk rfl p) fun ρ M => ?_
      simp only [evT, ev, truR_bind, truR_opt])
  | slice a lo hi iha ihl ihh => exact .plain rfl (fun e h k => by
      cases e <;> try (simp [okE] at k; done)
      rename_i x y p
      cases y <;> try (simp [okE] at k; done)
      rename_i l u st p2
      cases st <;> try (simp [okE] at k; done)
      simp only [okE, Bool.and_eq_true] at k
      obtain ⟨⟨n1, k1⟩, k2, k3⟩ := k
      exact s_slice (to_rep (iha.e _ h k1) n1) (ihl.o _ h k2) (ihh.o _ h k3)) (fun e h k => t_fail)
  | rev a iha => exact .plain rfl (fun e h k => by simp [okE] at k) (fun e h k => t_fail)
  | call f l ihl =>
    have pe : ∀ {X : Cx} {g : Gx} {sc : Scope} (e : Expr), Cok T X g N sc → okE T.P T.gi N sc (.call f l) e = true → PE X e (GE g .rep (ev T.C (.call f l))) := fun e h k => by
      cases e <;> try (simp [okE] at k; done)
      rename_i fe xs kw p
      cases fe <;> try (simp [okE] at k; done)
      rename_i idn pn
      cases kw <;> try (simp [okE] at k; done)
      simp only [okE, Bool.and_eq_true] at k
      obtain ⟨k0, k1, kn, k2⟩ := k
      cases hf : T.P[f]? with
      | none => rw [hf] at k0; cases k0
      | some fn =>
        rw [hf] at k0
        simp only [Bool.and_eq_true, decide_eq_true_eq, Bool.not_eq_true'] at k0
        cases xs with
        | nil => cases kn
        | cons x xs =>
          have := s_call (pos := p) (p := pn) h hf k1 k0.1 (okL_nst l k2) (ihl.l _ h k2)
          rw [k0.2] at this
          exact this
    exact .plain rfl pe (fun e h k => by
      have p := pe e h k
      cases e <;> try (simp [okE] at k; done)
      refine pt_eq (t_truth h.kk rfl p) fun ρ M => ?_
      simp only [evT, ev, truR_bind])
  | fcall f l ihl => exact .plain rfl (fun e h k => by
      cases e <;> try (simp [okE] at k; done)
      rename_i fe xs kw p
      cases fe <;> try (simp [okE] at k; done)
      rename_i idn pn
      cases kw <;> try (simp [okE] at k; done)
      simp only [okE, Bool.and_eq_true] at k
      obtain ⟨k0, k1, kn, k2⟩ := k
      cases hf : T.P[f]? with
      | none => rw [hf] at k0; cases k0
      | some fn =>
        rw [hf] at k0
        simp only [Bool.and_eq_true, decide_eq_true_eq] at k0
        cases xs with
        | nil => cases kn
        | cons x xs =>
          have := s_call (pos := p) (p := pn) h hf k1 k0.1 (okL_nst l k2) (ihl.l _ h k2)
          rw [k0.2] at this
          exact this) (fun e h k => t_fail)
  | fn1 fk a iha =>
    have pe : ∀ {X : Cx} {g : Gx} {sc : Scope} (e : Expr), Cok T X g N sc → okE T.P T.gi N sc (.fn1 fk a) e = true → PE X e (GE g .rep (ev T.C (.fn1 fk a))) := fun e h k => by
      cases e <;> try (simp [okE] at k; done)
      rename_i fe xs kw p
      cases fe <;> try (simp [okE] at k; done)
      cases kw <;> try (simp [okE] at k; done)
      rcases xs with _ | ⟨x, _ | ⟨x2, xs⟩⟩ <;> try (simp [okE] at k; done)
      simp only [okE, Bool.and_eq_true] at k
      exact s_fn1 h k.1 (okE_nst k.2) (iha.e _ h k.2)
    exact .plain rfl pe (fun e h k => by
      have p := pe e h k
      cases e <;> try (simp [okE] at k; done)
      refine pt_eq (t_truth h.kk rfl p) fun ρ M => ?_
      simp only [evT, ev, truR_bind, truR_opt])
  | fn2 fk a b iha ihb => exact .plain rfl (fun e h k => by
      cases e <;> try (simp [okE] at k; done)
      rename_i fe xs kw p
      cases fe <;> try (simp [okE] at k; done)
      cases kw <;> try (simp [okE] at k; done)
      rcases xs with _ | ⟨x, _ | ⟨x2, _ | ⟨x3, xs⟩⟩⟩ <;> try (simp [okE] at k; done)
      simp only [okE, Bool.and_eq_true] at k
      obtain ⟨k1, ⟨n1, k2⟩, n2, k3⟩ := k
      exact s_fn2 h k1 (okE_nst k2) (okE_nst k3) (to_rep (iha.e _ h k2) n1) (to_rep (ihb.e _ h k3) n2)) (fun e h k => t_fail)
  | meth1 mk a b iha ihb => exact .plain rfl (fun e h k => by
      cases e <;> try (simp [okE] at k; done)
      rename_i fe xs kw p
      cases fe <;> try (simp [okE] at k; done)
      cases kw <;> try (simp [okE] at k; done)
      rcases xs with _ | ⟨x, _ | ⟨x2, xs⟩⟩ <;> try (simp [okE] at k; done)
      simp only [okE, Bool.and_eq_true, decide_eq_true_eq] at k
      obtain ⟨rfl, k1, ⟨n2, k2⟩, k3, k4⟩ := k
      obtain ⟨ka, hk, pa⟩ := to_nf (iha.e _ h k1)
      exact s_meth1 h hk (okE_nst k2) (noCall_of k3) k4 pa (to_rep (ihb.e _ h k2) n2)) (fun e h k => t_fail)
  | get2 a b c iha ihb ihc => exact .plain rfl (fun e h k => by
      cases e <;> try (simp [okE] at k; done)
      rename_i fe xs kw p
      cases fe <;> try (simp [okE] at k; done)
      cases kw <;> try (simp [okE] at k; done)
      rcases xs with _ | ⟨x, _ | ⟨x2, _ | ⟨x3, xs⟩⟩⟩ <;> try (simp [okE] at k; done)
      simp only [okE, Bool.and_eq_true, decide_eq_true_eq] at k
      obtain ⟨rfl, k1, ⟨n2, k2⟩, ⟨n3, k5⟩, k3, k4⟩ := k
      obtain ⟨ka, hk, pa⟩ := to_nf (iha.e _ h k1)
      exact s_get2 h hk (okE_nst k2) (okE_nst k5) (noCall_of k3) k4 pa (to_rep (ihb.e _ h k2) n2) (to_rep (ihc.e _ h k5) n3)) (fun e h k => t_fail)
  | isi a t iha => exact .plain rfl (fun e h k => by
      cases e <;> try (simp [okE] at k; done)
      rename_i fe xs kw p
      cases fe <;> try (simp [okE] at k; done)
      cases kw <;> try (simp [okE] at k; done)
      rcases xs with _ | ⟨x, _ | ⟨x2, _ | ⟨x3, xs⟩⟩⟩ <;> try (simp [okE] at k; done)
      cases x2 <;> try (simp [okE] at k; done)
      simp only [okE, Bool.and_eq_true] at k
      exact s_isi h k.1 k.2.1 (okE_nst k.2.2) (iha.e _ h k.2.2)) (fun e h k => by
      cases e <;> try (simp [okE] at k; done)
      rename_i fe xs kw p
      cases fe <;> try (simp [okE] at k; done)
      cases kw <;> try (simp [okE] at k; done)
      rcases xs with _ | ⟨x, _ | ⟨x2, _ | ⟨x3, xs⟩⟩⟩ <;> try (simp [okE] at k; done)
      cases x2 <;> try (simp [okE] at k; done)
      simp only [okE, Bool.and_eq_true] at k
      exact t_isi h k.1 k.2.1 (okE_nst k.2.2) (iha.e _ h k.2.2))
  | ff fk a iha => exact .plain rfl (fun e h k => by
      cases e <;> try (simp [okE] at k; done)
      rename_i fe xs kw p
      cases fe <;> try (simp [okE] at k; done)
      cases kw <;> try (simp [okE] at k; done)
      rcases xs with _ | ⟨x, _ | ⟨x2, xs⟩⟩ <;> try (simp [okE] at k; done)
      cases fk <;> try (simp [okE] at k; done)
      · simp only [okE, Bool.and_eq_true] at k
        exact s_list h k.1 (okE_nst k.2) (iha.e _ h k.2)
      · simp only [okE, Bool.and_eq_true] at k
        exact s_sorted h k.1 (okE_nst k.2) (iha.e _ h k.2)) (fun e h k => t_fail)
  | dic0 => exact .plain rfl (fun e h k => by
      cases e <;> try (simp [okE] at k; done)
      rename_i ks vs p
      cases ks <;> try (simp [okE] at k; done)
      cases vs <;> try (simp [okE] at k; done)
      exact s_dic0) (fun e h k => t_fail)
  | comp tg tt it cond elt own ihi ihc ihe =>
    have pe : ∀ {X : Cx} {g : Gx} {sc : Scope} (e : Expr), Cok T X g N sc → okE T.P T.gi N sc (.comp tg tt it cond elt own) e = true → PE X e (GE g .frs (ev T.C (.comp tg tt it cond elt own))) := fun {X g sc} e h k => by
      cases e <;> try (simp [okE] at k; done)
      rename_i x gs scope p
      rcases gs with _ | ⟨⟨t, i, ifs, na⟩, _ | ⟨g2, gs⟩⟩ <;> try (simp [okE] at k; done)
      simp only [okE, Bool.and_eq_true, decide_eq_true_eq] at k
      obtain ⟨rfl, k1, k2, k3, k4, k5, k6, n7, k7⟩ := k
      have hi := ihi.i (tt := tt) i t h k1 (fun z => by
        subst z
        cases t <;> first | exact ⟨_, _, _, rfl⟩ | (exfalso; simp [targetB] at k4))
      have hfold : ∀ y, foldedSetIterable i X.env y = pure y := fold_ok (okI_nset k1)
      have tgo : ∀ j ∈ tg, j ∈ own := by
        intro j hj
        have := List.all_eq_true.mp k5 j hj
        simpa using this
      refine s_comp h (own.filterMap fun j => (N[j]?).map fun y => (y, j)) k3 hi (by rw [h.hN, h.sc]; exact blkOk_by k2) tgo ?_ ?_ ?_ hfold
      · intro s H C cl fp
        exact pg_gT (N := N) (sc' := scope) (h.blk scope s H C cl fp).calm (by rw [(h.blk scope s H C cl fp).hN]; exact h.nd) (fun i x => blk_tg h scope s H C cl fp i x) k4
      · intro s H C cl fp
        exact ihc.c _ (h.blk scope s H C cl fp) k6
      · intro s H C cl fp
        exact to_rep (ihe.e _ (h.blk scope s H C cl fp) k7) n7
    exact .plain rfl pe (fun e h k => by
      have p := pe e h k
      have hp : plainT e = true := by cases e <;> first | rfl | (simp [okE] at k; done)
      refine pt_eq (t_truth h.kk hp p) fun ρ M => ?_
      simp only [evT, ev, truR_bind]
      rfl)
  | nil => exact {
      e := fun e h k => by simp [okE] at k
      t := fun e h k => t_fail
      l := fun xs h k => by
        cases xs with
        | nil => exact a_nil
        | cons x xs => simp [okL] at k
      c := fun xs h k => by
        cases xs with
        | nil => exact ⟨fun pins s σ H Q I q => pts_nil.run pins s σ H Q I (GT.ok q)⟩
        | cons x xs => simp [okC] at k
      o := fun x h k => by
        cases x with
        | none => exact o_none
        | some x => simp [okO] at k
      and := fun xs p h kn k => by
        cases xs with
        | nil => cases kn
        | cons x xs => simp [okL] at k
      or := fun xs p h kn k => by
        cases xs with
        | nil => cases kn
        | cons x xs => simp [okL] at k
      andT := fun xs p h kn k => by
        cases xs with
        | nil => cases kn
        | cons x xs => simp [okL] at k
      orT := fun xs p h kn k => by
        cases xs with
        | nil => cases kn
        | cons x xs => simp [okL] at k
      i := fun e tg h k _ => by simp [okI] at k }
  | cons e r ihe ihr => exact {
      e := fun e h k => by simp [okE] at k
      t := fun e h k => t_fail
      l := fun xs h k => by
        cases xs with
        | nil => simp [okL] at k
        | cons x xs =>
          simp only [okL, Bool.and_eq_true] at k
          exact a_cons (okE_nst k.2.1) (to_rep (ihe.e _ h k.2.1) k.1) (ihr.l _ h k.2.2)
      c := fun xs h k => by
        rcases xs with _ | ⟨x, _ | ⟨x2, xs⟩⟩ <;> try (simp [okC] at k; done)
        simp only [okC, Bool.and_eq_true] at k
        have e1 := isNil_of k.1
        subst e1
        exact pts_one (ihe.t _ h k.2)
      o := fun x h k => by
        cases x with
        | none => simp [okO] at k
        | some x =>
          simp only [okO, Bool.and_eq_true] at k
          have e1 := isNil_of k.1
          subst e1
          exact o_some (to_rep (ihe.e _ h k.2.2) k.2.1)
      and := fun xs p h kn k => by
        cases xs with
        | nil => cases kn
        | cons x xs =>
          simp only [okL, Bool.and_eq_true] at k
          have pe := to_rep (ihe.e _ h k.2.1) k.1
          cases xs with
          | nil =>
            cases r <;> try (simp [okL] at k; done)
            exact pe_one pe
          | cons y ys =>
            have pr := ihr.and (y :: ys) p h rfl k.2.2
            cases r <;> try (simp [okL] at k; done)
            exact v_and h.kk pe pr
      or := fun xs p h kn k => by
        cases xs with
        | nil => cases kn
        | cons x xs =>
          simp only [okL, Bool.and_eq_true] at k
          have pe := to_rep (ihe.e _ h k.2.1) k.1
          cases xs with
          | nil =>
            cases r <;> try (simp [okL] at k; done)
            exact pe_one pe
          | cons y ys =>
            have pr := ihr.or (y :: ys) p h rfl k.2.2
            cases r <;> try (simp [okL] at k; done)
            exact v_or h.kk pe pr
      andT := fun xs p h kn k => by
        cases xs with
        | nil => cases kn
        | cons x xs =>
          simp only [okL, Bool.and_eq_true] at k
          have pe := ihe.t _ h k.2.1
          cases xs with
          | nil =>
            cases r <;> try (simp [okL] at k; done)
            exact w_and1 pe
          | cons y ys => exact w_and pe (ihr.andT (y :: ys) p h rfl k.2.2)
      orT := fun xs p h kn k => by
        cases xs with
        | nil => cases kn
        | cons x xs =>
          simp only [okL, Bool.and_eq_true] at k
          have pe := ihe.t _ h k.2.1
          cases xs with
          | nil =>
            cases r <;> try (simp [okL] at k; done)
            exact w_or1 pe
          | cons y ys => exact w_or pe (ihr.orT (y :: ys) p h rfl k.2.2)
      i := fun e tg h k _ => by simp [okI] at k }
  | itSeq a iha => exact {
      e := fun e h k => by simp [okE] at k
      t := fun e h k => t_fail
      l := fun xs h k => by simp [okL] at k
      c := fun xs h k => by simp [okC] at k
      o := fun xs h k => by simp [okO] at k
      and := fun xs p h kn k => by simp [okL] at k
      or := fun xs p h kn k => by simp [okL] at k
      andT := fun xs p h kn k => by simp [okL] at k
      orT := fun xs p h kn k => by simp [okL] at k
      i := fun e tg h k _ => by
        simp only [okI, Bool.and_eq_true] at k
        exact i_seq h.kk (to_rep (iha.e _ h k.2) k.1) }
  | itRange1 a iha => exact {
      e := fun e h k => by simp [okE] at k
      t := fun e h k => t_fail
      l := fun xs h k => by simp [okL] at k
      c := fun xs h k => by simp [okC] at k
      o := fun xs h k => by simp [okO] at k
      and := fun xs p h kn k => by simp [okL] at k
      or := fun xs p h kn k => by simp [okL] at k
      andT := fun xs p h kn k => by simp [okL] at k
      orT := fun xs p h kn k => by simp [okL] at k
      i := fun e tg h k ht => by
        cases e <;> try (simp [okI] at k; done)
        rename_i fe xs kw p
        cases fe <;> try (simp [okI] at k; done)
        cases kw <;> try (simp [okI] at k; done)
        rcases xs with _ | ⟨x, _ | ⟨x2, xs⟩⟩ <;> try (simp [okI] at k; done)
        simp only [okI, Bool.and_eq_true] at k
        exact i_range1 h k.1 (okE_nst k.2.2) (to_rep (iha.e _ h k.2.2) k.2.1) }
  | itRange a b iha ihb => exact {
      e := fun e h k => by simp [okE] at k
      t := fun e h k => t_fail
      l := fun xs h k => by simp [okL] at k
      c := fun xs h k => by simp [okC] at k
      o := fun xs h k => by simp [okO] at k
      and := fun xs p h kn k => by simp [okL] at k
      or := fun xs p h kn k => by simp [okL] at k
      andT := fun xs p h kn k => by simp [okL] at k
      orT := fun xs p h kn k => by simp [okL] at k
      i := fun e tg h k ht => by
        cases e <;> try (simp [okI] at k; done)
        rename_i fe xs kw p
        cases fe <;> try (simp [okI] at k; done)
        cases kw <;> try (simp [okI] at k; done)
        rcases xs with _ | ⟨x, _ | ⟨x2, _ | ⟨x3, xs⟩⟩⟩ <;> try (simp [okI] at k; done)
        simp only [okI, Bool.and_eq_true] at k
        obtain ⟨k1, ⟨n1, k2⟩, n2, k3⟩ := k
        exact i_range2 h k1 (okE_nst k2) (okE_nst k3) (to_rep (iha.e _ h k2) n1) (to_rep (ihb.e _ h k3) n2) }
  | itEnum a iha => exact {
      e := fun e h k => by simp [okE] at k
      t := fun e h k => t_fail
      l := fun xs h k => by simp [okL] at k
      c := fun xs h k => by simp [okC] at k
      o := fun xs h k => by simp [okO] at k
      and := fun xs p h kn k => by simp [okL] at k
      or := fun xs p h kn k => by simp [okL] at k
      andT := fun xs p h kn k => by simp [okL] at k
      orT := fun xs p h kn k => by simp [okL] at k
      i := fun e tg h k _ => by simp [okI] at k }
  | itZip a b iha ihb => exact {
      e := fun e h k => by simp [okE] at k
      t := fun e h k => t_fail
      l := fun xs h k => by simp [okL] at k
      c := fun xs h k => by simp [okC] at k
      o := fun xs h k => by simp [okO] at k
      and := fun xs p h kn k => by simp [okL] at k
      or := fun xs p h kn k => by simp [okL] at k
      andT := fun xs p h kn k => by simp [okL] at k
      orT := fun xs p h kn k => by simp [okL] at k
      i := fun e tg h k ht => by
        cases e <;> try (simp [okI] at k; done)
        rename_i fe xs kw p
        cases fe <;> try (simp [okI] at k; done)
        cases kw <;> try (simp [okI] at k; done)
        rcases xs with _ | ⟨x, _ | ⟨x2, _ | ⟨x3, xs⟩⟩⟩ <;> try (simp [okI] at k; done)
        simp only [okI, Bool.and_eq_true] at k
        obtain ⟨k0, k1, ⟨n1, k2⟩, n2, k3⟩ := k
        obtain ⟨elts, kk, tp, rfl⟩ := ht k0
        exact i_zip h k1 (okE_nst k2) (okE_nst k3) (to_rep (iha.e _ h k2) n1) (to_rep (ihb.e _ h k3) n2) }
end
end Pv

set_option Elab.async false
set_option linter.all false
set_option maxRecDepth 100000
set_option maxHeartbeats 8000000
namespace Pv
open PySem L2

/-! ### behind a statement -/
def AftS (g : Gx) (own : Bool) (w : Wd) (D : Ends) : Out → Prop
  | .nx ρ' M' => ∀ σ' w', Wle w w' → Sr g.w0 ρ' M' w' σ' → D.nx σ' w'.H
  | .ct ρ' M' => ∀ σ' w', Wle w w' → Sr g.w0 ρ' M' w' σ' → D.ct σ' w'.H
  | .ret d M' => ∀ v w', Ext g.w0 w' → Wf w' → Sto w' M' → resRel own g.w0 w' v d → D.rt v w'.H
  | .exc c ρ' M' => ∀ σ' w', Wle w w' → Sr g.w0 ρ' M' w' σ' → g.W (g.cls c) none σ' w'.H
  | .fail => False
def GS (g : Gx) (own : Bool) (f : Rho → Store → Out) : TS := fun D σ H => ∃ ρ M w, w.H = H ∧ Sr g.w0 ρ M w σ ∧ AftS g own w D (f ρ M)
theorem PS.imp {X : Cx} {e : Stmt} {t t' : TS} (h : PS X e t) (k : ∀ D σ H, t' D σ H → t D σ H) : PS X e t' := ⟨fun pins s σ H D I q => h.run pins s σ H D I (k D σ H q)⟩
theorem PSs.imp {X : Cx} {e : List Stmt} {t t' : TS} (h : PSs X e t) (k : ∀ D σ H, t' D σ H → t D σ H) : PSs X e t' := ⟨fun pins s σ H D I q => h.run pins s σ H D I (k D σ H q)⟩
section
variable {g : Gx} {own : Bool}
theorem AftS.later {w w1 : Wd} {D : Ends} {r : Out} (h : AftS g own w D r) (e : Wle w w1) : AftS g own w1 D r := by
  cases r with
  | nx ρ M => exact fun σ' w' l s => h σ' w' (e.trans l) s
  | ct ρ M => exact fun σ' w' l s => h σ' w' (e.trans l) s
  | ret d M => exact h
  | exc c ρ M => exact fun σ' w' l s => h σ' w' (e.trans l) s
  | fail => exact h
/-- an expression within a statement -/
theorem AftS.ofR {α β : Type} {rel : Wd → Wd → β → α → Prop} {w : Wd} {ρ : Rho} {M : Store} {σ : St} {D : Ends} {r : Res α} {k : α → Store → Out} (s : Sr g.w0 ρ M w σ) (h : AftS g own w D (ofR ρ r k)) :
    Aft g rel w ρ σ (fun v H1 => ∃ d M1 w1, w1.H = H1 ∧ Ext w w1 ∧ Sr g.w0 ρ M1 w1 σ ∧ rel w w1 v d ∧ AftS g own w1 D (k d M1)) r := by
  cases r with
  | ok d M' => exact fun v w' e s' r => ⟨d, M', w', rfl, e, s', r, AftS.later h (e.wle s.wf)⟩
  | exc c M' => exact fun w' e s' => h σ w' (e.wle s.wf) s'
  | fail => exact h
theorem GS.one {ka : RK} {fa : Rho → Store → Res D} {k : Rho → D → Store → Out} {σ : St} {H : Hp} {D' : Ends} {Q' : V → Hp → Prop}
    (fin : ∀ (ρ : Rho) (M : Store) (w w0 : Wd) (v : V) (x : D), Sr g.w0 ρ M w σ → Ext w0 w → Sr g.w0 ρ M w σ → (∀ (i : Nat) (d : D) (p : Addr), ρ[i]? = some (.ow d) → σ[i]? = some (some (.ref p)) → w0.H p ≠ none) → Ext g.w0 w0 → rl g ρ σ ka w0 w v x → AftS g own w D' (k ρ x M) → Q' v w.H)
    (h : GS g own (fun ρ M => ofR ρ (fa ρ M) (k ρ)) D' σ H) : GE g ka fa σ H Q' := by
  obtain ⟨ρ, M, w, e, s, a⟩ := h
  refine ⟨ρ, M, w, e, s, (AftS.ofR s a).mono ?_⟩
  rintro v H1 ⟨d, M1, w1, e1, ex, s1, r, a1⟩
  subst e1
  exact fin ρ M1 w1 w v d s1 ex s1 s.owH s.e0 r a1
end

/-- the context of a def's statements -/
structure Sok (T : Tb) (X : Cx) (g : Gx) (N : List Str) (sc : Scope) : Prop extends Cok T X g N sc where
  po : PassesOwn (model X.prog X.w) X.A X.env X.xe
  fn : ∀ x, X.fn x = true
  kd : X.env.scope.kind = .function

/-! ### the checker of statements -/
def ncomp : Expr → Bool
  | .ListComp .. => false
  | .SetComp .. => false
  | .DictComp .. => false
  | _ => true
def ntup : Expr → Bool
  | .Tuple .. => false
  | _ => true
def ntgName : Expr → Bool
  | .Name .. => false
  | _ => true
def ntgTup : Expr → Bool
  | .Tuple .. => false
  | .List .. => false
  | _ => true
theorem ncomp_ok {e : Expr} {t : Option Expr} {l : Nat} {env : PySem.Env} (h : ncomp e = true) : swapsWith e t l env = pure false := by
  cases e <;> first | rfl | cases h
theorem ntup_ok {t e : Expr} {env : PySem.Env} (h : ntup e = true) : swappedStores [t] e env = pure none := by
  cases e <;> first | (cases t <;> rfl) | cases h
theorem swap_tup {e : Expr} {es : List Expr} {k : Nat} {p : Pos} {l : Nat} {env : PySem.Env} : swapsWith e (some (.Tuple es k p)) l env = pure false := by
  cases e <;> rfl
theorem swap_sub {e o i : Expr} {p : Pos} {l : Nat} {env : PySem.Env} : swapsWith e (some (.Subscript o i p)) l env = pure false := by
  cases e <;> rfl
def freshE : E → Bool
  | .lst _ => true
  | .comp .. => true
  | .ff .. => true
  | .dic0 => true
  | .fcall .. => true
  | _ => false
def moveE : E → Bool
  | .move _ => true
  | e => freshE e
section
variable (P : List Fn) (gi : List (Str × Int)) (N : List Str) (sc : Scope) (own : Bool)
/-- a store to a target -/
def asgB (tg : List Nat) (tt : Bool) (e : E) (t x : Expr) : Bool := targetB N sc tg tt t && (okE P gi N sc e x && ((!tt || ntup x)))
mutual
def okS : S → Stmt → Bool
  | .asg tg tt e, st => match st with
    | .Assign ts x _ => (match ts with
      | [t] => notBor e && asgB P gi N sc tg tt e t x
      | _ => false)
    | _ => false
  | .own i e, st => match st with
    | .Assign ts x _ => (match ts with
      | [t] => freshE e && asgB P gi N sc [i] false e t x
      | _ => false)
    | _ => false
  | .hnew i e, st => match st with
    | .Assign ts x _ => (match ts with
      | [t] => freshE e && asgB P gi N sc [i] false e t x
      | _ => false)
    | _ => false
  | .seti i k e, st => match st with
    | .Assign ts x _ => (match ts with
      | [t] => (match t with
        | .Subscript o j _ => notBor e && (okE P gi N sc e x && (okE P gi N sc (.peek i) o && (notBor k && okE P gi N sc k j)))
        | _ => false)
      | _ => false)
    | _ => false
  | .app i e, st => match st with
    | .Expr x _ => (match x with
      | .Call f xs kw pos => (match f with
        | .Attribute o m apos => (match kw with
          | [] => (match xs with
            | [y] => decide (m = "append") && (okE P gi N sc (.peek i) o && (notBor e && (okE P gi N sc e y && (apos.endLine == pos.line))))
            | _ => false)
          | _ => false)
        | _ => false)
      | _ => false)
    | _ => false
  | .happ h e, st => match st with
    | .Expr x _ => (match x with
      | .Call f xs kw pos => (match f with
        | .Attribute o m apos => (match kw with
          | [] => (match xs with
            | [y] => decide (m = "append") && (notBor h && (okE P gi N sc h o && (notBor e && (okE P gi N sc e y && (noCall o && (apos.endLine == pos.line))))))
            | _ => false)
          | _ => false)
        | _ => false)
      | _ => false)
    | _ => false
  | .expr e, st => match st with
    | .Expr x _ => notBor e && (okE P gi N sc e x && ncomp x)
    | _ => false
  | .ite c a b, st => match st with
    | .If t xs ys _ => okE P gi N sc c t && (okB a xs && okB b ys)
    | _ => false
  | .for tg tt it body, st => match st with
    | .For t i xs es _ => es.isEmpty && (targetB N sc tg tt t && (okI P gi N sc tt it i && okB body xs))
    | _ => false
  | .while c body, st => match st with
    | .While t xs es _ => es.isEmpty && (okE P gi N sc c t && okB body xs)
    | _ => false
  | .ret e, st => match st with
    | .Return x _ => (match x with
      | some x => !own && (notBor e && okE P gi N sc e x)
      | none => false)
    | _ => false
  | .retF e, st => match st with
    | .Return x _ => (match x with
      | some x => own && (moveE e && okE P gi N sc e x)
      | none => false)
    | _ => false
  | .cont, st => match st with
    | .Continue _ => true
    | _ => false
  | _, _ => false
def okB : S → List Stmt → Bool
  | .skip, xs => xs.isEmpty
  | .seq a b, xs => (match xs with
    | x :: xs => okS a x && okB b xs
    | [] => false)
  | .frzB _ b, xs => okB b xs
  | _, _ => false
end
end
end Pv

set_option Elab.async false
set_option linter.all false
set_option maxRecDepth 100000
set_option maxHeartbeats 8000000
namespace Pv
open PySem L2

/-! ### stores of things of one's own -/
theorem Sr.setOwn {w0 w : Wd} {ρ : Rho} {M : Store} {σ : St} {i : Nat} {p : Addr} {d : D} (s : Sr w0 ρ M w σ) (o : Own w p d) (nF : ¬ w.F p) (nA : p ∉ w.A) (n0 : w0.H p = none) (hi : i < ρ.length)
    (hd : ∀ (j : Nat) (e : D), j ≠ i → ρ[j]? = some (.ow e) → σ[j]? ≠ some (some (.ref p))) : Sr w0 (ρ.set i (.ow d)) M w (σ.set i (some (.ref p))) where
  wf := s.wf
  e0 := s.e0
  sto := s.sto
  len := by simpa using s.len
  sh := fun j e h => by
    by_cases q : i = j
    · subst q
      rw [List.getElem?_set_self hi] at h
      cases h
    · rw [List.getElem?_set_ne q] at h
      obtain ⟨u, a, b⟩ := s.sh j e h
      exact ⟨u, by rw [List.getElem?_set_ne q]; exact a, b⟩
  ow := fun j e h => by
    by_cases q : i = j
    · subst q
      rw [List.getElem?_set_self hi] at h
      cases h
      exact ⟨p, by rw [List.getElem?_set_self (by rw [← s.len]; exact hi)], o, nF, nA, n0⟩
    · rw [List.getElem?_set_ne q] at h
      obtain ⟨u, a, b⟩ := s.ow j e h
      exact ⟨u, by rw [List.getElem?_set_ne q]; exact a, b⟩
  dj := fun j k d e q h1 h2 h3 h4 => by
    have hiσ : i < σ.length := by rw [← s.len]; exact hi
    by_cases qj : i = j
    · subst qj
      by_cases qk : i = k
      · exact qk
      · exfalso
        rw [List.getElem?_set_self hiσ] at h3
        rw [List.getElem?_set_ne qk] at h2 h4
        cases h3
        exact hd k e (Ne.symm qk) h2 h4
    · by_cases qk : i = k
      · subst qk
        exfalso
        rw [List.getElem?_set_self hiσ] at h4
        rw [List.getElem?_set_ne qj] at h1 h3
        cases h4
        exact hd j d (Ne.symm qj) h1 h3
      · rw [List.getElem?_set_ne qj] at h1 h3
        rw [List.getElem?_set_ne qk] at h2 h4
        exact s.dj j k d e q h1 h2 h3 h4
/-- an own thing becomes a handle's -/
theorem Sr.setH {w0 w : Wd} {ρ : Rho} {M : Store} {σ : St} {i : Nat} {p : Addr} {d : D} (s : Sr w0 ρ M w σ) (o : Own w p d) (nF : ¬ w.F p) (nA : p ∉ w.A) (n0 : w0.H p = none) (hi : i < ρ.length)
    (hd : ∀ (j : Nat) (e : D), j ≠ i → ρ[j]? = some (.ow e) → σ[j]? ≠ some (some (.ref p))) :
    Wle w ⟨w.F, w.A ++ [p], w.H, w.K⟩ ∧ Sr w0 (ρ.set i (.sh (.hnd M.length))) (M ++ [d]) ⟨w.F, w.A ++ [p], w.H, w.K⟩ (σ.set i (some (.ref p))) := by
  have le : Wle w ⟨w.F, w.A ++ [p], w.H, w.K⟩ := ⟨fun _ h => ⟨h, rfl⟩, fun n a h => by
    show (w.A ++ [p])[n]? = some a
    rw [List.getElem?_append_left (List.getElem?_eq_some_iff.mp h).1]; exact h, rfl⟩
  have hlast : (w.A ++ [p])[M.length]? = some p := by
    rw [← s.sto.len, List.getElem?_append_right (Nat.le_refl _)]; simp
  have old : ∀ (j : Nat) (e : D), (ρ.set i (.sh (.hnd M.length)))[j]? = some (.ow e) → j ≠ i ∧ ρ[j]? = some (.ow e) := by
    intro j e h
    by_cases q : i = j
    · subst q
      rw [List.getElem?_set_self hi] at h
      cases h
    · rw [List.getElem?_set_ne q] at h
      exact ⟨Ne.symm q, h⟩
  obtain ⟨ob, ho⟩ := o.some
  refine ⟨le, ⟨⟨fun a h => ?_, ?_, fun a h => ?_⟩, ⟨s.e0.F, ?_, s.e0.H, s.e0.nF, fun a h => ?_, s.e0.kp, s.e0.K⟩, ⟨?_, fun n a e h1 h2 => ?_⟩, by simpa using s.len, fun j e h => ?_, fun j e h => ?_, fun j k e e' q h1 h2 h3 h4 => ?_⟩⟩
  · obtain ⟨n, u⟩ := s.wf.f a h
    refine ⟨fun z => ?_, u⟩
    rcases List.mem_append.mp z with z | z
    · exact n z
    · rw [List.mem_singleton.mp z] at h; exact nF h
  · show (w.A ++ [p]).Nodup
    rw [List.nodup_append]
    refine ⟨s.wf.nd, by simp, fun a ha b hb e => ?_⟩
    rw [List.mem_singleton.mp hb] at e
    subst e; exact nA ha
  · rcases List.mem_append.mp h with z | z
    · exact s.wf.a a z
    · rw [List.mem_singleton.mp z]; exact ⟨ob, ho⟩
  · obtain ⟨l, e⟩ := s.e0.A
    exact ⟨l ++ [p], by show w.A ++ [p] = _; rw [e, List.append_assoc]⟩
  · rcases List.mem_append.mp h with z | z
    · exact s.e0.nA a z
    · rw [List.mem_singleton.mp z]; exact .inr n0
  · show (w.A ++ [p]).length = (M ++ [d]).length
    rw [List.length_append, List.length_append, s.sto.len]; rfl
  · have h1 : (w.A ++ [p])[n]? = some a := h1
    rcases Nat.lt_trichotomy n M.length with q | q | q
    · rw [List.getElem?_append_left (by rw [s.sto.len]; exact q)] at h1
      rw [List.getElem?_append_left q] at h2
      exact (s.sto.at_ n a e h1 h2).mono le rfl
    · subst q
      rw [hlast] at h1
      rw [List.getElem?_append_right (Nat.le_refl _)] at h2
      simp at h2
      cases h1; subst h2
      exact o.mono le rfl
    · rw [List.getElem?_eq_none (by simp; omega)] at h2
      cases h2
  · by_cases q : i = j
    · subst q
      rw [List.getElem?_set_self hi] at h
      cases h
      exact ⟨.ref p, by rw [List.getElem?_set_self (by rw [← s.len]; exact hi)], .hnd hlast⟩
    · rw [List.getElem?_set_ne q] at h
      obtain ⟨u, a, b⟩ := s.sh j e h
      exact ⟨u, by rw [List.getElem?_set_ne q]; exact a, b.mono le⟩
  · obtain ⟨q, h⟩ := old j e h
    obtain ⟨u, a, b, c, n, z⟩ := s.ow j e h
    refine ⟨u, by rw [List.getElem?_set_ne (Ne.symm q)]; exact a, b.mono le rfl, c, fun z => ?_, z⟩
    rcases List.mem_append.mp z with z | z
    · exact n z
    · rw [List.mem_singleton.mp z] at a
      exact hd j e q h a
  · obtain ⟨q1, h1⟩ := old j e h1
    obtain ⟨q2, h2⟩ := old k e' h2
    rw [List.getElem?_set_ne (Ne.symm q1)] at h3
    rw [List.getElem?_set_ne (Ne.symm q2)] at h4
    exact s.dj j k e e' q h1 h2 h3 h4
/-- an owned thing is frozen in its slot -/
theorem Sr.frz {w0 w : Wd} {ρ : Rho} {M : Store} {σ : St} {i : Nat} {d : D} (s : Sr w0 ρ M w σ) (h : ρ[i]? = some (.ow d)) : ∃ p, Wle w (w.freeze p) ∧ Sr w0 (ρ.set i (.sh d)) M (w.freeze p) σ := by
  obtain ⟨p, a, b, c, n, z⟩ := s.ow i d h
  obtain ⟨o, ho⟩ := b.some
  have hi : i < ρ.length := (List.getElem?_eq_some_iff.mp h).1
  refine ⟨p, freeze_wle, ⟨freeze_wf s.wf ho n, ⟨fun q hq => .inl (s.e0.F q hq), s.e0.A, s.e0.H, fun q hq => hq.elim (s.e0.nF q) fun e => .inr (e ▸ z), s.e0.nA, s.e0.kp, s.e0.K⟩, freeze_sto s.sto, by simpa using s.len, fun j e hj => ?_, fun j e hj => ?_, fun j k d e q h1 h2 h3 h4 => ?_⟩⟩
  · by_cases q : i = j
    · subst q
      rw [List.getElem?_set_self hi] at hj
      cases hj
      exact ⟨_, a, Own.rep (show (w.freeze p).F p from Or.inr rfl) (b.mono (w' := w.freeze p) freeze_wle rfl)⟩
    · rw [List.getElem?_set_ne q] at hj
      obtain ⟨u, a, b⟩ := s.sh j e hj
      exact ⟨u, a, b.mono freeze_wle⟩
  · by_cases q : i = j
    · subst q
      rw [List.getElem?_set_self hi] at hj
      cases hj
    · rw [List.getElem?_set_ne q] at hj
      obtain ⟨u, a', b', c', n', z'⟩ := s.ow j e hj
      refine ⟨u, a', b'.mono freeze_wle rfl, fun hf => ?_, n', z'⟩
      rcases hf with hf | hf
      · exact c' hf
      · subst hf
        exact q (s.dj i j d e u h hj a a')
  · by_cases qj : i = j
    · subst qj
      rw [List.getElem?_set_self hi] at h1; cases h1
    · by_cases qk : i = k
      · subst qk
        rw [List.getElem?_set_self hi] at h2; cases h2
      · rw [List.getElem?_set_ne qj] at h1
        rw [List.getElem?_set_ne qk] at h2
        exact s.dj j k d e q h1 h2 h3 h4
/-- an owned thing is written -/
theorem Sr.write {w0 w : Wd} {ρ : Rho} {M : Store} {σ : St} {i : Nat} {p : Addr} {d d' : D} {o : HO} (s : Sr w0 ρ M w σ) (h : ρ[i]? = some (.ow d)) (hp : σ[i]? = some (some (.ref p)))
    (own : Own ⟨w.F, w.A, upd w.H p o, w.K⟩ p d') : Wle w ⟨w.F, w.A, upd w.H p o, w.K⟩ ∧ Sr w0 (ρ.set i (.ow d')) M ⟨w.F, w.A, upd w.H p o, w.K⟩ σ := by
  obtain ⟨q, a, b, c, n, z⟩ := s.ow i d h
  rw [hp] at a; cases a
  have hi : i < ρ.length := (List.getElem?_eq_some_iff.mp h).1
  have ne : ∀ q, w.F q → q ≠ p := fun q hq e => c (e ▸ hq)
  have le : Wle w ⟨w.F, w.A, upd w.H p o, w.K⟩ := ⟨fun q hq => ⟨hq, upd_ne (ne q hq)⟩, fun _ _ e => e, rfl⟩
  refine ⟨le, ⟨⟨fun q hq => ?_, s.wf.nd, fun q hq => ?_⟩, ⟨s.e0.F, s.e0.A, fun q u hu hn => ?_, s.e0.nF, s.e0.nA, fun q hq => ?_, s.e0.K⟩, ⟨s.sto.len, fun hh q dd h1 h2 => ?_⟩, by simpa using s.len, fun j e hj => ?_, fun j e hj => ?_, fun j k d e q h1 h2 h3 h4 => ?_⟩⟩
  · obtain ⟨n1, u, hu⟩ := s.wf.f q hq
    exact ⟨n1, u, by show upd w.H p o q = some u; rw [upd_ne (ne q hq)]; exact hu⟩
  · obtain ⟨u, hu⟩ := s.wf.a q hq
    exact ⟨u, by show upd w.H p o q = some u; rw [upd_ne (show q ≠ p from fun e => n (e ▸ hq))]; exact hu⟩
  · show upd w.H p o q = some u
    rw [upd_ne (ne_of_none hu z)]
    exact s.e0.H q u hu hn
  · show upd w.H p o q ≠ none
    by_cases e : q = p
    · subst e; rw [upd_same]; exact fun z => nomatch z
    · rw [upd_ne e]; exact s.e0.kp q hq
  · exact (s.sto.at_ hh q dd h1 h2).mono le (upd_ne (show q ≠ p from fun e => by subst e; exact n (List.mem_of_getElem? h1)))
  · by_cases q : i = j
    · subst q
      rw [List.getElem?_set_self hi] at hj; cases hj
    · rw [List.getElem?_set_ne q] at hj
      obtain ⟨u, a, b⟩ := s.sh j e hj
      exact ⟨u, a, b.mono le⟩
  · by_cases q : i = j
    · subst q
      rw [List.getElem?_set_self hi] at hj; cases hj
      exact ⟨p, hp, own, c, n, z⟩
    · rw [List.getElem?_set_ne q] at hj
      obtain ⟨u, a', b', c', n', z'⟩ := s.ow j e hj
      refine ⟨u, a', b'.mono le (upd_ne (show u ≠ p from fun e1 => ?_)), c', n', z'⟩
      subst e1
      exact q (s.dj i j d e u h hj hp a')
  · have key : ∀ (j : Nat) (d : D), (ρ.set i (.ow d'))[j]? = some (.ow d) → ∃ d2, ρ[j]? = some (.ow d2) := by
      intro j d hj
      by_cases q : i = j
      · subst q; exact ⟨_, h⟩
      · rw [List.getElem?_set_ne q] at hj; exact ⟨_, hj⟩
    obtain ⟨d1, h1⟩ := key j d h1
    obtain ⟨d2, h2⟩ := key k e h2
    exact s.dj j k d1 d2 q h1 h2 h3 h4
/-- a handle's object is written -/
theorem Sr.writeH {w0 w : Wd} {ρ : Rho} {M : Store} {σ : St} {n : Nat} {p : Addr} {d' : D} {o : HO} (s : Sr w0 ρ M w σ) (hp : w.A[n]? = some p) (hn : n < M.length)
    (own : Own ⟨w.F, w.A, upd w.H p o, w.K⟩ p d') : Wle w ⟨w.F, w.A, upd w.H p o, w.K⟩ ∧ Sr w0 ρ (M.set n d') ⟨w.F, w.A, upd w.H p o, w.K⟩ σ := by
  have hm : p ∈ w.A := List.mem_of_getElem? hp
  have nF : ¬ w.F p := fun z => (s.wf.f p z).1 hm
  have ne : ∀ q, w.F q → q ≠ p := fun q hq e => nF (e ▸ hq)
  have le : Wle w ⟨w.F, w.A, upd w.H p o, w.K⟩ := ⟨fun q hq => ⟨hq, upd_ne (ne q hq)⟩, fun _ _ e => e, rfl⟩
  refine ⟨le, ⟨⟨fun q hq => ?_, s.wf.nd, fun q hq => ?_⟩, ⟨s.e0.F, s.e0.A, fun q u hu hn => ?_, s.e0.nF, s.e0.nA, fun q hq => ?_, s.e0.K⟩, ⟨by rw [List.length_set]; exact s.sto.len, fun hh q dd h1 h2 => ?_⟩, s.len, fun j e hj => ?_, fun j e hj => ?_, s.dj⟩⟩
  · obtain ⟨n1, u, hu⟩ := s.wf.f q hq
    exact ⟨n1, u, by show upd w.H p o q = some u; rw [upd_ne (ne q hq)]; exact hu⟩
  · by_cases e : q = p
    · subst e; exact ⟨o, upd_same⟩
    · obtain ⟨u, hu⟩ := s.wf.a q hq
      exact ⟨u, by show upd w.H p o q = some u; rw [upd_ne e]; exact hu⟩
  · show upd w.H p o q = some u
    have : q ≠ p := by
      rintro rfl
      rcases s.e0.nA q hm with z | z
      · exact hn z
      · rw [z] at hu; cases hu
    rw [upd_ne this]
    exact s.e0.H q u hu hn
  · show upd w.H p o q ≠ none
    by_cases e : q = p
    · subst e; rw [upd_same]; exact fun z => nomatch z
    · rw [upd_ne e]; exact s.e0.kp q hq
  · by_cases e : n = hh
    · subst e
      rw [List.getElem?_set_self hn] at h2
      cases h2
      have h1 : w.A[n]? = some q := h1
      rw [hp] at h1; cases h1
      exact own
    · rw [List.getElem?_set_ne e] at h2
      refine (s.sto.at_ hh q dd h1 h2).mono le (upd_ne (show q ≠ p from fun e1 => ?_))
      subst e1
      have h1 : w.A[hh]? = some q := h1
      obtain ⟨l1, e1⟩ := List.getElem?_eq_some_iff.mp hp
      obtain ⟨l2, e2⟩ := List.getElem?_eq_some_iff.mp h1
      exact e ((List.getElem_inj s.wf.nd).mp (e1.trans e2.symm))
  · obtain ⟨u, a, b⟩ := s.sh j e hj
    exact ⟨u, a, b.mono le⟩
  · obtain ⟨u, a', b', c', n', z'⟩ := s.ow j e hj
    exact ⟨u, a', b'.mono le (upd_ne (show u ≠ p from fun e1 => n' (e1 ▸ hm))), c', n', z'⟩

section
variable {T : Tb} {X : Cx} {g : Gx} {N : List Str} {sc : Scope} {pos : Pos} {own : Bool}
theorem S_skip : PSs X [] (GS g own fun ρ M => .nx ρ M) := PSs.imp pss_nil fun D σ H ⟨ρ, M, w, e, s, a⟩ => by
  subst e
  exact a σ w (Wle.refl w) s
theorem S_seq {st : Stmt} {rest : List Stmt} {fa fb : Rho → Store → Out} (ha : PS X st (GS g own fa)) (hb : PSs X rest (GS g own fb)) : PSs X (st :: rest) (GS g own fun ρ M => (fa ρ M).seq fb) := by
  refine PSs.imp (pss_cons ha hb) ?_
  rintro D σ H ⟨ρ, M, w, e, s, a⟩
  refine ⟨ρ, M, w, e, s, ?_⟩
  have a : AftS g own w D ((fa ρ M).seq fb) := a
  cases q : fa ρ M with
  | nx ρ' M' =>
    rw [q] at a
    have a : AftS g own w D (fb ρ' M') := a
    exact fun σ' w' le s' => ⟨ρ', M', w', rfl, s', a.later le⟩
  | ct ρ' M' => rw [q] at a; exact a
  | ret d M' => rw [q] at a; exact a
  | exc c ρ' M' => rw [q] at a; exact a
  | fail => rw [q] at a; exact a
theorem S_frz {rest : List Stmt} {i : Nat} {f : Rho → Store → Out} (h : PSs X rest (GS g own f)) : PSs X rest (GS g own fun ρ M => match ρ[i]? with
    | some (.ow d) => f (ρ.set i (.sh d)) M
    | _ => .fail) := by
  refine PSs.imp h ?_
  rintro D σ H ⟨ρ, M, w, e, s, a⟩
  subst e
  dsimp only at a
  split at a
  · rename_i d hd
    obtain ⟨p, le, s2⟩ := s.frz hd
    exact ⟨_, M, w.freeze p, rfl, s2, a.later le⟩
  · exact a.elim
theorem S_cont : PS X (.Continue pos) (GS g own fun ρ M => .ct ρ M) := PS.imp ps_continue fun D σ H ⟨ρ, M, w, e, s, a⟩ => by
  subst e
  exact a σ w (Wle.refl w) s
theorem S_ret {e : Expr} {fa : Rho → Store → Res D} (he : PE X e (GE g .rep fa)) : PS X (.Return (some e) pos) (GS g false fun ρ M => ofR ρ (fa ρ M) fun d M => .ret d M) := by
  refine PS.imp (ps_ret he) fun D σ H q => ?_
  refine GS.one (k := fun ρ d M => .ret d M) ?_ q
  intro ρ M w w0 v x s ex _ _ _ r a
  exact a v w s.e0 s.wf s.sto r
theorem S_retF {e : Expr} {k : RK} {fa : Rho → Store → Res D} (hk : k = .frs ∨ k = .bor) (he : PE X e (GE g k fa)) : PS X (.Return (some e) pos) (GS g true fun ρ M => ofR ρ (fa ρ M) fun d M => .ret d M) := by
  refine PS.imp (ps_ret he) fun D σ H q => ?_
  refine GS.one (k := fun ρ d M => .ret d M) ?_ q
  intro ρ M w w0 v x s ex _ _ ex0 r a
  refine a v w s.e0 s.wf s.sto ?_
  rcases hk with rfl | rfl
  · obtain ⟨p, rfl, o, nF, nA, n⟩ := r
    exact ⟨p, rfl, o, nF, nA, ex0.none n⟩
  · obtain ⟨i, h1, h2⟩ := r
    obtain ⟨p, e1, o, nF, nA, z⟩ := s.ow i _ h1
    rw [h2] at e1
    cases e1
    exact ⟨p, rfl, o, nF, nA, z⟩
theorem S_expr {e : Expr} {fa : Rho → Store → Res D} {k : RK} (hn : ncomp e = true) (he : PE X e (GE g k fa)) : PS X (.Expr e pos) (GS g own fun ρ M => ofR ρ (fa ρ M) fun _ M => .nx ρ M) := by
  refine PS.imp (ps_expr he (ncomp_ok hn)) fun D σ H q => ?_
  refine GS.one (k := fun ρ _ M => .nx ρ M) ?_ q
  intro ρ M w w0 v x s ex _ _ _ r a
  exact a σ w (Wle.refl w) s
theorem S_ite {c : Expr} {a b : List Stmt} {ft : Rho → Store → Res Bool} {fa fb : Rho → Store → Out} (hc : PT X c (GT g ft)) (ha : PSs X a (GS g own fa)) (hb : PSs X b (GS g own fb)) :
    PS X (.If c a b pos) (GS g own fun ρ M => ofR ρ (ft ρ M) fun t M => match t with | true => fa ρ M | false => fb ρ M) := by
  refine PS.imp (ps_if hc ha hb) ?_
  rintro D σ H ⟨ρ, M, w, e, s, a⟩
  refine ⟨ρ, M, w, e, s, (AftS.ofR s a).mono ?_⟩
  rintro t H1 ⟨d, M1, w1, e1, ex, s1, rfl, a1⟩
  cases t with
  | true => rw [if_pos rfl]; exact ⟨ρ, M1, w1, e1, s1, a1⟩
  | false => rw [if_neg (by decide)]; exact ⟨ρ, M1, w1, e1, s1, a1⟩
/-! loops -/
theorem S_while (po : PassesOwn (model X.prog X.w) X.A X.env X.xe) {c : Expr} {body : List Stmt} {ft : Rho → Store → Res Bool} {fb : Rho → Store → Out} (hc : PT X c (GT g ft)) (hb : PSs X body (GS g own fb)) :
    PS X (.While c body [] pos) (GS g own fun ρ M => whileL ft fb WF ρ M) := by
  refine PS.imp (ps_while po hc hb) ?_
  rintro D σ H ⟨ρ, M, w, e, s, a⟩
  refine ⟨fun m σ H => ∃ ρ M w1, w1.H = H ∧ Wle w w1 ∧ Sr g.w0 ρ M w1 σ ∧ AftS g own w1 D (whileL ft fb m ρ M), ⟨WF, ρ, M, w, e, Wle.refl w, s, a⟩, ?_⟩
  rintro m σ H ⟨ρ, M, w1, e, le, s, a⟩
  cases m with
  | zero => exact a.elim
  | succ m =>
    have a : AftS g own w1 D (ofR ρ (ft ρ M) fun t M => match t with
      | true => (fb ρ M).again (whileL ft fb m)
      | false => .nx ρ M) := a
    refine ⟨ρ, M, w1, e, s, (AftS.ofR s a).mono ?_⟩
    rintro t H1 ⟨d, M1, w2, e1, ex, s1, rfl, a1⟩
    subst e1
    cases t with
    | false => rw [if_neg (by decide)]; exact a1 σ w2 (Wle.refl w2) s1
    | true =>
      rw [if_pos rfl]
      refine ⟨fun σ H => ∃ ρ M w1, w1.H = H ∧ Wle w w1 ∧ Sr g.w0 ρ M w1 σ ∧ AftS g own w1 D (whileL ft fb m ρ M), fun σ' H' h => ⟨m, Nat.lt_succ_self m, h⟩, ρ, M1, w2, rfl, s1, ?_⟩
      have le2 : Wle w w2 := le.trans (ex.wle s.wf)
      have a1 : AftS g own w2 D ((fb ρ M1).again (whileL ft fb m)) := a1
      cases q : fb ρ M1 with
      | nx ρ' M' =>
        rw [q] at a1
        exact fun σ' w' l s' => ⟨ρ', M', w', rfl, le2.trans l, s', AftS.later (show AftS g own w2 D (whileL ft fb m ρ' M') from a1) l⟩
      | ct ρ' M' =>
        rw [q] at a1
        exact fun σ' w' l s' => ⟨ρ', M', w', rfl, le2.trans l, s', AftS.later (show AftS g own w2 D (whileL ft fb m ρ' M') from a1) l⟩
      | ret d M' => rw [q] at a1; exact a1
      | exc c ρ' M' => rw [q] at a1; exact a1
      | fail => rw [q] at a1; exact a1
theorem S_for (po : PassesOwn (model X.prog X.w) X.A X.env X.xe) (hc : X.calm = true) {t it : Expr} {body : List Stmt} {tg : List Nat} {tt : Bool} {fi : Rho → Store → Res (List D)} {fb : Rho → Store → Out}
    (hi : PI X t it (GI g X.K fi)) (hg : PG X t (gT X.K tg tt)) (hb : PSs X body (GS g own fb)) (hs : ∀ x, foldedSetIterable it X.env x = pure x) :
    PS X (.For t it body [] pos) (GS g own fun ρ M => ofR ρ (fi ρ M) fun ds M => forL (fun d ρ M => match bindT tg tt ρ d with
      | some ρ => fb ρ M
      | none => .fail) ds ρ M) := by
  refine PS.imp (ps_for po hc hi hg hb hs) ?_
  rintro D σ H ⟨ρ, M, w, e, s, a⟩
  refine ⟨ρ, M, w, e, s, (AftS.ofR (rel := fun _ w' J ds => Wk X.K w' J ds) s a).mono ?_⟩
  rintro J H1 ⟨ds, M1, w1, e1, ex, s1, ⟨hlen, G, Y, W, hG, hY⟩, a1⟩
  refine for_it W (Pv := fun i σ H => ∃ ρ M wi, wi.H = H ∧ Wle w1 wi ∧ Sr g.w0 ρ M wi σ ∧ AftS g own wi D (forL (fun d ρ M => match bindT tg tt ρ d with
      | some ρ => fb ρ M
      | none => .fail) (ds.drop i) ρ M)) ⟨ρ, M1, w1, e1, Wle.refl w1, s1, by simpa using a1⟩ ?_ ?_ ?_
  · rintro i σ H hi ⟨ρ, M, wi, rfl, le, _⟩
    exact hG wi le
  · rintro i x σ H H' hi ⟨ρ, M, wi, rfl, le, si, ai⟩ y
    have hd : ds[i]? = some ds[i] := List.getElem?_eq_getElem hi
    obtain ⟨w3, rfl, ex3, wf3, st3, r3⟩ := hY i wi x H' _ hd le si.wf y
    have s3 : Sr g.w0 ρ M w3 σ := si.ext ex3 wf3 (st3 M si.sto)
    rw [List.drop_eq_getElem_cons hi] at ai
    unfold forL at ai
    cases hb' : bindT tg tt ρ ds[i] with
    | none =>
      rw [hb'] at ai
      exact ai.elim
    | some ρ1 =>
      rw [hb'] at ai
      refine gT_ok s3 r3 hb' fun us s4 => ?_
      refine ⟨ρ1, M, w3, rfl, s4, ?_⟩
      have le3 : Wle w1 w3 := le.trans (ex3.wle si.wf)
      have ai := AftS.later ai (ex3.wle si.wf)
      dsimp only at ai
      cases q : fb ρ1 M with
      | nx ρ' M' =>
        rw [q] at ai
        exact fun σ' w' l s' => ⟨ρ', M', w', rfl, le3.trans l, s', AftS.later (r := forL _ (ds.drop (i + 1)) ρ' M') ai l⟩
      | ct ρ' M' =>
        rw [q] at ai
        exact fun σ' w' l s' => ⟨ρ', M', w', rfl, le3.trans l, s', AftS.later (r := forL _ (ds.drop (i + 1)) ρ' M') ai l⟩
      | ret d M' => rw [q] at ai; exact ai
      | exc c ρ' M' => rw [q] at ai; exact ai
      | fail => rw [q] at ai; exact ai
  · rintro σ H ⟨ρ, M, wi, rfl, le, si, ai⟩
    rw [List.drop_length] at ai
    exact ai σ wi (Wle.refl wi) si
end
end Pv

set_option Elab.async false
set_option linter.all false
set_option maxRecDepth 100000
set_option maxHeartbeats 8000000
namespace Pv
open PySem L2

section
variable {T : Tb} {X : Cx} {g : Gx} {N : List Str} {sc : Scope} {pos : Pos} {own : Bool}
theorem Sok.tg (h : Sok T X g N sc) (i : Nat) (x : Str) (k : tgB N sc i x = true) : TgOk X i x := by
  obtain ⟨h1, h2⟩ := tgB_of k
  exact ⟨by rw [h.hN]; exact h1, by rw [h.sc]; exact h2, .inl (h.fn x)⟩
theorem asg_swap {t e : Expr} (h1 : ncomp e = true ∨ ntgName t = true) {l : Nat} {env : PySem.Env} : swapsWithSole [t] e l env = pure false := by
  show swapsWith e (some t) l env = pure false
  rcases h1 with h1 | h1
  · exact ncomp_ok h1
  · cases t <;> first | (cases h1; done) | (cases e <;> rfl)
/-- a store, for any value of one of the kinds -/
theorem S_asgR (h : Sok T X g N sc) {t e : Expr} {tg : List Nat} {tt : Bool} {te : TE} (ht : targetB N sc tg tt t = true) (h1 : ncomp e = true ∨ ntgName t = true) (h2 : ntup e = true ∨ ntgTup t = true) (he : PE X e te) :
    PS X (.Assign [t] e pos) (tAsg te (gT X.K tg tt)) := by
  refine ps_asg he (pg_gT h.calm (by rw [h.hN]; exact h.nd) h.tg ht) (asg_swap h1) ?_ ?_
  · rcases h2 with h2 | h2
    · exact ntup_ok h2
    · cases t <;> first | (cases h2; done) | (cases e <;> rfl)
  · cases tt with
    | false =>
      unfold targetB at ht
      match tg, t, ht with
      | [i], .Name x p, _ => rfl
    | true => cases t <;> first | rfl | (exfalso; simp [targetB] at ht)
/-- a comprehension stored by the name on its line -/
def swB (sc : Scope) (y : Str) (py pos : Pos) (scope : Scope) : Bool := (sc.names.lookup y == some .local) && (py.line == pos.line) && !(scope.names.any fun (n, k) => n == y && (k == .local || k == .cell))
theorem comp_parts (h : Cok T X g N sc) {tg own : List Nat} {tt : Bool} {it cond elt : E} {x : Expr} {gs : List Comprehension} {scope : Scope} {p : Pos} (k : okE T.P T.gi N sc (.comp tg tt it cond elt own) (.ListComp x gs scope p) = true) :
    ∃ t i ifs, gs = [⟨t, i, ifs, 0⟩] ∧ ∃ nm : List (Str × Nat), nm.map (·.2) = own ∧ (∀ i ∈ tg, i ∈ own) ∧ PI X t i (GI g X.K (evI T.C it)) ∧ BlkOk X.N X.env.scope scope nm ∧
      (∀ (s : Shared) (H : Hp) (C : Addr) (cl : List (Str × Addr)) (fp : List Addr), PG (X.blk s H scope (compEnvC scope cl C X.env) fp) t (gT X.K tg tt)) ∧
      (∀ (s : Shared) (H : Hp) (C : Addr) (cl : List (Str × Addr)) (fp : List Addr), PTs (X.blk s H scope (compEnvC scope cl C X.env) fp) ifs (GT g.blk (evC T.C cond))) ∧
      (∀ (s : Shared) (H : Hp) (C : Addr) (cl : List (Str × Addr)) (fp : List Addr), PE (X.blk s H scope (compEnvC scope cl C X.env) fp) x (GE g.blk .rep (ev T.C elt))) ∧
      (∀ y, foldedSetIterable i X.env y = pure y) := by
  rcases gs with _ | ⟨⟨t, i, ifs, na⟩, _ | ⟨g2, gs⟩⟩ <;> try (simp [okE] at k; done)
  simp only [okE, Bool.and_eq_true, decide_eq_true_eq] at k
  obtain ⟨rfl, k1, k2, k3, k4, k5, k6, n7, k7⟩ := k
  have hi := (snd (T := T) (N := N) it).i (tt := tt) i t h k1 (fun z => by
    subst z
    cases t <;> first | exact ⟨_, _, _, rfl⟩ | (exfalso; simp [targetB] at k4))
  refine ⟨t, i, ifs, rfl, own.filterMap fun j => (N[j]?).map fun y => (y, j), k3, fun j hj => by simpa using List.all_eq_true.mp k5 j hj, hi, by rw [h.hN, h.sc]; exact blkOk_by k2, ?_, ?_, ?_, fold_ok (okI_nset k1)⟩
  · intro s H C cl fp
    exact pg_gT (N := N) (sc' := scope) (h.blk scope s H C cl fp).calm (by rw [(h.blk scope s H C cl fp).hN]; exact h.nd) (fun i x => blk_tg h scope s H C cl fp i x) k4
  · intro s H C cl fp
    exact (snd (T := T) (N := N) cond).c _ (h.blk scope s H C cl fp) k6
  · intro s H C cl fp
    exact to_rep ((snd (T := T) (N := N) elt).e _ (h.blk scope s H C cl fp) k7) n7
theorem ev_comp {C : Nat → List D → Store → Res D} {tg own : List Nat} {tt : Bool} {it cond elt : E} : ev C (.comp tg tt it cond elt own) = fun ρ M => (evI C it ρ M).bind fun ds M => (compL (turnF tg tt own (evC C cond) (ev C elt) ρ) ds M).bind fun r M => .ok (.lst r) M := by
  funext ρ M
  simp only [ev]
  rfl
/-- a name's store of any value that the checker knows -/
theorem S_name (h : Sok T X g N sc) {i : Nat} {a : E} {y : Str} {py : Pos} {e : Expr} (hy : tgB N sc i y = true) (hn : ntup e = true ∨ True) (k : okE T.P T.gi N sc a e = true) :
    ∃ te, PS X (.Assign [.Name y py] e pos) (tAsg te (gName i)) ∧ ∀ σ H Q, GE g (kindE a) (ev T.C a) σ H Q → te σ H Q := by
  obtain ⟨t1, t2, t3⟩ := h.tg i y hy
  have nd : X.N.Nodup := by rw [h.hN]; exact h.nd
  cases hc : ncomp e with
  | true =>
    have pe := (snd (T := T) (N := N) a).e e h.toCok k
    exact ⟨_, ps_asg pe (pg_name nd t1 t2 t3) (asg_swap (.inl hc)) (by cases e <;> rfl) rfl, fun _ _ _ q => q⟩
  | false =>
    cases e <;> first | (cases hc; done) | skip
    · -- a list comprehension
      rename_i x gs scope p
      cases a <;> try (exfalso; simp [okE] at k; done)
      rename_i tg tt it cond elt own'
      obtain ⟨t, i', ifs, rfl, nm, hnm, htg, hi, ok, hg, ht, he, hs⟩ := comp_parts h.toCok k
      have hw : swapsWith (.ListComp x [⟨t, i', ifs, 0⟩] scope p) (some (.Name y py)) pos.line X.env = pure (swB sc y py p scope) := by
        have hb : X.env.blockKind = .function := by
          unfold Env.blockKind
          rw [h.kd]; rfl
        have hk : X.env.kindOf y = sc.names.lookup y := by
          show X.env.scope.names.lookup y = _
          rw [h.sc]
        show pure (X.env.blockKind == .function && X.env.kindOf y == some .local && py.line == p.line && !(scope.names.any fun (n, k) => n == y && (k == .local || k == .cell))) = _
        rw [hb, hk]
        rfl
      cases hsw : swB sc y py p scope with
      | true =>
        rw [hsw] at hw
        have hl : X.env.scope.names.lookup y = some .local := by
          unfold swB at hsw
          simp only [Bool.and_eq_true, beq_iff_eq] at hsw
          rw [h.sc]; exact hsw.1.1
        refine ⟨_, ps_setLc (i := i) h.calm nd t1 hl hw hi ok hg ht he hs, fun σ H Q q => ?_⟩
        refine comp_rd nm hnm htg σ H Q ?_
        rw [← ev_comp]; exact q
      | false =>
        rw [hsw] at hw
        have pe := (snd (T := T) (N := N) (.comp tg tt it cond elt own')).e _ h.toCok k
        exact ⟨_, ps_asg pe (pg_name nd t1 t2 t3) hw rfl rfl, fun _ _ _ q => q⟩
    · exfalso; cases a <;> simp [okE] at k
    · exfalso; cases a <;> simp [okE] at k
theorem gName_of {i : Nat} {σ : St} {v : V} {H : Hp} {Q : St → Hp → Prop} (q : Q (σ.set i (some v)) H) : gName i v σ H Q := q
theorem S_own (h : Sok T X g N sc) {i : Nat} {a : E} {y : Str} {py : Pos} {e : Expr} (hf : freshE a = true) (hy : tgB N sc i y = true) (k : okE T.P T.gi N sc a e = true) :
    PS X (.Assign [.Name y py] e pos) (GS g own fun ρ M => ofR ρ (ev T.C a ρ M) fun d M => oRho (setO ρ i d) M) := by
  obtain ⟨te, hp, hr⟩ := S_name (pos := pos) (py := py) h hy (.inr trivial) k
  have kf : kindE a = .frs := by cases a <;> first | rfl | cases hf
  refine PS.imp hp fun D σ H q => ?_
  refine hr σ H _ ?_
  refine GS.one (k := fun ρ d M => oRho (setO ρ i d) M) ?_ q
  intro ρ M w w0 v x s ex _ how ex0 r a
  rw [kf] at r
  obtain ⟨p, rfl, o, nF, nA, n⟩ := r
  refine gName_of (i := i) ?_
  unfold setO at a
  split at a
  · rename_i hi
    exact a _ w (Wle.refl w) (s.setOwn o nF nA (ex0.none n) hi fun j e hj h1 h2 => how j e p h1 h2 n)
  · exact a.elim
theorem S_hnew (h : Sok T X g N sc) {i : Nat} {a : E} {y : Str} {py : Pos} {e : Expr} (hf : freshE a = true) (hy : tgB N sc i y = true) (k : okE T.P T.gi N sc a e = true) :
    PS X (.Assign [.Name y py] e pos) (GS g own fun ρ M => ofR ρ (ev T.C a ρ M) fun d M => oRho (setS ρ i (.hnd M.length)) (M ++ [d])) := by
  obtain ⟨te, hp, hr⟩ := S_name (pos := pos) (py := py) h hy (.inr trivial) k
  have kf : kindE a = .frs := by cases a <;> first | rfl | cases hf
  refine PS.imp hp fun D σ H q => ?_
  refine hr σ H _ ?_
  refine GS.one (k := fun ρ d M => oRho (setS ρ i (.hnd M.length)) (M ++ [d])) ?_ q
  intro ρ M w w0 v x s ex _ how ex0 r a
  rw [kf] at r
  obtain ⟨p, rfl, o, nF, nA, n⟩ := r
  refine gName_of (i := i) ?_
  unfold setS at a
  split at a
  · rename_i hi
    obtain ⟨le, s2⟩ := s.setH o nF nA (ex0.none n) hi fun j e hj h1 h2 => how j e p h1 h2 n
    exact a _ ⟨w.F, w.A ++ [p], w.H, w.K⟩ le s2
  · exact a.elim
/-- a plain store -/
theorem oRho_gT {K : PySem.W.Frag} {tg : List Nat} {tt : Bool} {ρ : Rho} {M : Store} {w : Wd} {σ : St} {v : V} {d : D} {D' : Ends} (s : Sr g.w0 ρ M w σ) (r : Rep w v d) (a : AftS g own w D' (oRho (bindT tg tt ρ d) M)) : gT K tg tt v σ w.H D'.nx := by
  cases q : bindT tg tt ρ d with
  | none => rw [q] at a; exact a.elim
  | some ρ1 =>
    rw [q] at a
    exact gT_ok s r q fun us s4 => a _ w (Wle.refl w) s4
theorem S_asg (h : Sok T X g N sc) {tg : List Nat} {tt : Bool} {a : E} {t e : Expr} (n : notBor a = true) (k : asgB T.P T.gi N sc tg tt a t e = true) :
    PS X (.Assign [t] e pos) (GS g own fun ρ M => ofR ρ (ev T.C a ρ M) fun d M => oRho (bindT tg tt ρ d) M) := by
  unfold asgB at k
  simp only [Bool.and_eq_true] at k
  obtain ⟨k1, k2, k3⟩ := k
  have pe := to_rep ((snd (T := T) (N := N) a).e e h.toCok k2) n
  cases tt with
  | true =>
    have ht : ntgName t = true := by cases t <;> first | rfl | (exfalso; simp [targetB] at k1)
    refine PS.imp (S_asgR h k1 (.inr ht) (.inl (by simpa using k3)) pe) fun D' σ H q => ?_
    refine GS.one (k := fun ρ d M => oRho (bindT tg true ρ d) M) ?_ q
    intro ρ M w w0 v x s ex _ _ _ r af
    exact oRho_gT s r af
  | false =>
    have : ∃ i x p, tg = [i] ∧ t = .Name x p ∧ tgB N sc i x = true := by
      unfold targetB at k1
      match tg, t, k1 with
      | [i], .Name x p, k1 => exact ⟨i, x, p, rfl, rfl, k1⟩
    obtain ⟨i, x, p, rfl, rfl, hx⟩ := this
    obtain ⟨te, hp, hr⟩ := S_name (pos := pos) (py := p) h hx (.inr trivial) k2
    refine PS.imp hp fun D' σ H q => ?_
    have hk : GE g .rep (ev T.C a) σ H (fun x H1 => gName i x σ H1 D'.nx) := by
      refine GS.one (k := fun ρ d M => oRho (bindT [i] false ρ d) M) ?_ q
      intro ρ M w w0 v x s ex _ _ _ r af
      exact oRho_gT (K := X.K) (tg := [i]) (tt := false) s r af
    refine hr σ H _ ?_
    cases kk : kindE a with
    | rep => exact hk
    | frs => exact GE.freeze hk
    | bor => cases a <;> first | (cases n; done) | (cases kk; done)
/-! ### x.append(e) -/
theorem S_app (h : Sok T X g N sc) {i : Nat} {a : E} {o e : Expr} {apos p : Pos} (n : notBor a = true) (k1 : okE T.P T.gi N sc (.peek i) o = true) (k2 : okE T.P T.gi N sc a e = true) (hl : (apos.endLine == pos.line) = true) :
    PS X (.Expr (.Call (.Attribute o "append" apos) [e] [] pos) p) (GS g own fun ρ M => match ρ[i]? with
      | some (.ow (.lst ds)) => ofR ρ (ev T.C a ρ M) fun d M => if ds.length < LIM then .nx (ρ.set i (.ow (.lst (ds ++ [d])))) M else .fail
      | _ => .fail) := by
  have pe := to_rep ((snd (T := T) (N := N) a).e e h.toCok k2) n
  have ho : ncall o = true := by cases o <;> first | rfl | (exfalso; simp [okE] at k1)
  have pr : PE X o (tVar i) := by
    cases o <;> try (simp [okE] at k1; done)
    simp only [okE] at k1
    obtain ⟨h1, h2, h3, h4⟩ := nameB_of k1
    exact pe_var (i := i) (by rw [h.hN]; exact h1) (by rw [h.sc]; exact h2) h3 h4
  refine PS.imp (ps_expr (pe_bm PySem.F.plainAttrs_list PySem.F.slot_list_append PySem.F.type_list_append mt_append pr (pa_cons pe pa_nil (star_ok (okE_nst k2))) (ncall_ok ho) (few1 (okE_nst k2)) hl (star_ok (okE_nst k2)) rfl) rfl) ?_
  rintro D' σ H ⟨ρ, M, w, rfl, s, af⟩
  dsimp only at af
  split at af
  · rename_i ds hi
    obtain ⟨q, hq, ⟨vs, hvs, rr⟩, nF, nA, n0⟩ := s.ow i _ hi
    refine ⟨.ref q, hq, .inl ⟨rfl, _, SqL.of hvs⟩, ?_⟩
    refine ⟨ρ, M, w, rfl, s, (AftS.ofR s af).mono ?_⟩
    rintro v H1 ⟨d, M1, w1, rfl, ex, s1, r1, a1⟩
    split at a1
    · rename_i hz
      obtain ⟨q', hq', ⟨vs1, hvs1, rr1⟩, nF1, nA1, n01⟩ := s1.ow i _ hi
      rw [hq] at hq'
      cases hq'
      refine ⟨q, vs1, v, rfl, rfl, hvs1, by rw [rr1.length]; exact hz, ?_⟩
      have r1 : Rep w1 v d := r1
      have le : Wle w1 ⟨w1.F, w1.A, upd w1.H q (.lst (vs1 ++ [v])), w1.K⟩ := ⟨fun u hu => ⟨hu, upd_ne (show u ≠ q from fun e => nF1 (e ▸ hu))⟩, fun _ _ e => e, rfl⟩
      obtain ⟨le2, s2⟩ := s1.write (d' := .lst (ds ++ [d])) (o := .lst (vs1 ++ [v])) hi hq ⟨_, upd_same, (rr1.append (.cons r1 .nil)).mono le⟩
      exact a1 σ _ le2 s2
    · exact a1.elim
  · exact af.elim
/-- .. of a handle -/
theorem S_happ (h : Sok T X g N sc) {b a : E} {o e : Expr} {apos p : Pos} (nb : notBor b = true) (n : notBor a = true) (k1 : okE T.P T.gi N sc b o = true) (k2 : okE T.P T.gi N sc a e = true) (ho : noCall o = true) (hl : (apos.endLine == pos.line) = true) :
    PS X (.Expr (.Call (.Attribute o "append" apos) [e] [] pos) p) (GS g own fun ρ M => ofR ρ (ev T.C b ρ M) fun x M => match dr M x with
      | .lst _ => ofR ρ (ev T.C a ρ M) fun d M => match x with
        | .hnd n => match M[n]? with
          | some (.lst ds) => if ds.length < LIM then .nx ρ (M.set n (.lst (ds ++ [d]))) else .fail
          | _ => .fail
        | _ => .fail
      | _ => .fail) := by
  have po := to_rep ((snd (T := T) (N := N) b).e o h.toCok k1) nb
  have pe := to_rep ((snd (T := T) (N := N) a).e e h.toCok k2) n
  refine PS.imp (ps_expr (pe_bm PySem.F.plainAttrs_list PySem.F.slot_list_append PySem.F.type_list_append mt_append po (pa_cons pe pa_nil (star_ok (okE_nst k2))) (ncall_ok (noCall_of ho)) (few1 (okE_nst k2)) hl (star_ok (okE_nst k2)) rfl) rfl) ?_
  intro D' σ H q
  refine GS.one (k := fun ρ x M => match dr M x with
      | .lst _ => ofR ρ (ev T.C a ρ M) fun d M => match x with
        | .hnd n => match M[n]? with
          | some (.lst ds) => if ds.length < LIM then .nx ρ (M.set n (.lst (ds ++ [d]))) else .fail
          | _ => .fail
        | _ => .fail
      | _ => .fail) ?_ q
  intro ρ M w w0 v x s ex _ _ _ r af
  split at af
  · rename_i ds0 hds
    have c := s.con r
    rw [hds] at c
    obtain ⟨p0, vs0, rfl, hp0, _⟩ := c
    refine ⟨.inl ⟨rfl, _, SqL.of hp0⟩, ρ, M, w, rfl, s, (AftS.ofR s af).mono ?_⟩
    rintro u H1 ⟨d, M1, w1, rfl, ex1, s1, r1, a1⟩
    split at a1
    · rename_i n'
      split at a1
      · rename_i ds hM
        split at a1
        · rename_i hz
          have r : Rep w (.ref p0) (.hnd n') := r
          have r2 := r.mono (ex1.wle s.wf)
          cases r2 with
          | hnd hA =>
            obtain ⟨vs1, hvs1, rr1⟩ := s1.sto.at_ n' p0 _ hA hM
            refine ⟨p0, vs1, u, rfl, rfl, hvs1, by rw [rr1.length]; exact hz, ?_⟩
            have r1 : Rep w1 u d := r1
            have nF1 : ¬ w1.F p0 := fun z => (s1.wf.f p0 z).1 (List.mem_of_getElem? hA)
            have le : Wle w1 ⟨w1.F, w1.A, upd w1.H p0 (.lst (vs1 ++ [u])), w1.K⟩ := ⟨fun t ht => ⟨ht, upd_ne (show t ≠ p0 from fun e => nF1 (e ▸ ht))⟩, fun _ _ e => e, rfl⟩
            obtain ⟨le2, s2⟩ := s1.writeH (d' := .lst (ds ++ [d])) (o := .lst (vs1 ++ [u])) hA (List.getElem?_eq_some_iff.mp hM).1 ⟨_, upd_same, (rr1.append (.cons r1 .nil)).mono le⟩
            exact a1 σ _ le2 s2
        · exact a1.elim
      · exact a1.elim
    · exact a1.elim
  · exact af.elim

/-! ### x[k] = e -/
def rSetA : TSet := fun o i v H Q => (∃ (p : Addr) (vs : List V) (k : Int) (j : Nat), o = .ref p ∧ i = .int k ∧ H p = some (.lst vs) ∧ ixN vs.length k = some j ∧ Q (upd H p (.lst (vs.set j v)))) ∨ ∃ (a : Addr) (H' : Hp), o = .ref a ∧ DPut H a i v H' ∧ Q H'
theorem set_all (hu : X.A.units + 1 < cLine) : PSet X rSetA := by
  intro pins s σ H o i v ov iv u Q I ro ri rv h
  rcases h with ⟨p, vs, k, j, rfl, rfl, hp, hj, q⟩ | ⟨a, H', rfl, dp, q⟩
  · exact set_list pins s σ H _ _ v ov iv u Q I ro ri rv ⟨p, vs, k, j, rfl, rfl, hp, hj, q⟩
  · cases ro
    exact d_setItem hu I dp ri rv fun s' I' => ⟨H', I', q⟩
theorem set_map {w : Wd} {k : Key} {v : V} {d : D} (r : Rep w v d) : ∀ {kvs : List (Key × V)} {ks : List (Key × D)}, kvs.map (·.1) = ks.map (·.1) → Reps w (kvs.map (·.2)) (ks.map (·.2)) →
    (kvs.map (fun kv => if kv.1 = k then (kv.1, v) else kv)).map (·.1) = (ks.map (fun kv => if kv.1 = k then (kv.1, d) else kv)).map (·.1) ∧
      Reps w ((kvs.map (fun kv => if kv.1 = k then (kv.1, v) else kv)).map (·.2)) ((ks.map (fun kv => if kv.1 = k then (kv.1, d) else kv)).map (·.2))
  | [], [], _, _ => ⟨rfl, .nil⟩
  | [], _ :: _, e, _ => by cases e
  | _ :: _, [], e, _ => by cases e
  | x :: xs, y :: ys, e, rr => by
    rw [List.map_cons, List.map_cons] at e
    injection e with e1 e2
    rw [List.map_cons, List.map_cons] at rr
    cases rr with
    | cons r1 r2 =>
      obtain ⟨i1, i2⟩ := set_map r e2 r2
      by_cases q : x.1 = k
      · have q' : y.1 = k := by rw [← e1]; exact q
        rw [List.map_cons, List.map_cons, List.map_cons, List.map_cons, List.map_cons, List.map_cons, if_pos q, if_pos q', i1]
        exact ⟨by rw [e1], .cons r i2⟩
      · have q' : ¬ y.1 = k := by rw [← e1]; exact q
        rw [List.map_cons, List.map_cons, List.map_cons, List.map_cons, List.map_cons, List.map_cons, if_neg q, if_neg q', i1]
        exact ⟨by rw [e1], .cons r1 i2⟩
theorem set_kv {w : Wd} {k : Key} {v : V} {d : D} (r : Rep w v d) {kvs : List (Key × V)} {ks : List (Key × D)} (e : kvs.map (·.1) = ks.map (·.1)) (rr : Reps w (kvs.map (·.2)) (ks.map (·.2))) :
    (putK kvs k v).map (·.1) = (setK ks k d).map (·.1) ∧ Reps w ((putK kvs k v).map (·.2)) ((setK ks k d).map (·.2)) := by
  have hany : (kvs.any fun kv => decide (kv.1 = k)) = ks.any fun kv => decide (kv.1 = k) := by
    have h1 : ∀ {α : Type} (l : List (Key × α)), (l.any fun kv => decide (kv.1 = k)) = (l.map (·.1)).any fun x => decide (x = k) := by
      intro α l; rw [List.any_map]; rfl
    rw [h1, h1, e]
  unfold putK setK
  rw [hany]
  split
  · exact set_map r e rr
  · simp only [List.map_append, List.map_cons, List.map_nil, e]
    exact ⟨trivial, rr.append (.cons r .nil)⟩
theorem nsl_assign {o j : Expr} {p2 : Pos} {env : PySem.Env} (h : nsl j = true) : ∀ v, assign (.Subscript o j p2) env v = (do
      let ov ← holding [v] (eval o env)
      let iv ← holding [v, ov] (eval j env)
      standAt p2
      holding [v, ov, iv] (setItem ov iv v)
      release [v, ov, iv] []) := by
  intro v
  cases j <;> first | rfl | cases h
theorem S_seti (h : Sok T X g N sc) {i : Nat} {a b : E} {o j e : Expr} {p2 : Pos} (n : notBor a = true) (k1 : okE T.P T.gi N sc a e = true) (k2 : okE T.P T.gi N sc (.peek i) o = true) (nb : notBor b = true) (k3 : okE T.P T.gi N sc b j = true) :
    PS X (.Assign [.Subscript o j p2] e pos) (GS g own fun ρ M => ofR ρ (ev T.C a ρ M) fun d M => match ρ[i]? with
    | some (.ow (.dic kvs)) => ofR ρ (ev T.C b ρ M) fun y M => match keyOf y with
      | some k => if kvs.length < LIM then .nx (ρ.set i (.ow (.dic (setK kvs k d)))) M else .fail
      | none => .fail
    | some (.ow (.lst ds)) => ofR ρ (ev T.C b ρ M) fun y M => match y with
      | .int j => match ixN ds.length j with
        | some j => .nx (ρ.set i (.ow (.lst (ds.set j d)))) M
        | none => .fail
      | _ => .fail
    | _ => .fail) := by
  have pe := to_rep ((snd (T := T) (N := N) a).e e h.toCok k1) n
  have pk := to_rep ((snd (T := T) (N := N) b).e j h.toCok k3) nb
  have pr : PE X o (tVar i) := by
    cases o <;> try (simp [okE] at k2; done)
    simp only [okE] at k2
    obtain ⟨h1, h2, h3, h4⟩ := nameB_of k2
    exact pe_var (i := i) (by rw [h.hN]; exact h1) (by rw [h.sc]; exact h2) h3 h4
  refine PS.imp (ps_asg pe (pg_sub pr pk (set_all h.hu) (nsl_assign (okE_nsl k3))) (asg_swap (.inr rfl)) (by cases e <;> rfl) rfl) fun D' σ H q => ?_
  refine GS.one (k := fun ρ d M => match ρ[i]? with
    | some (.ow (.dic kvs)) => ofR ρ (ev T.C b ρ M) fun y M => match keyOf y with
      | some k => if kvs.length < LIM then .nx (ρ.set i (.ow (.dic (setK kvs k d)))) M else .fail
      | none => .fail
    | some (.ow (.lst ds)) => ofR ρ (ev T.C b ρ M) fun y M => match y with
      | .int j => match ixN ds.length j with
        | some j => .nx (ρ.set i (.ow (.lst (ds.set j d)))) M
        | none => .fail
      | _ => .fail
    | _ => .fail) ?_ q
  intro ρ M w w0 v x s ex _ _ _ r af
  have r : Rep w v x := r
  split at af
  · rename_i kvs hi
    obtain ⟨p, hp, ⟨vs, hvs, e1, rr⟩, nF, nA, n0⟩ := s.ow i _ hi
    refine ⟨.ref p, hp, ρ, M, w, rfl, s, (AftS.ofR s af).mono ?_⟩
    rintro u H1 ⟨y, M1, w1, rfl, ex1, s1, r1, a1⟩
    split at a1
    · rename_i key hk
      split at a1
      · rename_i hz
        obtain ⟨p', hp', ⟨vs1, hvs1, e2, rr1⟩, nF1, nA1, n01⟩ := s1.ow i _ hi
        rw [hp] at hp'; cases hp'
        have hu := keyOf_V r1 hk
        subst hu
        have hlen : vs1.length < sizeLine := by
          have := congrArg List.length e2
          simp only [List.length_map] at this
          rw [this]; exact hz
        refine .inr ⟨p, _, rfl, DPut.k (k := key) hvs1 hlen, ?_⟩
        have le : Wle w1 ⟨w1.F, w1.A, upd w1.H p (.dK (putK vs1 key v)), w1.K⟩ := ⟨fun t ht => ⟨ht, upd_ne (show t ≠ p from fun e => nF1 (e ▸ ht))⟩, fun _ _ e => e, rfl⟩
        have hset := set_kv (k := key) (r.mono (ex1.wle s.wf)) e2 rr1
        obtain ⟨le2, s2⟩ := s1.write (d' := .dic (setK kvs key x)) (o := .dK (putK vs1 key v)) hi hp ⟨_, upd_same, hset.1, hset.2.mono le⟩
        exact a1 σ _ le2 s2
      · exact a1.elim
    · exact a1.elim
  · rename_i ds hi
    obtain ⟨p, hp, ⟨vs, hvs, rr⟩, nF, nA, n0⟩ := s.ow i _ hi
    refine ⟨.ref p, hp, ρ, M, w, rfl, s, (AftS.ofR s af).mono ?_⟩
    rintro u H1 ⟨y, M1, w1, rfl, ex1, s1, r1, a1⟩
    split at a1
    · rename_i jj
      split at a1
      · rename_i k hk
        obtain ⟨p', hp', ⟨vs1, hvs1, rr1⟩, nF1, nA1, n01⟩ := s1.ow i _ hi
        rw [hp] at hp'; cases hp'
        cases (show Rep w1 u (.int jj) from r1)
        refine .inl ⟨p, vs1, jj, k, rfl, rfl, hvs1, by rw [rr1.length]; exact hk, ?_⟩
        have le : Wle w1 ⟨w1.F, w1.A, upd w1.H p (.lst (vs1.set k v)), w1.K⟩ := ⟨fun t ht => ⟨ht, upd_ne (show t ≠ p from fun e => nF1 (e ▸ ht))⟩, fun _ _ e => e, rfl⟩
        obtain ⟨le2, s2⟩ := s1.write (d' := .lst (ds.set k x)) (o := .lst (vs1.set k v)) hi hp ⟨_, upd_same, (Reps.set (r.mono (ex1.wle s.wf)) k rr1).mono le⟩
        exact a1 σ _ le2 s2
      · exact a1.elim
    · exact a1.elim
  · exact af.elim

/-! ### the statements -/
theorem sndS (s : S) : (∀ {X : Cx} {g : Gx} {sc : Scope} (st : Stmt), Sok T X g N sc → okS T.P T.gi N sc own s st = true → PS X st (GS g own (ex T.C s))) ∧
    (∀ {X : Cx} {g : Gx} {sc : Scope} (xs : List Stmt), Sok T X g N sc → okB T.P T.gi N sc own s xs = true → PSs X xs (GS g own (ex T.C s))) := by
  induction s with
  | skip => exact ⟨fun st h k => by simp [okS] at k, fun xs h k => by
      cases xs with
      | nil => exact S_skip
      | cons x xs => simp [okB] at k⟩
  | seq a b iha ihb => exact ⟨fun st h k => by simp [okS] at k, fun xs h k => by
      cases xs with
      | nil => simp [okB] at k
      | cons x xs =>
        simp only [okB, Bool.and_eq_true] at k
        exact S_seq (iha.1 x h k.1) (ihb.2 xs h k.2)⟩
  | frzB i b ih => exact ⟨fun st h k => by simp [okS] at k, fun xs h k => by
      simp only [okB] at k
      exact S_frz (ih.2 xs h k)⟩
  | seti i a e => exact ⟨fun st h k => by
      cases st <;> try (simp [okS] at k; done)
      rename_i ts x p
      rcases ts with _ | ⟨t, _ | ⟨t2, ts⟩⟩ <;> try (simp [okS] at k; done)
      cases t <;> try (simp [okS] at k; done)
      simp only [okS, Bool.and_eq_true] at k
      obtain ⟨n, k1, k2, nb, k3⟩ := k
      exact S_seti h n k1 k2 nb k3, fun xs h k => by simp [okB] at k⟩
  | asg tg tt e => exact ⟨fun st h k => by
      cases st <;> try (simp [okS] at k; done)
      rename_i ts x p
      rcases ts with _ | ⟨t, _ | ⟨t2, ts⟩⟩ <;> try (simp [okS] at k; done)
      simp only [okS, Bool.and_eq_true] at k
      exact S_asg h k.1 k.2, fun xs h k => by simp [okB] at k⟩
  | own i e => exact ⟨fun st h k => by
      cases st <;> try (simp [okS] at k; done)
      rename_i ts x p
      rcases ts with _ | ⟨t, _ | ⟨t2, ts⟩⟩ <;> try (simp [okS] at k; done)
      simp only [okS, asgB, Bool.and_eq_true] at k
      obtain ⟨k1, k2, k3, k4⟩ := k
      cases t <;> try (simp [targetB] at k2; done)
      exact S_own h k1 k2 k3, fun xs h k => by simp [okB] at k⟩
  | hnew i e => exact ⟨fun st h k => by
      cases st <;> try (simp [okS] at k; done)
      rename_i ts x p
      rcases ts with _ | ⟨t, _ | ⟨t2, ts⟩⟩ <;> try (simp [okS] at k; done)
      simp only [okS, asgB, Bool.and_eq_true] at k
      obtain ⟨k1, k2, k3, k4⟩ := k
      cases t <;> try (simp [targetB] at k2; done)
      exact S_hnew h k1 k2 k3, fun xs h k => by simp [okB] at k⟩
  | app i e => exact ⟨fun st h k => by
      cases st <;> try (simp [okS] at k; done)
      rename_i x p
      cases x <;> try (simp [okS] at k; done)
      rename_i f xs kw pos
      cases f <;> try (simp [okS] at k; done)
      cases kw <;> try (simp [okS] at k; done)
      rcases xs with _ | ⟨y, _ | ⟨y2, xs⟩⟩ <;> try (simp [okS] at k; done)
      simp only [okS, Bool.and_eq_true, decide_eq_true_eq] at k
      obtain ⟨rfl, k1, n, k2, k3⟩ := k
      exact S_app h n k1 k2 k3, fun xs h k => by simp [okB] at k⟩
  | happ b e => exact ⟨fun st h k => by
      cases st <;> try (simp [okS] at k; done)
      rename_i x p
      cases x <;> try (simp [okS] at k; done)
      rename_i f xs kw pos
      cases f <;> try (simp [okS] at k; done)
      cases kw <;> try (simp [okS] at k; done)
      rcases xs with _ | ⟨y, _ | ⟨y2, xs⟩⟩ <;> try (simp [okS] at k; done)
      simp only [okS, Bool.and_eq_true, decide_eq_true_eq] at k
      obtain ⟨rfl, nb, k1, n, k2, k3, k4⟩ := k
      exact S_happ h nb n k1 k2 k3 k4, fun xs h k => by simp [okB] at k⟩
  | expr e => exact ⟨fun st h k => by
      cases st <;> try (simp [okS] at k; done)
      simp only [okS, Bool.and_eq_true] at k
      exact S_expr k.2.2 ((snd (T := T) (N := N) e).e _ h.toCok k.2.1), fun xs h k => by simp [okB] at k⟩
  | ite c a b iha ihb => exact ⟨fun st h k => by
      cases st <;> try (simp [okS] at k; done)
      simp only [okS, Bool.and_eq_true] at k
      exact S_ite ((snd (T := T) (N := N) c).t _ h.toCok k.1) (iha.2 _ h k.2.1) (ihb.2 _ h k.2.2), fun xs h k => by simp [okB] at k⟩
  | «for» tg tt it body ih => exact ⟨fun st h k => by
      cases st <;> try (simp [okS] at k; done)
      rename_i t i xs es p
      simp only [okS, Bool.and_eq_true] at k
      obtain ⟨k0, k1, k2, k3⟩ := k
      cases es <;> try (simp at k0; done)
      have hi := (snd (T := T) (N := N) it).i (tt := tt) i t h.toCok k2 (fun z => by
        subst z
        cases t <;> first | exact ⟨_, _, _, rfl⟩ | (exfalso; simp [targetB] at k1))
      exact S_for h.po h.calm hi (pg_gT h.calm (by rw [h.hN]; exact h.nd) h.tg k1) (ih.2 xs h k3) (fold_ok (okI_nset k2)), fun xs h k => by simp [okB] at k⟩
  | «while» c body ih => exact ⟨fun st h k => by
      cases st <;> try (simp [okS] at k; done)
      rename_i t xs es p
      simp only [okS, Bool.and_eq_true] at k
      obtain ⟨k0, k1, k2⟩ := k
      cases es <;> try (simp at k0; done)
      exact S_while h.po ((snd (T := T) (N := N) c).t _ h.toCok k1) (ih.2 xs h k2), fun xs h k => by simp [okB] at k⟩
  | ret e => exact ⟨fun st h k => by
      cases st <;> try (simp [okS] at k; done)
      rename_i x p
      cases x <;> try (simp [okS] at k; done)
      simp only [okS, Bool.and_eq_true, Bool.not_eq_true'] at k
      obtain ⟨k0, n, k1⟩ := k
      subst k0
      exact S_ret (to_rep ((snd (T := T) (N := N) e).e _ h.toCok k1) n), fun xs h k => by simp [okB] at k⟩
  | retF e => exact ⟨fun st h k => by
      cases st <;> try (simp [okS] at k; done)
      rename_i x p
      cases x <;> try (simp [okS] at k; done)
      simp only [okS, Bool.and_eq_true] at k
      obtain ⟨k0, n, k1⟩ := k
      subst k0
      exact S_retF (by cases e <;> first | exact .inl rfl | exact .inr rfl | (cases n; done)) ((snd (T := T) (N := N) e).e _ h.toCok k1), fun xs h k => by simp [okB] at k⟩
  | cont => exact ⟨fun st h k => by
      cases st <;> try (simp [okS] at k; done)
      exact S_cont, fun xs h k => by simp [okB] at k⟩
  | _ => exact ⟨fun st h k => by simp [okS] at k, fun xs h k => by simp [okB] at k⟩
end
end Pv

set_option Elab.async false
set_option linter.all false
set_option maxRecDepth 100000
set_option maxHeartbeats 8000000
namespace Pv
open PySem L2

/-! ### defs -/
structure Dfs (P : List Fn) (gi : List (Str × Int)) (K : PySem.W.Frag) (mg : Str → Option Value) (fn : Fn) (st : Stmt) (f : Addr) (fd : FuncData) (ps : List Str) : Prop where
  fun_ : FunD K fn.name fn.name (defArgs st) (defBody st) (defScope st) [] [] f fd
  sc : FnScope fn.N ps (defScope st)
  np : ps.length = fn.np
  mgf : mg fn.name = some (.ref f)
  bd : Binds K fd ps []
  ck : okB P gi fn.N (defScope st) fn.own fn.body (defBody st) = true
theorem start_sr {w : Wd} {M : Store} {fn : Fn} {vs : List V} {ds : List D} (f : Wf w) (s : Sto w M) (r : Reps w vs ds) : Sr w (entry fn ds) M w (L2.start fn.N vs) := by
  have key : ∀ (i : Nat) (sl : Slot), (entry fn ds)[i]? = some sl → (∃ d, ds[i]? = some d ∧ sl = .sh d) ∨ sl = .no := by
    intro i sl h
    unfold entry at h
    by_cases hi : i < ds.length
    · rw [List.getElem?_append_left (by simpa using hi), List.getElem?_map, List.getElem?_eq_getElem hi] at h
      exact .inl ⟨ds[i], List.getElem?_eq_getElem hi, (Option.some.inj h).symm⟩
    · rw [List.getElem?_append_right (by simpa using hi)] at h
      rw [List.getElem?_replicate] at h
      split at h
      · exact .inr (Option.some.inj h).symm
      · cases h
  refine ⟨f, Ext.refl w, s, ?_, fun i d h => ?_, fun i d h => ?_, fun i j d e p h _ _ _ => ?_⟩
  · unfold entry L2.start
    simp [r.length]
  · rcases key i _ h with ⟨d', h1, h2⟩ | h2
    · cases h2
      obtain ⟨v, h3, h4⟩ := r.get h1
      refine ⟨v, ?_, h4⟩
      unfold L2.start
      have hi : i < vs.length := (List.getElem?_eq_some_iff.mp h3).1
      rw [List.getElem?_append_left (by simpa using hi), List.getElem?_map, h3]; rfl
    · cases h2
  · rcases key i _ h with ⟨d', h1, h2⟩ | h2 <;> cases h2
  · rcases key i _ h with ⟨d', h1, h2⟩ | h2 <;> cases h2
theorem run_len {P : List Fn} {k f : Nat} {fn : Fn} {ds : List D} {M : Store} (h : P[f]? = some fn) (hl : ds.length ≠ fn.np) : run P k f ds M = .fail := by
  cases k with
  | zero => rfl
  | succ k =>
    unfold run
    rw [h]
    simp only
    rw [if_neg hl]
/-- all defs keep their promises, to the depth k -/
theorem run_ok {Pg : Program} {W : World} {K : PySem.W.Frag} {mg : Str → Option Value} {base : Heap} {P : List Fn} {cn : List Str} {gi : List (Str × Int)} {cls : Nat → Value}
    (blt : ∀ x ∈ bltN, mg x = none) (hgi : ∀ x i, (x, i) ∈ gi → ∃ t, mg x = some (.int i t))
    (D : ∀ (i : Nat) (fn : Fn), P[i]? = some fn → ∃ st f fd ps, Dfs P gi K mg fn st f fd ps) : ∀ (k i : Nat) (fn : Fn), P[i]? = some fn → ∀ st f fd ps, Dfs P gi K mg fn st f fd ps →
      FnOk Pg W K mg base (L2.CX Pg W) k f fd ps (spF cls K fn.own fn.np (run P k i)) := by
  intro k
  induction k with
  | zero =>
    intro i fn hi st f fd ps d
    refine ⟨fun vs H Q E h => h.1.trans d.np.symm, fun A outer s H args us vs Q E _ _ _ _ h => ?_⟩
    obtain ⟨_, ds, M, w, _, _, _, _, _, a⟩ := h
    exact a.elim
  | succ k ih =>
    intro i fn hi st f fd ps d
    refine d.fun_.ok d.sc (fun vs H Q E h => h.1.trans d.np.symm) fun cdv A outer s H vs Q E hr h => ?_
    obtain ⟨hl, ds, M, w, rfl, hK, wf, sto, rr, a⟩ := h
    let g : Gx := ⟨w, fun c d _ H => E c d H, cls⟩
    let T : Tb := ⟨P, cn, gi, k, run P k, cls⟩
    refine ⟨GS g fn.own (ex (run P k) fn.body), ?_, ?_⟩
    · refine (sndS (T := T) (N := fn.N) fn.body).2 (defBody st) (sc := defScope st) ?_ d.ck
      refine { p := ⟨blt, fun j fn' hj => ?_, hgi, fun f fn' ds M hf hl => run_len hf hl⟩, room := hr, hN := rfl, nd := d.sc.nd, sc := rfl, calm := rfl, tk := takes_of rfl rfl rfl rfl, gc := rfl, kk := hK, po := passes_of rfl, fn := fun _ => rfl, kd := d.sc.kind }
      obtain ⟨st', f', fd', ps', d'⟩ := D j fn' hj
      exact ⟨f', fd', ps', ⟨d'.mgf, d'.fun_.kp, d'.bd, ih j fn' hj st' f' fd' ps' d'⟩⟩
    · refine ⟨entry fn ds, M, w, rfl, start_sr wf sto rr, ?_⟩
      unfold run at a
      rw [hi] at a
      dsimp only at a
      rw [if_pos (rr.length.symm.trans hl)] at a
      generalize ex (run P k) fn.body (entry fn ds) M = o at a ⊢
      cases o with
      | nx ρ' M' =>
        unfold outR at a
        cases ho : fn.own with
        | true => rw [ho] at a; exact a.elim
        | false =>
          rw [ho] at a
          exact fun σ' w' le s' => a .non w' s'.e0 s'.wf s'.sto .non
      | ct ρ' M' => exact a.elim
      | ret d M' => exact fun v w' ex wf' st' r => a v w' ex wf' st' r
      | exc c ρ' M' => exact fun σ' w' le s' => a w' s'.e0 s'.wf s'.sto
      | fail => exact a.elim
end Pv

set_option Elab.async false
set_option linter.all false
set_option maxRecDepth 100000
set_option maxHeartbeats 8000000
namespace Pv
open PySem L2

/-! ### the end: a law's def answers True -/
theorem noex {P : Program} {w : World} {K : PySem.W.Frag} {mg : Str → Option Value} {base : Heap} {k : Nat} {f : Addr} {fd : FuncData} {ps : List Str} {sp : Sp} (F : FnOk P w K mg base (L2.CX P w) k f fd ps sp) :
    FnOk P w K mg base CX0 k f fd ps fun vs H Q _ => sp vs H Q fun _ _ _ => False :=
  ⟨fun vs H Q E q => F.len vs H Q _ q, fun A outer s H args us vs Q E hr he hb hv hs => codeAny_mono (F.run A outer s H args us vs Q (fun _ _ _ => False) hr he hb hv hs) fun r s' c => by
    cases r with
    | ok u => cases u <;> exact c
    | error e =>
      obtain ⟨_, _, _, _, _, _, _, _, _, _, _, _, z⟩ := c
      exact z.elim⟩
theorem law_sp {K : PySem.W.Frag} {cls : Nat → Value} {call : List D → Store → Res D} {H : Hp} {a : Addr} {ns : List Int} (h : ∃ M', call [.scr (ns.map .int)] [] = .ok (.bl true) M') (hO : Only H) (hS : SqL K H a (ns.map V.int)) :
    spF cls K false 1 call [.ref a] H (fun v _ => v = .bl true) fun _ _ _ => False := by
  obtain ⟨M', e⟩ := h
  have fin : ∀ w : Wd, w.H = H → w.K = K → Wf w → Sto w [] → Rep w (.ref a) (.scr (ns.map .int)) → spF cls K false 1 call [.ref a] H (fun v _ => v = .bl true) fun _ _ _ => False := by
    intro w hH hK wf st r
    refine ⟨rfl, [.scr (ns.map .int)], [], w, hH, hK, wf, st, .cons r .nil, ?_⟩
    rw [e]
    intro v w' _ _ _ r
    have r : Rep w' v (.bl true) := r
    cases r
    rfl
  rcases hS with hS | ⟨o, its, m, h1, h2, h3, h4, h5, h6⟩
  · rcases hO a with q | ⟨o, xs, q⟩
    · rcases hS with z | ⟨o, z⟩ <;> rw [q] at z <;> cases z
    · have e2 : xs = ns.map V.int := by
        rcases hS with z | ⟨o, z⟩ <;> rw [q] at z <;> cases z
        rfl
      subst e2
      refine fin ⟨fun b => b = a, [], H, K⟩ rfl rfl ⟨fun b hb => ⟨List.not_mem_nil, _, hb ▸ q⟩, List.nodup_nil, fun x hx => absurd hx List.not_mem_nil⟩ ⟨rfl, fun n a d h1 _ => by cases h1⟩ (.scr rfl q (.of_ints ns))
  · refine fin ⟨fun _ => False, [], H, K⟩ rfl rfl ⟨fun b hb => hb.elim, List.nodup_nil, fun x hx => absurd hx List.not_mem_nil⟩ ⟨rfl, fun n a d h1 _ => by cases h1⟩ (.scrK ⟨o, its, m, h1, h2, h3, h4, h5, h6⟩ (.of_ints ns))

/-! ### a program's defs -/
structure Item where
  fn : Fn
  st : Stmt
  ps : List Str
structure ItemOk (P : List Fn) (gi : List (Str × Int)) (t : Item) : Prop where
  sc : FnScope t.fn.N t.ps (defScope t.st)
  np : t.ps.length = t.fn.np
  ck : okB P gi t.fn.N (defScope t.st) t.fn.own t.fn.body (defBody t.st) = true
  bd : ∀ (kV doc pm : Value) (an : Option Addr) (cdv ct : Value) (us : List Value), us.length = t.ps.length → bindArgs (PySem.W.fnOf t.fn.name t.fn.name (defArgs t.st) (defBody t.st) (defScope t.st) .none kV doc pm an cdv ct) ⟨us, []⟩ = pure (t.ps.zip us)
def AllOk (P : List Fn) (gi : List (Str × Int)) : List Item → Prop
  | [] => True
  | t :: r => ItemOk P gi t ∧ AllOk P gi r
theorem AllOk.get {P : List Fn} {gi : List (Str × Int)} : ∀ {l : List Item}, AllOk P gi l → ∀ {i : Nat} {t : Item}, l[i]? = some t → ItemOk P gi t
  | [], _, _, _, h => by cases h
  | t :: r, a, 0, _, h => by
    cases h; exact a.1
  | t :: r, a, i + 1, _, h => AllOk.get a.2 (i := i) (by simpa using h)
def Item.dd (t : Item) : He.DefD := ⟨(t.fn.name, none), t.fn.name, t.fn.name, defArgs t.st, defBody t.st, defScope t.st, [], []⟩
def dds (l : List Item) : List He.DefD := l.map Item.dd
def fas (l : List Item) (gi : List (Str × Int)) : List He.Fa := l.map (fun t => .glo t.fn.name) ++ (bltN.map .free ++ gi.map fun p => .int p.1 p.2)
section
variable {K : PySem.W.Frag} {l : List Item} {gi : List (Str × Int)} {h : Heap} {mg : Str → Option Value}
theorem fact_mem (c : He.SaysD (fas l gi) (dds l) K) {f : He.Fa} (m : f ∈ fas l gi) : f.ok K = true := by
  obtain ⟨i, e⟩ := List.mem_iff_getElem?.mp m
  exact c.fact i e
theorem dfs_of (X : K.In h) (G : h.Ns mainGlobals mg) (c : He.SaysD (fas l gi) (dds l) K) (ok : AllOk (l.map (·.fn)) gi l) {i : Nat} {t : Item} (e : l[i]? = some t) :
    ∃ fd, Dfs (l.map (·.fn)) gi K mg t.fn t.st (He.ga K t.fn.name) fd t.ps := by
  have o := ok.get e
  obtain ⟨fd, F⟩ := c.def_ i (d := t.dd) (by unfold dds; rw [List.getElem?_map, e]; rfl)
  have F : FunD K t.fn.name t.fn.name (defArgs t.st) (defBody t.st) (defScope t.st) [] [] (He.ga K t.fn.name) fd := F
  refine ⟨fd, F, o.sc, o.np, He.glo_ok X G (fact_mem c ?_), F.bindsN o.bd, o.ck⟩
  refine List.mem_append_left _ (List.mem_map.mpr ⟨t, List.mem_of_getElem? e, rfl⟩)
/-- a law's walk from its run -/
theorem walkF {lw : PySem.W.OpenLaw} {n : Nat} {q : Program} {loose : List Str} {XP : (Str → Option Value) → Heap → Prop} {YP : World → Heap → Prop} {d : DefRec} (l : List Item) (gi : List (Str × Int)) (ok : AllOk (l.map (·.fn)) gi l)
    (li : Nat) (t : Item) (x : Str) (k : Nat) (hl : l[li]? = some t) (hps : t.ps = [x]) (hown : t.fn.own = false) (hd : d.name = t.fn.name)
    (hn : lw.most = some n) (hn2 : n ≤ sizeLine) (hdf : d.params.defaults = []) (hr : Room k callerA)
    (hY : ∀ w h, YP w h → ∃ K : PySem.W.Frag, K.In h ∧ He.SaysD (fas l gi) (dds l) K)
    (hrun : ∀ ns : List Int, ns.length ≤ n → ∃ M', run (l.map (·.fn)) k li [.scr (ns.map .int)] [] = .ok (.bl true) M') :
    PySem.W.WalkO q loose XP YP lw.row.toRowW d [] (fun f vs => PySem.call f vs) := by
  refine L2.walk_ofE (k := k) (CX := CX0) (x := x) hn hn2 hdf hr ?_ (fun _ _ _ _ z => z)
  intro w mg fa h Y G hmg
  obtain ⟨K, KX, c⟩ := hY w h Y
  obtain ⟨fd, D⟩ := dfs_of KX G c ok hl
  have e : fa = He.ga K t.fn.name := by
    rw [hd, D.mgf] at hmg
    cases hmg; rfl
  subst e
  have b := FunD.bindsA D.fun_ (ok.get hl).bd
  have hnp : t.fn.np = 1 := by rw [← D.np, hps]; rfl
  refine ⟨K, fd, fun vs H Q _ => spF (fun _ => .none) K false 1 (run (l.map (·.fn)) k li) vs H Q fun _ _ _ => False, KX, fun s u => ?_, fun H a ns hlen hO hS => law_sp (hrun ns hlen) hO hS, fun base _ Gb => ?_⟩
  · have := b s [u] (by rw [hps]; rfl)
    rw [hps] at this
    exact this
  · have hfn : (l.map (·.fn))[li]? = some t.fn := by rw [List.getElem?_map, hl]; rfl
    have R := run_ok (Pg := lw.prog) (W := w) (base := base) (cn := []) (P := l.map (·.fn)) (gi := gi) (mg := mg) (K := K) (cls := fun _ => .none)
      (fun x hx => He.free_ok KX G (fact_mem c (List.mem_append_right _ (List.mem_append_left _ (List.mem_map.mpr ⟨x, hx, rfl⟩)))))
      (fun x i hx => He.int_ok KX G (fact_mem c (List.mem_append_right _ (List.mem_append_right _ (List.mem_map.mpr ⟨(x, i), hx, rfl⟩)))))
      (fun i fn hi => by
        rw [List.getElem?_map] at hi
        cases ht : l[i]? with
        | none => rw [ht] at hi; cases hi
        | some u =>
          rw [ht] at hi
          cases hi
          obtain ⟨fd', D'⟩ := dfs_of KX G c ok ht
          exact ⟨_, _, _, _, D'⟩) k li t.fn hfn t.st _ fd t.ps D
    rw [hown, hnp, hps] at R
    exact noex R
end
end Pv

set_option Elab.async false
set_option linter.all false
set_option maxRecDepth 100000
set_option maxHeartbeats 4000000
namespace Pv.Wp
open PySem L2 Pv

/-! ### what a run may end with: a calculus of weakest conditions -/
def RW {α : Type} (r : Res α) (Q : α → Store → Prop) (X : Nat → Store → Prop) : Prop := match r with
  | .ok a M => Q a M
  | .exc c M => X c M
  | .fail => False
def PW {α : Type} (o : Option α) (k : α → Prop) : Prop := match o with
  | some a => k a
  | none => False
structure Ek where
  nx : Rho → Store → Prop
  ct : Rho → Store → Prop
  rt : D → Store → Prop
  xc : Nat → Rho → Store → Prop
def OW (o : Out) (e : Ek) : Prop := match o with
  | .nx ρ M => e.nx ρ M
  | .ct ρ M => e.ct ρ M
  | .ret d M => e.rt d M
  | .exc c ρ M => e.xc c ρ M
  | .fail => False
theorem pw_some {α : Type} {a : α} {k : α → Prop} (h : k a) : PW (some a) k := h
theorem pw_eq {α : Type} {o : Option α} {a : α} {k : α → Prop} (e : o = some a) (h : k a) : PW o k := by rw [e]; exact h
theorem pw_if {α : Type} {c : Prop} [Decidable c] {o o' : Option α} {k : α → Prop} (hc : c) (h : PW o k) : PW (if c then o else o') k := by rw [if_pos hc]; exact h
theorem rw_ok {α : Type} {r : Res α} {a : α} {M : Store} {Q : α → Store → Prop} {X : Nat → Store → Prop} (e : r = .ok a M) (h : Q a M) : RW r Q X := by rw [e]; exact h
theorem ok_of {α : Type} {r : Res α} {a : α} {M : Store} (h : RW r (fun b M' => b = a ∧ M' = M) fun _ _ => False) : r = .ok a M := by
  cases r with
  | ok b M' => obtain ⟨rfl, rfl⟩ := h; rfl
  | exc c M' => exact h.elim
  | fail => exact h.elim
theorem ok_ex {α : Type} {r : Res α} {Q : α → Store → Prop} (h : RW r Q fun _ _ => False) : ∃ a M, r = .ok a M ∧ Q a M := by
  cases r with
  | ok b M' => exact ⟨b, M', rfl, h⟩
  | exc c M' => exact h.elim
  | fail => exact h.elim
theorem RW.mono {α : Type} {r : Res α} {Q Q' : α → Store → Prop} {X X' : Nat → Store → Prop} (h : RW r Q X) (k : ∀ a M, Q a M → Q' a M) (x : ∀ c M, X c M → X' c M) : RW r Q' X' := by
  cases r with
  | ok b M' => exact k _ _ h
  | exc c M' => exact x _ _ h
  | fail => exact h
theorem OW.mono {o : Out} {e e' : Ek} (h : OW o e) (a : ∀ ρ M, e.nx ρ M → e'.nx ρ M) (b : ∀ ρ M, e.ct ρ M → e'.ct ρ M) (c : ∀ d M, e.rt d M → e'.rt d M) (x : ∀ c ρ M, e.xc c ρ M → e'.xc c ρ M) : OW o e' := by
  cases o with
  | nx ρ M => exact a _ _ h
  | ct ρ M => exact b _ _ h
  | ret d M => exact c _ _ h
  | exc c ρ M => exact x _ _ _ h
  | fail => exact h
theorem rw_bind {α β : Type} {r : Res α} {k : α → Store → Res β} {Q : β → Store → Prop} {X : Nat → Store → Prop} (h : RW r (fun a M => RW (k a M) Q X) X) : RW (r.bind k) Q X := by
  cases r with
  | ok b M' => exact h
  | exc c M' => exact h
  | fail => exact h
theorem rw_opt {α : Type} {o : Option α} {M : Store} {Q : α → Store → Prop} {X : Nat → Store → Prop} (h : PW o fun a => Q a M) : RW (opt o M) Q X := by
  cases o with
  | none => exact h
  | some a => exact h
theorem pw_map {α β : Type} {o : Option α} {f : α → β} {k : β → Prop} (h : PW o fun a => k (f a)) : PW (o.map f) k := by
  cases o with
  | none => exact h
  | some a => exact h
theorem rw_if {α : Type} {c : Prop} [Decidable c] {r r' : Res α} {Q : α → Store → Prop} {X : Nat → Store → Prop} (hc : c) (h : RW r Q X) : RW (if c then r else r') Q X := by rw [if_pos hc]; exact h
theorem ow_ofR {α : Type} {ρ : Rho} {r : Res α} {k : α → Store → Out} {e : Ek} (h : RW r (fun a M => OW (k a M) e) fun c M => e.xc c ρ M) : OW (ofR ρ r k) e := by
  cases r with
  | ok b M' => exact h
  | exc c M' => exact h
  | fail => exact h
section
variable {C : Nat → List D → Store → Res D} {ρ : Rho} {M : Store} {Q : D → Store → Prop} {X : Nat → Store → Prop} {QB : Bool → Store → Prop} {QL : List D → Store → Prop} {a b c l : E} {d : D} {i : Nat}
/-! expressions -/
theorem w_int {i : Int} (h : Q (.int i) M) : RW (ev C (.int i) ρ M) Q X := h
theorem w_str {x : Str} (h : Q (.str x) M) : RW (ev C (.str x) ρ M) Q X := h
theorem w_bl {x : Bool} (h : Q (.bl x) M) : RW (ev C (.bl x) ρ M) Q X := h
theorem w_non (h : Q .non M) : RW (ev C .non ρ M) Q X := h
theorem w_glob {x : Str} {i : Int} (h : Q (.int i) M) : RW (ev C (.glob x i) ρ M) Q X := h
theorem w_var (e : ρ[i]? = some (.sh d)) (h : Q d M) : RW (ev C (.var i) ρ M) Q X := by
  simp only [ev, e]; exact h
theorem w_peek (e : ρ[i]? = some (.ow d)) (h : Q d M) : RW (ev C (.peek i) ρ M) Q X := by
  simp only [ev, e]; exact h
theorem w_move (e : ρ[i]? = some (.ow d)) (h : Q d M) : RW (ev C (.move i) ρ M) Q X := by
  simp only [ev, e]; exact h
theorem w_bin {k : BK} (h : RW (ev C a ρ M) (fun x M => RW (ev C b ρ M) (fun y M => PW (binD k x y) fun d => Q d M) X) X) : RW (ev C (.bin k a b) ρ M) Q X := by
  simp only [ev]
  exact rw_bind (h.mono (fun x M h => rw_bind (h.mono (fun y M h => rw_opt h) fun _ _ h => h)) fun _ _ h => h)
theorem w_neg (h : RW (ev C a ρ M) (fun x M => ∃ i : Int, x = .int i ∧ Q (.int (-i)) M) X) : RW (ev C (.neg a) ρ M) Q X := by
  simp only [ev]
  refine rw_bind (h.mono (fun x M h => ?_) fun _ _ h => h)
  obtain ⟨i, rfl, h⟩ := h
  exact h
theorem w_negI {i : Int} (h : Q (.int (-i)) M) : RW (ev C (.neg (.int i)) ρ M) Q X := h
theorem w_cmp {k : CK} (h : RW (ev C a ρ M) (fun x M => RW (ev C b ρ M) (fun y M => PW (cmpD k x y) fun t => Q (.bl t) M) X) X) : RW (ev C (.cmp k a b) ρ M) Q X := by
  simp only [ev]
  exact rw_bind (h.mono (fun x M h => rw_bind (h.mono (fun y M h => rw_opt (pw_map h)) fun _ _ h => h)) fun _ _ h => h)
theorem w_not (h : RW (ev C a ρ M) (fun x M => PW (truD (dr M x)) fun t => Q (.bl (!t)) M) X) : RW (ev C (.not a) ρ M) Q X := by
  simp only [ev, truR]
  exact rw_bind (rw_bind (h.mono (fun x M h => rw_opt h) fun _ _ h => h))
theorem w_ite (h : RW (evT C c ρ M) (fun t M => (t = true → RW (ev C a ρ M) Q X) ∧ (t = false → RW (ev C b ρ M) Q X)) X) : RW (ev C (.ite c a b) ρ M) Q X := by
  simp only [ev]
  refine rw_bind (h.mono (fun t M h => ?_) fun _ _ h => h)
  cases t with
  | true => exact h.1 rfl
  | false => exact h.2 rfl
theorem w_tup (h : RW (evs C l ρ M) (fun ds M => ds.length ≤ LIM ∧ Q (.tup ds) M) X) : RW (ev C (.tup l) ρ M) Q X := by
  simp only [ev]
  exact rw_bind (h.mono (fun x M h => rw_if h.1 h.2) fun _ _ h => h)
theorem w_lst (h : RW (evs C l ρ M) (fun ds M => ds.length ≤ LIM ∧ Q (.lst ds) M) X) : RW (ev C (.lst l) ρ M) Q X := by
  simp only [ev]
  exact rw_bind (h.mono (fun x M h => rw_if h.1 h.2) fun _ _ h => h)
theorem w_idx (h : RW (ev C a ρ M) (fun x M => RW (ev C b ρ M) (fun y M => PW (idxD (dr M x) y) fun d => Q d M) X) X) : RW (ev C (.idx a b) ρ M) Q X := by
  simp only [ev]
  exact rw_bind (h.mono (fun x M h => rw_bind (h.mono (fun y M h => rw_opt h) fun _ _ h => h)) fun _ _ h => h)
theorem w_slice {lo hi : E} (h : RW (ev C a ρ M) (fun x M => RW (evO C lo ρ M) (fun u M => RW (evO C hi ρ M) (fun v M => PW (sliceD x u v) fun d => Q d M) X) X) X) : RW (ev C (.slice a lo hi) ρ M) Q X := by
  simp only [ev]
  exact rw_bind (h.mono (fun x M h => rw_bind (h.mono (fun y M h => rw_bind (h.mono (fun z M h => rw_opt h) fun _ _ h => h)) fun _ _ h => h)) fun _ _ h => h)
theorem w_oNil {Q : Option Int → Store → Prop} (h : Q none M) : RW (evO C .nil ρ M) Q X := h
theorem w_oCons {Q : Option Int → Store → Prop} (h : RW (ev C a ρ M) (fun x M => ∃ i : Int, x = .int i ∧ Q (some i) M) X) : RW (evO C (.cons a .nil) ρ M) Q X := by
  simp only [evO]
  refine rw_bind (h.mono (fun x M h => ?_) fun _ _ h => h)
  obtain ⟨i, rfl, h⟩ := h
  exact h
theorem w_call {f : Nat} (h : RW (evs C l ρ M) (fun ds M => RW (C f ds M) Q X) X) : RW (ev C (.call f l) ρ M) Q X := by
  simp only [ev]
  exact rw_bind h
theorem w_fcall {f : Nat} (h : RW (evs C l ρ M) (fun ds M => RW (C f ds M) Q X) X) : RW (ev C (.fcall f l) ρ M) Q X := by
  simp only [ev]
  exact rw_bind h
theorem w_fn1 {k : F1} (h : RW (ev C a ρ M) (fun x M => PW (fn1D k (dr M x)) fun d => Q d M) X) : RW (ev C (.fn1 k a) ρ M) Q X := by
  simp only [ev]
  exact rw_bind (h.mono (fun x M h => rw_opt h) fun _ _ h => h)
theorem w_fn2 {k : F2} (h : RW (ev C a ρ M) (fun x M => RW (ev C b ρ M) (fun y M => PW (fn2D k x y) fun d => Q d M) X) X) : RW (ev C (.fn2 k a b) ρ M) Q X := by
  simp only [ev]
  exact rw_bind (h.mono (fun x M h => rw_bind (h.mono (fun y M h => rw_opt h) fun _ _ h => h)) fun _ _ h => h)
theorem w_meth1 {k : M1} (h : RW (ev C a ρ M) (fun x M => recvB k x = true ∧ RW (ev C b ρ M) (fun y M => PW (meth1D k x y) fun d => Q d M) X) X) : RW (ev C (.meth1 k a b) ρ M) Q X := by
  simp only [ev]
  refine rw_bind (h.mono (fun x M h => ?_) fun _ _ h => h)
  rw [h.1]
  exact rw_bind (h.2.mono (fun y M h => rw_opt h) fun _ _ h => h)
theorem w_get2 (h : RW (ev C a ρ M) (fun x M => recvB .get x = true ∧ RW (ev C b ρ M) (fun y M => RW (ev C c ρ M) (fun z M => PW (get2D x y z) fun d => Q d M) X) X) X) : RW (ev C (.get2 a b c) ρ M) Q X := by
  simp only [ev]
  refine rw_bind (h.mono (fun x M h => ?_) fun _ _ h => h)
  rw [h.1]
  exact rw_bind (h.2.mono (fun y M h => rw_bind (h.mono (fun z M h => rw_opt h) fun _ _ h => h)) fun _ _ h => h)
theorem w_isi {t : Ty} (h : RW (ev C a ρ M) (fun x M => PW (isiD x t) fun b => Q (.bl b) M) X) : RW (ev C (.isi a t) ρ M) Q X := by
  simp only [ev]
  exact rw_bind (h.mono (fun x M h => rw_opt (pw_map h)) fun _ _ h => h)
theorem w_ff {k : FF} (h : RW (ev C a ρ M) (fun x M => PW (ffD k x) fun d => Q d M) X) : RW (ev C (.ff k a) ρ M) Q X := by
  simp only [ev]
  exact rw_bind (h.mono (fun x M h => rw_opt h) fun _ _ h => h)
theorem w_dic0 (h : Q (.dic []) M) : RW (ev C .dic0 ρ M) Q X := by
  simp only [ev]; exact h
theorem w_nil (h : QL [] M) : RW (evs C .nil ρ M) QL X := by
  simp only [evs]; exact h
theorem w_cons (h : RW (ev C a ρ M) (fun d M => RW (evs C l ρ M) (fun ds M => QL (d :: ds) M) X) X) : RW (evs C (.cons a l) ρ M) QL X := by
  simp only [evs]
  exact rw_bind (h.mono (fun x M h => rw_bind h) fun _ _ h => h)
/-! and, or as values: of truth values -/
theorem w_cmp2 {k k' : CK} (h : RW (ev C a ρ M) (fun x M => RW (ev C b ρ M) (fun y M => PW (cmpD k x y) fun t => (t = true → RW (ev C c ρ M) (fun z M => PW (cmpD k' y z) fun t => Q (.bl t) M) X) ∧ (t = false → Q (.bl false) M)) X) X) : RW (ev C (.cmp2 k k' a b c) ρ M) Q X := by
  simp only [ev]
  refine rw_bind (h.mono (fun x M h => rw_bind (h.mono (fun y M h => rw_bind (rw_opt ?_)) fun _ _ h => h)) fun _ _ h => h)
  generalize cmpD k x y = o at h ⊢
  cases o with
  | none => exact h
  | some t => cases t with
    | true => exact rw_bind ((h.1 rfl).mono (fun z M h => rw_opt (pw_map h)) fun _ _ h => h)
    | false => exact h.2 rfl
theorem w_and (h : RW (evAnd C l ρ M) Q X) : RW (ev C (.and l) ρ M) Q X := by
  simp only [ev]; exact h
theorem w_or (h : RW (evOr C l ρ M) Q X) : RW (ev C (.or l) ρ M) Q X := by
  simp only [ev]; exact h
theorem w_andL (h : RW (ev C a ρ M) Q X) : RW (evAnd C (.cons a .nil) ρ M) Q X := by
  simp only [evAnd]; exact h
theorem w_orL (h : RW (ev C a ρ M) Q X) : RW (evOr C (.cons a .nil) ρ M) Q X := by
  simp only [evOr]; exact h
theorem w_andC {r : E} (h : RW (ev C a ρ M) (fun d M => PW (truD (dr M d)) fun t => (t = true → RW (evAnd C (.cons b r) ρ M) Q X) ∧ (t = false → Q d M)) X) : RW (evAnd C (.cons a (.cons b r)) ρ M) Q X := by
  rw [evAnd]
  rotate_left 1
  · exact fun h => nomatch h
  refine rw_bind (h.mono (fun d M h => rw_bind (rw_opt ?_)) fun _ _ h => h)
  generalize truD (dr M d) = o at h ⊢
  cases o with
  | none => exact h
  | some t => cases t with
    | true => exact h.1 rfl
    | false => exact h.2 rfl
theorem w_orC {r : E} (h : RW (ev C a ρ M) (fun d M => PW (truD (dr M d)) fun t => (t = false → RW (evOr C (.cons b r) ρ M) Q X) ∧ (t = true → Q d M)) X) : RW (evOr C (.cons a (.cons b r)) ρ M) Q X := by
  rw [evOr]
  rotate_left 1
  · exact fun h => nomatch h
  refine rw_bind (h.mono (fun d M h => rw_bind (rw_opt ?_)) fun _ _ h => h)
  generalize truD (dr M d) = o at h ⊢
  cases o with
  | none => exact h
  | some t => cases t with
    | true => exact h.2 rfl
    | false => exact h.1 rfl
/-! conditions -/
theorem t_and (h : RW (evAndT C l ρ M) QB X) : RW (evT C (.and l) ρ M) QB X := by
  simp only [evT]; exact h
theorem t_or (h : RW (evOrT C l ρ M) QB X) : RW (evT C (.or l) ρ M) QB X := by
  simp only [evT]; exact h
theorem t_andN (h : QB true M) : RW (evAndT C .nil ρ M) QB X := by
  simp only [evAndT]; exact h
theorem t_orN (h : QB false M) : RW (evOrT C .nil ρ M) QB X := by
  simp only [evOrT]; exact h
theorem t_andC (h : RW (evT C a ρ M) (fun t M => (t = true → RW (evAndT C l ρ M) QB X) ∧ (t = false → QB false M)) X) : RW (evAndT C (.cons a l) ρ M) QB X := by
  simp only [evAndT]
  refine rw_bind (h.mono (fun t M h => ?_) fun _ _ h => h)
  cases t with
  | true => exact h.1 rfl
  | false => exact h.2 rfl
theorem t_orC (h : RW (evT C a ρ M) (fun t M => (t = true → QB true M) ∧ (t = false → RW (evOrT C l ρ M) QB X)) X) : RW (evOrT C (.cons a l) ρ M) QB X := by
  simp only [evOrT]
  refine rw_bind (h.mono (fun t M h => ?_) fun _ _ h => h)
  cases t with
  | true => exact h.1 rfl
  | false => exact h.2 rfl
theorem t_not (h : RW (evT C a ρ M) (fun t M => QB (!t) M) X) : RW (evT C (.not a) ρ M) QB X := by
  simp only [evT]
  exact rw_bind (h.mono (fun t M h => h) fun _ _ h => h)
theorem t_cmp {k : CK} (h : RW (ev C a ρ M) (fun x M => RW (ev C b ρ M) (fun y M => PW (cmpD k x y) fun t => QB t M) X) X) : RW (evT C (.cmp k a b) ρ M) QB X := by
  simp only [evT]
  exact rw_bind (h.mono (fun x M h => rw_bind (h.mono (fun y M h => rw_opt h) fun _ _ h => h)) fun _ _ h => h)
theorem t_cmp2 {k k' : CK} (h : RW (ev C a ρ M) (fun x M => RW (ev C b ρ M) (fun y M => PW (cmpD k x y) fun t => (t = true → RW (ev C c ρ M) (fun z M => PW (cmpD k' y z) fun t => QB t M) X) ∧ (t = false → QB false M)) X) X) : RW (evT C (.cmp2 k k' a b c) ρ M) QB X := by
  simp only [evT]
  refine rw_bind (h.mono (fun x M h => rw_bind (h.mono (fun y M h => rw_bind (rw_opt ?_)) fun _ _ h => h)) fun _ _ h => h)
  generalize cmpD k x y = o at h ⊢
  cases o with
  | none => exact h
  | some t => cases t with
    | true => exact rw_bind ((h.1 rfl).mono (fun z M h => rw_opt h) fun _ _ h => h)
    | false => exact h.2 rfl
theorem t_var (e : ρ[i]? = some (.sh d)) (h : PW (truD (dr M d)) fun t => QB t M) : RW (evT C (.var i) ρ M) QB X := by
  simp only [evT, e]; exact rw_opt h
theorem t_peek (e : ρ[i]? = some (.ow d)) (h : PW (truD (dr M d)) fun t => QB t M) : RW (evT C (.peek i) ρ M) QB X := by
  simp only [evT, e]; exact rw_opt h
theorem t_call {f : Nat} (h : RW (evs C l ρ M) (fun ds M => RW (C f ds M) (fun d M => PW (truD (dr M d)) fun t => QB t M) X) X) : RW (evT C (.call f l) ρ M) QB X := by
  simp only [evT, truR]
  exact rw_bind (h.mono (fun ds M h => rw_bind (h.mono (fun d M h => rw_opt h) fun _ _ h => h)) fun _ _ h => h)
theorem t_idx (h : RW (ev C a ρ M) (fun x M => RW (ev C b ρ M) (fun y M => PW (idxD (dr M x) y) fun d => PW (truD (dr M d)) fun t => QB t M) X) X) : RW (evT C (.idx a b) ρ M) QB X := by
  simp only [evT]
  exact rw_bind (h.mono (fun x M h => rw_bind (h.mono (fun y M h => rw_bind (rw_opt (by
    generalize idxD (dr M x) y = o at h ⊢
    cases o with
    | none => exact h
    | some d => exact rw_opt h))) fun _ _ h => h)) fun _ _ h => h)
theorem t_fn1 {k : F1} (h : RW (ev C a ρ M) (fun x M => PW (fn1D k (dr M x)) fun d => PW (truD (dr M d)) fun t => QB t M) X) : RW (evT C (.fn1 k a) ρ M) QB X := by
  simp only [evT]
  exact rw_bind (h.mono (fun x M h => rw_bind (rw_opt (by
    generalize fn1D k (dr M x) = o at h ⊢
    cases o with
    | none => exact h
    | some d => exact rw_opt h))) fun _ _ h => h)
theorem t_isi {t : Ty} (h : RW (ev C a ρ M) (fun x M => PW (isiD x t) fun b => QB b M) X) : RW (evT C (.isi a t) ρ M) QB X := by
  simp only [evT]
  exact rw_bind (h.mono (fun x M h => rw_opt h) fun _ _ h => h)
theorem t_bl {x : Bool} (h : QB x M) : RW (evT C (.bl x) ρ M) QB X := by
  simp only [evT]; exact h
/-! what a loop walks -/
theorem i_seq (h : RW (ev C a ρ M) (fun x M => PW (itemsD x) fun ds => QL ds M) X) : RW (evI C (.itSeq a) ρ M) QL X := by
  simp only [evI]
  exact rw_bind (h.mono (fun x M h => rw_opt h) fun _ _ h => h)
theorem i_range1 (h : RW (ev C a ρ M) (fun x M => PW (rangeD (.int 0) x) fun ds => QL ds M) X) : RW (evI C (.itRange1 a) ρ M) QL X := by
  simp only [evI]
  exact rw_bind (h.mono (fun x M h => rw_opt h) fun _ _ h => h)
theorem i_range (h : RW (ev C a ρ M) (fun x M => RW (ev C b ρ M) (fun y M => PW (rangeD x y) fun ds => QL ds M) X) X) : RW (evI C (.itRange a b) ρ M) QL X := by
  simp only [evI]
  exact rw_bind (h.mono (fun x M h => rw_bind (h.mono (fun y M h => rw_opt h) fun _ _ h => h)) fun _ _ h => h)
theorem i_zip (h : RW (ev C a ρ M) (fun x M => RW (ev C b ρ M) (fun y M => PW (zipO x y) fun ds => QL ds M) X) X) : RW (evI C (.itZip a b) ρ M) QL X := by
  simp only [evI]
  exact rw_bind (h.mono (fun x M h => rw_bind (h.mono (fun y M h => rw_opt h) fun _ _ h => h)) fun _ _ h => h)
/-! comprehensions -/
def addO (r : List D) : Option D → List D
  | some x => r ++ [x]
  | none => r
/-- a list's walk: I says what is kept and what was built -/
theorem compL_inv {f : D → Store → Res (Option D)} (I : Nat → List D → Store → Prop) (ds : List D) {QL : List D → Store → Prop} {X : Nat → Store → Prop} (h0 : I 0 [] M)
    (hs : ∀ (i : Nat) (h : i < ds.length) (r : List D) (M : Store), I i r M → RW (f ds[i] M) (fun o M => I (i + 1) (addO r o) M) fun _ _ => False)
    (he : ∀ r M, I ds.length r M → QL r M) : RW (compL f ds M) QL X := by
  suffices H : ∀ (k : Nat) (r : List D) (M : Store), k ≤ ds.length → I k r M → RW (compL f (ds.drop k) M) (fun t M => QL (r ++ t) M) fun _ _ => False by
    have := H 0 [] M (Nat.zero_le _) h0
    rw [List.drop_zero] at this
    exact this.mono (fun _ _ h => h) fun _ _ h => h.elim
  intro k
  induction hk : ds.length - k generalizing k with
  | zero =>
    intro r M h1 h
    have e : k = ds.length := by omega
    subst e
    rw [List.drop_length]
    show QL (r ++ []) M
    rw [List.append_nil]
    exact he r M h
  | succ n ih =>
    intro r M h1 h
    have hl : k < ds.length := by omega
    rw [List.drop_eq_getElem_cons hl]
    have := hs k hl r M h
    unfold compL
    cases e : f ds[k] M with
    | fail => rw [e] at this; exact this.elim
    | exc c M' => rw [e] at this; exact this.elim
    | ok o M' =>
      rw [e] at this
      have h2 := ih (k + 1) (by omega) _ M' (by omega) this
      dsimp only
      cases e2 : compL f (ds.drop (k + 1)) M' with
      | fail => rw [e2] at h2; exact h2.elim
      | exc c M' => rw [e2] at h2; exact h2.elim
      | ok t M2 =>
        rw [e2] at h2
        have h2 : QL (addO r o ++ t) M2 := h2
        cases o with
        | none => exact h2
        | some x =>
          show QL (r ++ x :: t) M2
          have h2 : QL (r ++ [x] ++ t) M2 := h2
          rwa [List.append_assoc] at h2
def stepC (C : Nat → List D → Store → Res D) (tg : List Nat) (tt : Bool) (cond elt : E) (own : List Nat) (ρ : Rho) (d : D) (M : Store) : Res (Option D) := match bindT tg tt (wipeR ρ own) d with
  | some ρ1 => match evC C cond ρ1 M with
    | .ok true M1 => (ev C elt ρ1 M1).bind fun x M2 => .ok (some x) M2
    | .ok false M1 => .ok none M1
    | _ => .fail
  | none => .fail
theorem w_comp {tg own : List Nat} {tt : Bool} {it cond elt : E} (h : RW (evI C it ρ M) (fun ds M => RW (compL (stepC C tg tt cond elt own ρ) ds M) (fun r M => Q (.lst r) M) X) X) : RW (ev C (.comp tg tt it cond elt own) ρ M) Q X := by
  simp only [ev]
  exact rw_bind (h.mono (fun ds M h => rw_bind (h.mono (fun _ _ h => h) fun _ _ h => h)) fun _ _ h => h)
theorem t_comp {tg own : List Nat} {tt : Bool} {it cond elt : E} (h : RW (evI C it ρ M) (fun ds M => RW (compL (stepC C tg tt cond elt own ρ) ds M) (fun r M => QB (!r.isEmpty) M) X) X) : RW (evT C (.comp tg tt it cond elt own) ρ M) QB X := by
  simp only [evT]
  exact rw_bind (h.mono (fun ds M h => rw_bind (h.mono (fun _ _ h => h) fun _ _ h => h)) fun _ _ h => h)
theorem step_all {tg own : List Nat} {tt : Bool} {elt : E} {ρ1 : Rho} {QO : Option D → Store → Prop} (e : bindT tg tt (wipeR ρ own) d = some ρ1) (h : RW (ev C elt ρ1 M) (fun x M => QO (some x) M) X) : RW (stepC C tg tt .nil elt own ρ d M) QO X := by
  unfold stepC
  rw [e]
  simp only [evC]
  exact rw_bind (h.mono (fun _ _ h => h) fun _ _ h => h)
theorem step_if {tg own : List Nat} {tt : Bool} {elt : E} {ρ1 : Rho} {QO : Option D → Store → Prop} (e : bindT tg tt (wipeR ρ own) d = some ρ1)
    (h : RW (evT C c ρ1 M) (fun t M => (t = true → RW (ev C elt ρ1 M) (fun x M => QO (some x) M) X) ∧ (t = false → QO none M)) fun _ _ => False) : RW (stepC C tg tt (.cons c .nil) elt own ρ d M) QO X := by
  unfold stepC
  rw [e]
  simp only [evC]
  generalize evT C c ρ1 M = r at h ⊢
  cases r with
  | fail => exact h.elim
  | exc c M' => exact h.elim
  | ok t M1 => cases t with
    | true => exact rw_bind ((h.1 rfl).mono (fun _ _ h => h) fun _ _ h => h)
    | false => exact h.2 rfl
end
/-! statements -/
section
variable {C : Nat → List D → Store → Res D} {ρ : Rho} {M : Store} {e : Ek} {s t : S} {a k c : E} {i : Nat} {ρ1 : Rho} {d : D}
theorem s_skip (h : e.nx ρ M) : OW (ex C .skip ρ M) e := by
  simp only [ex]; exact h
theorem s_seq (h : OW (ex C s ρ M) ⟨fun ρ M => OW (ex C t ρ M) e, e.ct, e.rt, e.xc⟩) : OW (ex C (.seq s t) ρ M) e := by
  simp only [ex]
  cases q : ex C s ρ M with
  | nx ρ M => rw [q] at h; exact h
  | ct ρ M => rw [q] at h; exact h
  | ret d M => rw [q] at h; exact h
  | exc c ρ M => rw [q] at h; exact h
  | fail => rw [q] at h; exact h
theorem ow_oRho {o : Option Rho} (h : PW o fun ρ => e.nx ρ M) : OW (oRho o M) e := by
  cases o with
  | none => exact h
  | some ρ => exact h
theorem s_asg {tg : List Nat} {tt : Bool} (h : RW (ev C a ρ M) (fun d M => PW (bindT tg tt ρ d) fun ρ => e.nx ρ M) fun c M => e.xc c ρ M) : OW (ex C (.asg tg tt a) ρ M) e := by
  simp only [ex]
  exact ow_ofR (h.mono (fun d M h => ow_oRho h) fun _ _ h => h)
theorem s_own (h : RW (ev C a ρ M) (fun d M => i < ρ.length ∧ e.nx (ρ.set i (.ow d)) M) fun c M => e.xc c ρ M) : OW (ex C (.own i a) ρ M) e := by
  simp only [ex]
  refine ow_ofR (h.mono (fun d M h => ?_) fun _ _ h => h)
  unfold setO
  rw [if_pos h.1]; exact h.2
theorem s_hnew (h : RW (ev C a ρ M) (fun d M => i < ρ.length ∧ e.nx (ρ.set i (.sh (.hnd M.length))) (M ++ [d])) fun c M => e.xc c ρ M) : OW (ex C (.hnew i a) ρ M) e := by
  simp only [ex]
  refine ow_ofR (h.mono (fun d M h => ?_) fun _ _ h => h)
  unfold setS
  rw [if_pos h.1]; exact h.2
theorem s_expr (h : RW (ev C a ρ M) (fun _ M => e.nx ρ M) fun c M => e.xc c ρ M) : OW (ex C (.expr a) ρ M) e := by
  simp only [ex]
  exact ow_ofR h
theorem s_ite (h : RW (evT C c ρ M) (fun b M => (b = true → OW (ex C s ρ M) e) ∧ (b = false → OW (ex C t ρ M) e)) fun c M => e.xc c ρ M) : OW (ex C (.ite c s t) ρ M) e := by
  simp only [ex]
  refine ow_ofR (h.mono (fun b M h => ?_) fun _ _ h => h)
  cases b with
  | true => exact h.1 rfl
  | false => exact h.2 rfl
theorem s_ret (h : RW (ev C a ρ M) (fun d M => e.rt d M) fun c M => e.xc c ρ M) : OW (ex C (.ret a) ρ M) e := by
  simp only [ex]
  exact ow_ofR h
theorem s_retF (h : RW (ev C a ρ M) (fun d M => e.rt d M) fun c M => e.xc c ρ M) : OW (ex C (.retF a) ρ M) e := by
  simp only [ex]
  exact ow_ofR h
theorem s_cont (h : e.ct ρ M) : OW (ex C .cont ρ M) e := by
  simp only [ex]; exact h
theorem s_frz (q : ρ[i]? = some (.ow d)) (h : OW (ex C s (ρ.set i (.sh d)) M) e) : OW (ex C (.frzB i s) ρ M) e := by
  simp only [ex, q]; exact h
theorem s_app {ds : List D} (q : ρ[i]? = some (.ow (.lst ds))) (h : RW (ev C a ρ M) (fun d M => ds.length < LIM ∧ e.nx (ρ.set i (.ow (.lst (ds ++ [d])))) M) fun c M => e.xc c ρ M) : OW (ex C (.app i a) ρ M) e := by
  simp only [ex, q]
  refine ow_ofR (h.mono (fun d M h => ?_) fun _ _ h => h)
  rw [if_pos h.1]; exact h.2
theorem s_setiD {kvs : List (Key × D)} (q : ρ[i]? = some (.ow (.dic kvs)))
    (h : RW (ev C a ρ M) (fun d M => RW (ev C k ρ M) (fun y M => PW (keyOf y) fun x => kvs.length < LIM ∧ e.nx (ρ.set i (.ow (.dic (setK kvs x d)))) M) fun c M => e.xc c ρ M) fun c M => e.xc c ρ M) : OW (ex C (.seti i k a) ρ M) e := by
  simp only [ex]
  refine ow_ofR (h.mono (fun d M h => ?_) fun _ _ h => h)
  rw [q]
  refine ow_ofR (h.mono (fun y M h => ?_) fun _ _ h => h)
  generalize keyOf y = o at h ⊢
  cases o with
  | none => exact h
  | some x =>
    show OW (if _ then _ else _) _
    rw [if_pos h.1]; exact h.2
theorem s_setiL {ds : List D} (q : ρ[i]? = some (.ow (.lst ds)))
    (h : RW (ev C a ρ M) (fun d M => RW (ev C k ρ M) (fun y M => ∃ (j : Int), y = .int j ∧ PW (ixN ds.length j) fun n => e.nx (ρ.set i (.ow (.lst (ds.set n d)))) M) fun c M => e.xc c ρ M) fun c M => e.xc c ρ M) : OW (ex C (.seti i k a) ρ M) e := by
  simp only [ex]
  refine ow_ofR (h.mono (fun d M h => ?_) fun _ _ h => h)
  rw [q]
  refine ow_ofR (h.mono (fun y M h => ?_) fun _ _ h => h)
  obtain ⟨j, rfl, h⟩ := h
  generalize hq : ixN ds.length j = o at h
  cases o with
  | none => exact h.elim
  | some x =>
    show OW (match ixN ds.length j with | some j => _ | none => _) _
    rw [hq]; exact h
/-- writing to a handle's list -/
theorem s_happ {n : Nat} {h' : E} (h : RW (ev C h' ρ M) (fun x M => x = .hnd n ∧ (∃ ds, M[n]? = some (.lst ds)) ∧ RW (ev C a ρ M) (fun d M => ∃ ds, M[n]? = some (.lst ds) ∧ ds.length < LIM ∧ e.nx ρ (M.set n (.lst (ds ++ [d])))) fun c M => e.xc c ρ M) fun c M => e.xc c ρ M) :
    OW (ex C (.happ h' a) ρ M) e := by
  simp only [ex]
  refine ow_ofR (h.mono (fun x M h => ?_) fun _ _ h => h)
  obtain ⟨rfl, ⟨ds, q⟩, h⟩ := h
  simp only [dr, q]
  refine ow_ofR (h.mono (fun d M h => ?_) fun _ _ h => h)
  obtain ⟨ds', q', h1, h2⟩ := h
  simp only [q']
  rw [if_pos h1]; exact h2
/-! loops -/
theorem forL_inv {b : D → Rho → Store → Out} (I : Nat → Rho → Store → Prop) (ds : List D) (h0 : I 0 ρ M)
    (hs : ∀ (i : Nat) (h : i < ds.length) (ρ : Rho) (M : Store), I i ρ M → OW (b ds[i] ρ M) ⟨I (i + 1), I (i + 1), e.rt, e.xc⟩)
    (he : ∀ ρ M, I ds.length ρ M → e.nx ρ M) : OW (forL b ds ρ M) e := by
  suffices H : ∀ (k : Nat) (ρ : Rho) (M : Store), k ≤ ds.length → I k ρ M → OW (forL b (ds.drop k) ρ M) e by
    have := H 0 ρ M (Nat.zero_le _) h0
    rwa [List.drop_zero] at this
  intro k
  induction hk : ds.length - k generalizing k with
  | zero =>
    intro ρ M h1 h
    have e' : k = ds.length := by omega
    subst e'
    rw [List.drop_length]
    exact he ρ M h
  | succ n ih =>
    intro ρ M h1 h
    have hl : k < ds.length := by omega
    rw [List.drop_eq_getElem_cons hl]
    have := hs k hl ρ M h
    unfold forL
    cases q : b ds[k] ρ M with
    | nx ρ' M' => rw [q] at this; exact ih (k + 1) (by omega) ρ' M' (by omega) this
    | ct ρ' M' => rw [q] at this; exact ih (k + 1) (by omega) ρ' M' (by omega) this
    | ret d M => rw [q] at this; exact this
    | exc c ρ M => rw [q] at this; exact this
    | fail => rw [q] at this; exact this
def stepF (C : Nat → List D → Store → Res D) (tg : List Nat) (tt : Bool) (s : S) (d : D) (ρ : Rho) (M : Store) : Out := match bindT tg tt ρ d with
  | some ρ => ex C s ρ M
  | none => .fail
theorem s_for {tg : List Nat} {tt : Bool} {it : E} (h : RW (evI C it ρ M) (fun ds M => OW (forL (stepF C tg tt s) ds ρ M) e) fun c M => e.xc c ρ M) : OW (ex C (.for tg tt it s) ρ M) e := by
  simp only [ex]
  exact ow_ofR h
theorem s_step {tg : List Nat} {tt : Bool} (q : bindT tg tt ρ d = some ρ1) (h : OW (ex C s ρ1 M) e) : OW (stepF C tg tt s d ρ M) e := by
  unfold stepF
  rw [q]; exact h
theorem whileL_inv {cf : Rho → Store → Res Bool} {b : Rho → Store → Out} (I : Nat → Rho → Store → Prop) (n : Nat) (hn : n ≤ WF) (h0 : I n ρ M)
    (hs : ∀ (m : Nat) (ρ : Rho) (M : Store), I m ρ M → RW (cf ρ M) (fun t M => (t = true → ∃ m', m = m' + 1 ∧ OW (b ρ M) ⟨I m', I m', e.rt, e.xc⟩) ∧ (t = false → e.nx ρ M)) fun c M => e.xc c ρ M) (hp : 0 < n) : True := trivial
def bodyF (fn : Fn) (ds : List D) : Rho := entry fn ds
theorem run_w {P : List Fn} {k f : Nat} {fn : Fn} {ds : List D} {Q : D → Store → Prop} {X : Nat → Store → Prop} (hf : P[f]? = some fn) (hl : ds.length = fn.np)
    (h : OW (ex (run P k) fn.body (entry fn ds) M) ⟨fun _ M => fn.own = false ∧ Q .non M, fun _ _ => False, Q, fun c _ M => X c M⟩) : RW (run P (k + 1) f ds M) Q X := by
  unfold run
  rw [hf]
  dsimp only
  rw [if_pos hl]
  generalize ex (run P k) fn.body (entry fn ds) M = o at h
  cases o with
  | nx ρ M =>
    obtain ⟨h1, h2⟩ := h
    rw [h1]; exact h2
  | ct ρ M => exact h.elim
  | ret d M => exact h
  | exc c ρ M => exact h
  | fail => exact h
end
end Pv.Wp
namespace Pv.Wp
open PySem L2 Pv
section
variable {i j : Int} {k : D → Prop} {kb : Bool → Prop} {x y : Str} {ds es : List D} {b c : Bool} {M : Store}
theorem p_add (h : k (.int (i + j))) : PW (binD .add (.int i) (.int j)) k := h
theorem p_sub (h : k (.int (i - j))) : PW (binD .sub (.int i) (.int j)) k := h
theorem p_mul (hs : (-(2 ^ 64) < i ∧ i < 2 ^ 64) ∨ (-(2 ^ 64) < j ∧ j < 2 ^ 64)) (h : k (.int (i * j))) : PW (binD .mul (.int i) (.int j)) k := by
  have e : (smallI i || smallI j) = true := by
    unfold smallI
    simpa using hs
  show PW (if _ then _ else _) k
  rw [if_pos e]; exact h
theorem p_fdiv (h0 : 0 < j) (h1 : j < 1073741824) (h : k (.int (i / j))) : PW (binD .fdiv (.int i) (.int j)) k := by
  show PW (if _ then _ else _) k
  rw [if_pos ⟨h0, h1⟩]; exact h
theorem p_mod (h0 : 0 < j) (h : k (.int (i % j))) : PW (binD .mod (.int i) (.int j)) k := by
  show PW (if _ then _ else _) k
  rw [if_pos h0]; exact h
theorem p_addT (h0 : ds.length + es.length ≤ LIM) (h : k (.tup (ds ++ es))) : PW (binD .add (.tup ds) (.tup es)) k := by
  show PW (if _ then _ else _) k
  rw [if_pos h0]; exact h
theorem p_addL (h0 : ds.length + es.length ≤ LIM) (h : k (.lst (ds ++ es))) : PW (binD .add (.lst ds) (.lst es)) k := by
  show PW (if _ then _ else _) k
  rw [if_pos h0]; exact h
theorem p_lt (h : kb (decide (i < j))) : PW (cmpD .lt (.int i) (.int j)) kb := h
theorem p_le (h : kb (decide (i ≤ j))) : PW (cmpD .le (.int i) (.int j)) kb := h
theorem p_gt (h : kb (decide (j < i))) : PW (cmpD .gt (.int i) (.int j)) kb := h
theorem p_ge (h : kb (decide (j ≤ i))) : PW (cmpD .ge (.int i) (.int j)) kb := h
theorem p_eq (h : kb (decide (i = j))) : PW (cmpD .eq (.int i) (.int j)) kb := by
  show kb (i == j)
  rwa [show (i == j) = decide (i = j) from by by_cases q : i = j <;> simp [q]]
theorem p_ne (h : kb (!decide (i = j))) : PW (cmpD .ne (.int i) (.int j)) kb := by
  show kb (!(i == j))
  rwa [show (i == j) = decide (i = j) from by by_cases q : i = j <;> simp [q]]
theorem p_eqB (h : kb (b == c)) : PW (cmpD .eq (.bl b) (.bl c)) kb := h
theorem p_neB (h : kb (!(b == c))) : PW (cmpD .ne (.bl b) (.bl c)) kb := h
theorem p_tBl (h : kb b) : PW (truD (dr M (.bl b))) kb := h
theorem p_tInt (h : kb (i != 0)) : PW (truD (dr M (.int i))) kb := h
theorem p_tNon (h : kb false) : PW (truD (dr M .non)) kb := h
theorem p_tScr (h : kb (!ds.isEmpty)) : PW (truD (dr M (.scr ds))) kb := h
theorem p_tLst (h : kb (!ds.isEmpty)) : PW (truD (dr M (.lst ds))) kb := h
theorem p_tTup (h : kb (!ds.isEmpty)) : PW (truD (dr M (.tup ds))) kb := h
theorem p_lenS (h : k (.int ds.length)) : PW (fn1D .len (dr M (.scr ds))) k := h
theorem p_lenL (h : k (.int ds.length)) : PW (fn1D .len (dr M (.lst ds))) k := h
theorem p_lenT (h : k (.int ds.length)) : PW (fn1D .len (dr M (.tup ds))) k := h
theorem p_lenX (h : k (.int x.length)) : PW (fn1D .len (dr M (.str x))) k := h
theorem p_lenH {n : Nat} (e : M[n]? = some (.lst ds)) (h : k (.int ds.length)) : PW (fn1D .len (dr M (.hnd n))) k := by
  have q : dr M (.hnd n) = .lst ds := by simp only [dr, e]
  rw [q]; exact h
theorem p_abs (h : k (.int (if i < 0 then -i else i))) : PW (fn1D .abs (dr M (.int i))) k := h
theorem p_max2 (h : k (.int (if j > i then j else i))) : PW (fn2D .max (.int i) (.int j)) k := h
theorem p_min2 (h : k (.int (if j < i then j else i))) : PW (fn2D .min (.int i) (.int j)) k := h
theorem p_idxS (h : PW (atI ds i) k) : PW (idxD (dr M (.scr ds)) (.int i)) k := h
theorem p_idxL (h : PW (atI ds i) k) : PW (idxD (dr M (.lst ds)) (.int i)) k := h
theorem p_idxT (h : PW (atI ds i) k) : PW (idxD (dr M (.tup ds)) (.int i)) k := h
theorem p_set {ρ : Rho} {d : D} {n : Nat} {kr : Rho → Prop} (hi : n < ρ.length) (h : kr (ρ.set n (.sh d))) : PW (bindT [n] false ρ d) kr := by
  unfold bindT setS
  dsimp only
  rw [if_pos hi]; exact h
theorem p_itL {kl : List D → Prop} (h : kl ds) : PW (itemsD (.lst ds)) kl := h
theorem p_itT {kl : List D → Prop} (h : kl ds) : PW (itemsD (.tup ds)) kl := h
theorem p_itS {kl : List D → Prop} (h : kl ds) : PW (itemsD (.scr ds)) kl := h
theorem p_range {kl : List D → Prop} (h0 : -4611686018427387904 ≤ i ∧ i < 4611686018427387904 ∧ -4611686018427387904 ≤ j ∧ j < 4611686018427387904 ∧ j - i ≤ 16777216) (h : kl (rangeL i (j - i).toNat)) : PW (rangeD (.int i) (.int j)) kl := by
  show PW (if _ then _ else _) kl
  have e : ((LIM : Nat) : Int) = 16777216 := rfl
  rw [if_pos ⟨by omega, by omega, by omega, by omega, by omega⟩]; exact h
theorem rangeL_len {n : Nat} : (rangeL i n).length = n := by
  simp [rangeL]
theorem rangeL_get {n m : Nat} (h : m < (rangeL i n).length) : (rangeL i n)[m] = .int (i + m) := by
  simp [rangeL]
end
end Pv.Wp
namespace Pv.Wp
open PySem L2 Pv
def shAt (o : Option Slot) (k : D → Prop) : Prop := match o with
  | some (.sh d) => k d
  | _ => False
def owAt (o : Option Slot) (k : D → Prop) : Prop := match o with
  | some (.ow d) => k d
  | _ => False
section
variable {C : Nat → List D → Store → Res D} {ρ : Rho} {M : Store} {Q : D → Store → Prop} {X : Nat → Store → Prop} {QB : Bool → Store → Prop} {i n : Nat} {d : D} {k : D → Prop} {s : Slot} {l : List Slot}
theorem g_zero (h : k d) : shAt ((Slot.sh d :: l)[0]?) k := h
theorem g_succ (h : shAt (l[n]?) k) : shAt ((s :: l)[n + 1]?) k := h
theorem o_zero (h : k d) : owAt ((Slot.ow d :: l)[0]?) k := h
theorem o_succ (h : owAt (l[n]?) k) : owAt ((s :: l)[n + 1]?) k := h
theorem shAt.ex {o : Option Slot} (h : shAt o k) : ∃ d, o = some (.sh d) ∧ k d := by
  cases o with
  | none => exact h.elim
  | some s => cases s with
    | sh d => exact ⟨d, rfl, h⟩
    | no => exact h.elim
    | ow d => exact h.elim
theorem owAt.ex {o : Option Slot} (h : owAt o k) : ∃ d, o = some (.ow d) ∧ k d := by
  cases o with
  | none => exact h.elim
  | some s => cases s with
    | ow d => exact ⟨d, rfl, h⟩
    | no => exact h.elim
    | sh d => exact h.elim
theorem v_var (h : shAt ρ[i]? fun d => Q d M) : RW (ev C (.var i) ρ M) Q X := by
  obtain ⟨d, e, h⟩ := h.ex
  exact w_var e h
theorem v_peek (h : owAt ρ[i]? fun d => Q d M) : RW (ev C (.peek i) ρ M) Q X := by
  obtain ⟨d, e, h⟩ := h.ex
  exact w_peek e h
theorem v_move (h : owAt ρ[i]? fun d => Q d M) : RW (ev C (.move i) ρ M) Q X := by
  obtain ⟨d, e, h⟩ := h.ex
  exact w_move e h
theorem u_var (h : shAt ρ[i]? fun d => PW (truD (dr M d)) fun t => QB t M) : RW (evT C (.var i) ρ M) QB X := by
  obtain ⟨d, e, h⟩ := h.ex
  exact t_var e h
theorem u_peek (h : owAt ρ[i]? fun d => PW (truD (dr M d)) fun t => QB t M) : RW (evT C (.peek i) ρ M) QB X := by
  obtain ⟨d, e, h⟩ := h.ex
  exact t_peek e h
def hAt (o : Option D) (k : List D → Prop) : Prop := match o with
  | some (.lst ds) => k ds
  | _ => False
theorem h_zero {ds : List D} {k : List D → Prop} {M : List D} (h : k ds) : hAt ((D.lst ds :: M)[0]?) k := h
theorem h_succ {k : List D → Prop} {M : List D} {x : D} (h : hAt (M[n]?) k) : hAt ((x :: M)[n + 1]?) k := h
theorem v_lenH {n : Nat} (h : hAt M[n]? fun ds => k (.int ds.length)) : PW (fn1D .len (dr M (.hnd n))) k := by
  cases e : M[n]? with
  | none => rw [e] at h; exact h.elim
  | some x =>
    rw [e] at h
    cases x with
    | lst ds => exact p_lenH e h
    | _ => exact h.elim
end
end Pv.Wp
namespace Pv.Wp
open PySem L2 Pv
theorem len_ok {ds : List D} {P : Prop} (h1 : Nat.ble ds.length LIM = true) (h2 : P) : ds.length ≤ LIM ∧ P := ⟨Nat.le_of_ble_eq_true h1, h2⟩
theorem set_len {i : Nat} {ρ : Rho} {P : Prop} (h1 : Nat.ble (i + 1) ρ.length = true) (h2 : P) : i < ρ.length ∧ P := ⟨Nat.le_of_ble_eq_true h1, h2⟩
end Pv.Wp
namespace Pv.Wp
theorem br_t {A B : Prop} (h : A) : (true = true → A) ∧ (true = false → B) := ⟨fun _ => h, fun z => Bool.noConfusion z⟩
theorem br_f {A B : Prop} (h : B) : (false = true → A) ∧ (false = false → B) := ⟨fun z => Bool.noConfusion z, fun _ => h⟩
theorem br_nt {A B : Prop} (h : B) : ((!true) = true → A) ∧ ((!true) = false → B) := ⟨fun z => Bool.noConfusion z, fun _ => h⟩
theorem br_nf {A B : Prop} (h : A) : ((!false) = true → A) ∧ ((!false) = false → B) := ⟨fun _ => h, fun z => Bool.noConfusion z⟩
end Pv.Wp
namespace Pv.Wp
open PySem L2 Pv
theorem q_abs {i : Int} {k : D → Prop} {M : Store} (h : ∀ n : Int, (0 ≤ i → n = i) → (i < 0 → n = -i) → k (.int n)) : PW (fn1D .abs (dr M (.int i))) k := by
  refine h (if i < 0 then -i else i) (fun q => if_neg (by omega)) fun q => if_pos q
theorem q_count2 {P R : Prop} [Decidable P] [Decidable R] {k : D → Prop} (h : ∀ n : Int, (P → R → n = 2) → (P → ¬R → n = 1) → (¬P → R → n = 1) → (¬P → ¬R → n = 0) → k (.int n)) :
    PW (meth1D .count (.lst [.bl (decide P), .bl (decide R)]) (.bl true)) k := by
  refine pw_eq (a := .int (Int.ofNat ([D.bl (decide P), .bl (decide R)].countP fun y => eqD y (.bl true)))) rfl (h _ ?_ ?_ ?_ ?_) <;> intro a b <;> simp [a, b, eqD]
end Pv.Wp

set_option Elab.async false
set_option linter.all false
set_option maxRecDepth 100000
set_option maxHeartbeats 0
namespace Pv
open PySem L2
abbrev top (i : Nat) : Stmt := PySem.Challenge.pw_standsend_k21_whole_numbers_on_a_ring.main.body.getD i (.Pass ⟨0, 0, 0, 0⟩)
def g_number_of : Fn := ⟨"number_of", 1, ["tick"], false, (.seq (.ret (.bin .mod (.var 0) (.glob "ROUND" 64)))
  .skip)⟩
def g_ahead : Fn := ⟨"ahead", 2, ["one", "other"], false, (.seq (.ret (.bin .sub (.bin .mod (.bin .add (.bin .sub (.var 0) (.var 1)) (.glob "HALF" 32)) (.glob "ROUND" 64)) (.glob "HALF" 32)))
  .skip)⟩
def g_is_newer : Fn := ⟨"is_newer", 2, ["one", "other"], false, (.seq (.ret (.cmp .gt (.call 1 (.cons (.var 0) (.cons (.var 1) .nil))) (.int 0)))
  .skip)⟩
def g_tick_near : Fn := ⟨"tick_near", 2, ["tick", "number"], false, (.seq (.ret (.bin .add (.var 0) (.call 1 (.cons (.var 1) (.cons (.call 0 (.cons (.var 0) .nil)) .nil)))))
  .skip)⟩
def g__law_draw : Fn := ⟨"_law_draw", 3, ["_law_script", "_law_town", "_law_many", "_law_k", "_law_cell", "_law_number", "_law_more"], false, (.seq (.happ (.var 1) (.int 0))
  (.seq (.asg [3] false (.fn1 .len (.var 1)))
  (.seq (.asg [4] false (.int 0))
  (.seq (.ite (.var 0) (.seq (.asg [4] false (.idx (.var 0) (.bin .mod (.var 3) (.fn1 .len (.var 0)))))
  .skip) .skip)
  (.seq (.asg [5] false (.bin .mod (.bin .add (.var 4) (.bin .mul (.int 104729) (.var 3))) (.int 4294967291)))
  (.seq (.asg [5] false (.bin .mod (.bin .mul (.bin .mod (.bin .mul (.var 5) (.var 5)) (.int 4294967279)) (.int 48271)) (.int 4294967291)))
  (.seq (.asg [6] false (.bin .mod (.bin .mul (.bin .mod (.bin .mul (.var 5) (.var 5)) (.int 4294967279)) (.int 69621)) (.int 4294967291)))
  (.seq (.ret (.bin .mod (.bin .add (.bin .mul (.bin .fdiv (.var 5) (.int 64)) (.int 67108864)) (.bin .fdiv (.var 6) (.int 64))) (.var 2)))
  .skip))))))))⟩
def g__law_pick : Fn := ⟨"_law_pick", 3, ["_law_script", "_law_town", "_law_some"], false, (.seq (.ret (.idx (.var 2) (.call 4 (.cons (.var 0) (.cons (.var 1) (.cons (.fn1 .len (.var 2)) .nil))))))
  .skip)⟩
def g_law : Fn := ⟨"law", 1, ["_law_script", "_law_town", "_law_k", "_law_tick", "_law_one", "_law_other", "_law_third", "_law_j", "_law_by", "_law_number", "_law_newer"], false, (.seq (.hnew 1 (.lst .nil))
  (.seq (.for [2] false (.itRange1 (.int 12)) (.seq (.asg [3] false (.bin .sub (.call 4 (.cons (.var 0) (.cons (.var 1) (.cons (.call 5 (.cons (.var 0) (.cons (.var 1) (.cons (.lst (.cons (.int 5) (.cons (.int 70) (.cons (.int 9000) .nil)))) .nil)))) .nil)))) (.call 5 (.cons (.var 0) (.cons (.var 1) (.cons (.lst (.cons (.int 0) (.cons (.int 0) (.cons (.int 40) .nil)))) .nil))))))
  (.seq (.asg [4, 5, 6] true (.comp [7] false (.itRange1 (.int 3)) .nil (.call 4 (.cons (.var 0) (.cons (.var 1) (.cons (.int 64) .nil)))) [7]))
  (.seq (.for [8] false (.itRange (.neg (.int 32)) (.int 32)) (.seq (.asg [9] false (.call 0 (.cons (.bin .add (.var 3) (.var 8)) .nil)))
  (.seq (.ite (.or (.cons (.not (.cmp2 .le .lt (.int 0) (.var 9) (.int 64))) (.cons (.cmp .ne (.call 3 (.cons (.var 3) (.cons (.var 9) .nil))) (.bin .add (.var 3) (.var 8))) (.cons (.cmp .ne (.call 1 (.cons (.var 9) (.cons (.call 0 (.cons (.var 3) .nil)) .nil))) (.var 8)) .nil)))) (.seq (.ret (.bl false))
  .skip) .skip)
  (.seq (.ite (.cmp .ne (.call 2 (.cons (.var 9) (.cons (.call 0 (.cons (.var 3) .nil)) .nil))) (.cmp .gt (.var 8) (.int 0))) (.seq (.ret (.bl false))
  .skip) .skip)
  .skip))))
  (.seq (.ite (.or (.cons (.cmp .ne (.call 0 (.cons (.bin .add (.var 3) (.int 64)) .nil)) (.call 0 (.cons (.var 3) .nil))) (.cons (.cmp .ne (.call 3 (.cons (.bin .add (.var 3) (.int 64)) (.cons (.var 4) .nil))) (.bin .add (.call 3 (.cons (.var 3) (.cons (.var 4) .nil))) (.int 64))) .nil))) (.seq (.ret (.bl false))
  .skip) .skip)
  (.seq (.ite (.or (.cons (.cmp .ne (.call 0 (.cons (.call 3 (.cons (.var 3) (.cons (.var 4) .nil))) .nil)) (.var 4)) (.cons (.not (.cmp2 .le .le (.neg (.int 32)) (.bin .sub (.call 3 (.cons (.var 3) (.cons (.var 4) .nil))) (.var 3)) (.int 31))) .nil))) (.seq (.ret (.bl false))
  .skip) .skip)
  (.seq (.ite (.cmp .ne (.call 1 (.cons (.var 4) (.cons (.var 5) .nil))) (.ite (.cmp .eq (.call 1 (.cons (.var 5) (.cons (.var 4) .nil))) (.neg (.int 32))) (.neg (.int 32)) (.bin .sub (.int 0) (.call 1 (.cons (.var 5) (.cons (.var 4) .nil)))))) (.seq (.ret (.bl false))
  .skip) .skip)
  (.seq (.ite (.or (.cons (.cmp .ne (.bin .mod (.bin .sub (.bin .add (.call 1 (.cons (.var 4) (.cons (.var 5) .nil))) (.call 1 (.cons (.var 5) (.cons (.var 6) .nil)))) (.call 1 (.cons (.var 4) (.cons (.var 6) .nil)))) (.int 64)) (.int 0)) (.cons (.cmp .ne (.call 1 (.cons (.var 4) (.cons (.var 4) .nil))) (.int 0)) .nil))) (.seq (.ret (.bl false))
  .skip) .skip)
  (.seq (.ite (.cmp .ne (.var 4) (.var 5)) (.seq (.asg [10] false (.lst (.cons (.call 2 (.cons (.var 4) (.cons (.var 5) .nil))) (.cons (.call 2 (.cons (.var 5) (.cons (.var 4) .nil))) .nil))))
  (.seq (.ite (.cmp .ne (.meth1 .count (.var 10) (.bl true)) (.ite (.cmp .eq (.fn1 .abs (.call 1 (.cons (.var 4) (.cons (.var 5) .nil)))) (.int 32)) (.int 0) (.int 1))) (.seq (.ret (.bl false))
  .skip) .skip)
  .skip)) .skip)
  (.seq (.ite (.or (.cons (.call 2 (.cons (.var 4) (.cons (.var 4) .nil))) (.cons (.not (.call 2 (.cons (.bin .mod (.bin .add (.var 4) (.int 1)) (.int 64)) (.cons (.var 4) .nil)))) (.cons (.cmp .ne (.call 1 (.cons (.bin .mod (.bin .add (.var 4) (.int 1)) (.int 64)) (.cons (.var 4) .nil))) (.int 1)) .nil)))) (.seq (.ret (.bl false))
  .skip) .skip)
  .skip))))))))))
  (.seq (.ret (.bl true))
  .skip)))⟩
abbrev i_number_of : Nat := 0
abbrev i_ahead : Nat := 1
abbrev i_is_newer : Nat := 2
abbrev i_tick_near : Nat := 3
abbrev i__law_draw : Nat := 4
abbrev i__law_pick : Nat := 5
abbrev i_law : Nat := 6
def its : List Item := [⟨g_number_of, top 3, ["tick"]⟩, ⟨g_ahead, top 4, ["one", "other"]⟩, ⟨g_is_newer, top 5, ["one", "other"]⟩, ⟨g_tick_near, top 6, ["tick", "number"]⟩, ⟨g__law_draw, top 8, ["_law_script", "_law_town", "_law_many"]⟩, ⟨g__law_pick, top 9, ["_law_script", "_law_town", "_law_some"]⟩, ⟨g_law, top 10, ["_law_script"]⟩]
def prg : List Fn := [g_number_of, g_ahead, g_is_newer, g_tick_near, g__law_draw, g__law_pick, g_law]
def gis : List (Str × Int) := [("ROUND", 64), ("HALF", 32)]
theorem ok_number_of : ItemOk prg gis ⟨g_number_of, top 3, ["tick"]⟩ := ⟨⟨rfl, rfl, rfl, by decide +kernel, rfl, by decide +kernel, by decide +kernel⟩, rfl, by decide +kernel, fun _ _ _ _ _ _ us hl => match us, hl with | [_], _ => rfl⟩
theorem ok_ahead : ItemOk prg gis ⟨g_ahead, top 4, ["one", "other"]⟩ := ⟨⟨rfl, rfl, rfl, by decide +kernel, rfl, by decide +kernel, by decide +kernel⟩, rfl, by decide +kernel, fun _ _ _ _ _ _ us hl => match us, hl with | [_, _], _ => rfl⟩
theorem ok_is_newer : ItemOk prg gis ⟨g_is_newer, top 5, ["one", "other"]⟩ := ⟨⟨rfl, rfl, rfl, by decide +kernel, rfl, by decide +kernel, by decide +kernel⟩, rfl, by decide +kernel, fun _ _ _ _ _ _ us hl => match us, hl with | [_, _], _ => rfl⟩
theorem ok_tick_near : ItemOk prg gis ⟨g_tick_near, top 6, ["tick", "number"]⟩ := ⟨⟨rfl, rfl, rfl, by decide +kernel, rfl, by decide +kernel, by decide +kernel⟩, rfl, by decide +kernel, fun _ _ _ _ _ _ us hl => match us, hl with | [_, _], _ => rfl⟩
theorem ok__law_draw : ItemOk prg gis ⟨g__law_draw, top 8, ["_law_script", "_law_town", "_law_many"]⟩ := ⟨⟨rfl, rfl, rfl, by decide +kernel, rfl, by decide +kernel, by decide +kernel⟩, rfl, by decide +kernel, fun _ _ _ _ _ _ us hl => match us, hl with | [_, _, _], _ => rfl⟩
theorem ok__law_pick : ItemOk prg gis ⟨g__law_pick, top 9, ["_law_script", "_law_town", "_law_some"]⟩ := ⟨⟨rfl, rfl, rfl, by decide +kernel, rfl, by decide +kernel, by decide +kernel⟩, rfl, by decide +kernel, fun _ _ _ _ _ _ us hl => match us, hl with | [_, _, _], _ => rfl⟩
theorem ok_law : ItemOk prg gis ⟨g_law, top 10, ["_law_script"]⟩ := ⟨⟨rfl, rfl, rfl, by decide +kernel, rfl, by decide +kernel, by decide +kernel⟩, rfl, by decide +kernel, fun _ _ _ _ _ _ us hl => match us, hl with | [_], _ => rfl⟩
theorem its_ok : AllOk (its.map (·.fn)) gis its := ⟨ok_number_of, ok_ahead, ok_is_newer, ok_tick_near, ok__law_draw, ok__law_pick, ok_law, trivial⟩
end Pv


set_option Elab.async false
set_option linter.all false
set_option maxRecDepth 100000
set_option maxHeartbeats 4000000
namespace Pv
open PySem L2 Wp
/-! drawing -/
def twn (n : Nat) : Store := [.lst (List.replicate n (.int 0))]
theorem twn_succ (n : Nat) : twn (n + 1) = [.lst (List.replicate n (.int 0) ++ [.int 0])] := by
  unfold twn; rw [List.replicate_succ']
theorem pw_cell {ns : List Int} {i : Int} {k : D → Prop} (h0 : 0 ≤ i) (h1 : i < ns.length) (h : ∀ y, k (.int y)) : PW (atI (ns.map D.int) i) k := by
  have hn : i.toNat < ns.length := by omega
  have e : atI (ns.map D.int) i = some (.int ns[i.toNat]) := by
    unfold atI ixN
    rw [if_pos h0, if_pos (by simpa using h1)]
    show (ns.map D.int)[i.toNat]? = _
    rw [List.getElem?_map, List.getElem?_eq_getElem hn]; rfl
  exact Wp.pw_eq e (h _)
theorem r_draw {k n : Nat} {ns : List Int} {m : Int} {Q : D → Store → Prop} {X : Nat → Store → Prop} (hm : 0 < m) (hn : n < 16777216) (h : ∀ x : Int, 0 ≤ x → x < m → Q (.int x) (twn (n + 1))) : RW (run prg (k + 1) i__law_draw [.scr (ns.map .int), .hnd 0, .int m] (twn n)) Q X := by
  rw [twn_succ] at h
  refine Wp.run_w (fn := g__law_draw) rfl rfl ?_
  show OW (ex _ _ [.sh (.scr (ns.map .int)), .sh (.hnd 0), .sh (.int m), .no, .no, .no, .no] _) _
  dsimp only [g__law_draw]
  refine Wp.s_seq (Wp.s_happ (n := 0) ?_)
  repeat' (first | with_reducible refine Wp.w_int ?_ | with_reducible refine Wp.v_var ?_ | with_reducible refine Wp.g_zero ?_ | with_reducible refine Wp.g_succ ?_ | with_reducible refine Wp.w_glob ?_ | with_reducible refine Wp.w_bin ?_ | with_reducible refine Wp.w_call ?_ | with_reducible refine Wp.w_fcall ?_ | with_reducible refine Wp.w_cons ?_ | with_reducible refine Wp.w_nil ?_ | with_reducible refine Wp.w_str ?_ | with_reducible refine Wp.w_bl ?_ | with_reducible refine Wp.w_non ?_ | with_reducible refine Wp.v_peek ?_ | with_reducible refine Wp.v_move ?_ | with_reducible refine Wp.o_zero ?_ | with_reducible refine Wp.o_succ ?_ | with_reducible refine Wp.w_negI ?_ | with_reducible refine Wp.w_neg ?_ | with_reducible refine Wp.w_cmp ?_ | with_reducible refine Wp.w_not ?_ | with_reducible refine Wp.w_ite ?_ | with_reducible refine Wp.w_tup ?_ | with_reducible refine Wp.w_lst ?_ | with_reducible refine Wp.w_idx ?_ | with_reducible refine Wp.w_slice ?_ | with_reducible refine Wp.w_oNil ?_ | with_reducible refine Wp.w_oCons ?_ | with_reducible refine Wp.w_fn1 ?_ | with_reducible refine Wp.w_fn2 ?_ | with_reducible refine Wp.w_meth1 ?_ | with_reducible refine Wp.w_get2 ?_ | with_reducible refine Wp.w_isi ?_ | with_reducible refine Wp.w_ff ?_ | with_reducible refine Wp.w_dic0 ?_ | with_reducible refine Wp.w_cmp2 ?_ | with_reducible refine Wp.w_and ?_ | with_reducible refine Wp.w_or ?_ | with_reducible refine Wp.w_andL ?_ | with_reducible refine Wp.w_orL ?_ | with_reducible refine Wp.w_andC ?_ | with_reducible refine Wp.w_orC ?_ | with_reducible refine Wp.t_and ?_ | with_reducible refine Wp.t_or ?_ | with_reducible refine Wp.t_andN ?_ | with_reducible refine Wp.t_orN ?_ | with_reducible refine Wp.t_andC ?_ | with_reducible refine Wp.t_orC ?_ | with_reducible refine Wp.t_not ?_ | with_reducible refine Wp.t_cmp ?_ | with_reducible refine Wp.t_cmp2 ?_ | with_reducible refine Wp.u_var ?_ | with_reducible refine Wp.u_peek ?_ | with_reducible refine Wp.t_call ?_ | with_reducible refine Wp.t_idx ?_ | with_reducible refine Wp.t_fn1 ?_ | with_reducible refine Wp.t_isi ?_ | with_reducible refine Wp.t_bl ?_ | with_reducible refine Wp.i_seq ?_ | with_reducible refine Wp.i_range1 ?_ | with_reducible refine Wp.i_range ?_ | with_reducible refine Wp.i_zip ?_ | with_reducible refine Wp.s_for ?_ | with_reducible refine Wp.w_comp ?_ | with_reducible refine Wp.t_comp ?_ | with_reducible refine Wp.s_skip ?_ | with_reducible refine Wp.s_seq ?_ | with_reducible refine Wp.s_asg ?_ | with_reducible refine Wp.s_expr ?_ | with_reducible refine Wp.s_ite ?_ | with_reducible refine Wp.s_ret ?_ | with_reducible refine Wp.s_retF ?_ | with_reducible refine Wp.s_cont ?_ | with_reducible refine Wp.pw_some ?_ | with_reducible refine Wp.p_add ?_ | with_reducible refine Wp.p_sub ?_ | with_reducible refine Wp.p_lt ?_ | with_reducible refine Wp.p_le ?_ | with_reducible refine Wp.p_gt ?_ | with_reducible refine Wp.p_ge ?_ | with_reducible refine Wp.p_eq ?_ | with_reducible refine Wp.p_ne ?_ | with_reducible refine Wp.p_eqB ?_ | with_reducible refine Wp.p_neB ?_ | with_reducible refine Wp.p_tBl ?_ | with_reducible refine Wp.p_tInt ?_ | with_reducible refine Wp.p_tNon ?_ | with_reducible refine Wp.p_tScr ?_ | with_reducible refine Wp.p_tLst ?_ | with_reducible refine Wp.p_tTup ?_ | with_reducible refine Wp.p_lenS ?_ | with_reducible refine Wp.p_lenL ?_ | with_reducible refine Wp.p_lenT ?_ | with_reducible refine Wp.p_lenX ?_ | with_reducible refine Wp.v_lenH ?_ | with_reducible refine Wp.h_zero ?_ | with_reducible refine Wp.h_succ ?_ | with_reducible refine Wp.q_abs fun n _ _ => ?_ | with_reducible refine Wp.q_count2 fun n _ _ _ _ => ?_ | with_reducible refine Wp.p_max2 ?_ | with_reducible refine Wp.p_min2 ?_ | with_reducible refine Wp.p_idxS ?_ | with_reducible refine Wp.p_idxL ?_ | with_reducible refine Wp.p_idxT ?_ | with_reducible refine Wp.p_itL ?_ | with_reducible refine Wp.p_itT ?_ | with_reducible refine Wp.p_itS ?_ | ((with_reducible refine Wp.p_set ?_ ?_); exact of_decide_eq_true rfl; dsimp only [List.set]) | ((with_reducible refine Wp.p_mul ?_ ?_); try omega) | ((with_reducible refine Wp.p_fdiv ?_ ?_ ?_); omega; omega) | ((with_reducible refine Wp.p_mod ?_ ?_); try omega) | ((with_reducible refine Wp.p_range ?_ ?_); omega) | ((with_reducible refine Wp.len_ok ?_ ?_); exact rfl) | ((with_reducible refine Wp.set_len ?_ ?_); exact rfl; dsimp only [List.set]) | with_reducible refine Wp.br_t ?_ | with_reducible refine Wp.br_f ?_ | with_reducible refine Wp.br_nt ?_ | with_reducible refine Wp.br_nf ?_ | with_reducible refine ⟨fun hb => ?_, fun hb => ?_⟩ | dsimp only)
  refine ⟨rfl, ⟨_, rfl⟩, ?_⟩
  repeat' (first | with_reducible refine Wp.w_int ?_ | with_reducible refine Wp.v_var ?_ | with_reducible refine Wp.g_zero ?_ | with_reducible refine Wp.g_succ ?_ | with_reducible refine Wp.w_glob ?_ | with_reducible refine Wp.w_bin ?_ | with_reducible refine Wp.w_call ?_ | with_reducible refine Wp.w_fcall ?_ | with_reducible refine Wp.w_cons ?_ | with_reducible refine Wp.w_nil ?_ | with_reducible refine Wp.w_str ?_ | with_reducible refine Wp.w_bl ?_ | with_reducible refine Wp.w_non ?_ | with_reducible refine Wp.v_peek ?_ | with_reducible refine Wp.v_move ?_ | with_reducible refine Wp.o_zero ?_ | with_reducible refine Wp.o_succ ?_ | with_reducible refine Wp.w_negI ?_ | with_reducible refine Wp.w_neg ?_ | with_reducible refine Wp.w_cmp ?_ | with_reducible refine Wp.w_not ?_ | with_reducible refine Wp.w_ite ?_ | with_reducible refine Wp.w_tup ?_ | with_reducible refine Wp.w_lst ?_ | with_reducible refine Wp.w_idx ?_ | with_reducible refine Wp.w_slice ?_ | with_reducible refine Wp.w_oNil ?_ | with_reducible refine Wp.w_oCons ?_ | with_reducible refine Wp.w_fn1 ?_ | with_reducible refine Wp.w_fn2 ?_ | with_reducible refine Wp.w_meth1 ?_ | with_reducible refine Wp.w_get2 ?_ | with_reducible refine Wp.w_isi ?_ | with_reducible refine Wp.w_ff ?_ | with_reducible refine Wp.w_dic0 ?_ | with_reducible refine Wp.w_cmp2 ?_ | with_reducible refine Wp.w_and ?_ | with_reducible refine Wp.w_or ?_ | with_reducible refine Wp.w_andL ?_ | with_reducible refine Wp.w_orL ?_ | with_reducible refine Wp.w_andC ?_ | with_reducible refine Wp.w_orC ?_ | with_reducible refine Wp.t_and ?_ | with_reducible refine Wp.t_or ?_ | with_reducible refine Wp.t_andN ?_ | with_reducible refine Wp.t_orN ?_ | with_reducible refine Wp.t_andC ?_ | with_reducible refine Wp.t_orC ?_ | with_reducible refine Wp.t_not ?_ | with_reducible refine Wp.t_cmp ?_ | with_reducible refine Wp.t_cmp2 ?_ | with_reducible refine Wp.u_var ?_ | with_reducible refine Wp.u_peek ?_ | with_reducible refine Wp.t_call ?_ | with_reducible refine Wp.t_idx ?_ | with_reducible refine Wp.t_fn1 ?_ | with_reducible refine Wp.t_isi ?_ | with_reducible refine Wp.t_bl ?_ | with_reducible refine Wp.i_seq ?_ | with_reducible refine Wp.i_range1 ?_ | with_reducible refine Wp.i_range ?_ | with_reducible refine Wp.i_zip ?_ | with_reducible refine Wp.s_for ?_ | with_reducible refine Wp.w_comp ?_ | with_reducible refine Wp.t_comp ?_ | with_reducible refine Wp.s_skip ?_ | with_reducible refine Wp.s_seq ?_ | with_reducible refine Wp.s_asg ?_ | with_reducible refine Wp.s_expr ?_ | with_reducible refine Wp.s_ite ?_ | with_reducible refine Wp.s_ret ?_ | with_reducible refine Wp.s_retF ?_ | with_reducible refine Wp.s_cont ?_ | with_reducible refine Wp.pw_some ?_ | with_reducible refine Wp.p_add ?_ | with_reducible refine Wp.p_sub ?_ | with_reducible refine Wp.p_lt ?_ | with_reducible refine Wp.p_le ?_ | with_reducible refine Wp.p_gt ?_ | with_reducible refine Wp.p_ge ?_ | with_reducible refine Wp.p_eq ?_ | with_reducible refine Wp.p_ne ?_ | with_reducible refine Wp.p_eqB ?_ | with_reducible refine Wp.p_neB ?_ | with_reducible refine Wp.p_tBl ?_ | with_reducible refine Wp.p_tInt ?_ | with_reducible refine Wp.p_tNon ?_ | with_reducible refine Wp.p_tScr ?_ | with_reducible refine Wp.p_tLst ?_ | with_reducible refine Wp.p_tTup ?_ | with_reducible refine Wp.p_lenS ?_ | with_reducible refine Wp.p_lenL ?_ | with_reducible refine Wp.p_lenT ?_ | with_reducible refine Wp.p_lenX ?_ | with_reducible refine Wp.v_lenH ?_ | with_reducible refine Wp.h_zero ?_ | with_reducible refine Wp.h_succ ?_ | with_reducible refine Wp.q_abs fun n _ _ => ?_ | with_reducible refine Wp.q_count2 fun n _ _ _ _ => ?_ | with_reducible refine Wp.p_max2 ?_ | with_reducible refine Wp.p_min2 ?_ | with_reducible refine Wp.p_idxS ?_ | with_reducible refine Wp.p_idxL ?_ | with_reducible refine Wp.p_idxT ?_ | with_reducible refine Wp.p_itL ?_ | with_reducible refine Wp.p_itT ?_ | with_reducible refine Wp.p_itS ?_ | ((with_reducible refine Wp.p_set ?_ ?_); exact of_decide_eq_true rfl; dsimp only [List.set]) | ((with_reducible refine Wp.p_mul ?_ ?_); try omega) | ((with_reducible refine Wp.p_fdiv ?_ ?_ ?_); omega; omega) | ((with_reducible refine Wp.p_mod ?_ ?_); try omega) | ((with_reducible refine Wp.p_range ?_ ?_); omega) | ((with_reducible refine Wp.len_ok ?_ ?_); exact rfl) | ((with_reducible refine Wp.set_len ?_ ?_); exact rfl; dsimp only [List.set]) | with_reducible refine Wp.br_t ?_ | with_reducible refine Wp.br_f ?_ | with_reducible refine Wp.br_nt ?_ | with_reducible refine Wp.br_nf ?_ | with_reducible refine ⟨fun hb => ?_, fun hb => ?_⟩ | dsimp only)
  refine ⟨_, rfl, ?_, ?_⟩
  · rw [List.length_replicate]; exact hn
  dsimp only [twn, List.set]
  repeat' (first | with_reducible refine Wp.w_int ?_ | with_reducible refine Wp.v_var ?_ | with_reducible refine Wp.g_zero ?_ | with_reducible refine Wp.g_succ ?_ | with_reducible refine Wp.w_glob ?_ | with_reducible refine Wp.w_bin ?_ | with_reducible refine Wp.w_call ?_ | with_reducible refine Wp.w_fcall ?_ | with_reducible refine Wp.w_cons ?_ | with_reducible refine Wp.w_nil ?_ | with_reducible refine Wp.w_str ?_ | with_reducible refine Wp.w_bl ?_ | with_reducible refine Wp.w_non ?_ | with_reducible refine Wp.v_peek ?_ | with_reducible refine Wp.v_move ?_ | with_reducible refine Wp.o_zero ?_ | with_reducible refine Wp.o_succ ?_ | with_reducible refine Wp.w_negI ?_ | with_reducible refine Wp.w_neg ?_ | with_reducible refine Wp.w_cmp ?_ | with_reducible refine Wp.w_not ?_ | with_reducible refine Wp.w_ite ?_ | with_reducible refine Wp.w_tup ?_ | with_reducible refine Wp.w_lst ?_ | with_reducible refine Wp.w_idx ?_ | with_reducible refine Wp.w_slice ?_ | with_reducible refine Wp.w_oNil ?_ | with_reducible refine Wp.w_oCons ?_ | with_reducible refine Wp.w_fn1 ?_ | with_reducible refine Wp.w_fn2 ?_ | with_reducible refine Wp.w_meth1 ?_ | with_reducible refine Wp.w_get2 ?_ | with_reducible refine Wp.w_isi ?_ | with_reducible refine Wp.w_ff ?_ | with_reducible refine Wp.w_dic0 ?_ | with_reducible refine Wp.w_cmp2 ?_ | with_reducible refine Wp.w_and ?_ | with_reducible refine Wp.w_or ?_ | with_reducible refine Wp.w_andL ?_ | with_reducible refine Wp.w_orL ?_ | with_reducible refine Wp.w_andC ?_ | with_reducible refine Wp.w_orC ?_ | with_reducible refine Wp.t_and ?_ | with_reducible refine Wp.t_or ?_ | with_reducible refine Wp.t_andN ?_ | with_reducible refine Wp.t_orN ?_ | with_reducible refine Wp.t_andC ?_ | with_reducible refine Wp.t_orC ?_ | with_reducible refine Wp.t_not ?_ | with_reducible refine Wp.t_cmp ?_ | with_reducible refine Wp.t_cmp2 ?_ | with_reducible refine Wp.u_var ?_ | with_reducible refine Wp.u_peek ?_ | with_reducible refine Wp.t_call ?_ | with_reducible refine Wp.t_idx ?_ | with_reducible refine Wp.t_fn1 ?_ | with_reducible refine Wp.t_isi ?_ | with_reducible refine Wp.t_bl ?_ | with_reducible refine Wp.i_seq ?_ | with_reducible refine Wp.i_range1 ?_ | with_reducible refine Wp.i_range ?_ | with_reducible refine Wp.i_zip ?_ | with_reducible refine Wp.s_for ?_ | with_reducible refine Wp.w_comp ?_ | with_reducible refine Wp.t_comp ?_ | with_reducible refine Wp.s_skip ?_ | with_reducible refine Wp.s_seq ?_ | with_reducible refine Wp.s_asg ?_ | with_reducible refine Wp.s_expr ?_ | with_reducible refine Wp.s_ite ?_ | with_reducible refine Wp.s_ret ?_ | with_reducible refine Wp.s_retF ?_ | with_reducible refine Wp.s_cont ?_ | with_reducible refine Wp.pw_some ?_ | with_reducible refine Wp.p_add ?_ | with_reducible refine Wp.p_sub ?_ | with_reducible refine Wp.p_lt ?_ | with_reducible refine Wp.p_le ?_ | with_reducible refine Wp.p_gt ?_ | with_reducible refine Wp.p_ge ?_ | with_reducible refine Wp.p_eq ?_ | with_reducible refine Wp.p_ne ?_ | with_reducible refine Wp.p_eqB ?_ | with_reducible refine Wp.p_neB ?_ | with_reducible refine Wp.p_tBl ?_ | with_reducible refine Wp.p_tInt ?_ | with_reducible refine Wp.p_tNon ?_ | with_reducible refine Wp.p_tScr ?_ | with_reducible refine Wp.p_tLst ?_ | with_reducible refine Wp.p_tTup ?_ | with_reducible refine Wp.p_lenS ?_ | with_reducible refine Wp.p_lenL ?_ | with_reducible refine Wp.p_lenT ?_ | with_reducible refine Wp.p_lenX ?_ | with_reducible refine Wp.v_lenH ?_ | with_reducible refine Wp.h_zero ?_ | with_reducible refine Wp.h_succ ?_ | with_reducible refine Wp.q_abs fun n _ _ => ?_ | with_reducible refine Wp.q_count2 fun n _ _ _ _ => ?_ | with_reducible refine Wp.p_max2 ?_ | with_reducible refine Wp.p_min2 ?_ | with_reducible refine Wp.p_idxS ?_ | with_reducible refine Wp.p_idxL ?_ | with_reducible refine Wp.p_idxT ?_ | with_reducible refine Wp.p_itL ?_ | with_reducible refine Wp.p_itT ?_ | with_reducible refine Wp.p_itS ?_ | ((with_reducible refine Wp.p_set ?_ ?_); exact of_decide_eq_true rfl; dsimp only [List.set]) | ((with_reducible refine Wp.p_mul ?_ ?_); try omega) | ((with_reducible refine Wp.p_fdiv ?_ ?_ ?_); omega; omega) | ((with_reducible refine Wp.p_mod ?_ ?_); try omega) | ((with_reducible refine Wp.p_range ?_ ?_); omega) | ((with_reducible refine Wp.len_ok ?_ ?_); exact rfl) | ((with_reducible refine Wp.set_len ?_ ?_); exact rfl; dsimp only [List.set]) | with_reducible refine Wp.br_t ?_ | with_reducible refine Wp.br_f ?_ | with_reducible refine Wp.br_nt ?_ | with_reducible refine Wp.br_nf ?_ | with_reducible refine ⟨fun hb => ?_, fun hb => ?_⟩ | dsimp only)
  · cases ns with
    | nil => cases hb
    | cons x r => simp
  · have hl : 0 < ((ns.map D.int).length : Int) := by
      cases ns with
      | nil => cases hb
      | cons x r => simp
    refine pw_cell (Int.emod_nonneg _ (by omega)) (by simpa using Int.emod_lt_of_pos _ hl) fun y => ?_
    repeat' (first | with_reducible refine Wp.w_int ?_ | with_reducible refine Wp.v_var ?_ | with_reducible refine Wp.g_zero ?_ | with_reducible refine Wp.g_succ ?_ | with_reducible refine Wp.w_glob ?_ | with_reducible refine Wp.w_bin ?_ | with_reducible refine Wp.w_call ?_ | with_reducible refine Wp.w_fcall ?_ | with_reducible refine Wp.w_cons ?_ | with_reducible refine Wp.w_nil ?_ | with_reducible refine Wp.w_str ?_ | with_reducible refine Wp.w_bl ?_ | with_reducible refine Wp.w_non ?_ | with_reducible refine Wp.v_peek ?_ | with_reducible refine Wp.v_move ?_ | with_reducible refine Wp.o_zero ?_ | with_reducible refine Wp.o_succ ?_ | with_reducible refine Wp.w_negI ?_ | with_reducible refine Wp.w_neg ?_ | with_reducible refine Wp.w_cmp ?_ | with_reducible refine Wp.w_not ?_ | with_reducible refine Wp.w_ite ?_ | with_reducible refine Wp.w_tup ?_ | with_reducible refine Wp.w_lst ?_ | with_reducible refine Wp.w_idx ?_ | with_reducible refine Wp.w_slice ?_ | with_reducible refine Wp.w_oNil ?_ | with_reducible refine Wp.w_oCons ?_ | with_reducible refine Wp.w_fn1 ?_ | with_reducible refine Wp.w_fn2 ?_ | with_reducible refine Wp.w_meth1 ?_ | with_reducible refine Wp.w_get2 ?_ | with_reducible refine Wp.w_isi ?_ | with_reducible refine Wp.w_ff ?_ | with_reducible refine Wp.w_dic0 ?_ | with_reducible refine Wp.w_cmp2 ?_ | with_reducible refine Wp.w_and ?_ | with_reducible refine Wp.w_or ?_ | with_reducible refine Wp.w_andL ?_ | with_reducible refine Wp.w_orL ?_ | with_reducible refine Wp.w_andC ?_ | with_reducible refine Wp.w_orC ?_ | with_reducible refine Wp.t_and ?_ | with_reducible refine Wp.t_or ?_ | with_reducible refine Wp.t_andN ?_ | with_reducible refine Wp.t_orN ?_ | with_reducible refine Wp.t_andC ?_ | with_reducible refine Wp.t_orC ?_ | with_reducible refine Wp.t_not ?_ | with_reducible refine Wp.t_cmp ?_ | with_reducible refine Wp.t_cmp2 ?_ | with_reducible refine Wp.u_var ?_ | with_reducible refine Wp.u_peek ?_ | with_reducible refine Wp.t_call ?_ | with_reducible refine Wp.t_idx ?_ | with_reducible refine Wp.t_fn1 ?_ | with_reducible refine Wp.t_isi ?_ | with_reducible refine Wp.t_bl ?_ | with_reducible refine Wp.i_seq ?_ | with_reducible refine Wp.i_range1 ?_ | with_reducible refine Wp.i_range ?_ | with_reducible refine Wp.i_zip ?_ | with_reducible refine Wp.s_for ?_ | with_reducible refine Wp.w_comp ?_ | with_reducible refine Wp.t_comp ?_ | with_reducible refine Wp.s_skip ?_ | with_reducible refine Wp.s_seq ?_ | with_reducible refine Wp.s_asg ?_ | with_reducible refine Wp.s_expr ?_ | with_reducible refine Wp.s_ite ?_ | with_reducible refine Wp.s_ret ?_ | with_reducible refine Wp.s_retF ?_ | with_reducible refine Wp.s_cont ?_ | with_reducible refine Wp.pw_some ?_ | with_reducible refine Wp.p_add ?_ | with_reducible refine Wp.p_sub ?_ | with_reducible refine Wp.p_lt ?_ | with_reducible refine Wp.p_le ?_ | with_reducible refine Wp.p_gt ?_ | with_reducible refine Wp.p_ge ?_ | with_reducible refine Wp.p_eq ?_ | with_reducible refine Wp.p_ne ?_ | with_reducible refine Wp.p_eqB ?_ | with_reducible refine Wp.p_neB ?_ | with_reducible refine Wp.p_tBl ?_ | with_reducible refine Wp.p_tInt ?_ | with_reducible refine Wp.p_tNon ?_ | with_reducible refine Wp.p_tScr ?_ | with_reducible refine Wp.p_tLst ?_ | with_reducible refine Wp.p_tTup ?_ | with_reducible refine Wp.p_lenS ?_ | with_reducible refine Wp.p_lenL ?_ | with_reducible refine Wp.p_lenT ?_ | with_reducible refine Wp.p_lenX ?_ | with_reducible refine Wp.v_lenH ?_ | with_reducible refine Wp.h_zero ?_ | with_reducible refine Wp.h_succ ?_ | with_reducible refine Wp.q_abs fun n _ _ => ?_ | with_reducible refine Wp.q_count2 fun n _ _ _ _ => ?_ | with_reducible refine Wp.p_max2 ?_ | with_reducible refine Wp.p_min2 ?_ | with_reducible refine Wp.p_idxS ?_ | with_reducible refine Wp.p_idxL ?_ | with_reducible refine Wp.p_idxT ?_ | with_reducible refine Wp.p_itL ?_ | with_reducible refine Wp.p_itT ?_ | with_reducible refine Wp.p_itS ?_ | ((with_reducible refine Wp.p_set ?_ ?_); exact of_decide_eq_true rfl; dsimp only [List.set]) | ((with_reducible refine Wp.p_mul ?_ ?_); try omega) | ((with_reducible refine Wp.p_fdiv ?_ ?_ ?_); omega; omega) | ((with_reducible refine Wp.p_mod ?_ ?_); try omega) | ((with_reducible refine Wp.p_range ?_ ?_); omega) | ((with_reducible refine Wp.len_ok ?_ ?_); exact rfl) | ((with_reducible refine Wp.set_len ?_ ?_); exact rfl; dsimp only [List.set]) | with_reducible refine Wp.br_t ?_ | with_reducible refine Wp.br_f ?_ | with_reducible refine Wp.br_nt ?_ | with_reducible refine Wp.br_nf ?_ | with_reducible refine ⟨fun hb => ?_, fun hb => ?_⟩ | dsimp only)
    exact h _ (Int.emod_nonneg _ (by omega)) (Int.emod_lt_of_pos _ hm)
  all_goals first | exact h _ (Int.emod_nonneg _ (by omega)) (Int.emod_lt_of_pos _ hm) | skip
theorem r_pick {k n : Nat} {ns : List Int} {ds : List D} {Q : D → Store → Prop} {X : Nat → Store → Prop} (hm : 0 < ds.length) (hn : n < 16777216) (h : ∀ d ∈ ds, Q d (twn (n + 1))) : RW (run prg (k + 2) i__law_pick [.scr (ns.map .int), .hnd 0, .lst ds] (twn n)) Q X := by
  refine Wp.run_w (fn := g__law_pick) rfl rfl ?_
  show OW (ex _ _ [.sh (.scr (ns.map .int)), .sh (.hnd 0), .sh (.lst ds)] _) _
  dsimp only [g__law_pick]
  repeat' (first | with_reducible refine Wp.w_int ?_ | with_reducible refine Wp.v_var ?_ | with_reducible refine Wp.g_zero ?_ | with_reducible refine Wp.g_succ ?_ | with_reducible refine Wp.w_glob ?_ | with_reducible refine Wp.w_bin ?_ | with_reducible refine Wp.w_call ?_ | with_reducible refine Wp.w_fcall ?_ | with_reducible refine Wp.w_cons ?_ | with_reducible refine Wp.w_nil ?_ | with_reducible refine Wp.w_str ?_ | with_reducible refine Wp.w_bl ?_ | with_reducible refine Wp.w_non ?_ | with_reducible refine Wp.v_peek ?_ | with_reducible refine Wp.v_move ?_ | with_reducible refine Wp.o_zero ?_ | with_reducible refine Wp.o_succ ?_ | with_reducible refine Wp.w_negI ?_ | with_reducible refine Wp.w_neg ?_ | with_reducible refine Wp.w_cmp ?_ | with_reducible refine Wp.w_not ?_ | with_reducible refine Wp.w_ite ?_ | with_reducible refine Wp.w_tup ?_ | with_reducible refine Wp.w_lst ?_ | with_reducible refine Wp.w_idx ?_ | with_reducible refine Wp.w_slice ?_ | with_reducible refine Wp.w_oNil ?_ | with_reducible refine Wp.w_oCons ?_ | with_reducible refine Wp.w_fn1 ?_ | with_reducible refine Wp.w_fn2 ?_ | with_reducible refine Wp.w_meth1 ?_ | with_reducible refine Wp.w_get2 ?_ | with_reducible refine Wp.w_isi ?_ | with_reducible refine Wp.w_ff ?_ | with_reducible refine Wp.w_dic0 ?_ | with_reducible refine Wp.w_cmp2 ?_ | with_reducible refine Wp.w_and ?_ | with_reducible refine Wp.w_or ?_ | with_reducible refine Wp.w_andL ?_ | with_reducible refine Wp.w_orL ?_ | with_reducible refine Wp.w_andC ?_ | with_reducible refine Wp.w_orC ?_ | with_reducible refine Wp.t_and ?_ | with_reducible refine Wp.t_or ?_ | with_reducible refine Wp.t_andN ?_ | with_reducible refine Wp.t_orN ?_ | with_reducible refine Wp.t_andC ?_ | with_reducible refine Wp.t_orC ?_ | with_reducible refine Wp.t_not ?_ | with_reducible refine Wp.t_cmp ?_ | with_reducible refine Wp.t_cmp2 ?_ | with_reducible refine Wp.u_var ?_ | with_reducible refine Wp.u_peek ?_ | with_reducible refine Wp.t_call ?_ | with_reducible refine Wp.t_idx ?_ | with_reducible refine Wp.t_fn1 ?_ | with_reducible refine Wp.t_isi ?_ | with_reducible refine Wp.t_bl ?_ | with_reducible refine Wp.i_seq ?_ | with_reducible refine Wp.i_range1 ?_ | with_reducible refine Wp.i_range ?_ | with_reducible refine Wp.i_zip ?_ | with_reducible refine Wp.s_for ?_ | with_reducible refine Wp.w_comp ?_ | with_reducible refine Wp.t_comp ?_ | with_reducible refine Wp.s_skip ?_ | with_reducible refine Wp.s_seq ?_ | with_reducible refine Wp.s_asg ?_ | with_reducible refine Wp.s_expr ?_ | with_reducible refine Wp.s_ite ?_ | with_reducible refine Wp.s_ret ?_ | with_reducible refine Wp.s_retF ?_ | with_reducible refine Wp.s_cont ?_ | with_reducible refine Wp.pw_some ?_ | with_reducible refine Wp.p_add ?_ | with_reducible refine Wp.p_sub ?_ | with_reducible refine Wp.p_lt ?_ | with_reducible refine Wp.p_le ?_ | with_reducible refine Wp.p_gt ?_ | with_reducible refine Wp.p_ge ?_ | with_reducible refine Wp.p_eq ?_ | with_reducible refine Wp.p_ne ?_ | with_reducible refine Wp.p_eqB ?_ | with_reducible refine Wp.p_neB ?_ | with_reducible refine Wp.p_tBl ?_ | with_reducible refine Wp.p_tInt ?_ | with_reducible refine Wp.p_tNon ?_ | with_reducible refine Wp.p_tScr ?_ | with_reducible refine Wp.p_tLst ?_ | with_reducible refine Wp.p_tTup ?_ | with_reducible refine Wp.p_lenS ?_ | with_reducible refine Wp.p_lenL ?_ | with_reducible refine Wp.p_lenT ?_ | with_reducible refine Wp.p_lenX ?_ | with_reducible refine Wp.v_lenH ?_ | with_reducible refine Wp.h_zero ?_ | with_reducible refine Wp.h_succ ?_ | with_reducible refine Wp.q_abs fun n _ _ => ?_ | with_reducible refine Wp.q_count2 fun n _ _ _ _ => ?_ | with_reducible refine Wp.p_max2 ?_ | with_reducible refine Wp.p_min2 ?_ | with_reducible refine Wp.p_idxS ?_ | with_reducible refine Wp.p_idxL ?_ | with_reducible refine Wp.p_idxT ?_ | with_reducible refine Wp.p_itL ?_ | with_reducible refine Wp.p_itT ?_ | with_reducible refine Wp.p_itS ?_ | ((with_reducible refine Wp.p_set ?_ ?_); exact of_decide_eq_true rfl; dsimp only [List.set]) | ((with_reducible refine Wp.p_mul ?_ ?_); try omega) | ((with_reducible refine Wp.p_fdiv ?_ ?_ ?_); omega; omega) | ((with_reducible refine Wp.p_mod ?_ ?_); try omega) | ((with_reducible refine Wp.p_range ?_ ?_); omega) | ((with_reducible refine Wp.len_ok ?_ ?_); exact rfl) | ((with_reducible refine Wp.set_len ?_ ?_); exact rfl; dsimp only [List.set]) | with_reducible refine Wp.br_t ?_ | with_reducible refine Wp.br_f ?_ | with_reducible refine Wp.br_nt ?_ | with_reducible refine Wp.br_nf ?_ | with_reducible refine ⟨fun hb => ?_, fun hb => ?_⟩ | dsimp only)
  refine r_draw (m := (ds.length : Int)) (by omega) hn fun x h0 h1 => ?_
  repeat' (first | with_reducible refine Wp.w_int ?_ | with_reducible refine Wp.v_var ?_ | with_reducible refine Wp.g_zero ?_ | with_reducible refine Wp.g_succ ?_ | with_reducible refine Wp.w_glob ?_ | with_reducible refine Wp.w_bin ?_ | with_reducible refine Wp.w_call ?_ | with_reducible refine Wp.w_fcall ?_ | with_reducible refine Wp.w_cons ?_ | with_reducible refine Wp.w_nil ?_ | with_reducible refine Wp.w_str ?_ | with_reducible refine Wp.w_bl ?_ | with_reducible refine Wp.w_non ?_ | with_reducible refine Wp.v_peek ?_ | with_reducible refine Wp.v_move ?_ | with_reducible refine Wp.o_zero ?_ | with_reducible refine Wp.o_succ ?_ | with_reducible refine Wp.w_negI ?_ | with_reducible refine Wp.w_neg ?_ | with_reducible refine Wp.w_cmp ?_ | with_reducible refine Wp.w_not ?_ | with_reducible refine Wp.w_ite ?_ | with_reducible refine Wp.w_tup ?_ | with_reducible refine Wp.w_lst ?_ | with_reducible refine Wp.w_idx ?_ | with_reducible refine Wp.w_slice ?_ | with_reducible refine Wp.w_oNil ?_ | with_reducible refine Wp.w_oCons ?_ | with_reducible refine Wp.w_fn1 ?_ | with_reducible refine Wp.w_fn2 ?_ | with_reducible refine Wp.w_meth1 ?_ | with_reducible refine Wp.w_get2 ?_ | with_reducible refine Wp.w_isi ?_ | with_reducible refine Wp.w_ff ?_ | with_reducible refine Wp.w_dic0 ?_ | with_reducible refine Wp.w_cmp2 ?_ | with_reducible refine Wp.w_and ?_ | with_reducible refine Wp.w_or ?_ | with_reducible refine Wp.w_andL ?_ | with_reducible refine Wp.w_orL ?_ | with_reducible refine Wp.w_andC ?_ | with_reducible refine Wp.w_orC ?_ | with_reducible refine Wp.t_and ?_ | with_reducible refine Wp.t_or ?_ | with_reducible refine Wp.t_andN ?_ | with_reducible refine Wp.t_orN ?_ | with_reducible refine Wp.t_andC ?_ | with_reducible refine Wp.t_orC ?_ | with_reducible refine Wp.t_not ?_ | with_reducible refine Wp.t_cmp ?_ | with_reducible refine Wp.t_cmp2 ?_ | with_reducible refine Wp.u_var ?_ | with_reducible refine Wp.u_peek ?_ | with_reducible refine Wp.t_call ?_ | with_reducible refine Wp.t_idx ?_ | with_reducible refine Wp.t_fn1 ?_ | with_reducible refine Wp.t_isi ?_ | with_reducible refine Wp.t_bl ?_ | with_reducible refine Wp.i_seq ?_ | with_reducible refine Wp.i_range1 ?_ | with_reducible refine Wp.i_range ?_ | with_reducible refine Wp.i_zip ?_ | with_reducible refine Wp.s_for ?_ | with_reducible refine Wp.w_comp ?_ | with_reducible refine Wp.t_comp ?_ | with_reducible refine Wp.s_skip ?_ | with_reducible refine Wp.s_seq ?_ | with_reducible refine Wp.s_asg ?_ | with_reducible refine Wp.s_expr ?_ | with_reducible refine Wp.s_ite ?_ | with_reducible refine Wp.s_ret ?_ | with_reducible refine Wp.s_retF ?_ | with_reducible refine Wp.s_cont ?_ | with_reducible refine Wp.pw_some ?_ | with_reducible refine Wp.p_add ?_ | with_reducible refine Wp.p_sub ?_ | with_reducible refine Wp.p_lt ?_ | with_reducible refine Wp.p_le ?_ | with_reducible refine Wp.p_gt ?_ | with_reducible refine Wp.p_ge ?_ | with_reducible refine Wp.p_eq ?_ | with_reducible refine Wp.p_ne ?_ | with_reducible refine Wp.p_eqB ?_ | with_reducible refine Wp.p_neB ?_ | with_reducible refine Wp.p_tBl ?_ | with_reducible refine Wp.p_tInt ?_ | with_reducible refine Wp.p_tNon ?_ | with_reducible refine Wp.p_tScr ?_ | with_reducible refine Wp.p_tLst ?_ | with_reducible refine Wp.p_tTup ?_ | with_reducible refine Wp.p_lenS ?_ | with_reducible refine Wp.p_lenL ?_ | with_reducible refine Wp.p_lenT ?_ | with_reducible refine Wp.p_lenX ?_ | with_reducible refine Wp.v_lenH ?_ | with_reducible refine Wp.h_zero ?_ | with_reducible refine Wp.h_succ ?_ | with_reducible refine Wp.q_abs fun n _ _ => ?_ | with_reducible refine Wp.q_count2 fun n _ _ _ _ => ?_ | with_reducible refine Wp.p_max2 ?_ | with_reducible refine Wp.p_min2 ?_ | with_reducible refine Wp.p_idxS ?_ | with_reducible refine Wp.p_idxL ?_ | with_reducible refine Wp.p_idxT ?_ | with_reducible refine Wp.p_itL ?_ | with_reducible refine Wp.p_itT ?_ | with_reducible refine Wp.p_itS ?_ | ((with_reducible refine Wp.p_set ?_ ?_); exact of_decide_eq_true rfl; dsimp only [List.set]) | ((with_reducible refine Wp.p_mul ?_ ?_); try omega) | ((with_reducible refine Wp.p_fdiv ?_ ?_ ?_); omega; omega) | ((with_reducible refine Wp.p_mod ?_ ?_); try omega) | ((with_reducible refine Wp.p_range ?_ ?_); omega) | ((with_reducible refine Wp.len_ok ?_ ?_); exact rfl) | ((with_reducible refine Wp.set_len ?_ ?_); exact rfl; dsimp only [List.set]) | with_reducible refine Wp.br_t ?_ | with_reducible refine Wp.br_f ?_ | with_reducible refine Wp.br_nt ?_ | with_reducible refine Wp.br_nf ?_ | with_reducible refine ⟨fun hb => ?_, fun hb => ?_⟩ | dsimp only)
  have hx : x.toNat < ds.length := by omega
  have e : atI ds x = some ds[x.toNat] := by
    unfold atI ixN
    rw [if_pos h0, if_pos h1]
    show ds[x.toNat]? = _
    rw [List.getElem?_eq_getElem hx]
  refine Wp.pw_eq e ?_
  repeat' (first | with_reducible refine Wp.w_int ?_ | with_reducible refine Wp.v_var ?_ | with_reducible refine Wp.g_zero ?_ | with_reducible refine Wp.g_succ ?_ | with_reducible refine Wp.w_glob ?_ | with_reducible refine Wp.w_bin ?_ | with_reducible refine Wp.w_call ?_ | with_reducible refine Wp.w_fcall ?_ | with_reducible refine Wp.w_cons ?_ | with_reducible refine Wp.w_nil ?_ | with_reducible refine Wp.w_str ?_ | with_reducible refine Wp.w_bl ?_ | with_reducible refine Wp.w_non ?_ | with_reducible refine Wp.v_peek ?_ | with_reducible refine Wp.v_move ?_ | with_reducible refine Wp.o_zero ?_ | with_reducible refine Wp.o_succ ?_ | with_reducible refine Wp.w_negI ?_ | with_reducible refine Wp.w_neg ?_ | with_reducible refine Wp.w_cmp ?_ | with_reducible refine Wp.w_not ?_ | with_reducible refine Wp.w_ite ?_ | with_reducible refine Wp.w_tup ?_ | with_reducible refine Wp.w_lst ?_ | with_reducible refine Wp.w_idx ?_ | with_reducible refine Wp.w_slice ?_ | with_reducible refine Wp.w_oNil ?_ | with_reducible refine Wp.w_oCons ?_ | with_reducible refine Wp.w_fn1 ?_ | with_reducible refine Wp.w_fn2 ?_ | with_reducible refine Wp.w_meth1 ?_ | with_reducible refine Wp.w_get2 ?_ | with_reducible refine Wp.w_isi ?_ | with_reducible refine Wp.w_ff ?_ | with_reducible refine Wp.w_dic0 ?_ | with_reducible refine Wp.w_cmp2 ?_ | with_reducible refine Wp.w_and ?_ | with_reducible refine Wp.w_or ?_ | with_reducible refine Wp.w_andL ?_ | with_reducible refine Wp.w_orL ?_ | with_reducible refine Wp.w_andC ?_ | with_reducible refine Wp.w_orC ?_ | with_reducible refine Wp.t_and ?_ | with_reducible refine Wp.t_or ?_ | with_reducible refine Wp.t_andN ?_ | with_reducible refine Wp.t_orN ?_ | with_reducible refine Wp.t_andC ?_ | with_reducible refine Wp.t_orC ?_ | with_reducible refine Wp.t_not ?_ | with_reducible refine Wp.t_cmp ?_ | with_reducible refine Wp.t_cmp2 ?_ | with_reducible refine Wp.u_var ?_ | with_reducible refine Wp.u_peek ?_ | with_reducible refine Wp.t_call ?_ | with_reducible refine Wp.t_idx ?_ | with_reducible refine Wp.t_fn1 ?_ | with_reducible refine Wp.t_isi ?_ | with_reducible refine Wp.t_bl ?_ | with_reducible refine Wp.i_seq ?_ | with_reducible refine Wp.i_range1 ?_ | with_reducible refine Wp.i_range ?_ | with_reducible refine Wp.i_zip ?_ | with_reducible refine Wp.s_for ?_ | with_reducible refine Wp.w_comp ?_ | with_reducible refine Wp.t_comp ?_ | with_reducible refine Wp.s_skip ?_ | with_reducible refine Wp.s_seq ?_ | with_reducible refine Wp.s_asg ?_ | with_reducible refine Wp.s_expr ?_ | with_reducible refine Wp.s_ite ?_ | with_reducible refine Wp.s_ret ?_ | with_reducible refine Wp.s_retF ?_ | with_reducible refine Wp.s_cont ?_ | with_reducible refine Wp.pw_some ?_ | with_reducible refine Wp.p_add ?_ | with_reducible refine Wp.p_sub ?_ | with_reducible refine Wp.p_lt ?_ | with_reducible refine Wp.p_le ?_ | with_reducible refine Wp.p_gt ?_ | with_reducible refine Wp.p_ge ?_ | with_reducible refine Wp.p_eq ?_ | with_reducible refine Wp.p_ne ?_ | with_reducible refine Wp.p_eqB ?_ | with_reducible refine Wp.p_neB ?_ | with_reducible refine Wp.p_tBl ?_ | with_reducible refine Wp.p_tInt ?_ | with_reducible refine Wp.p_tNon ?_ | with_reducible refine Wp.p_tScr ?_ | with_reducible refine Wp.p_tLst ?_ | with_reducible refine Wp.p_tTup ?_ | with_reducible refine Wp.p_lenS ?_ | with_reducible refine Wp.p_lenL ?_ | with_reducible refine Wp.p_lenT ?_ | with_reducible refine Wp.p_lenX ?_ | with_reducible refine Wp.v_lenH ?_ | with_reducible refine Wp.h_zero ?_ | with_reducible refine Wp.h_succ ?_ | with_reducible refine Wp.q_abs fun n _ _ => ?_ | with_reducible refine Wp.q_count2 fun n _ _ _ _ => ?_ | with_reducible refine Wp.p_max2 ?_ | with_reducible refine Wp.p_min2 ?_ | with_reducible refine Wp.p_idxS ?_ | with_reducible refine Wp.p_idxL ?_ | with_reducible refine Wp.p_idxT ?_ | with_reducible refine Wp.p_itL ?_ | with_reducible refine Wp.p_itT ?_ | with_reducible refine Wp.p_itS ?_ | ((with_reducible refine Wp.p_set ?_ ?_); exact of_decide_eq_true rfl; dsimp only [List.set]) | ((with_reducible refine Wp.p_mul ?_ ?_); try omega) | ((with_reducible refine Wp.p_fdiv ?_ ?_ ?_); omega; omega) | ((with_reducible refine Wp.p_mod ?_ ?_); try omega) | ((with_reducible refine Wp.p_range ?_ ?_); omega) | ((with_reducible refine Wp.len_ok ?_ ?_); exact rfl) | ((with_reducible refine Wp.set_len ?_ ?_); exact rfl; dsimp only [List.set]) | with_reducible refine Wp.br_t ?_ | with_reducible refine Wp.br_f ?_ | with_reducible refine Wp.br_nt ?_ | with_reducible refine Wp.br_nf ?_ | with_reducible refine ⟨fun hb => ?_, fun hb => ?_⟩ | dsimp only)
  exact h _ (List.getElem_mem hx)
theorem r_pick3 {k n : Nat} {ns : List Int} {a b c : Int} {Q : D → Store → Prop} {X : Nat → Store → Prop} (hn : n < 16777216) (h : ∀ y : Int, (y = a ∨ y = b ∨ y = c) → Q (.int y) (twn (n + 1))) : RW (run prg (k + 2) i__law_pick [.scr (ns.map .int), .hnd 0, .lst [.int a, .int b, .int c]] (twn n)) Q X := by
  refine r_pick (of_decide_eq_true rfl) hn fun d hd => ?_
  rcases List.mem_cons.mp hd with rfl | hd
  · exact h _ (.inl rfl)
  rcases List.mem_cons.mp hd with rfl | hd
  · exact h _ (.inr (.inl rfl))
  rw [List.mem_singleton.mp hd]
  exact h _ (.inr (.inr rfl))
theorem r_number_of {k : Nat} {t : Int} {M : Store} {Q : D → Store → Prop} {X : Nat → Store → Prop} (h : Q (.int (t % 64)) M) : RW (run prg (k + 1) i_number_of [.int t] M) Q X := by
  refine Wp.run_w (fn := g_number_of) rfl rfl ?_
  show OW (ex _ _ [.sh (.int t)] _) _
  dsimp only [g_number_of]
  repeat' (first | with_reducible refine Wp.w_int ?_ | with_reducible refine Wp.v_var ?_ | with_reducible refine Wp.g_zero ?_ | with_reducible refine Wp.g_succ ?_ | with_reducible refine Wp.w_glob ?_ | with_reducible refine Wp.w_bin ?_ | with_reducible refine Wp.w_call ?_ | with_reducible refine Wp.w_fcall ?_ | with_reducible refine Wp.w_cons ?_ | with_reducible refine Wp.w_nil ?_ | with_reducible refine Wp.w_str ?_ | with_reducible refine Wp.w_bl ?_ | with_reducible refine Wp.w_non ?_ | with_reducible refine Wp.v_peek ?_ | with_reducible refine Wp.v_move ?_ | with_reducible refine Wp.o_zero ?_ | with_reducible refine Wp.o_succ ?_ | with_reducible refine Wp.w_negI ?_ | with_reducible refine Wp.w_neg ?_ | with_reducible refine Wp.w_cmp ?_ | with_reducible refine Wp.w_not ?_ | with_reducible refine Wp.w_ite ?_ | with_reducible refine Wp.w_tup ?_ | with_reducible refine Wp.w_lst ?_ | with_reducible refine Wp.w_idx ?_ | with_reducible refine Wp.w_slice ?_ | with_reducible refine Wp.w_oNil ?_ | with_reducible refine Wp.w_oCons ?_ | with_reducible refine Wp.w_fn1 ?_ | with_reducible refine Wp.w_fn2 ?_ | with_reducible refine Wp.w_meth1 ?_ | with_reducible refine Wp.w_get2 ?_ | with_reducible refine Wp.w_isi ?_ | with_reducible refine Wp.w_ff ?_ | with_reducible refine Wp.w_dic0 ?_ | with_reducible refine Wp.w_cmp2 ?_ | with_reducible refine Wp.w_and ?_ | with_reducible refine Wp.w_or ?_ | with_reducible refine Wp.w_andL ?_ | with_reducible refine Wp.w_orL ?_ | with_reducible refine Wp.w_andC ?_ | with_reducible refine Wp.w_orC ?_ | with_reducible refine Wp.t_and ?_ | with_reducible refine Wp.t_or ?_ | with_reducible refine Wp.t_andN ?_ | with_reducible refine Wp.t_orN ?_ | with_reducible refine Wp.t_andC ?_ | with_reducible refine Wp.t_orC ?_ | with_reducible refine Wp.t_not ?_ | with_reducible refine Wp.t_cmp ?_ | with_reducible refine Wp.t_cmp2 ?_ | with_reducible refine Wp.u_var ?_ | with_reducible refine Wp.u_peek ?_ | with_reducible refine Wp.t_call ?_ | with_reducible refine Wp.t_idx ?_ | with_reducible refine Wp.t_fn1 ?_ | with_reducible refine Wp.t_isi ?_ | with_reducible refine Wp.t_bl ?_ | with_reducible refine Wp.i_seq ?_ | with_reducible refine Wp.i_range1 ?_ | with_reducible refine Wp.i_range ?_ | with_reducible refine Wp.i_zip ?_ | with_reducible refine Wp.s_for ?_ | with_reducible refine Wp.w_comp ?_ | with_reducible refine Wp.t_comp ?_ | with_reducible refine Wp.s_skip ?_ | with_reducible refine Wp.s_seq ?_ | with_reducible refine Wp.s_asg ?_ | with_reducible refine Wp.s_expr ?_ | with_reducible refine Wp.s_ite ?_ | with_reducible refine Wp.s_ret ?_ | with_reducible refine Wp.s_retF ?_ | with_reducible refine Wp.s_cont ?_ | with_reducible refine Wp.pw_some ?_ | with_reducible refine Wp.p_add ?_ | with_reducible refine Wp.p_sub ?_ | with_reducible refine Wp.p_lt ?_ | with_reducible refine Wp.p_le ?_ | with_reducible refine Wp.p_gt ?_ | with_reducible refine Wp.p_ge ?_ | with_reducible refine Wp.p_eq ?_ | with_reducible refine Wp.p_ne ?_ | with_reducible refine Wp.p_eqB ?_ | with_reducible refine Wp.p_neB ?_ | with_reducible refine Wp.p_tBl ?_ | with_reducible refine Wp.p_tInt ?_ | with_reducible refine Wp.p_tNon ?_ | with_reducible refine Wp.p_tScr ?_ | with_reducible refine Wp.p_tLst ?_ | with_reducible refine Wp.p_tTup ?_ | with_reducible refine Wp.p_lenS ?_ | with_reducible refine Wp.p_lenL ?_ | with_reducible refine Wp.p_lenT ?_ | with_reducible refine Wp.p_lenX ?_ | with_reducible refine Wp.v_lenH ?_ | with_reducible refine Wp.h_zero ?_ | with_reducible refine Wp.h_succ ?_ | with_reducible refine Wp.q_abs fun n _ _ => ?_ | with_reducible refine Wp.q_count2 fun n _ _ _ _ => ?_ | with_reducible refine Wp.p_max2 ?_ | with_reducible refine Wp.p_min2 ?_ | with_reducible refine Wp.p_idxS ?_ | with_reducible refine Wp.p_idxL ?_ | with_reducible refine Wp.p_idxT ?_ | with_reducible refine Wp.p_itL ?_ | with_reducible refine Wp.p_itT ?_ | with_reducible refine Wp.p_itS ?_ | ((with_reducible refine Wp.p_set ?_ ?_); exact of_decide_eq_true rfl; dsimp only [List.set]) | ((with_reducible refine Wp.p_mul ?_ ?_); try omega) | ((with_reducible refine Wp.p_fdiv ?_ ?_ ?_); omega; omega) | ((with_reducible refine Wp.p_mod ?_ ?_); try omega) | ((with_reducible refine Wp.p_range ?_ ?_); omega) | ((with_reducible refine Wp.len_ok ?_ ?_); exact rfl) | ((with_reducible refine Wp.set_len ?_ ?_); exact rfl; dsimp only [List.set]) | with_reducible refine Wp.br_t ?_ | with_reducible refine Wp.br_f ?_ | with_reducible refine Wp.br_nt ?_ | with_reducible refine Wp.br_nf ?_ | with_reducible refine ⟨fun hb => ?_, fun hb => ?_⟩ | dsimp only)
  exact h
theorem r_ahead {k : Nat} {t u : Int} {M : Store} {Q : D → Store → Prop} {X : Nat → Store → Prop} (h : Q (.int ((t - u + 32) % 64 - 32)) M) : RW (run prg (k + 1) i_ahead [.int t, .int u] M) Q X := by
  refine Wp.run_w (fn := g_ahead) rfl rfl ?_
  show OW (ex _ _ [.sh (.int t), .sh (.int u)] _) _
  dsimp only [g_ahead]
  repeat' (first | with_reducible refine Wp.w_int ?_ | with_reducible refine Wp.v_var ?_ | with_reducible refine Wp.g_zero ?_ | with_reducible refine Wp.g_succ ?_ | with_reducible refine Wp.w_glob ?_ | with_reducible refine Wp.w_bin ?_ | with_reducible refine Wp.w_call ?_ | with_reducible refine Wp.w_fcall ?_ | with_reducible refine Wp.w_cons ?_ | with_reducible refine Wp.w_nil ?_ | with_reducible refine Wp.w_str ?_ | with_reducible refine Wp.w_bl ?_ | with_reducible refine Wp.w_non ?_ | with_reducible refine Wp.v_peek ?_ | with_reducible refine Wp.v_move ?_ | with_reducible refine Wp.o_zero ?_ | with_reducible refine Wp.o_succ ?_ | with_reducible refine Wp.w_negI ?_ | with_reducible refine Wp.w_neg ?_ | with_reducible refine Wp.w_cmp ?_ | with_reducible refine Wp.w_not ?_ | with_reducible refine Wp.w_ite ?_ | with_reducible refine Wp.w_tup ?_ | with_reducible refine Wp.w_lst ?_ | with_reducible refine Wp.w_idx ?_ | with_reducible refine Wp.w_slice ?_ | with_reducible refine Wp.w_oNil ?_ | with_reducible refine Wp.w_oCons ?_ | with_reducible refine Wp.w_fn1 ?_ | with_reducible refine Wp.w_fn2 ?_ | with_reducible refine Wp.w_meth1 ?_ | with_reducible refine Wp.w_get2 ?_ | with_reducible refine Wp.w_isi ?_ | with_reducible refine Wp.w_ff ?_ | with_reducible refine Wp.w_dic0 ?_ | with_reducible refine Wp.w_cmp2 ?_ | with_reducible refine Wp.w_and ?_ | with_reducible refine Wp.w_or ?_ | with_reducible refine Wp.w_andL ?_ | with_reducible refine Wp.w_orL ?_ | with_reducible refine Wp.w_andC ?_ | with_reducible refine Wp.w_orC ?_ | with_reducible refine Wp.t_and ?_ | with_reducible refine Wp.t_or ?_ | with_reducible refine Wp.t_andN ?_ | with_reducible refine Wp.t_orN ?_ | with_reducible refine Wp.t_andC ?_ | with_reducible refine Wp.t_orC ?_ | with_reducible refine Wp.t_not ?_ | with_reducible refine Wp.t_cmp ?_ | with_reducible refine Wp.t_cmp2 ?_ | with_reducible refine Wp.u_var ?_ | with_reducible refine Wp.u_peek ?_ | with_reducible refine Wp.t_call ?_ | with_reducible refine Wp.t_idx ?_ | with_reducible refine Wp.t_fn1 ?_ | with_reducible refine Wp.t_isi ?_ | with_reducible refine Wp.t_bl ?_ | with_reducible refine Wp.i_seq ?_ | with_reducible refine Wp.i_range1 ?_ | with_reducible refine Wp.i_range ?_ | with_reducible refine Wp.i_zip ?_ | with_reducible refine Wp.s_for ?_ | with_reducible refine Wp.w_comp ?_ | with_reducible refine Wp.t_comp ?_ | with_reducible refine Wp.s_skip ?_ | with_reducible refine Wp.s_seq ?_ | with_reducible refine Wp.s_asg ?_ | with_reducible refine Wp.s_expr ?_ | with_reducible refine Wp.s_ite ?_ | with_reducible refine Wp.s_ret ?_ | with_reducible refine Wp.s_retF ?_ | with_reducible refine Wp.s_cont ?_ | with_reducible refine Wp.pw_some ?_ | with_reducible refine Wp.p_add ?_ | with_reducible refine Wp.p_sub ?_ | with_reducible refine Wp.p_lt ?_ | with_reducible refine Wp.p_le ?_ | with_reducible refine Wp.p_gt ?_ | with_reducible refine Wp.p_ge ?_ | with_reducible refine Wp.p_eq ?_ | with_reducible refine Wp.p_ne ?_ | with_reducible refine Wp.p_eqB ?_ | with_reducible refine Wp.p_neB ?_ | with_reducible refine Wp.p_tBl ?_ | with_reducible refine Wp.p_tInt ?_ | with_reducible refine Wp.p_tNon ?_ | with_reducible refine Wp.p_tScr ?_ | with_reducible refine Wp.p_tLst ?_ | with_reducible refine Wp.p_tTup ?_ | with_reducible refine Wp.p_lenS ?_ | with_reducible refine Wp.p_lenL ?_ | with_reducible refine Wp.p_lenT ?_ | with_reducible refine Wp.p_lenX ?_ | with_reducible refine Wp.v_lenH ?_ | with_reducible refine Wp.h_zero ?_ | with_reducible refine Wp.h_succ ?_ | with_reducible refine Wp.q_abs fun n _ _ => ?_ | with_reducible refine Wp.q_count2 fun n _ _ _ _ => ?_ | with_reducible refine Wp.p_max2 ?_ | with_reducible refine Wp.p_min2 ?_ | with_reducible refine Wp.p_idxS ?_ | with_reducible refine Wp.p_idxL ?_ | with_reducible refine Wp.p_idxT ?_ | with_reducible refine Wp.p_itL ?_ | with_reducible refine Wp.p_itT ?_ | with_reducible refine Wp.p_itS ?_ | ((with_reducible refine Wp.p_set ?_ ?_); exact of_decide_eq_true rfl; dsimp only [List.set]) | ((with_reducible refine Wp.p_mul ?_ ?_); try omega) | ((with_reducible refine Wp.p_fdiv ?_ ?_ ?_); omega; omega) | ((with_reducible refine Wp.p_mod ?_ ?_); try omega) | ((with_reducible refine Wp.p_range ?_ ?_); omega) | ((with_reducible refine Wp.len_ok ?_ ?_); exact rfl) | ((with_reducible refine Wp.set_len ?_ ?_); exact rfl; dsimp only [List.set]) | with_reducible refine Wp.br_t ?_ | with_reducible refine Wp.br_f ?_ | with_reducible refine Wp.br_nt ?_ | with_reducible refine Wp.br_nf ?_ | with_reducible refine ⟨fun hb => ?_, fun hb => ?_⟩ | dsimp only)
  exact h
theorem r_is_newer {k : Nat} {t u : Int} {M : Store} {Q : D → Store → Prop} {X : Nat → Store → Prop} (h : Q (.bl (decide (0 < (t - u + 32) % 64 - 32))) M) : RW (run prg (k + 2) i_is_newer [.int t, .int u] M) Q X := by
  refine Wp.run_w (fn := g_is_newer) rfl rfl ?_
  show OW (ex _ _ [.sh (.int t), .sh (.int u)] _) _
  dsimp only [g_is_newer]
  repeat' (first | with_reducible refine Wp.w_int ?_ | with_reducible refine Wp.v_var ?_ | with_reducible refine Wp.g_zero ?_ | with_reducible refine Wp.g_succ ?_ | with_reducible refine Wp.w_glob ?_ | with_reducible refine Wp.w_bin ?_ | with_reducible refine Wp.w_call ?_ | with_reducible refine Wp.w_fcall ?_ | with_reducible refine Wp.w_cons ?_ | with_reducible refine Wp.w_nil ?_ | with_reducible refine Wp.w_str ?_ | with_reducible refine Wp.w_bl ?_ | with_reducible refine Wp.w_non ?_ | with_reducible refine Wp.v_peek ?_ | with_reducible refine Wp.v_move ?_ | with_reducible refine Wp.o_zero ?_ | with_reducible refine Wp.o_succ ?_ | with_reducible refine Wp.w_negI ?_ | with_reducible refine Wp.w_neg ?_ | with_reducible refine Wp.w_cmp ?_ | with_reducible refine Wp.w_not ?_ | with_reducible refine Wp.w_ite ?_ | with_reducible refine Wp.w_tup ?_ | with_reducible refine Wp.w_lst ?_ | with_reducible refine Wp.w_idx ?_ | with_reducible refine Wp.w_slice ?_ | with_reducible refine Wp.w_oNil ?_ | with_reducible refine Wp.w_oCons ?_ | with_reducible refine Wp.w_fn1 ?_ | with_reducible refine Wp.w_fn2 ?_ | with_reducible refine Wp.w_meth1 ?_ | with_reducible refine Wp.w_get2 ?_ | with_reducible refine Wp.w_isi ?_ | with_reducible refine Wp.w_ff ?_ | with_reducible refine Wp.w_dic0 ?_ | with_reducible refine Wp.w_cmp2 ?_ | with_reducible refine Wp.w_and ?_ | with_reducible refine Wp.w_or ?_ | with_reducible refine Wp.w_andL ?_ | with_reducible refine Wp.w_orL ?_ | with_reducible refine Wp.w_andC ?_ | with_reducible refine Wp.w_orC ?_ | with_reducible refine Wp.t_and ?_ | with_reducible refine Wp.t_or ?_ | with_reducible refine Wp.t_andN ?_ | with_reducible refine Wp.t_orN ?_ | with_reducible refine Wp.t_andC ?_ | with_reducible refine Wp.t_orC ?_ | with_reducible refine Wp.t_not ?_ | with_reducible refine Wp.t_cmp ?_ | with_reducible refine Wp.t_cmp2 ?_ | with_reducible refine Wp.u_var ?_ | with_reducible refine Wp.u_peek ?_ | with_reducible refine Wp.t_call ?_ | with_reducible refine Wp.t_idx ?_ | with_reducible refine Wp.t_fn1 ?_ | with_reducible refine Wp.t_isi ?_ | with_reducible refine Wp.t_bl ?_ | with_reducible refine Wp.i_seq ?_ | with_reducible refine Wp.i_range1 ?_ | with_reducible refine Wp.i_range ?_ | with_reducible refine Wp.i_zip ?_ | with_reducible refine Wp.s_for ?_ | with_reducible refine Wp.w_comp ?_ | with_reducible refine Wp.t_comp ?_ | with_reducible refine Wp.s_skip ?_ | with_reducible refine Wp.s_seq ?_ | with_reducible refine Wp.s_asg ?_ | with_reducible refine Wp.s_expr ?_ | with_reducible refine Wp.s_ite ?_ | with_reducible refine Wp.s_ret ?_ | with_reducible refine Wp.s_retF ?_ | with_reducible refine Wp.s_cont ?_ | with_reducible refine Wp.pw_some ?_ | with_reducible refine Wp.p_add ?_ | with_reducible refine Wp.p_sub ?_ | with_reducible refine Wp.p_lt ?_ | with_reducible refine Wp.p_le ?_ | with_reducible refine Wp.p_gt ?_ | with_reducible refine Wp.p_ge ?_ | with_reducible refine Wp.p_eq ?_ | with_reducible refine Wp.p_ne ?_ | with_reducible refine Wp.p_eqB ?_ | with_reducible refine Wp.p_neB ?_ | with_reducible refine Wp.p_tBl ?_ | with_reducible refine Wp.p_tInt ?_ | with_reducible refine Wp.p_tNon ?_ | with_reducible refine Wp.p_tScr ?_ | with_reducible refine Wp.p_tLst ?_ | with_reducible refine Wp.p_tTup ?_ | with_reducible refine Wp.p_lenS ?_ | with_reducible refine Wp.p_lenL ?_ | with_reducible refine Wp.p_lenT ?_ | with_reducible refine Wp.p_lenX ?_ | with_reducible refine Wp.v_lenH ?_ | with_reducible refine Wp.h_zero ?_ | with_reducible refine Wp.h_succ ?_ | with_reducible refine Wp.q_abs fun n _ _ => ?_ | with_reducible refine Wp.q_count2 fun n _ _ _ _ => ?_ | with_reducible refine Wp.p_max2 ?_ | with_reducible refine Wp.p_min2 ?_ | with_reducible refine Wp.p_idxS ?_ | with_reducible refine Wp.p_idxL ?_ | with_reducible refine Wp.p_idxT ?_ | with_reducible refine Wp.p_itL ?_ | with_reducible refine Wp.p_itT ?_ | with_reducible refine Wp.p_itS ?_ | ((with_reducible refine Wp.p_set ?_ ?_); exact of_decide_eq_true rfl; dsimp only [List.set]) | ((with_reducible refine Wp.p_mul ?_ ?_); try omega) | ((with_reducible refine Wp.p_fdiv ?_ ?_ ?_); omega; omega) | ((with_reducible refine Wp.p_mod ?_ ?_); try omega) | ((with_reducible refine Wp.p_range ?_ ?_); omega) | ((with_reducible refine Wp.len_ok ?_ ?_); exact rfl) | ((with_reducible refine Wp.set_len ?_ ?_); exact rfl; dsimp only [List.set]) | with_reducible refine Wp.br_t ?_ | with_reducible refine Wp.br_f ?_ | with_reducible refine Wp.br_nt ?_ | with_reducible refine Wp.br_nf ?_ | with_reducible refine ⟨fun hb => ?_, fun hb => ?_⟩ | dsimp only)
  refine r_ahead ?_
  repeat' (first | with_reducible refine Wp.w_int ?_ | with_reducible refine Wp.v_var ?_ | with_reducible refine Wp.g_zero ?_ | with_reducible refine Wp.g_succ ?_ | with_reducible refine Wp.w_glob ?_ | with_reducible refine Wp.w_bin ?_ | with_reducible refine Wp.w_call ?_ | with_reducible refine Wp.w_fcall ?_ | with_reducible refine Wp.w_cons ?_ | with_reducible refine Wp.w_nil ?_ | with_reducible refine Wp.w_str ?_ | with_reducible refine Wp.w_bl ?_ | with_reducible refine Wp.w_non ?_ | with_reducible refine Wp.v_peek ?_ | with_reducible refine Wp.v_move ?_ | with_reducible refine Wp.o_zero ?_ | with_reducible refine Wp.o_succ ?_ | with_reducible refine Wp.w_negI ?_ | with_reducible refine Wp.w_neg ?_ | with_reducible refine Wp.w_cmp ?_ | with_reducible refine Wp.w_not ?_ | with_reducible refine Wp.w_ite ?_ | with_reducible refine Wp.w_tup ?_ | with_reducible refine Wp.w_lst ?_ | with_reducible refine Wp.w_idx ?_ | with_reducible refine Wp.w_slice ?_ | with_reducible refine Wp.w_oNil ?_ | with_reducible refine Wp.w_oCons ?_ | with_reducible refine Wp.w_fn1 ?_ | with_reducible refine Wp.w_fn2 ?_ | with_reducible refine Wp.w_meth1 ?_ | with_reducible refine Wp.w_get2 ?_ | with_reducible refine Wp.w_isi ?_ | with_reducible refine Wp.w_ff ?_ | with_reducible refine Wp.w_dic0 ?_ | with_reducible refine Wp.w_cmp2 ?_ | with_reducible refine Wp.w_and ?_ | with_reducible refine Wp.w_or ?_ | with_reducible refine Wp.w_andL ?_ | with_reducible refine Wp.w_orL ?_ | with_reducible refine Wp.w_andC ?_ | with_reducible refine Wp.w_orC ?_ | with_reducible refine Wp.t_and ?_ | with_reducible refine Wp.t_or ?_ | with_reducible refine Wp.t_andN ?_ | with_reducible refine Wp.t_orN ?_ | with_reducible refine Wp.t_andC ?_ | with_reducible refine Wp.t_orC ?_ | with_reducible refine Wp.t_not ?_ | with_reducible refine Wp.t_cmp ?_ | with_reducible refine Wp.t_cmp2 ?_ | with_reducible refine Wp.u_var ?_ | with_reducible refine Wp.u_peek ?_ | with_reducible refine Wp.t_call ?_ | with_reducible refine Wp.t_idx ?_ | with_reducible refine Wp.t_fn1 ?_ | with_reducible refine Wp.t_isi ?_ | with_reducible refine Wp.t_bl ?_ | with_reducible refine Wp.i_seq ?_ | with_reducible refine Wp.i_range1 ?_ | with_reducible refine Wp.i_range ?_ | with_reducible refine Wp.i_zip ?_ | with_reducible refine Wp.s_for ?_ | with_reducible refine Wp.w_comp ?_ | with_reducible refine Wp.t_comp ?_ | with_reducible refine Wp.s_skip ?_ | with_reducible refine Wp.s_seq ?_ | with_reducible refine Wp.s_asg ?_ | with_reducible refine Wp.s_expr ?_ | with_reducible refine Wp.s_ite ?_ | with_reducible refine Wp.s_ret ?_ | with_reducible refine Wp.s_retF ?_ | with_reducible refine Wp.s_cont ?_ | with_reducible refine Wp.pw_some ?_ | with_reducible refine Wp.p_add ?_ | with_reducible refine Wp.p_sub ?_ | with_reducible refine Wp.p_lt ?_ | with_reducible refine Wp.p_le ?_ | with_reducible refine Wp.p_gt ?_ | with_reducible refine Wp.p_ge ?_ | with_reducible refine Wp.p_eq ?_ | with_reducible refine Wp.p_ne ?_ | with_reducible refine Wp.p_eqB ?_ | with_reducible refine Wp.p_neB ?_ | with_reducible refine Wp.p_tBl ?_ | with_reducible refine Wp.p_tInt ?_ | with_reducible refine Wp.p_tNon ?_ | with_reducible refine Wp.p_tScr ?_ | with_reducible refine Wp.p_tLst ?_ | with_reducible refine Wp.p_tTup ?_ | with_reducible refine Wp.p_lenS ?_ | with_reducible refine Wp.p_lenL ?_ | with_reducible refine Wp.p_lenT ?_ | with_reducible refine Wp.p_lenX ?_ | with_reducible refine Wp.v_lenH ?_ | with_reducible refine Wp.h_zero ?_ | with_reducible refine Wp.h_succ ?_ | with_reducible refine Wp.q_abs fun n _ _ => ?_ | with_reducible refine Wp.q_count2 fun n _ _ _ _ => ?_ | with_reducible refine Wp.p_max2 ?_ | with_reducible refine Wp.p_min2 ?_ | with_reducible refine Wp.p_idxS ?_ | with_reducible refine Wp.p_idxL ?_ | with_reducible refine Wp.p_idxT ?_ | with_reducible refine Wp.p_itL ?_ | with_reducible refine Wp.p_itT ?_ | with_reducible refine Wp.p_itS ?_ | ((with_reducible refine Wp.p_set ?_ ?_); exact of_decide_eq_true rfl; dsimp only [List.set]) | ((with_reducible refine Wp.p_mul ?_ ?_); try omega) | ((with_reducible refine Wp.p_fdiv ?_ ?_ ?_); omega; omega) | ((with_reducible refine Wp.p_mod ?_ ?_); try omega) | ((with_reducible refine Wp.p_range ?_ ?_); omega) | ((with_reducible refine Wp.len_ok ?_ ?_); exact rfl) | ((with_reducible refine Wp.set_len ?_ ?_); exact rfl; dsimp only [List.set]) | with_reducible refine Wp.br_t ?_ | with_reducible refine Wp.br_f ?_ | with_reducible refine Wp.br_nt ?_ | with_reducible refine Wp.br_nf ?_ | with_reducible refine ⟨fun hb => ?_, fun hb => ?_⟩ | dsimp only)
  exact h
theorem r_tick_near {k : Nat} {t u : Int} {M : Store} {Q : D → Store → Prop} {X : Nat → Store → Prop} (h : Q (.int (t + ((u - t % 64 + 32) % 64 - 32))) M) : RW (run prg (k + 2) i_tick_near [.int t, .int u] M) Q X := by
  refine Wp.run_w (fn := g_tick_near) rfl rfl ?_
  show OW (ex _ _ [.sh (.int t), .sh (.int u)] _) _
  dsimp only [g_tick_near]
  repeat' (first | with_reducible refine Wp.w_int ?_ | with_reducible refine Wp.v_var ?_ | with_reducible refine Wp.g_zero ?_ | with_reducible refine Wp.g_succ ?_ | with_reducible refine Wp.w_glob ?_ | with_reducible refine Wp.w_bin ?_ | with_reducible refine Wp.w_call ?_ | with_reducible refine Wp.w_fcall ?_ | with_reducible refine Wp.w_cons ?_ | with_reducible refine Wp.w_nil ?_ | with_reducible refine Wp.w_str ?_ | with_reducible refine Wp.w_bl ?_ | with_reducible refine Wp.w_non ?_ | with_reducible refine Wp.v_peek ?_ | with_reducible refine Wp.v_move ?_ | with_reducible refine Wp.o_zero ?_ | with_reducible refine Wp.o_succ ?_ | with_reducible refine Wp.w_negI ?_ | with_reducible refine Wp.w_neg ?_ | with_reducible refine Wp.w_cmp ?_ | with_reducible refine Wp.w_not ?_ | with_reducible refine Wp.w_ite ?_ | with_reducible refine Wp.w_tup ?_ | with_reducible refine Wp.w_lst ?_ | with_reducible refine Wp.w_idx ?_ | with_reducible refine Wp.w_slice ?_ | with_reducible refine Wp.w_oNil ?_ | with_reducible refine Wp.w_oCons ?_ | with_reducible refine Wp.w_fn1 ?_ | with_reducible refine Wp.w_fn2 ?_ | with_reducible refine Wp.w_meth1 ?_ | with_reducible refine Wp.w_get2 ?_ | with_reducible refine Wp.w_isi ?_ | with_reducible refine Wp.w_ff ?_ | with_reducible refine Wp.w_dic0 ?_ | with_reducible refine Wp.w_cmp2 ?_ | with_reducible refine Wp.w_and ?_ | with_reducible refine Wp.w_or ?_ | with_reducible refine Wp.w_andL ?_ | with_reducible refine Wp.w_orL ?_ | with_reducible refine Wp.w_andC ?_ | with_reducible refine Wp.w_orC ?_ | with_reducible refine Wp.t_and ?_ | with_reducible refine Wp.t_or ?_ | with_reducible refine Wp.t_andN ?_ | with_reducible refine Wp.t_orN ?_ | with_reducible refine Wp.t_andC ?_ | with_reducible refine Wp.t_orC ?_ | with_reducible refine Wp.t_not ?_ | with_reducible refine Wp.t_cmp ?_ | with_reducible refine Wp.t_cmp2 ?_ | with_reducible refine Wp.u_var ?_ | with_reducible refine Wp.u_peek ?_ | with_reducible refine Wp.t_call ?_ | with_reducible refine Wp.t_idx ?_ | with_reducible refine Wp.t_fn1 ?_ | with_reducible refine Wp.t_isi ?_ | with_reducible refine Wp.t_bl ?_ | with_reducible refine Wp.i_seq ?_ | with_reducible refine Wp.i_range1 ?_ | with_reducible refine Wp.i_range ?_ | with_reducible refine Wp.i_zip ?_ | with_reducible refine Wp.s_for ?_ | with_reducible refine Wp.w_comp ?_ | with_reducible refine Wp.t_comp ?_ | with_reducible refine Wp.s_skip ?_ | with_reducible refine Wp.s_seq ?_ | with_reducible refine Wp.s_asg ?_ | with_reducible refine Wp.s_expr ?_ | with_reducible refine Wp.s_ite ?_ | with_reducible refine Wp.s_ret ?_ | with_reducible refine Wp.s_retF ?_ | with_reducible refine Wp.s_cont ?_ | with_reducible refine Wp.pw_some ?_ | with_reducible refine Wp.p_add ?_ | with_reducible refine Wp.p_sub ?_ | with_reducible refine Wp.p_lt ?_ | with_reducible refine Wp.p_le ?_ | with_reducible refine Wp.p_gt ?_ | with_reducible refine Wp.p_ge ?_ | with_reducible refine Wp.p_eq ?_ | with_reducible refine Wp.p_ne ?_ | with_reducible refine Wp.p_eqB ?_ | with_reducible refine Wp.p_neB ?_ | with_reducible refine Wp.p_tBl ?_ | with_reducible refine Wp.p_tInt ?_ | with_reducible refine Wp.p_tNon ?_ | with_reducible refine Wp.p_tScr ?_ | with_reducible refine Wp.p_tLst ?_ | with_reducible refine Wp.p_tTup ?_ | with_reducible refine Wp.p_lenS ?_ | with_reducible refine Wp.p_lenL ?_ | with_reducible refine Wp.p_lenT ?_ | with_reducible refine Wp.p_lenX ?_ | with_reducible refine Wp.v_lenH ?_ | with_reducible refine Wp.h_zero ?_ | with_reducible refine Wp.h_succ ?_ | with_reducible refine Wp.q_abs fun n _ _ => ?_ | with_reducible refine Wp.q_count2 fun n _ _ _ _ => ?_ | with_reducible refine Wp.p_max2 ?_ | with_reducible refine Wp.p_min2 ?_ | with_reducible refine Wp.p_idxS ?_ | with_reducible refine Wp.p_idxL ?_ | with_reducible refine Wp.p_idxT ?_ | with_reducible refine Wp.p_itL ?_ | with_reducible refine Wp.p_itT ?_ | with_reducible refine Wp.p_itS ?_ | ((with_reducible refine Wp.p_set ?_ ?_); exact of_decide_eq_true rfl; dsimp only [List.set]) | ((with_reducible refine Wp.p_mul ?_ ?_); try omega) | ((with_reducible refine Wp.p_fdiv ?_ ?_ ?_); omega; omega) | ((with_reducible refine Wp.p_mod ?_ ?_); try omega) | ((with_reducible refine Wp.p_range ?_ ?_); omega) | ((with_reducible refine Wp.len_ok ?_ ?_); exact rfl) | ((with_reducible refine Wp.set_len ?_ ?_); exact rfl; dsimp only [List.set]) | with_reducible refine Wp.br_t ?_ | with_reducible refine Wp.br_f ?_ | with_reducible refine Wp.br_nt ?_ | with_reducible refine Wp.br_nf ?_ | with_reducible refine ⟨fun hb => ?_, fun hb => ?_⟩ | dsimp only)
  refine r_number_of ?_
  repeat' (first | with_reducible refine Wp.w_int ?_ | with_reducible refine Wp.v_var ?_ | with_reducible refine Wp.g_zero ?_ | with_reducible refine Wp.g_succ ?_ | with_reducible refine Wp.w_glob ?_ | with_reducible refine Wp.w_bin ?_ | with_reducible refine Wp.w_call ?_ | with_reducible refine Wp.w_fcall ?_ | with_reducible refine Wp.w_cons ?_ | with_reducible refine Wp.w_nil ?_ | with_reducible refine Wp.w_str ?_ | with_reducible refine Wp.w_bl ?_ | with_reducible refine Wp.w_non ?_ | with_reducible refine Wp.v_peek ?_ | with_reducible refine Wp.v_move ?_ | with_reducible refine Wp.o_zero ?_ | with_reducible refine Wp.o_succ ?_ | with_reducible refine Wp.w_negI ?_ | with_reducible refine Wp.w_neg ?_ | with_reducible refine Wp.w_cmp ?_ | with_reducible refine Wp.w_not ?_ | with_reducible refine Wp.w_ite ?_ | with_reducible refine Wp.w_tup ?_ | with_reducible refine Wp.w_lst ?_ | with_reducible refine Wp.w_idx ?_ | with_reducible refine Wp.w_slice ?_ | with_reducible refine Wp.w_oNil ?_ | with_reducible refine Wp.w_oCons ?_ | with_reducible refine Wp.w_fn1 ?_ | with_reducible refine Wp.w_fn2 ?_ | with_reducible refine Wp.w_meth1 ?_ | with_reducible refine Wp.w_get2 ?_ | with_reducible refine Wp.w_isi ?_ | with_reducible refine Wp.w_ff ?_ | with_reducible refine Wp.w_dic0 ?_ | with_reducible refine Wp.w_cmp2 ?_ | with_reducible refine Wp.w_and ?_ | with_reducible refine Wp.w_or ?_ | with_reducible refine Wp.w_andL ?_ | with_reducible refine Wp.w_orL ?_ | with_reducible refine Wp.w_andC ?_ | with_reducible refine Wp.w_orC ?_ | with_reducible refine Wp.t_and ?_ | with_reducible refine Wp.t_or ?_ | with_reducible refine Wp.t_andN ?_ | with_reducible refine Wp.t_orN ?_ | with_reducible refine Wp.t_andC ?_ | with_reducible refine Wp.t_orC ?_ | with_reducible refine Wp.t_not ?_ | with_reducible refine Wp.t_cmp ?_ | with_reducible refine Wp.t_cmp2 ?_ | with_reducible refine Wp.u_var ?_ | with_reducible refine Wp.u_peek ?_ | with_reducible refine Wp.t_call ?_ | with_reducible refine Wp.t_idx ?_ | with_reducible refine Wp.t_fn1 ?_ | with_reducible refine Wp.t_isi ?_ | with_reducible refine Wp.t_bl ?_ | with_reducible refine Wp.i_seq ?_ | with_reducible refine Wp.i_range1 ?_ | with_reducible refine Wp.i_range ?_ | with_reducible refine Wp.i_zip ?_ | with_reducible refine Wp.s_for ?_ | with_reducible refine Wp.w_comp ?_ | with_reducible refine Wp.t_comp ?_ | with_reducible refine Wp.s_skip ?_ | with_reducible refine Wp.s_seq ?_ | with_reducible refine Wp.s_asg ?_ | with_reducible refine Wp.s_expr ?_ | with_reducible refine Wp.s_ite ?_ | with_reducible refine Wp.s_ret ?_ | with_reducible refine Wp.s_retF ?_ | with_reducible refine Wp.s_cont ?_ | with_reducible refine Wp.pw_some ?_ | with_reducible refine Wp.p_add ?_ | with_reducible refine Wp.p_sub ?_ | with_reducible refine Wp.p_lt ?_ | with_reducible refine Wp.p_le ?_ | with_reducible refine Wp.p_gt ?_ | with_reducible refine Wp.p_ge ?_ | with_reducible refine Wp.p_eq ?_ | with_reducible refine Wp.p_ne ?_ | with_reducible refine Wp.p_eqB ?_ | with_reducible refine Wp.p_neB ?_ | with_reducible refine Wp.p_tBl ?_ | with_reducible refine Wp.p_tInt ?_ | with_reducible refine Wp.p_tNon ?_ | with_reducible refine Wp.p_tScr ?_ | with_reducible refine Wp.p_tLst ?_ | with_reducible refine Wp.p_tTup ?_ | with_reducible refine Wp.p_lenS ?_ | with_reducible refine Wp.p_lenL ?_ | with_reducible refine Wp.p_lenT ?_ | with_reducible refine Wp.p_lenX ?_ | with_reducible refine Wp.v_lenH ?_ | with_reducible refine Wp.h_zero ?_ | with_reducible refine Wp.h_succ ?_ | with_reducible refine Wp.q_abs fun n _ _ => ?_ | with_reducible refine Wp.q_count2 fun n _ _ _ _ => ?_ | with_reducible refine Wp.p_max2 ?_ | with_reducible refine Wp.p_min2 ?_ | with_reducible refine Wp.p_idxS ?_ | with_reducible refine Wp.p_idxL ?_ | with_reducible refine Wp.p_idxT ?_ | with_reducible refine Wp.p_itL ?_ | with_reducible refine Wp.p_itT ?_ | with_reducible refine Wp.p_itS ?_ | ((with_reducible refine Wp.p_set ?_ ?_); exact of_decide_eq_true rfl; dsimp only [List.set]) | ((with_reducible refine Wp.p_mul ?_ ?_); try omega) | ((with_reducible refine Wp.p_fdiv ?_ ?_ ?_); omega; omega) | ((with_reducible refine Wp.p_mod ?_ ?_); try omega) | ((with_reducible refine Wp.p_range ?_ ?_); omega) | ((with_reducible refine Wp.len_ok ?_ ?_); exact rfl) | ((with_reducible refine Wp.set_len ?_ ?_); exact rfl; dsimp only [List.set]) | with_reducible refine Wp.br_t ?_ | with_reducible refine Wp.br_f ?_ | with_reducible refine Wp.br_nt ?_ | with_reducible refine Wp.br_nf ?_ | with_reducible refine ⟨fun hb => ?_, fun hb => ?_⟩ | dsimp only)
  refine r_ahead ?_
  repeat' (first | with_reducible refine Wp.w_int ?_ | with_reducible refine Wp.v_var ?_ | with_reducible refine Wp.g_zero ?_ | with_reducible refine Wp.g_succ ?_ | with_reducible refine Wp.w_glob ?_ | with_reducible refine Wp.w_bin ?_ | with_reducible refine Wp.w_call ?_ | with_reducible refine Wp.w_fcall ?_ | with_reducible refine Wp.w_cons ?_ | with_reducible refine Wp.w_nil ?_ | with_reducible refine Wp.w_str ?_ | with_reducible refine Wp.w_bl ?_ | with_reducible refine Wp.w_non ?_ | with_reducible refine Wp.v_peek ?_ | with_reducible refine Wp.v_move ?_ | with_reducible refine Wp.o_zero ?_ | with_reducible refine Wp.o_succ ?_ | with_reducible refine Wp.w_negI ?_ | with_reducible refine Wp.w_neg ?_ | with_reducible refine Wp.w_cmp ?_ | with_reducible refine Wp.w_not ?_ | with_reducible refine Wp.w_ite ?_ | with_reducible refine Wp.w_tup ?_ | with_reducible refine Wp.w_lst ?_ | with_reducible refine Wp.w_idx ?_ | with_reducible refine Wp.w_slice ?_ | with_reducible refine Wp.w_oNil ?_ | with_reducible refine Wp.w_oCons ?_ | with_reducible refine Wp.w_fn1 ?_ | with_reducible refine Wp.w_fn2 ?_ | with_reducible refine Wp.w_meth1 ?_ | with_reducible refine Wp.w_get2 ?_ | with_reducible refine Wp.w_isi ?_ | with_reducible refine Wp.w_ff ?_ | with_reducible refine Wp.w_dic0 ?_ | with_reducible refine Wp.w_cmp2 ?_ | with_reducible refine Wp.w_and ?_ | with_reducible refine Wp.w_or ?_ | with_reducible refine Wp.w_andL ?_ | with_reducible refine Wp.w_orL ?_ | with_reducible refine Wp.w_andC ?_ | with_reducible refine Wp.w_orC ?_ | with_reducible refine Wp.t_and ?_ | with_reducible refine Wp.t_or ?_ | with_reducible refine Wp.t_andN ?_ | with_reducible refine Wp.t_orN ?_ | with_reducible refine Wp.t_andC ?_ | with_reducible refine Wp.t_orC ?_ | with_reducible refine Wp.t_not ?_ | with_reducible refine Wp.t_cmp ?_ | with_reducible refine Wp.t_cmp2 ?_ | with_reducible refine Wp.u_var ?_ | with_reducible refine Wp.u_peek ?_ | with_reducible refine Wp.t_call ?_ | with_reducible refine Wp.t_idx ?_ | with_reducible refine Wp.t_fn1 ?_ | with_reducible refine Wp.t_isi ?_ | with_reducible refine Wp.t_bl ?_ | with_reducible refine Wp.i_seq ?_ | with_reducible refine Wp.i_range1 ?_ | with_reducible refine Wp.i_range ?_ | with_reducible refine Wp.i_zip ?_ | with_reducible refine Wp.s_for ?_ | with_reducible refine Wp.w_comp ?_ | with_reducible refine Wp.t_comp ?_ | with_reducible refine Wp.s_skip ?_ | with_reducible refine Wp.s_seq ?_ | with_reducible refine Wp.s_asg ?_ | with_reducible refine Wp.s_expr ?_ | with_reducible refine Wp.s_ite ?_ | with_reducible refine Wp.s_ret ?_ | with_reducible refine Wp.s_retF ?_ | with_reducible refine Wp.s_cont ?_ | with_reducible refine Wp.pw_some ?_ | with_reducible refine Wp.p_add ?_ | with_reducible refine Wp.p_sub ?_ | with_reducible refine Wp.p_lt ?_ | with_reducible refine Wp.p_le ?_ | with_reducible refine Wp.p_gt ?_ | with_reducible refine Wp.p_ge ?_ | with_reducible refine Wp.p_eq ?_ | with_reducible refine Wp.p_ne ?_ | with_reducible refine Wp.p_eqB ?_ | with_reducible refine Wp.p_neB ?_ | with_reducible refine Wp.p_tBl ?_ | with_reducible refine Wp.p_tInt ?_ | with_reducible refine Wp.p_tNon ?_ | with_reducible refine Wp.p_tScr ?_ | with_reducible refine Wp.p_tLst ?_ | with_reducible refine Wp.p_tTup ?_ | with_reducible refine Wp.p_lenS ?_ | with_reducible refine Wp.p_lenL ?_ | with_reducible refine Wp.p_lenT ?_ | with_reducible refine Wp.p_lenX ?_ | with_reducible refine Wp.v_lenH ?_ | with_reducible refine Wp.h_zero ?_ | with_reducible refine Wp.h_succ ?_ | with_reducible refine Wp.q_abs fun n _ _ => ?_ | with_reducible refine Wp.q_count2 fun n _ _ _ _ => ?_ | with_reducible refine Wp.p_max2 ?_ | with_reducible refine Wp.p_min2 ?_ | with_reducible refine Wp.p_idxS ?_ | with_reducible refine Wp.p_idxL ?_ | with_reducible refine Wp.p_idxT ?_ | with_reducible refine Wp.p_itL ?_ | with_reducible refine Wp.p_itT ?_ | with_reducible refine Wp.p_itS ?_ | ((with_reducible refine Wp.p_set ?_ ?_); exact of_decide_eq_true rfl; dsimp only [List.set]) | ((with_reducible refine Wp.p_mul ?_ ?_); try omega) | ((with_reducible refine Wp.p_fdiv ?_ ?_ ?_); omega; omega) | ((with_reducible refine Wp.p_mod ?_ ?_); try omega) | ((with_reducible refine Wp.p_range ?_ ?_); omega) | ((with_reducible refine Wp.len_ok ?_ ?_); exact rfl) | ((with_reducible refine Wp.set_len ?_ ?_); exact rfl; dsimp only [List.set]) | with_reducible refine Wp.br_t ?_ | with_reducible refine Wp.br_f ?_ | with_reducible refine Wp.br_nt ?_ | with_reducible refine Wp.br_nf ?_ | with_reducible refine ⟨fun hb => ?_, fun hb => ?_⟩ | dsimp only)
  exact h
theorem hrunW (ns : List Int) : RW (run prg 6 6 [.scr (ns.map .int)] []) (fun d _ => d = .bl true) fun _ _ => False := by
  refine Wp.run_w (fn := g_law) rfl rfl ?_
  show OW (ex _ _ [.sh (.scr (ns.map .int)), .no, .no, .no, .no, .no, .no, .no, .no, .no, .no] _) _
  dsimp only [g_law]
  refine Wp.s_seq (Wp.s_hnew ?_)
  repeat' (first | with_reducible refine Wp.w_int ?_ | with_reducible refine Wp.v_var ?_ | with_reducible refine Wp.g_zero ?_ | with_reducible refine Wp.g_succ ?_ | with_reducible refine Wp.w_glob ?_ | with_reducible refine Wp.w_bin ?_ | with_reducible refine Wp.w_call ?_ | with_reducible refine Wp.w_fcall ?_ | with_reducible refine Wp.w_cons ?_ | with_reducible refine Wp.w_nil ?_ | with_reducible refine Wp.w_str ?_ | with_reducible refine Wp.w_bl ?_ | with_reducible refine Wp.w_non ?_ | with_reducible refine Wp.v_peek ?_ | with_reducible refine Wp.v_move ?_ | with_reducible refine Wp.o_zero ?_ | with_reducible refine Wp.o_succ ?_ | with_reducible refine Wp.w_negI ?_ | with_reducible refine Wp.w_neg ?_ | with_reducible refine Wp.w_cmp ?_ | with_reducible refine Wp.w_not ?_ | with_reducible refine Wp.w_ite ?_ | with_reducible refine Wp.w_tup ?_ | with_reducible refine Wp.w_lst ?_ | with_reducible refine Wp.w_idx ?_ | with_reducible refine Wp.w_slice ?_ | with_reducible refine Wp.w_oNil ?_ | with_reducible refine Wp.w_oCons ?_ | with_reducible refine Wp.w_fn1 ?_ | with_reducible refine Wp.w_fn2 ?_ | with_reducible refine Wp.w_meth1 ?_ | with_reducible refine Wp.w_get2 ?_ | with_reducible refine Wp.w_isi ?_ | with_reducible refine Wp.w_ff ?_ | with_reducible refine Wp.w_dic0 ?_ | with_reducible refine Wp.w_cmp2 ?_ | with_reducible refine Wp.w_and ?_ | with_reducible refine Wp.w_or ?_ | with_reducible refine Wp.w_andL ?_ | with_reducible refine Wp.w_orL ?_ | with_reducible refine Wp.w_andC ?_ | with_reducible refine Wp.w_orC ?_ | with_reducible refine Wp.t_and ?_ | with_reducible refine Wp.t_or ?_ | with_reducible refine Wp.t_andN ?_ | with_reducible refine Wp.t_orN ?_ | with_reducible refine Wp.t_andC ?_ | with_reducible refine Wp.t_orC ?_ | with_reducible refine Wp.t_not ?_ | with_reducible refine Wp.t_cmp ?_ | with_reducible refine Wp.t_cmp2 ?_ | with_reducible refine Wp.u_var ?_ | with_reducible refine Wp.u_peek ?_ | with_reducible refine Wp.t_call ?_ | with_reducible refine Wp.t_idx ?_ | with_reducible refine Wp.t_fn1 ?_ | with_reducible refine Wp.t_isi ?_ | with_reducible refine Wp.t_bl ?_ | with_reducible refine Wp.i_seq ?_ | with_reducible refine Wp.i_range1 ?_ | with_reducible refine Wp.i_range ?_ | with_reducible refine Wp.i_zip ?_ | with_reducible refine Wp.s_for ?_ | with_reducible refine Wp.w_comp ?_ | with_reducible refine Wp.t_comp ?_ | with_reducible refine Wp.s_skip ?_ | with_reducible refine Wp.s_seq ?_ | with_reducible refine Wp.s_asg ?_ | with_reducible refine Wp.s_expr ?_ | with_reducible refine Wp.s_ite ?_ | with_reducible refine Wp.s_ret ?_ | with_reducible refine Wp.s_retF ?_ | with_reducible refine Wp.s_cont ?_ | with_reducible refine Wp.pw_some ?_ | with_reducible refine Wp.p_add ?_ | with_reducible refine Wp.p_sub ?_ | with_reducible refine Wp.p_lt ?_ | with_reducible refine Wp.p_le ?_ | with_reducible refine Wp.p_gt ?_ | with_reducible refine Wp.p_ge ?_ | with_reducible refine Wp.p_eq ?_ | with_reducible refine Wp.p_ne ?_ | with_reducible refine Wp.p_eqB ?_ | with_reducible refine Wp.p_neB ?_ | with_reducible refine Wp.p_tBl ?_ | with_reducible refine Wp.p_tInt ?_ | with_reducible refine Wp.p_tNon ?_ | with_reducible refine Wp.p_tScr ?_ | with_reducible refine Wp.p_tLst ?_ | with_reducible refine Wp.p_tTup ?_ | with_reducible refine Wp.p_lenS ?_ | with_reducible refine Wp.p_lenL ?_ | with_reducible refine Wp.p_lenT ?_ | with_reducible refine Wp.p_lenX ?_ | with_reducible refine Wp.v_lenH ?_ | with_reducible refine Wp.h_zero ?_ | with_reducible refine Wp.h_succ ?_ | with_reducible refine Wp.q_abs fun n _ _ => ?_ | with_reducible refine Wp.q_count2 fun n _ _ _ _ => ?_ | with_reducible refine Wp.p_max2 ?_ | with_reducible refine Wp.p_min2 ?_ | with_reducible refine Wp.p_idxS ?_ | with_reducible refine Wp.p_idxL ?_ | with_reducible refine Wp.p_idxT ?_ | with_reducible refine Wp.p_itL ?_ | with_reducible refine Wp.p_itT ?_ | with_reducible refine Wp.p_itS ?_ | ((with_reducible refine Wp.p_set ?_ ?_); exact of_decide_eq_true rfl; dsimp only [List.set]) | ((with_reducible refine Wp.p_mul ?_ ?_); try omega) | ((with_reducible refine Wp.p_fdiv ?_ ?_ ?_); omega; omega) | ((with_reducible refine Wp.p_mod ?_ ?_); try omega) | ((with_reducible refine Wp.p_range ?_ ?_); omega) | ((with_reducible refine Wp.len_ok ?_ ?_); exact rfl) | ((with_reducible refine Wp.set_len ?_ ?_); exact rfl; dsimp only [List.set]) | with_reducible refine Wp.br_t ?_ | with_reducible refine Wp.br_f ?_ | with_reducible refine Wp.br_nt ?_ | with_reducible refine Wp.br_nf ?_ | with_reducible refine ⟨fun hb => ?_, fun hb => ?_⟩ | dsimp only)
  show OW (forL _ _ _ (twn (6 * 0))) _
  refine Wp.forL_inv (fun i ρ M => ∃ s2 s3 s4 s5 s6 s7 s8 s9 s10 : Slot, ρ = [.sh (.scr (ns.map .int)), .sh (.hnd 0), s2, s3, s4, s5, s6, s7, s8, s9, s10] ∧ M = twn (6 * i)) _ ⟨_, _, _, _, _, _, _, _, _, rfl, rfl⟩ ?_ ?_
  · rintro i hi ρ M ⟨s2, s3, s4, s5, s6, s7, s8, s9, s10, rfl, rfl⟩
    have hi : i < 12 := by rw [Wp.rangeL_len] at hi; exact hi
    rw [Wp.rangeL_get]
    refine Wp.s_step (ρ1 := [.sh (.scr (ns.map .int)), .sh (.hnd 0), .sh (.int (0 + i)), s3, s4, s5, s6, s7, s8, s9, s10]) rfl ?_
    repeat' (first | with_reducible refine Wp.w_int ?_ | with_reducible refine Wp.v_var ?_ | with_reducible refine Wp.g_zero ?_ | with_reducible refine Wp.g_succ ?_ | with_reducible refine Wp.w_glob ?_ | with_reducible refine Wp.w_bin ?_ | with_reducible refine Wp.w_call ?_ | with_reducible refine Wp.w_fcall ?_ | with_reducible refine Wp.w_cons ?_ | with_reducible refine Wp.w_nil ?_ | with_reducible refine Wp.w_str ?_ | with_reducible refine Wp.w_bl ?_ | with_reducible refine Wp.w_non ?_ | with_reducible refine Wp.v_peek ?_ | with_reducible refine Wp.v_move ?_ | with_reducible refine Wp.o_zero ?_ | with_reducible refine Wp.o_succ ?_ | with_reducible refine Wp.w_negI ?_ | with_reducible refine Wp.w_neg ?_ | with_reducible refine Wp.w_cmp ?_ | with_reducible refine Wp.w_not ?_ | with_reducible refine Wp.w_ite ?_ | with_reducible refine Wp.w_tup ?_ | with_reducible refine Wp.w_lst ?_ | with_reducible refine Wp.w_idx ?_ | with_reducible refine Wp.w_slice ?_ | with_reducible refine Wp.w_oNil ?_ | with_reducible refine Wp.w_oCons ?_ | with_reducible refine Wp.w_fn1 ?_ | with_reducible refine Wp.w_fn2 ?_ | with_reducible refine Wp.w_meth1 ?_ | with_reducible refine Wp.w_get2 ?_ | with_reducible refine Wp.w_isi ?_ | with_reducible refine Wp.w_ff ?_ | with_reducible refine Wp.w_dic0 ?_ | with_reducible refine Wp.w_cmp2 ?_ | with_reducible refine Wp.w_and ?_ | with_reducible refine Wp.w_or ?_ | with_reducible refine Wp.w_andL ?_ | with_reducible refine Wp.w_orL ?_ | with_reducible refine Wp.w_andC ?_ | with_reducible refine Wp.w_orC ?_ | with_reducible refine Wp.t_and ?_ | with_reducible refine Wp.t_or ?_ | with_reducible refine Wp.t_andN ?_ | with_reducible refine Wp.t_orN ?_ | with_reducible refine Wp.t_andC ?_ | with_reducible refine Wp.t_orC ?_ | with_reducible refine Wp.t_not ?_ | with_reducible refine Wp.t_cmp ?_ | with_reducible refine Wp.t_cmp2 ?_ | with_reducible refine Wp.u_var ?_ | with_reducible refine Wp.u_peek ?_ | with_reducible refine Wp.t_call ?_ | with_reducible refine Wp.t_idx ?_ | with_reducible refine Wp.t_fn1 ?_ | with_reducible refine Wp.t_isi ?_ | with_reducible refine Wp.t_bl ?_ | with_reducible refine Wp.i_seq ?_ | with_reducible refine Wp.i_range1 ?_ | with_reducible refine Wp.i_range ?_ | with_reducible refine Wp.i_zip ?_ | with_reducible refine Wp.s_for ?_ | with_reducible refine Wp.w_comp ?_ | with_reducible refine Wp.t_comp ?_ | with_reducible refine Wp.s_skip ?_ | with_reducible refine Wp.s_seq ?_ | with_reducible refine Wp.s_asg ?_ | with_reducible refine Wp.s_expr ?_ | with_reducible refine Wp.s_ite ?_ | with_reducible refine Wp.s_ret ?_ | with_reducible refine Wp.s_retF ?_ | with_reducible refine Wp.s_cont ?_ | with_reducible refine Wp.pw_some ?_ | with_reducible refine Wp.p_add ?_ | with_reducible refine Wp.p_sub ?_ | with_reducible refine Wp.p_lt ?_ | with_reducible refine Wp.p_le ?_ | with_reducible refine Wp.p_gt ?_ | with_reducible refine Wp.p_ge ?_ | with_reducible refine Wp.p_eq ?_ | with_reducible refine Wp.p_ne ?_ | with_reducible refine Wp.p_eqB ?_ | with_reducible refine Wp.p_neB ?_ | with_reducible refine Wp.p_tBl ?_ | with_reducible refine Wp.p_tInt ?_ | with_reducible refine Wp.p_tNon ?_ | with_reducible refine Wp.p_tScr ?_ | with_reducible refine Wp.p_tLst ?_ | with_reducible refine Wp.p_tTup ?_ | with_reducible refine Wp.p_lenS ?_ | with_reducible refine Wp.p_lenL ?_ | with_reducible refine Wp.p_lenT ?_ | with_reducible refine Wp.p_lenX ?_ | with_reducible refine Wp.v_lenH ?_ | with_reducible refine Wp.h_zero ?_ | with_reducible refine Wp.h_succ ?_ | with_reducible refine Wp.q_abs fun n _ _ => ?_ | with_reducible refine Wp.q_count2 fun n _ _ _ _ => ?_ | with_reducible refine Wp.p_max2 ?_ | with_reducible refine Wp.p_min2 ?_ | with_reducible refine Wp.p_idxS ?_ | with_reducible refine Wp.p_idxL ?_ | with_reducible refine Wp.p_idxT ?_ | with_reducible refine Wp.p_itL ?_ | with_reducible refine Wp.p_itT ?_ | with_reducible refine Wp.p_itS ?_ | ((with_reducible refine Wp.p_set ?_ ?_); exact of_decide_eq_true rfl; dsimp only [List.set]) | ((with_reducible refine Wp.p_mul ?_ ?_); try omega) | ((with_reducible refine Wp.p_fdiv ?_ ?_ ?_); omega; omega) | ((with_reducible refine Wp.p_mod ?_ ?_); try omega) | ((with_reducible refine Wp.p_range ?_ ?_); omega) | ((with_reducible refine Wp.len_ok ?_ ?_); exact rfl) | ((with_reducible refine Wp.set_len ?_ ?_); exact rfl; dsimp only [List.set]) | with_reducible refine Wp.br_t ?_ | with_reducible refine Wp.br_f ?_ | with_reducible refine Wp.br_nt ?_ | with_reducible refine Wp.br_nf ?_ | with_reducible refine ⟨fun hb => ?_, fun hb => ?_⟩ | ((with_reducible refine r_draw ?_ ?_ fun x h0 h1 => ?_); omega; omega) | ((with_reducible refine r_pick3 ?_ fun y hy => ?_); omega) | with_reducible refine r_number_of ?_ | with_reducible refine r_ahead ?_ | with_reducible refine r_is_newer ?_ | with_reducible refine r_tick_near ?_ | dsimp only)
    refine Wp.compL_inv (fun j r M => ∃ xs : List Int, r = xs.map .int ∧ xs.length = j ∧ (∀ x ∈ xs, 0 ≤ x ∧ x < 64) ∧ M = twn (6 * i + 1 + 1 + 1 + j)) _ ⟨[], rfl, rfl, fun _ h => absurd h List.not_mem_nil, rfl⟩ ?_ ?_
    · rintro j hj r M ⟨xs, rfl, hl, hx, rfl⟩
      have hj : j < 3 := by rw [Wp.rangeL_len] at hj; exact hj
      rw [Wp.rangeL_get]
      refine Wp.step_all rfl ?_
      dsimp only [wipeR, List.set]
      repeat' (first | with_reducible refine Wp.w_int ?_ | with_reducible refine Wp.v_var ?_ | with_reducible refine Wp.g_zero ?_ | with_reducible refine Wp.g_succ ?_ | with_reducible refine Wp.w_glob ?_ | with_reducible refine Wp.w_bin ?_ | with_reducible refine Wp.w_call ?_ | with_reducible refine Wp.w_fcall ?_ | with_reducible refine Wp.w_cons ?_ | with_reducible refine Wp.w_nil ?_ | with_reducible refine Wp.w_str ?_ | with_reducible refine Wp.w_bl ?_ | with_reducible refine Wp.w_non ?_ | with_reducible refine Wp.v_peek ?_ | with_reducible refine Wp.v_move ?_ | with_reducible refine Wp.o_zero ?_ | with_reducible refine Wp.o_succ ?_ | with_reducible refine Wp.w_negI ?_ | with_reducible refine Wp.w_neg ?_ | with_reducible refine Wp.w_cmp ?_ | with_reducible refine Wp.w_not ?_ | with_reducible refine Wp.w_ite ?_ | with_reducible refine Wp.w_tup ?_ | with_reducible refine Wp.w_lst ?_ | with_reducible refine Wp.w_idx ?_ | with_reducible refine Wp.w_slice ?_ | with_reducible refine Wp.w_oNil ?_ | with_reducible refine Wp.w_oCons ?_ | with_reducible refine Wp.w_fn1 ?_ | with_reducible refine Wp.w_fn2 ?_ | with_reducible refine Wp.w_meth1 ?_ | with_reducible refine Wp.w_get2 ?_ | with_reducible refine Wp.w_isi ?_ | with_reducible refine Wp.w_ff ?_ | with_reducible refine Wp.w_dic0 ?_ | with_reducible refine Wp.w_cmp2 ?_ | with_reducible refine Wp.w_and ?_ | with_reducible refine Wp.w_or ?_ | with_reducible refine Wp.w_andL ?_ | with_reducible refine Wp.w_orL ?_ | with_reducible refine Wp.w_andC ?_ | with_reducible refine Wp.w_orC ?_ | with_reducible refine Wp.t_and ?_ | with_reducible refine Wp.t_or ?_ | with_reducible refine Wp.t_andN ?_ | with_reducible refine Wp.t_orN ?_ | with_reducible refine Wp.t_andC ?_ | with_reducible refine Wp.t_orC ?_ | with_reducible refine Wp.t_not ?_ | with_reducible refine Wp.t_cmp ?_ | with_reducible refine Wp.t_cmp2 ?_ | with_reducible refine Wp.u_var ?_ | with_reducible refine Wp.u_peek ?_ | with_reducible refine Wp.t_call ?_ | with_reducible refine Wp.t_idx ?_ | with_reducible refine Wp.t_fn1 ?_ | with_reducible refine Wp.t_isi ?_ | with_reducible refine Wp.t_bl ?_ | with_reducible refine Wp.i_seq ?_ | with_reducible refine Wp.i_range1 ?_ | with_reducible refine Wp.i_range ?_ | with_reducible refine Wp.i_zip ?_ | with_reducible refine Wp.s_for ?_ | with_reducible refine Wp.w_comp ?_ | with_reducible refine Wp.t_comp ?_ | with_reducible refine Wp.s_skip ?_ | with_reducible refine Wp.s_seq ?_ | with_reducible refine Wp.s_asg ?_ | with_reducible refine Wp.s_expr ?_ | with_reducible refine Wp.s_ite ?_ | with_reducible refine Wp.s_ret ?_ | with_reducible refine Wp.s_retF ?_ | with_reducible refine Wp.s_cont ?_ | with_reducible refine Wp.pw_some ?_ | with_reducible refine Wp.p_add ?_ | with_reducible refine Wp.p_sub ?_ | with_reducible refine Wp.p_lt ?_ | with_reducible refine Wp.p_le ?_ | with_reducible refine Wp.p_gt ?_ | with_reducible refine Wp.p_ge ?_ | with_reducible refine Wp.p_eq ?_ | with_reducible refine Wp.p_ne ?_ | with_reducible refine Wp.p_eqB ?_ | with_reducible refine Wp.p_neB ?_ | with_reducible refine Wp.p_tBl ?_ | with_reducible refine Wp.p_tInt ?_ | with_reducible refine Wp.p_tNon ?_ | with_reducible refine Wp.p_tScr ?_ | with_reducible refine Wp.p_tLst ?_ | with_reducible refine Wp.p_tTup ?_ | with_reducible refine Wp.p_lenS ?_ | with_reducible refine Wp.p_lenL ?_ | with_reducible refine Wp.p_lenT ?_ | with_reducible refine Wp.p_lenX ?_ | with_reducible refine Wp.v_lenH ?_ | with_reducible refine Wp.h_zero ?_ | with_reducible refine Wp.h_succ ?_ | with_reducible refine Wp.q_abs fun n _ _ => ?_ | with_reducible refine Wp.q_count2 fun n _ _ _ _ => ?_ | with_reducible refine Wp.p_max2 ?_ | with_reducible refine Wp.p_min2 ?_ | with_reducible refine Wp.p_idxS ?_ | with_reducible refine Wp.p_idxL ?_ | with_reducible refine Wp.p_idxT ?_ | with_reducible refine Wp.p_itL ?_ | with_reducible refine Wp.p_itT ?_ | with_reducible refine Wp.p_itS ?_ | ((with_reducible refine Wp.p_set ?_ ?_); exact of_decide_eq_true rfl; dsimp only [List.set]) | ((with_reducible refine Wp.p_mul ?_ ?_); try omega) | ((with_reducible refine Wp.p_fdiv ?_ ?_ ?_); omega; omega) | ((with_reducible refine Wp.p_mod ?_ ?_); try omega) | ((with_reducible refine Wp.p_range ?_ ?_); omega) | ((with_reducible refine Wp.len_ok ?_ ?_); exact rfl) | ((with_reducible refine Wp.set_len ?_ ?_); exact rfl; dsimp only [List.set]) | with_reducible refine Wp.br_t ?_ | with_reducible refine Wp.br_f ?_ | with_reducible refine Wp.br_nt ?_ | with_reducible refine Wp.br_nf ?_ | with_reducible refine ⟨fun hb => ?_, fun hb => ?_⟩ | ((with_reducible refine r_draw ?_ ?_ fun x h0 h1 => ?_); omega; omega) | ((with_reducible refine r_pick3 ?_ fun y hy => ?_); omega) | with_reducible refine r_number_of ?_ | with_reducible refine r_ahead ?_ | with_reducible refine r_is_newer ?_ | with_reducible refine r_tick_near ?_ | dsimp only)
      refine ⟨xs ++ [x], by simp [Wp.addO], by simp [hl], fun z hz => ?_, rfl⟩
      rcases List.mem_append.mp hz with q | q
      · exact hx z q
      · rw [List.mem_singleton.mp q]; exact ⟨h0, h1⟩
    · rintro r M ⟨xs, rfl, hl, hx, rfl⟩
      have hl : xs.length = 3 := by rw [hl, Wp.rangeL_len]; rfl
      match xs, hl, hx with
      | [a, b, c], _, hx =>
      have ha := hx a (by simp)
      have hb' := hx b (by simp)
      have hc := hx c (by simp)
      refine Wp.pw_eq rfl ?_
      show OW (ex _ _ [.sh (.scr (ns.map .int)), .sh (.hnd 0), .sh (.int (0 + (i : Int))), .sh (.int (x - y)), .sh (.int a), .sh (.int b), .sh (.int c), s7, s8, s9, s10] (twn (6 * i + 6))) _
      generalize x - y = t
      clear hx hl
      repeat' (first | with_reducible refine Wp.w_int ?_ | with_reducible refine Wp.v_var ?_ | with_reducible refine Wp.g_zero ?_ | with_reducible refine Wp.g_succ ?_ | with_reducible refine Wp.w_glob ?_ | with_reducible refine Wp.w_bin ?_ | with_reducible refine Wp.w_call ?_ | with_reducible refine Wp.w_fcall ?_ | with_reducible refine Wp.w_cons ?_ | with_reducible refine Wp.w_nil ?_ | with_reducible refine Wp.w_str ?_ | with_reducible refine Wp.w_bl ?_ | with_reducible refine Wp.w_non ?_ | with_reducible refine Wp.v_peek ?_ | with_reducible refine Wp.v_move ?_ | with_reducible refine Wp.o_zero ?_ | with_reducible refine Wp.o_succ ?_ | with_reducible refine Wp.w_negI ?_ | with_reducible refine Wp.w_neg ?_ | with_reducible refine Wp.w_cmp ?_ | with_reducible refine Wp.w_not ?_ | with_reducible refine Wp.w_ite ?_ | with_reducible refine Wp.w_tup ?_ | with_reducible refine Wp.w_lst ?_ | with_reducible refine Wp.w_idx ?_ | with_reducible refine Wp.w_slice ?_ | with_reducible refine Wp.w_oNil ?_ | with_reducible refine Wp.w_oCons ?_ | with_reducible refine Wp.w_fn1 ?_ | with_reducible refine Wp.w_fn2 ?_ | with_reducible refine Wp.w_meth1 ?_ | with_reducible refine Wp.w_get2 ?_ | with_reducible refine Wp.w_isi ?_ | with_reducible refine Wp.w_ff ?_ | with_reducible refine Wp.w_dic0 ?_ | with_reducible refine Wp.w_cmp2 ?_ | with_reducible refine Wp.w_and ?_ | with_reducible refine Wp.w_or ?_ | with_reducible refine Wp.w_andL ?_ | with_reducible refine Wp.w_orL ?_ | with_reducible refine Wp.w_andC ?_ | with_reducible refine Wp.w_orC ?_ | with_reducible refine Wp.t_and ?_ | with_reducible refine Wp.t_or ?_ | with_reducible refine Wp.t_andN ?_ | with_reducible refine Wp.t_orN ?_ | with_reducible refine Wp.t_andC ?_ | with_reducible refine Wp.t_orC ?_ | with_reducible refine Wp.t_not ?_ | with_reducible refine Wp.t_cmp ?_ | with_reducible refine Wp.t_cmp2 ?_ | with_reducible refine Wp.u_var ?_ | with_reducible refine Wp.u_peek ?_ | with_reducible refine Wp.t_call ?_ | with_reducible refine Wp.t_idx ?_ | with_reducible refine Wp.t_fn1 ?_ | with_reducible refine Wp.t_isi ?_ | with_reducible refine Wp.t_bl ?_ | with_reducible refine Wp.i_seq ?_ | with_reducible refine Wp.i_range1 ?_ | with_reducible refine Wp.i_range ?_ | with_reducible refine Wp.i_zip ?_ | with_reducible refine Wp.s_for ?_ | with_reducible refine Wp.w_comp ?_ | with_reducible refine Wp.t_comp ?_ | with_reducible refine Wp.s_skip ?_ | with_reducible refine Wp.s_seq ?_ | with_reducible refine Wp.s_asg ?_ | with_reducible refine Wp.s_expr ?_ | with_reducible refine Wp.s_ite ?_ | with_reducible refine Wp.s_ret ?_ | with_reducible refine Wp.s_retF ?_ | with_reducible refine Wp.s_cont ?_ | with_reducible refine Wp.pw_some ?_ | with_reducible refine Wp.p_add ?_ | with_reducible refine Wp.p_sub ?_ | with_reducible refine Wp.p_lt ?_ | with_reducible refine Wp.p_le ?_ | with_reducible refine Wp.p_gt ?_ | with_reducible refine Wp.p_ge ?_ | with_reducible refine Wp.p_eq ?_ | with_reducible refine Wp.p_ne ?_ | with_reducible refine Wp.p_eqB ?_ | with_reducible refine Wp.p_neB ?_ | with_reducible refine Wp.p_tBl ?_ | with_reducible refine Wp.p_tInt ?_ | with_reducible refine Wp.p_tNon ?_ | with_reducible refine Wp.p_tScr ?_ | with_reducible refine Wp.p_tLst ?_ | with_reducible refine Wp.p_tTup ?_ | with_reducible refine Wp.p_lenS ?_ | with_reducible refine Wp.p_lenL ?_ | with_reducible refine Wp.p_lenT ?_ | with_reducible refine Wp.p_lenX ?_ | with_reducible refine Wp.v_lenH ?_ | with_reducible refine Wp.h_zero ?_ | with_reducible refine Wp.h_succ ?_ | with_reducible refine Wp.q_abs fun n _ _ => ?_ | with_reducible refine Wp.q_count2 fun n _ _ _ _ => ?_ | with_reducible refine Wp.p_max2 ?_ | with_reducible refine Wp.p_min2 ?_ | with_reducible refine Wp.p_idxS ?_ | with_reducible refine Wp.p_idxL ?_ | with_reducible refine Wp.p_idxT ?_ | with_reducible refine Wp.p_itL ?_ | with_reducible refine Wp.p_itT ?_ | with_reducible refine Wp.p_itS ?_ | ((with_reducible refine Wp.p_set ?_ ?_); exact of_decide_eq_true rfl; dsimp only [List.set]) | ((with_reducible refine Wp.p_mul ?_ ?_); try omega) | ((with_reducible refine Wp.p_fdiv ?_ ?_ ?_); omega; omega) | ((with_reducible refine Wp.p_mod ?_ ?_); try omega) | ((with_reducible refine Wp.p_range ?_ ?_); omega) | ((with_reducible refine Wp.len_ok ?_ ?_); exact rfl) | ((with_reducible refine Wp.set_len ?_ ?_); exact rfl; dsimp only [List.set]) | with_reducible refine Wp.br_t ?_ | with_reducible refine Wp.br_f ?_ | with_reducible refine Wp.br_nt ?_ | with_reducible refine Wp.br_nf ?_ | with_reducible refine ⟨fun hb => ?_, fun hb => ?_⟩ | ((with_reducible refine r_draw ?_ ?_ fun x h0 h1 => ?_); omega; omega) | ((with_reducible refine r_pick3 ?_ fun y hy => ?_); omega) | with_reducible refine r_number_of ?_ | with_reducible refine r_ahead ?_ | with_reducible refine r_is_newer ?_ | with_reducible refine r_tick_near ?_ | dsimp only)
      refine Wp.forL_inv (fun j ρ M => ∃ s8 s9 : Slot, ρ = [.sh (.scr (ns.map .int)), .sh (.hnd 0), .sh (.int (0 + (i : Int))), .sh (.int t), .sh (.int a), .sh (.int b), .sh (.int c), s7, s8, s9, s10] ∧ M = twn (6 * i + 6)) _ ⟨_, _, rfl, rfl⟩ ?_ ?_
      · rintro j hj ρ M ⟨s8, s9, rfl, rfl⟩
        have hj : j < 64 := by rw [Wp.rangeL_len] at hj; exact hj
        rw [Wp.rangeL_get]
        refine Wp.s_step (ρ1 := [.sh (.scr (ns.map .int)), .sh (.hnd 0), .sh (.int (0 + (i : Int))), .sh (.int t), .sh (.int a), .sh (.int b), .sh (.int c), s7, .sh (.int (-32 + (j : Int))), s9, s10]) rfl ?_
        repeat' (first | with_reducible refine Wp.w_int ?_ | with_reducible refine Wp.v_var ?_ | with_reducible refine Wp.g_zero ?_ | with_reducible refine Wp.g_succ ?_ | with_reducible refine Wp.w_glob ?_ | with_reducible refine Wp.w_bin ?_ | with_reducible refine Wp.w_call ?_ | with_reducible refine Wp.w_fcall ?_ | with_reducible refine Wp.w_cons ?_ | with_reducible refine Wp.w_nil ?_ | with_reducible refine Wp.w_str ?_ | with_reducible refine Wp.w_bl ?_ | with_reducible refine Wp.w_non ?_ | with_reducible refine Wp.v_peek ?_ | with_reducible refine Wp.v_move ?_ | with_reducible refine Wp.o_zero ?_ | with_reducible refine Wp.o_succ ?_ | with_reducible refine Wp.w_negI ?_ | with_reducible refine Wp.w_neg ?_ | with_reducible refine Wp.w_cmp ?_ | with_reducible refine Wp.w_not ?_ | with_reducible refine Wp.w_ite ?_ | with_reducible refine Wp.w_tup ?_ | with_reducible refine Wp.w_lst ?_ | with_reducible refine Wp.w_idx ?_ | with_reducible refine Wp.w_slice ?_ | with_reducible refine Wp.w_oNil ?_ | with_reducible refine Wp.w_oCons ?_ | with_reducible refine Wp.w_fn1 ?_ | with_reducible refine Wp.w_fn2 ?_ | with_reducible refine Wp.w_meth1 ?_ | with_reducible refine Wp.w_get2 ?_ | with_reducible refine Wp.w_isi ?_ | with_reducible refine Wp.w_ff ?_ | with_reducible refine Wp.w_dic0 ?_ | with_reducible refine Wp.w_cmp2 ?_ | with_reducible refine Wp.w_and ?_ | with_reducible refine Wp.w_or ?_ | with_reducible refine Wp.w_andL ?_ | with_reducible refine Wp.w_orL ?_ | with_reducible refine Wp.w_andC ?_ | with_reducible refine Wp.w_orC ?_ | with_reducible refine Wp.t_and ?_ | with_reducible refine Wp.t_or ?_ | with_reducible refine Wp.t_andN ?_ | with_reducible refine Wp.t_orN ?_ | with_reducible refine Wp.t_andC ?_ | with_reducible refine Wp.t_orC ?_ | with_reducible refine Wp.t_not ?_ | with_reducible refine Wp.t_cmp ?_ | with_reducible refine Wp.t_cmp2 ?_ | with_reducible refine Wp.u_var ?_ | with_reducible refine Wp.u_peek ?_ | with_reducible refine Wp.t_call ?_ | with_reducible refine Wp.t_idx ?_ | with_reducible refine Wp.t_fn1 ?_ | with_reducible refine Wp.t_isi ?_ | with_reducible refine Wp.t_bl ?_ | with_reducible refine Wp.i_seq ?_ | with_reducible refine Wp.i_range1 ?_ | with_reducible refine Wp.i_range ?_ | with_reducible refine Wp.i_zip ?_ | with_reducible refine Wp.s_for ?_ | with_reducible refine Wp.w_comp ?_ | with_reducible refine Wp.t_comp ?_ | with_reducible refine Wp.s_skip ?_ | with_reducible refine Wp.s_seq ?_ | with_reducible refine Wp.s_asg ?_ | with_reducible refine Wp.s_expr ?_ | with_reducible refine Wp.s_ite ?_ | with_reducible refine Wp.s_ret ?_ | with_reducible refine Wp.s_retF ?_ | with_reducible refine Wp.s_cont ?_ | with_reducible refine Wp.pw_some ?_ | with_reducible refine Wp.p_add ?_ | with_reducible refine Wp.p_sub ?_ | with_reducible refine Wp.p_lt ?_ | with_reducible refine Wp.p_le ?_ | with_reducible refine Wp.p_gt ?_ | with_reducible refine Wp.p_ge ?_ | with_reducible refine Wp.p_eq ?_ | with_reducible refine Wp.p_ne ?_ | with_reducible refine Wp.p_eqB ?_ | with_reducible refine Wp.p_neB ?_ | with_reducible refine Wp.p_tBl ?_ | with_reducible refine Wp.p_tInt ?_ | with_reducible refine Wp.p_tNon ?_ | with_reducible refine Wp.p_tScr ?_ | with_reducible refine Wp.p_tLst ?_ | with_reducible refine Wp.p_tTup ?_ | with_reducible refine Wp.p_lenS ?_ | with_reducible refine Wp.p_lenL ?_ | with_reducible refine Wp.p_lenT ?_ | with_reducible refine Wp.p_lenX ?_ | with_reducible refine Wp.v_lenH ?_ | with_reducible refine Wp.h_zero ?_ | with_reducible refine Wp.h_succ ?_ | with_reducible refine Wp.q_abs fun n _ _ => ?_ | with_reducible refine Wp.q_count2 fun n _ _ _ _ => ?_ | with_reducible refine Wp.p_max2 ?_ | with_reducible refine Wp.p_min2 ?_ | with_reducible refine Wp.p_idxS ?_ | with_reducible refine Wp.p_idxL ?_ | with_reducible refine Wp.p_idxT ?_ | with_reducible refine Wp.p_itL ?_ | with_reducible refine Wp.p_itT ?_ | with_reducible refine Wp.p_itS ?_ | ((with_reducible refine Wp.p_set ?_ ?_); exact of_decide_eq_true rfl; dsimp only [List.set]) | ((with_reducible refine Wp.p_mul ?_ ?_); try omega) | ((with_reducible refine Wp.p_fdiv ?_ ?_ ?_); omega; omega) | ((with_reducible refine Wp.p_mod ?_ ?_); try omega) | ((with_reducible refine Wp.p_range ?_ ?_); omega) | ((with_reducible refine Wp.len_ok ?_ ?_); exact rfl) | ((with_reducible refine Wp.set_len ?_ ?_); exact rfl; dsimp only [List.set]) | with_reducible refine Wp.br_t ?_ | with_reducible refine Wp.br_f ?_ | with_reducible refine Wp.br_nt ?_ | with_reducible refine Wp.br_nf ?_ | with_reducible refine ⟨fun hb => ?_, fun hb => ?_⟩ | ((with_reducible refine r_draw ?_ ?_ fun x h0 h1 => ?_); omega; omega) | ((with_reducible refine r_pick3 ?_ fun y hy => ?_); omega) | with_reducible refine r_number_of ?_ | with_reducible refine r_ahead ?_ | with_reducible refine r_is_newer ?_ | with_reducible refine r_tick_near ?_ | dsimp only)
        all_goals first | exact ⟨_, _, rfl, rfl⟩ | (exfalso; simp only [decide_eq_true_eq, decide_eq_false_iff_not, Bool.not_eq_true', Bool.not_eq_false', beq_iff_eq, bne_iff_ne, beq_eq_false_iff_ne, ne_eq, decide_eq_decide] at *; omega)
      · rintro ρ M ⟨s8, s9, rfl, rfl⟩
        clear hi
        repeat' (first | with_reducible refine Wp.w_int ?_ | with_reducible refine Wp.v_var ?_ | with_reducible refine Wp.g_zero ?_ | with_reducible refine Wp.g_succ ?_ | with_reducible refine Wp.w_glob ?_ | with_reducible refine Wp.w_bin ?_ | with_reducible refine Wp.w_call ?_ | with_reducible refine Wp.w_fcall ?_ | with_reducible refine Wp.w_cons ?_ | with_reducible refine Wp.w_nil ?_ | with_reducible refine Wp.w_str ?_ | with_reducible refine Wp.w_bl ?_ | with_reducible refine Wp.w_non ?_ | with_reducible refine Wp.v_peek ?_ | with_reducible refine Wp.v_move ?_ | with_reducible refine Wp.o_zero ?_ | with_reducible refine Wp.o_succ ?_ | with_reducible refine Wp.w_negI ?_ | with_reducible refine Wp.w_neg ?_ | with_reducible refine Wp.w_cmp ?_ | with_reducible refine Wp.w_not ?_ | with_reducible refine Wp.w_ite ?_ | with_reducible refine Wp.w_tup ?_ | with_reducible refine Wp.w_lst ?_ | with_reducible refine Wp.w_idx ?_ | with_reducible refine Wp.w_slice ?_ | with_reducible refine Wp.w_oNil ?_ | with_reducible refine Wp.w_oCons ?_ | with_reducible refine Wp.w_fn1 ?_ | with_reducible refine Wp.w_fn2 ?_ | with_reducible refine Wp.w_meth1 ?_ | with_reducible refine Wp.w_get2 ?_ | with_reducible refine Wp.w_isi ?_ | with_reducible refine Wp.w_ff ?_ | with_reducible refine Wp.w_dic0 ?_ | with_reducible refine Wp.w_cmp2 ?_ | with_reducible refine Wp.w_and ?_ | with_reducible refine Wp.w_or ?_ | with_reducible refine Wp.w_andL ?_ | with_reducible refine Wp.w_orL ?_ | with_reducible refine Wp.w_andC ?_ | with_reducible refine Wp.w_orC ?_ | with_reducible refine Wp.t_and ?_ | with_reducible refine Wp.t_or ?_ | with_reducible refine Wp.t_andN ?_ | with_reducible refine Wp.t_orN ?_ | with_reducible refine Wp.t_andC ?_ | with_reducible refine Wp.t_orC ?_ | with_reducible refine Wp.t_not ?_ | with_reducible refine Wp.t_cmp ?_ | with_reducible refine Wp.t_cmp2 ?_ | with_reducible refine Wp.u_var ?_ | with_reducible refine Wp.u_peek ?_ | with_reducible refine Wp.t_call ?_ | with_reducible refine Wp.t_idx ?_ | with_reducible refine Wp.t_fn1 ?_ | with_reducible refine Wp.t_isi ?_ | with_reducible refine Wp.t_bl ?_ | with_reducible refine Wp.i_seq ?_ | with_reducible refine Wp.i_range1 ?_ | with_reducible refine Wp.i_range ?_ | with_reducible refine Wp.i_zip ?_ | with_reducible refine Wp.s_for ?_ | with_reducible refine Wp.w_comp ?_ | with_reducible refine Wp.t_comp ?_ | with_reducible refine Wp.s_skip ?_ | with_reducible refine Wp.s_seq ?_ | with_reducible refine Wp.s_asg ?_ | with_reducible refine Wp.s_expr ?_ | with_reducible refine Wp.s_ite ?_ | with_reducible refine Wp.s_ret ?_ | with_reducible refine Wp.s_retF ?_ | with_reducible refine Wp.s_cont ?_ | with_reducible refine Wp.pw_some ?_ | with_reducible refine Wp.p_add ?_ | with_reducible refine Wp.p_sub ?_ | with_reducible refine Wp.p_lt ?_ | with_reducible refine Wp.p_le ?_ | with_reducible refine Wp.p_gt ?_ | with_reducible refine Wp.p_ge ?_ | with_reducible refine Wp.p_eq ?_ | with_reducible refine Wp.p_ne ?_ | with_reducible refine Wp.p_eqB ?_ | with_reducible refine Wp.p_neB ?_ | with_reducible refine Wp.p_tBl ?_ | with_reducible refine Wp.p_tInt ?_ | with_reducible refine Wp.p_tNon ?_ | with_reducible refine Wp.p_tScr ?_ | with_reducible refine Wp.p_tLst ?_ | with_reducible refine Wp.p_tTup ?_ | with_reducible refine Wp.p_lenS ?_ | with_reducible refine Wp.p_lenL ?_ | with_reducible refine Wp.p_lenT ?_ | with_reducible refine Wp.p_lenX ?_ | with_reducible refine Wp.v_lenH ?_ | with_reducible refine Wp.h_zero ?_ | with_reducible refine Wp.h_succ ?_ | with_reducible refine Wp.q_abs fun n _ _ => ?_ | with_reducible refine Wp.q_count2 fun n _ _ _ _ => ?_ | with_reducible refine Wp.p_max2 ?_ | with_reducible refine Wp.p_min2 ?_ | with_reducible refine Wp.p_idxS ?_ | with_reducible refine Wp.p_idxL ?_ | with_reducible refine Wp.p_idxT ?_ | with_reducible refine Wp.p_itL ?_ | with_reducible refine Wp.p_itT ?_ | with_reducible refine Wp.p_itS ?_ | ((with_reducible refine Wp.p_set ?_ ?_); exact of_decide_eq_true rfl; dsimp only [List.set]) | ((with_reducible refine Wp.p_mul ?_ ?_); try omega) | ((with_reducible refine Wp.p_fdiv ?_ ?_ ?_); omega; omega) | ((with_reducible refine Wp.p_mod ?_ ?_); try omega) | ((with_reducible refine Wp.p_range ?_ ?_); omega) | ((with_reducible refine Wp.len_ok ?_ ?_); exact rfl) | ((with_reducible refine Wp.set_len ?_ ?_); exact rfl; dsimp only [List.set]) | with_reducible refine Wp.br_t ?_ | with_reducible refine Wp.br_f ?_ | with_reducible refine Wp.br_nt ?_ | with_reducible refine Wp.br_nf ?_ | with_reducible refine ⟨fun hb => ?_, fun hb => ?_⟩ | ((with_reducible refine r_draw ?_ ?_ fun x h0 h1 => ?_); omega; omega) | ((with_reducible refine r_pick3 ?_ fun y hy => ?_); omega) | with_reducible refine r_number_of ?_ | with_reducible refine r_ahead ?_ | with_reducible refine r_is_newer ?_ | with_reducible refine r_tick_near ?_ | dsimp only)
        all_goals first | exact ⟨_, _, _, _, _, _, _, _, _, rfl, rfl⟩ | skip
        all_goals first | (exfalso; simp only [decide_eq_true_eq, decide_eq_false_iff_not, Bool.not_eq_true', Bool.not_eq_false', beq_iff_eq, bne_iff_ne, beq_eq_false_iff_ne, ne_eq, decide_eq_decide] at *; omega) | skip
        all_goals refine ⟨rfl, ?_⟩
        all_goals (repeat' (first | with_reducible refine Wp.w_int ?_ | with_reducible refine Wp.v_var ?_ | with_reducible refine Wp.g_zero ?_ | with_reducible refine Wp.g_succ ?_ | with_reducible refine Wp.w_glob ?_ | with_reducible refine Wp.w_bin ?_ | with_reducible refine Wp.w_call ?_ | with_reducible refine Wp.w_fcall ?_ | with_reducible refine Wp.w_cons ?_ | with_reducible refine Wp.w_nil ?_ | with_reducible refine Wp.w_str ?_ | with_reducible refine Wp.w_bl ?_ | with_reducible refine Wp.w_non ?_ | with_reducible refine Wp.v_peek ?_ | with_reducible refine Wp.v_move ?_ | with_reducible refine Wp.o_zero ?_ | with_reducible refine Wp.o_succ ?_ | with_reducible refine Wp.w_negI ?_ | with_reducible refine Wp.w_neg ?_ | with_reducible refine Wp.w_cmp ?_ | with_reducible refine Wp.w_not ?_ | with_reducible refine Wp.w_ite ?_ | with_reducible refine Wp.w_tup ?_ | with_reducible refine Wp.w_lst ?_ | with_reducible refine Wp.w_idx ?_ | with_reducible refine Wp.w_slice ?_ | with_reducible refine Wp.w_oNil ?_ | with_reducible refine Wp.w_oCons ?_ | with_reducible refine Wp.w_fn1 ?_ | with_reducible refine Wp.w_fn2 ?_ | with_reducible refine Wp.w_meth1 ?_ | with_reducible refine Wp.w_get2 ?_ | with_reducible refine Wp.w_isi ?_ | with_reducible refine Wp.w_ff ?_ | with_reducible refine Wp.w_dic0 ?_ | with_reducible refine Wp.w_cmp2 ?_ | with_reducible refine Wp.w_and ?_ | with_reducible refine Wp.w_or ?_ | with_reducible refine Wp.w_andL ?_ | with_reducible refine Wp.w_orL ?_ | with_reducible refine Wp.w_andC ?_ | with_reducible refine Wp.w_orC ?_ | with_reducible refine Wp.t_and ?_ | with_reducible refine Wp.t_or ?_ | with_reducible refine Wp.t_andN ?_ | with_reducible refine Wp.t_orN ?_ | with_reducible refine Wp.t_andC ?_ | with_reducible refine Wp.t_orC ?_ | with_reducible refine Wp.t_not ?_ | with_reducible refine Wp.t_cmp ?_ | with_reducible refine Wp.t_cmp2 ?_ | with_reducible refine Wp.u_var ?_ | with_reducible refine Wp.u_peek ?_ | with_reducible refine Wp.t_call ?_ | with_reducible refine Wp.t_idx ?_ | with_reducible refine Wp.t_fn1 ?_ | with_reducible refine Wp.t_isi ?_ | with_reducible refine Wp.t_bl ?_ | with_reducible refine Wp.i_seq ?_ | with_reducible refine Wp.i_range1 ?_ | with_reducible refine Wp.i_range ?_ | with_reducible refine Wp.i_zip ?_ | with_reducible refine Wp.s_for ?_ | with_reducible refine Wp.w_comp ?_ | with_reducible refine Wp.t_comp ?_ | with_reducible refine Wp.s_skip ?_ | with_reducible refine Wp.s_seq ?_ | with_reducible refine Wp.s_asg ?_ | with_reducible refine Wp.s_expr ?_ | with_reducible refine Wp.s_ite ?_ | with_reducible refine Wp.s_ret ?_ | with_reducible refine Wp.s_retF ?_ | with_reducible refine Wp.s_cont ?_ | with_reducible refine Wp.pw_some ?_ | with_reducible refine Wp.p_add ?_ | with_reducible refine Wp.p_sub ?_ | with_reducible refine Wp.p_lt ?_ | with_reducible refine Wp.p_le ?_ | with_reducible refine Wp.p_gt ?_ | with_reducible refine Wp.p_ge ?_ | with_reducible refine Wp.p_eq ?_ | with_reducible refine Wp.p_ne ?_ | with_reducible refine Wp.p_eqB ?_ | with_reducible refine Wp.p_neB ?_ | with_reducible refine Wp.p_tBl ?_ | with_reducible refine Wp.p_tInt ?_ | with_reducible refine Wp.p_tNon ?_ | with_reducible refine Wp.p_tScr ?_ | with_reducible refine Wp.p_tLst ?_ | with_reducible refine Wp.p_tTup ?_ | with_reducible refine Wp.p_lenS ?_ | with_reducible refine Wp.p_lenL ?_ | with_reducible refine Wp.p_lenT ?_ | with_reducible refine Wp.p_lenX ?_ | with_reducible refine Wp.v_lenH ?_ | with_reducible refine Wp.h_zero ?_ | with_reducible refine Wp.h_succ ?_ | with_reducible refine Wp.q_abs fun n _ _ => ?_ | with_reducible refine Wp.q_count2 fun n _ _ _ _ => ?_ | with_reducible refine Wp.p_max2 ?_ | with_reducible refine Wp.p_min2 ?_ | with_reducible refine Wp.p_idxS ?_ | with_reducible refine Wp.p_idxL ?_ | with_reducible refine Wp.p_idxT ?_ | with_reducible refine Wp.p_itL ?_ | with_reducible refine Wp.p_itT ?_ | with_reducible refine Wp.p_itS ?_ | ((with_reducible refine Wp.p_set ?_ ?_); exact of_decide_eq_true rfl; dsimp only [List.set]) | ((with_reducible refine Wp.p_mul ?_ ?_); try omega) | ((with_reducible refine Wp.p_fdiv ?_ ?_ ?_); omega; omega) | ((with_reducible refine Wp.p_mod ?_ ?_); try omega) | ((with_reducible refine Wp.p_range ?_ ?_); omega) | ((with_reducible refine Wp.len_ok ?_ ?_); exact rfl) | ((with_reducible refine Wp.set_len ?_ ?_); exact rfl; dsimp only [List.set]) | with_reducible refine Wp.br_t ?_ | with_reducible refine Wp.br_f ?_ | with_reducible refine Wp.br_nt ?_ | with_reducible refine Wp.br_nf ?_ | with_reducible refine ⟨fun hb => ?_, fun hb => ?_⟩ | ((with_reducible refine r_draw ?_ ?_ fun x h0 h1 => ?_); omega; omega) | ((with_reducible refine r_pick3 ?_ fun y hy => ?_); omega) | with_reducible refine r_number_of ?_ | with_reducible refine r_ahead ?_ | with_reducible refine r_is_newer ?_ | with_reducible refine r_tick_near ?_ | dsimp only))
        all_goals first | exact ⟨_, _, _, _, _, _, _, _, _, rfl, rfl⟩ | skip
        all_goals first | (exfalso; simp only [decide_eq_true_eq, decide_eq_false_iff_not, Bool.not_eq_true', Bool.not_eq_false', beq_iff_eq, bne_iff_ne, beq_eq_false_iff_ne, ne_eq, decide_eq_decide] at *; omega) | trace_state
  · rintro ρ M ⟨s2, s3, s4, s5, s6, s7, s8, s9, s10, rfl, rfl⟩
    repeat' (first | with_reducible refine Wp.w_int ?_ | with_reducible refine Wp.v_var ?_ | with_reducible refine Wp.g_zero ?_ | with_reducible refine Wp.g_succ ?_ | with_reducible refine Wp.w_glob ?_ | with_reducible refine Wp.w_bin ?_ | with_reducible refine Wp.w_call ?_ | with_reducible refine Wp.w_fcall ?_ | with_reducible refine Wp.w_cons ?_ | with_reducible refine Wp.w_nil ?_ | with_reducible refine Wp.w_str ?_ | with_reducible refine Wp.w_bl ?_ | with_reducible refine Wp.w_non ?_ | with_reducible refine Wp.v_peek ?_ | with_reducible refine Wp.v_move ?_ | with_reducible refine Wp.o_zero ?_ | with_reducible refine Wp.o_succ ?_ | with_reducible refine Wp.w_negI ?_ | with_reducible refine Wp.w_neg ?_ | with_reducible refine Wp.w_cmp ?_ | with_reducible refine Wp.w_not ?_ | with_reducible refine Wp.w_ite ?_ | with_reducible refine Wp.w_tup ?_ | with_reducible refine Wp.w_lst ?_ | with_reducible refine Wp.w_idx ?_ | with_reducible refine Wp.w_slice ?_ | with_reducible refine Wp.w_oNil ?_ | with_reducible refine Wp.w_oCons ?_ | with_reducible refine Wp.w_fn1 ?_ | with_reducible refine Wp.w_fn2 ?_ | with_reducible refine Wp.w_meth1 ?_ | with_reducible refine Wp.w_get2 ?_ | with_reducible refine Wp.w_isi ?_ | with_reducible refine Wp.w_ff ?_ | with_reducible refine Wp.w_dic0 ?_ | with_reducible refine Wp.w_cmp2 ?_ | with_reducible refine Wp.w_and ?_ | with_reducible refine Wp.w_or ?_ | with_reducible refine Wp.w_andL ?_ | with_reducible refine Wp.w_orL ?_ | with_reducible refine Wp.w_andC ?_ | with_reducible refine Wp.w_orC ?_ | with_reducible refine Wp.t_and ?_ | with_reducible refine Wp.t_or ?_ | with_reducible refine Wp.t_andN ?_ | with_reducible refine Wp.t_orN ?_ | with_reducible refine Wp.t_andC ?_ | with_reducible refine Wp.t_orC ?_ | with_reducible refine Wp.t_not ?_ | with_reducible refine Wp.t_cmp ?_ | with_reducible refine Wp.t_cmp2 ?_ | with_reducible refine Wp.u_var ?_ | with_reducible refine Wp.u_peek ?_ | with_reducible refine Wp.t_call ?_ | with_reducible refine Wp.t_idx ?_ | with_reducible refine Wp.t_fn1 ?_ | with_reducible refine Wp.t_isi ?_ | with_reducible refine Wp.t_bl ?_ | with_reducible refine Wp.i_seq ?_ | with_reducible refine Wp.i_range1 ?_ | with_reducible refine Wp.i_range ?_ | with_reducible refine Wp.i_zip ?_ | with_reducible refine Wp.s_for ?_ | with_reducible refine Wp.w_comp ?_ | with_reducible refine Wp.t_comp ?_ | with_reducible refine Wp.s_skip ?_ | with_reducible refine Wp.s_seq ?_ | with_reducible refine Wp.s_asg ?_ | with_reducible refine Wp.s_expr ?_ | with_reducible refine Wp.s_ite ?_ | with_reducible refine Wp.s_ret ?_ | with_reducible refine Wp.s_retF ?_ | with_reducible refine Wp.s_cont ?_ | with_reducible refine Wp.pw_some ?_ | with_reducible refine Wp.p_add ?_ | with_reducible refine Wp.p_sub ?_ | with_reducible refine Wp.p_lt ?_ | with_reducible refine Wp.p_le ?_ | with_reducible refine Wp.p_gt ?_ | with_reducible refine Wp.p_ge ?_ | with_reducible refine Wp.p_eq ?_ | with_reducible refine Wp.p_ne ?_ | with_reducible refine Wp.p_eqB ?_ | with_reducible refine Wp.p_neB ?_ | with_reducible refine Wp.p_tBl ?_ | with_reducible refine Wp.p_tInt ?_ | with_reducible refine Wp.p_tNon ?_ | with_reducible refine Wp.p_tScr ?_ | with_reducible refine Wp.p_tLst ?_ | with_reducible refine Wp.p_tTup ?_ | with_reducible refine Wp.p_lenS ?_ | with_reducible refine Wp.p_lenL ?_ | with_reducible refine Wp.p_lenT ?_ | with_reducible refine Wp.p_lenX ?_ | with_reducible refine Wp.v_lenH ?_ | with_reducible refine Wp.h_zero ?_ | with_reducible refine Wp.h_succ ?_ | with_reducible refine Wp.q_abs fun n _ _ => ?_ | with_reducible refine Wp.q_count2 fun n _ _ _ _ => ?_ | with_reducible refine Wp.p_max2 ?_ | with_reducible refine Wp.p_min2 ?_ | with_reducible refine Wp.p_idxS ?_ | with_reducible refine Wp.p_idxL ?_ | with_reducible refine Wp.p_idxT ?_ | with_reducible refine Wp.p_itL ?_ | with_reducible refine Wp.p_itT ?_ | with_reducible refine Wp.p_itS ?_ | ((with_reducible refine Wp.p_set ?_ ?_); exact of_decide_eq_true rfl; dsimp only [List.set]) | ((with_reducible refine Wp.p_mul ?_ ?_); try omega) | ((with_reducible refine Wp.p_fdiv ?_ ?_ ?_); omega; omega) | ((with_reducible refine Wp.p_mod ?_ ?_); try omega) | ((with_reducible refine Wp.p_range ?_ ?_); omega) | ((with_reducible refine Wp.len_ok ?_ ?_); exact rfl) | ((with_reducible refine Wp.set_len ?_ ?_); exact rfl; dsimp only [List.set]) | with_reducible refine Wp.br_t ?_ | with_reducible refine Wp.br_f ?_ | with_reducible refine Wp.br_nt ?_ | with_reducible refine Wp.br_nf ?_ | with_reducible refine ⟨fun hb => ?_, fun hb => ?_⟩ | dsimp only)
end Pv

set_option Elab.async false
set_option linter.all false
set_option maxRecDepth 100000
set_option maxHeartbeats 0
namespace Pv
open PySem L2
theorem hrun (ns : List Int) (h : ns.length ≤ 63) : ∃ M', run (its.map (·.fn)) 6 6 [.scr (ns.map .int)] [] = .ok (.bl true) M' := by
  obtain ⟨d, M, e, q⟩ := Wp.ok_ex (hrunW ns)
  subst q
  exact ⟨M, e⟩
end Pv
namespace Pv
open PySem PySem.Spec PyProof.Rows L2
abbrev Rw : PySem.W.OpenRow := PySem.W.OpenLaw.row PySem.Challenge.rw_standsend_k21_whole_numbers_on_a_ring
abbrev hk : PySem.W.Hook := He.hookD 4 (fas its gis) (dds its)
def ob (s : PySem.W.SharedT) : He.AlD := He.obsDG 4 (fas its gis) (dds its) (HandSHeadRun.getT s)
theorem ob_eq (s : PySem.W.SharedT) : ob s = hk.obs s.abs := He.obsDG_eq (HandSHeadRun.getT_eq s)
theorem hd_run (w : World) : HandSHeadRun.RunEq Rw (PySem.W.view Rw.prog [10]) hk ob 1000 ["__name__", "ROUND", "HALF", "number_of", "ahead", "is_newer", "tick_near", "_law_draw", "_law_pick"] w := by
  intro os
  kernel_rfl
end Pv
open PySem PySem.W PySem.Calls PyProof.Rows
theorem PySem.Challenge.cw_standsend_k21_whole_numbers_on_a_ring_holds : PySem.Challenge.rw_standsend_k21_whole_numbers_on_a_ring.Holds := by
  w_on; o_law
  refine HandSHeadRun.head_any (r := OpenLaw.row PySem.Challenge.rw_standsend_k21_whole_numbers_on_a_ring) (q := view (OpenLaw.row PySem.Challenge.rw_standsend_k21_whole_numbers_on_a_ring).prog [10]) (H := Pv.hk) (ob := Pv.ob) (M := 1000) (loose := ["__name__", "ROUND", "HALF", "number_of", "ahead", "is_newer", "tick_near", "_law_draw", "_law_pick"]) (d := HandSHeadRun.topDef (OpenLaw.row PySem.Challenge.rw_standsend_k21_whole_numbers_on_a_ring).prog 10) (kwd := []) Pv.ob_eq
    (by kernel_rfl) (fun s => by kernel_rfl) Pv.hd_run (by kernel_rfl) (by kernel_rfl) (by kernel_rfl) (by rfl) (by first | assumption | decide +kernel) (by decide +kernel) ⟨rfl, rfl, rfl, rfl, rfl, by decide +kernel⟩ ?hw ?hc
  case hw => w_witness2
  case hc =>
    exact Pv.walkF (lw := PySem.Challenge.rw_standsend_k21_whole_numbers_on_a_ring) (n := 63) Pv.its Pv.gis Pv.its_ok 6 ⟨Pv.g_law, Pv.top 10, ["_law_script"]⟩ "_law_script" 6 rfl rfl rfl (by kernel_rfl) rfl (by decide) (by kernel_rfl) ⟨rfl, by decide, by decide⟩ (fun _ _ h => h) Pv.hrun


