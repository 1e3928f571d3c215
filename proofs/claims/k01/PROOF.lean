import PyProof.Rows.All
import Wide.All
import OpenK.AllK
import Wide.FinOn
import KE.KStateDown
import HandS.ForMost
import HandS.ForExc
import HandS.Flow
import HandS.CallSlots
import HandS.IsInst
import HandS.Zip
import HandS.SortInts
import HandS.TupAny
import HandS.TupMul
import HandS.Style
import HandS.NoneIn
import HandS.SetFor
import HandS.Walk
import HandS.Text
import KE.KDictPairs
import HandS.HeadHook1
import HandS.More
import KE.DataMinMax
import KE.OsSort
import HandS.Conv
import HandS.Strs
import HandS.Deep
import KE.GoesMore
import KE.KDictLaws
import HandS.Head0
import HandS.Head1
import HandS.Head2
import HandS.HeadEnd
import HandS.HeadHook2
import HandS.HeadHook3
import PySem.Challenge.RW_standsend_k01_whole_things_as_stands
set_option Elab.async false
set_option linter.all false
set_option maxRecDepth 100000
set_option maxHeartbeats 4000000
namespace Pv
open PySem L2

/-! ### values -/
inductive D where
  | non | bl (b : Bool) | int (i : Int) | str (x : Str)
  | tup (ds : List D) | lst (ds : List D) | scr (ds : List D)
  | dic (kvs : List (Key × D))
  | hnd (h : Nat)
  | obj (c : Nat) (fs : List (Str × D))
  | lck (kvs : List (Key × D))

abbrev Store := List D
inductive Slot where
  | no | sh (d : D) | ow (d : D)
abbrev Rho := List Slot

inductive Res (α : Type) where
  | ok (a : α) (M : Store) | exc (c : Nat) (M : Store) | fail
def Res.bind {α β : Type} (r : Res α) (k : α → Store → Res β) : Res β := match r with
  | .ok a M => k a M
  | .exc c M => .exc c M
  | .fail => .fail
def opt {α : Type} (o : Option α) (M : Store) : Res α := match o with
  | some a => .ok a M
  | none => .fail

/-! ### syntax -/
inductive BK where | add | sub | mul | fdiv | mod
inductive CK where | eq | ne | lt | le | gt | ge | isin | notin | is | isnot
inductive F1 where | len | abs | max | min | sum | all | any | int | str | tuple
inductive F2 where | max | min
inductive M1 where | join | count | get
inductive FF where | list | sorted | sset | dict
inductive Ty where | int | bool | tuple | str

inductive E where
  | int (i : Int) | str (x : Str) | bl (b : Bool) | non
  | var (i : Nat) | peek (i : Nat)
  | glob (x : Str) (i : Int)
  | bin (k : BK) (a b : E) | neg (a : E)
  | cmp (k : CK) (a b : E) | cmp2 (k l : CK) (a b c : E)
  | and (l : E) | or (l : E) | not (a : E)
  | ite (t a b : E)
  | tup (l : E)
  | idx (a b : E) | slice (a lo hi : E) | rev (a : E)
  | call (f : Nat) (l : E)
  | fn1 (k : F1) (a : E) | fn2 (k : F2) (a b : E)
  | meth1 (k : M1) (a b : E) | get2 (a b c : E)
  | isi (a : E) (t : Ty)
  | lst (l : E)
  | comp (tg : List Nat) (tt : Bool) (it : E) (cond : E) (elt : E) (own : List Nat)
  | ff (k : FF) (a : E)
  | dic0
  | fcall (f : Nat) (l : E)
  | move (i : Nat)
  | hn (e : E)
  | dsp (k v : E)
  | lit (a : E)
  | lit2 (a b : E)
  | hpop (h i : E)
  | gd (x : Str) (kvs : List (Str × Str)) (k : E)
  | fld (c : Nat) (a : E) (x : Str)
  | mcall (c f : Nat) (m : Str) (a l : E)
  | mk (c f : Nat) (l : E)
  | compK (tg : Nat) (a cond elt : E)
  | dsps (l : E)
  | itSeq (a : E) | itRange1 (a : E) | itRange (a b : E) | itEnum (a : E) | itZip (a b : E) | itOwn (i : Nat)
  | nil | cons (e r : E)

inductive S where
  | skip | seq (a b : S)
  | asg (tg : List Nat) (tt : Bool) (e : E)
  | par (tg : List Nat) (l : E)
  | parO (i : Nat) (a : E) (j : Nat) (b : E)
  | own (i : Nat) (e : E)
  | hnew (i : Nat) (e : E)
  | seti (i : Nat) (k e : E)
  | app (i : Nat) (e : E)
  | popd (i : Nat) (k : E)
  | upd (i : Nat) (e : E)
  | happ (h e : E)
  | hseti (h k e : E)
  | hpopd (h k : E)
  | expr (e : E)
  | ite (c : E) (a b : S)
  | «for» (tg : List Nat) (tt : Bool) (it : E) (body : S)
  | «while» (c : E) (body : S)
  | ret (e : E) | retF (e : E)
  | raise (c : Nat)
  | tryx (body : S) (c n : Nat) (suite : S)
  | tryx2 (body : S) (c1 : Nat) (s1 : S) (c2 : Nat) (s2 : S)
  | cont
  | frzB (i : Nat) (b : S)
  | hfld (c : Nat) (a : E) (x : Str) (e : E)
  | hpop1 (h k : E)
  | hupd (h e : E)
  | hext (h e : E)
  | forK (tg : Nat) (h : E) (body : S)

/-! ### operations on values -/
def LIM : Nat := 16777216
def dr (M : Store) : D → D
  | .hnd h => match M[h]? with
    | some d => d
    | none => .non
  | d => d

mutual
def eqD : D → D → Bool
  | .non, .non => true
  | .bl a, .bl b => a == b
  | .bl a, .int j => (if a then 1 else 0) == j
  | .int i, .bl b => i == (if b then 1 else 0)
  | .int i, .int j => i == j
  | .str x, .str y => x == y
  | .lst xs, .lst ys => eqDs xs ys
  | .tup xs, .tup ys => eqDs xs ys
  | _, _ => false
def eqDs : List D → List D → Bool
  | [], [] => true
  | x :: xs, y :: ys => eqD x y && eqDs xs ys
  | _, _ => false
end
/-- plain data of a small depth -/
def okStr (x : Str) : Bool := PyData.strOk x
mutual
def okd : Nat → D → Bool
  | _, .non => true
  | _, .bl _ => true
  | _, .int _ => true
  | _, .str x => okStr x
  | n + 1, .tup ds => okds n ds
  | n + 1, .lst ds => okds n ds
  | _, _ => false
def okds : Nat → List D → Bool
  | _, [] => true
  | n, d :: ds => okd n d && okds n ds
end
def flatD : D → Bool
  | .non => true | .bl _ => true | .int _ => true | .str _ => true
  | _ => false

def keyOf : D → Option Key
  | .int i => some (.inl i)
  | .str x => some (.inr x)
  | _ => none
def dK : Key → D
  | .inl i => .int i
  | .inr x => .str x
def keyFit : Key → Bool
  | .inl _ => true
  | .inr x => decide (x.length ≤ LIM)
def lookK {α : Type} (kvs : List (Key × α)) (k : Key) : Option α := (kvs.find? fun kv => decide (kv.1 = k)).map (·.2)
def setK {α : Type} (kvs : List (Key × α)) (k : Key) (v : α) : List (Key × α) :=
  if (kvs.any fun kv => decide (kv.1 = k)) = true then kvs.map (fun kv => if kv.1 = k then (kv.1, v) else kv) else kvs ++ [(k, v)]
/-- an attribute stored -/
def fput {α : Type} (f : Str) (y : α) : List (Str × α) → List (Str × α)
  | [] => [(f, y)]
  | (g, x) :: r => if g = f then (g, y) :: r else (g, x) :: fput f y r
def delK {α : Type} (kvs : List (Key × α)) (k : Key) : List (Key × α) := kvs.filter fun kv => decide (kv.1 ≠ k)

def repS (x : Str) (n : Nat) : Str := ⟨(List.replicate n x.cps.toList).flatten.toArray⟩
def smallI (i : Int) : Bool := decide (-(2 ^ 64) < i ∧ i < 2 ^ 64)
def binD : BK → D → D → Option D
  | .add, .int i, .int j => some (.int (i + j))
  | .add, .str x, .str y => if x.length + y.length ≤ LIM then some (.str (x ++ y)) else none
  | .add, .tup a, .tup b => if a.length + b.length ≤ LIM then some (.tup (a ++ b)) else none
  | .add, .lst a, .lst b => if a.length + b.length ≤ LIM then some (.lst (a ++ b)) else none
  | .sub, .int i, .int j => some (.int (i - j))
  | .mul, .int i, .int j => if smallI i || smallI j then some (.int (i * j)) else none
  | .mul, .str x, .int k => if -(2 ^ 63) ≤ k ∧ k < 2 ^ 63 ∧ x.length * k.toNat ≤ LIM then some (.str (repS x k.toNat)) else none
  | .mul, .lst a, .int k => if -(2 ^ 63) ≤ k ∧ k < 2 ^ 63 ∧ a.length * k.toNat ≤ LIM then some (.lst (List.replicate k.toNat a).flatten) else none
  | .mul, .tup a, .int k => if a ≠ [] ∧ 2 ≤ k ∧ k ≤ 1000 ∧ a.length ≤ 1000 then some (.tup (List.replicate k.toNat a).flatten) else none
  | .fdiv, .int i, .int j => if 0 < j ∧ j < 1073741824 then some (.int (i / j)) else none
  | .mod, .int i, .int j => if 0 < j then some (.int (i % j)) else none
  | _, _, _ => none
def inD (x : D) (ds : List D) : Bool := ds.any fun y => eqD y x
def isinD (x y : D) : Option Bool := match y with
  | .tup ds => if (flatD x && ds.all flatD) || (okd 59 x && okds 59 ds) then some (inD x ds) else none
  | .lst ds => if (flatD x && ds.all flatD) || (okd 59 x && okds 59 ds) then some (inD x ds) else none
  | .dic kvs => match keyOf x with
    | some k => some (lookK kvs k).isSome
    | none => none
  | _ => none
def isD (x y : D) : Option Bool := match y with
  | .non => match x with
    | .non => some true
    | .hnd _ => none
    | _ => some false
  | .bl b => match x with
    | .bl a => some (decide (a = b))
    | _ => none
  | _ => none
def cmpD : CK → D → D → Option Bool
  | .eq, x, y => if okd 60 x && okd 60 y then some (eqD x y) else none
  | .ne, x, y => if okd 60 x && okd 60 y then some (!eqD x y) else none
  | .lt, .int i, .int j => some (decide (i < j))
  | .le, .int i, .int j => some (decide (i ≤ j))
  | .gt, .int i, .int j => some (decide (j < i))
  | .ge, .int i, .int j => some (decide (j ≤ i))
  | .isin, x, y => isinD x y
  | .notin, x, y => (isinD x y).map (!·)
  | .is, x, y => isD x y
  | .isnot, x, y => (isD x y).map (!·)
  | _, _, _ => none
def truD : D → Option Bool
  | .non => some false
  | .bl b => some b
  | .int i => some (i != 0)
  | .str x => some ((x.length : Int) != 0)
  | .tup ds => some (!ds.isEmpty)
  | .lst ds => some (!ds.isEmpty)
  | .scr ds => some (!ds.isEmpty)
  | .dic kvs => some (!kvs.isEmpty)
  | .hnd _ => none
  | .obj _ _ => none
  | .lck _ => none
def idxD : D → D → Option D
  | .tup ds, .int i => atI ds i
  | .lst ds, .int i => atI ds i
  | .scr ds, .int i => atI ds i
  | .str z, .int i => (atI z.cps.toList i).map fun c => .str ⟨#[c]⟩
  | .dic kvs, k => match keyOf k with
    | some k => lookK kvs k
    | none => none
  | _, _ => none
def cutL {α : Type} (xs : List α) (lo hi : Option Int) : List α := (xs.drop (HT.sIx xs.length 0 lo)).take (HT.sIx xs.length xs.length hi - HT.sIx xs.length 0 lo)
def sliceD : D → Option Int → Option Int → Option D
  | .tup ds, lo, hi => some (.tup (cutL ds lo hi))
  | .lst ds, lo, hi => some (.lst (cutL ds lo hi))
  | .str z, lo, hi => some (.str (cutS z lo hi))
  | _, _, _ => none
def revD : D → Option D
  | .tup ds => some (.tup ds.reverse)
  | .lst ds => some (.lst ds.reverse)
  | _ => none
def lenD : D → Option Nat
  | .str x => some x.length
  | .tup ds => some ds.length
  | .lst ds => some ds.length
  | .scr ds => some ds.length
  | .dic kvs => some kvs.length
  | _ => none
def intsOf : List D → Option (List Int)
  | [] => some []
  | .int i :: r => (intsOf r).map (i :: ·)
  | _ :: _ => none
def boolsOf : List D → Option (List Bool)
  | [] => some []
  | .bl b :: r => (boolsOf r).map (b :: ·)
  | _ :: _ => none
def strsOf : List D → Option (List Str)
  | [] => some []
  | .str x :: r => (strsOf r).map (x :: ·)
  | _ :: _ => none
def maxL : List Int → Option Int
  | [] => none
  | a :: r => some (r.foldl max a)
def minL : List Int → Option Int
  | [] => none
  | a :: r => some (r.foldl min a)
def fn1D : F1 → D → Option D
  | .len, d => (lenD d).map fun (n : Nat) => D.int (Int.ofNat n)
  | .abs, .int i => some (.int (if i < 0 then -i else i))
  | .max, .lst ds => ((intsOf ds).bind maxL).map .int
  | .min, .lst ds => ((intsOf ds).bind minL).map .int
  | .max, .tup ds => ((intsOf ds).bind maxL).map .int
  | .sum, .lst ds => (intsOf ds).map fun ns => .int ns.sum
  | .all, .lst ds => (boolsOf ds).map fun bs => .bl (bs.all id)
  | .any, .lst ds => (boolsOf ds).map fun bs => .bl (bs.any id)
  | .int, .int i => some (.int i)
  | .int, .bl b => some (.int (if b then 1 else 0))
  | .str, .int i => if 0 ≤ i ∧ i < 10 then some (.str (Str.ofString (toString i))) else none
  | .tuple, .tup ds => some (.tup ds)
  | .tuple, .lst ds => some (.tup ds)
  | _, _ => none
def fn2D : F2 → D → D → Option D
  | .max, .int i, .int j => some (.int (if j > i then j else i))
  | .min, .int i, .int j => some (.int (if j < i then j else i))
  | _, _, _ => none
def meth1D : M1 → D → D → Option D
  | .join, .str a, .lst ds => match strsOf ds with
    | some ys => if (ys.map (·.length)).sum + ys.length * a.length ≤ LIM then some (.str (Txt.join a ys)) else none
    | none => none
  | .count, .str a, .str b => some (.int (Txt.count a b))
  | .count, .lst ds, x => if flatD x && ds.all flatD then some (.int (Int.ofNat (ds.countP fun y => eqD y x))) else none
  | .get, .dic kvs, k => match keyOf k with
    | some k => some ((lookK kvs k).getD .non)
    | none => none
  | _, _, _ => none
def recvB : M1 → D → Bool
  | .join, .str _ => true
  | .count, .str _ => true
  | .count, .lst _ => true
  | .get, .dic _ => true
  | _, _ => false
def get2D : D → D → D → Option D
  | .dic kvs, k, x => match keyOf k with
    | some k => some ((lookK kvs k).getD x)
    | none => none
  | _, _, _ => none
def isiD : D → Ty → Option Bool
  | .non, _ => some false
  | .bl _, .int => some true
  | .bl _, .bool => some true
  | .bl _, _ => some false
  | .int _, .int => some true
  | .int _, _ => some false
  | .str _, .str => some true
  | .str _, _ => some false
  | .tup _, .tuple => some true
  | .tup _, _ => some false
  | .lst _, _ => some false
  | _, _ => none
def pairsOf : List D → Option (List (Key × D))
  | [] => some []
  | .tup [k, v] :: r => match keyOf k with
    | some k => (pairsOf r).map ((k, v) :: ·)
    | none => none
  | _ :: _ => none
def dictOf (ps : List (Key × D)) : List (Key × D) := ps.foldl (fun a p => setK a p.1 p.2) []
def hndNe : D → Nat → Bool
  | .hnd m, n => m != n
  | _, _ => true
/-- what a dict is brought up to -/
def mergeD (kvs ps : List (Key × D)) : List (Key × D) := ps.foldl (fun a p => setK a p.1 p.2) kvs
def updPs : D → Option (List (Key × D))
  | .dic kvs => some kvs
  | .tup ds => pairsOf ds
  | _ => none
def isort (ns : List Int) : List Int := ns.mergeSort fun a b => decide (a ≤ b)
def intKs {α : Type} : List (Key × α) → Option (List Int)
  | [] => some []
  | (.inl i, _) :: r => (intKs r).map (i :: ·)
  | _ :: _ => none
/-- the first of a tuple, an int -/
def fstD : D → Option Int
  | .tup (.int i :: _) => some i
  | _ => none
def fstsOf : List D → Option (List Int)
  | [] => some []
  | d :: r => match fstD d with
    | some i => (fstsOf r).map (i :: ·)
    | none => none
/-- tuples sorted by their firsts -/
def tsort (ds : List D) : List D := ds.mergeSort fun a b => decide ((fstD a).getD 0 ≤ (fstD b).getD 0)
/-- ints in order, each once -/
def uniq : List Int → List Int
  | [] => []
  | a :: r => match uniq r with
    | [] => [a]
    | b :: t => if a = b then b :: t else a :: b :: t
def sset (ns : List Int) : List Int := uniq (isort ns)
def ffD : FF → D → Option D
  | .list, .tup ds => some (.lst ds)
  | .list, .lst ds => some (.lst ds)
  | .list, .dic kvs => if (kvs.map (·.1)).all keyFit = true then some (.lst ((kvs.map (·.1)).map dK)) else none
  | .sorted, .lst ds => match intsOf ds with
    | some ns => some (.lst ((isort ns).map .int))
    | none => match fstsOf ds with
      | some ns => if ns.Nodup ∧ ds.length < 64 then some (.lst (tsort ds)) else none
      | none => none
  | .sorted, .tup ds => match intsOf ds with
    | some ns => some (.lst ((isort ns).map .int))
    | none => match fstsOf ds with
      | some ns => if ns.Nodup ∧ ds.length < 64 then some (.lst (tsort ds)) else none
      | none => none
  | .sorted, .dic kvs => if kvs.length < 64 then (intKs kvs).map fun ns => .lst ((isort ns).map .int) else none
  | .sset, .tup ds => if ds.length < 64 then (intsOf ds).map fun ns => .lst ((sset ns).map .int) else none
  | .dict, .dic kvs => some (.dic kvs)
  | .dict, .lst ds => (pairsOf ds).map fun ps => .dic (dictOf ps)
  | .dict, .tup ds => (pairsOf ds).map fun ps => .dic (dictOf ps)
  | _, _ => none
def itemsD : D → Option (List D)
  | .tup ds => some ds
  | .lst ds => some ds
  | .scr ds => some ds
  | .str x => some (x.cps.toList.map fun c => .str ⟨#[c]⟩)
  | _ => none
def enumD (ds : List D) : List D := ds.zipIdx.map fun p => .tup [.int (p.2 : Nat), p.1]
def enumI : D → Option (List D)
  | .tup ds => some (enumD ds)
  | .lst ds => some (enumD ds)
  | .str x => some (enumD (x.cps.toList.map fun c => .str ⟨#[c]⟩))
  | _ => none
def rangeL (a : Int) (n : Nat) : List D := (List.range n).map fun (k : Nat) => D.int (a + k)
def rangeD : D → D → Option (List D)
  | .int a, .int b => if -(2 ^ 62) ≤ a ∧ a < 2 ^ 62 ∧ -(2 ^ 62) ≤ b ∧ b < 2 ^ 62 ∧ b - a ≤ LIM then some (rangeL a (b - a).toNat) else none
  | _, _ => none
def zipD (as bs : List D) : List D := (as.zip bs).map fun p => .tup [p.1, p.2]
def zipO : D → D → Option (List D)
  | .tup as, .tup bs => some (zipD as bs)
  | .lst as, .lst bs => some (zipD as bs)
  | _, _ => none

def gdD (kvs : List (Str × Str)) : D → Option D
  | .str x => (kvs.lookup x).map .str
  | _ => none
/-! ### slots -/
def setS (ρ : Rho) (i : Nat) (d : D) : Option Rho := if i < ρ.length then some (ρ.set i (.sh d)) else none
def setSs : Rho → List Nat → List D → Option Rho
  | ρ, [], [] => some ρ
  | ρ, i :: is, d :: ds => (setS ρ i d).bind fun ρ => setSs ρ is ds
  | _, _, _ => none
def bindT (tg : List Nat) (tt : Bool) (ρ : Rho) (d : D) : Option Rho := match tt with
  | false => match tg with
    | [i] => setS ρ i d
    | _ => none
  | true => match d with
    | .tup ds => setSs ρ tg ds
    | .lst ds => setSs ρ tg ds
    | _ => none
def wipeR (ρ : Rho) : List Nat → Rho
  | [] => ρ
  | v :: vs => (wipeR ρ vs).set v .no

/-! ### expressions -/
def compL (f : D → Store → Res (Option D)) : List D → Store → Res (List D)
  | [], M => .ok [] M
  | d :: ds, M => match f d M with
    | .ok o M1 => match compL f ds M1 with
      | .ok r M2 => .ok (match o with | some x => x :: r | none => r) M2
      | _ => .fail
    | _ => .fail
def truR (r : Res D) : Res Bool := r.bind fun d M => opt (truD (dr M d)) M
def isOpt : D → Option (Option Int)
  | .int i => some (some i)
  | _ => none

section
variable (C : Nat → List D → Store → Res D)
mutual
def ev : E → Rho → Store → Res D
  | .int i, _, M => .ok (.int i) M
  | .str x, _, M => .ok (.str x) M
  | .bl b, _, M => .ok (.bl b) M
  | .non, _, M => .ok .non M
  | .var i, ρ, M => match ρ[i]? with
    | some (.sh d) => .ok d M
    | _ => .fail
  | .peek i, ρ, M => match ρ[i]? with
    | some (.ow d) => .ok d M
    | _ => .fail
  | .move i, ρ, M => match ρ[i]? with
    | some (.ow d) => .ok d M
    | _ => .fail
  | .glob _ i, _, M => .ok (.int i) M
  | .bin k a b, ρ, M => (ev a ρ M).bind fun x M => (ev b ρ M).bind fun y M => opt (binD k x y) M
  | .neg a, ρ, M => (ev a ρ M).bind fun x M => match x with
    | .int i => .ok (.int (-i)) M
    | _ => .fail
  | .cmp k a b, ρ, M => (ev a ρ M).bind fun x M => (ev b ρ M).bind fun y M => opt ((cmpD k x (dr M y)).map .bl) M
  | .cmp2 k l a b c, ρ, M => (ev a ρ M).bind fun x M => (ev b ρ M).bind fun y M => (opt (cmpD k x (dr M y)) M).bind fun t M =>
      match t with
      | true => (ev c ρ M).bind fun z M => opt ((cmpD l y (dr M z)).map .bl) M
      | false => .ok (.bl false) M
  | .and l, ρ, M => evAnd l ρ M
  | .or l, ρ, M => evOr l ρ M
  | .not a, ρ, M => (truR (ev a ρ M)).bind fun b M => .ok (.bl (!b)) M
  | .ite t a b, ρ, M => (evT t ρ M).bind fun c M => match c with
    | true => ev a ρ M
    | false => ev b ρ M
  | .tup l, ρ, M => (evs l ρ M).bind fun ds M => if ds.length ≤ LIM then .ok (.tup ds) M else .fail
  | .lst l, ρ, M => (evs l ρ M).bind fun ds M => if ds.length ≤ LIM then .ok (.lst ds) M else .fail
  | .idx a b, ρ, M => (ev a ρ M).bind fun x M => (ev b ρ M).bind fun y M => opt (idxD (dr M x) y) M
  | .slice a lo hi, ρ, M => (ev a ρ M).bind fun x M => (evO lo ρ M).bind fun l M => (evO hi ρ M).bind fun h M => opt (sliceD x l h) M
  | .rev a, ρ, M => (ev a ρ M).bind fun x M => opt (revD x) M
  | .call f l, ρ, M => (evs l ρ M).bind fun ds M => C f ds M
  | .fcall f l, ρ, M => (evs l ρ M).bind fun ds M => C f ds M
  | .fn1 k a, ρ, M => (ev a ρ M).bind fun x M => opt (fn1D k (dr M x)) M
  | .fn2 k a b, ρ, M => (ev a ρ M).bind fun x M => (ev b ρ M).bind fun y M => opt (fn2D k x y) M
  | .meth1 k a b, ρ, M => (ev a ρ M).bind fun x M => match recvB k (dr M x) with
    | true => (ev b ρ M).bind fun y M => opt (meth1D k (dr M x) y) M
    | false => .fail
  | .get2 a b c, ρ, M => (ev a ρ M).bind fun x M => match recvB .get (dr M x) with
    | true => (ev b ρ M).bind fun y M => (ev c ρ M).bind fun z M => opt (get2D (dr M x) y z) M
    | false => .fail
  | .isi a t, ρ, M => (ev a ρ M).bind fun x M => opt ((isiD x t).map .bl) M
  | .ff k a, ρ, M => (ev a ρ M).bind fun x M => opt (ffD k (dr M x)) M
  | .dic0, _, M => .ok (.dic []) M
  | .hn a, ρ, M => (ev a ρ M).bind fun x M => .ok (.hnd M.length) (M ++ [x])
  | .dsp k v, ρ, M => (ev k ρ M).bind fun x M => (ev v ρ M).bind fun y M => opt ((keyOf x).map fun k => .dic [(k, y)]) M
  | .lit a, ρ, M => (ev a ρ M).bind fun x M => opt ((rangeD (.int 0) x).map .lst) M
  | .lit2 a b, ρ, M => (ev a ρ M).bind fun x M => (ev b ρ M).bind fun y M => opt ((rangeD x y).map .lst) M
  | .hpop h i, ρ, M => (ev h ρ M).bind fun x M => match dr M x with
    | .lst _ => (ev i ρ M).bind fun y M => match x with
      | .hnd n => match M[n]? with
        | some (.lst ds) => match y with
          | .int j => if -(2 ^ 63) ≤ j ∧ j < 2 ^ 63 then match ixN ds.length j with
            | some k => match ds[k]? with
              | some d => .ok d (M.set n (.lst (ds.eraseIdx k)))
              | none => .fail
            | none => .fail else .fail
          | _ => .fail
        | _ => .fail
      | _ => .fail
    | _ => .fail
  | .gd _ kvs a, ρ, M => (ev a ρ M).bind fun x M => opt (gdD kvs x) M
  | .comp tg tt it cond elt own, ρ, M => (evI it ρ M).bind fun ds M =>
      (compL (fun d M => match bindT tg tt (wipeR ρ own) d with
        | some ρ1 => match evC cond ρ1 M with
          | .ok true M1 => (ev elt ρ1 M1).bind fun x M2 => .ok (some x) M2
          | .ok false M1 => .ok none M1
          | _ => .fail
        | none => .fail) ds M).bind fun r M => .ok (.lst r) M
  | .fld c a x, ρ, M => (ev a ρ M).bind fun v M => match dr M v with
    | .obj c' fs => if c' = c then opt (fs.lookup x) M else .fail
    | _ => .fail
  | .mcall c f m a l, ρ, M => (ev a ρ M).bind fun v M => match dr M v with
    | .obj c' fs => if c' = c ∧ fs.lookup m = none then (evs l ρ M).bind fun ds M => C f (v :: ds) M else .fail
    | _ => .fail
  | .mk c f l, ρ, M => (evs l ρ M).bind fun ds M => match C f (.hnd M.length :: ds) (M ++ [.obj c []]) with
    | .ok .non M1 => .ok (.hnd M.length) M1
    | _ => .fail
  | .compK tg a cond elt, ρ, M => (ev a ρ M).bind fun v M => match v with
    | .hnd n => match M[n]? with
      | some (.dic kvs) => if (kvs.map (·.1)).all keyFit = true then (compL (fun d M => match bindT [tg] false (wipeR ρ [tg]) d with
          | some ρ1 => match evC cond ρ1 M with
            | .ok true M1 => (ev elt ρ1 M1).bind fun x M2 => .ok (some x) M2
            | .ok false M1 => .ok none M1
            | _ => .fail
          | none => .fail) ((kvs.map (·.1)).map dK) (M.set n (.lck kvs))).bind fun r M => match M[n]? with
            | some (.lck kvs1) => .ok (.lst r) (M.set n (.dic kvs1))
            | _ => .fail else .fail
      | _ => .fail
    | _ => .fail
  | .dsps l, ρ, M => (evPs l ρ M).bind fun ps M => .ok (.dic (dictOf ps)) M
  | _, _, _ => .fail
/-- what is displayed in a dict -/
def evPs : E → Rho → Store → Res (List (Key × D))
  | .nil, _, M => .ok [] M
  | .cons (.dsp k v) r, ρ, M => (ev k ρ M).bind fun x M => (ev v ρ M).bind fun y M => match keyOf x with
    | some k => (evPs r ρ M).bind fun ps M => .ok ((k, y) :: ps) M
    | none => .fail
  | _, _, _ => .fail
/-- a condition that may be left out -/
def evC : E → Rho → Store → Res Bool
  | .nil, _, M => .ok true M
  | .cons c .nil, ρ, M => evT c ρ M
  | _, _, _ => .fail
/-- a bound that may be left out -/
def evO : E → Rho → Store → Res (Option Int)
  | .nil, _, M => .ok none M
  | .cons a .nil, ρ, M => (ev a ρ M).bind fun x M => match x with
    | .int i => .ok (some i) M
    | _ => .fail
  | _, _, _ => .fail
def evs : E → Rho → Store → Res (List D)
  | .nil, _, M => .ok [] M
  | .cons e r, ρ, M => (ev e ρ M).bind fun d M => (evs r ρ M).bind fun ds M => .ok (d :: ds) M
  | _, _, _ => .fail
def evAnd : E → Rho → Store → Res D
  | .cons e r, ρ, M => match r with
    | .nil => ev e ρ M
    | _ => (ev e ρ M).bind fun d M => (opt (truD (dr M d)) M).bind fun b M => match b with
      | true => evAnd r ρ M
      | false => .ok d M
  | _, _, _ => .fail
def evOr : E → Rho → Store → Res D
  | .cons e r, ρ, M => match r with
    | .nil => ev e ρ M
    | _ => (ev e ρ M).bind fun d M => (opt (truD (dr M d)) M).bind fun b M => match b with
      | true => .ok d M
      | false => evOr r ρ M
  | _, _, _ => .fail
def evT : E → Rho → Store → Res Bool
  | .and l, ρ, M => evAndT l ρ M
  | .or l, ρ, M => evOrT l ρ M
  | .not a, ρ, M => (evT a ρ M).bind fun b M => .ok (!b) M
  | .cmp k a b, ρ, M => (ev a ρ M).bind fun x M => (ev b ρ M).bind fun y M => opt (cmpD k x (dr M y)) M
  | .cmp2 k l a b c, ρ, M => (ev a ρ M).bind fun x M => (ev b ρ M).bind fun y M => (opt (cmpD k x (dr M y)) M).bind fun t M =>
      match t with
      | true => (ev c ρ M).bind fun z M => opt (cmpD l y (dr M z)) M
      | false => .ok false M
  | .var i, ρ, M => match ρ[i]? with
    | some (.sh d) => opt (truD (dr M d)) M
    | _ => .fail
  | .peek i, ρ, M => match ρ[i]? with
    | some (.ow d) => opt (truD (dr M d)) M
    | _ => .fail
  | .call f l, ρ, M => (evs l ρ M).bind fun ds M => truR (C f ds M)
  | .idx a b, ρ, M => (ev a ρ M).bind fun x M => (ev b ρ M).bind fun y M => (opt (idxD (dr M x) y) M).bind fun d M => opt (truD (dr M d)) M
  | .fn1 k a, ρ, M => (ev a ρ M).bind fun x M => (opt (fn1D k (dr M x)) M).bind fun d M => opt (truD (dr M d)) M
  | .isi a t, ρ, M => (ev a ρ M).bind fun x M => opt (isiD x t) M
  | .bl b, _, M => .ok b M
  | .mcall c f m a l, ρ, M => (ev a ρ M).bind fun v M => match dr M v with
    | .obj c' fs => if c' = c ∧ fs.lookup m = none then (evs l ρ M).bind fun ds M => truR (C f (v :: ds) M) else .fail
    | _ => .fail
  | .comp tg tt it cond elt own, ρ, M => (evI it ρ M).bind fun ds M =>
      (compL (fun d M => match bindT tg tt (wipeR ρ own) d with
        | some ρ1 => match evC cond ρ1 M with
          | .ok true M1 => (ev elt ρ1 M1).bind fun x M2 => .ok (some x) M2
          | .ok false M1 => .ok none M1
          | _ => .fail
        | none => .fail) ds M).bind fun r M => .ok (!r.isEmpty) M
  | _, _, _ => .fail
def evAndT : E → Rho → Store → Res Bool
  | .nil, _, M => .ok true M
  | .cons e r, ρ, M => (evT e ρ M).bind fun b M => match b with
    | true => evAndT r ρ M
    | false => .ok false M
  | _, _, _ => .fail
def evOrT : E → Rho → Store → Res Bool
  | .nil, _, M => .ok false M
  | .cons e r, ρ, M => (evT e ρ M).bind fun b M => match b with
    | true => .ok true M
    | false => evOrT r ρ M
  | _, _, _ => .fail
/-- what a loop walks -/
def evI : E → Rho → Store → Res (List D)
  | .itSeq a, ρ, M => (ev a ρ M).bind fun x M => opt (itemsD x) M
  | .itRange1 a, ρ, M => (ev a ρ M).bind fun x M => opt (rangeD (.int 0) x) M
  | .itRange a b, ρ, M => (ev a ρ M).bind fun x M => (ev b ρ M).bind fun y M => opt (rangeD x y) M
  | .itEnum a, ρ, M => (ev a ρ M).bind fun x M => opt (enumI x) M
  | .itZip a b, ρ, M => (ev a ρ M).bind fun x M => (ev b ρ M).bind fun y M => opt (zipO x y) M
  | .itOwn i, ρ, M => match ρ[i]? with
    | some (.ow (.lst ds)) => .ok ds M
    | _ => .fail
  | _, _, _ => .fail
end

/-! ### statements -/
inductive Out where
  | nx (ρ : Rho) (M : Store) | ct (ρ : Rho) (M : Store) | ret (d : D) (M : Store) | exc (c : Nat) (ρ : Rho) (M : Store) | fail
def Out.seq (o : Out) (k : Rho → Store → Out) : Out := match o with
  | .nx ρ M => k ρ M
  | o => o
def ofR {α : Type} (ρ : Rho) (r : Res α) (k : α → Store → Out) : Out := match r with
  | .ok a M => k a M
  | .exc c M => .exc c ρ M
  | .fail => .fail
def oRho (o : Option Rho) (M : Store) : Out := match o with
  | some ρ => .nx ρ M
  | none => .fail
/-- a loop's next turn behind this end -/
def Out.again (o : Out) (k : Rho → Store → Out) : Out := match o with
  | .nx ρ M => k ρ M
  | .ct ρ M => k ρ M
  | o => o
def forL (b : D → Rho → Store → Out) : List D → Rho → Store → Out
  | [], ρ, M => .nx ρ M
  | d :: ds, ρ, M => (b d ρ M).again (forL b ds)
def whileL (c : Rho → Store → Res Bool) (b : Rho → Store → Out) : Nat → Rho → Store → Out
  | 0, _, _ => .fail
  | n + 1, ρ, M => ofR ρ (c ρ M) fun t M => match t with
    | true => (b ρ M).again (whileL c b n)
    | false => .nx ρ M
def WF : Nat := 1000000
def setO (ρ : Rho) (i : Nat) (d : D) : Option Rho := if i < ρ.length then some (ρ.set i (.ow d)) else none
def setParS : Rho → List Nat → List D → Option Rho := setSs

def ex : S → Rho → Store → Out
  | .skip, ρ, M => .nx ρ M
  | .seq a b, ρ, M => (ex a ρ M).seq (ex b)
  | .asg tg tt e, ρ, M => ofR ρ (ev C e ρ M) fun d M => oRho (bindT tg tt ρ d) M
  | .par tg l, ρ, M => ofR ρ (evs C l ρ M) fun ds M => oRho (setSs ρ tg ds) M
  | .parO i a j b, ρ, M => ofR ρ (ev C a ρ M) fun x M => ofR ρ (ev C b ρ M) fun y M => oRho ((setS ρ i x).bind fun ρ => setO ρ j y) M
  | .own i e, ρ, M => ofR ρ (ev C e ρ M) fun d M => oRho (setO ρ i d) M
  | .hnew i e, ρ, M => ofR ρ (ev C e ρ M) fun d M => oRho (setS ρ i (.hnd M.length)) (M ++ [d])
  | .seti i k e, ρ, M => ofR ρ (ev C e ρ M) fun d M => match ρ[i]? with
    | some (.ow (.dic kvs)) => ofR ρ (ev C k ρ M) fun y M => match keyOf y with
      | some k => if kvs.length < LIM then .nx (ρ.set i (.ow (.dic (setK kvs k d)))) M else .fail
      | none => .fail
    | some (.ow (.lst ds)) => ofR ρ (ev C k ρ M) fun y M => match y with
      | .int j => match ixN ds.length j with
        | some j => .nx (ρ.set i (.ow (.lst (ds.set j d)))) M
        | none => .fail
      | _ => .fail
    | _ => .fail
  | .app i e, ρ, M => match ρ[i]? with
    | some (.ow (.lst ds)) => ofR ρ (ev C e ρ M) fun d M => if ds.length < LIM then .nx (ρ.set i (.ow (.lst (ds ++ [d])))) M else .fail
    | _ => .fail
  | .popd i k, ρ, M => match ρ[i]? with
    | some (.ow (.dic kvs)) => ofR ρ (ev C k ρ M) fun y M => match keyOf y with
      | some k => .nx (ρ.set i (.ow (.dic (delK kvs k)))) M
      | none => .fail
    | _ => .fail
  | .happ h e, ρ, M => ofR ρ (ev C h ρ M) fun x M => match dr M x with
    | .lst _ => ofR ρ (ev C e ρ M) fun d M => match x with
      | .hnd n => match M[n]? with
        | some (.lst ds) => if ds.length < LIM then .nx ρ (M.set n (.lst (ds ++ [d]))) else .fail
        | _ => .fail
      | _ => .fail
    | _ => .fail
  | .hseti h k e, ρ, M => ofR ρ (ev C e ρ M) fun d M => ofR ρ (ev C h ρ M) fun x M => ofR ρ (ev C k ρ M) fun y M => match x with
    | .hnd n => match M[n]? with
      | some (.dic kvs) => match keyOf y with
        | some k => if kvs.length < LIM then .nx ρ (M.set n (.dic (setK kvs k d))) else .fail
        | none => .fail
      | some (.lst ds) => match y with
        | .int j => match ixN ds.length j with
          | some j => .nx ρ (M.set n (.lst (ds.set j d)))
          | none => .fail
        | _ => .fail
      | _ => .fail
    | _ => .fail
  | .hpopd h k, ρ, M => ofR ρ (ev C h ρ M) fun x M => match dr M x with
    | .dic _ => ofR ρ (ev C k ρ M) fun y M => match x with
      | .hnd n => match M[n]? with
        | some (.dic kvs) => match keyOf y with
          | some k => .nx ρ (M.set n (.dic (delK kvs k)))
          | none => .fail
        | _ => .fail
      | _ => .fail
    | _ => .fail
  | .expr e, ρ, M => ofR ρ (ev C e ρ M) fun _ M => .nx ρ M
  | .ite c a b, ρ, M => ofR ρ (evT C c ρ M) fun t M => match t with
    | true => ex a ρ M
    | false => ex b ρ M
  | .for tg tt it body, ρ, M => ofR ρ (evI C it ρ M) fun ds M => forL (fun d ρ M => match bindT tg tt ρ d with
      | some ρ => ex body ρ M
      | none => .fail) ds ρ M
  | .while c body, ρ, M => whileL (evT C c) (ex body) WF ρ M
  | .ret e, ρ, M => ofR ρ (ev C e ρ M) fun d M => .ret d M
  | .retF e, ρ, M => ofR ρ (ev C e ρ M) fun d M => .ret d M
  | .raise c, ρ, M => .exc c ρ M
  | .tryx body c n suite, ρ, M => match ex body ρ M with
    | .exc c' ρ M => if c = c' then ex suite ρ M else if c' < n then .exc c' ρ M else .fail
    | o => o
  | .tryx2 body c1 s1 c2 s2, ρ, M => match ex body ρ M with
    | .exc c' ρ M => if c1 = c' then ex s1 ρ M else if c2 = c' then ex s2 ρ M else .exc c' ρ M
    | o => o
  | .cont, ρ, M => .ct ρ M
  | .hfld c a x e, ρ, M => ofR ρ (ev C e ρ M) fun d M => ofR ρ (ev C a ρ M) fun v M => match v with
    | .hnd n => match M[n]? with
      | some (.obj c' fs) => if c' = c ∧ fs.length < 1000 then .nx ρ (M.set n (.obj c (fput x d fs))) else .fail
      | _ => .fail
    | _ => .fail
  | .hpop1 h k, ρ, M => ofR ρ (ev C h ρ M) fun x M => match dr M x with
    | .dic _ => ofR ρ (ev C k ρ M) fun y M => match x with
      | .hnd n => match M[n]? with
        | some (.dic kvs) => match keyOf y with
          | some k => if (lookK kvs k).isSome then .nx ρ (M.set n (.dic (delK kvs k))) else .fail
          | none => .fail
        | _ => .fail
      | _ => .fail
    | _ => .fail
  | .hupd h e, ρ, M => ofR ρ (ev C h ρ M) fun x M => match dr M x with
    | .dic _ => ofR ρ (ev C e ρ M) fun y M => match x with
      | .hnd n => match M[n]? with
        | some (.dic kvs) => match updPs (dr M y) with
          | some ps => if hndNe y n = true ∧ kvs.length + ps.length ≤ LIM then .nx ρ (M.set n (.dic (mergeD kvs ps))) else .fail
          | none => .fail
        | _ => .fail
      | _ => .fail
    | _ => .fail
  | .hext h e, ρ, M => ofR ρ (ev C h ρ M) fun x M => match dr M x with
    | .lst _ => ofR ρ (ev C e ρ M) fun y M => match x with
      | .hnd n => match M[n]? with
        | some (.lst ds) => match y with
          | .lst es => if ds.length + es.length ≤ LIM then .nx ρ (M.set n (.lst (ds ++ es))) else .fail
          | _ => .fail
        | _ => .fail
      | _ => .fail
    | _ => .fail
  | .forK tg h body, ρ, M => ofR ρ (ev C h ρ M) fun x M => match x with
    | .hnd n => match M[n]? with
      | some (.dic kvs) => if (kvs.map (·.1)).all keyFit = true then match forL (fun d ρ M => match bindT [tg] false ρ d with
          | some ρ => ex body ρ M
          | none => .fail) ((kvs.map (·.1)).map dK) ρ (M.set n (.lck kvs)) with
        | .nx ρ M => match M[n]? with
          | some (.lck kvs1) => .nx ρ (M.set n (.dic kvs1))
          | _ => .fail
        | _ => .fail else .fail
      | _ => .fail
    | _ => .fail
  | .frzB i b, ρ, M => match ρ[i]? with
    | some (.ow d) => ex b (ρ.set i (.sh d)) M
    | _ => .fail
  | _, _, _ => .fail
end

/-! ### functions -/
/-- a method: its class, the class's name, its name, the attributes of the class (said by __init__) -/
structure Mt where
  c : Nat
  cn : Str
  m : Str
  fl : List Str
structure Fn where
  name : Str
  np : Nat
  N : List Str
  own : Bool
  body : S
  mt : Option Mt := none
def outR (own : Bool) : Out → Res D
  | .ret d M => .ok d M
  | .nx _ M => if own then .fail else .ok .non M
  | .exc c _ M => .exc c M
  | _ => .fail
def entry (fn : Fn) (ds : List D) : Rho := ds.map .sh ++ List.replicate (fn.N.length - ds.length) .no
def run (P : List Fn) : Nat → Nat → List D → Store → Res D
  | 0, _, _, _ => .fail
  | k + 1, f, ds, M => match P[f]? with
    | some fn => if ds.length = fn.np then outR fn.own (ex (run P k) fn.body (entry fn ds) M) else .fail
    | none => .fail
end Pv

set_option Elab.async false
set_option linter.all false
set_option maxRecDepth 100000
set_option maxHeartbeats 4000000
namespace Pv
open PySem L2

theorem LIM_eq : LIM = sizeLine := rfl

/-! ### how values stand in the heap -/
structure Wd where
  F : Addr → Prop
  A : List Addr
  H : Hp
  K : PySem.W.Frag
  B : Nat → Addr
/-- a tuple that is known to have no dict -/
def TH (H : Hp) (p : Addr) (vs : List V) : Prop := ∃ o : Obj, o.dict = Option.none ∧ H p = some (.frz o (.tup vs))
theorem TH.sq {K : PySem.W.Frag} {H : Hp} {p : Addr} {vs : List V} (h : TH H p vs) : SqT K H p vs := by
  obtain ⟨o, _, e⟩ := h
  exact .inl (.inr ⟨o, e⟩)
theorem TH.eq {H H' : Hp} {p : Addr} {vs : List V} (e : H' p = H p) (h : TH H p vs) : TH H' p vs := by
  obtain ⟨o, d, q⟩ := h
  exact ⟨o, d, e.trans q⟩

/-- a list of the written part -/
def KLst (K : PySem.W.Frag) (a : Addr) (xs : List V) : Prop :=
  ∃ (o : Obj) (its : Array Value) (n : Nat), K.lookup a = some o ∧ o.cls = .type "list" ∧ o.dict = none ∧ o.data = .seq its n ∧ its.size ≤ sizeLine ∧ Vals xs its.toList

mutual
inductive Rep (w : Wd) : V → D → Prop where
  | non : Rep w .non .non
  | bl (b : Bool) : Rep w (.bl b) (.bl b)
  | int (i : Int) : Rep w (.int i) (.int i)
  | str (x : Str) (h : x.length ≤ LIM) : Rep w (.str x) (.str x)
  | tup {p : Addr} {vs : List V} {ds : List D} : w.F p → TH w.H p vs → Reps w vs ds → Rep w (.ref p) (.tup ds)
  | lst {p : Addr} {vs : List V} {ds : List D} : w.F p → w.H p = some (.lst vs) → Reps w vs ds → Rep w (.ref p) (.lst ds)
  | scr {p : Addr} {o : Obj} {vs : List V} {ds : List D} : w.F p → w.H p = some (.frz o (.lst vs)) → Reps w vs ds → Rep w (.ref p) (.scr ds)
  | scrK {p : Addr} {vs : List V} {ds : List D} : KLst w.K p vs → Reps w vs ds → Rep w (.ref p) (.scr ds)
  | dic {p : Addr} {kvs : List (Key × V)} {ks : List (Key × D)} : w.F p → w.H p = some (.dK kvs) → kvs.map (·.1) = ks.map (·.1) → Reps w (kvs.map (·.2)) (ks.map (·.2)) → Rep w (.ref p) (.dic ks)
  | hnd {p : Addr} {h : Nat} : w.A[h]? = some p → Rep w (.ref p) (.hnd h)
inductive Reps (w : Wd) : List V → List D → Prop where
  | nil : Reps w [] []
  | cons {v : V} {d : D} {vs : List V} {ds : List D} : Rep w v d → Reps w vs ds → Reps w (v :: vs) (d :: ds)
end

/-- an object of one's own: a list or a dict -/
def Own (w : Wd) (p : Addr) : D → Prop
  | .lst ds => ∃ vs, w.H p = some (.lst vs) ∧ Reps w vs ds
  | .dic ks => ∃ kvs : List (Key × V), w.H p = some (.dK kvs) ∧ kvs.map (·.1) = ks.map (·.1) ∧ Reps w (kvs.map (·.2)) (ks.map (·.2))
  | _ => False
/-- an object behind a handle: a list, a dict, an instance, a dict that is walked -/
def OwnM (w : Wd) (p : Addr) : D → Prop
  | .obj c fs => ∃ dx fvs, w.H p = some (.ins (w.B c) dx fvs) ∧ fvs.map (·.1) = fs.map (·.1) ∧ Reps w (fvs.map (·.2)) (fs.map (·.2))
  | .lck ks => ∃ (o : Obj) (kvs : List (Key × V)), w.H p = some (.frz o (.dK kvs)) ∧ kvs.map (·.1) = ks.map (·.1) ∧ Reps w (kvs.map (·.2)) (ks.map (·.2))
  | d => Own w p d

/-- what holds of frozen things stays -/
structure Wle (w w' : Wd) : Prop where
  F : ∀ (a : Addr), w.F a → w'.F a ∧ w'.H a = w.H a
  A : ∀ (h : Nat) (a : Addr), w.A[h]? = some a → w'.A[h]? = some a
  K : w'.K = w.K
  B : w'.B = w.B
theorem Wle.refl (w : Wd) : Wle w w := ⟨fun _ h => ⟨h, rfl⟩, fun _ _ h => h, rfl, rfl⟩
theorem Wle.trans {a b c : Wd} (h : Wle a b) (k : Wle b c) : Wle a c :=
  ⟨fun x hx => ⟨(k.F x (h.F x hx).1).1, ((k.F x (h.F x hx).1).2).trans (h.F x hx).2⟩, fun i x e => k.A i x (h.A i x e), k.K.trans h.K, k.B.trans h.B⟩

mutual
theorem Rep.mono {w w' : Wd} (l : Wle w w') : ∀ {v : V} {d : D}, Rep w v d → Rep w' v d
  | _, _, .non => .non
  | _, _, .bl b => .bl b
  | _, _, .int i => .int i
  | _, _, .str x h => .str x h
  | _, _, .tup f h r => .tup (l.F _ f).1 (h.eq (l.F _ f).2) (Reps.mono l r)
  | _, _, .lst f h r => .lst (l.F _ f).1 ((l.F _ f).2.trans h) (Reps.mono l r)
  | _, _, .scr f h r => .scr (l.F _ f).1 ((l.F _ f).2.trans h) (Reps.mono l r)
  | _, _, .scrK h r => .scrK (by rw [l.K]; exact h) (Reps.mono l r)
  | _, _, .dic f h e r => .dic (l.F _ f).1 ((l.F _ f).2.trans h) e (Reps.mono l r)
  | _, _, .hnd h => .hnd (l.A _ _ h)
theorem Reps.mono {w w' : Wd} (l : Wle w w') : ∀ {vs : List V} {ds : List D}, Reps w vs ds → Reps w' vs ds
  | _, _, .nil => .nil
  | _, _, .cons r t => .cons (Rep.mono l r) (Reps.mono l t)
end
theorem Own.mono {w w' : Wd} (l : Wle w w') {p : Addr} (e : w'.H p = w.H p) : ∀ {d : D}, Own w p d → Own w' p d
  | .lst ds, ⟨vs, h, r⟩ => ⟨vs, e.trans h, r.mono l⟩
  | .dic ks, ⟨kvs, h, k, r⟩ => ⟨kvs, e.trans h, k, r.mono l⟩
theorem OwnM.mono {w w' : Wd} (l : Wle w w') {p : Addr} (e : w'.H p = w.H p) : ∀ {d : D}, OwnM w p d → OwnM w' p d
  | .lst ds, ⟨vs, h, r⟩ => ⟨vs, e.trans h, r.mono l⟩
  | .dic ks, ⟨kvs, h, k, r⟩ => ⟨kvs, e.trans h, k, r.mono l⟩
  | .obj c fs, ⟨dx, fvs, h, k, r⟩ => ⟨dx, fvs, by rw [l.B]; exact e.trans h, k, r.mono l⟩
  | .lck ks, ⟨o, kvs, h, k, r⟩ => ⟨o, kvs, e.trans h, k, r.mono l⟩
theorem OwnM.of {w : Wd} {p : Addr} : ∀ {d : D}, Own w p d → OwnM w p d
  | .lst ds, h => h
  | .dic ks, h => h
theorem Own.some {w : Wd} {p : Addr} : ∀ {d : D}, Own w p d → ∃ o, w.H p = some o
  | .lst ds, ⟨vs, h, r⟩ => ⟨_, h⟩
  | .dic ks, ⟨kvs, h, k, r⟩ => ⟨_, h⟩
theorem OwnM.some {w : Wd} {p : Addr} : ∀ {d : D}, OwnM w p d → ∃ o, w.H p = some o
  | .lst ds, ⟨vs, h, r⟩ => ⟨_, h⟩
  | .dic ks, ⟨kvs, h, k, r⟩ => ⟨_, h⟩
  | .obj c fs, ⟨dx, fvs, h, k, r⟩ => ⟨_, h⟩
  | .lck ks, ⟨o, kvs, h, k, r⟩ => ⟨_, h⟩
theorem Own.mut {w : Wd} {p : Addr} : ∀ {d : D}, Own w p d → Mut (w.H p)
  | .lst ds, ⟨vs, h, r⟩ => by rw [h]; trivial
  | .dic ks, ⟨kvs, h, k, r⟩ => by rw [h]; trivial
/-- frozen -/
theorem Own.rep {w : Wd} {p : Addr} (f : w.F p) : ∀ {d : D}, Own w p d → Rep w (.ref p) d
  | .lst ds, ⟨vs, h, r⟩ => .lst f h r
  | .dic ks, ⟨kvs, h, k, r⟩ => .dic f h k r

theorem Reps.length {w : Wd} : ∀ {vs : List V} {ds : List D}, Reps w vs ds → vs.length = ds.length
  | _, _, .nil => rfl
  | _, _, .cons r t => by simp [Reps.length t]
theorem Reps.get {w : Wd} : ∀ {vs : List V} {ds : List D} {i : Nat} {d : D}, Reps w vs ds → ds[i]? = some d → ∃ v, vs[i]? = some v ∧ Rep w v d
  | _, _, _, _, .nil, e => by simp at e
  | _, _, 0, _, .cons r _, e => by simp at e; subst e; exact ⟨_, rfl, r⟩
  | _, _, i + 1, _, .cons _ t, e => by
    obtain ⟨v, h1, h2⟩ := Reps.get (i := i) t (by simpa using e)
    exact ⟨v, by simpa using h1, h2⟩
theorem Reps.get' {w : Wd} : ∀ {vs : List V} {ds : List D} {i : Nat} {v : V}, Reps w vs ds → vs[i]? = some v → ∃ d, ds[i]? = some d ∧ Rep w v d
  | _, _, _, _, .nil, e => by simp at e
  | _, _, 0, _, .cons r _, e => by simp at e; subst e; exact ⟨_, rfl, r⟩
  | _, _, i + 1, _, .cons _ t, e => by
    obtain ⟨v, h1, h2⟩ := Reps.get' (i := i) t (by simpa using e)
    exact ⟨v, by simpa using h1, h2⟩
theorem Reps.append {w : Wd} : ∀ {vs us : List V} {ds es : List D}, Reps w vs ds → Reps w us es → Reps w (vs ++ us) (ds ++ es)
  | _, _, _, _, .nil, s => s
  | _, _, _, _, .cons r t, s => .cons r (t.append s)
theorem Reps.take {w : Wd} : ∀ {vs : List V} {ds : List D} (n : Nat), Reps w vs ds → Reps w (vs.take n) (ds.take n)
  | _, _, 0, _ => by simpa using Reps.nil
  | _, _, _ + 1, .nil => by simpa using Reps.nil
  | _, _, n + 1, .cons r t => by simpa using Reps.cons r (t.take n)
theorem Reps.drop {w : Wd} : ∀ {vs : List V} {ds : List D} (n : Nat), Reps w vs ds → Reps w (vs.drop n) (ds.drop n)
  | _, _, 0, h => h
  | _, _, _ + 1, .nil => by simpa using Reps.nil
  | _, _, n + 1, .cons r t => by simpa using t.drop n
theorem Reps.reverse {w : Wd} : ∀ {vs : List V} {ds : List D}, Reps w vs ds → Reps w vs.reverse ds.reverse
  | _, _, .nil => .nil
  | _, _, .cons r t => by
    rw [List.reverse_cons, List.reverse_cons]
    exact t.reverse.append (.cons r .nil)
theorem Reps.set {w : Wd} {v : V} {d : D} (r : Rep w v d) : ∀ {vs : List V} {ds : List D} (i : Nat), Reps w vs ds → Reps w (vs.set i v) (ds.set i d)
  | _, _, _, .nil => .nil
  | _, _, 0, .cons _ t => .cons r t
  | _, _, i + 1, .cons q t => .cons q (Reps.set r i t)
theorem Reps.ints {w : Wd} : ∀ {vs : List V} {ds : List D} {ns : List Int}, Reps w vs ds → intsOf ds = some ns → vs = ns.map .int
  | _, _, ns, .nil, e => by
    cases e; rfl
  | _, _, ns, .cons (d := d) r t, e => by
    cases r <;> simp only [intsOf, Option.map_eq_some_iff, reduceCtorEq] at e
    obtain ⟨l, e1, rfl⟩ := e
    rw [Reps.ints t e1]
    rfl
theorem Reps.bools {w : Wd} : ∀ {vs : List V} {ds : List D} {ns : List Bool}, Reps w vs ds → boolsOf ds = some ns → vs = ns.map .bl
  | _, _, ns, .nil, e => by
    cases e; rfl
  | _, _, ns, .cons (d := d) r t, e => by
    cases r <;> simp only [boolsOf, Option.map_eq_some_iff, reduceCtorEq] at e
    obtain ⟨l, e1, rfl⟩ := e
    rw [Reps.bools t e1]
    rfl
theorem Reps.strs {w : Wd} : ∀ {vs : List V} {ds : List D} {ns : List Str}, Reps w vs ds → strsOf ds = some ns → vs = ns.map .str
  | _, _, ns, .nil, e => by
    cases e; rfl
  | _, _, ns, .cons (d := d) r t, e => by
    cases r <;> simp only [strsOf, Option.map_eq_some_iff, reduceCtorEq] at e
    obtain ⟨l, e1, rfl⟩ := e
    rw [Reps.strs t e1]
    rfl
theorem Reps.of_ints {w : Wd} : ∀ ns : List Int, Reps w (ns.map V.int) (ns.map D.int)
  | [] => .nil
  | i :: r => .cons (.int i) (Reps.of_ints r)

/-! ### worlds -/
structure Wf (w : Wd) : Prop where
  f : ∀ (a : Addr), w.F a → a ∉ w.A ∧ ∃ o, w.H a = some o
  nd : w.A.Nodup
  a : ∀ x ∈ w.A, ∃ o, w.H x = some o
/-- behind a piece of code -/
structure Ext (w w' : Wd) : Prop where
  F : ∀ a, w.F a → w'.F a
  A : ∃ l, w'.A = w.A ++ l
  H : ∀ a o, w.H a = some o → a ∉ w.A → w'.H a = some o
  nF : ∀ a, w'.F a → w.F a ∨ w.H a = none
  nA : ∀ a ∈ w'.A, a ∈ w.A ∨ w.H a = none
  kp : ∀ a, w.H a ≠ none → w'.H a ≠ none
  K : w'.K = w.K
  B : w'.B = w.B
theorem Ext.refl (w : Wd) : Ext w w := ⟨fun _ h => h, ⟨[], by simp⟩, fun _ _ h _ => h, fun _ h => .inl h, fun _ h => .inl h, fun _ h => h, rfl, rfl⟩
theorem Ext.none {w w' : Wd} (e : Ext w w') {a : Addr} (h : w'.H a = none) : w.H a = none := by
  cases q : w.H a with
  | none => rfl
  | some o => exact absurd h (e.kp a (by rw [q]; exact fun z => nomatch z))
theorem Ext.trans {a b c : Wd} (h : Ext a b) (k : Ext b c) : Ext a c where
  F := fun x hx => k.F x (h.F x hx)
  A := by
    obtain ⟨l, e⟩ := h.A
    obtain ⟨m, f⟩ := k.A
    exact ⟨l ++ m, by rw [f, e, List.append_assoc]⟩
  H := fun x o e n => by
    refine k.H x o (h.H x o e n) fun z => ?_
    rcases h.nA x z with z | z
    · exact n z
    · rw [z] at e; cases e
  nF := fun x hx => (k.nF x hx).elim (fun z => h.nF x z) fun z => .inr (h.none z)
  nA := fun x hx => (k.nA x hx).elim (fun z => h.nA x z) fun z => .inr (h.none z)
  kp := fun x hx => k.kp x (h.kp x hx)
  K := k.K.trans h.K
  B := k.B.trans h.B
theorem Ext.wle {w w' : Wd} (e : Ext w w') (f : Wf w) : Wle w w' where
  F := fun a ha => by
    obtain ⟨n, o, ho⟩ := f.f a ha
    exact ⟨e.F a ha, (e.H a o ho n).trans ho.symm⟩
  A := fun h a q => by
    obtain ⟨l, z⟩ := e.A
    rw [z, List.getElem?_append_left (List.getElem?_eq_some_iff.mp q).1]
    exact q
  K := e.K
  B := e.B

/-- the handles' objects -/
structure Sto (w : Wd) (M : Store) : Prop where
  len : w.A.length = M.length
  at_ : ∀ (h : Nat) (a : Addr) (d : D), w.A[h]? = some a → M[h]? = some d → OwnM w a d

/-! ### states -/
structure Sr (w0 : Wd) (ρ : Rho) (M : Store) (w : Wd) (σ : St) : Prop where
  wf : Wf w
  e0 : Ext w0 w
  sto : Sto w M
  len : ρ.length = σ.length
  sh : ∀ (i : Nat) (d : D), ρ[i]? = some (.sh d) → ∃ v, σ[i]? = some (some v) ∧ Rep w v d
  ow : ∀ (i : Nat) (d : D), ρ[i]? = some (.ow d) → ∃ p, σ[i]? = some (some (.ref p)) ∧ Own w p d ∧ ¬ w.F p ∧ p ∉ w.A ∧ w0.H p = none
  dj : ∀ (i j : Nat) (d e : D) (p : Addr), ρ[i]? = some (.ow d) → ρ[j]? = some (.ow e) → σ[i]? = some (some (.ref p)) → σ[j]? = some (some (.ref p)) → i = j

theorem Sr.ext {w0 w w' : Wd} {ρ : Rho} {M M' : Store} {σ : St} (s : Sr w0 ρ M w σ) (e : Ext w w') (f : Wf w') (t : Sto w' M') : Sr w0 ρ M' w' σ where
  wf := f
  e0 := s.e0.trans e
  sto := t
  len := s.len
  sh := fun i d h => by
    obtain ⟨v, a, b⟩ := s.sh i d h
    exact ⟨v, a, b.mono (e.wle s.wf)⟩
  ow := fun i d h => by
    obtain ⟨p, a, b, c, n, z⟩ := s.ow i d h
    obtain ⟨o, ho⟩ := b.some
    refine ⟨p, a, b.mono (e.wle s.wf) ((e.H p o ho n).trans ho.symm), fun q => ?_, fun q => ?_, z⟩
    · rcases e.nF p q with q | q
      · exact c q
      · rw [q] at ho; cases ho
    · rcases e.nA p q with q | q
      · exact n q
      · rw [q] at ho; cases ho
  dj := s.dj

/-- a new frozen object -/
def Wd.frozen (w : Wd) (p : Addr) (o : HO) : Wd := ⟨fun a => w.F a ∨ a = p, w.A, upd w.H p o, w.K, w.B⟩
/-- a new object of one's own -/
def Wd.owned (w : Wd) (p : Addr) (o : HO) : Wd := ⟨w.F, w.A, upd w.H p o, w.K, w.B⟩
section
variable {w : Wd} {p : Addr} {o : HO} {M : Store}
theorem upd_keep {H : Hp} {p a : Addr} {o u : HO} (n : H p = none) (h : H a = some u) : upd H p o a = some u := by
  rw [upd_ne (ne_of_none h n)]; exact h
theorem frozen_ext (f : Wf w) (n : w.H p = none) : Ext w (w.frozen p o) where
  F := fun a h => .inl h
  A := ⟨[], by simp [Wd.frozen]⟩
  H := fun a u h _ => upd_keep n h
  nF := fun a h => h.elim .inl fun z => .inr (z ▸ n)
  nA := fun a h => .inl h
  kp := fun a h => by
    obtain ⟨u, e⟩ := Option.ne_none_iff_exists'.mp h
    show upd w.H p o a ≠ none
    rw [upd_keep n e]; exact fun z => nomatch z
  K := rfl
  B := rfl
theorem owned_ext (f : Wf w) (n : w.H p = none) : Ext w (w.owned p o) where
  F := fun a h => h
  A := ⟨[], by simp [Wd.owned]⟩
  H := fun a u h _ => upd_keep n h
  nF := fun a h => .inl h
  nA := fun a h => .inl h
  kp := fun a h => by
    obtain ⟨u, e⟩ := Option.ne_none_iff_exists'.mp h
    show upd w.H p o a ≠ none
    rw [upd_keep n e]; exact fun z => nomatch z
  K := rfl
  B := rfl
theorem Wf.notA (f : Wf w) (n : w.H p = none) : p ∉ w.A := fun z => by
  obtain ⟨u, e⟩ := f.a p z
  rw [n] at e; cases e
theorem Wf.notF (f : Wf w) (n : w.H p = none) : ¬ w.F p := fun z => by
  obtain ⟨_, u, e⟩ := f.f p z
  rw [n] at e; cases e
theorem frozen_wf (f : Wf w) (n : w.H p = none) : Wf (w.frozen p o) where
  f := fun a h => by
    rcases h with h | h
    · obtain ⟨x, u, e⟩ := f.f a h
      exact ⟨x, u, upd_keep n e⟩
    · subst h
      exact ⟨f.notA n, o, upd_same⟩
  nd := f.nd
  a := fun x hx => by
    obtain ⟨u, e⟩ := f.a x hx
    exact ⟨u, upd_keep n e⟩
theorem owned_wf (f : Wf w) (n : w.H p = none) : Wf (w.owned p o) where
  f := fun a h => by
    obtain ⟨x, u, e⟩ := f.f a h
    exact ⟨x, u, upd_keep n e⟩
  nd := f.nd
  a := fun x hx => by
    obtain ⟨u, e⟩ := f.a x hx
    exact ⟨u, upd_keep n e⟩
theorem Sto.ext {w' : Wd} (s : Sto w M) (f : Wf w) (e : Ext w w') (hA : w'.A = w.A) (k : ∀ a ∈ w.A, w'.H a = w.H a) : Sto w' M where
  len := by rw [hA]; exact s.len
  at_ := fun h a d h1 h2 => by
    rw [hA] at h1
    exact (s.at_ h a d h1 h2).mono (e.wle f) (k a (List.mem_of_getElem? h1))
theorem frozen_sto (s : Sto w M) (f : Wf w) (n : w.H p = none) : Sto (w.frozen p o) M := s.ext f (frozen_ext f n) rfl fun a h => by
  obtain ⟨u, e⟩ := f.a a h
  exact (upd_keep n e).trans e.symm
theorem owned_sto (s : Sto w M) (f : Wf w) (n : w.H p = none) : Sto (w.owned p o) M := s.ext f (owned_ext f n) rfl fun a h => by
  obtain ⟨u, e⟩ := f.a a h
  exact (upd_keep n e).trans e.symm
/-- freezing what stands -/
def Wd.freeze (w : Wd) (p : Addr) : Wd := ⟨fun a => w.F a ∨ a = p, w.A, w.H, w.K, w.B⟩
theorem freeze_wle : Wle w (w.freeze p) := ⟨fun _ h => ⟨.inl h, rfl⟩, fun _ _ h => h, rfl, rfl⟩
theorem freeze_wf (f : Wf w) (h : w.H p = some o) (n : p ∉ w.A) : Wf (w.freeze p) where
  f := fun a h' => by
    rcases h' with h' | h'
    · exact f.f a h'
    · subst h'; exact ⟨n, o, h⟩
  nd := f.nd
  a := f.a
theorem freeze_sto (s : Sto w M) : Sto (w.freeze p) M := ⟨s.len, fun h a d h1 h2 => (s.at_ h a d h1 h2).mono freeze_wle rfl⟩
end

/-! ### readings -/
/-- what a context wants: the world at the entry, the wish about exceptions, the classes -/
structure Gx where
  w0 : Wd
  W : WX
  cls : Nat → Value

/-- behind an expression: rel by the worlds ahead and behind -/
def Aft {α β : Type} (g : Gx) (rel : Wd → Wd → β → α → Prop) (w : Wd) (ρ : Rho) (σ : St) (Q : β → Hp → Prop) : Res α → Prop
  | .ok d M' => ∀ v w', Ext w w' → Sr g.w0 ρ M' w' σ → rel w w' v d → Q v w'.H
  | .exc c M' => ∀ w', Ext w w' → Sr g.w0 ρ M' w' σ → g.W (g.cls c) none σ w'.H
  | .fail => False
theorem Aft.later {α β : Type} {g : Gx} {rel : Wd → Wd → β → α → Prop} {w w1 : Wd} {ρ : Rho} {σ : St} {Q : β → Hp → Prop} {r : Res α} (h : Aft g rel w ρ σ Q r) (e : Ext w w1)
    (anti : ∀ w' v d, rel w1 w' v d → rel w w' v d) : Aft g rel w1 ρ σ Q r := by
  cases r with
  | ok d M' => exact fun v w' e' s r => h v w' (e.trans e') s (anti _ _ _ r)
  | exc c M' => exact fun w' e' s => h w' (e.trans e') s
  | fail => exact h
/-- one piece behind another -/
theorem Aft.bind {α β γ δ : Type} {g : Gx} {rel : Wd → Wd → β → α → Prop} {rel' : Wd → Wd → δ → γ → Prop} {w : Wd} {ρ : Rho} {σ : St} {Q : δ → Hp → Prop} {r : Res α} {k : α → Store → Res γ}
    (h : Aft g rel' w ρ σ Q (r.bind k)) (anti : ∀ w1, Ext w w1 → ∀ w' v d, rel' w1 w' v d → rel' w w' v d) :
    Aft g rel w ρ σ (fun v H1 => ∃ d M1 w1, w1.H = H1 ∧ Ext w w1 ∧ Sr g.w0 ρ M1 w1 σ ∧ rel w w1 v d ∧ Aft g rel' w1 ρ σ Q (k d M1)) r := by
  cases r with
  | ok d M' => exact fun v w' e' s r => ⟨d, M', w', rfl, e', s, r, Aft.later h e' (anti w' e')⟩
  | exc c M' => exact fun w' e' s => h w' e' s
  | fail => exact h
theorem Aft.opt {α β : Type} {g : Gx} {rel : Wd → Wd → β → α → Prop} {w : Wd} {ρ : Rho} {σ : St} {Q : β → Hp → Prop} {o : Option α} {M : Store} (h : Aft g rel w ρ σ Q (opt o M)) :
    ∃ a, o = some a ∧ Aft g rel w ρ σ Q (.ok a M) := by
  cases o with
  | none => exact h.elim
  | some a => exact ⟨a, rfl, h⟩

/-- kinds of results -/
inductive RK where | rep | frs | bor
def rl (g : Gx) (ρ : Rho) (σ : St) : RK → Wd → Wd → V → D → Prop
  | .rep, _, w', v, d => Rep w' v d
  | .frs, w, w', v, d => ∃ p, v = .ref p ∧ Own w' p d ∧ ¬ w'.F p ∧ p ∉ w'.A ∧ w.H p = none
  | .bor, _, w', v, d => ∃ i : Nat, ρ[i]? = some (.ow d) ∧ σ[i]? = some (some v)
theorem rl_anti {g : Gx} {ρ : Rho} {σ : St} : ∀ {k : RK} {w w1 : Wd}, Ext w w1 → ∀ w' v d, rl g ρ σ k w1 w' v d → rl g ρ σ k w w' v d
  | .rep, _, _, _, _, _, _, h => h
  | .frs, _, _, e, _, _, _, ⟨p, a, b, c, d, n⟩ => ⟨p, a, b, c, d, e.none n⟩
  | .bor, _, _, _, _, _, _, h => h
/-- an expression's reading by its interpreter -/
def GE (g : Gx) (k : RK) (f : Rho → Store → Res D) : TE := fun σ H Q => ∃ ρ M w, w.H = H ∧ Sr g.w0 ρ M w σ ∧ Aft g (rl g ρ σ k) w ρ σ Q (f ρ M)
def GT (g : Gx) (f : Rho → Store → Res Bool) : TT := fun σ H Q => ∃ ρ M w, w.H = H ∧ Sr g.w0 ρ M w σ ∧ Aft g (fun _ _ b d => b = d) w ρ σ Q (f ρ M)
def GA (g : Gx) (f : Rho → Store → Res (List D)) : TA := fun σ H Q => ∃ ρ M w, w.H = H ∧ Sr g.w0 ρ M w σ ∧ Aft g (fun _ w' vs ds => Reps w' vs ds) w ρ σ Q (f ρ M)

/-- a value's content, read -/
def Con (w : Wd) : V → D → Prop
  | v, .lst ds => ∃ p vs, v = .ref p ∧ w.H p = some (.lst vs) ∧ Reps w vs ds
  | v, .tup ds => ∃ p vs, v = .ref p ∧ TH w.H p vs ∧ Reps w vs ds
  | v, .scr ds => ∃ p vs, v = .ref p ∧ SqL w.K w.H p vs ∧ Reps w vs ds
  | v, .dic ks => ∃ (p : Addr) (kvs : List (Key × V)), v = .ref p ∧ w.H p = some (.dK kvs) ∧ kvs.map (·.1) = ks.map (·.1) ∧ Reps w (kvs.map (·.2)) (ks.map (·.2))
  | v, .non => v = .non
  | v, .bl b => v = .bl b
  | v, .int i => v = .int i
  | v, .str x => v = .str x ∧ x.length ≤ LIM
  | _, .hnd _ => False
  | v, .obj c fs => ∃ p dx fvs, v = .ref p ∧ w.H p = some (.ins (w.B c) dx fvs) ∧ fvs.map (·.1) = fs.map (·.1) ∧ Reps w (fvs.map (·.2)) (fs.map (·.2))
  | v, .lck ks => ∃ (p : Addr) (o : Obj) (kvs : List (Key × V)), v = .ref p ∧ w.H p = some (.frz o (.dK kvs)) ∧ kvs.map (·.1) = ks.map (·.1) ∧ Reps w (kvs.map (·.2)) (ks.map (·.2))
theorem Rep.con {w : Wd} {v : V} {d : D} (r : Rep w v d) (h : ∀ n, d ≠ .hnd n) : Con w v d := by
  cases r with
  | non => rfl
  | bl b => rfl
  | int i => rfl
  | str x h' => exact ⟨rfl, h'⟩
  | tup f h' r => exact ⟨_, _, rfl, h', r⟩
  | lst f h' r => exact ⟨_, _, rfl, h', r⟩
  | scr f h' r => exact ⟨_, _, rfl, .inl (.inr ⟨_, h'⟩), r⟩
  | scrK h' r => exact ⟨_, _, rfl, .inr h', r⟩
  | dic f h' e r => exact ⟨_, _, rfl, h', e, r⟩
  | hnd e => exact absurd rfl (h _)
theorem Own.con {w : Wd} {p : Addr} : ∀ {d : D}, Own w p d → Con w (.ref p) d
  | .lst ds, ⟨vs, h, r⟩ => ⟨p, vs, rfl, h, r⟩
  | .dic ks, ⟨kvs, h, k, r⟩ => ⟨p, kvs, rfl, h, k, r⟩
theorem OwnM.con {w : Wd} {p : Addr} : ∀ {d : D}, OwnM w p d → Con w (.ref p) d
  | .lst ds, ⟨vs, h, r⟩ => ⟨p, vs, rfl, h, r⟩
  | .dic ks, ⟨kvs, h, k, r⟩ => ⟨p, kvs, rfl, h, k, r⟩
  | .obj c fs, ⟨dx, fvs, h, k, r⟩ => ⟨p, dx, fvs, rfl, h, k, r⟩
  | .lck ks, ⟨o, kvs, h, k, r⟩ => ⟨p, o, kvs, rfl, h, k, r⟩
theorem Own.notH {w : Wd} {p : Addr} : ∀ {d : D}, Own w p d → ∀ M, dr M d = d
  | .lst ds, _, _ => rfl
  | .dic ks, _, _ => rfl
/-- what a result's content is, handles followed -/
theorem con_of {g : Gx} {ρ : Rho} {σ : St} {M : Store} {k : RK} {w w' : Wd} {v : V} {d : D} (s : Sr g.w0 ρ M w' σ) (r : rl g ρ σ k w w' v d) : Con w' v (dr M d) ∨ ∃ h, d = .hnd h ∧ M[h]? = none := by
  cases k with
  | rep =>
    have r : Rep w' v d := r
    cases d with
    | hnd h =>
      cases r with
      | hnd e =>
        cases q : M[h]? with
        | none => exact .inr ⟨h, rfl, q⟩
        | some x =>
          refine .inl ?_
          have := (s.sto.at_ h _ x e q).con
          show Con w' _ (match M[h]? with | some d => d | none => .non)
          rw [q]
          exact this
    | _ => exact .inl (r.con fun _ z => nomatch z)
  | frs =>
    obtain ⟨p, rfl, o, _⟩ := r
    refine .inl ?_
    rw [o.notH M]
    exact o.con
  | bor =>
    obtain ⟨i, h1, h2⟩ := r
    obtain ⟨p, e, o, _⟩ := s.ow i d h1
    rw [h2] at e
    cases e
    refine .inl ?_
    rw [o.notH M]
    exact o.con
theorem Sr.con {g : Gx} {ρ : Rho} {σ : St} {M : Store} {k : RK} {w w' : Wd} {v : V} {d : D} (s : Sr g.w0 ρ M w' σ) (r : rl g ρ σ k w w' v d) : Con w' v (dr M d) := by
  rcases con_of s r with h | ⟨h, rfl, e⟩
  · exact h
  · have r : (∃ p, w'.A[h]? = some p) := by
      cases k with
      | rep => cases r with | hnd e => exact ⟨_, e⟩
      | frs => obtain ⟨p, rfl, o, _⟩ := r; exact o.elim
      | bor =>
        obtain ⟨i, h1, h2⟩ := r
        obtain ⟨p, e, o, _⟩ := s.ow i _ h1
        exact o.elim
    obtain ⟨p, q⟩ := r
    have := (List.getElem?_eq_some_iff.mp q).1
    have := List.getElem?_eq_none_iff.mp e
    have := s.sto.len
    omega
/-- a fresh thing is frozen -/
theorem frs_rep {g : Gx} {ρ : Rho} {σ : St} {M : Store} {w w' : Wd} {v : V} {d : D} (e : Ext w w') (s : Sr g.w0 ρ M w' σ) (sw : Ext g.w0 w) (hs : ∀ (i : Nat) (d : D) (p : Addr), ρ[i]? = some (.ow d) → σ[i]? = some (some (.ref p)) → w.H p ≠ none) (r : rl g ρ σ .frs w w' v d) :
    ∃ w2, w2.H = w'.H ∧ Ext w w2 ∧ Sr g.w0 ρ M w2 σ ∧ Rep w2 v d := by
  obtain ⟨p, rfl, o, nF, nA, n⟩ := r
  obtain ⟨ob, ho⟩ := o.some
  have ext : ∀ u : Wd, Ext u w' → u.H p = none → Ext u (w'.freeze p) := fun u e n => ⟨fun a h => .inl (e.F a h), e.A, e.H, fun a h => h.elim (e.nF a) fun z => .inr (z ▸ n), e.nA, e.kp, e.K, e.B⟩
  refine ⟨w'.freeze p, rfl, ext w e n, ⟨freeze_wf s.wf ho nA, ext _ s.e0 (sw.none n), freeze_sto s.sto, s.len, fun i d h => ?_, fun i d h => ?_, s.dj⟩, ?_⟩
  · obtain ⟨v, a, b⟩ := s.sh i d h
    exact ⟨v, a, b.mono freeze_wle⟩
  · obtain ⟨q, a, b, c, x, y⟩ := s.ow i d h
    refine ⟨q, a, b.mono freeze_wle rfl, fun z => ?_, x, y⟩
    rcases z with z | z
    · exact c z
    · subst z
      exact hs i d q h a n
  · exact Own.rep (show (w'.freeze p).F p from Or.inr rfl) (o.mono (w' := w'.freeze p) freeze_wle rfl)
theorem Sr.owH {w0 : Wd} {ρ : Rho} {M : Store} {w : Wd} {σ : St} (s : Sr w0 ρ M w σ) : ∀ (i : Nat) (d : D) (p : Addr), ρ[i]? = some (.ow d) → σ[i]? = some (some (.ref p)) → w.H p ≠ none := fun i d p h1 h2 => by
  obtain ⟨q, a, b, _⟩ := s.ow i d h1
  rw [h2] at a; cases a
  obtain ⟨o, e⟩ := b.some
  rw [e]; exact fun z => nomatch z
/-- a fresh reading is a reading -/
theorem GE.freeze {g : Gx} {f : Rho → Store → Res D} {σ : St} {H : Hp} {Q : VK} (h : GE g .rep f σ H Q) : GE g .frs f σ H Q := by
  obtain ⟨ρ, M, w, e, s, a⟩ := h
  refine ⟨ρ, M, w, e, s, ?_⟩
  generalize f ρ M = r at a ⊢
  cases r with
  | ok d M' =>
    intro v w' e' s' r
    obtain ⟨w2, h1, h2, h3, h4⟩ := frs_rep e' s' s.e0 s.owH r
    rw [← h1]
    exact a v w2 h2 h3 h4
  | exc c M' => exact a
  | fail => exact a
end Pv

set_option Elab.async false
set_option linter.all false
set_option maxRecDepth 100000
set_option maxHeartbeats 4000000
namespace Pv
open PySem L2

theorem PE.imp {X : Cx} {e : Expr} {t t' : TE} (h : PE X e t) (k : ∀ σ H Q, t' σ H Q → t σ H Q) : PE X e t' := ⟨fun pins s σ H Q I q => h.run pins s σ H Q I (k σ H Q q)⟩
theorem PT.imp {X : Cx} {e : Expr} {t t' : TT} (h : PT X e t) (k : ∀ σ H Q, t' σ H Q → t σ H Q) : PT X e t' := ⟨fun pins s σ H Q I q => h.run pins s σ H Q I (k σ H Q q)⟩
theorem PA.imp {X : Cx} {e : List Expr} {t t' : TA} (h : PA X e t) (k : ∀ σ H Q, t' σ H Q → t σ H Q) : PA X e t' := ⟨fun pos pins s σ H Q I q => h.run pos pins s σ H Q I (k σ H Q q)⟩

section
variable {g : Gx}
theorem Aft.mono {α β : Type} {rel : Wd → Wd → β → α → Prop} {w : Wd} {ρ : Rho} {σ : St} {Q Q' : β → Hp → Prop} {r : Res α} (h : Aft g rel w ρ σ Q r) (k : ∀ v H, Q v H → Q' v H) : Aft g rel w ρ σ Q' r := by
  cases r with
  | ok d M' => exact fun v w' e s r => k _ _ (h v w' e s r)
  | exc c M' => exact h
  | fail => exact h
/-- an end where nothing is made -/
theorem Aft.fin {α β : Type} {rel : Wd → Wd → β → α → Prop} {w : Wd} {ρ : Rho} {σ : St} {Q : β → Hp → Prop} {d : α} {M : Store} {v : β} (h : Aft g rel w ρ σ Q (.ok d M)) (s : Sr g.w0 ρ M w σ) (r : rel w w v d) : Q v w.H :=
  h v w (Ext.refl w) s r
section
variable {w : Wd} {ρ : Rho} {σ : St} {Q : VK} {d : D} {M : Store} {p : Addr}
/-- a new frozen thing -/
theorem Aft.new {o : HO} (h : Aft g (rl g ρ σ .rep) w ρ σ Q (.ok d M)) (s : Sr g.w0 ρ M w σ) (n : w.H p = none) (r : Rep (w.frozen p o) (.ref p) d) : Q (.ref p) (upd w.H p o) :=
  h (.ref p) (w.frozen p o) (frozen_ext s.wf n) (s.ext (frozen_ext s.wf n) (frozen_wf s.wf n) (frozen_sto s.sto s.wf n)) r
theorem frozen_wle {o : HO} (f : Wf w) (n : w.H p = none) : Wle w (w.frozen p o) := (frozen_ext f n).wle f
theorem owned_wle {o : HO} (f : Wf w) (n : w.H p = none) : Wle w (w.owned p o) := (owned_ext f n).wle f
/-- a new thing of one's own -/
theorem Aft.newO {o : HO} (h : Aft g (rl g ρ σ .frs) w ρ σ Q (.ok d M)) (s : Sr g.w0 ρ M w σ) (n : w.H p = none) (r : Own (w.owned p o) p d) : Q (.ref p) (upd w.H p o) :=
  h (.ref p) (w.owned p o) (owned_ext s.wf n) (s.ext (owned_ext s.wf n) (owned_wf s.wf n) (owned_sto s.sto s.wf n)) ⟨p, rfl, r, s.wf.notF n, s.wf.notA n, n⟩
end

theorem rl_keep {ρ : Rho} {σ : St} : ∀ {k : RK} {w w1 w2 : Wd} {v : V} {d : D}, k ≠ .frs → Ext w1 w2 → Wf w1 → rl g ρ σ k w w1 v d → rl g ρ σ k w w2 v d
  | .rep, _, _, _, _, _, _, e, f, h => Rep.mono (e.wle f) h
  | .frs, _, _, _, _, _, n, _, _, _ => absurd rfl n
  | .bor, _, _, _, _, _, _, _, _, h => h

/-- one operand -/
theorem GE.one {α β : Type} {rel : Rho → St → Wd → Wd → β → α → Prop} {ka : RK} {fa : Rho → Store → Res D} {F : Rho → D → Store → Res α} {σ : St} {H : Hp} {Q : β → Hp → Prop}
    (anti : ∀ ρ w w1, Ext w w1 → ∀ w' v d, rel ρ σ w1 w' v d → rel ρ σ w w' v d)
    (h : ∃ ρ M w, w.H = H ∧ Sr g.w0 ρ M w σ ∧ Aft g (rel ρ σ) w ρ σ Q ((fa ρ M).bind fun x M => F ρ x M)) :
    GE g ka fa σ H (fun v H1 => ∃ ρ M w w0 x, w.H = H1 ∧ Sr g.w0 ρ M w σ ∧ Ext w0 w ∧ rl g ρ σ ka w0 w v x ∧ Aft g (rel ρ σ) w ρ σ Q (F ρ x M)) := by
  obtain ⟨ρ, M, w, e, s, a⟩ := h
  refine ⟨ρ, M, w, e, s, Aft.mono (Aft.bind a fun w1 ex => anti ρ w w1 ex) ?_⟩
  rintro v H1 ⟨d, M1, w1, e1, ex1, s1, r1, a1⟩
  exact ⟨ρ, M1, w1, w, d, e1, s1, ex1, r1, a1⟩
/-- two operands -/
theorem GE.two {α β : Type} {rel : Rho → St → Wd → Wd → β → α → Prop} {ka kb : RK} {fa fb : Rho → Store → Res D} {F : Rho → D → D → Store → Res α} {σ : St} {H : Hp} {Q : β → Hp → Prop} (hk : ka ≠ .frs)
    (anti : ∀ ρ w w1, Ext w w1 → ∀ w' v d, rel ρ σ w1 w' v d → rel ρ σ w w' v d)
    (h : ∃ ρ M w, w.H = H ∧ Sr g.w0 ρ M w σ ∧ Aft g (rel ρ σ) w ρ σ Q ((fa ρ M).bind fun x M => (fb ρ M).bind fun y M => F ρ x y M)) :
    GE g ka fa σ H (fun v H1 => GE g kb fb σ H1 (fun u H2 => ∃ ρ M w w0 w1 x y, w.H = H2 ∧ Sr g.w0 ρ M w σ ∧ rl g ρ σ ka w0 w v x ∧ rl g ρ σ kb w1 w u y ∧ Aft g (rel ρ σ) w ρ σ Q (F ρ x y M))) := by
  obtain ⟨ρ, M, w, e, s, a⟩ := h
  refine ⟨ρ, M, w, e, s, Aft.mono (Aft.bind a fun w1 ex => anti ρ w w1 ex) ?_⟩
  rintro v H1 ⟨d, M1, w1, e1, ex1, s1, r1, a1⟩
  refine ⟨ρ, M1, w1, e1, s1, Aft.mono (Aft.bind a1 fun w2 ex => anti ρ w1 w2 ex) ?_⟩
  rintro u H2 ⟨d2, M2, w2, e2, ex2, s2, r2, a2⟩
  exact ⟨ρ, M2, w2, w, w1, d, d2, e2, s2, rl_keep hk ex2 s1.wf r1, r2, a2⟩
theorem anti_rl {k : RK} {σ : St} : ∀ (ρ : Rho) (w w1 : Wd), Ext w w1 → ∀ w' v d, rl g ρ σ k w1 w' v d → rl g ρ σ k w w' v d := fun _ _ _ e w' v d h => rl_anti e w' v d h
theorem anti_b : ∀ (ρ : Rho) (w w1 : Wd), Ext w w1 → ∀ (w' : Wd) (v d : Bool), v = d → v = d := fun _ _ _ _ _ _ _ h => h
end

/-! ### the tables of a program, the context -/
inductive GV where | int (i : Int) | dct (kvs : List (Str × Str))
  deriving DecidableEq
structure Tb where
  P : List Fn
  xn : List Str
  gi : List (Str × GV)
  k : Nat
  C : Nat → List D → Store → Res D
  cls : Nat → Value
  ca : Nat → Addr
def bltN : List Str := ["len", "abs", "max", "min", "sum", "all", "any", "int", "str", "tuple", "list", "sorted", "set", "dict", "range", "enumerate", "zip", "isinstance", "bool"]
def resRel (own : Bool) (w w' : Wd) (v : V) (d : D) : Prop := match own with
  | false => Rep w' v d
  | true => ∃ p, v = .ref p ∧ Own w' p d ∧ ¬ w'.F p ∧ p ∉ w'.A ∧ w.H p = none
def AftC (cls : Nat → Value) (own : Bool) (w : Wd) (Q : VK) (E : XK) : Res D → Prop
  | .ok d M' => ∀ v w', Ext w w' → Wf w' → Sto w' M' → resRel own w w' v d → Q v w'.H
  | .exc c M' => ∀ w', Ext w w' → Wf w' → Sto w' M' → E (cls c) none w'.H
  | .fail => False
/-- a def's promise -/
def spF (cls : Nat → Value) (ca : Nat → Addr) (K : PySem.W.Frag) (own : Bool) (np : Nat) (call : List D → Store → Res D) : Sp := fun vs H Q E => vs.length = np ∧ ∃ ds M w, w.H = H ∧ w.K = K ∧ w.B = ca ∧ Wf w ∧ Sto w M ∧ Reps w vs ds ∧ AftC cls own w Q E (call ds M)
/-- where a def stands: a name of the module, a method of a class -/
def Stands (K : PySem.W.Frag) (mg : Str → Option Value) (ca : Nat → Addr) (fn : Fn) (f : Addr) : Prop := match fn.mt with
  | none => mg fn.name = some (.ref f)
  | some t => mg t.cn = some (.ref (ca t.c)) ∧ Cls K (ca t.c) ∧ Meth K (ca t.c) t.m f ∧ (t.m = "__init__" → Mk K (ca t.c) f) ∧ ∀ x ∈ t.fl, NoAttr K (ca t.c) x
structure Fok (T : Tb) (P : Program) (w : World) (K : PySem.W.Frag) (mg : Str → Option Value) (base : Heap) (i : Nat) (fn : Fn) (f : Addr) (fd : FuncData) (ps : List Str) : Prop where
  mgf : Stands K mg T.ca fn f
  kp : PySem.W.keepIn K (.ref f) = true
  bd : Binds K fd ps []
  ok : FnOk P w K mg base (L2.CX P w) T.k f fd ps (spF T.cls T.ca K fn.own fn.np (T.C i))
structure Pok (T : Tb) (P : Program) (w : World) (K : PySem.W.Frag) (mg : Str → Option Value) (base : Heap) : Prop where
  blt : ∀ x ∈ bltN, mg x = none
  fn : ∀ i fn, T.P[i]? = some fn → ∃ f fd ps, Fok T P w K mg base i fn f fd ps
  gi : ∀ x i, (x, .int i) ∈ T.gi → ∃ t, mg x = some (.int i t)
  gd : ∀ x kvs, (x, .dct kvs) ∈ T.gi → ∃ a es n, mg x = some (.ref a) ∧ KDict K w a es n ∧ ∀ q ∈ kvs, ∃ t, PySem.W.nsIn K a q.1 = some (some (.str q.2 t))
  xc : ∀ c x, T.xn[c]? = some x → ∃ C : Addr, T.cls c = .ref C ∧ mg x = some (.ref C) ∧ PySem.W.excIn K C He.veBase "ValueError.__new__" = true ∧ PySem.W.keepIn K (.ref C) = true ∧ PySem.W.subIn K (.ref C) (.type "BaseException") = some true ∧ PySem.W.typeIn K (.ref C) = some (.type "type")
  xm : ∀ c d x y, T.xn[c]? = some x → T.xn[d]? = some y → PySem.W.exmOne K (T.cls c) (T.cls d) = some (decide (c = d))
  len : ∀ f fn ds M, T.P[f]? = some fn → ds.length ≠ fn.np → T.C f ds M = .fail
structure Cok (T : Tb) (X : Cx) (g : Gx) (N : List Str) (sc : Scope) : Prop where
  p : Pok T X.prog X.w X.K X.mg X.base
  room : Room (T.k + 1) X.A
  hN : X.N = N
  nd : N.Nodup
  sc : X.env.scope = sc
  calm : X.calm = true
  tk : Takes X g.W
  gc : g.cls = T.cls
  kk : g.w0.K = X.K
  bb : g.w0.B = T.ca

/-! ### the checker -/
def visB (sc : Scope) (x : Str) : Bool := match sc.names.lookup x with
  | some .local => true
  | some .cell => true
  | some .free => true
  | _ => false
def nameB (N : List Str) (sc : Scope) (i : Nat) (x : Str) : Bool := decide (N[i]? = some x) && (visB sc x && (!(x == ("__debug__" : Str)) && !(x == ("__classdict__" : Str))))
def locB (sc : Scope) (x : Str) : Bool := match sc.names.lookup x with
  | some .local => true
  | some .cell => true
  | _ => false
/-- a target's name: local, or a cell of the def's own -/
def tgB (N : List Str) (sc : Scope) (i : Nat) (x : Str) : Bool := decide (N[i]? = some x) && locB sc x
def glB (sc : Scope) (x : Str) : Bool := (match sc.names.lookup x with
  | some .globalImplicit => true
  | _ => false) && !(x == ("__debug__" : Str))
/-- a builtin's name -/
def isB (sc : Scope) (x y : Str) : Bool := decide (x = y) && glB sc x

def opB : BK → Operator → Bool
  | .add, .Add => true
  | .sub, .Sub => true
  | .mul, .Mult => true
  | .fdiv, .FloorDiv => true
  | .mod, .Mod => true
  | _, _ => false
def cpB : CK → CmpOp → Bool
  | .eq, .Eq => true
  | .ne, .NotEq => true
  | .lt, .Lt => true
  | .le, .LtE => true
  | .gt, .Gt => true
  | .ge, .GtE => true
  | .isin, .In => true
  | .notin, .NotIn => true
  | .is, .Is => true
  | .isnot, .IsNot => true
  | _, _ => false
def f1N : F1 → Str
  | .len => "len" | .abs => "abs" | .max => "max" | .min => "min" | .sum => "sum" | .all => "all" | .any => "any" | .int => "int" | .str => "str" | .tuple => "tuple"
def f2N : F2 → Str
  | .max => "max" | .min => "min"
def m1N : M1 → Str
  | .join => "join" | .count => "count" | .get => "get"
def tyN : Ty → Str
  | .int => "int" | .bool => "bool" | .tuple => "tuple" | .str => "str"
def ffN : FF → Str
  | .list => "list" | .sorted => "sorted" | .sset => "sorted" | .dict => "dict"
/-- kinds -/
def kindE : E → RK
  | .lst _ => .frs
  | .comp .. => .frs
  | .ff .. => .frs
  | .dic0 => .frs
  | .fcall .. => .frs
  | .dsp _ _ => .frs
  | .lit _ => .frs
  | .lit2 _ _ => .frs
  | .compK .. => .frs
  | .dsps _ => .frs
  | .peek _ => .bor
  | .move _ => .bor
  | _ => .rep
def notBor : E → Bool
  | .peek _ => false
  | .move _ => false
  | _ => true
def isPeek : E → Bool
  | .peek _ => true
  | _ => false
def tgsB (N : List Str) (sc : Scope) : List Nat → List Expr → Bool
  | [], [] => true
  | i :: is, .Name x _ :: es => tgB N sc i x && tgsB N sc is es
  | _, _ => false
def targetB (N : List Str) (sc : Scope) (tg : List Nat) (tt : Bool) (e : Expr) : Bool := match tt with
  | false => match tg, e with
    | [i], .Name x _ => tgB N sc i x
    | _, _ => false
  | true => match e with
    | .Tuple es _ _ => tgsB N sc tg es
    | _ => false
def noIf : List Expr → Bool
  | [] => true
  | _ => false

def ordB : CK → Bool
  | .lt => true | .le => true | .gt => true | .ge => true
  | _ => false
def cmpOk (k : CK) (b : E) : Bool := match k with
  | .isin => true | .notin => true
  | _ => notBor b
def isNil : E → Bool
  | .nil => true
  | _ => false
/-- a list of one's own that is walked -/
def okW (N : List Str) (sc : Scope) : E → Expr → Bool
  | .itOwn i, .Name x _ => nameB N sc i x
  | _, _ => false
def plainX : Expr → Bool
  | .Starred .. => false
  | .Set .. => false
  | .Slice .. => false
  | .ListComp .. => false
  | .SetComp .. => false
  | .DictComp .. => false
  | _ => true
def noCall : Expr → Bool
  | .Call _ [] [] _ => false
  | _ => true
/-- the class c has the attribute x -/
def fldB (P : List Fn) (c : Nat) (x : Str) : Bool := P.any fun fn => match fn.mt with
  | some t => decide (t.c = c) && t.fl.contains x
  | none => false
/-- f is the method m of the class c -/
def mtB (P : List Fn) (c f : Nat) (m : Str) : Bool := match P[f]? with
  | some fn => (match fn.mt with
    | some t => decide (t.c = c) && (decide (t.m = m) && !fn.own)
    | none => false)
  | none => false
/-- f makes the class c, whose name is x -/
def mkB (P : List Fn) (c f : Nat) (x : Str) : Bool := match P[f]? with
  | some fn => (match fn.mt with
    | some t => decide (t.c = c) && (decide (t.m = "__init__") && (decide (t.cn = x) && !fn.own))
    | none => false)
  | none => false
def globB (fn : Fn) : Bool := match fn.mt with
  | none => true
  | some _ => false
def isRep : E → Bool := fun e => notBor e && (match kindE e with | .rep => true | _ => false)
def small30 {α : Type} (l : List α) : Bool := decide (l.length < 20)
section
variable (P : List Fn) (gi : List (Str × GV)) (N : List Str)
mutual
def okE : Scope → E → Expr → Bool
  | _, .int i, x => match x with
    | .Constant c _ _ => (match c with | .int j => decide (i = j) | _ => false)
    | _ => false
  | _, .str z, x => match x with
    | .Constant c _ _ => (match c with | .str y => decide (z = y) && decide (z.length ≤ LIM) | _ => false)
    | _ => false
  | _, .bl b, x => match x with
    | .Constant c _ _ => (match c with | .bool j => decide (b = j) | _ => false)
    | _ => false
  | _, .non, x => match x with
    | .Constant c _ _ => (match c with | .none => true | _ => false)
    | _ => false
  | sc, .var i, x => match x with
    | .Name x _ => nameB N sc i x
    | _ => false
  | sc, .peek i, x => match x with
    | .Name x _ => nameB N sc i x
    | _ => false
  | sc, .move i, x => match x with
    | .Name x _ => nameB N sc i x
    | _ => false
  | sc, .glob y i, x => match x with
    | .Name x _ => decide (x = y) && (decide ((y, GV.int i) ∈ gi) && glB sc x)
    | _ => false
  | sc, .bin k a b, x => match x with
    | .BinOp l op r _ => opB k op && ((notBor a && okE sc a l) && (notBor b && okE sc b r))
    | _ => false
  | sc, .neg a, x => match x with
    | .UnaryOp op y _ => (match op with | .USub => true | _ => false) && (notBor a && okE sc a y)
    | _ => false
  | sc, .cmp k a b, x => match x with
    | .Compare l ops rs _ => (match ops with
      | [op] => (match rs with
        | [r] => cpB k op && ((notBor a && okE sc a l) && (okE sc b r && cmpOk k b))
        | _ => false)
      | _ => false)
    | _ => false
  | sc, .cmp2 k k' a b c, x => match x with
    | .Compare l ops rs _ => (match ops with
      | [op, op'] => (match rs with
        | [r, r'] => cpB k op && (cpB k' op' && ((notBor a && okE sc a l) && ((notBor b && okE sc b r) && ((notBor c && okE sc c r') && (ordB k && ordB k')))))
        | _ => false)
      | _ => false)
    | _ => false
  | sc, .and l, x => match x with
    | .BoolOp op xs _ => (match op with | .And => true | _ => false) && (!xs.isEmpty && okL sc l xs)
    | _ => false
  | sc, .or l, x => match x with
    | .BoolOp op xs _ => (match op with | .Or => true | _ => false) && (!xs.isEmpty && okL sc l xs)
    | _ => false
  | sc, .not a, x => match x with
    | .UnaryOp op y _ => (match op with | .Not => true | _ => false) && okE sc a y
    | _ => false
  | sc, .ite t a b, x => match x with
    | .IfExp c l r _ => okE sc t c && ((notBor a && okE sc a l) && (notBor b && okE sc b r))
    | _ => false
  | sc, .tup l, x => match x with
    | .Tuple xs _ _ => okL sc l xs
    | _ => false
  | sc, .lst l, x => match x with
    | .List xs _ => okL sc l xs
    | _ => false
  | sc, .idx a b, x => match x with
    | .Subscript l r _ => okE sc a l && (notBor b && okE sc b r)
    | _ => false
  | sc, .slice a lo hi, x => match x with
    | .Subscript l r _ => (match r with
      | .Slice u v st _ => (match st with
        | none => (notBor a && okE sc a l) && (okO sc lo u && okO sc hi v)
        | _ => false)
      | _ => false)
    | _ => false
  | sc, .call f l, x => match x with
    | .Call y xs kw _ => (match y with
      | .Name x _ => (match kw with
        | [] => (match P[f]? with
          | some fn => decide (fn.name = x) && (globB fn && !fn.own)
          | none => false) && (glB sc x && (!xs.isEmpty && okL sc l xs))
        | _ => false)
      | _ => false)
    | _ => false
  | sc, .fcall f l, x => match x with
    | .Call y xs kw _ => (match y with
      | .Name x _ => (match kw with
        | [] => (match P[f]? with
          | some fn => decide (fn.name = x) && (globB fn && fn.own)
          | none => false) && (glB sc x && (!xs.isEmpty && okL sc l xs))
        | _ => false)
      | _ => false)
    | _ => false
  | sc, .fn1 k a, x => match x with
    | .Call y xs kw _ => (match y with
      | .Name x _ => (match kw with
        | [] => (match xs with
          | [e] => isB sc x (f1N k) && okE sc a e
          | _ => false)
        | _ => false)
      | _ => false)
    | _ => false
  | sc, .fn2 k a b, x => match x with
    | .Call y xs kw _ => (match y with
      | .Name x _ => (match kw with
        | [] => (match xs with
          | [e, f] => isB sc x (f2N k) && ((notBor a && okE sc a e) && (notBor b && okE sc b f))
          | _ => false)
        | _ => false)
      | _ => false)
    | _ => false
  | sc, .meth1 k a b, x => match x with
    | .Call y xs kw pos => (match y with
      | .Attribute o m apos => (match kw with
        | [] => (match xs with
          | [e] => decide (m = m1N k) && (okE sc a o && ((notBor b && okE sc b e) && (noCall o && (apos.endLine == pos.line))))
          | _ => false)
        | _ => false)
      | _ => false)
    | _ => false
  | sc, .get2 a b c, x => match x with
    | .Call y xs kw pos => (match y with
      | .Attribute o m apos => (match kw with
        | [] => (match xs with
          | [e, f] => decide (m = "get") && (okE sc a o && ((notBor b && okE sc b e) && ((notBor c && okE sc c f) && (noCall o && (apos.endLine == pos.line)))))
          | _ => false)
        | _ => false)
      | _ => false)
    | _ => false
  | sc, .isi a t, x => match x with
    | .Call y xs kw _ => (match y with
      | .Name x _ => (match kw with
        | [] => (match xs with
          | [e, f] => (match f with
            | .Name z _ => isB sc x "isinstance" && (isB sc z (tyN t) && okE sc a e)
            | _ => false)
          | _ => false)
        | _ => false)
      | _ => false)
    | _ => false
  | sc, .ff k a, x => match x with
    | .Call y xs kw _ => (match y with
      | .Name x _ => (match kw with
        | [] => (match xs with
          | [e] => (match k with
            | .list => isB sc x "list" && okE sc a e
            | .sorted => isB sc x "sorted" && okE sc a e
            | .dict => isB sc x "dict" && okE sc a e
            | .sset => (match e with
              | .Call y2 xs2 kw2 _ => (match y2 with
                | .Name x2 _ => (match kw2 with
                  | [] => (match xs2 with
                    | [e2] => isB sc x "sorted" && (isB sc x2 "set" && (notBor a && okE sc a e2))
                    | _ => false)
                  | _ => false)
                | _ => false)
              | _ => false))
          | _ => false)
        | _ => false)
      | _ => false)
    | _ => false
  | sc, .hn a, x => plainX x && ((match kindE a with | .frs => true | _ => false) && okE sc a x)
  | sc, .dsp k v, x => match x with
    | .Dict ks vs _ => (match ks with
      | [some y] => (match vs with
        | [z] => (notBor k && okE sc k y) && (notBor v && okE sc v z)
        | _ => false)
      | _ => false)
    | _ => false
  | sc, .lit a, x => match x with
    | .Call y xs kw _ => (match y with
      | .Name x _ => (match kw with
        | [] => (match xs with
          | [.Call y2 xs2 kw2 _] => (match y2 with
            | .Name x2 _ => (match kw2 with
              | [] => (match xs2 with
                | [e] => isB sc x "list" && (isB sc x2 "range" && (notBor a && okE sc a e))
                | _ => false)
              | _ => false)
            | _ => false)
          | _ => false)
        | _ => false)
      | _ => false)
    | _ => false
  | sc, .lit2 a b, x => match x with
    | .Call y xs kw _ => (match y with
      | .Name x _ => (match kw with
        | [] => (match xs with
          | [.Call y2 xs2 kw2 _] => (match y2 with
            | .Name x2 _ => (match kw2 with
              | [] => (match xs2 with
                | [e, f] => isB sc x "list" && (isB sc x2 "range" && ((notBor a && okE sc a e) && (notBor b && okE sc b f)))
                | _ => false)
              | _ => false)
            | _ => false)
          | _ => false)
        | _ => false)
      | _ => false)
    | _ => false
  | sc, .hpop h i, x => match x with
    | .Call y xs kw pos => (match y with
      | .Attribute o m apos => (match kw with
        | [] => (match xs with
          | [e] => decide (m = "pop") && (notBor h && (okE sc h o && (notBor i && (okE sc i e && (noCall o && (apos.endLine == pos.line))))))
          | _ => false)
        | _ => false)
      | _ => false)
    | _ => false
  | sc, .gd y kvs a, x => match x with
    | .Subscript l r _ => (match l with
      | .Name z _ => decide (z = y) && (decide ((y, GV.dct kvs) ∈ gi) && (glB sc z && (notBor a && (okE sc a r && kvs.all fun q => decide (q.2.length ≤ LIM)))))
      | _ => false)
    | _ => false
  | sc, .fld c a y, x => match x with
    | .Attribute o f _ => decide (f = y) && (fldB P c y && (isRep a && (okE sc a o && noCall o)))
    | _ => false
  | sc, .mcall c f m a l, x => match x with
    | .Call y xs kw pos => (match y with
      | .Attribute o n apos => (match kw with
        | [] => decide (n = m) && (mtB P c f m && (isRep a && (okE sc a o && (okL sc l xs && (noCall o && ((apos.endLine == pos.line) && small30 xs))))))
        | _ => false)
      | _ => false)
    | _ => false
  | sc, .mk c f l, x => match x with
    | .Call y xs kw _ => (match y with
      | .Name z _ => (match kw with
        | [] => mkB P c f z && (glB sc z && okL sc l xs)
        | _ => false)
      | _ => false)
    | _ => false
  | _, .compK _ _ _ _, _ => false
  | _, .dsps _, _ => false
  | _, .dic0, x => match x with
    | .Dict ks vs _ => ks.isEmpty && vs.isEmpty
    | _ => false
  | sc, .comp tg tt it cond elt own, x => match x with
    | .ListComp x gs scope _ => (match gs with
      | [⟨t, i, ifs, na⟩] => decide (na = 0) && ((okI sc tt it i || okW N sc it i) && (blkC N sc scope (own.filterMap fun j => (N[j]?).map fun y => (y, j)) && (decide ((own.filterMap fun j => (N[j]?).map fun y => (y, j)).map (·.2) = own) &&
        (targetB N scope tg tt t && (tg.all (fun j => decide (j ∈ own)) && (okC (relS scope sc) cond ifs && (notBor elt && okE (relS scope sc) elt x)))))))
      | _ => false)
    | _ => false
  | sc, .rev a, x => match x with
    | .Subscript l r _ => (match r with
      | .Slice u v st _ => (match u with
        | none => (match v with
          | none => (match st with
            | some (.UnaryOp .USub (.Constant (.int 1) _ _) _) => notBor a && okE sc a l
            | _ => false)
          | _ => false)
        | _ => false)
      | _ => false)
    | _ => false
  | _, .itSeq _, _ => false
  | _, .itRange1 _, _ => false
  | _, .itRange _ _, _ => false
  | _, .itEnum _, _ => false
  | _, .itZip _ _, _ => false
  | _, .itOwn _, _ => false
  | _, .nil, _ => false
  | _, .cons _ _, _ => false
def okL : Scope → E → List Expr → Bool
  | sc, l, xs => match l with
    | .nil => xs.isEmpty
    | .cons e r => (match xs with
      | x :: xs => notBor e && (okE sc e x && okL sc r xs)
      | [] => false)
    | _ => false
def okC : Scope → E → List Expr → Bool
  | sc, l, xs => match l with
    | .nil => xs.isEmpty
    | .cons e r => (match xs with
      | [x] => isNil r && okE sc e x
      | _ => false)
    | _ => false
def okO : Scope → E → Option Expr → Bool
  | sc, l, x => match l with
    | .nil => x.isNone
    | .cons e r => (match x with
      | some x => isNil r && (notBor e && okE sc e x)
      | none => false)
    | _ => false
def okI : Scope → Bool → E → Expr → Bool
  | sc, tt, it, x => match it with
    | .itSeq a => notBor a && okE sc a x
    | .itRange1 a => (match x with
      | .Call y xs kw _ => (match y with
        | .Name x _ => (match kw with
          | [] => (match xs with
            | [e] => isB sc x "range" && (notBor a && okE sc a e)
            | _ => false)
          | _ => false)
        | _ => false)
      | _ => false)
    | .itRange a b => (match x with
      | .Call y xs kw _ => (match y with
        | .Name x _ => (match kw with
          | [] => (match xs with
            | [e, f] => isB sc x "range" && ((notBor a && okE sc a e) && (notBor b && okE sc b f))
            | _ => false)
          | _ => false)
        | _ => false)
      | _ => false)
    | .itEnum a => (match x with
      | .Call y xs kw _ => (match y with
        | .Name x _ => (match kw with
          | [] => (match xs with
            | [e] => tt && (isB sc x "enumerate" && (notBor a && okE sc a e))
            | _ => false)
          | _ => false)
        | _ => false)
      | _ => false)
    | .itZip a b => (match x with
      | .Call y xs kw _ => (match y with
        | .Name x _ => (match kw with
          | [] => (match xs with
            | [e, f] => tt && (isB sc x "zip" && ((notBor a && okE sc a e) && (notBor b && okE sc b f)))
            | _ => false)
          | _ => false)
        | _ => false)
      | _ => false)
    | _ => false
end
end
end Pv

set_option Elab.async false
set_option linter.all false
set_option maxRecDepth 100000
set_option maxHeartbeats 4000000
namespace Pv
open PySem L2 PySem.Spec PyProof.Rows

/-! ### tuples that are known to have no dict -/
/-- what a new tuple gives -/
def NewT (H : Hp) (xs : List V) (Q : VK) : Prop := ∀ p o, H p = none → o.dict = Option.none → Q (.ref p) (upd H p (.frz o (.tup xs)))
section
variable {X : Cx} {pins : List (Addr × Obj)} {σ : L2.St} {H : Hp} {s : Shared}
/-- the new tuple is laid -/
theorem laidT {tk : Tok} {its : List Value} {xs : List V} {Q : VK} (I : L2.Inv X pins σ H s) (r : Vals xs its) (hz : xs.length ≤ sizeLine) (q : NewT H xs Q) :
    EP X pins σ Q (.ref s.heap.objs.size) { s with heap := s.heap.push { cls := .type "tuple", data := .seq its.toArray }, toks := tk } := by
  have at_ : (s.heap.push { cls := .type "tuple", data := .seq its.toArray }).get? s.heap.objs.size = some { cls := .type "tuple", data := .seq its.toArray } := Heap.get?_push_size _ rfl
  have keep : ∀ b u, s.heap.get? b = some u → (s.heap.push { cls := .type "tuple", data := .seq its.toArray }).get? b = some u := fun b u e => Heap.get?_push_of_some _ e
  refine ⟨.ref s.heap.objs.size, _, I.laid (t' := tk) (o := .frz { cls := .type "tuple", data := .seq its.toArray } (.tup xs)) keep (Nat.le_refl _) ⟨at_, hz, its, r, ⟨_, at_, rfl, _, rfl⟩⟩, rfl, q _ _ (I.hok.fresh (Nat.le_refl _)) rfl⟩
variable {es : List Expr} {t : TA} {pos : Pos}
theorem pe_tupT {x1} (h : PA X es t) : PE X (.Tuple es x1 pos) (fun σ H Q => t σ H fun xs H1 => xs.length ≤ sizeLine ∧ NewT H1 xs Q) := by
  refine ⟨fun pins s σ H Q I hq => wpAny_Tuple_spliced (thn (h.run pos pins s σ H _ I hq) ?_)⟩
  rintro us s1 ⟨xs, H1, I1, r, hz, q⟩
  exact ⟨by rw [← r.length]; exact hz, laidT I1 r hz q⟩
/-- t + u -/
def rCatF (K : PySem.W.Frag) : R2 := fun x y H Q => ∃ a b xs ys, x = .ref a ∧ y = .ref b ∧ SqT K H a xs ∧ SqT K H b ys ∧ xs.length + ys.length ≤ sizeLine ∧
  (xs = [] → Q (.ref b) H) ∧ (xs ≠ [] → ys = [] → Q (.ref a) H) ∧ (xs ≠ [] → ys ≠ [] → NewT H (xs ++ ys) Q)
theorem op_catF : OpR X (binaryOp .Add) (rCatF X.K) := by
  rintro pins s σ H x y v u Q I rx ry ⟨a, b, xs, ys, rfl, rfl, ha, hb, hz, q0, q1, q2⟩
  cases rx; cases ry
  obtain ⟨its, r1, p1, _⟩ := I.tuple ha
  obtain ⟨jts, r2, p2, _⟩ := I.tuple hb
  by_cases hx : xs = []
  · subst hx; cases r1
    exact cat_tup0 p1 p2 ⟨.ref b, H, I, rfl, q0 rfl⟩
  · refine HT.cat_tup p1 p2 (fun z => hx (r1.nil_iff.mp z)) (fun z => ⟨.ref a, H, I, rfl, q1 hx (r2.nil_iff.mp z)⟩) (fun z => ?_) (by rw [← r1.length, ← r2.length]; exact hz)
    exact laidT I (r1.append r2) (by rw [List.length_append]; exact hz) (q2 hx fun w => z (r2.nil_iff.mpr w))
/-- t[lo:hi] -/
def rSlF (K : PySem.W.Frag) : V → Option Int → Option Int → Hp → VK → Prop := fun x lo hi H Q => ∃ a xs, x = .ref a ∧ SqT K H a xs ∧
  (HT.sIx xs.length 0 lo = 0 ∧ HT.sIx xs.length xs.length hi = xs.length → Q (.ref a) H) ∧ (¬ (HT.sIx xs.length 0 lo = 0 ∧ HT.sIx xs.length xs.length hi = xs.length) → NewT H (cutV xs lo hi) Q)
theorem sl_tupF : SlR X (rSlF X.K) := by
  rintro pins s σ H x v vl vu lo hi sl Q I rx hs pl pu ⟨a, xs, rfl, hx, q1, q2⟩
  cases rx
  obtain ⟨its, r, ht, hz⟩ := I.tuple hx
  have hlen : its.toArray.size = xs.length := (List.size_toArray ..).trans r.length.symm
  refine ⟨"tuple", _, PyProof.Rows.slot_tuple_getitem.lookup, ht.typeIs, ?_⟩
  by_cases hw : HT.sIx xs.length 0 lo = 0 ∧ HT.sIx xs.length xs.length hi = xs.length
  · exact getItem_tuple_whole ht hs pl pu (by rw [hlen]; exact hw) ⟨.ref a, H, I, rfl, q1 hw⟩
  · refine HT.getItem_tuple_cut ht hs pl pu (by rw [hlen]; exact hw) ?_ (by rw [hlen]; exact hz)
    rw [hlen]
    have r' := (r.drop (HT.sIx xs.length 0 lo)).take (HT.sIx xs.length xs.length hi - HT.sIx xs.length 0 lo)
    exact laidT (tk := s.toks) I (xs := cutV xs lo hi) r' (Nat.le_trans (cutV_length xs lo hi) hz) (q2 hw)
/-- tuple(x) -/
theorem call_tupleF : CallR X (.type "tuple") (fun xs H Q => ∃ p ys, xs = [.ref p] ∧ ((SqL X.K H p ys ∧ NewT H ys Q) ∨ (SqT X.K H p ys ∧ Q (.ref p) H))) := by
  rintro pins s σ H xs us Q I r ⟨p, ys, rfl, h⟩
  obtain ⟨u, rfl, rx⟩ := vals1 r
  cases rx
  rcases h with ⟨hq, q⟩ | ⟨hq, q⟩
  · obtain ⟨its, r', pl, hz⟩ := I.list hq
    have hlen := r'.length
    refine call_tuple_list pl.isList (fun h' kp => ?_) (by rw [List.size_toArray, ← hlen]; exact hz)
    have I1 : L2.Inv X pins σ H { s with heap := h' } := I.kept (t' := s.toks) kp
    exact laidT (tk := s.toks) I1 r' hz q
  · obtain ⟨its, r', pl, hz⟩ := I.tuple hq
    exact call_tuple_same pl ⟨.ref p, H, I, rfl, q⟩
/-- t * k -/
def rRepF (K : PySem.W.Frag) : R2 := fun x y H Q => ∃ l k xs, x = .ref l ∧ y = .int k ∧ SqT K H l xs ∧ xs ≠ [] ∧ 2 ≤ k ∧ k ≤ 1000 ∧ xs.length ≤ 1000 ∧ NewT H (List.replicate k.toNat xs).flatten Q
theorem op_repF : OpR X (binaryOp .Mult) (rRepF X.K) := by
  rintro pins s σ H x y v u Q I rx ry ⟨l, k, xs, rfl, rfl, hT, hne, h1, h2, hz, q⟩
  cases rx
  obtain ⟨t, rfl⟩ := ry
  obtain ⟨its, r, ⟨⟨cls, dd, data, sl⟩, ho, hc, n, hd⟩, hs⟩ := I.tuple hT
  simp only at hc hd
  subst hc hd
  have hle : its.length = xs.length := r.length.symm
  have hz0 : its.toArray.size = xs.length := (List.size_toArray ..).trans hle
  have hi : its.toArray.isEmpty = false := by
    cases its with
    | nil => exact absurd (List.eq_nil_of_length_eq_zero hle.symm) hne
    | cons a b => rfl
  have hm : ((its.toArray.size : Nat) : Int) * k ≤ 1000000 := by
    rw [hz0]
    exact Int.le_trans (Int.mul_le_mul_of_nonneg_right (show ((xs.length : Nat) : Int) ≤ 1000 by omega) (show (0 : Int) ≤ k by omega)) (by omega)
  have hk : k.toNat * xs.length ≤ 1000000 := Nat.le_trans (Nat.mul_le_mul (show k.toNat ≤ 1000 by omega) hz) (by decide)
  have fl : (List.replicate k.toNat its).flatten.length ≤ sizeLine := by
    rw [PyProof.Rows.lm_len_rep_flat, hle, sizeLine_eq]; omega
  have d0 : (decide (k < -(2 ^ 63)) || decide (k ≥ 2 ^ 63)) = false := Bool.or_eq_false_iff.mpr ⟨decide_eq_false (by omega), decide_eq_false (by omega)⟩
  have d1 : (its.toArray.isEmpty || k == 1) = false := Bool.or_eq_false_iff.mpr ⟨hi, beq_eq_false_iff_ne.mpr (by omega)⟩
  have d2 : (decide (k ≤ 0) || its.toArray.isEmpty) = false := Bool.or_eq_false_iff.mpr ⟨decide_eq_false (by omega), hi⟩
  have d4 : Builtin.Tuple.tupleTooMany (((its.toArray.size : Nat) : Int) * k) = false := by
    unfold Builtin.Tuple.tupleTooMany
    rw [sizeLine_eq]; exact decide_eq_false (by omega)
  have d5 : (List.foldl (fun x1 x2 => x1 ++ x2) #[] (List.replicate k.toNat its.toArray)).size ≤ sizeLine := by rw [size_rep, List.size_toArray]; exact fl
  have c1 := call_meets (prog := X.prog) (w := X.w) (A := X.A) (E := X.xe) F.slot_tuple_mul (s := s) (show s.TypeIs (.ref l) "tuple" from ⟨_, ho, rfl⟩) F.entry_tuple_mul (F.args_tuple_mul_2 _ _) (tuple_mulW l its.toArray n dd sl k t d0 d1 d2 (by omega) d4 d5) (Q := EP X pins σ Q)
    ⟨ho, by rw [size_rep]; exact laidT (tk := s.toks) I (r.rep k.toNat) (by rw [PyProof.Rows.lm_len_rep_flat, sizeLine_eq]; omega) q⟩
  exact wpAny_binaryOp_repeat_ref (T := "tuple") (U := "int") (by decide) ⟨_, ho, rfl⟩ (fun s' => typeIs_int s' k t) noFill_tuple_mul F.fills_int_mul F.slot_int_rmul repeat_tuple F.slot_int_index.lookup
    (call_meets F.slot_int_rmul (typeIs_int s k t) F.entry_int_rmul (F.args_int_rmul_2 _ _) (int_rmul_tuple k t l its.toArray n dd sl) ⟨ho, rfl, ⟨_, ho, rfl⟩, c1⟩)
end
end Pv

set_option Elab.async false
set_option linter.all false
set_option maxRecDepth 100000
set_option maxHeartbeats 4000000
namespace Pv
open PySem L2

/-! ### names -/
theorem nameB_of {N : List Str} {sc : Scope} {i : Nat} {x : Str} (h : nameB N sc i x = true) : N[i]? = some x ∧ Vis sc x ∧ (x == ("__debug__" : Str)) = false ∧ (x == ("__classdict__" : Str)) = false := by
  unfold nameB at h
  simp only [Bool.and_eq_true, decide_eq_true_eq, Bool.not_eq_true'] at h
  obtain ⟨h1, h2, h3, h4⟩ := h
  refine ⟨h1, ?_, h3, h4⟩
  unfold visB at h2
  unfold Vis
  split at h2 <;> simp_all
theorem glB_of {sc : Scope} {x : Str} (h : glB sc x = true) : sc.names.lookup x = some .globalImplicit ∧ (x == ("__debug__" : Str)) = false := by
  unfold glB at h
  simp only [Bool.and_eq_true, Bool.not_eq_true'] at h
  obtain ⟨h1, h2⟩ := h
  refine ⟨?_, h2⟩
  split at h1 <;> simp_all
theorem isB_of {sc : Scope} {x y : Str} (h : isB sc x y = true) : x = y ∧ sc.names.lookup x = some .globalImplicit := by
  unfold isB at h
  simp only [Bool.and_eq_true, decide_eq_true_eq] at h
  exact ⟨h.1, (glB_of h.2).1⟩
theorem tgB_of {N : List Str} {sc : Scope} {i : Nat} {x : Str} (h : tgB N sc i x = true) : N[i]? = some x ∧ L2.Loc sc x := by
  unfold tgB locB at h
  simp only [Bool.and_eq_true, decide_eq_true_eq] at h
  refine ⟨h.1, ?_⟩
  have h2 := h.2
  unfold L2.Loc
  split at h2 <;> simp_all

def nst : Expr → Bool
  | .Starred .. => false
  | _ => true
theorem star_ok {e : Expr} {es : List Expr} {env : PySem.Env} (h : nst e = true) : starEach (e :: es) env = (false, eval e env) :: starEach es env := by
  cases e <;> first | rfl | cases h
theorem star_any {pos : Pos} {env : PySem.Env} : ∀ {es : List Expr}, es.all nst = true → (backTo pos (starEach es env)).any (·.1) = false
  | [], _ => rfl
  | e :: es, h => by
    rw [List.all_cons, Bool.and_eq_true] at h
    rw [star_ok h.1]
    have := star_any (pos := pos) (env := env) h.2
    unfold backTo at this ⊢
    simpa using this

section
variable {T : Tb} {X : Cx} {g : Gx} {N : List Str} {sc : Scope} {pos : Pos}
theorem Cok.gl (h : Cok T X g N sc) {x : Str} (e : sc.names.lookup x = some .globalImplicit) : Gl X x := by
  show X.env.scope.names.lookup x = _
  rw [h.sc]; exact e
theorem Cok.blt (h : Cok T X g N sc) {x : Str} (e : x ∈ bltN) : X.mg x = none := h.p.blt x e
theorem Cok.hu (h : Cok T X g N sc) : X.A.units + 1 < cLine := hu_of h.room
theorem Cok.hu64 (h : Cok T X g N sc) : X.A.units + 64 < cLine := h.room.units
theorem Cok.hu0 (h : Cok T X g N sc) : X.A.units < cLine := h.room.units0

/-! ### constants and names -/
theorem s_const {e : Expr} {v : V} {d : D} (h : PE X e (tC v)) (r : ∀ w, Rep w v d) : PE X e (GE g .rep fun _ M => .ok d M) := PE.imp h fun σ H Q ⟨ρ, M, w, e, s, a⟩ => by
  subst e
  exact a.fin s (r w)
theorem s_var (h : Cok T X g N sc) {i : Nat} {x : Str} (c : nameB N sc i x = true) : PE X (.Name x pos) (GE g .rep (ev T.C (.var i))) := by
  obtain ⟨h1, h2, h3, h4⟩ := nameB_of c
  refine PE.imp (pe_var (i := i) (by rw [h.hN]; exact h1) (by rw [h.sc]; exact h2) h3 h4) ?_
  rintro σ H Q ⟨ρ, M, w, e, s, a⟩
  subst e
  simp only [ev] at a
  split at a
  · rename_i d q
    obtain ⟨v, e, r⟩ := s.sh i d q
    exact ⟨v, e, a.fin s r⟩
  · exact a.elim
theorem s_peek (h : Cok T X g N sc) {i : Nat} {x : Str} (c : nameB N sc i x = true) : PE X (.Name x pos) (GE g .bor (ev T.C (.peek i))) := by
  obtain ⟨h1, h2, h3, h4⟩ := nameB_of c
  refine PE.imp (pe_var (i := i) (by rw [h.hN]; exact h1) (by rw [h.sc]; exact h2) h3 h4) ?_
  rintro σ H Q ⟨ρ, M, w, e, s, a⟩
  subst e
  simp only [ev] at a
  split at a
  · rename_i d q
    obtain ⟨p, e, r⟩ := s.ow i d q
    exact ⟨_, e, a.fin s ⟨i, q, e⟩⟩
  · exact a.elim
theorem s_glob (h : Cok T X g N sc) {i : Int} {x : Str} (c : (x, GV.int i) ∈ T.gi) (c2 : glB sc x = true) : PE X (.Name x pos) (GE g .rep (ev T.C (.glob x i))) := by
  obtain ⟨t, e⟩ := h.p.gi x i c
  obtain ⟨h1, h2⟩ := glB_of c2
  exact s_const (pe_glob (v := .int i) (h.gl h1) e ⟨t, rfl⟩ h2) fun w => .int i

/-! ### operators -/
theorem Aft.optE {w : Wd} {ρ : Rho} {σ : St} {Q : VK} {k : RK} {o : Option D} {M : Store} (h : Aft g (rl g ρ σ k) w ρ σ Q (Pv.opt o M)) : ∃ d, o = some d ∧ Aft g (rl g ρ σ k) w ρ σ Q (.ok d M) := Aft.opt h

/-- all that + - * // % do -/
def rBin (g : Gx) (K : PySem.W.Frag) (k : BK) : R2 := fun x y H Q => ∃ (σ : St) (ρ : Rho) (M : Store) (w : Wd) (a b d : D), w.H = H ∧ Sr g.w0 ρ M w σ ∧ Rep w x a ∧ Rep w y b ∧ binD k a b = some d ∧ Aft g (rl g ρ σ .rep) w ρ σ Q (.ok d M)
theorem smallI_of {i : Int} (h : smallI i = true) : -(2 ^ 64) < i ∧ i < 2 ^ 64 := of_decide_eq_true h
theorem Reps.repeat_ {w : Wd} {vs : List V} {ds : List D} (r : Reps w vs ds) : ∀ n : Nat, Reps w (List.replicate n vs).flatten (List.replicate n ds).flatten
  | 0 => .nil
  | n + 1 => by
    rw [List.replicate_succ, List.replicate_succ, List.flatten_cons, List.flatten_cons]
    exact r.append (r.repeat_ n)
theorem foldl_arr {α : Type} : ∀ (n : Nat) (x acc : Array α), ((List.replicate n x).foldl (· ++ ·) acc).toList = acc.toList ++ (List.replicate n x.toList).flatten
  | 0, x, acc => by simp
  | n + 1, x, acc => by
    rw [List.replicate_succ, List.foldl_cons, foldl_arr n x (acc ++ x)]
    rw [List.replicate_succ, List.flatten_cons, Array.toList_append, List.append_assoc]
theorem flat_len {α : Type} (n : Nat) (l : List α) : (List.replicate n l).flatten.length = n * l.length := by
  induction n with
  | zero => simp
  | succ n ih => rw [List.replicate_succ, List.flatten_cons, List.length_append, ih, Nat.add_mul]; omega
theorem repS_size (x : Str) (n : Nat) : (repS x n).length = n * x.length := by
  show (List.toArray _).size = _
  rw [List.size_toArray, flat_len, Array.length_toList]; rfl
theorem repS_len {x : Str} {k : Int} (h : x.length * k.toNat ≤ LIM) : (repS x k.toNat).length ≤ LIM := by
  rw [repS_size, Nat.mul_comm]; exact h
theorem str_ext {x y : Str} (h : x.cps.toList = y.cps.toList) : x = y := by
  cases x; cases y
  simp only at h
  rw [Array.toList_inj.mp h]
theorem txt_mul (x : Str) (k : Int) : Txt.mul x k = repS x k.toNat := by
  unfold Txt.mul
  by_cases h1 : k < 1
  · rw [if_pos h1]
    have : k.toNat = 0 := by omega
    rw [this]; rfl
  · rw [if_neg h1]
    by_cases h2 : (k == 1 || x.length == 0) = true
    · rw [if_pos h2]
      refine str_ext ?_
      show _ = (List.toArray _).toList
      rw [List.toList_toArray]
      simp only [Bool.or_eq_true, beq_iff_eq] at h2
      rcases h2 with h2 | h2
      · subst h2
        show _ = (List.replicate 1 _).flatten
        simp
      · have : x.cps.toList = [] := by
          apply List.eq_nil_of_length_eq_zero
          rw [Array.length_toList]; exact h2
        rw [this]
        have : ∀ n : Nat, (List.replicate n ([] : List Nat)).flatten = [] := by
          intro n
          apply List.eq_nil_of_length_eq_zero
          rw [flat_len]; rfl
        rw [this]
    · rw [if_neg h2]
      refine str_ext ?_
      show ((List.replicate k.toNat x.cps).foldl (· ++ ·) #[]).toList = (List.toArray _).toList
      rw [foldl_arr, List.toList_toArray]; simp
theorem mulOk_small {x : Str} {k : Int} (h1 : -(2 ^ 63) ≤ k) (h2 : k < 2 ^ 63) (h3 : x.length * k.toNat ≤ LIM) : MulOk x k := by
  refine ⟨?_, fun a b => ?_, fun a b => ?_⟩
  · rw [decide_eq_false (by omega), decide_eq_false (by omega)]; rfl
  · intro hgt
    have hk : 0 < k := by omega
    have h4 : (x.length : Int) * k ≤ (LIM : Nat) := by
      have e : k = (k.toNat : Int) := by omega
      rw [e]
      exact_mod_cast h3
    have hL : (LIM : Int) = 16777216 := rfl
    have : (2 ^ 63 - 1) / k * k ≤ 2 ^ 63 - 1 := Int.ediv_mul_le _ (by omega)
    have hlt : (2 ^ 63 - 1) < ((2 ^ 63 - 1) / k + 1) * k := Int.lt_ediv_add_one_mul_self _ hk
    have : ((2 ^ 63 - 1) / k + 1) * k ≤ (x.length : Int) * k := Int.mul_le_mul_of_nonneg_right (by omega) (by omega)
    omega
  · have : x.length * k.toNat ≤ sizeLine := h3
    exact decide_eq_false (by omega)
theorem op_bin (h : Cok T X g N sc) {k : BK} {op : Operator} (c : opB k op = true) : OpR X (binaryOp op) (rBin g X.K k) := by
  rintro pins s σ H x y v u Q I rx ry ⟨σ', ρ, M, w, a, b, d, rfl, sr, ra, rb, e, af⟩
  cases k <;> cases op <;> first | (exfalso; exact Bool.noConfusion c) | skip
  · -- add
    cases ra <;> cases rb <;> simp only [binD, Option.some.injEq, reduceCtorEq, Option.ite_none_right_eq_some] at e
    · subst e
      exact op_add pins s σ _ _ _ _ _ Q I rx ry ⟨_, _, rfl, rfl, af.fin sr (.int _)⟩
    · obtain ⟨e1, rfl⟩ := e
      exact op_add_str pins s σ _ _ _ _ _ Q I rx ry ⟨_, _, rfl, rfl, e1, af.fin sr (.str _ (by show (_ ++ _ : Str).length ≤ LIM; rw [Str.length_append]; exact e1))⟩
    · obtain ⟨e1, rfl⟩ := e
      rename_i p vs ds f1 h1 r1 q us es f2 h2 r2
      refine op_catF pins s σ _ _ _ _ _ Q I rx ry ⟨p, q, vs, us, rfl, rfl, h1.sq, h2.sq, by rw [r1.length, r2.length]; exact e1, fun z => ?_, fun z z2 => ?_, fun z z2 p' o n hd => ?_⟩
      · subst z
        cases r1
        exact af.fin sr (.tup f2 h2 r2)
      · subst z2
        cases r2
        rw [List.append_nil] at af
        exact af.fin sr (.tup f1 h1 r1)
      · exact af.new sr n (.tup (.inr rfl) ⟨o, hd, upd_same⟩ ((r1.append r2).mono (frozen_wle sr.wf n)))
    · obtain ⟨e1, rfl⟩ := e
      rename_i p vs ds f1 h1 r1 q us es f2 h2 r2
      refine op_cat pins s σ _ _ _ _ _ Q I rx ry ⟨p, q, vs, us, rfl, rfl, h1, h2, by rw [r1.length, r2.length]; exact e1, fun p' n => ?_⟩
      exact af.new sr n (.lst (.inr rfl) upd_same ((r1.append r2).mono (frozen_wle sr.wf n)))
  · cases ra <;> cases rb <;> simp only [binD, Option.some.injEq, reduceCtorEq] at e
    subst e
    exact op_sub pins s σ _ _ _ _ _ Q I rx ry ⟨_, _, rfl, rfl, af.fin sr (.int _)⟩
  · cases ra <;> cases rb <;> simp only [binD, Option.some.injEq, reduceCtorEq, Option.ite_none_right_eq_some, Bool.or_eq_true] at e
    · obtain ⟨e1, rfl⟩ := e
      exact op_mul pins s σ _ _ _ _ _ Q I rx ry ⟨_, _, rfl, rfl, e1.imp smallI_of smallI_of, af.fin sr (.int _)⟩
    · obtain ⟨⟨e1, e2, e3⟩, rfl⟩ := e
      rename_i z hz k
      obtain ⟨t, rfl⟩ := rx
      obtain ⟨u, rfl⟩ := ry
      refine SB.mul (mulOk_small e1 e2 e3) fun t' tk => ?_
      rw [txt_mul]
      exact ⟨.str _, _, I.tok tk, ⟨t', rfl⟩, af.fin sr (.str _ (repS_len e3))⟩
    · obtain ⟨⟨e1, e2, e3, e4⟩, rfl⟩ := e
      rename_i p vs ds f1 h1 r1 k
      have hne : vs ≠ [] := fun z => by
        subst z; cases r1; exact e1 rfl
      refine op_repF pins s σ _ _ _ _ _ Q I rx ry ⟨p, k, vs, rfl, rfl, h1.sq, hne, e2, e3, by rw [r1.length]; exact e4, fun p' o n hd => ?_⟩
      exact af.new sr n (.tup (.inr rfl) ⟨o, hd, upd_same⟩ ((r1.repeat_ _).mono (frozen_wle sr.wf n)))
    · obtain ⟨⟨e1, e2, e3⟩, rfl⟩ := e
      rename_i p vs ds f1 h1 r1 k
      refine op_rep pins s σ _ _ _ _ _ Q I rx ry ⟨p, k, vs, rfl, rfl, h1, e1, e2, by rw [r1.length]; exact e3, fun p' n => ?_⟩
      exact af.new sr n (.lst (.inr rfl) upd_same ((r1.repeat_ _).mono (frozen_wle sr.wf n)))
  · cases ra <;> cases rb <;> simp only [binD, Option.some.injEq, reduceCtorEq, Option.ite_none_right_eq_some] at e
    obtain ⟨e1, rfl⟩ := e
    exact op_fdiv pins s σ _ _ _ _ _ Q I rx ry ⟨_, _, rfl, rfl, e1, af.fin sr (.int _)⟩
  · cases ra <;> cases rb <;> simp only [binD, Option.some.injEq, reduceCtorEq, Option.ite_none_right_eq_some] at e
    obtain ⟨e1, rfl⟩ := e
    exact op_mod pins s σ _ _ _ _ _ Q I rx ry ⟨_, _, rfl, rfl, e1, af.fin sr (.int _)⟩
theorem s_bin (h : Cok T X g N sc) {k : BK} {op : Operator} (c : opB k op = true) {a b : Expr} {fa fb : Rho → Store → Res D} (ha : PE X a (GE g .rep fa)) (hb : PE X b (GE g .rep fb)) :
    PE X (.BinOp a op b pos) (GE g .rep fun ρ M => (fa ρ M).bind fun x M => (fb ρ M).bind fun y M => opt (binD k x y) M) := by
  refine PE.imp (pe_op (op_bin h c) ha hb) fun σ H Q q => ?_
  have t := GE.two (ka := .rep) (kb := .rep) (rel := fun ρ σ => rl g ρ σ .rep) (F := fun ρ x y M => opt (binD k x y) M) (fun z => nomatch z) (anti_rl (k := .rep) (σ := σ)) q
  obtain ⟨ρ, M, w, e, s, a⟩ := t
  refine ⟨ρ, M, w, e, s, a.mono ?_⟩
  rintro v H1 ⟨ρ1, M1, w1, e1, s1, a1⟩
  refine ⟨ρ1, M1, w1, e1, s1, a1.mono ?_⟩
  rintro u H2 ⟨ρ2, M2, w2, _, _, x, y, e2, s2, rx, ry, a2⟩
  obtain ⟨d, ed, a3⟩ := a2.optE
  exact ⟨σ, ρ2, M2, w2, x, y, d, e2, s2, rx, ry, ed, a3⟩
theorem s_neg {a : Expr} {fa : Rho → Store → Res D} (ha : PE X a (GE g .rep fa)) :
    PE X (.UnaryOp .USub a pos) (GE g .rep fun ρ M => (fa ρ M).bind fun x M => match x with | .int i => .ok (.int (-i)) M | _ => .fail) := by
  refine PE.imp (pe_un un_neg ha) fun σ H Q q => ?_
  have t := GE.one (ka := .rep) (rel := fun ρ σ => rl g ρ σ .rep) (F := fun ρ x M => match x with | .int i => .ok (.int (-i)) M | _ => .fail) (anti_rl (k := .rep) (σ := σ)) q
  obtain ⟨ρ, M, w, e, s, a⟩ := t
  refine ⟨ρ, M, w, e, s, a.mono ?_⟩
  rintro v H1 ⟨ρ1, M1, w1, _, x, e1, s1, _, r1, a1⟩
  subst e1
  have r1 : Rep w1 v x := r1
  cases r1 with
  | int i => exact ⟨i, rfl, a1.fin s1 (.int _)⟩
  | _ => exact a1.elim
end
end Pv

set_option Elab.async false
set_option linter.all false
set_option maxRecDepth 100000
set_option maxHeartbeats 4000000
namespace Pv
open PySem L2

/-! ### plain data -/
mutual
def toP : D → PyData
  | .non => .none
  | .bl b => .bool b
  | .int i => .int i
  | .str x => .str x
  | .tup ds => .tuple (toPs ds)
  | .lst ds => .list (toPs ds)
  | _ => .none
def toPs : List D → List PyData
  | [] => []
  | d :: ds => toP d :: toPs ds
end
mutual
theorem eqD_eqv : ∀ {n m : Nat} {d e : D}, okd n d = true → okd m e = true → eqD d e = PyData.eqv (toP d) (toP e)
  | _, _, .non, e, _, h => by cases e <;> first | rfl | (simp only [okd, Bool.false_eq_true] at h)
  | _, _, .bl b, e, _, h => by cases e <;> first | rfl | (simp only [okd, Bool.false_eq_true] at h)
  | _, _, .int i, e, _, h => by cases e <;> first | rfl | (simp only [okd, Bool.false_eq_true] at h)
  | _, _, .str x, e, _, h => by cases e <;> first | rfl | (simp only [okd, Bool.false_eq_true] at h)
  | 0, _, .tup ds, e, h, _ => by simp only [okd, Bool.false_eq_true] at h
  | n + 1, m, .tup ds, e, h, k => by
    cases e with
    | tup es =>
      cases m with
      | zero => simp only [okd, Bool.false_eq_true] at k
      | succ m =>
        simp only [okd] at h k
        simp only [eqD, toP, PyData.eqv]
        exact eqDs_eqv h k
    | _ => first | rfl | (simp only [okd, Bool.false_eq_true] at k)
  | 0, _, .lst ds, e, h, _ => by simp only [okd, Bool.false_eq_true] at h
  | n + 1, m, .lst ds, e, h, k => by
    cases e with
    | lst es =>
      cases m with
      | zero => simp only [okd, Bool.false_eq_true] at k
      | succ m =>
        simp only [okd] at h k
        simp only [eqD, toP, PyData.eqv]
        exact eqDs_eqv h k
    | _ => first | rfl | (simp only [okd, Bool.false_eq_true] at k)
  | n, _, .scr ds, e, h, _ => by simp only [okd, Bool.false_eq_true] at h
  | n, _, .dic ds, e, h, _ => by simp only [okd, Bool.false_eq_true] at h
  | n, _, .hnd ds, e, h, _ => by simp only [okd, Bool.false_eq_true] at h
  | n, _, .obj _ _, e, h, _ => by simp only [okd, Bool.false_eq_true] at h
  | n, _, .lck _, e, h, _ => by simp only [okd, Bool.false_eq_true] at h
theorem eqDs_eqv : ∀ {n m : Nat} {ds es : List D}, okds n ds = true → okds m es = true → eqDs ds es = PyData.eqvAll (toPs ds) (toPs es)
  | _, _, [], [], _, _ => rfl
  | _, _, [], _ :: _, _, _ => rfl
  | _, _, _ :: _, [], _, _ => rfl
  | n, m, d :: ds, e :: es, h, k => by
    simp only [okds, Bool.and_eq_true] at h k
    simp only [eqDs, toPs, PyData.eqvAll]
    rw [eqD_eqv h.1 k.1, eqDs_eqv h.2 k.2]
end
mutual
theorem shp : ∀ {n : Nat} {d : D}, okd n d = true → (toP d).canLay0 = true ∧ (toP d).depth ≤ n
  | _, .non, _ => ⟨rfl, Nat.zero_le _⟩
  | _, .bl b, _ => ⟨rfl, Nat.zero_le _⟩
  | _, .int i, _ => ⟨rfl, Nat.zero_le _⟩
  | _, .str x, h => by
    refine ⟨?_, Nat.zero_le _⟩
    simp only [okd, okStr] at h
    simpa only [toP, PyData.canLay0] using h
  | 0, .tup ds, h => by simp only [okd, Bool.false_eq_true] at h
  | n + 1, .tup ds, h => by
    simp only [okd] at h
    have := shps h
    exact ⟨by simpa only [toP, PyData.canLay0] using this.1, by simp only [toP, PyData.depth]; omega⟩
  | 0, .lst ds, h => by simp only [okd, Bool.false_eq_true] at h
  | n + 1, .lst ds, h => by
    simp only [okd] at h
    have := shps h
    exact ⟨by simpa only [toP, PyData.canLay0] using this.1, by simp only [toP, PyData.depth]; omega⟩
  | _, .scr ds, h => by simp only [okd, Bool.false_eq_true] at h
  | _, .dic ds, h => by simp only [okd, Bool.false_eq_true] at h
  | _, .hnd ds, h => by simp only [okd, Bool.false_eq_true] at h
  | _, .obj _ _, h => by simp only [okd, Bool.false_eq_true] at h
  | _, .lck _, h => by simp only [okd, Bool.false_eq_true] at h
theorem shps : ∀ {n : Nat} {ds : List D}, okds n ds = true → PyData.canLayAll0 (toPs ds) = true ∧ PyData.depthAll (toPs ds) ≤ n
  | _, [], _ => ⟨rfl, Nat.zero_le _⟩
  | n, d :: ds, h => by
    simp only [okds, Bool.and_eq_true] at h
    have h1 := shp h.1
    have h2 := shps h.2
    exact ⟨by simp only [toPs, PyData.canLayAll0, h1.1, h2.1]; rfl, by simp only [toPs, PyData.depthAll]; omega⟩
end
theorem shaped_of {n : Nat} {d : D} (h : okd n d = true) (hn : n ≤ 64) : SeqAt.shaped (toP d) = true := by
  have := shp h
  unfold SeqAt.shaped
  simp only [this.1, Bool.true_and, decide_eq_true_eq]
  omega
mutual
theorem dp_of {K : PySem.W.Frag} {w : Wd} : ∀ {n : Nat} {d : D} {v : V}, okd n d = true → Rep w v d → Dp K w.H v (toP d)
  | _, .non, _, _, r => by cases r; exact .non
  | _, .bl b, _, _, r => by cases r; exact .bl b
  | _, .int b, _, _, r => by cases r; exact .int b
  | _, .str b, _, _, r => by cases r; exact .str b
  | 0, .tup ds, _, h, r => by simp only [okd, Bool.false_eq_true] at h
  | n + 1, .tup ds, _, h, r => by
    cases r with
    | tup f e r =>
      simp only [okd] at h
      exact .tup e.sq (dps_of h r)
  | 0, .lst ds, _, h, r => by simp only [okd, Bool.false_eq_true] at h
  | n + 1, .lst ds, _, h, r => by
    cases r with
    | lst f e r =>
      simp only [okd] at h
      exact .lst (SqL.of e) (dps_of h r)
  | _, .scr ds, _, h, _ => by simp only [okd, Bool.false_eq_true] at h
  | _, .dic ds, _, h, _ => by simp only [okd, Bool.false_eq_true] at h
  | _, .hnd ds, _, h, _ => by simp only [okd, Bool.false_eq_true] at h
  | _, .obj _ _, _, h, _ => by simp only [okd, Bool.false_eq_true] at h
  | _, .lck _, _, h, _ => by simp only [okd, Bool.false_eq_true] at h
theorem dps_of {K : PySem.W.Frag} {w : Wd} : ∀ {n : Nat} {ds : List D} {vs : List V}, okds n ds = true → Reps w vs ds → DpAll K w.H vs (toPs ds)
  | _, [], _, _, .nil => .nil
  | n, d :: ds, _, h, .cons r t => by
    simp only [okds, Bool.and_eq_true] at h
    exact .cons (dp_of h.1 r) (dps_of h.2 t)
end
theorem dp_con {K : PySem.W.Frag} {w : Wd} : ∀ {n : Nat} {d : D} {v : V}, okd n d = true → Con w v d → Dp K w.H v (toP d)
  | _, .non, _, _, r => by cases r; exact .non
  | _, .bl b, _, _, r => by cases r; exact .bl b
  | _, .int b, _, _, r => by cases r; exact .int b
  | _, .str b, _, _, r => by obtain ⟨r, _⟩ := r; cases r; exact .str b
  | 0, .tup ds, _, h, r => by simp only [okd, Bool.false_eq_true] at h
  | n + 1, .tup ds, _, h, ⟨p, vs, e1, e, r⟩ => by
    subst e1
    simp only [okd] at h
    exact .tup e.sq (dps_of h r)
  | 0, .lst ds, _, h, r => by simp only [okd, Bool.false_eq_true] at h
  | n + 1, .lst ds, _, h, ⟨p, vs, e1, e, r⟩ => by
    subst e1
    simp only [okd] at h
    exact .lst (SqL.of e) (dps_of h r)
  | _, .scr ds, _, h, _ => by simp only [okd, Bool.false_eq_true] at h
  | _, .dic ds, _, h, _ => by simp only [okd, Bool.false_eq_true] at h
  | _, .hnd ds, _, h, _ => by simp only [okd, Bool.false_eq_true] at h
  | _, .obj _ _, _, h, _ => by simp only [okd, Bool.false_eq_true] at h
  | _, .lck _, _, h, _ => by simp only [okd, Bool.false_eq_true] at h

end Pv

set_option Elab.async false
set_option linter.all false
set_option maxRecDepth 100000
set_option maxHeartbeats 4000000
namespace Pv
open PySem L2

/-! ### flat things -/
theorem flat_of {w : Wd} {v : V} {d : D} (r : Rep w v d) (h : flatD d = true) : flatV v = true := by
  cases r <;> first | rfl | (cases h)
theorem flats_of {w : Wd} : ∀ {vs : List V} {ds : List D}, Reps w vs ds → ds.all flatD = true → vs.all flatV = true
  | _, _, .nil, _ => rfl
  | _, _, .cons r t, h => by
    rw [List.all_cons, Bool.and_eq_true] at h
    rw [List.all_cons, flat_of r h.1, flats_of t h.2]
    rfl
theorem eqV_of {w : Wd} {v u : V} {d e : D} (r : Rep w v d) (q : Rep w u e) (h : flatD d = true) (k : flatD e = true) : eqV v u = eqD d e := by
  cases r <;> first | (exfalso; exact Bool.noConfusion h) | skip
  all_goals cases q <;> first | (exfalso; exact Bool.noConfusion k) | rfl
theorem inV_of {w : Wd} {v : V} {d : D} (r : Rep w v d) (k : flatD d = true) : ∀ {vs : List V} {ds : List D}, Reps w vs ds → ds.all flatD = true → inV v vs = inD d ds
  | _, _, .nil, _ => rfl
  | _, _, .cons q t, h => by
    rw [List.all_cons, Bool.and_eq_true] at h
    have := inV_of r k t h.2
    unfold inV inD at this ⊢
    rw [List.any_cons, List.any_cons, eqV_of q r h.1 k, this]

/-! ### dicts -/
theorem keyOf_V {w : Wd} {v : V} {d : D} {k : Key} (r : Rep w v d) (h : keyOf d = some k) : v = kV k := by
  cases r <;> simp only [keyOf, reduceCtorEq, Option.some.injEq] at h <;> subst h <;> rfl
theorem look_of {w : Wd} (k : Key) : ∀ {kvs : List (Key × V)} {ks : List (Key × D)}, kvs.map (·.1) = ks.map (·.1) → Reps w (kvs.map (·.2)) (ks.map (·.2)) →
    (match lookK ks k with | some d => ∃ v, valV kvs k = some v ∧ Rep w v d | none => valV kvs k = none)
  | [], [], _, _ => rfl
  | (a, v) :: kvs, (b, d) :: ks, e, r => by
    rw [List.map_cons, List.map_cons] at e
    injection e with e1 e2
    have e1 : a = b := e1
    subst e1
    cases r with
    | cons r1 r2 =>
      have ih := look_of k e2 r2
      by_cases q : a = k
      · have h1 : lookK ((a, d) :: ks) k = some d := by unfold lookK; rw [List.find?_cons_of_pos (by simpa using q)]; rfl
        rw [h1]
        exact ⟨v, valV_pos q, r1⟩
      · have h1 : lookK ((a, d) :: ks) k = lookK ks k := by unfold lookK; rw [List.find?_cons_of_neg (by simpa using q)]
        rw [h1, valV_neg (p := (a, v)) q]
        exact ih

end Pv

set_option Elab.async false
set_option linter.all false
set_option maxRecDepth 100000
set_option maxHeartbeats 4000000
namespace Pv
open PySem L2

section
variable {T : Tb} {X : Cx} {g : Gx} {N : List Str} {sc : Scope} {pos : Pos}
/-- all that the comparisons do -/
def rCmp (g : Gx) (k : CK) : R2 := fun x y H Q => ∃ (w : Wd) (a b : D) (t : Bool), w.H = H ∧ Rep w x a ∧ Con w y b ∧ cmpD k a b = some t ∧ Q (.bl t) H
theorem Rep.is_non {w : Wd} {v : V} {d : D} (r : Rep w v d) : decide (v = V.non) = (match d with | .non => true | _ => false) := by
  cases r <;> rfl
theorem op_c_eq (h : Cok T X g N sc) : OpR X (compareOp .Eq) (rCmp g .eq) := by
  rintro pins s σ H x y v u Q I rx ry ⟨w, a, b, t, rfl, ra, cb, e, q⟩
  simp only [cmpD, Option.ite_none_right_eq_some, Bool.and_eq_true, Option.some.injEq] at e
  obtain ⟨⟨e1, e2⟩, rfl⟩ := e
  rw [eqD_eqv e1 e2] at q
  exact op_eqD h.hu64 pins s σ _ _ _ _ _ Q I rx ry ⟨_, _, dp_of e1 ra, dp_con e2 cb, shaped_of e1 (by decide), shaped_of e2 (by decide), q⟩
theorem op_c_ne (h : Cok T X g N sc) : OpR X (compareOp .NotEq) (rCmp g .ne) := by
  rintro pins s σ H x y v u Q I rx ry ⟨w, a, b, t, rfl, ra, cb, e, q⟩
  simp only [cmpD, Option.ite_none_right_eq_some, Bool.and_eq_true, Option.some.injEq] at e
  obtain ⟨⟨e1, e2⟩, rfl⟩ := e
  rw [eqD_eqv e1 e2] at q
  exact op_neD h.hu64 pins s σ _ _ _ _ _ Q I rx ry ⟨_, _, dp_of e1 ra, dp_con e2 cb, shaped_of e1 (by decide), shaped_of e2 (by decide), q⟩
theorem op_c_lt (h : Cok T X g N sc) : OpR X (compareOp .Lt) (rCmp g .lt) := by
  rintro pins s σ H x y v u Q I rx ry ⟨w, a, b, t, rfl, ra, cb, e, q⟩
  cases ra <;> cases b <;> simp only [cmpD, Option.some.injEq, reduceCtorEq] at e
  subst e; cases cb
  exact op_lt pins s σ _ _ _ _ _ Q I rx ry ⟨_, _, rfl, rfl, q⟩
theorem op_c_le (h : Cok T X g N sc) : OpR X (compareOp .LtE) (rCmp g .le) := by
  rintro pins s σ H x y v u Q I rx ry ⟨w, a, b, t, rfl, ra, cb, e, q⟩
  cases ra <;> cases b <;> simp only [cmpD, Option.some.injEq, reduceCtorEq] at e
  subst e; cases cb
  exact op_le pins s σ _ _ _ _ _ Q I rx ry ⟨_, _, rfl, rfl, q⟩
theorem op_c_gt (h : Cok T X g N sc) : OpR X (compareOp .Gt) (rCmp g .gt) := by
  rintro pins s σ H x y v u Q I rx ry ⟨w, a, b, t, rfl, ra, cb, e, q⟩
  cases ra <;> cases b <;> simp only [cmpD, Option.some.injEq, reduceCtorEq] at e
  subst e; cases cb
  exact op_gt pins s σ _ _ _ _ _ Q I rx ry ⟨_, _, rfl, rfl, q⟩
theorem op_c_ge (h : Cok T X g N sc) : OpR X (compareOp .GtE) (rCmp g .ge) := by
  rintro pins s σ H x y v u Q I rx ry ⟨w, a, b, t, rfl, ra, cb, e, q⟩
  cases ra <;> cases b <;> simp only [cmpD, Option.some.injEq, reduceCtorEq] at e
  subst e; cases cb
  exact op_ge pins s σ _ _ _ _ _ Q I rx ry ⟨_, _, rfl, rfl, q⟩
theorem inD_eqv {n m : Nat} {x : D} (hx : okd m x = true) : ∀ {ds : List D}, okds n ds = true → inD x ds = (toPs ds).any fun z => PyData.eqv z (toP x)
  | [], _ => rfl
  | d :: ds, k => by
    simp only [okds, Bool.and_eq_true] at k
    have ih := inD_eqv hx k.2
    unfold inD at ih ⊢
    rw [List.any_cons, ih, eqD_eqv k.1 hx]
    simp only [toPs, List.any_cons]
theorem nest_room {k : Nat} {A : Around} (r : Room k A) {a b : Nat} (h : b ≤ 59) : A.units + 1 + min a b < cLine := by
  have := r.un
  omega
theorem op_c_isin (h : Cok T X g N sc) : OpR X (compareOp .In) (rCmp g .isin) := by
  rintro pins s σ H x y v u Q I rx ry ⟨w, a, b, t, rfl, ra, cb, e, q⟩
  simp only [cmpD] at e
  cases b <;> simp only [isinD, reduceCtorEq] at e
  · simp only [Option.ite_none_right_eq_some, Bool.and_eq_true, Bool.or_eq_true, Option.some.injEq] at e
    obtain ⟨e12, rfl⟩ := e
    obtain ⟨p, vs, rfl, hp, r⟩ := cb
    rcases e12 with ⟨e1, e2⟩ | ⟨e1, e2⟩
    · refine op_in_seq pins s σ _ _ _ _ _ Q I rx ry ⟨p, vs, rfl, .inr (hp.sq), flat_of ra e1, flats_of r e2, ?_⟩
      rw [inV_of ra e1 r e2]; exact q
    · rw [inD_eqv e1 e2] at q
      obtain ⟨as, r1⟩ := Dp.reads I (toP a) x v (dp_of e1 ra) rx
      obtain ⟨bs, r2⟩ := Dp.reads I (.tuple (toPs _)) _ u (.tup (hp.sq) (dps_of e2 r)) ry
      exact SeqAt.in_tuple_reads r2 r1 (shps e2).1 (shp e1).1 (nest_room h.room (shp e1).2) ⟨.bl _, _, I, rfl, q⟩
  · simp only [Option.ite_none_right_eq_some, Bool.and_eq_true, Bool.or_eq_true, Option.some.injEq] at e
    obtain ⟨e12, rfl⟩ := e
    obtain ⟨p, vs, rfl, hp, r⟩ := cb
    rcases e12 with ⟨e1, e2⟩ | ⟨e1, e2⟩
    · refine op_in_seq pins s σ _ _ _ _ _ Q I rx ry ⟨p, vs, rfl, .inl (SqL.of hp), flat_of ra e1, flats_of r e2, ?_⟩
      rw [inV_of ra e1 r e2]; exact q
    · rw [inD_eqv e1 e2] at q
      obtain ⟨as, r1⟩ := Dp.reads I (toP a) x v (dp_of e1 ra) rx
      obtain ⟨bs, r2⟩ := Dp.reads I (.list (toPs _)) _ u (.lst (SqL.of hp) (dps_of e2 r)) ry
      exact SeqAt.in_list_reads r2 r1 (shps e2).1 (shp e1).1 (nest_room h.room (shp e1).2) ⟨.bl _, _, I, rfl, q⟩
  · split at e
    · rename_i kvs _ key hk
      cases e
      obtain ⟨p, kvs', rfl, hp, e1, e2⟩ := cb
      cases ry
      have ex := keyOf_V ra hk
      subst ex
      refine d_in h.hu I (DGet.k (k := key) hp) rx fun s' I' => ⟨.bl (valV kvs' key).isSome, _, I', rfl, ?_⟩
      have := look_of key e1 e2
      cases q' : lookK kvs key with
      | none => rw [q'] at this q; rw [this]; exact q
      | some d =>
        rw [q'] at this q
        obtain ⟨v', hv, _⟩ := this
        rw [hv]; exact q
    · cases e
theorem op_c_notin (h : Cok T X g N sc) : OpR X (compareOp .NotIn) (rCmp g .notin) := by
  rintro pins s σ H x y v u Q I rx ry ⟨w, a, b, t, rfl, ra, cb, e, q⟩
  simp only [cmpD, Option.map_eq_some_iff] at e
  obtain ⟨t', e, rfl⟩ := e
  cases b <;> simp only [isinD, reduceCtorEq] at e
  · simp only [Option.ite_none_right_eq_some, Bool.and_eq_true, Bool.or_eq_true, Option.some.injEq] at e
    obtain ⟨e12, rfl⟩ := e
    obtain ⟨p, vs, rfl, hp, r⟩ := cb
    rcases e12 with ⟨e1, e2⟩ | ⟨e1, e2⟩
    · refine op_notIn_seq pins s σ _ _ _ _ _ Q I rx ry ⟨p, vs, rfl, .inr (hp.sq), flat_of ra e1, flats_of r e2, ?_⟩
      rw [inV_of ra e1 r e2]; exact q
    · rw [inD_eqv e1 e2] at q
      obtain ⟨as, r1⟩ := Dp.reads I (toP a) x v (dp_of e1 ra) rx
      obtain ⟨bs, r2⟩ := Dp.reads I (.tuple (toPs _)) _ u (.tup (hp.sq) (dps_of e2 r)) ry
      exact SeqAt.notIn_tuple_reads r2 r1 (shps e2).1 (shp e1).1 (nest_room h.room (shp e1).2) ⟨.bl _, _, I, rfl, q⟩
  · simp only [Option.ite_none_right_eq_some, Bool.and_eq_true, Bool.or_eq_true, Option.some.injEq] at e
    obtain ⟨e12, rfl⟩ := e
    obtain ⟨p, vs, rfl, hp, r⟩ := cb
    rcases e12 with ⟨e1, e2⟩ | ⟨e1, e2⟩
    · refine op_notIn_seq pins s σ _ _ _ _ _ Q I rx ry ⟨p, vs, rfl, .inl (SqL.of hp), flat_of ra e1, flats_of r e2, ?_⟩
      rw [inV_of ra e1 r e2]; exact q
    · rw [inD_eqv e1 e2] at q
      obtain ⟨as, r1⟩ := Dp.reads I (toP a) x v (dp_of e1 ra) rx
      obtain ⟨bs, r2⟩ := Dp.reads I (.list (toPs _)) _ u (.lst (SqL.of hp) (dps_of e2 r)) ry
      exact SeqAt.notIn_list_reads r2 r1 (shps e2).1 (shp e1).1 (nest_room h.room (shp e1).2) ⟨.bl _, _, I, rfl, q⟩
  · split at e
    · rename_i kvs _ key hk
      cases e
      obtain ⟨p, kvs', rfl, hp, e1, e2⟩ := cb
      cases ry
      have ex := keyOf_V ra hk
      subst ex
      refine d_notIn h.hu I (DGet.k (k := key) hp) rx fun s' I' => ⟨.bl (!(valV kvs' key).isSome), _, I', rfl, ?_⟩
      have := look_of key e1 e2
      cases q' : lookK kvs key with
      | none => rw [q'] at this q; rw [this]; exact q
      | some d =>
        rw [q'] at this q
        obtain ⟨v', hv, _⟩ := this
        rw [hv]; exact q
    · cases e
theorem op_c_is (h : Cok T X g N sc) : OpR X (compareOp .Is) (rCmp g .is) := by
  rintro pins s σ H x y v u Q I rx ry ⟨w, a, b, t, rfl, ra, cb, e, q⟩
  simp only [cmpD] at e
  cases b <;> simp only [isD, reduceCtorEq] at e
  · cases cb
    refine op_isN pins s σ _ _ _ _ _ Q I rx ry ⟨rfl, ?_⟩
    rw [ra.is_non]
    cases ra <;> simp only [Option.some.injEq, reduceCtorEq] at e <;> subst e <;> exact q
  · cases cb
    cases ra <;> simp only [Option.some.injEq, reduceCtorEq] at e
    subst e
    exact op_isBl pins s σ _ _ _ _ _ Q I rx ry ⟨_, _, rfl, rfl, q⟩
theorem op_c_isnot (h : Cok T X g N sc) : OpR X (compareOp .IsNot) (rCmp g .isnot) := by
  rintro pins s σ H x y v u Q I rx ry ⟨w, a, b, t, rfl, ra, cb, e, q⟩
  simp only [cmpD, Option.map_eq_some_iff] at e
  obtain ⟨t', e, rfl⟩ := e
  cases b <;> simp only [isD, reduceCtorEq] at e
  · cases cb
    refine op_notN pins s σ _ _ _ _ _ Q I rx ry ⟨rfl, ?_⟩
    rw [ra.is_non]
    cases ra <;> simp only [Option.some.injEq, reduceCtorEq] at e <;> subst e <;> exact q
  · cases cb
    cases ra <;> simp only [Option.some.injEq, reduceCtorEq] at e
    subst e
    exact op_notBl pins s σ _ _ _ _ _ Q I rx ry ⟨_, _, rfl, rfl, q⟩
theorem op_cmp (h : Cok T X g N sc) {k : CK} {op : CmpOp} (c : cpB k op = true) : OpR X (compareOp op) (rCmp g k) := by
  cases k <;> cases op <;> first | (exfalso; exact Bool.noConfusion c) | skip
  · exact op_c_eq h
  · exact op_c_ne h
  · exact op_c_lt h
  · exact op_c_le h
  · exact op_c_gt h
  · exact op_c_ge h
  · exact op_c_isin h
  · exact op_c_notin h
  · exact op_c_is h
  · exact op_c_isnot h
end
end Pv

set_option Elab.async false
set_option linter.all false
set_option maxRecDepth 100000
set_option maxHeartbeats 4000000
namespace Pv
open PySem L2

theorem dr_of {M : Store} {d : D} (h : ∀ n, d ≠ .hnd n) : dr M d = d := by
  cases d <;> first | rfl | exact absurd rfl (h _)
theorem cmp_hnd {k : CK} {x : D} {n : Nat} : cmpD k x (.hnd n) = none := by
  cases k <;> first | rfl | (cases x <;> rfl) | (simp only [cmpD, okd, Bool.and_false]; rfl)
theorem con_dr {g : Gx} {ρ : Rho} {σ : St} {M : Store} {k : RK} {w w' : Wd} {v : V} {d : D} (s : Sr g.w0 ρ M w' σ) (r : rl g ρ σ k w w' v d) (h : ∀ n, d ≠ .hnd n) : Con w' v d := by
  have := s.con r
  rwa [dr_of h] at this
theorem not_hnd {α : Type} {f : D → Option α} {d : D} {a : α} (e : f d = some a) (h : ∀ n, f (.hnd n) = none) : ∀ n, d ≠ .hnd n := by
  rintro n rfl
  rw [h n] at e; cases e

def nset : Expr → Bool
  | .Set .. => false
  | _ => true
theorem nset_ok {op : CmpOp} {e : Expr} (h : nset e = true) : behindInMarks op e = false := by
  cases e <;> first | rfl | cases h
def plainT : Expr → Bool
  | .UnaryOp .Not _ _ => false
  | .BoolOp .. => false
  | .IfExp .. => false
  | .Compare .. => false
  | _ => true
theorem plainT_ok {e : Expr} {env : PySem.Env} (h : plainT e = true) : ∀ whole, isTrue e env whole = (do let v ← whole; standAt e.pos; holding [v] (truthy v)) := by
  intro whole
  cases e <;> first | rfl | (cases h; done) | skip
  rename_i op a pos
  cases op <;> first | rfl | (cases h; done)

section
variable {T : Tb} {X : Cx} {g : Gx} {N : List Str} {sc : Scope} {pos : Pos} {a b c : Expr} {fa fb fc : Rho → Store → Res D}
theorem GE.cmp {k : CK} {kb : RK} {σ : St} {H : Hp} {Q : VK} (q : GE g .rep (fun ρ M => (fa ρ M).bind fun x M => (fb ρ M).bind fun y M => Pv.opt ((cmpD k x (dr M y)).map .bl) M) σ H Q) :
    tOp (rCmp g k) (GE g .rep fa) (GE g kb fb) σ H Q := by
  have t := GE.two (ka := .rep) (kb := kb) (rel := fun ρ σ => rl g ρ σ .rep) (F := fun ρ x y M => Pv.opt ((cmpD k x (dr M y)).map .bl) M) (fun z => nomatch z) (anti_rl (k := .rep) (σ := σ)) q
  obtain ⟨ρ, M, w, e, s, a⟩ := t
  refine ⟨ρ, M, w, e, s, a.mono ?_⟩
  rintro v H1 ⟨ρ1, M1, w1, e1, s1, a1⟩
  refine ⟨ρ1, M1, w1, e1, s1, a1.mono ?_⟩
  rintro u H2 ⟨ρ2, M2, w2, _, _, x, y, e2, s2, rx, ry, a2⟩
  obtain ⟨d, ed, a3⟩ := a2.optE
  obtain ⟨t, et, rfl⟩ := Option.map_eq_some_iff.mp ed
  subst e2
  exact ⟨w2, x, dr M2 y, t, rfl, rx, s2.con ry, et, a3.fin s2 (.bl t)⟩
theorem GT.cmp {k : CK} {kb : RK} {σ : St} {H : Hp} {Q : Bool → Hp → Prop} (q : GT g (fun ρ M => (fa ρ M).bind fun x M => (fb ρ M).bind fun y M => Pv.opt (cmpD k x (dr M y)) M) σ H Q) :
    tTest (tOp (rCmp g k) (GE g .rep fa) (GE g kb fb)) σ H Q := by
  have t := GE.two (ka := .rep) (kb := kb) (rel := fun ρ σ _ _ b d => b = d) (F := fun ρ x y M => Pv.opt (cmpD k x (dr M y)) M) (fun z => nomatch z) anti_b q
  obtain ⟨ρ, M, w, e, s, a⟩ := t
  refine ⟨ρ, M, w, e, s, a.mono ?_⟩
  rintro v H1 ⟨ρ1, M1, w1, e1, s1, a1⟩
  refine ⟨ρ1, M1, w1, e1, s1, a1.mono ?_⟩
  rintro u H2 ⟨ρ2, M2, w2, _, _, x, y, e2, s2, rx, ry, a2⟩
  obtain ⟨t, et, a3⟩ := Aft.opt a2
  subst e2
  exact ⟨w2, x, dr M2 y, t, rfl, rx, s2.con ry, et, t, rfl, a3.fin s2 rfl⟩
theorem s_cmp (h : Cok T X g N sc) {k : CK} {kb : RK} {op : CmpOp} (cc : cpB k op = true) (hb' : nset b = true) (ha : PE X a (GE g .rep fa)) (hb : PE X b (GE g kb fb)) :
    PE X (.Compare a [op] [b] pos) (GE g .rep fun ρ M => (fa ρ M).bind fun x M => (fb ρ M).bind fun y M => Pv.opt ((cmpD k x (dr M y)).map .bl) M) :=
  PE.imp (pe_cmpR (op_cmp h cc) ha hb (nset_ok hb')) fun _ _ _ q => GE.cmp q
theorem t_cmp (h : Cok T X g N sc) {k : CK} {kb : RK} {op : CmpOp} (cc : cpB k op = true) (hb' : nset b = true) (ha : PE X a (GE g .rep fa)) (hb : PE X b (GE g kb fb)) :
    PT X (.Compare a [op] [b] pos) (GT g fun ρ M => (fa ρ M).bind fun x M => (fb ρ M).bind fun y M => Pv.opt (cmpD k x (dr M y)) M) :=
  PT.imp (pt_cmpR (op_cmp h cc) ha hb (nset_ok hb')) fun _ _ _ q => GT.cmp q
/-! a op b op c -/
theorem lastM {op op' : CmpOp} (hc' : nset c = true) : lastMarks [op, op'] [b, c] = false := by
  show behindInMarks op' c = false
  exact nset_ok hc'
theorem chain_of {α β : Type} {rel : Rho → St → Wd → Wd → β → α → Prop} {k l : CK} {mk : Bool → Store → Res α} {σ : St} {H : Hp} {Q : β → Hp → Prop} {Q' : V → Hp → Prop}
    (anti : ∀ ρ w w1, Ext w w1 → ∀ w' v d, rel ρ σ w1 w' v d → rel ρ σ w w' v d)
    (hmk : ∀ t M, mk t M = .fail ∨ True)
    (fin : ∀ (ρ : Rho) (M : Store) (w : Wd) (t : Bool), Sr g.w0 ρ M w σ → Aft g (rel ρ σ) w ρ σ Q (mk t M) → Q' (.bl t) w.H)
    (q : ∃ ρ M w, w.H = H ∧ Sr g.w0 ρ M w σ ∧ Aft g (rel ρ σ) w ρ σ Q ((fa ρ M).bind fun x M => (fb ρ M).bind fun y M => (Pv.opt (cmpD k x (dr M y)) M).bind fun t M =>
      match t with
      | true => (fc ρ M).bind fun z M => (Pv.opt (cmpD l y (dr M z)) M).bind mk
      | false => mk false M)) : tChain (rCmp g k) (rCmp g l) (GE g .rep fa) (GE g .rep fb) (GE g .rep fc) σ H Q' := by
  have t := GE.two (ka := .rep) (kb := .rep) (F := fun ρ x y M => (Pv.opt (cmpD k x (dr M y)) M).bind fun t M =>
      match t with
      | true => (fc ρ M).bind fun z M => (Pv.opt (cmpD l y (dr M z)) M).bind mk
      | false => mk false M) (fun z => nomatch z) anti q
  obtain ⟨ρ, M, w, e, s, a⟩ := t
  refine ⟨ρ, M, w, e, s, a.mono ?_⟩
  rintro v H1 ⟨ρ1, M1, w1, e1, s1, a1⟩
  refine ⟨ρ1, M1, w1, e1, s1, a1.mono ?_⟩
  rintro u H2 ⟨ρ2, M2, w2, _, _, x, y, e2, s2, rx, ry, a2⟩
  cases et : cmpD k x (dr M2 y) with
  | none => rw [et] at a2; exact a2.elim
  | some t =>
    rw [et] at a2
    subst e2
    refine ⟨w2, x, dr M2 y, t, rfl, rx, s2.con ry, et, t, rfl, ?_⟩
    cases t with
    | false => exact fin ρ2 M2 w2 false s2 a2
    | true =>
      refine ⟨ρ2, M2, w2, rfl, s2, ?_⟩
      have a2 : Aft g (rel ρ2 σ) w2 ρ2 σ Q ((fc ρ2 M2).bind fun z M => (Pv.opt (cmpD l y (dr M z)) M).bind mk) := a2
      refine Aft.mono (Aft.bind (rel := rl g ρ2 σ .rep) a2 fun w1 ex => anti ρ2 w2 w1 ex) ?_
      rintro v3 H3 ⟨z, M3, w3, e3, ex3, s3, r3, a3⟩
      subst e3
      cases ez : cmpD l y (dr M3 z) with
      | none => rw [ez] at a3; exact a3.elim
      | some t3 =>
        rw [ez] at a3
        exact ⟨w3, y, dr M3 z, t3, rfl, Rep.mono (ex3.wle s2.wf) ry, s3.con (k := .rep) r3, ez, fin ρ2 M3 w3 t3 s3 a3⟩
theorem s_cmp2 (h : Cok T X g N sc) {k l : CK} {op op' : CmpOp} (c1 : cpB k op = true) (c2 : cpB l op' = true) (hc' : nset c = true) (ha : PE X a (GE g .rep fa)) (hb : PE X b (GE g .rep fb)) (hc : PE X c (GE g .rep fc)) :
    PE X (.Compare a [op, op'] [b, c] pos) (GE g .rep fun ρ M => (fa ρ M).bind fun x M => (fb ρ M).bind fun y M => (Pv.opt (cmpD k x (dr M y)) M).bind fun t M =>
      match t with
      | true => (fc ρ M).bind fun z M => Pv.opt ((cmpD l y (dr M z)).map .bl) M
      | false => .ok (.bl false) M) := by
  refine PE.imp (pe_chain (op_cmp h c1) (op_cmp h c2) ha hb hc (lastM hc')) fun σ H Q q => ?_
  refine chain_of (rel := fun ρ σ => rl g ρ σ .rep) (mk := fun t M => .ok (.bl t) M) anti_rl (fun _ _ => .inr trivial) (fun ρ M w t s a => a.fin s (.bl t)) ?_
  have e : ∀ (o : Option Bool) (M : Store), (Pv.opt o M).bind (fun t M => Res.ok (D.bl t) M) = Pv.opt (o.map .bl) M := fun o M => by cases o <;> rfl
  simp only [e]
  exact q
theorem t_cmp2 (h : Cok T X g N sc) {k l : CK} {op op' : CmpOp} (c1 : cpB k op = true) (c2 : cpB l op' = true) (hc' : nset c = true) (ha : PE X a (GE g .rep fa)) (hb : PE X b (GE g .rep fb)) (hc : PE X c (GE g .rep fc)) :
    PT X (.Compare a [op, op'] [b, c] pos) (GT g fun ρ M => (fa ρ M).bind fun x M => (fb ρ M).bind fun y M => (Pv.opt (cmpD k x (dr M y)) M).bind fun t M =>
      match t with
      | true => (fc ρ M).bind fun z M => Pv.opt (cmpD l y (dr M z)) M
      | false => .ok false M) := by
  refine PT.imp (pt_chain (op_cmp h c1) (op_cmp h c2) ha hb hc (lastM hc')) fun σ H Q q => ?_
  refine chain_of (rel := fun ρ σ _ _ b d => b = d) (mk := fun t M => .ok t M) anti_b (fun _ _ => .inr trivial) (fun ρ M w t s a => ⟨t, rfl, a.fin s rfl⟩) ?_
  have e : ∀ (o : Option Bool) (M : Store), (Pv.opt o M).bind (fun t M => Res.ok t M) = Pv.opt o M := fun o M => by cases o <;> rfl
  simp only [e]
  exact q

/-! ### truth -/
theorem Reps.isEmpty {w : Wd} : ∀ {vs : List V} {ds : List D}, Reps w vs ds → vs.isEmpty = ds.isEmpty
  | _, _, .nil => rfl
  | _, _, .cons _ _ => rfl
theorem tru_of {K : PySem.W.Frag} {w : Wd} {v : V} {d : D} {t : Bool} (hK : w.K = K) (c : Con w v d) (e : truD d = some t) : TruV K v w.H t := by
  cases d <;> simp only [truD, Option.some.injEq, reduceCtorEq] at e
  · cases c; exact e.symm
  · cases c; exact e.symm
  · cases c; exact e.symm
  · rename_i x
    obtain ⟨rfl, c⟩ := c; exact ⟨c, e.symm⟩
  · obtain ⟨p, vs, rfl, hp, r⟩ := c
    exact .inr (.inl ⟨vs, hp.sq, by rw [r.isEmpty]; exact e.symm⟩)
  · obtain ⟨p, vs, rfl, hp, r⟩ := c
    exact .inl ⟨vs, SqL.of hp, by rw [r.isEmpty]; exact e.symm⟩
  · obtain ⟨p, vs, rfl, hp, r⟩ := c
    exact .inl ⟨vs, by rw [← hK]; exact hp, by rw [r.isEmpty]; exact e.symm⟩
  · obtain ⟨p, kvs, rfl, hp, e1, r⟩ := c
    refine .inr (.inr ⟨kvs, hp, ?_⟩)
    have := congrArg List.isEmpty e1
    simp only [List.isEmpty_map] at this
    rw [this]; exact e.symm
end
end Pv

set_option Elab.async false
set_option linter.all false
set_option maxRecDepth 100000
set_option maxHeartbeats 4000000
namespace Pv
open PySem L2

section
variable {T : Tb} {X : Cx} {g : Gx} {N : List Str} {sc : Scope} {pos : Pos} {a b c : Expr} {fa fb fc : Rho → Store → Res D}
/-- one operand, an end by cases -/
theorem ge_one {α β : Type} {rel : Rho → St → Wd → Wd → β → α → Prop} {ka : RK} {F : Rho → D → Store → Res α} {σ : St} {H : Hp} {Q : β → Hp → Prop} {Q' : V → Hp → Prop}
    (anti : ∀ ρ w w1, Ext w w1 → ∀ w' v d, rel ρ σ w1 w' v d → rel ρ σ w w' v d)
    (fin : ∀ (ρ : Rho) (M : Store) (w w0 : Wd) (v : V) (x : D), Sr g.w0 ρ M w σ → Ext w0 w → rl g ρ σ ka w0 w v x → Aft g (rel ρ σ) w ρ σ Q (F ρ x M) → Q' v w.H)
    (h : ∃ ρ M w, w.H = H ∧ Sr g.w0 ρ M w σ ∧ Aft g (rel ρ σ) w ρ σ Q ((fa ρ M).bind fun x M => F ρ x M)) : GE g ka fa σ H Q' := by
  obtain ⟨ρ, M, w, e, s, a⟩ := GE.one (ka := ka) anti h
  refine ⟨ρ, M, w, e, s, a.mono ?_⟩
  rintro v H1 ⟨ρ1, M1, w1, w0, x, e1, s1, ex, r1, a1⟩
  subst e1
  exact fin ρ1 M1 w1 w0 v x s1 ex r1 a1
theorem ge_two {α β : Type} {rel : Rho → St → Wd → Wd → β → α → Prop} {ka kb : RK} {F : Rho → D → D → Store → Res α} {σ : St} {H : Hp} {Q : β → Hp → Prop} {Q' : V → V → Hp → Prop} (hk : ka ≠ .frs)
    (anti : ∀ ρ w w1, Ext w w1 → ∀ w' v d, rel ρ σ w1 w' v d → rel ρ σ w w' v d)
    (fin : ∀ (ρ : Rho) (M : Store) (w w0 w1 : Wd) (v u : V) (x y : D), Sr g.w0 ρ M w σ → rl g ρ σ ka w0 w v x → rl g ρ σ kb w1 w u y → Aft g (rel ρ σ) w ρ σ Q (F ρ x y M) → Q' v u w.H)
    (h : ∃ ρ M w, w.H = H ∧ Sr g.w0 ρ M w σ ∧ Aft g (rel ρ σ) w ρ σ Q ((fa ρ M).bind fun x M => (fb ρ M).bind fun y M => F ρ x y M)) : GE g ka fa σ H (fun v H1 => GE g kb fb σ H1 (fun u H2 => Q' v u H2)) := by
  obtain ⟨ρ, M, w, e, s, a⟩ := GE.two (ka := ka) (kb := kb) hk anti h
  refine ⟨ρ, M, w, e, s, a.mono ?_⟩
  rintro v H1 ⟨ρ1, M1, w1, e1, s1, a1⟩
  refine ⟨ρ1, M1, w1, e1, s1, a1.mono ?_⟩
  rintro u H2 ⟨ρ2, M2, w2, _, _, x, y, e2, s2, rx, ry, a2⟩
  subst e2
  exact fin ρ2 M2 w2 _ _ v u x y s2 rx ry a2

/-! ### tests -/
theorem tru_dr (hK : g.w0.K = X.K) {M : Store} {k : RK} {ρ : Rho} {σ : St} {w w' : Wd} {v : V} {d : D} {t : Bool} (s : Sr g.w0 ρ M w' σ) (r : rl g ρ σ k w w' v d) (e : truD (dr M d) = some t) : TruV X.K v w'.H t := tru_of (s.e0.K.trans hK) (s.con r) e
/-- the truth of a value -/
theorem t_truth (hK : g.w0.K = X.K) (hp : plainT a = true) {ka : RK} (ha : PE X a (GE g ka fa)) : PT X a (GT g fun ρ M => truR (fa ρ M)) := by
  refine PT.imp (pt_truth ha (plainT_ok hp)) fun σ H Q q => ?_
  refine ge_one (ka := ka) (rel := fun ρ σ _ _ b d => b = d) (F := fun ρ x M => Pv.opt (truD (dr M x)) M) anti_b ?_ q
  intro ρ M w w0 v x s ex r af
  obtain ⟨t, et, a2⟩ := Aft.opt af
  exact ⟨t, tru_dr hK s r et, a2.fin s rfl⟩
theorem GT.bind {ft : Rho → Store → Res Bool} {F : Rho → Bool → Store → Res Bool} {σ : St} {H : Hp} {Q : Bool → Hp → Prop} (q : GT g (fun ρ M => (ft ρ M).bind fun t M => F ρ t M) σ H Q) :
    GT g ft σ H fun t H1 => GT g (fun ρ M => F ρ t M) σ H1 Q := by
  obtain ⟨ρ, M, w, e, s, a⟩ := q
  refine ⟨ρ, M, w, e, s, Aft.mono (Aft.bind a fun w1 ex => anti_b ρ w w1 ex) ?_⟩
  rintro t H1 ⟨d, M1, w1, e1, ex1, s1, rfl, a1⟩
  exact ⟨ρ, M1, w1, e1, s1, a1⟩
theorem GT.ok {t : Bool} {σ : St} {H : Hp} {Q : Bool → Hp → Prop} (q : GT g (fun ρ M => .ok t M) σ H Q) : Q t H := by
  obtain ⟨ρ, M, w, e, s, a⟩ := q
  subst e
  exact a.fin s rfl
theorem t_not {ft : Rho → Store → Res Bool} (ha : PT X a (GT g ft)) : PT X (.UnaryOp .Not a pos) (GT g fun ρ M => (ft ρ M).bind fun b M => .ok (!b) M) := by
  refine PT.imp (pt_not ha) fun σ H Q q => ?_
  obtain ⟨ρ, M, w, e, s, a⟩ := GT.bind q
  exact ⟨ρ, M, w, e, s, a.mono fun t H1 h => GT.ok h⟩
theorem s_not (hK : g.w0.K = X.K) {ka : RK} (ha : PE X a (GE g ka fa)) : PE X (.UnaryOp .Not a pos) (GE g .rep fun ρ M => (truR (fa ρ M)).bind fun b M => .ok (.bl (!b)) M) := by
  refine PE.imp (pe_notT ha) fun σ H Q q => ?_
  refine ge_one (ka := ka) (Q := Q) (rel := fun ρ σ => rl g ρ σ .rep) (F := fun ρ x M => (Pv.opt (truD (dr M x)) M).bind fun b M => .ok (.bl (!b)) M) anti_rl ?_ ?_
  · intro ρ M w w0 v x s ex r af
    cases et : truD (dr M x) with
    | none => rw [et] at af; exact af.elim
    | some t =>
      rw [et] at af
      exact ⟨t, tru_dr hK s r et, Aft.fin (rel := rl g ρ σ .rep) af s (Rep.bl (!t))⟩
  · obtain ⟨ρ, M, w, e, s, a⟩ := q
    refine ⟨ρ, M, w, e, s, ?_⟩
    have e2 : ((truR (fa ρ M)).bind fun b M => Res.ok (D.bl (!b)) M) = ((fa ρ M).bind fun x M => (Pv.opt (truD (dr M x)) M).bind fun b M => Res.ok (D.bl (!b)) M) := by
      unfold truR
      cases fa ρ M <;> rfl
    rw [← e2]; exact a
/-- and, or over tests -/
def ResB (r : Res Bool) (k : Bool) (f : Store → Res Bool) : Res Bool := r.bind fun b M => if b = k then f M else .ok b M
theorem w_and1 {ft : Rho → Store → Res Bool} (ha : PT X a (GT g ft)) : PW X (.BoolOp .And [a] pos) (GT g fun ρ M => (ft ρ M).bind fun b M => match b with | true => .ok true M | false => .ok false M) := by
  refine ⟨fun whole pins s σ H Q I h => (pw_and1 ha).run whole pins s σ H Q I ?_⟩
  obtain ⟨ρ, M, w, e, s, a⟩ := h
  refine ⟨ρ, M, w, e, s, ?_⟩
  have e2 : ((ft ρ M).bind fun b M => match b with | true => Res.ok true M | false => Res.ok false M) = ft ρ M := by
    cases ft ρ M with
    | ok b M => cases b <;> rfl
    | _ => rfl
  rw [← e2]; exact a
theorem w_or1 {ft : Rho → Store → Res Bool} (ha : PT X a (GT g ft)) : PW X (.BoolOp .Or [a] pos) (GT g fun ρ M => (ft ρ M).bind fun b M => match b with | true => .ok true M | false => .ok false M) := by
  refine ⟨fun whole pins s σ H Q I h => (pw_or1 ha).run whole pins s σ H Q I ?_⟩
  obtain ⟨ρ, M, w, e, s, a⟩ := h
  refine ⟨ρ, M, w, e, s, ?_⟩
  have e2 : ((ft ρ M).bind fun b M => match b with | true => Res.ok true M | false => Res.ok false M) = ft ρ M := by
    cases ft ρ M with
    | ok b M => cases b <;> rfl
    | _ => rfl
  rw [← e2]; exact a
theorem w_and {ft fr : Rho → Store → Res Bool} {rest : List Expr} (ha : PT X a (GT g ft)) (hb : PW X (.BoolOp .And (b :: rest) pos) (GT g fr)) :
    PW X (.BoolOp .And (a :: b :: rest) pos) (GT g fun ρ M => (ft ρ M).bind fun t M => match t with | true => fr ρ M | false => .ok false M) := by
  refine ⟨fun whole pins s σ H Q I h => (pw_and ha hb).run whole pins s σ H Q I ?_⟩
  obtain ⟨ρ, M, w, e, s, a⟩ := GT.bind h
  refine ⟨ρ, M, w, e, s, a.mono fun t H1 h => ?_⟩
  cases t with
  | true => rw [if_pos rfl]; exact h
  | false => rw [if_neg (by decide)]; exact GT.ok h
theorem w_or {ft fr : Rho → Store → Res Bool} {rest : List Expr} (ha : PT X a (GT g ft)) (hb : PW X (.BoolOp .Or (b :: rest) pos) (GT g fr)) :
    PW X (.BoolOp .Or (a :: b :: rest) pos) (GT g fun ρ M => (ft ρ M).bind fun t M => match t with | true => .ok true M | false => fr ρ M) := by
  refine ⟨fun whole pins s σ H Q I h => (pw_or ha hb).run whole pins s σ H Q I ?_⟩
  obtain ⟨ρ, M, w, e, s, a⟩ := GT.bind h
  refine ⟨ρ, M, w, e, s, a.mono fun t H1 h => ?_⟩
  cases t with
  | true => rw [if_pos rfl]; exact GT.ok h
  | false => rw [if_neg (by decide)]; exact h
/-- and, or over values -/
theorem v_and (hK : g.w0.K = X.K) {fr : Rho → Store → Res D} {rest : List Expr} (ha : PE X a (GE g .rep fa)) (hb : PE X (.BoolOp .And (b :: rest) pos) (GE g .rep fr)) :
    PE X (.BoolOp .And (a :: b :: rest) pos) (GE g .rep fun ρ M => (fa ρ M).bind fun d M => (Pv.opt (truD (dr M d)) M).bind fun t M => match t with | true => fr ρ M | false => .ok d M) := by
  refine PE.imp (pe_andT ha hb) fun σ H Q q => ?_
  refine ge_one (ka := .rep) (rel := fun ρ σ => rl g ρ σ .rep) (F := fun ρ d M => (Pv.opt (truD (dr M d)) M).bind fun t M => match t with | true => fr ρ M | false => .ok d M) anti_rl ?_ q
  intro ρ M w w0 v x s ex r af
  cases et : truD (dr M x) with
  | none => rw [et] at af; exact af.elim
  | some t =>
    rw [et] at af
    refine ⟨t, tru_dr hK s r et, ?_⟩
    cases t with
    | true => rw [if_pos rfl]; exact ⟨ρ, M, w, rfl, s, af⟩
    | false => rw [if_neg (by decide)]; exact Aft.fin (rel := rl g ρ σ .rep) af s r
theorem v_or (hK : g.w0.K = X.K) {fr : Rho → Store → Res D} {rest : List Expr} (ha : PE X a (GE g .rep fa)) (hb : PE X (.BoolOp .Or (b :: rest) pos) (GE g .rep fr)) :
    PE X (.BoolOp .Or (a :: b :: rest) pos) (GE g .rep fun ρ M => (fa ρ M).bind fun d M => (Pv.opt (truD (dr M d)) M).bind fun t M => match t with | true => .ok d M | false => fr ρ M) := by
  refine PE.imp (pe_orT ha hb) fun σ H Q q => ?_
  refine ge_one (ka := .rep) (rel := fun ρ σ => rl g ρ σ .rep) (F := fun ρ d M => (Pv.opt (truD (dr M d)) M).bind fun t M => match t with | true => .ok d M | false => fr ρ M) anti_rl ?_ q
  intro ρ M w w0 v x s ex r af
  cases et : truD (dr M x) with
  | none => rw [et] at af; exact af.elim
  | some t =>
    rw [et] at af
    refine ⟨t, tru_dr hK s r et, ?_⟩
    cases t with
    | true => rw [if_pos rfl]; exact Aft.fin (rel := rl g ρ σ .rep) af s r
    | false => rw [if_neg (by decide)]; exact ⟨ρ, M, w, rfl, s, af⟩
theorem s_ite {ft : Rho → Store → Res Bool} (hc : PT X c (GT g ft)) (ha : PE X a (GE g .rep fa)) (hb : PE X b (GE g .rep fb)) :
    PE X (.IfExp c a b pos) (GE g .rep fun ρ M => (ft ρ M).bind fun t M => match t with | true => fa ρ M | false => fb ρ M) := by
  refine PE.imp (pe_ifExp hc ha hb) fun σ H Q q => ?_
  obtain ⟨ρ, M, w, e, s, a⟩ := q
  refine ⟨ρ, M, w, e, s, Aft.mono (Aft.bind a fun w1 ex => anti_rl (k := .rep) (σ := σ) ρ w w1 ex) ?_⟩
  rintro t H1 ⟨d, M1, w1, e1, ex1, s1, rfl, a1⟩
  cases t with
  | true => rw [if_pos rfl]; exact ⟨ρ, M1, w1, e1, s1, a1⟩
  | false => rw [if_neg (by decide)]; exact ⟨ρ, M1, w1, e1, s1, a1⟩

/-! ### argument lists, displays -/
theorem a_nil : PA X [] (GA g fun _ M => .ok [] M) := PA.imp pa_nil fun σ H Q ⟨ρ, M, w, e, s, a⟩ => by
  subst e
  exact a.fin s .nil
theorem anti_a {σ : St} : ∀ (ρ : Rho) (w w1 : Wd), Ext w w1 → ∀ (w' : Wd) (vs : List V) (ds : List D), Reps w' vs ds → Reps w' vs ds := fun _ _ _ _ _ _ _ h => h
theorem a_cons {es : List Expr} {fr : Rho → Store → Res (List D)} (hn : nst a = true) (ha : PE X a (GE g .rep fa)) (hr : PA X es (GA g fr)) :
    PA X (a :: es) (GA g fun ρ M => (fa ρ M).bind fun d M => (fr ρ M).bind fun ds M => .ok (d :: ds) M) := by
  refine PA.imp (pa_cons ha hr (star_ok hn)) fun σ H Q q => ?_
  refine ge_one (ka := .rep) (rel := fun ρ σ => fun _ w' vs ds => Reps w' vs ds) (F := fun ρ d M => (fr ρ M).bind fun ds M => .ok (d :: ds) M) (anti_a (σ := σ)) ?_ q
  intro ρ M w w0 v x s ex r af
  refine ⟨ρ, M, w, rfl, s, Aft.mono (Aft.bind af fun w1 ex => anti_a (σ := σ) ρ w w1 ex) ?_⟩
  rintro vs H1 ⟨ds, M1, w1, e1, ex1, s1, r1, a1⟩
  subst e1
  exact Aft.fin (rel := fun _ w' vs ds => Reps w' vs ds) a1 s1 (.cons (Rep.mono (ex1.wle s.wf) r) r1)
theorem s_tup {es : List Expr} {k : Nat} {fr : Rho → Store → Res (List D)} (hr : PA X es (GA g fr)) :
    PE X (.Tuple es k pos) (GE g .rep fun ρ M => (fr ρ M).bind fun ds M => if ds.length ≤ LIM then .ok (.tup ds) M else .fail) := by
  refine PE.imp (pe_tupT hr) fun σ H Q q => ?_
  obtain ⟨ρ, M, w, e, s, a⟩ := q
  refine ⟨ρ, M, w, e, s, Aft.mono (Aft.bind a fun w1 ex => anti_rl (k := .rep) (σ := σ) ρ w w1 ex) ?_⟩
  rintro vs H1 ⟨ds, M1, w1, e1, ex1, s1, r1, a1⟩
  subst e1
  split at a1
  · rename_i hz
    refine ⟨by rw [r1.length]; exact hz, fun p o n hd => ?_⟩
    exact Aft.new a1 s1 n (.tup (.inr rfl) ⟨o, hd, upd_same⟩ (r1.mono (frozen_wle s1.wf n)))
  · exact a1.elim
theorem s_lst {es : List Expr} {fr : Rho → Store → Res (List D)} (hr : PA X es (GA g fr)) :
    PE X (.List es pos) (GE g .frs fun ρ M => (fr ρ M).bind fun ds M => if ds.length ≤ LIM then .ok (.lst ds) M else .fail) := by
  refine PE.imp (pe_lst hr) fun σ H Q q => ?_
  obtain ⟨ρ, M, w, e, s, a⟩ := q
  refine ⟨ρ, M, w, e, s, Aft.mono (Aft.bind a fun w1 ex => anti_rl (k := .frs) (σ := σ) ρ w w1 ex) ?_⟩
  rintro vs H1 ⟨ds, M1, w1, e1, ex1, s1, r1, a1⟩
  subst e1
  split at a1
  · rename_i hz
    refine ⟨by rw [r1.length]; exact hz, fun p n => ?_⟩
    exact Aft.newO a1 s1 n ⟨vs, upd_same, r1.mono (owned_wle s1.wf n)⟩
  · exact a1.elim
theorem s_dic0 : PE X (.Dict [] [] pos) (GE g .frs fun _ M => .ok (.dic []) M) := PE.imp pe_dnewK fun σ H Q ⟨ρ, M, w, e, s, a⟩ => by
  subst e
  intro p n
  exact Aft.newO a s n ⟨[], upd_same, rfl, .nil⟩

/-! ### subscripts -/
theorem atI_of {w : Wd} {vs : List V} {ds : List D} {i : Int} {d : D} (r : Reps w vs ds) (e : atI ds i = some d) : ∃ v, atI vs i = some v ∧ Rep w v d := by
  unfold atI at e ⊢
  rw [r.length]
  cases q : ixN ds.length i with
  | none => rw [q] at e; cases e
  | some j =>
    rw [q] at e
    exact r.get e
theorem op_idx (h : Cok T X g N sc) : IxR X (fun x y H Q => ∃ (w : Wd) (a b d : D), w.H = H ∧ w.K = X.K ∧ Con w x a ∧ Rep w y b ∧ idxD a b = some d ∧ ∀ v, Rep w v d → Q v H) := by
  rintro vE sE pins s σ H x y v u Q I rx ry ⟨w, a, b, d, rfl, hK, ca, rb, e, q⟩ hs
  cases a <;> cases b <;> simp only [idxD, reduceCtorEq] at e
  · obtain ⟨rfl, hl⟩ := ca
    cases rb
    obtain ⟨c, e1, rfl⟩ := Option.map_eq_some_iff.mp e
    exact ix_str vE sE pins s σ _ _ _ _ _ Q I rx ry ⟨_, _, c, rfl, rfl, hl, e1, q _ (.str _ (by show 1 ≤ LIM; decide))⟩ hs
  · obtain ⟨p, vs, rfl, hp, r⟩ := ca
    cases rb
    obtain ⟨v', e1, r1⟩ := atI_of r e
    exact ix_tup vE sE pins s σ _ _ _ _ _ Q I rx ry ⟨p, vs, _, v', rfl, rfl, hp.sq, e1, q _ r1⟩ hs
  · obtain ⟨p, vs, rfl, hp, r⟩ := ca
    cases rb
    obtain ⟨v', e1, r1⟩ := atI_of r e
    exact ix_list vE sE pins s σ _ _ _ _ _ Q I rx ry ⟨p, vs, _, v', rfl, rfl, SqL.of hp, e1, q _ r1⟩ hs
  · obtain ⟨p, vs, rfl, hp, r⟩ := ca
    cases rb
    obtain ⟨v', e1, r1⟩ := atI_of r e
    exact ix_list vE sE pins s σ _ _ _ _ _ Q I rx ry ⟨p, vs, _, v', rfl, rfl, by rw [← hK]; exact hp, e1, q _ r1⟩ hs
  all_goals
    split at e
    · rename_i key hk
      obtain ⟨p, kvs', rfl, hp, e1, e2⟩ := ca
      cases rx
      have ex := keyOf_V rb hk
      subst ex
      have := look_of key e1 e2
      rw [e] at this
      obtain ⟨v', hv, r'⟩ := this
      refine PyProof.Rows.tail_any (dict_typeIs I (DGet.k (k := key) hp)) PySem.F.slot_dict_getitem.lookup (d_getItem h.hu I (v := v') (by rw [← hv]; exact DGet.k hp) ry fun w' s' I' rw' => ⟨v', _, I', rw', q v' r'⟩) hs
    · cases e
end
end Pv

set_option Elab.async false
set_option linter.all false
set_option maxRecDepth 100000
set_option maxHeartbeats 4000000
namespace Pv
open PySem L2

def nsl : Expr → Bool
  | .Slice .. => false
  | _ => true
theorem nsl_ok {e : Expr} (h : nsl e = true) : PlainIx e := by
  intro o i
  cases e <;> first | rfl | cases h
abbrev ncall : Expr → Bool := noCall
theorem ncall_ok {o : Expr} {m : Str} {env : PySem.Env} (h : ncall o = true) : attributeBase o m env (eval o env) = eval o env := by
  cases o <;> try rfl
  rename_i f as kw p
  cases as with
  | nil => cases kw with
    | nil => cases h
    | cons k ks => cases f <;> rfl
  | cons a as => cases f <;> rfl

section
variable {T : Tb} {X : Cx} {g : Gx} {N : List Str} {sc : Scope} {pos : Pos} {a b c : Expr} {fa fb fc : Rho → Store → Res D}
theorem s_idx (h : Cok T X g N sc) {ka : RK} (hk : ka ≠ .frs) (hb' : nsl b = true) (ha : PE X a (GE g ka fa)) (hb : PE X b (GE g .rep fb)) :
    PE X (.Subscript a b pos) (GE g .rep fun ρ M => (fa ρ M).bind fun x M => (fb ρ M).bind fun y M => Pv.opt (idxD (dr M x) y) M) := by
  refine PE.imp (pe_ix (op_idx h) ha hb (nsl_ok hb')) fun σ H Q q => ?_
  refine ge_two (ka := ka) (kb := .rep) (rel := fun ρ σ => rl g ρ σ .rep) (F := fun ρ x y M => Pv.opt (idxD (dr M x) y) M) hk anti_rl ?_ q
  intro ρ M w w0 w1 v u x y s rx ry af
  obtain ⟨d, ed, a3⟩ := af.optE
  exact ⟨w, dr M x, y, d, rfl, s.e0.K.trans h.kk, s.con rx, ry, ed, fun v' r' => a3.fin s r'⟩
/-! slices -/
def GO (g : Gx) (f : Rho → Store → Res (Option Int)) : TO := fun σ H Q => ∃ ρ M w, w.H = H ∧ Sr g.w0 ρ M w σ ∧ Aft g (fun _ _ b d => b = d) w ρ σ Q (f ρ M)
theorem PO.imp {e : Option Expr} {t t' : TO} (h : PO X e t) (k : ∀ σ H Q, t' σ H Q → t σ H Q) : PO X e t' := ⟨fun pins s σ H Q I q => h.run pins s σ H Q I (k σ H Q q)⟩
theorem anti_o : ∀ (ρ : Rho) (w w1 : Wd), Ext w w1 → ∀ (w' : Wd) (v d : Option Int), v = d → v = d := fun _ _ _ _ _ _ _ h => h
theorem o_none : PO X none (GO g fun _ M => .ok none M) := PO.imp po_none fun σ H Q ⟨ρ, M, w, e, s, a⟩ => by
  subst e
  exact a.fin s rfl
theorem o_some (ha : PE X a (GE g .rep fa)) : PO X (some a) (GO g fun ρ M => (fa ρ M).bind fun x M => match x with | .int i => .ok (some i) M | _ => .fail) := by
  refine PO.imp (po_some ha) fun σ H Q q => ?_
  refine ge_one (ka := .rep) (rel := fun ρ σ _ _ b d => b = d) (F := fun ρ x M => match x with | .int i => .ok (some i) M | _ => .fail) anti_o ?_ q
  intro ρ M w w0 v x s ex r af
  have r : Rep w v x := r
  cases r with
  | int i => exact ⟨i, rfl, Aft.fin (rel := fun _ _ (b d : Option Int) => b = d) af s rfl⟩
  | _ => exact af.elim
theorem cut_of {w : Wd} {vs : List V} {ds : List D} {lo hi : Option Int} (r : Reps w vs ds) : Reps w (cutV vs lo hi) (cutL ds lo hi) := by
  unfold cutV cutL
  rw [r.length]
  exact (r.drop _).take _
theorem cut_all {α : Type} {xs : List α} {lo hi : Option Int} (h : HT.sIx xs.length 0 lo = 0 ∧ HT.sIx xs.length xs.length hi = xs.length) : cutL xs lo hi = xs := by
  unfold cutL
  rw [h.1, h.2]; simp
theorem cutS_len {z : Str} {lo hi : Option Int} : (cutS z lo hi).length ≤ z.length := by
  unfold cutS
  show (List.toArray _).size ≤ z.cps.size
  simp only [List.size_toArray, List.length_take, List.length_drop, Array.length_toList]
  omega
theorem sl_all : SlR X (fun x lo hi H Q => ∃ (w : Wd) (σ : St) (ρ : Rho) (M : Store) (a d : D), w.H = H ∧ Sr g.w0 ρ M w σ ∧ Rep w x a ∧ sliceD a lo hi = some d ∧ Aft g (rl g ρ σ .rep) w ρ σ Q (.ok d M)) := by
  rintro pins s σ H x v vl vu lo hi sl Q I rx hs pl pu ⟨w, σ', ρ, M, a, d, rfl, sr, ra, e, af⟩
  cases ra <;> simp only [sliceD, reduceCtorEq, Option.some.injEq] at e
  · subst e
    rename_i z hz
    exact sl_str pins s σ _ _ v vl vu lo hi sl Q I rx hs pl pu ⟨z, rfl, hz, af.fin sr (.str _ (Nat.le_trans cutS_len hz))⟩
  · subst e
    rename_i p vs ds f hp r
    refine sl_tupF pins s σ _ _ v vl vu lo hi sl Q I rx hs pl pu ⟨p, vs, rfl, hp.sq, fun z => ?_, fun z p' o n hd => ?_⟩
    · rw [r.length] at z
      rw [cut_all z] at af
      exact af.fin sr (.tup f hp r)
    · exact af.new sr n (.tup (.inr rfl) ⟨o, hd, upd_same⟩ ((cut_of r).mono (frozen_wle sr.wf n)))
  · subst e
    rename_i p vs ds f hp r
    refine sl_list pins s σ _ _ v vl vu lo hi sl Q I rx hs pl pu ⟨p, vs, rfl, SqL.of hp, fun p' n => ?_⟩
    exact af.new sr n (.lst (.inr rfl) upd_same ((cut_of r).mono (frozen_wle sr.wf n)))
theorem s_slice {lo hi : Option Expr} {fl fh : Rho → Store → Res (Option Int)} {p2 : Pos} (ha : PE X a (GE g .rep fa)) (hl : PO X lo (GO g fl)) (hh : PO X hi (GO g fh)) :
    PE X (.Subscript a (.Slice lo hi none p2) pos) (GE g .rep fun ρ M => (fa ρ M).bind fun x M => (fl ρ M).bind fun l M => (fh ρ M).bind fun h M => Pv.opt (sliceD x l h) M) := by
  refine PE.imp (pe_slice (sl_all (g := g)) ha hl hh) fun σ H Q q => ?_
  refine ge_one (ka := .rep) (rel := fun ρ σ => rl g ρ σ .rep) (F := fun ρ x M => (fl ρ M).bind fun l M => (fh ρ M).bind fun h M => Pv.opt (sliceD x l h) M) anti_rl ?_ q
  intro ρ M w w0 v x s ex r af
  refine ⟨ρ, M, w, rfl, s, Aft.mono (Aft.bind af fun w1 ex => anti_rl (k := .rep) (σ := σ) ρ w w1 ex) ?_⟩
  rintro l H1 ⟨d, M1, w1, e1, ex1, s1, rfl, a1⟩
  refine ⟨ρ, M1, w1, e1, s1, Aft.mono (Aft.bind a1 fun w2 ex => anti_rl (k := .rep) (σ := σ) ρ w1 w2 ex) ?_⟩
  rintro h H2 ⟨d2, M2, w2, e2, ex2, s2, rfl, a2⟩
  obtain ⟨d3, ed, a3⟩ := a2.optE
  exact ⟨w2, σ, ρ, M2, x, d3, e2, s2, (Rep.mono (ex1.wle s.wf) r).mono (ex2.wle s1.wf), ed, a3⟩

/-! ### calls of defs -/
theorem aft_call {own : Bool} {cls : Nat → Value} (hc : g.cls = cls) {w : Wd} {ρ : Rho} {M : Store} {σ : St} {Q : VK} {r : Res D} (s : Sr g.w0 ρ M w σ) (af : Aft g (rl g ρ σ (if own then .frs else .rep)) w ρ σ Q r) :
    AftC cls own w Q (fun c d H => g.W c d σ H) r := by
  cases r with
  | ok d M' =>
    intro v w' ex wf st rr
    refine af v w' ex (s.ext ex wf st) ?_
    cases own with
    | false => exact rr
    | true => exact rr
  | exc c M' =>
    intro w' ex wf st
    rw [← hc]
    exact af w' ex (s.ext ex wf st)
  | fail => exact af
theorem s_call (h : Cok T X g N sc) {f : Nat} {fn : Fn} (hf : T.P[f]? = some fn) {x : Str} {p : Pos} {e : Expr} {es : List Expr} {fr : Rho → Store → Res (List D)} (hx : glB sc x = true) (hn : fn.name = x) (hgl : globB fn = true) (hst : (e :: es).all nst = true) (ha : PA X (e :: es) (GA g fr)) :
    PE X (.Call (.Name x p) (e :: es) [] pos) (GE g (if fn.own then .frs else .rep) fun ρ M => (fr ρ M).bind fun ds M => T.C f ds M) := by
  obtain ⟨fa, fd, ps, F⟩ := h.p.fn f fn hf
  subst hn
  have mgf : X.mg fn.name = some (.ref fa) := by
    have z := F.mgf
    unfold Stands at z
    unfold globB at hgl
    cases hm : fn.mt with
    | none => rw [hm] at z; exact z
    | some t => rw [hm] at hgl; cases hgl
  obtain ⟨g1, g2⟩ := glB_of hx
  rw [List.all_cons, Bool.and_eq_true] at hst
  refine PE.imp (pe_callSD (dvs := []) (E := WE g.W) F.ok (h.room.mono (Nat.le_succ _)) (h.gl g1) mgf F.kp F.bd .nil (fun σ => passAt h.tk σ) ha g2 (star_ok hst.1) (star_any hst.2)) ?_
  rintro σ H Q ⟨ρ, M, w, e, s, a⟩
  refine ⟨ρ, M, w, e, s, Aft.mono (Aft.bind a fun w1 ex => anti_rl (k := if fn.own then .frs else .rep) (σ := σ) ρ w w1 ex) ?_⟩
  rintro vs H1 ⟨ds, M1, w1, e1, ex1, s1, r1, a1⟩
  rw [List.append_nil]
  have hl : ds.length = fn.np := by
    apply Classical.byContradiction
    intro z
    rw [h.p.len f fn ds M1 hf z] at a1
    exact a1
  exact ⟨r1.length.trans hl, ds, M1, w1, e1, s1.e0.K.trans h.kk, s1.e0.B.trans h.bb, s1.wf, s1.sto, r1, aft_call h.gc s1 a1⟩
end
end Pv

set_option Elab.async false
set_option linter.all false
set_option maxRecDepth 100000
set_option maxHeartbeats 4000000
namespace Pv
open PySem L2 PySem.W

/-! ### greatest and least -/
theorem foldmax (a : Int) : ∀ r : List Int, r.foldl max a ∈ a :: r ∧ ∀ y ∈ a :: r, y ≤ r.foldl max a := by
  intro r
  induction r generalizing a with
  | nil => exact ⟨by simp, fun y h => by simp at h; subst h; exact Int.le_refl _⟩
  | cons b r ih =>
    obtain ⟨h1, h2⟩ := ih (max a b)
    rw [List.foldl_cons]
    refine ⟨?_, fun y h => ?_⟩
    · rcases List.mem_cons.mp h1 with h | h
      · rw [h]
        by_cases q : a ≤ b
        · rw [Int.max_eq_right q]; simp
        · rw [Int.max_eq_left (by omega)]; simp
      · exact List.mem_cons_of_mem _ (List.mem_cons_of_mem _ h)
    · have hm := h2 (max a b) List.mem_cons_self
      rcases List.mem_cons.mp h with h | h
      · subst h; omega
      · rcases List.mem_cons.mp h with h | h
        · subst h; omega
        · exact h2 y (List.mem_cons_of_mem _ h)
theorem foldmin (a : Int) : ∀ r : List Int, r.foldl min a ∈ a :: r ∧ ∀ y ∈ a :: r, r.foldl min a ≤ y := by
  intro r
  induction r generalizing a with
  | nil => exact ⟨by simp, fun y h => by simp at h; subst h; exact Int.le_refl _⟩
  | cons b r ih =>
    obtain ⟨h1, h2⟩ := ih (min a b)
    rw [List.foldl_cons]
    refine ⟨?_, fun y h => ?_⟩
    · rcases List.mem_cons.mp h1 with h | h
      · rw [h]
        by_cases q : a ≤ b
        · rw [Int.min_eq_left q]; simp
        · rw [Int.min_eq_right (by omega)]; simp
      · exact List.mem_cons_of_mem _ (List.mem_cons_of_mem _ h)
    · have hm := h2 (min a b) List.mem_cons_self
      rcases List.mem_cons.mp h with h | h
      · subst h; omega
      · rcases List.mem_cons.mp h with h | h
        · subst h; omega
        · exact h2 y (List.mem_cons_of_mem _ h)

/-- a value frozen, or of one's own -/
def CO (w : Wd) (v : V) (d : D) : Prop := Rep w v d ∨ ∃ p, v = .ref p ∧ OwnM w p d
theorem CO.con {w : Wd} {v : V} {d : D} (c : CO w v d) (h : ∀ n, d ≠ .hnd n) : Con w v d := by
  rcases c with c | ⟨p, rfl, o⟩
  · exact c.con h
  · exact o.con
theorem co_of {g : Gx} {ρ : Rho} {σ : St} {M : Store} {k : RK} {w w' : Wd} {v : V} {d : D} (s : Sr g.w0 ρ M w' σ) (r : rl g ρ σ k w w' v d) : CO w' v (dr M d) := by
  cases k with
  | rep =>
    have r : Rep w' v d := r
    cases d with
    | hnd h =>
      cases r with
      | hnd e =>
        have hl : h < M.length := by rw [← s.sto.len]; exact (List.getElem?_eq_some_iff.mp e).1
        have q : M[h]? = some M[h] := List.getElem?_eq_getElem hl
        refine .inr ⟨_, rfl, ?_⟩
        have := s.sto.at_ h _ _ e q
        show OwnM w' _ (match M[h]? with | some d => d | none => .non)
        rw [q]; exact this
    | _ => exact .inl r
  | frs =>
    obtain ⟨p, rfl, o, _⟩ := r
    rw [o.notH M]
    exact .inr ⟨p, rfl, OwnM.of o⟩
  | bor =>
    obtain ⟨i, h1, h2⟩ := r
    obtain ⟨p, e, o, _⟩ := s.ow i d h1
    rw [h2] at e
    cases e
    rw [o.notH M]
    exact .inr ⟨p, rfl, OwnM.of o⟩

theorem ext_of_intsOf : ∀ {ds : List D} {ns : List Int}, intsOf ds = some ns → ds = ns.map .int
  | [], ns, e => by cases e; rfl
  | .int i :: r, ns, e => by
    simp only [intsOf, Option.map_eq_some_iff] at e
    obtain ⟨l, e1, rfl⟩ := e
    rw [ext_of_intsOf e1]; rfl
  | .non :: _, _, e => by cases e
  | .bl _ :: _, _, e => by cases e
  | .str _ :: _, _, e => by cases e
  | .tup _ :: _, _, e => by cases e
  | .lst _ :: _, _, e => by cases e
  | .scr _ :: _, _, e => by cases e
  | .dic _ :: _, _, e => by cases e
  | .hnd _ :: _, _, e => by cases e
  | .obj _ _ :: _, _, e => by cases e
  | .lck _ :: _, _, e => by cases e
theorem isort_eq {a b : List Int} (h : a.Perm b) (s : a.Pairwise (· ≤ ·)) : a = isort b := os_sorted_mergeSort h s

section
variable {T : Tb} {X : Cx} {g : Gx} {N : List Str} {sc : Scope} {pos : Pos} {a b c : Expr} {fa fb fc : Rho → Store → Res D}
/-- what a builtin of one argument does, a fresh thing not made -/
def r1 (g : Gx) (k : F1) : List V → Hp → VK → Prop := fun vs H Q => ∃ (σ : St) (ρ : Rho) (M : Store) (w : Wd) (v : V) (a d : D), vs = [v] ∧ w.H = H ∧ Sr g.w0 ρ M w σ ∧ CO w v a ∧ fn1D k a = some d ∧ Aft g (rl g ρ σ .rep) w ρ σ Q (.ok d M)
theorem str_dig (n : Int) (h : 0 ≤ n ∧ n < 10) : (Str.ofString (toString n)).length ≤ LIM := by
  have e : n = 0 ∨ n = 1 ∨ n = 2 ∨ n = 3 ∨ n = 4 ∨ n = 5 ∨ n = 6 ∨ n = 7 ∨ n = 8 ∨ n = 9 := by omega
  rcases e with e | e | e | e | e | e | e | e | e | e <;> subst e <;> decide
theorem c_len (hK : g.w0.K = X.K) : CallR X (.builtin "len") (r1 g .len) := by
  rintro pins s σ H xs us Q I r ⟨σ', ρ, M, w, v, a, d, rfl, rfl, sr, co, e, af⟩
  obtain ⟨n, e', rfl⟩ := Option.map_eq_some_iff.mp e
  clear e
  have c := co.con (by rintro n rfl; cases e')
  have q := af.fin sr (Rep.int n)
  cases a <;> simp only [lenD, reduceCtorEq, Option.some.injEq] at e' <;> subst e'
  · obtain ⟨rfl, hz⟩ := c
    exact call_len pins s σ _ _ _ Q I r ⟨_, _, rfl, ⟨hz, rfl⟩, q⟩
  · obtain ⟨p, vs, rfl, hp, rr⟩ := c
    refine call_len pins s σ _ _ _ Q I r ⟨_, _, rfl, .inr ⟨vs, hp.sq, rfl⟩, ?_⟩
    rw [rr.length]; exact q
  · obtain ⟨p, vs, rfl, hp, rr⟩ := c
    refine call_len pins s σ _ _ _ Q I r ⟨_, _, rfl, .inl ⟨vs, SqL.of hp, rfl⟩, ?_⟩
    rw [rr.length]; exact q
  · obtain ⟨p, vs, rfl, hp, rr⟩ := c
    refine call_len pins s σ _ _ _ Q I r ⟨_, _, rfl, .inl ⟨vs, by rw [← hK, ← sr.e0.K]; exact hp, rfl⟩, ?_⟩
    rw [rr.length]; exact q
  · obtain ⟨p, kvs, rfl, hp, e1, rr⟩ := c
    refine call_lenD pins s σ _ _ _ Q I r ⟨p, kvs, rfl, hp, ?_⟩
    have := congrArg List.length e1
    simp only [List.length_map] at this
    rw [this]; exact q
theorem c_abs : CallR X (.builtin "abs") (r1 g .abs) := by
  rintro pins s σ H xs us Q I r ⟨σ', ρ, M, w, v, a, d, rfl, rfl, sr, co, e, af⟩
  cases a <;> simp only [fn1D, reduceCtorEq, Option.some.injEq] at e
  subst e
  cases co.con (fun n z => nomatch z)
  exact call_abs pins s σ _ _ _ Q I r ⟨_, rfl, af.fin sr (.int _)⟩
theorem c_max (hc : X.calm = true) (hu : X.A.units + 64 < cLine) : CallR X (.builtin "max") (r1 g .max) := by
  rintro pins s σ H xs us Q I r ⟨σ', ρ, M, w, v, a, d, rfl, rfl, sr, co, e, af⟩
  cases a <;> simp only [fn1D, reduceCtorEq] at e
  all_goals
    obtain ⟨m, e', rfl⟩ := Option.map_eq_some_iff.mp e
    obtain ⟨ns, e1, e2⟩ := Option.bind_eq_some_iff.mp e'
    have q := af.fin sr (Rep.int m)
    obtain ⟨p, vs, rfl, hp, rr⟩ := co.con (fun n z => nomatch z)
    have hv := rr.ints e1
    subst hv
  · cases ns with
    | nil => cases e2
    | cons n ns =>
      obtain ⟨its, rv, pl, _⟩ := I.tuple hp.sq
      rw [Vals.ref1 r]
      have hI := rv.ints
      refine max_tuple_data (x := .int n) (xs := ns.map .int) (I.ok.hd hc) pl (as := []) ?_ ⟨?_, ?_⟩ ?_ ?_
      · have := hI.reads s.heap
        simpa using this
      · intro x hx y hy
        rw [← List.map_cons (f := PyData.int)] at hx hy
        obtain ⟨i, _, rfl⟩ := List.mem_map.mp hx
        obtain ⟨j, _, rfl⟩ := List.mem_map.mp hy
        rfl
      · intro x hx
        rw [← List.map_cons (f := PyData.int)] at hx
        obtain ⟨i, _, rfl⟩ := List.mem_map.mp hx
        exact fun z => nomatch z
      · have hd : ∀ l : List Int, PyData.depthAll (l.map .int) = 0 := by
          intro l
          induction l with
          | nil => rfl
          | cons i l ih => simp only [List.map_cons, PyData.depthAll, PyData.depth, ih]; rfl
        have := hd (n :: ns)
        rw [List.map_cons] at this
        rw [this]; omega
      · intro i v' h' tk bs hv' hr hk
        rw [maxD_ints] at hr
        cases hr with
        | int _ t =>
          simp only [maxL, Option.some.injEq] at e2
          subst e2
          exact ⟨.int _, _, I.kept hk, ⟨t, rfl⟩, q⟩
  · cases ns with
    | nil => cases e2
    | cons n ns =>
      refine cr_max hc pins s σ _ _ _ Q I r ⟨p, n :: ns, rfl, SqL.of hp, Nat.zero_lt_succ _, fun m' h1 h2 => ?_⟩
      simp only [maxL, Option.some.injEq] at e2
      obtain ⟨f1, f2⟩ := foldmax n ns
      have : m' = m := by
        have a1 := h2 _ f1
        have a2 := f2 _ h1
        omega
      subst this
      exact q
theorem c_min (hc : X.calm = true) : CallR X (.builtin "min") (r1 g .min) := by
  rintro pins s σ H xs us Q I r ⟨σ', ρ, M, w, v, a, d, rfl, rfl, sr, co, e, af⟩
  cases a <;> simp only [fn1D, reduceCtorEq] at e
  obtain ⟨m, e', rfl⟩ := Option.map_eq_some_iff.mp e
  obtain ⟨ns, e1, e2⟩ := Option.bind_eq_some_iff.mp e'
  have q := af.fin sr (Rep.int m)
  obtain ⟨p, vs, rfl, hp, rr⟩ := co.con (fun n z => nomatch z)
  have hv := rr.ints e1
  subst hv
  cases ns with
  | nil => cases e2
  | cons n ns =>
    refine cr_min hc pins s σ _ _ _ Q I r ⟨p, n :: ns, rfl, SqL.of hp, Nat.zero_lt_succ _, fun m' h1 h2 => ?_⟩
    simp only [minL, Option.some.injEq] at e2
    obtain ⟨f1, f2⟩ := foldmin n ns
    have : m' = m := by
      have a1 := h2 _ f1
      have a2 := f2 _ h1
      omega
    subst this
    exact q
theorem c_sum (hc : X.calm = true) : CallR X (.builtin "sum") (r1 g .sum) := by
  rintro pins s σ H xs us Q I r ⟨σ', ρ, M, w, v, a, d, rfl, rfl, sr, co, e, af⟩
  cases a <;> simp only [fn1D, reduceCtorEq] at e
  obtain ⟨ns, e1, rfl⟩ := Option.map_eq_some_iff.mp e
  obtain ⟨p, vs, rfl, hp, rr⟩ := co.con (fun n z => nomatch z)
  have hv := rr.ints e1
  subst hv
  exact cr_sum hc pins s σ _ _ _ Q I r ⟨p, ns, rfl, SqL.of hp, af.fin sr (.int _)⟩
theorem c_all (hc : X.calm = true) : CallR X (.builtin "all") (r1 g .all) := by
  rintro pins s σ H xs us Q I r ⟨σ', ρ, M, w, v, a, d, rfl, rfl, sr, co, e, af⟩
  cases a <;> simp only [fn1D, reduceCtorEq] at e
  obtain ⟨ns, e1, rfl⟩ := Option.map_eq_some_iff.mp e
  obtain ⟨p, vs, rfl, hp, rr⟩ := co.con (fun n z => nomatch z)
  have hv := rr.bools e1
  subst hv
  exact cr_all hc pins s σ _ _ _ Q I r ⟨p, ns, rfl, SqL.of hp, af.fin sr (.bl _)⟩
theorem c_any (hc : X.calm = true) : CallR X (.builtin "any") (r1 g .any) := by
  rintro pins s σ H xs us Q I r ⟨σ', ρ, M, w, v, a, d, rfl, rfl, sr, co, e, af⟩
  cases a <;> simp only [fn1D, reduceCtorEq] at e
  obtain ⟨ns, e1, rfl⟩ := Option.map_eq_some_iff.mp e
  obtain ⟨p, vs, rfl, hp, rr⟩ := co.con (fun n z => nomatch z)
  have hv := rr.bools e1
  subst hv
  exact cr_any hc pins s σ _ _ _ Q I r ⟨p, ns, rfl, SqL.of hp, af.fin sr (.bl _)⟩
theorem c_int : CallR X (.type "int") (r1 g .int) := by
  rintro pins s σ H xs us Q I r ⟨σ', ρ, M, w, v, a, d, rfl, rfl, sr, co, e, af⟩
  cases a <;> simp only [fn1D, reduceCtorEq, Option.some.injEq] at e
  · subst e
    cases co.con (fun n z => nomatch z)
    refine call_int1 pins s σ _ _ _ Q I r (.inr ⟨_, rfl, ?_⟩)
    exact af.fin sr (.int _)
  · subst e
    cases co.con (fun n z => nomatch z)
    exact call_int1 pins s σ _ _ _ Q I r (.inl ⟨_, rfl, af.fin sr (.int _)⟩)
theorem c_str : CallR X (.type "str") (r1 g .str) := by
  rintro pins s σ H xs us Q I r ⟨σ', ρ, M, w, v, a, d, rfl, rfl, sr, co, e, af⟩
  cases a <;> simp only [fn1D, reduceCtorEq, Option.ite_none_right_eq_some, Option.some.injEq] at e
  obtain ⟨e1, rfl⟩ := e
  cases co.con (fun n z => nomatch z)
  refine call_str_int pins s σ _ _ _ Q I r ⟨_, rfl, ?_, af.fin sr (.str _ (str_dig _ e1))⟩
  rename_i n
  have e : n = 0 ∨ n = 1 ∨ n = 2 ∨ n = 3 ∨ n = 4 ∨ n = 5 ∨ n = 6 ∨ n = 7 ∨ n = 8 ∨ n = 9 := by omega
  rcases e with e | e | e | e | e | e | e | e | e | e <;> subst e <;> decide
theorem c_tuple : CallR X (.type "tuple") (r1 g .tuple) := by
  rintro pins s σ H xs us Q I r ⟨σ', ρ, M, w, v, a, d, rfl, rfl, sr, co, e, af⟩
  cases a <;> simp only [fn1D, reduceCtorEq, Option.some.injEq] at e
  · subst e
    rcases co with co | ⟨p, rfl, o⟩
    · cases co with
      | tup f hp rr => exact call_tupleF pins s σ _ _ _ Q I r ⟨_, _, rfl, .inr ⟨hp.sq, af.fin sr (.tup f hp rr)⟩⟩
    · exact o.elim
  · subst e
    obtain ⟨p, vs, rfl, hp, rr⟩ := co.con (fun n z => nomatch z)
    exact call_tupleF pins s σ _ _ _ Q I r ⟨p, vs, rfl, .inl ⟨SqL.of hp, fun l o n hd => af.new sr n (.tup (.inr rfl) ⟨o, hd, upd_same⟩ (rr.mono (frozen_wle sr.wf n)))⟩⟩
/-- the reading of a call with one argument -/
theorem ga_one {k : F1} {ka : RK} {σ : St} {H : Hp} {Q : VK} (q : GE g .rep (fun ρ M => (fa ρ M).bind fun x M => Pv.opt (fn1D k (dr M x)) M) σ H Q) :
    tCB (r1 g k) (tCons (GE g ka fa) tNil) σ H Q := by
  refine ge_one (ka := ka) (rel := fun ρ σ => rl g ρ σ .rep) (F := fun ρ x M => Pv.opt (fn1D k (dr M x)) M) anti_rl ?_ q
  intro ρ M w w0 v x s ex r af
  obtain ⟨d, ed, a3⟩ := af.optE
  exact ⟨σ, ρ, M, w, v, dr M x, d, rfl, rfl, s, co_of s r, ed, a3⟩
theorem bm {x : Str} (h : x ∈ bltN) : x ∈ bltN := h
theorem s_fn1 (h : Cok T X g N sc) {k : F1} {ka : RK} {x : Str} {p : Pos} (hx : isB sc x (f1N k) = true) (hn : nst a = true) (ha : PE X a (GE g ka fa)) :
    PE X (.Call (.Name x p) [a] [] pos) (GE g .rep fun ρ M => (fa ρ M).bind fun x M => Pv.opt (fn1D k (dr M x)) M) := by
  obtain ⟨rfl, e⟩ := isB_of hx
  have pa : PA X [a] (tCons (GE g ka fa) tNil) := pa_cons ha pa_nil (star_ok hn)
  have hg := h.gl e
  cases k
  · exact PE.imp (pe_callB (c_len h.kk) hg (h.blt (by decide)) (by decide +kernel) pa (by decide) (by decide) (star_ok hn) rfl) fun _ _ _ q => ga_one q
  · exact PE.imp (pe_callB c_abs hg (h.blt (by decide)) (by decide +kernel) pa (by decide) (by decide) (star_ok hn) rfl) fun _ _ _ q => ga_one q
  · exact PE.imp (pe_callB (c_max h.calm h.hu64) hg (h.blt (by decide)) (by decide +kernel) pa (by decide) (by decide) (star_ok hn) rfl) fun _ _ _ q => ga_one q
  · exact PE.imp (pe_callB (c_min h.calm) hg (h.blt (by decide)) (by decide +kernel) pa (by decide) (by decide) (star_ok hn) rfl) fun _ _ _ q => ga_one q
  · exact PE.imp (pe_callB (c_sum h.calm) hg (h.blt (by decide)) (by decide +kernel) pa (by decide) (by decide) (star_ok hn) rfl) fun _ _ _ q => ga_one q
  · exact PE.imp (pe_callB (c_all h.calm) hg (h.blt (by decide)) (by decide +kernel) pa (by decide) (by decide) (star_ok hn) rfl) fun _ _ _ q => ga_one q
  · exact PE.imp (pe_callB (c_any h.calm) hg (h.blt (by decide)) (by decide +kernel) pa (by decide) (by decide) (star_ok hn) rfl) fun _ _ _ q => ga_one q
  · exact PE.imp (pe_callTy c_int hg (h.blt (by decide)) (by decide +kernel) pa (by decide) (by decide) (star_ok hn) rfl) fun _ _ _ q => ga_one q
  · exact PE.imp (pe_callTy c_str hg (h.blt (by decide)) (by decide +kernel) pa (by decide) (by decide) (star_ok hn) rfl) fun _ _ _ q => ga_one q
  · exact PE.imp (pe_callTy c_tuple hg (h.blt (by decide)) (by decide +kernel) pa (by decide) (by decide) (star_ok hn) rfl) fun _ _ _ q => ga_one q
end
end Pv

set_option Elab.async false
set_option linter.all false
set_option maxRecDepth 100000
set_option maxHeartbeats 4000000
namespace Pv
open PySem L2

/-! ### stores into slots -/
theorem Sr.set {w0 w : Wd} {ρ : Rho} {M : Store} {σ : St} {i : Nat} {v : V} {d : D} (s : Sr w0 ρ M w σ) (r : Rep w v d) (hi : i < ρ.length) : Sr w0 (ρ.set i (.sh d)) M w (σ.set i (some v)) where
  wf := s.wf
  e0 := s.e0
  sto := s.sto
  len := by simpa using s.len
  sh := fun j e h => by
    by_cases q : i = j
    · subst q
      rw [List.getElem?_set_self hi] at h
      cases h
      exact ⟨v, by rw [List.getElem?_set_self (by rw [← s.len]; exact hi)], r⟩
    · rw [List.getElem?_set_ne q] at h
      obtain ⟨u, a, b⟩ := s.sh j e h
      exact ⟨u, by rw [List.getElem?_set_ne q]; exact a, b⟩
  ow := fun j e h => by
    by_cases q : i = j
    · subst q
      rw [List.getElem?_set_self hi] at h
      cases h
    · rw [List.getElem?_set_ne q] at h
      obtain ⟨u, a, b⟩ := s.ow j e h
      exact ⟨u, by rw [List.getElem?_set_ne q]; exact a, b⟩
  dj := fun j k d e p h1 h2 h3 h4 => by
    by_cases q : i = j
    · subst q
      rw [List.getElem?_set_self hi] at h1
      cases h1
    · by_cases q' : i = k
      · subst q'
        rw [List.getElem?_set_self hi] at h2
        cases h2
      · rw [List.getElem?_set_ne q] at h1 h3
        rw [List.getElem?_set_ne q'] at h2 h4
        exact s.dj j k d e p h1 h2 h3 h4
theorem Sr.forget {w0 w : Wd} {ρ : Rho} {M : Store} {σ : St} {i : Nat} {o : Option V} (s : Sr w0 ρ M w σ) : Sr w0 (ρ.set i .no) M w (σ.set i o) where
  wf := s.wf
  e0 := s.e0
  sto := s.sto
  len := by simpa using s.len
  sh := fun j e h => by
    by_cases q : i = j
    · subst q
      by_cases hi : i < ρ.length
      · rw [List.getElem?_set_self hi] at h; cases h
      · rw [List.getElem?_eq_none (by simpa using hi)] at h; cases h
    · rw [List.getElem?_set_ne q] at h
      obtain ⟨u, a, b⟩ := s.sh j e h
      exact ⟨u, by rw [List.getElem?_set_ne q]; exact a, b⟩
  ow := fun j e h => by
    by_cases q : i = j
    · subst q
      by_cases hi : i < ρ.length
      · rw [List.getElem?_set_self hi] at h; cases h
      · rw [List.getElem?_eq_none (by simpa using hi)] at h; cases h
    · rw [List.getElem?_set_ne q] at h
      obtain ⟨u, a, b⟩ := s.ow j e h
      exact ⟨u, by rw [List.getElem?_set_ne q]; exact a, b⟩
  dj := fun j k d e p h1 h2 h3 h4 => by
    have ne : ∀ (j : Nat) (d : D), (ρ.set i .no)[j]? = some (.ow d) → i ≠ j := by
      rintro j d h rfl
      by_cases hi : i < ρ.length
      · rw [List.getElem?_set_self hi] at h; cases h
      · rw [List.getElem?_eq_none (by simpa using hi)] at h; cases h
    have q := ne j d h1
    have q' := ne k e h2
    rw [List.getElem?_set_ne q] at h1 h3
    rw [List.getElem?_set_ne q'] at h2 h4
    exact s.dj j k d e p h1 h2 h3 h4
theorem Sr.wipe {w0 w : Wd} {ρ : Rho} {M : Store} {σ : St} (s : Sr w0 ρ M w σ) : ∀ vs : List Nat, Sr w0 (wipeR ρ vs) M w (wipe σ vs)
  | [] => s
  | v :: vs => by
    unfold wipeR L2.wipe
    exact (s.wipe vs).forget
def setVs : St → List Nat → List V → St
  | σ, i :: is, v :: vs => setVs (σ.set i (some v)) is vs
  | σ, _, _ => σ
theorem Sr.setSs {w0 w : Wd} : ∀ {tg : List Nat} {ρ ρ1 : Rho} {M : Store} {σ : St} {vs : List V} {ds : List D}, Sr w0 ρ M w σ → Reps w vs ds → setSs ρ tg ds = some ρ1 → Sr w0 ρ1 M w (setVs σ tg vs) ∧ vs.length = tg.length
  | [], ρ, ρ1, M, σ, _, _, s, .nil, e => by
    simp only [Pv.setSs, Option.some.injEq] at e
    subst e
    exact ⟨s, rfl⟩
  | i :: is, ρ, ρ1, M, σ, _, _, s, .cons r t, e => by
    simp only [Pv.setSs, setS] at e
    split at e
    · rename_i hi
      obtain ⟨h1, h2⟩ := Sr.setSs (s.set r hi) t e
      exact ⟨h1, by simp [h2]⟩
    · cases e
  | [], _, _, _, _, _, _, _, .cons _ _, e => by cases e
  | _ :: _, _, _, _, _, _, _, _, .nil, e => by cases e
theorem wipe_set {σ : St} {i : Nat} {o : Option V} : ∀ {vs : List Nat}, i ∈ vs → wipe (σ.set i o) vs = wipe σ vs
  | v :: vs, h => by
    unfold wipe
    by_cases q : i ∈ vs
    · rw [wipe_set q]
    · have e : i = v := by
        rcases List.mem_cons.mp h with e | e
        · exact e
        · exact absurd e q
      subst e
      have : ∀ vs : List Nat, i ∉ vs → wipe (σ.set i o) vs = (wipe σ vs).set i o := by
        intro vs
        induction vs with
        | nil => intro _; rfl
        | cons u us ih =>
          intro hn
          have h1 : u ≠ i := fun z => hn (by simp [z])
          have h2 : i ∉ us := fun z => hn (List.mem_cons_of_mem _ z)
          unfold wipe
          rw [ih h2, List.set_comm _ _ (Ne.symm h1)]
      rw [this vs q, List.set_set]
theorem wipe_setVs {vs : List Nat} : ∀ {tg : List Nat} {us : List V} {σ : St}, (∀ i ∈ tg, i ∈ vs) → wipe (setVs σ tg us) vs = wipe σ vs
  | [], _, _, _ => rfl
  | _ :: _, [], _, _ => rfl
  | i :: is, u :: us, σ, h => by
    unfold setVs
    rw [wipe_setVs fun j hj => h j (List.mem_cons_of_mem _ hj), wipe_set (h i List.mem_cons_self)]

/-! ### targets -/
def gNs : List Nat → TGs
  | [] => gNil
  | i :: is => gCons (gName i) (gNs is)
theorem gNs_ok : ∀ {tg : List Nat} {vs : List V} {σ : St} {H : Hp} {Q : St → Hp → Prop}, vs.length = tg.length → Q (setVs σ tg vs) H → gNs tg vs σ H Q
  | [], [], _, _, _, _, h => ⟨rfl, h⟩
  | i :: is, v :: vs, σ, H, Q, hl, h => ⟨v, vs, rfl, gNs_ok (by simpa using hl) h⟩
def gT (K : PySem.W.Frag) (tg : List Nat) (tt : Bool) : TG := match tt with
  | false => match tg with
    | [i] => gName i
    | _ => fun _ _ _ _ => False
  | true => fun v σ H Q => gTup K tg.length (gNs tg) v σ H Q ∨ gUnl K tg.length (gNs tg) v σ H Q
/-- an item that is walked: where it is taken apart, a pair of the iterator's own, too -/
def RI (tt : Bool) (w : Wd) (v : V) (d : D) : Prop := Rep w v d ∨ (tt = true ∧ ∃ p vs ds, v = .ref p ∧ d = .tup ds ∧ w.H p = some (.tup vs) ∧ Reps w vs ds)
theorem gT_ok {K : PySem.W.Frag} {w0 w : Wd} {tg : List Nat} {tt : Bool} {ρ ρ1 : Rho} {M : Store} {σ : St} {v : V} {d : D} {Q : St → Hp → Prop} (s : Sr w0 ρ M w σ) (r : RI tt w v d) (e : bindT tg tt ρ d = some ρ1)
    (q : ∀ us, Sr w0 ρ1 M w (setVs σ tg us) → Q (setVs σ tg us) w.H) : gT K tg tt v σ w.H Q := by
  cases tt with
  | false =>
    have r : Rep w v d := r.elim id fun z => nomatch z.1
    unfold bindT at e
    match tg, e with
    | [i], e =>
      simp only [setS] at e
      split at e
      · rename_i hi
        cases e
        exact q [v] (s.set r hi)
      · cases e
  | true =>
    cases d <;> simp only [bindT, reduceCtorEq] at e
    · rcases r with r | ⟨_, p, vs, ds, rfl, ed, hp, rr⟩
      · cases r with
        | tup f h rr =>
          obtain ⟨h1, h2⟩ := s.setSs rr e
          exact .inl ⟨_, _, rfl, h.sq, h2, gNs_ok h2 (q _ h1)⟩
      · cases ed
        obtain ⟨h1, h2⟩ := s.setSs rr e
        exact .inl ⟨_, _, rfl, SqT.of hp, h2, gNs_ok h2 (q _ h1)⟩
    · rcases r with r | ⟨_, p, vs, ds, rfl, ed, hp, rr⟩
      · cases r with
        | lst f h rr =>
          obtain ⟨h1, h2⟩ := s.setSs rr e
          exact .inr ⟨_, _, rfl, SqL.of h, h2, gNs_ok h2 (q _ h1)⟩
      · cases ed
section
variable {X : Cx} {N : List Str} {sc sc' : Scope} {pos : Pos}
/-- the names of a target stand in X -/
def TgOk (X : Cx) (i : Nat) (x : Str) : Prop := X.N[i]? = some x ∧ L2.Loc X.env.scope x ∧ (X.fn x = true ∨ X.env.scope.names.lookup x = some .local)
theorem pg_gNs (nd : X.N.Nodup) (ok : ∀ i x, tgB N sc' i x = true → TgOk X i x) : ∀ {tg : List Nat} {es : List Expr}, tgsB N sc' tg es = true → PGs X es (gNs tg) ∧ (assignEach es X.env).length = tg.length ∧ (assignEach es X.env).findIdx? (·.1) = none
  | [], [], _ => ⟨pgs_nil, rfl, rfl⟩
  | [], _ :: _, h => by cases h
  | _ :: _, [], h => by cases h
  | i :: is, e :: es, h => by
    cases e with
    | Name x p =>
      simp only [tgsB, Bool.and_eq_true] at h
      obtain ⟨h1, h2, h3⟩ := ok i x h.1
      obtain ⟨k1, k2, k3⟩ := pg_gNs nd ok h.2
      refine ⟨pgs_cons (pg_name nd h1 h2 h3) k1, ?_, ?_⟩
      · show (_ :: assignEach es X.env).length = _
        simp [k2]
      · show (_ :: assignEach es X.env).findIdx? _ = none
        rw [List.findIdx?_cons]
        simp [k3]
    | _ => simp only [tgsB, Bool.false_eq_true] at h
theorem pg_gT (hc : X.calm = true) (nd : X.N.Nodup) (ok : ∀ i x, tgB N sc' i x = true → TgOk X i x) {tg : List Nat} {tt : Bool} {e : Expr} (h : targetB N sc' tg tt e = true) : PG X e (gT X.K tg tt) := by
  cases tt with
  | false =>
    unfold targetB at h
    match tg, e, h with
    | [i], .Name x p, h =>
      obtain ⟨h1, h2, h3⟩ := ok i x h
      exact pg_name nd h1 h2 h3
  | true =>
    cases e with
    | Tuple es k p =>
      obtain ⟨k1, k2, k3⟩ := pg_gNs nd ok (show tgsB N sc' tg es = true from h)
      refine ⟨fun pins s σ H v u Q I r hw => ?_⟩
      rcases hw with hw | hw
      · exact (pg_tup hc k1 k2 k3).run pins s σ H v u Q I r hw
      · exact (pg_unl hc k1 k2 k3).run pins s σ H v u Q I r hw
    | _ => simp only [targetB, Bool.false_eq_true] at h
end
end Pv

set_option Elab.async false
set_option linter.all false
set_option maxRecDepth 100000
set_option maxHeartbeats 4000000
namespace Pv
open PySem L2

section
variable {T : Tb} {X : Cx} {g : Gx} {N : List Str} {sc : Scope} {pos : Pos} {a b c : Expr} {fa fb fc : Rho → Store → Res D}
/-! ### max, min of two -/
def r2 (g : Gx) (k : F2) : List V → Hp → VK → Prop := fun vs H Q => ∃ (w : Wd) (v u : V) (x y d : D), vs = [v, u] ∧ w.H = H ∧ Rep w v x ∧ Rep w u y ∧ fn2D k x y = some d ∧ ∀ z, Rep w z d → Q z H
theorem c2_max (hc : X.calm = true) : CallR X (.builtin "max") (r2 g .max) := by
  rintro pins s σ H xs us Q I r ⟨w, v, u, x, y, d, rfl, rfl, rx, ry, e, q⟩
  cases rx <;> cases ry <;> simp only [fn2D, reduceCtorEq, Option.some.injEq] at e
  subst e
  exact call_max2 hc pins s σ _ _ _ Q I r ⟨_, _, rfl, q _ (.int _)⟩
theorem c2_min (hc : X.calm = true) : CallR X (.builtin "min") (r2 g .min) := by
  rintro pins s σ H xs us Q I r ⟨w, v, u, x, y, d, rfl, rfl, rx, ry, e, q⟩
  cases rx <;> cases ry <;> simp only [fn2D, reduceCtorEq, Option.some.injEq] at e
  subst e
  exact call_min2 hc pins s σ _ _ _ Q I r ⟨_, _, rfl, q _ (.int _)⟩
theorem ga_two {k : F2} {σ : St} {H : Hp} {Q : VK} (q : GE g .rep (fun ρ M => (fa ρ M).bind fun x M => (fb ρ M).bind fun y M => Pv.opt (fn2D k x y) M) σ H Q) :
    tCB (r2 g k) (tCons (GE g .rep fa) (tCons (GE g .rep fb) tNil)) σ H Q := by
  refine ge_two (ka := .rep) (kb := .rep) (rel := fun ρ σ => rl g ρ σ .rep) (F := fun ρ x y M => Pv.opt (fn2D k x y) M) (fun z => nomatch z) anti_rl ?_ q
  intro ρ M w w0 w1 v u x y s rx ry af
  obtain ⟨d, ed, a3⟩ := af.optE
  exact ⟨w, v, u, x, y, d, rfl, rfl, rx, ry, ed, fun z r => a3.fin s r⟩
theorem s_fn2 (h : Cok T X g N sc) {k : F2} {x : Str} {p : Pos} (hx : isB sc x (f2N k) = true) (hn : nst a = true) (hn' : nst b = true) (ha : PE X a (GE g .rep fa)) (hb : PE X b (GE g .rep fb)) :
    PE X (.Call (.Name x p) [a, b] [] pos) (GE g .rep fun ρ M => (fa ρ M).bind fun x M => (fb ρ M).bind fun y M => Pv.opt (fn2D k x y) M) := by
  obtain ⟨rfl, e⟩ := isB_of hx
  have pa : PA X [a, b] (tCons (GE g .rep fa) (tCons (GE g .rep fb) tNil)) := pa_cons ha (pa_cons hb pa_nil (star_ok hn')) (star_ok hn)
  have hp : (backTo pos (starEach [b] X.env)).any (·.1) = false := star_any (by simp [hn'])
  have hg := h.gl e
  cases k
  · exact PE.imp (pe_callB (c2_max h.calm) hg (h.blt (by decide)) (by decide +kernel) pa (by decide) (by decide) (star_ok hn) hp) fun _ _ _ q => ga_two q
  · exact PE.imp (pe_callB (c2_min h.calm) hg (h.blt (by decide)) (by decide +kernel) pa (by decide) (by decide) (star_ok hn) hp) fun _ _ _ q => ga_two q

/-! ### isinstance -/
def tyS : Ty → String
  | .int => "int" | .bool => "bool" | .tuple => "tuple" | .str => "str"
theorem tyx_of {K : PySem.W.Frag} {w : Wd} {v : V} {d : D} {t : Ty} {k : Bool} (c : Con w v d) (e : isiD d t = some k) : ∃ u, TyX K w.H v u ∧ PySem.W.kitOne K u (.type (tyS t)) = some k := by
  cases d with
  | non => cases c; refine ⟨_, .base .non, kit_ty ?_⟩; cases t <;> cases e <;> decide +kernel
  | bl b => cases c; refine ⟨_, .base (.bl b), kit_ty ?_⟩; cases t <;> cases e <;> decide +kernel
  | int i => cases c; refine ⟨_, .base (.int i), kit_ty ?_⟩; cases t <;> cases e <;> decide +kernel
  | str x => obtain ⟨rfl, _⟩ := c; refine ⟨_, .base (.str x), kit_ty ?_⟩; cases t <;> cases e <;> decide +kernel
  | tup ds =>
    obtain ⟨p, vs, rfl, hp, _⟩ := c
    obtain ⟨o, _, hp⟩ := hp
    refine ⟨_, .fTuple hp, kit_ty ?_⟩; cases t <;> cases e <;> decide +kernel
  | lst ds =>
    obtain ⟨p, vs, rfl, hp, _⟩ := c
    refine ⟨_, .base (.lst hp), kit_ty ?_⟩; cases t <;> cases e <;> decide +kernel
  | scr ds => cases e
  | dic ds => cases e
  | hnd ds => cases e
  | obj _ _ => cases e
  | lck _ => cases e
theorem s_isi (h : Cok T X g N sc) {t : Ty} {ka : RK} {x y : Str} {p p2 : Pos} (hx : isB sc x "isinstance" = true) (hy : isB sc y (tyN t) = true) (hn : nst a = true) (ha : PE X a (GE g ka fa)) :
    PE X (.Call (.Name x p) [a, .Name y p2] [] pos) (GE g .rep fun ρ M => (fa ρ M).bind fun x M => Pv.opt ((isiD x t).map .bl) M) := by
  obtain ⟨rfl, e⟩ := isB_of hx
  obtain ⟨rfl, e2⟩ := isB_of hy
  have hg := h.gl e
  have hg2 := h.gl e2
  have pt : PE X (.Name (tyN t) p2) (tC (.ty (tyS t))) := by
    cases t
    · exact pe_bltn (u := .type "int") hg2 (h.blt (by decide)) (by decide +kernel) rfl (by decide) (by decide)
    · exact pe_bltn (u := .type "bool") hg2 (h.blt (by decide)) (by decide +kernel) rfl (by decide) (by decide)
    · exact pe_bltn (u := .type "tuple") hg2 (h.blt (by decide)) (by decide +kernel) rfl (by decide) (by decide)
    · exact pe_bltn (u := .type "str") hg2 (h.blt (by decide)) (by decide +kernel) rfl (by decide) (by decide)
  have pa : PA X [a, .Name (tyN t) p2] (tCons (GE g ka fa) (tCons (tC (.ty (tyS t))) tNil)) := pa_cons ha (pa_cons pt pa_nil rfl) (star_ok hn)
  refine PE.imp (pe_callB call_isi hg (h.blt (by decide)) (by decide +kernel) pa (by decide) (by decide) (star_ok hn) rfl) fun σ H Q q => ?_
  refine ge_one (ka := ka) (rel := fun ρ σ => rl g ρ σ .rep) (F := fun ρ x M => Pv.opt ((isiD x t).map .bl) M) anti_rl ?_ q
  intro ρ M w w0 v x s ex r af
  obtain ⟨d, ed, a3⟩ := af.optE
  obtain ⟨k, e3, rfl⟩ := Option.map_eq_some_iff.mp ed
  obtain ⟨u, h1, h2⟩ := tyx_of (K := X.K) (con_dr s r (not_hnd (f := fun d => isiD d t) e3 fun n => rfl)) e3
  exact ⟨v, _, u, _, k, rfl, .ty _, h1, h2, a3.fin s (.bl k)⟩
theorem t_isi (h : Cok T X g N sc) {t : Ty} {ka : RK} {x y : Str} {p p2 : Pos} (hx : isB sc x "isinstance" = true) (hy : isB sc y (tyN t) = true) (hn : nst a = true) (ha : PE X a (GE g ka fa)) :
    PT X (.Call (.Name x p) [a, .Name y p2] [] pos) (GT g fun ρ M => (fa ρ M).bind fun x M => Pv.opt (isiD x t) M) := by
  refine PT.imp (t_truth h.kk rfl (s_isi h hx hy hn ha)) ?_
  rintro σ H Q ⟨ρ, M, w, e, s, af⟩
  refine ⟨ρ, M, w, e, s, ?_⟩
  show Aft g _ w ρ σ Q (truR ((fa ρ M).bind fun x M => Pv.opt ((isiD x t).map D.bl) M))
  have e2 : truR ((fa ρ M).bind fun x M => Pv.opt ((isiD x t).map D.bl) M) = ((fa ρ M).bind fun x M => Pv.opt (isiD x t) M) := by
    unfold truR
    cases fa ρ M with
    | ok d M1 =>
      show ((Pv.opt ((isiD d t).map D.bl) M1).bind _) = Pv.opt (isiD d t) M1
      cases isiD d t <;> rfl
    | _ => rfl
  rw [e2]; exact af

/-! ### methods -/
theorem pe_bmP {o e : Expr} {es : List Expr} {name : Str} {apos cpos : Pos} {to : TE} {t : TA} (ho : PE X o to) (ha : PA X (e :: es) t)
    (hbase : attributeBase o name X.env (eval o X.env) = eval o X.env)
    (hfew : ((backTo cpos (starEach (e :: es) X.env)).all (fun x => !x.1) && (backToKw cpos (keywordEach [] X.env)).all (fun x => x.1.isSome)
      && decide ((e :: es).length + ([] : List Keyword).length + (if ([] : List Keyword).isEmpty then 0 else 1) < 30)) = true)
    (hline : (apos.endLine == cpos.line) = true) (hs : starEach (e :: es) X.env = (false, eval e X.env) :: starEach es X.env) (hplain : (backTo cpos (starEach es X.env)).any (·.1) = false) :
    PE X (.Call (.Attribute o name apos) (e :: es) [] cpos) (fun σ H Q => to σ H fun x H1 => ∃ (T id : String) (r : V → List V → Hp → VK → Prop), PlainAttrs T ∧ PySem.Slot T name id ∧ typeOf (.builtin id) = pure (.type "method_descriptor") ∧ MtR X id r ∧ tyV X.K T x H1 ∧ t σ H1 fun xs H2 => r x xs H2 Q) := by
  refine ⟨fun pins s σ H Q I h => ?_⟩
  refine wpAny_Call_method_late hbase hfew hline rfl (thn (ho.run pins s σ H _ I h) fun v s1 ⟨x, H1, I1, r1, T, id, r, pa, slot, hty, hm, ty, q1⟩ => ?_)
  obtain ⟨h1, h2⟩ := tyV_is I1 r1 ty
  refine ⟨T, id, pa, slot, hty, h1, h2, ?_⟩
  have hA := ha.run cpos pins s1 σ H1 _ I1 q1
  rw [hs] at hA ⊢
  refine Calls.callWith_builtin (by show (false || (backTo cpos (starEach es X.env)).any (·.1)) = false; rw [hplain] <;> rfl) (Calls.evalArgs_plain ?_)
  exact thn hA fun us s2 ⟨vs, H2, I2, r2, q2⟩ => hm pins s2 σ H2 x vs v us Q I2 r1 r2 q2
def rM (k : M1) : V → List V → Hp → VK → Prop := fun v vs H Q => ∃ (w : Wd) (u : V) (x y d : D), vs = [u] ∧ w.H = H ∧ Con w v x ∧ Rep w u y ∧ meth1D k x y = some d ∧ ∀ z, Rep w z d → Q z H
theorem join_len (a : Str) (ys : List Str) : (Txt.join a ys).length ≤ (ys.map (·.length)).sum + ys.length * a.length := by
  have h := TL.tl_join a ys
  rw [TL.join_eq]
  have h2 : (Str.join a ys).length = (TL.tl (Str.join a ys)).length := rfl
  have key : ∀ (S : List Nat) (ps : List (List Nat)), (TL.joinL S ps).length ≤ (ps.map List.length).sum + ps.length * S.length := by
    intro S ps
    induction ps with
    | nil => simp [TL.joinL]
    | cons p ps ih =>
      cases ps with
      | nil => simp [TL.joinL]
      | cons q r =>
        simp only [TL.joinL, List.length_append, List.map_cons, List.sum_cons, List.length_cons] at ih ⊢
        have : (r.length + 1 + 1) * S.length = (r.length + 1) * S.length + S.length := by rw [Nat.add_mul]; omega
        omega
  rw [h2, h]
  have k := key (TL.tl a) (ys.map TL.tl)
  rw [List.length_map, List.map_map] at k
  exact k
theorem m_join : MtR X "str.join" (rM .join) := by
  rintro pins s σ H x xs v us Q I rx rs ⟨w, u, a, b, d, rfl, rfl, ra, rb, e, q⟩
  cases a <;> cases rb <;> simp only [meth1D, reduceCtorEq] at e
  split at e
  · rename_i ys hy
    simp only [Option.ite_none_right_eq_some, Option.some.injEq] at e
    obtain ⟨hz, rfl⟩ := e
    rename_i sp p vs ds f hp rr _
    have hv := rr.strs hy
    subst hv
    obtain ⟨rfl, _⟩ := ra
    refine mt_join pins s σ _ _ _ _ _ Q I rx rs ⟨_, p, ys, rfl, rfl, .inl (SqL.of hp), hz, q _ (.str _ (Nat.le_trans (join_len _ _) hz))⟩
  · cases e
theorem m_count : MtR X "str.count" (fun v vs H Q => rM .count v vs H Q ∧ ∃ z, v = .str z) := by
  rintro pins s σ H x xs v us Q I rx rs ⟨⟨w, u, a, b, d, rfl, rfl, ra, rb, e, q⟩, z, rfl⟩
  cases a <;> try (first | (cases ra; done) | (obtain ⟨p, ra, _⟩ := ra; cases ra; done) | (obtain ⟨p, vs, ra, _⟩ := ra; cases ra; done) | (obtain ⟨p, o, vs, ra, _⟩ := ra; cases ra; done))
  · obtain ⟨ra, hz⟩ := ra
    cases ra
    cases rb <;> simp only [meth1D, reduceCtorEq, Option.some.injEq] at e
    subst e
    exact mt_count pins s σ _ _ _ _ _ Q I rx rs ⟨_, _, rfl, rfl, q _ (.int _)⟩
theorem countV {x : V} : ∀ {xs : List V} {us : List Value}, Vals xs us → xs.all flatV = true → us.countP (eqU x) = xs.countP fun y => eqV y x
  | _, _, .nil, _ => rfl
  | y :: xs, u :: us, .cons r t, f => by
    rw [List.all_cons, Bool.and_eq_true] at f
    rw [List.countP_cons, List.countP_cons, countV t f.2]
    have := any_eqU (x := x) (xs := [y]) (us := [u]) (.cons r .nil) (by simp [f.1])
    simp only [List.any_cons, List.any_nil, Bool.or_false] at this
    rw [this]
theorem countD {w : Wd} {v : V} {d : D} (r : Rep w v d) (k : flatD d = true) : ∀ {vs : List V} {ds : List D}, Reps w vs ds → ds.all flatD = true → (vs.countP fun y => eqV y v) = ds.countP fun y => eqD y d
  | _, _, .nil, _ => rfl
  | _, _, .cons q t, h => by
    rw [List.all_cons, Bool.and_eq_true] at h
    rw [List.countP_cons, List.countP_cons, countD r k t h.2, eqV_of q r h.1 k]
theorem m_lcount : MtR X "list.count" (fun v vs H Q => rM .count v vs H Q ∧ ∃ z, v = .ref z) := by
  rintro pins s σ H x xs v us Q I rx rs ⟨⟨w, u, a, b, d, rfl, rfl, ra, rb, e, q⟩, z, rfl⟩
  cases a <;> simp only [meth1D, reduceCtorEq] at e
  · obtain ⟨ra, _⟩ := ra; cases ra
  · simp only [Option.ite_none_right_eq_some, Bool.and_eq_true, Option.some.injEq] at e
    obtain ⟨⟨e1, e2⟩, rfl⟩ := e
    obtain ⟨p, vs, hz, hp, rr⟩ := ra
    cases hz
    cases rx
    obtain ⟨uv, rfl, ru⟩ := rs.one
    obtain ⟨its, rv, ⟨⟨cls, dd, data, sl⟩, n, ho, hc, hdn, hd⟩, hlen⟩ := I.list (SqL.of hp)
    simp only at hc hd
    subst hc hd
    refine call_meets PySem.F.slot_list_count ⟨_, ho, rfl⟩ PySem.F.entry_list_count (PySem.F.args_list_count_2 _ _)
      (SeqAt.list_countAt z its.toArray n dd sl uv (eqU u)) ⟨ho, fun y hy => mem_eqAt ru (flat_of rb e1) rv (flats_of rr e2) y (by simpa using hy), ?_⟩
    refine ⟨.int (Int.ofNat (its.countP (eqU u))), _, I.tok _, ⟨s.toks, ?_⟩, ?_⟩
    · show Value.int ((its.toArray.toList.countP (eqU u) : Nat) : Int) s.toks = _
      rw [List.toList_toArray]; rfl
    · rw [countV rv (flats_of rr e2), countD rb e1 rr e2]
      exact q _ (.int _)
theorem m_get (hu : X.A.units + 1 < cLine) : MtR X "dict.get" (rM .get) := by
  rintro pins s σ H x xs v us Q I rx rs ⟨w, u, a, b, d, rfl, rfl, ra, rb, e, q⟩
  cases a <;> simp only [meth1D, reduceCtorEq] at e
  split at e
  · rename_i kvs _ key hk
    cases e
    obtain ⟨p, kvs', rfl, hp, e1, e2⟩ := ra
    cases rx
    have ex := keyOf_V rb hk
    subst ex
    obtain ⟨uv, rfl, ru⟩ := rs.one
    refine d_get1 hu I (DGet.k (k := key) hp) ru fun w' s' I' rw' => ⟨_, _, I', rw', q _ ?_⟩
    have := look_of key e1 e2
    cases q' : lookK kvs key with
    | none => rw [q'] at this; rw [this]; exact .non
    | some d =>
      rw [q'] at this
      obtain ⟨v', hv, hr⟩ := this
      rw [hv]; exact hr
  · cases e
def rM2 : V → List V → Hp → VK → Prop := fun v vs H Q => ∃ (w : Wd) (u t : V) (x y z d : D), vs = [u, t] ∧ w.H = H ∧ Con w v x ∧ Rep w u y ∧ Rep w t z ∧ get2D x y z = some d ∧ ∀ z, Rep w z d → Q z H
theorem m_get2 (hu : X.A.units + 1 < cLine) : MtR X "dict.get" rM2 := by
  rintro pins s σ H x xs v us Q I rx rs ⟨w, u, t, a, b, c, d, rfl, rfl, ra, rb, rc, e, q⟩
  cases a <;> simp only [get2D, reduceCtorEq] at e
  split at e
  · rename_i kvs _ key hk
    cases e
    obtain ⟨p, kvs', rfl, hp, e1, e2⟩ := ra
    cases rx
    have ex := keyOf_V rb hk
    subst ex
    obtain ⟨uv, tv, rfl, ru, rt⟩ := vals2 rs
    refine d_get2 hu I (DGet.k (k := key) hp) ru rt fun w' s' I' rw' => ⟨_, _, I', rw', q _ ?_⟩
    have := look_of key e1 e2
    cases q' : lookK kvs key with
    | none => rw [q'] at this; rw [this]; exact rc
    | some d =>
      rw [q'] at this
      obtain ⟨v', hv, hr⟩ := this
      rw [hv]; exact hr
  · cases e
theorem few1 {e : Expr} {env : PySem.Env} (hn : nst e = true) : ((backTo pos (starEach [e] env)).all (fun x => !x.1) && (backToKw pos (keywordEach [] env)).all (fun x => x.1.isSome)
      && decide ([e].length + ([] : List Keyword).length + (if ([] : List Keyword).isEmpty then 0 else 1) < 30)) = true := by
  rw [star_ok hn]; rfl
theorem few2 {e f : Expr} {env : PySem.Env} (hn : nst e = true) (hn' : nst f = true) : ((backTo pos (starEach [e, f] env)).all (fun x => !x.1) && (backToKw pos (keywordEach [] env)).all (fun x => x.1.isSome)
      && decide ([e, f].length + ([] : List Keyword).length + (if ([] : List Keyword).isEmpty then 0 else 1) < 30)) = true := by
  rw [star_ok hn, star_ok hn']; rfl
theorem tyV_tuple {w : Wd} {K : PySem.W.Frag} {p : Addr} {vs : List V} (h : w.H p = some (.lst vs)) : tyV K "list" (.ref p) w.H := .inl ⟨rfl, _, SqL.of h⟩
theorem s_meth1 (h : Cok T X g N sc) {k : M1} {ka : RK} {apos : Pos} (hk : ka ≠ .frs) (hn : nst b = true) (ho : ncall a = true) (hl : (apos.endLine == pos.line) = true) (ha : PE X a (GE g ka fa)) (hb : PE X b (GE g .rep fb)) :
    PE X (.Call (.Attribute a (m1N k) apos) [b] [] pos) (GE g .rep fun ρ M => (fa ρ M).bind fun x M => match recvB k (dr M x) with
      | true => (fb ρ M).bind fun y M => Pv.opt (meth1D k (dr M x) y) M
      | false => .fail) := by
  refine PE.imp (pe_bmP (t := tCons (GE g .rep fb) tNil) ha (pa_cons hb pa_nil (star_ok hn)) (ncall_ok ho) (few1 hn) hl (star_ok hn) rfl) fun σ H Q q => ?_
  refine ge_one (ka := ka) (rel := fun ρ σ => rl g ρ σ .rep) (F := fun ρ x M => match recvB k (dr M x) with
      | true => (fb ρ M).bind fun y M => Pv.opt (meth1D k (dr M x) y) M
      | false => .fail) anti_rl ?_ q
  intro ρ M w w0 v x s ex r af
  have fin : ∀ (Z : V → List V → Hp → VK → Prop), (∀ vs H, rM k v vs H Q → Z v vs H Q) → recvB k (dr M x) = true → tCons (GE g .rep fb) tNil σ w.H (fun xs H2 => Z v xs H2 Q) := by
    intro Z hZ hr
    rw [hr] at af
    refine ⟨ρ, M, w, rfl, s, Aft.mono (Aft.bind af fun w1 ex => anti_rl (k := .rep) (σ := σ) ρ w w1 ex) ?_⟩
    rintro u H1 ⟨y, M1, w1, e1, ex1, s1, r1, a1⟩
    obtain ⟨d, ed, a3⟩ := a1.optE
    subst e1
    exact hZ [u] _ ⟨w1, u, dr M1 x, y, d, rfl, rfl, s1.con (rl_keep hk ex1 s.wf r), r1, ed, fun z rz => a3.fin s1 rz⟩
  have c := s.con r
  generalize dr M x = x' at c fin af
  cases k <;> cases x' <;> first | exact af.elim | skip
  · -- join
    obtain ⟨rfl, _⟩ := c
    exact ⟨"str", _, rM .join, PySem.F.plainAttrs_str, PySem.F.slot_str_join, PySem.F.type_str_join, m_join, rfl, fin _ (fun _ _ h => h) rfl⟩
  · obtain ⟨rfl, _⟩ := c
    exact ⟨"str", _, _, PySem.F.plainAttrs_str, PySem.F.slot_str_count, PySem.F.type_str_count, m_count, rfl, fin (fun v vs H Q => rM .count v vs H Q ∧ ∃ z, v = .str z) (fun _ _ h => ⟨h, _, rfl⟩) rfl⟩
  · obtain ⟨p, vs, rfl, hp, _⟩ := c
    exact ⟨"list", _, _, PySem.F.plainAttrs_list, PySem.F.slot_list_count, PySem.F.type_list_count, m_lcount, .inl ⟨rfl, _, SqL.of hp⟩, fin (fun v vs H Q => rM .count v vs H Q ∧ ∃ z, v = .ref z) (fun _ _ h => ⟨h, _, rfl⟩) rfl⟩
  · obtain ⟨p, kvs, rfl, hp, _⟩ := c
    exact ⟨"dict", _, rM .get, PySem.F.plainAttrs_dict, PySem.F.slot_dict_get, PySem.F.type_dict_get, m_get h.hu, .inr (.inr (.inl ⟨rfl, .inl ⟨_, hp⟩⟩)), fin _ (fun _ _ h => h) rfl⟩
end
end Pv

set_option Elab.async false
set_option linter.all false
set_option maxRecDepth 100000
set_option maxHeartbeats 4000000
namespace Pv
open PySem L2

section
variable {T : Tb} {X : Cx} {g : Gx} {N : List Str} {sc : Scope} {pos : Pos} {a b c : Expr} {fa fb fc : Rho → Store → Res D}
theorem s_get2 (h : Cok T X g N sc) {ka : RK} {apos : Pos} (hk : ka ≠ .frs) (hn : nst b = true) (hn' : nst c = true) (ho : ncall a = true) (hl : (apos.endLine == pos.line) = true) (ha : PE X a (GE g ka fa)) (hb : PE X b (GE g .rep fb)) (hc : PE X c (GE g .rep fc)) :
    PE X (.Call (.Attribute a "get" apos) [b, c] [] pos) (GE g .rep fun ρ M => (fa ρ M).bind fun x M => match recvB .get (dr M x) with
      | true => (fb ρ M).bind fun y M => (fc ρ M).bind fun z M => Pv.opt (get2D (dr M x) y z) M
      | false => .fail) := by
  refine PE.imp (pe_bmP (t := tCons (GE g .rep fb) (tCons (GE g .rep fc) tNil)) ha (pa_cons hb (pa_cons hc pa_nil (star_ok hn')) (star_ok hn)) (ncall_ok ho) (few2 hn hn') hl (star_ok hn) (star_any (by simp [hn']))) fun σ H Q q => ?_
  refine ge_one (ka := ka) (rel := fun ρ σ => rl g ρ σ .rep) (F := fun ρ x M => match recvB .get (dr M x) with
      | true => (fb ρ M).bind fun y M => (fc ρ M).bind fun z M => Pv.opt (get2D (dr M x) y z) M
      | false => .fail) anti_rl ?_ q
  intro ρ M w w0 v x s ex r af
  have cc := s.con r
  cases hx : dr M x <;> rw [hx] at af cc <;> first | exact af.elim | skip
  rename_i kvs
  obtain ⟨p, kvs', rfl, hp, _⟩ := cc
  refine ⟨"dict", _, rM2, PySem.F.plainAttrs_dict, PySem.F.slot_dict_get, PySem.F.type_dict_get, m_get2 h.hu, .inr (.inr (.inl ⟨rfl, .inl ⟨_, hp⟩⟩)), ?_⟩
  have af : Aft g (rl g ρ σ .rep) w ρ σ Q ((fb ρ M).bind fun y M => (fc ρ M).bind fun z M => Pv.opt (get2D (dr M x) y z) M) := af
  refine ⟨ρ, M, w, rfl, s, Aft.mono (Aft.bind af fun w1 ex => anti_rl (k := .rep) (σ := σ) ρ w w1 ex) ?_⟩
  rintro u H1 ⟨y, M1, w1, e1, ex1, s1, r1, a1⟩
  refine ⟨ρ, M1, w1, e1, s1, Aft.mono (Aft.bind a1 fun w2 ex => anti_rl (k := .rep) (σ := σ) ρ w1 w2 ex) ?_⟩
  rintro t H2 ⟨z, M2, w2, e2, ex2, s2, r2, a2⟩
  obtain ⟨d, ed, a3⟩ := a2.optE
  subst e2
  exact ⟨w2, u, t, _, y, z, d, rfl, rfl, s2.con (rl_keep hk ex2 s1.wf (rl_keep hk ex1 s.wf r)), Rep.mono (ex2.wle s1.wf) r1, r2, ed, fun z rz => a3.fin s2 rz⟩

/-! ### list(..), sorted(..): fresh things -/
def rF (g : Gx) (k : FF) : List V → Hp → VK → Prop := fun vs H Q => ∃ (σ : St) (ρ : Rho) (M : Store) (w : Wd) (v : V) (a d : D), vs = [v] ∧ w.H = H ∧ Sr g.w0 ρ M w σ ∧ Con w v a ∧ ffD k a = some d ∧ Aft g (rl g ρ σ .frs) w ρ σ Q (.ok d M)
theorem kV_rep {w : Wd} (k : Key) (h : ∀ x, k = .inr x → x.length ≤ LIM) : Rep w (kV k) (dK k) := by
  cases k with
  | inl i => exact .int i
  | inr x => exact .str x (h x rfl)
/-! ### what is walked -/
structure Wk (K : PySem.W.Frag) (tt : Bool) (w : Wd) (J : It) (ds : List D) : Prop where
  len : ds.length ≤ LIM
  ex : ∃ (G : Hp → Prop) (Y : Nat → Hp → V → Hp → Prop), Walk J ds.length G Y ∧ (∀ w2, Wle w w2 → G w2.H) ∧
    ∀ (i : Nat) (w2 : Wd) (x : V) (H' : Hp) (d : D), ds[i]? = some d → Wle w w2 → Wf w2 → Y i w2.H x H' → ∃ w3, w3.H = H' ∧ Ext w2 w3 ∧ Wf w3 ∧ (∀ M, Sto w2 M → Sto w3 M) ∧ RI tt w3 x d
def GI (g : Gx) (K : PySem.W.Frag) (tt : Bool) (f : Rho → Store → Res (List D)) : TI := fun σ H R => ∃ ρ M w, w.H = H ∧ Sr g.w0 ρ M w σ ∧ Aft g (fun _ w' J ds => Wk K tt w' J ds) w ρ σ R (f ρ M)
structure WkE (K : PySem.W.Frag) (tt : Bool) (w : Wd) (J : It) (ds : List D) : Prop where
  len : ds.length ≤ LIM
  ex : ∃ (G : Hp → Prop) (Y : Nat → Hp → V → Hp → Prop), Walk J ds.length G Y ∧ (∀ w2, Ext w w2 → G w2.H) ∧
    ∀ (i : Nat) (w2 : Wd) (x : V) (H' : Hp) (d : D), ds[i]? = some d → Wle w w2 → Wf w2 → Y i w2.H x H' → ∃ w3, w3.H = H' ∧ Ext w2 w3 ∧ Wf w3 ∧ (∀ M, Sto w2 M → Sto w3 M) ∧ RI tt w3 x d
theorem Wk.toE {K : PySem.W.Frag} {tt : Bool} {w : Wd} {J : It} {ds : List D} (h : Wk K tt w J ds) (f : Wf w) : WkE K tt w J ds := by
  obtain ⟨hl, G, Y, h1, h2, h3⟩ := h
  exact ⟨hl, G, Y, h1, fun w2 e => h2 w2 (e.wle f), h3⟩
/-- what is walked within an expression: things of one's own, too -/
def GIe (g : Gx) (K : PySem.W.Frag) (tt : Bool) (f : Rho → Store → Res (List D)) : TI := fun σ H R => ∃ ρ M w, w.H = H ∧ Sr g.w0 ρ M w σ ∧ Aft g (fun _ w' J ds => WkE K tt w' J ds) w ρ σ R (f ρ M)
theorem GIe.gi {g : Gx} {K : PySem.W.Frag} {tt : Bool} {f : Rho → Store → Res (List D)} {σ : St} {H : Hp} {R : It → Hp → Prop} (h : GIe g K tt f σ H R) : GI g K tt f σ H R := by
  obtain ⟨ρ, M, w, e, s, a⟩ := h
  refine ⟨ρ, M, w, e, s, ?_⟩
  cases q : f ρ M with
  | ok d M' => rw [q] at a; exact fun v w' e s r => a v w' e s (r.toE s.wf)
  | exc c M' => rw [q] at a; exact a
  | fail => rw [q] at a; exact a
theorem PI.imp {tg e : Expr} {t t' : TI} (h : PI X tg e t) (k : ∀ σ H R, t' σ H R → t σ H R) : PI X tg e t' := ⟨fun pins s σ H R I q => h.run pins s σ H R I (k σ H R q)⟩
theorem anti_w {K : PySem.W.Frag} {tt : Bool} {σ : St} : ∀ (ρ : Rho) (w w1 : Wd), Ext w w1 → ∀ (w' : Wd) (J : It) (ds : List D), Wk K tt w' J ds → Wk K tt w' J ds := fun _ _ _ _ _ _ _ h => h
theorem wk_seq {K : PySem.W.Frag} {tt : Bool} {w : Wd} {J : It} {vs : List V} {ds : List D} {G : Hp → Prop} (hl : ds.length ≤ LIM) (r : Reps w vs ds) (W : Walk J vs.length G (YAt vs)) (hG : ∀ w2, Wle w w2 → G w2.H) : Wk K tt w J ds := by
  refine ⟨hl, G, YAt vs, by rw [← r.length]; exact W, hG, fun i w2 x H' d hd le wf y => ?_⟩
  obtain ⟨rfl, hx⟩ := y
  obtain ⟨v, h1, h2⟩ := r.get hd
  rw [hx] at h1; cases h1
  exact ⟨w2, rfl, Ext.refl _, wf, fun _ h => h, .inl (h2.mono le)⟩
theorem signs_rep {w : Wd} : ∀ cs : List Nat, Reps w (cs.map fun c => V.str ⟨#[c]⟩) (cs.map fun c => D.str ⟨#[c]⟩)
  | [] => .nil
  | c :: cs => .cons (.str _ (by show 1 ≤ LIM; decide)) (signs_rep cs)
theorem i_seq {tt : Bool} (hK : g.w0.K = X.K) {tg : Expr} (ha : PE X a (GE g .rep fa)) : PI X tg a (GI g X.K tt fun ρ M => (fa ρ M).bind fun x M => Pv.opt (itemsD x) M) := by
  refine ⟨fun pins s σ H R I h => ?_⟩
  have q : GE g .rep fa σ H (fun v H1 => ∃ (ρ : Rho) (M : Store) (w : Wd) (x : D) (ds : List D), w.H = H1 ∧ Sr g.w0 ρ M w σ ∧ Rep w v x ∧ itemsD x = some ds ∧ Aft g (fun _ w' J ds => Wk X.K tt w' J ds) w ρ σ R (.ok ds M)) := by
    refine ge_one (ka := .rep) (rel := fun ρ σ => fun _ w' J ds => Wk X.K tt w' J ds) (F := fun ρ x M => Pv.opt (itemsD x) M) (anti_w (σ := σ)) ?_ h
    intro ρ M w w0 v x s ex r af
    obtain ⟨ds, ed, a3⟩ := Aft.opt af
    exact ⟨ρ, M, w, x, ds, rfl, s, r, ed, a3⟩
  refine thn (ha.run pins s σ H _ I q) fun v s1 ⟨x', H1, I1, r1, ρ, M, w, x, ds, e1, sr, r, ed, af⟩ => ?_
  subst e1
  cases r <;> simp only [itemsD, reduceCtorEq, Option.some.injEq] at ed <;> subst ed
  · rename_i z hz
    obtain ⟨t, rfl⟩ := r1
    have hR : R (Its z) w.H := by
      refine af.fin sr (wk_seq (vs := z.cps.toList.map fun c => V.str ⟨#[c]⟩) (G := fun _ => True) (by rw [List.length_map, Array.length_toList]; exact hz) (signs_rep _) ?_ fun _ _ => trivial)
      have W := walk_str (z := z)
      rw [List.length_map, Array.length_toList]
      refine W.mono (fun _ h => h) fun i H x H' hi _ y => ?_
      obtain ⟨e, c, hc, rfl⟩ := y
      refine ⟨e, ?_⟩
      rw [List.getElem?_map, Array.getElem?_toList, hc]; rfl
    cases ha' : z.cps.all (· < 128)
    · exact wpAny_pyIter_wide ha' (pi_one (tk := s1.toks) I1 _ (turn_str _ z t "str_iterator" (.inr rfl)) ⟨_, Heap.get?_push_size _ rfl, rfl, rfl⟩ hR)
    · exact wpAny_pyIter_ascii ha' (pi_one (tk := s1.toks) I1 _ (turn_str _ z t "str_ascii_iterator" (.inl rfl)) ⟨_, Heap.get?_push_size _ rfl, rfl, rfl⟩ hR)
  · rename_i p vs ds f hp rr
    cases r1
    obtain ⟨its, rv, pl, hz⟩ := I1.tuple hp.sq
    have hR : R (Itt X.K p) w.H := af.fin sr (wk_seq (by rw [← rr.length]; exact hz) rr walk_tup fun w2 le => (hp.eq (le.F p f).2).sq)
    exact wpAny_pyIter_tuple (show s1.heap.IsTuple p its.toArray from pl) (pi_one (tk := s1.toks) I1 _ (turn_tuple p _) ⟨_, Heap.get?_push_size _ rfl, rfl, rfl⟩ hR)
  · rename_i p vs ds f hp rr
    cases r1
    obtain ⟨its, rv, pl, hz⟩ := I1.list (SqL.of hp)
    have hR : R (Itl X.K p) w.H := af.fin sr (wk_seq (by rw [← rr.length]; exact hz) rr walk_list fun w2 le => SqL.of ((le.F p f).2.trans hp))
    exact wpAny_pyIter_list pl.isList (pi_one (tk := s1.toks) I1 _ (turn_list p _) ⟨_, Heap.get?_push_size _ rfl, rfl, rfl⟩ hR)
  · rename_i p o vs ds f hp rr
    cases r1
    have hs : SqL X.K w.H p vs := .inl (.inr ⟨o, hp⟩)
    obtain ⟨its, rv, pl, hz⟩ := I1.list hs
    have hR : R (Itl X.K p) w.H := af.fin sr (wk_seq (by rw [← rr.length]; exact hz) rr walk_list fun w2 le => .inl (.inr ⟨o, (le.F p f).2.trans hp⟩))
    exact wpAny_pyIter_list pl.isList (pi_one (tk := s1.toks) I1 _ (turn_list p _) ⟨_, Heap.get?_push_size _ rfl, rfl, rfl⟩ hR)
  · rename_i p vs ds hp rr
    cases r1
    have hp' : KLst X.K p vs := by rw [← hK, ← sr.e0.K]; exact hp
    have hs : SqL X.K w.H p vs := .inr hp'
    obtain ⟨its, rv, pl, hz⟩ := I1.list hs
    have hR : R (Itl X.K p) w.H := af.fin sr (wk_seq (by rw [← rr.length]; exact hz) rr walk_list fun w2 le => .inr hp')
    exact wpAny_pyIter_list pl.isList (pi_one (tk := s1.toks) I1 _ (turn_list p _) ⟨_, Heap.get?_push_size _ rfl, rfl, rfl⟩ hR)
/-- a list of one's own -/
theorem i_own {tt : Bool} (h : Cok T X g N sc) {tg : Expr} {i : Nat} (ha : PE X a (tVar i)) : PI X tg a (GIe g X.K tt fun ρ M => match ρ[i]? with
    | some (.ow (.lst ds)) => .ok ds M
    | _ => .fail) := by
  refine ⟨fun pins s σ H R I q => ?_⟩
  obtain ⟨ρ, M, w, rfl, sr, af⟩ := q
  dsimp only at af
  split at af
  · rename_i ds hi
    obtain ⟨p, hq, ⟨vs, hp, rr⟩, nF, nA, n0⟩ := sr.ow i _ hi
    refine thn (ha.run pins s σ w.H (fun v H1 => v = .ref p ∧ H1 = w.H) I ⟨.ref p, hq, rfl, rfl⟩) fun v s1 ⟨x', H1, I1, r1, e1, e2⟩ => ?_
    subst e1 e2
    cases r1
    obtain ⟨its, rv, pl, hz⟩ := I1.list (SqL.of hp)
    have hR : R (Itl X.K p) w.H := by
      refine af (Itl X.K p) w (Ext.refl w) sr ⟨by rw [← rr.length]; exact hz, fun H => SqL X.K H p vs, YAt vs, by rw [← rr.length]; exact walk_list, fun w2 ex => SqL.of (ex.H p _ hp nA), fun j w2 x H' d hl le wf y => ?_⟩
      obtain ⟨rfl, hx⟩ := y
      obtain ⟨v, h1, h2⟩ := rr.get hl
      rw [hx] at h1; cases h1
      exact ⟨w2, rfl, Ext.refl _, wf, fun _ h => h, .inl (h2.mono le)⟩
    exact wpAny_pyIter_list pl.isList (pi_one (tk := s1.toks) I1 _ (turn_list p _) ⟨_, Heap.get?_push_size _ rfl, rfl, rfl⟩ hR)
  · exact af.elim
/-! ranges -/
theorem reps_range {w : Wd} (lo : Int) (n : Nat) : Reps w ((List.range n).map fun (k : Nat) => V.int (lo + k)) (rangeL lo n) := by
  unfold rangeL
  generalize List.range n = l
  induction l with
  | nil => exact .nil
  | cons k l ih => exact .cons (.int _) ih
theorem wk_range {K : PySem.W.Frag} {tt : Bool} {w : Wd} {lo : Int} {n : Nat} (h : n ≤ LIM) : Wk K tt w (Itr lo n) (rangeL lo n) := by
  have hl : (rangeL lo n).length = n := by simp [rangeL]
  refine ⟨by rw [hl]; exact h, fun _ => True, YFn fun i => .int (lo + i), by rw [hl]; exact walk_range, fun _ _ => trivial, fun i w2 x H' d hd le wf y => ?_⟩
  obtain ⟨rfl, rfl⟩ := y
  have hi : i < n := by rw [← hl]; exact (List.getElem?_eq_some_iff.mp hd).1
  have : d = .int (lo + i) := by
    unfold rangeL at hd
    rw [List.getElem?_map, List.getElem?_range hi] at hd
    exact (Option.some.inj hd).symm
  subst this
  exact ⟨w2, rfl, Ext.refl _, wf, fun _ h => h, .inl (.int _)⟩
theorem rangeD_of {x y : D} {ds : List D} (h : rangeD x y = some ds) : ∃ i j : Int, x = .int i ∧ y = .int j ∧ (-(2 ^ 62) ≤ i ∧ i < 2 ^ 62 ∧ -(2 ^ 62) ≤ j ∧ j < 2 ^ 62) ∧ (j - i).toNat ≤ LIM ∧ ds = rangeL i (j - i).toNat := by
  cases x <;> cases y <;> simp only [rangeD, reduceCtorEq, Option.ite_none_right_eq_some, Option.some.injEq] at h
  obtain ⟨⟨h1, h2, h3, h4, h5⟩, rfl⟩ := h
  exact ⟨_, _, rfl, rfl, ⟨h1, h2, h3, h4⟩, by omega, rfl⟩
theorem i_range1 {tt : Bool} (h : Cok T X g N sc) {tg : Expr} {x : Str} {p : Pos} (hx : isB sc x "range" = true) (hn : nst a = true) (ha : PE X a (GE g .rep fa)) :
    PI X tg (.Call (.Name x p) [a] [] pos) (GI g X.K tt fun ρ M => (fa ρ M).bind fun x M => Pv.opt (rangeD (.int 0) x) M) := by
  obtain ⟨rfl, e⟩ := isB_of hx
  refine PI.imp (pi_range1 (h.gl e) (h.blt (by decide)) (pa_cons ha pa_nil (star_ok hn)) (star_ok hn)) fun σ H R q => ?_
  refine ge_one (ka := .rep) (rel := fun ρ σ => fun _ w' J ds => Wk X.K tt w' J ds) (F := fun ρ x M => Pv.opt (rangeD (.int 0) x) M) (anti_w (σ := σ)) ?_ q
  intro ρ M w w0 v x s ex r af
  obtain ⟨ds, ed, a3⟩ := Aft.opt af
  obtain ⟨i, j, e1, rfl, e2, e3, rfl⟩ := rangeD_of ed
  cases e1
  cases (show Rep w v (.int j) from r)
  refine ⟨j, rfl, e2.2.2.1, e2.2.2.2, ?_⟩
  have := a3.fin s (wk_range (K := X.K) (tt := tt) (lo := 0) e3)
  simpa using this
theorem i_range2 {tt : Bool} (h : Cok T X g N sc) {tg : Expr} {x : Str} {p : Pos} (hx : isB sc x "range" = true) (hn : nst a = true) (hn' : nst b = true) (ha : PE X a (GE g .rep fa)) (hb : PE X b (GE g .rep fb)) :
    PI X tg (.Call (.Name x p) [a, b] [] pos) (GI g X.K tt fun ρ M => (fa ρ M).bind fun x M => (fb ρ M).bind fun y M => Pv.opt (rangeD x y) M) := by
  obtain ⟨rfl, e⟩ := isB_of hx
  refine PI.imp (pi_range2 (h.gl e) (h.blt (by decide)) (pa_cons ha (pa_cons hb pa_nil (star_ok hn')) (star_ok hn)) (by rw [star_ok hn, star_ok hn']; rfl) (star_ok hn')) fun σ H R q => ?_
  refine ge_two (ka := .rep) (kb := .rep) (rel := fun ρ σ => fun _ w' J ds => Wk X.K tt w' J ds) (F := fun ρ x y M => Pv.opt (rangeD x y) M) (fun z => nomatch z) (anti_w (σ := σ)) ?_ q
  intro ρ M w w0 w1 v u x y s rx ry af
  obtain ⟨ds, ed, a3⟩ := Aft.opt af
  obtain ⟨i, j, rfl, rfl, e2, e3, rfl⟩ := rangeD_of ed
  cases (show Rep w v (.int i) from rx)
  cases (show Rep w u (.int j) from ry)
  exact ⟨i, j, rfl, e2, a3.fin s (wk_range (K := X.K) (tt := tt) e3)⟩
end
end Pv

set_option Elab.async false
set_option linter.all false
set_option maxRecDepth 100000
set_option maxHeartbeats 4000000
/-! ### sorted of tuples whose firsts are unlike ints -/
namespace Pv.Ts
open PySem PyProof.Rows Srt SrtO PySem.W
/-- the first of a tuple's items, an int -/
def fstH (h : Heap) (v : Value) : Int := match v with
  | .ref a => (match h.get? a with
    | some o => (match o.data with
      | .seq xs _ => (match (xs[0]? : Option Value) with
        | some (.int i _) => i
        | _ => 0)
      | _ => 0)
    | none => 0)
  | _ => 0
/-- a tuple with such a first -/
def Fst (h : Heap) (v : Value) (i : Int) : Prop := ∃ a o xs n t, v = .ref a ∧ h.get? a = some o ∧ o.cls = .type "tuple" ∧ o.data = .seq xs n ∧ xs[0]? = some (.int i t)
theorem Fst.keeps {h h' : Heap} {v : Value} {i : Int} (x : Fst h v i) (k : ∀ b o, h.get? b = some o → o.cls = .type "tuple" → h'.get? b = some o) : Fst h' v i := by
  obtain ⟨a, o, xs, n, t, e, ho, hc, r⟩ := x
  exact ⟨a, o, xs, n, t, e, k a o ho hc, hc, r⟩
theorem Fst.key {h : Heap} {v : Value} {i : Int} (x : Fst h v i) : fstH h v = i := by
  obtain ⟨a, o, xs, n, t, rfl, ho, hc, hd, h0⟩ := x
  simp only [fstH, ho, hd, h0]
def ltF (k : Value → Int) (v u : Value) : Bool := decide (k v < k u)
theorem swoF (k : Value → Int) : Swo (ltF k) := by
  refine ⟨fun x y h => ?_, fun x y z h1 h2 => ?_⟩
  · have q := of_decide_eq_true h
    exact decide_eq_false (by omega)
  · have q1 := of_decide_eq_false h1
    have q2 := of_decide_eq_false h2
    exact decide_eq_false (by omega)
section
variable {prog : Program} {w : World} {A : Around} {E : Value → Shared → Prop} {s : Shared}
theorem lex_self {b fin : Bool} {Q : Bool → Shared → Prop} : ∀ (l : List Value) (i : Nat) (s : Shared), Q fin s → KatLex prog w A b fin Q (l.zip l) i s
  | [], i, s, q => kat_nil q
  | v :: l, i, s, q => by
    show KatLex prog w A b fin Q ((v, v) :: l.zip l) i s
    exact kat_cons (SeqAt.EqAt.same v prog w _ _ (kat_yes (lex_self l (i + 1) s q)))
theorem fst_cmp {vs : List Value} {k : Value → Int} (hp : ∀ v ∈ vs, Fst s.heap v (k v)) (hi : ∀ v ∈ vs, ∀ u ∈ vs, k v = k u → v = u) : Cmp prog w A s (tuples' true) (fun p => p.1 ∈ vs) (lt2 (ltF k)) := by
  intro p q hm hm'
  obtain ⟨a, o, xs, n, t, e, ho, hc, hd, h0⟩ := hp _ hm
  obtain ⟨a', o', xs', n', t', e', ho', hc', hd', h0'⟩ := hp _ hm'
  show wpAny (model prog w) A (keyLt' (tuples' true) p.1 q.1) (fun r z => z = s ∧ r = ltF k p.1 q.1) (fun _ _ => False) s
  by_cases eq : k p.1 = k q.1
  · have ev := hi _ hm _ hm' eq
    have er : ltF k p.1 q.1 = false := decide_eq_false (by omega)
    rw [er, ← ev, e]
    refine kat_lt ho hd ho hd ?_
    refine lex_self _ _ _ ⟨rfl, ?_⟩
    exact decide_eq_false (Nat.lt_irrefl _)
  · have hz : ∃ r r', xs.toList = .int (k p.1) t :: r ∧ xs'.toList = .int (k q.1) t' :: r' := by
      rw [← Array.getElem?_toList] at h0 h0'
      cases hx : xs.toList with
      | nil => rw [hx] at h0; cases h0
      | cons x r =>
        cases hy : xs'.toList with
        | nil => rw [hy] at h0'; cases h0'
        | cons y r' =>
          rw [hx] at h0; rw [hy] at h0'
          exact ⟨r, r', by rw [← Option.some.inj h0], by rw [← Option.some.inj h0']⟩
    obtain ⟨r, r', z1, z2⟩ := hz
    generalize hx : k p.1 = x at *
    generalize hy : k q.1 = y at *
    have er : ltF k p.1 q.1 = decide (x < y) := by unfold ltF; rw [hx, hy]
    rw [er, e, e']
    refine kat_lt ho hd ho' hd' ?_
    rw [z1, z2]
    show KatLex prog w A true _ _ ((.int x t, .int y t') :: r.zip r') 0 s
    refine kat_cons (SeqAt.EqAt.int_int x t y t' prog w _ _ ?_)
    refine kat_go (fun e1 => ?_) (fun e1 => ?_)
    · exact absurd (by simpa using e1) eq
    · exact kat_no (oneLt_int ⟨rfl, rfl⟩)
theorem fsts_tups {h : Heap} : ∀ {vs : List Value} {k : Value → Int}, (∀ v ∈ vs, Fst h v (k v)) → ∃ fs, KatTups h vs fs ∧ fs.length = vs.length ∧ ∀ f, f ∈ fs → ∃ n t, f = Value.int n t
  | [], _, _ => ⟨[], KatTups.nil, rfl, fun f hf => by simp at hf⟩
  | v :: vs, k, x => by
    obtain ⟨fs, h1, h2, h3⟩ := fsts_tups fun u hu => x u (List.mem_cons_of_mem _ hu)
    obtain ⟨a, o, xs, n, t, e, ho, hc, hd, h0⟩ := x v List.mem_cons_self
    subst e
    refine ⟨.int _ t :: fs, KatTups.cons ho hc hd h0 h1, by simp [h2], fun f hf => ?_⟩
    rcases List.mem_cons.mp hf with z | z
    · exact ⟨_, _, z⟩
    · exact h3 f z
theorem fst_sortable {a : Addr} {vs : List Value} {k : Value → Int} (h0 : 0 < vs.length) (hp : ∀ v ∈ vs, Fst s.heap v (k v)) (hi : ∀ v ∈ vs, ∀ u ∈ vs, k v = k u → v = u) (ha : ∀ o, s.heap.get? a = some o → o.cls ≠ .type "tuple") :
    SortableO prog w A s a vs (ltF k) := by
  intro h' keep
  have hp' : ∀ v ∈ vs, Fst h' v (k v) := fun v hm => (hp v hm).keeps fun b o e c => keep b o (fun z => by subst z; exact ha o e c) e
  obtain ⟨fs, h1, h2, h3⟩ := fsts_tups hp'
  refine ⟨tuples' true, fun Q E hq => ?_, fst_cmp hp' hi⟩
  refine kat_kind (T := .type "int") h1 (by omega) (fun f hm => ?_) (by rfl) ?_
  · obtain ⟨x, t, rfl⟩ := h3 f hm
    exact Looks.now
  · have z : (Value.type "int" != Value.type "tuple") = true := by first | decide +kernel | rfl | decide
    rw [z]
    exact hq
end
end Pv.Ts
namespace Pv
open PySem L2 PyProof.Rows

theorem inj_of_nodup {α β : Type} (k : α → β) : ∀ {l : List α}, (l.map k).Nodup → ∀ v ∈ l, ∀ u ∈ l, k v = k u → v = u
  | [], _, v, hv, _, _, _ => absurd hv List.not_mem_nil
  | a :: l, nd, v, hv, u, hu, e => by
    rw [List.map_cons, List.nodup_cons] at nd
    rcases List.mem_cons.mp hv with e1 | hv1
    · rcases List.mem_cons.mp hu with e2 | hu1
      · rw [e1, e2]
      · rw [e1] at e
        exact absurd (List.mem_map.mpr ⟨u, hu1, e.symm⟩) nd.1
    · rcases List.mem_cons.mp hu with e2 | hu1
      · rw [e2] at e
        exact absurd (List.mem_map.mpr ⟨v, hv1, e⟩) nd.1
      · exact inj_of_nodup k nd.2 v hv1 u hu1 e
theorem map_inj_on {α β : Type} (k : α → β) {l : List α} (inj : ∀ v ∈ l, ∀ u ∈ l, k v = k u → v = u) : ∀ {a b : List α}, (∀ x ∈ a, x ∈ l) → (∀ x ∈ b, x ∈ l) → a.map k = b.map k → a = b
  | [], [], _, _, _ => rfl
  | [], _ :: _, _, _, e => by cases e
  | _ :: _, [], _, _, e => by cases e
  | x :: a, y :: b, ha, hb, e => by
    rw [List.map_cons, List.map_cons] at e
    injection e with e1 e2
    rw [inj x (ha x List.mem_cons_self) y (hb y List.mem_cons_self) e1, map_inj_on k inj (fun z hz => ha z (List.mem_cons_of_mem _ hz)) (fun z hz => hb z (List.mem_cons_of_mem _ hz)) e2]
def fstV (H : Hp) : V → Int
  | .ref p => match H p with
    | some (.frz _ (.tup (.int i :: _))) => i
    | _ => 0
  | _ => 0
theorem fstD_of {d : D} {i : Int} (e : fstD d = some i) : ∃ ds, d = .tup (.int i :: ds) := by
  unfold fstD at e
  split at e
  · cases e; exact ⟨_, rfl⟩
  · cases e
theorem fst_rep {w : Wd} {v : V} {d : D} {i : Int} (r : Rep w v d) (e : fstD d = some i) : ∃ p vs, v = .ref p ∧ TH w.H p (.int i :: vs) := by
  obtain ⟨ds, rfl⟩ := fstD_of e
  cases r with
  | tup f h rr =>
    cases rr with
    | cons r1 r2 =>
      cases r1
      exact ⟨_, _, rfl, h⟩
theorem fsts_len : ∀ {ds : List D} {ns : List Int}, fstsOf ds = some ns → ns.length = ds.length ∧ ds.map (fun d => (fstD d).getD 0) = ns
  | [], ns, e => by cases e; exact ⟨rfl, rfl⟩
  | d :: ds, ns, e => by
    unfold fstsOf at e
    split at e
    · rename_i i hi
      obtain ⟨l, e1, rfl⟩ := Option.map_eq_some_iff.mp e
      obtain ⟨h1, h2⟩ := fsts_len e1
      exact ⟨by simp [h1], by rw [List.map_cons, h2, hi]; rfl⟩
    · cases e
theorem fsts_rep {w : Wd} : ∀ {vs : List V} {ds : List D} {ns : List Int}, Reps w vs ds → fstsOf ds = some ns → vs.map (fstV w.H) = ns ∧ ∀ v ∈ vs, ∃ p us, v = .ref p ∧ TH w.H p (.int (fstV w.H v) :: us)
  | _, _, ns, .nil, e => by cases e; exact ⟨rfl, fun v h => absurd h List.not_mem_nil⟩
  | _, _, ns, .cons (v := v) (d := d) r t, e => by
    unfold fstsOf at e
    split at e
    · rename_i i hi
      obtain ⟨l, e1, rfl⟩ := Option.map_eq_some_iff.mp e
      obtain ⟨h1, h2⟩ := fsts_rep t e1
      obtain ⟨p, us, rfl, hp⟩ := fst_rep r hi
      have hv : fstV w.H (.ref p) = i := by
        obtain ⟨o, _, hp⟩ := hp
        simp only [fstV, hp]
      refine ⟨by rw [List.map_cons, h1, hv], fun u hu => ?_⟩
      rcases List.mem_cons.mp hu with rfl | hu
      · exact ⟨p, us, rfl, by rw [hv]; exact hp⟩
      · exact h2 u hu
    · cases e
/-- pairs of a value and its content -/
theorem Reps.of_pairs {w : Wd} : ∀ {l : List (V × D)}, (∀ p ∈ l, Rep w p.1 p.2) → Reps w (l.map (·.1)) (l.map (·.2))
  | [], _ => .nil
  | p :: l, h => .cons (h p List.mem_cons_self) (Reps.of_pairs fun q hq => h q (List.mem_cons_of_mem _ hq))
theorem Reps.zip_mem {w : Wd} : ∀ {vs : List V} {ds : List D}, Reps w vs ds → ∀ p ∈ vs.zip ds, Rep w p.1 p.2
  | _, _, .nil, p, h => absurd h List.not_mem_nil
  | _, _, .cons r t, p, h => by
    rcases List.mem_cons.mp (by simpa [List.zip_cons_cons] using h) with rfl | h
    · exact r
    · exact Reps.zip_mem t p h
theorem tsort_reps {w : Wd} {vs us : List V} {ds : List D} {ns : List Int} (r : Reps w vs ds) (e : fstsOf ds = some ns) (nd : ns.Nodup) (pm : us.Perm vs) (so : us.Pairwise fun x y => fstV w.H x ≤ fstV w.H y) : Reps w us (tsort ds) := by
  obtain ⟨h1, h2⟩ := fsts_rep r e
  obtain ⟨l1, l2⟩ := fsts_len e
  have hl : vs.length = ds.length := r.length
  let L := (vs.zip ds).mergeSort fun a b => decide ((fstD a.2).getD 0 ≤ (fstD b.2).getD 0)
  have hL2 : L.map (·.2) = tsort ds := by
    have : L.map (·.2) = ((vs.zip ds).map (·.2)).mergeSort fun a b => decide ((fstD a).getD 0 ≤ (fstD b).getD 0) := List.map_mergeSort (fun a _ b _ => rfl)
    rw [this, List.map_snd_zip (by omega)]; rfl
  have hmem : ∀ p ∈ L, p ∈ vs.zip ds := fun p hp => (List.mergeSort_perm _ _).mem_iff.mp hp
  have hrep : ∀ p ∈ L, Rep w p.1 p.2 := fun p hp => r.zip_mem p (hmem p hp)
  have hmemD : ∀ p ∈ vs.zip ds, p.1 ∈ vs ∧ p.2 ∈ ds := fun p hp => ⟨(List.of_mem_zip hp).1, (List.of_mem_zip hp).2⟩
  have hsome : ∀ d ∈ ds, ∃ i, fstD d = some i := by
    clear l1 l2 h1 h2 hmem hrep hmemD hL2 L hl pm r
    induction ds generalizing ns with
    | nil => intro d h; exact absurd h List.not_mem_nil
    | cons a ds ih =>
      intro d h
      unfold fstsOf at e
      split at e
      · rename_i i hi
        obtain ⟨l, e1, rfl⟩ := Option.map_eq_some_iff.mp e
        rcases List.mem_cons.mp h with rfl | h
        · exact ⟨i, hi⟩
        · exact ih e1 (List.nodup_cons.mp nd).2 d h
      · cases e
  have key : ∀ p ∈ L, fstV w.H p.1 = (fstD p.2).getD 0 := fun p hp => by
    obtain ⟨i, hi⟩ := hsome p.2 (hmemD p (hmem p hp)).2
    obtain ⟨q, us, e1, hq⟩ := fst_rep (hrep p hp) hi
    obtain ⟨_, _, hq⟩ := hq
    rw [hi, e1]
    simp only [fstV, hq]; rfl
  have hpm : (L.map (·.1)).Perm vs := by
    have := (List.mergeSort_perm (vs.zip ds) fun a b => decide ((fstD a.2).getD 0 ≤ (fstD b.2).getD 0)).map (·.1)
    rwa [List.map_fst_zip (by omega)] at this
  have hso : (L.map fun p => fstV w.H p.1).Pairwise (· ≤ ·) := by
    rw [List.pairwise_map]
    have := List.pairwise_mergeSort (le := fun (a b : V × D) => decide ((fstD a.2).getD 0 ≤ (fstD b.2).getD 0)) (fun a b c h1 h2 => by simp at *; omega) (fun a b => by simp; omega) (vs.zip ds)
    refine List.Pairwise.imp_of_mem ?_ this
    intro a b ha hb h
    rw [key a ha, key b hb]
    exact of_decide_eq_true h
  have e1 : (us.map (fstV w.H)) = isort (vs.map (fstV w.H)) := isort_eq (pm.map _) (List.pairwise_map.mpr so)
  have e2 : ((L.map (·.1)).map (fstV w.H)) = isort (vs.map (fstV w.H)) := isort_eq (hpm.map _) (by rw [List.map_map]; exact hso)
  have inj := inj_of_nodup (fstV w.H) (l := vs) (by rw [h1]; exact nd)
  have eu : us = L.map (·.1) := map_inj_on (fstV w.H) inj (fun x hx => pm.mem_iff.mp hx) (fun x hx => hpm.mem_iff.mp hx) (e1.trans e2.symm)
  rw [eu, ← hL2]
  exact Reps.of_pairs hrep

theorem reps_keys {w : Wd} : ∀ {ks : List Key}, ks.all keyFit = true → Reps w (ks.map kV) (ks.map dK)
  | [], _ => .nil
  | k :: ks, h => by
    rw [List.all_cons, Bool.and_eq_true] at h
    refine .cons (kV_rep k fun x e => ?_) (reps_keys h.2)
    subst e
    exact of_decide_eq_true h.1
theorem intKs_map {α : Type} : ∀ {kvs : List (Key × α)} {ns : List Int}, intKs kvs = some ns → kvs.map (·.1) = ns.map Sum.inl
  | [], ns, e => by cases e; rfl
  | (.inl i, _) :: r, ns, e => by
    simp only [intKs, Option.map_eq_some_iff] at e
    obtain ⟨l, e1, rfl⟩ := e
    rw [List.map_cons, intKs_map e1]; rfl
  | (.inr x, _) :: r, ns, e => by simp [intKs] at e
/-! strictly rising lists -/
theorem uniq_mem : ∀ {l : List Int} {x : Int}, x ∈ uniq l ↔ x ∈ l
  | [], x => Iff.rfl
  | a :: l, x => by
    have ih := uniq_mem (l := l) (x := x)
    unfold uniq
    split
    · rename_i e
      rw [e] at ih
      simp only [List.not_mem_nil, false_iff] at ih
      simp [ih]
    · rename_i b t e
      rw [e] at ih
      split
      · rename_i hab
        subst hab
        simp only [List.mem_cons] at ih ⊢
        rw [← ih]; simp
      · simp only [List.mem_cons] at ih ⊢
        rw [← ih]
theorem uniq_head {a : Int} {l : List Int} : ∃ t, uniq (a :: l) = a :: t := by
  unfold uniq
  split
  · exact ⟨_, rfl⟩
  · split
    · rename_i e; exact ⟨_, by rw [e]⟩
    · exact ⟨_, rfl⟩
theorem uniq_lt : ∀ {l : List Int}, l.Pairwise (· ≤ ·) → (uniq l).Pairwise (· < ·)
  | [], _ => .nil
  | a :: l, h => by
    rw [List.pairwise_cons] at h
    have ih := uniq_lt h.2
    unfold uniq
    split
    · exact List.pairwise_singleton _ _
    · rename_i b t e
      rw [e] at ih
      split
      · exact ih
      · rename_i hab
        refine List.pairwise_cons.mpr ⟨fun y hy => ?_, ih⟩
        have hb : b ∈ l := uniq_mem.mp (by rw [e]; exact List.mem_cons_self)
        have := h.1 b hb
        rcases List.mem_cons.mp hy with rfl | hy
        · omega
        · have := (List.pairwise_cons.mp ih).1 y hy; omega
theorem rise_eq : ∀ {a b : List Int}, a.Pairwise (· < ·) → b.Pairwise (· < ·) → (∀ x, x ∈ a ↔ x ∈ b) → a = b
  | [], [], _, _, _ => rfl
  | [], y :: b, _, _, h => absurd ((h y).mpr List.mem_cons_self) List.not_mem_nil
  | x :: a, [], _, _, h => absurd ((h x).mp List.mem_cons_self) List.not_mem_nil
  | x :: a, y :: b, ha, hb, h => by
    rw [List.pairwise_cons] at ha hb
    have e : x = y := by
      rcases List.mem_cons.mp ((h x).mp List.mem_cons_self) with e | hx
      · exact e
      · rcases List.mem_cons.mp ((h y).mpr List.mem_cons_self) with e | hy
        · exact e.symm
        · have := ha.1 y hy
          have := hb.1 x hx
          omega
    subst e
    rw [rise_eq ha.2 hb.2 fun z => ?_]
    constructor
    · intro hz
      have := ha.1 z hz
      rcases List.mem_cons.mp ((h z).mp (List.mem_cons_of_mem _ hz)) with e | hz
      · omega
      · exact hz
    · intro hz
      have := hb.1 z hz
      rcases List.mem_cons.mp ((h z).mpr (List.mem_cons_of_mem _ hz)) with e | hz
      · omega
      · exact hz
theorem isort_le (ns : List Int) : (isort ns).Pairwise (· ≤ ·) := by
  have := List.pairwise_mergeSort (le := fun (a b : Int) => decide (a ≤ b)) (fun a b c h1 h2 => by simp at *; omega) (fun a b => by simp; omega) ns
  exact this.imp fun h => of_decide_eq_true h
theorem isort_mem {ns : List Int} {x : Int} : x ∈ isort ns ↔ x ∈ ns := (List.mergeSort_perm ns _).mem_iff
theorem sset_lt (ns : List Int) : (sset ns).Pairwise (· < ·) := uniq_lt (isort_le ns)
theorem sset_mem {ns : List Int} {x : Int} : x ∈ sset ns ↔ x ∈ ns := uniq_mem.trans isort_mem
end Pv

set_option Elab.async false
set_option linter.all false
set_option maxRecDepth 100000
set_option maxHeartbeats 4000000
/-! ### sorted of a tuple of ints -/
namespace Pv.Tc
open PySem PySem.Spec PyProof.Rows Srt SrtO L2
section
variable {prog : Program} {w : World} {A : Around} {E : Value → Shared → Prop} {s : Shared}
theorem collect_tup {l : Addr} {vs : List Value} {Q : List Value → Shared → Prop} (hl : IsTup s.heap l vs.toArray) (hz : vs.length ≤ sizeLine)
    (q : Q vs { s with heap := (s.heap.push (seqObj "list" #[] 0)).update s.heap.objs.size (Obj.mapSeq (· ++ vs.toArray)) }) : wpAny (model prog w) A (collect (.ref l)) Q E s := by
  obtain ⟨o, ho, hc, n, hd⟩ := hl
  have ho1 : (s.heap.push (seqObj "list" #[] 0)).get? l = some o := Heap.get?_push_of_some _ ho
  have new1 : (s.heap.push (seqObj "list" #[] 0)).get? s.heap.objs.size = some (seqObj "list" #[] 0) := Heap.get?_push_size _ rfl
  unfold collect
  refine wpAny_bind (wpAny_runValue (codeAny_builtin entry_proto_collect' ?_))
  show wpAny _ _ ((newList [] : Sem Value) >>= fun x => again (.builtin "list.__iadd__" ⟨[x, .ref l], []⟩)) _ _ s
  refine wpAny_bind (wpAny_newList (wpAny_pure (And.intro (Code.quiet_builtin _ (by decide +kernel)) (codeAny_builtin entry_list_iadd' ?_))))
  show wpAny _ _ (Builtin.List.listExtendWith (.ref s.heap.objs.size) (.ref l) (.ref s.heap.objs.size)) _ _ ({ s with heap := s.heap.push (seqObj "list" #[] 0) } : Shared)
  unfold Builtin.List.listExtendWith
  refine wpAny_bind (wpAny_typeOf (T := "tuple") (Exists.intro o (And.intro ho1 hc)) ?_)
  have ht : (Value.type "tuple" == Value.type "tuple") = true := rfl
  rw [if_pos (by rw [ht]; simp)]
  refine wpAny_bind (listItems_at ho1 hd ?_)
  refine wpAny_bind (listItems_at (n := 0) (xs := #[]) new1 rfl ?_)
  rw [if_neg (by simp)]
  have hsz : ((#[] : Array Value) ++ vs.toArray).size ≤ sizeLine + 1 := by simp; omega
  refine wpAny_bind (listUpdate_at (n := 0) (xs := #[]) new1 rfl ?_ (Nat.zero_le _) hsz)
  refine wpAny_pure ?_
  have e1 : ((#[] : Array Value) ++ vs.toArray).toList = vs := by simp
  show wpAny (model prog w) A ((load s.heap.objs.size : Sem Obj) >>= fun o => match o.data with | .seq xs _ => pure xs.toList | _ => unsupported "internal:collect") Q E ({ s with heap := (s.heap.push (seqObj "list" #[] 0)).update s.heap.objs.size (Obj.mapSeq (· ++ vs.toArray)) } : Shared)
  refine wpAny_bind (wpAny_load (get?_update_seq new1 _) ?_)
  show wpAny _ _ (pure ((#[] : Array Value) ++ vs.toArray).toList) Q E _
  rw [e1]
  exact wpAny_pure q
theorem sorted_tupI {l : Addr} {vs : List Value} {ltv : Value → Value → Bool} {Q : Value → Shared → Prop} (O : Swo ltv) (hl : IsTup s.heap l vs.toArray) (hz : vs.length ≤ sizeLine)
    (hS : 2 ≤ vs.length → ∀ (h1 : Heap) (a : Addr), h1.get? a = some (seqObj "list" vs.toArray 0) → (∀ b o, s.heap.get? b = some o → b ≠ a ∧ h1.get? b = some o) → SortableO prog w A.in1.in1 { s with heap := h1 } a vs ltv)
    (q : ∀ out : List Value, Srtd ltv out → Stb ltv out vs → Q (.ref (s.heap.objs.size + 1)) { s with heap := sortedAll s.heap vs out.toArray }) : wpAny (model prog w) A (call (.builtin "sorted") [.ref l]) Q E s := by
  refine Calls.call_function_entry kind_sorted plain_sorted entry_sorted (args_sorted1 _) ?_
  unfold Builtin.«sorted»
  refine wpAny_bind (m := checkCount "sorted" 1 1 _) (wpAny_pure ?_)
  refine wpAny_bind (collect_tup hl hz ?_)
  refine wpAny_bind (wpAny_newList ?_ hz)
  have kp : ∀ b o, s.heap.get? b = some o → b < s.heap.objs.size ∧ ((s.heap.push (seqObj "list" #[] 0)).update s.heap.objs.size (Obj.mapSeq (· ++ vs.toArray))).get? b = some o := fun b o z => by
    have lt : b < s.heap.objs.size := Heap.lt_size z
    rw [Heap.get?_update_ne _ _ _ _ (Nat.ne_of_lt lt)]
    exact ⟨lt, Heap.get?_push_of_some _ z⟩
  generalize hh : (s.heap.push (seqObj "list" #[] 0)).update s.heap.objs.size (Obj.mapSeq (· ++ vs.toArray)) = h1 at kp
  have hsz : h1.objs.size = s.heap.objs.size + 1 := by rw [← hh, Heap.size_update, size_push']
  have hoL : (h1.push (seqObj "list" vs.toArray 0)).get? (s.heap.objs.size + 1) = some (seqObj "list" vs.toArray 0) := by
    rw [← hsz]; exact Heap.get?_push_size _ rfl
  show wpAny _ _ _ _ _ ({ s with heap := h1.push (seqObj "list" vs.toArray 0) } : Shared)
  have eq : ({ s with heap := h1 } : Shared).heap.objs.size = s.heap.objs.size + 1 := hsz
  try rw [hsz]
  refine wpAny_bind (wpAny_holding (wpAny_call_entry slot_list_sort (Exists.intro _ (And.intro hoL rfl)) entry_list_sort (list_sort_ord O hoL hz (fun h2 => hS h2 _ _ hoL fun b o z => ⟨Nat.ne_of_lt (Nat.lt_succ_of_lt (kp b o z).1), Heap.get?_push_of_some _ (kp b o z).2⟩) fun out hs hb => Exists.intro _ (And.intro rfl ?_)) (args_list_sort _)))
  have := q out hs hb
  unfold sortedAll at this
  rw [hh] at this
  exact wpAny_pure (Exists.intro _ (And.intro rfl this))
end
section
variable {X : Cx}
theorem cr_sortedTup : CallR X (.builtin "sorted") (fun vs H Q => ∃ (a : Addr) (ns : List Int), vs = [V.ref a] ∧ SqT X.K H a (ns.map V.int) ∧
    ∀ (ns' : List Int) (p : Addr), ns'.Perm ns → ns'.Pairwise (· ≤ ·) → H p = none → Q (.ref p) (upd H p (.lst (ns'.map V.int)))) := by
  intro pins s σ H vs us Q I r h
  obtain ⟨a, ns, rfl, hs, q⟩ := h
  obtain ⟨its, rv, hl, hz⟩ := I.tuple hs
  rw [Vals.ref1 r]
  have hi := rv.ints
  refine sorted_tupI swo_int hl (by rw [← rv.length]; exact hz) (fun h2 h1 a' _ _ => ints_sortable hi h2) fun out h1 h2 => ?_
  obtain ⟨k1, k2, k3⟩ := ints_out hi h1 h2
  obtain ⟨ep, he'⟩ := sortedAll_at s.heap its out.toArray
  have hlen : ((out.map iv).map V.int).length ≤ sizeLine := by
    rw [List.length_map, k2.length_eq]
    simpa using hz
  refine ⟨.ref _, upd H (s.heap.objs.size + 1) (.lst ((out.map iv).map V.int)), ?_, rfl, q _ _ k2 k3 (I.hok.fresh (Nat.le_succ _))⟩
  exact I.laid (t' := s.toks) (fun _ _ => sortedAll_old) (Nat.le_succ _) ⟨hlen, out, ep, vals_of_ints k1, he'⟩
end
end Pv.Tc
namespace Pv
open PySem L2 PyProof.Rows

theorem set_map {w : Wd} {k : Key} {v : V} {d : D} (r : Rep w v d) : ∀ {kvs : List (Key × V)} {ks : List (Key × D)}, kvs.map (·.1) = ks.map (·.1) → Reps w (kvs.map (·.2)) (ks.map (·.2)) →
    (kvs.map (fun kv => if kv.1 = k then (kv.1, v) else kv)).map (·.1) = (ks.map (fun kv => if kv.1 = k then (kv.1, d) else kv)).map (·.1) ∧
      Reps w ((kvs.map (fun kv => if kv.1 = k then (kv.1, v) else kv)).map (·.2)) ((ks.map (fun kv => if kv.1 = k then (kv.1, d) else kv)).map (·.2))
  | [], [], _, _ => ⟨rfl, .nil⟩
  | [], _ :: _, e, _ => by cases e
  | _ :: _, [], e, _ => by cases e
  | x :: xs, y :: ys, e, rr => by
    rw [List.map_cons, List.map_cons] at e
    injection e with e1 e2
    rw [List.map_cons, List.map_cons] at rr
    cases rr with
    | cons r1 r2 =>
      obtain ⟨i1, i2⟩ := set_map r e2 r2
      by_cases q : x.1 = k
      · have q' : y.1 = k := by rw [← e1]; exact q
        rw [List.map_cons, List.map_cons, List.map_cons, List.map_cons, List.map_cons, List.map_cons, if_pos q, if_pos q', i1]
        exact ⟨by rw [e1], .cons r i2⟩
      · have q' : ¬ y.1 = k := by rw [← e1]; exact q
        rw [List.map_cons, List.map_cons, List.map_cons, List.map_cons, List.map_cons, List.map_cons, if_neg q, if_neg q', i1]
        exact ⟨by rw [e1], .cons r1 i2⟩
theorem set_kv {w : Wd} {k : Key} {v : V} {d : D} (r : Rep w v d) {kvs : List (Key × V)} {ks : List (Key × D)} (e : kvs.map (·.1) = ks.map (·.1)) (rr : Reps w (kvs.map (·.2)) (ks.map (·.2))) :
    (putK kvs k v).map (·.1) = (setK ks k d).map (·.1) ∧ Reps w ((putK kvs k v).map (·.2)) ((setK ks k d).map (·.2)) := by
  have hany : (kvs.any fun kv => decide (kv.1 = k)) = ks.any fun kv => decide (kv.1 = k) := by
    have h1 : ∀ {α : Type} (l : List (Key × α)), (l.any fun kv => decide (kv.1 = k)) = (l.map (·.1)).any fun x => decide (x = k) := by
      intro α l; rw [List.any_map]; rfl
    rw [h1, h1, e]
  unfold putK setK
  rw [hany]
  split
  · exact set_map r e rr
  · simp only [List.map_append, List.map_cons, List.map_nil, e]
    exact ⟨trivial, rr.append (.cons r .nil)⟩
section
variable {T : Tb} {X : Cx} {g : Gx} {N : List Str} {sc : Scope} {pos : Pos} {a b c : Expr} {fa fb fc : Rho → Store → Res D}
theorem f_list (hc : X.calm = true) : CallR X (.type "list") (rF g .list) := by
  rintro pins s σ H xs us Q I r ⟨σ', ρ, M, w, v, a, d, rfl, rfl, sr, c, e, af⟩
  cases a <;> simp only [ffD, reduceCtorEq, Option.some.injEq, Option.ite_none_right_eq_some] at e
  · subst e
    obtain ⟨p, vs, rfl, hp, rr⟩ := c
    exact call_list_of pins s σ _ _ _ Q I r ⟨p, vs, rfl, .inr hp.sq, fun l n => af.newO sr n ⟨vs, upd_same, rr.mono (owned_wle sr.wf n)⟩⟩
  · subst e
    obtain ⟨p, vs, rfl, hp, rr⟩ := c
    exact call_list_of pins s σ _ _ _ Q I r ⟨p, vs, rfl, .inl (SqL.of hp), fun l n => af.newO sr n ⟨vs, upd_same, rr.mono (owned_wle sr.wf n)⟩⟩
  · obtain ⟨ok, rfl⟩ := e
    obtain ⟨p, kvs, rfl, hp, ek, rr⟩ := c
    refine call_list_dK hc pins s σ _ _ _ Q I r ⟨p, kvs, rfl, hp, fun q n => af.newO sr n ⟨_, upd_same, ?_⟩⟩
    have e2 : (kvs.map fun kv => kV kv.1) = (kvs.map (·.1)).map kV := by rw [List.map_map]; rfl
    rw [e2, ek]
    exact reps_keys ok
/-- a list's items, as they are laid -/
theorem sort_things {pins : List (Addr × Obj)} {s : Shared} {σ : L2.St} {p : Addr} {vs : List V} {ds : List D} {ns : List Int} {w : Wd} {Q : VK} (I : L2.Inv X pins σ w.H s) (hp : w.H p = some (.lst vs)) (rr : Reps w vs ds) (hf : fstsOf ds = some ns) (nd : ns.Nodup)
    (q : ∀ (us : List V) (x : Addr), Reps w us (tsort ds) → w.H x = none → Q (.ref x) (upd w.H x (.lst us))) : wpAny (model X.prog X.w) X.A (call (.builtin "sorted") [.ref p]) (EP X pins σ Q) X.xe s := by
  obtain ⟨h1, h2⟩ := fsts_rep rr hf
  obtain ⟨its, rv, hl, hz⟩ := I.list (SqL.of (K := X.K) hp)
  obtain ⟨ev, er⟩ := refs_back rv fun v hv => by
    obtain ⟨p', us, e, _⟩ := h2 v hv
    exact ⟨p', e⟩
  let k : Value → Int := fun u => fstV w.H (backV u)
  have hk : ∀ u ∈ its, Ts.Fst s.heap u (k u) := fun u hu => by
    obtain ⟨t, rfl⟩ := er u hu
    have hm : V.ref t ∈ vs := by rw [ev]; exact List.mem_map.mpr ⟨_, hu, rfl⟩
    obtain ⟨p', us, e, ht⟩ := h2 _ hm
    cases e
    obtain ⟨its2, r2, ⟨o, ho, hc, n, hd⟩, _⟩ := I.tuple (ht.sq (K := X.K))
    cases r2 with
    | cons ru rt =>
      rename_i u0 us0
      obtain ⟨tk, hu0⟩ := ru
      subst hu0
      exact ⟨t, o, _, n, tk, rfl, ho, hc, hd, rfl⟩
  have hmk : its.map k = ns := by
    rw [← h1, ev, List.map_map]; rfl
  have inj := inj_of_nodup k (l := its) (by rw [hmk]; exact nd)
  refine SrtO.sorted_ord (Ts.swoF k) hl.isList (by rw [← rv.length]; exact hz) (fun h2' h₁ a' ha kk => ?_) fun out hs hb => ?_
  · refine Ts.fst_sortable (s := { s with heap := h₁ }) (by omega) (fun v hm => (hk v hm).keeps fun b o e _ => (kk b o e).2) inj fun o e => ?_
    have e' : some o = some (seqObj "list" its.toArray 0) := e.symm.trans ha
    cases e'
    intro c
    exact absurd (Value.type.inj c) (by decide)
  · have h3 : ∀ u ∈ out, ∃ a, u = Value.ref a := fun u hu => er u (hb.perm.mem_iff.mp hu)
    have hpm : (out.map backV).Perm vs := by rw [ev]; exact hb.perm.map _
    have hso : (out.map backV).Pairwise fun x y => fstV w.H x ≤ fstV w.H y := by
      rw [List.pairwise_map]
      exact hs.imp fun {x y} h => Int.not_lt.mp (of_decide_eq_false (p := k y < k x) h)
    have hR := tsort_reps rr hf nd hpm hso
    obtain ⟨ep, he'⟩ := PyProof.Rows.sortedAll_at s.heap its out.toArray
    refine ⟨.ref _, upd w.H (s.heap.objs.size + 1) (.lst (out.map backV)), I.laid (t' := s.toks) (fun _ _ => PyProof.Rows.sortedAll_old) (Nat.le_succ _) ⟨?_, out, ep, vals_back h3, he'⟩, rfl, q _ _ hR (I.hok.fresh (Nat.le_succ _))⟩
    rw [hpm.length_eq]
    exact hz
theorem sort_thingsT {pins : List (Addr × Obj)} {s : Shared} {σ : L2.St} {p : Addr} {vs : List V} {ds : List D} {ns : List Int} {w : Wd} {Q : VK} (I : L2.Inv X pins σ w.H s) (hp : TH w.H p vs) (rr : Reps w vs ds) (hf : fstsOf ds = some ns) (nd : ns.Nodup)
    (q : ∀ (us : List V) (x : Addr), Reps w us (tsort ds) → w.H x = none → Q (.ref x) (upd w.H x (.lst us))) : wpAny (model X.prog X.w) X.A (call (.builtin "sorted") [.ref p]) (EP X pins σ Q) X.xe s := by
  obtain ⟨h1, h2⟩ := fsts_rep rr hf
  obtain ⟨its, rv, hl, hz⟩ := I.tuple (hp.sq (K := X.K))
  obtain ⟨ev, er⟩ := refs_back rv fun v hv => by
    obtain ⟨p', us, e, _⟩ := h2 v hv
    exact ⟨p', e⟩
  let k : Value → Int := fun u => fstV w.H (backV u)
  have hk : ∀ u ∈ its, Ts.Fst s.heap u (k u) := fun u hu => by
    obtain ⟨t, rfl⟩ := er u hu
    have hm : V.ref t ∈ vs := by rw [ev]; exact List.mem_map.mpr ⟨_, hu, rfl⟩
    obtain ⟨p', us, e, ht⟩ := h2 _ hm
    cases e
    obtain ⟨its2, r2, ⟨o, ho, hc, n, hd⟩, _⟩ := I.tuple (ht.sq (K := X.K))
    cases r2 with
    | cons ru rt =>
      rename_i u0 us0
      obtain ⟨tk, hu0⟩ := ru
      subst hu0
      exact ⟨t, o, _, n, tk, rfl, ho, hc, hd, rfl⟩
  have hmk : its.map k = ns := by
    rw [← h1, ev, List.map_map]; rfl
  have inj := inj_of_nodup k (l := its) (by rw [hmk]; exact nd)
  refine Tc.sorted_tupI (Ts.swoF k) hl (by rw [← rv.length]; exact hz) (fun h2' h₁ a' ha kk => ?_) fun out hs hb => ?_
  · refine Ts.fst_sortable (s := { s with heap := h₁ }) (by omega) (fun v hm => (hk v hm).keeps fun b o e _ => (kk b o e).2) inj fun o e => ?_
    have e' : some o = some (seqObj "list" its.toArray 0) := e.symm.trans ha
    cases e'
    intro c
    exact absurd (Value.type.inj c) (by decide)
  · have h3 : ∀ u ∈ out, ∃ a, u = Value.ref a := fun u hu => er u (hb.perm.mem_iff.mp hu)
    have hpm : (out.map backV).Perm vs := by rw [ev]; exact hb.perm.map _
    have hso : (out.map backV).Pairwise fun x y => fstV w.H x ≤ fstV w.H y := by
      rw [List.pairwise_map]
      exact hs.imp fun {x y} h => Int.not_lt.mp (of_decide_eq_false (p := k y < k x) h)
    have hR := tsort_reps rr hf nd hpm hso
    obtain ⟨ep, he'⟩ := PyProof.Rows.sortedAll_at s.heap its out.toArray
    refine ⟨.ref _, upd w.H (s.heap.objs.size + 1) (.lst (out.map backV)), I.laid (t' := s.toks) (fun _ _ => PyProof.Rows.sortedAll_old) (Nat.le_succ _) ⟨?_, out, ep, vals_back h3, he'⟩, rfl, q _ _ hR (I.hok.fresh (Nat.le_succ _))⟩
    rw [hpm.length_eq]
    exact hz
/-- sorted of a tuple, a list, a dict -/
theorem f_sorted (hc : X.calm = true) : CallR X (.builtin "sorted") (rF g .sorted) := by
  rintro pins s σ H xs us Q I r ⟨σ', ρ, M, w, v, a, d, rfl, rfl, sr, c, e, af⟩
  cases a <;> simp only [ffD, reduceCtorEq] at e
  · obtain ⟨p, vs, rfl, hp, rr⟩ := c
    split at e
    · rename_i ns e1
      cases e
      have hv := rr.ints e1
      subst hv
      refine Tc.cr_sortedTup pins s σ _ _ _ Q I r ⟨p, ns, rfl, hp.sq, fun ns' q pm so n => ?_⟩
      rw [isort_eq pm so]
      exact af.newO sr n ⟨_, upd_same, Reps.of_ints _⟩
    · split at e
      · rename_i ns e1
        split at e
        · rename_i hn
          cases e
          rw [Vals.ref1 r]
          exact sort_thingsT I hp rr e1 hn.1 fun us x hR n => af.newO sr n ⟨us, upd_same, hR.mono (owned_wle sr.wf n)⟩
        · cases e
      · cases e
  · obtain ⟨p, vs, rfl, hp, rr⟩ := c
    split at e
    · rename_i ns e1
      cases e
      have hv := rr.ints e1
      subst hv
      refine cr_sortedI pins s σ _ _ _ Q I r ⟨p, ns, rfl, SqL.of hp, fun ns' q pm so n => ?_⟩
      rw [isort_eq pm so]
      exact af.newO sr n ⟨_, upd_same, Reps.of_ints _⟩
    · split at e
      · rename_i ns e1
        split at e
        · rename_i hn
          cases e
          rw [Vals.ref1 r]
          exact sort_things I hp rr e1 hn.1 fun us x hR n => af.newO sr n ⟨us, upd_same, hR.mono (owned_wle sr.wf n)⟩
        · cases e
      · cases e
  · simp only [Option.ite_none_right_eq_some, Option.map_eq_some_iff] at e
    obtain ⟨h64, ns, e1, rfl⟩ := e
    obtain ⟨p, kvs, rfl, hp, ek, rr⟩ := c
    have hk := intKs_map e1
    have hlen : ns.length < 64 := by
      have := congrArg List.length hk
      simp only [List.length_map] at this
      omega
    refine call_sortedDI hc pins s σ _ _ _ Q I r ⟨p, kvs, ns, rfl, .inl hp, ek.trans hk, hlen, fun ys q pm so n => ?_⟩
    rw [isort_eq pm so]
    exact af.newO sr n ⟨_, upd_same, Reps.of_ints _⟩
theorem gf_one {k : FF} {ka : RK} {σ : L2.St} {H : Hp} {Q : VK} (q : GE g .frs (fun ρ M => (fa ρ M).bind fun x M => Pv.opt (ffD k (dr M x)) M) σ H Q) :
    tCB (rF g k) (tCons (GE g ka fa) tNil) σ H Q := by
  refine ge_one (ka := ka) (rel := fun ρ σ => rl g ρ σ .frs) (F := fun ρ x M => Pv.opt (ffD k (dr M x)) M) (anti_rl (k := .frs)) ?_ q
  intro ρ M w w0 v x s ex r af
  obtain ⟨d, ed, a3⟩ := Aft.optE af
  exact ⟨σ, ρ, M, w, v, dr M x, d, rfl, rfl, s, s.con r, ed, a3⟩
theorem s_list (h : Cok T X g N sc) {ka : RK} {x : Str} {p : Pos} (hx : isB sc x "list" = true) (hn : nst a = true) (ha : PE X a (GE g ka fa)) :
    PE X (.Call (.Name x p) [a] [] pos) (GE g .frs fun ρ M => (fa ρ M).bind fun x M => Pv.opt (ffD .list (dr M x)) M) := by
  obtain ⟨rfl, e⟩ := isB_of hx
  exact PE.imp (pe_callTy (f_list h.calm) (h.gl e) (h.blt (by decide)) (by decide +kernel) (pa_cons ha pa_nil (star_ok hn)) (by decide) (by decide) (star_ok hn) rfl) fun _ _ _ q => gf_one q
theorem s_sorted (h : Cok T X g N sc) {ka : RK} {x : Str} {p : Pos} (hx : isB sc x "sorted" = true) (hn : nst a = true) (ha : PE X a (GE g ka fa)) :
    PE X (.Call (.Name x p) [a] [] pos) (GE g .frs fun ρ M => (fa ρ M).bind fun x M => Pv.opt (ffD .sorted (dr M x)) M) := by
  obtain ⟨rfl, e⟩ := isB_of hx
  exact PE.imp (pe_callB (f_sorted h.calm) (h.gl e) (h.blt (by decide)) (by decide +kernel) (pa_cons ha pa_nil (star_ok hn)) (by decide) (by decide) (star_ok hn) rfl) fun _ _ _ q => gf_one q
/-! dict(..) -/
theorem pairs_reps {w : Wd} : ∀ {vs : List V} {ds : List D} {ps : List (Key × D)}, Reps w vs ds → pairsOf ds = some ps →
    ∃ (as : List Addr) (kvs : List (Key × V)), vs = as.map V.ref ∧ Paired (fun p kv => TH w.H p [kV kv.1, kv.2]) as kvs ∧ kvs.map (·.1) = ps.map (·.1) ∧ Reps w (kvs.map (·.2)) (ps.map (·.2))
  | _, _, ps, .nil, e => by cases e; exact ⟨[], [], rfl, .nil, rfl, .nil⟩
  | _, _, ps, .cons (v := v) (d := d) r t, e => by
    unfold pairsOf at e
    split at e
    · rename_i h; cases h
    · rename_i k v' r' h
      injection h with h1 h2
      subst h1 h2
      split at e
      · rename_i kk hk
        obtain ⟨l, e1, rfl⟩ := Option.map_eq_some_iff.mp e
        obtain ⟨as, kvs, h1, h2, h3, h4⟩ := pairs_reps t e1
        cases r with
        | tup f hp rr =>
          cases rr with
          | cons r1 r2 =>
            cases r2 with
            | cons r3 r4 =>
              cases r4
              have := keyOf_V r1 hk
              subst this
              exact ⟨_ :: as, (kk, _) :: kvs, by rw [h1]; rfl, .cons hp h2, by rw [List.map_cons, List.map_cons, h3], .cons r3 h4⟩
      · cases e
    · cases e
theorem merge_reps {w : Wd} : ∀ {kvs : List (Key × V)} {ps : List (Key × D)} {as : List (Key × V)} {bs : List (Key × D)}, kvs.map (·.1) = ps.map (·.1) → Reps w (kvs.map (·.2)) (ps.map (·.2)) → as.map (·.1) = bs.map (·.1) → Reps w (as.map (·.2)) (bs.map (·.2)) →
    (mergeK as kvs).map (·.1) = (ps.foldl (fun a p => setK a p.1 p.2) bs).map (·.1) ∧ Reps w ((mergeK as kvs).map (·.2)) ((ps.foldl (fun a p => setK a p.1 p.2) bs).map (·.2))
  | [], [], as, bs, _, _, h1, h2 => ⟨h1, h2⟩
  | [], _ :: _, _, _, e, _, _, _ => by cases e
  | _ :: _, [], _, _, e, _, _, _ => by cases e
  | x :: kvs, y :: ps, as, bs, e, r, h1, h2 => by
    rw [List.map_cons, List.map_cons] at e r
    injection e with e1 e2
    cases r with
    | cons r1 r2 =>
      have st := set_kv (k := x.1) r1 h1 h2
      have := merge_reps (as := putK as x.1 x.2) (bs := setK bs x.1 y.2) e2 r2 st.1 st.2
      rw [e1] at this
      rw [List.foldl_cons, ← e1]
      have e3 : mergeK as (x :: kvs) = mergeK (putK as x.1 x.2) kvs := rfl
      rw [e3, e1]
      rw [e1] at st
      exact this
end
end Pv

set_option Elab.async false
set_option linter.all false
set_option maxRecDepth 100000
set_option maxHeartbeats 4000000
namespace Pv
open PySem L2

section
variable {T : Tb} {X : Cx} {g : Gx} {N : List Str} {sc : Scope} {pos : Pos} {a b c : Expr} {fa fb fc : Rho → Store → Res D}
theorem paired_map {α β : Type} {F G : α → β → Prop} : ∀ {l : List α} {m : List β}, Paired F l m → (∀ a b, F a b → G a b) → Paired G l m
  | _, _, .nil, _ => .nil
  | _, _, .cons h t, k => .cons (k _ _ h) (paired_map t k)
theorem pairs_of2 {pins : List (Addr × Obj)} {σ : L2.St} {H : Hp} {s : Shared} (I : L2.Inv X pins σ H s) : ∀ {as : List Addr} {kvs : List (Key × V)}, Paired (fun p kv => SqT X.K H p [kV kv.1, kv.2]) as kvs →
    ∃ l : List (Key × Value × Value), KV kvs (l.map fun t => (t.1, t.2.2)) ∧ l.length = as.length ∧ ∀ (j : Nat) t, l[j]? = some t → ∃ b, as[j]? = some b ∧ PyProof.Rows.IsTup s.heap b #[t.2.1, t.2.2] ∧ keyIs t.1 t.2.1 = true
  | _, _, .nil => ⟨[], .nil, rfl, fun j t e => by simp at e⟩
  | _, _, .cons (a := p) (b := kv) h t => by
    obtain ⟨l, r, hl, hp⟩ := pairs_of2 I t
    obtain ⟨its, rv, ht, _⟩ := I.tuple h
    obtain ⟨u, y, rfl, ru, ry⟩ := vals2 rv
    refine ⟨(kv.1, u, y) :: l, .cons ⟨rfl, ry⟩ r, by simp [hl], fun j q e => ?_⟩
    cases j with
    | zero => cases e; exact ⟨p, rfl, ht, kV_is (P := X.prog) (w := X.w) ru⟩
    | succ j => exact hp j q (by simpa using e)
/-- a tuple of pairs, as an argument of dict and of update -/
theorem tup_arg {pins : List (Addr × Obj)} {σ : L2.St} {H : Hp} {s : Shared} (I : L2.Inv X pins σ H s) {a : Addr} {as : List Addr} {kvs : List (Key × V)} (ht : TH H a (as.map V.ref)) (hp : Paired (fun p kv => SqT X.K H p [kV kv.1, kv.2]) as kvs) :
    ∃ (its : Array Value) (l : List (Key × Value × Value)), KV kvs (l.map fun t => (t.1, t.2.2)) ∧ l.length = as.length ∧ as.length ≤ sizeLine ∧
      PlainSeq "tuple" s.heap a its ∧ PairItems s.heap its (fun j => as.getD j 0) (l.map fun t => t.2) ∧ PairsHave (mixKind X.prog X.w) (l.map fun t => t.2).length (PairRel (l.map fun t => t.2)) (l.map fun t => (t.1, t.2.2)) := by
  obtain ⟨l, r, hl, hq⟩ := pairs_of2 I hp
  obtain ⟨o, hd, ho⟩ := ht
  obtain ⟨h1, hz, its, rv, o2, h2, hcl, n, hdat⟩ := I.hok a _ ho
  rw [h1] at h2; cases h2
  have ei := refs_at rv
  subst ei
  rw [List.length_map] at hz
  refine ⟨_, l, r, hl, hz, ⟨o, n, h1, hcl, hd, hdat⟩, ⟨by simp [hl], fun j k v hj => ?_⟩, by simp, fun i key v hr => ?_⟩
  · rw [List.getElem?_map, Option.map_eq_some_iff] at hj
    obtain ⟨t, ht, e⟩ := hj
    obtain ⟨b, hb, hT, _⟩ := hq j t ht
    have eg : as.getD j 0 = b := by rw [List.getD_eq_getElem?_getD, hb]; rfl
    have e1 : t.2.1 = k := congrArg Prod.fst e
    have e2 : t.2.2 = v := congrArg Prod.snd e
    rw [← e1, ← e2]
    show _ = some (Value.ref (as.getD j 0)) ∧ PairAt s.heap (as.getD j 0) _ _
    rw [eg]
    exact ⟨by simp [hb], .inl hT⟩
  · have hr : (l.map fun t => t.2)[i]? = some (key, v) := hr
    rw [List.getElem?_map, Option.map_eq_some_iff] at hr
    obtain ⟨t, ht, e⟩ := hr
    obtain ⟨b, hb, _, hk⟩ := hq i t ht
    have e1 : t.2.1 = key := congrArg Prod.fst e
    have e2 : t.2.2 = v := congrArg Prod.snd e
    exact ⟨t.1, by rw [List.getElem?_map, ht, ← e2]; rfl, by rw [← e1]; exact hk⟩
theorem call_dictTup (hcalm : X.calm = true) : CallR X (.type "dict") (fun xs H Q => ∃ (a : Addr) (as : List Addr) (kvs : List (Key × V)), xs = [.ref a] ∧ TH H a (as.map V.ref) ∧ Paired (fun p kv => SqT X.K H p [kV kv.1, kv.2]) as kvs ∧
    ∀ p, H p = none → Q (.ref p) (upd H p (.dK (mergeK [] kvs)))) := by
  rintro pins s σ H xs us Q I r ⟨a, as, kvs, rfl, hq, hp, q⟩
  obtain ⟨u, rfl, rx⟩ := vals1 r
  cases rx
  obtain ⟨its, l, rel, hl, hz, ok1, ok2, hh⟩ := tup_arg I hq hp
  refine PySem.call_dict_pairs (knd := mixKind X.prog X.w) (PairArg.tuple a its (fun j => as.getD j 0) (l.map fun t => t.2)) (I.ok.hd hcalm) ⟨ok1, ok2⟩ hh (by rw [List.length_map, hl]; exact hz) fun h' tk hd' k => ?_
  have hm : (s.heap.objs.size == sysModules) = false := beq_eq_false_iff_ne.mpr (Nat.ne_of_gt I.big)
  have hlen : (mergeK [] kvs).length ≤ sizeLine := by
    refine Nat.le_trans (length_mergeK kvs []) ?_
    have e := rel.length
    rw [List.length_map, hl] at e
    rw [List.length_nil, Nat.zero_add, e]
    exact hz
  exact ⟨.ref s.heap.objs.size, _, I.laid (t' := tk) (o := .dK (mergeK [] kvs)) (fun b o e => k b o List.not_mem_nil e) (Nat.le_refl _) ⟨hlen, hm, _, KV.merge rel .nil, hd'⟩, rfl, q _ (I.hok.fresh (Nat.le_refl _))⟩
theorem f_dict (hc : X.calm = true) : CallR X (.type "dict") (rF g .dict) := by
  rintro pins s σ H xs us Q I r ⟨σ', ρ, M, w, v, a, d, rfl, rfl, sr, c, e, af⟩
  cases a <;> simp only [ffD, reduceCtorEq, Option.some.injEq] at e
  · obtain ⟨ps, e1, rfl⟩ := Option.map_eq_some_iff.mp e
    obtain ⟨p, vs, rfl, hp, rr⟩ := c
    obtain ⟨as, kvs, rfl, pr, ek, rv⟩ := pairs_reps rr e1
    refine call_dictTup hc pins s σ _ _ _ Q I r ⟨p, as, kvs, rfl, hp, paired_map pr fun x y h => h.sq, fun q n => ?_⟩
    have m := merge_reps (as := []) (bs := []) ek rv rfl .nil
    exact af.newO sr n ⟨_, upd_same, m.1, m.2.mono (owned_wle sr.wf n)⟩
  · obtain ⟨ps, e1, rfl⟩ := Option.map_eq_some_iff.mp e
    obtain ⟨p, vs, rfl, hp, rr⟩ := c
    obtain ⟨as, kvs, rfl, pr, ek, rv⟩ := pairs_reps rr e1
    refine call_dictP hc pins s σ _ _ _ Q I r ⟨p, as, kvs, rfl, SqL.of hp, paired_map pr fun x y h => h.sq, fun q n => ?_⟩
    have m := merge_reps (as := []) (bs := []) ek rv rfl .nil
    exact af.newO sr n ⟨_, upd_same, m.1, m.2.mono (owned_wle sr.wf n)⟩
  · subst e
    obtain ⟨p, kvs, rfl, hp, ek, rr⟩ := c
    exact call_dictD pins s σ _ _ _ Q I r ⟨p, kvs, rfl, .inl hp, fun q n => af.newO sr n ⟨kvs, upd_same, ek, rr.mono (owned_wle sr.wf n)⟩⟩
theorem s_dict (h : Cok T X g N sc) {ka : RK} {x : Str} {p : Pos} (hx : isB sc x "dict" = true) (hn : nst a = true) (ha : PE X a (GE g ka fa)) :
    PE X (.Call (.Name x p) [a] [] pos) (GE g .frs fun ρ M => (fa ρ M).bind fun x M => Pv.opt (ffD .dict (dr M x)) M) := by
  obtain ⟨rfl, e⟩ := isB_of hx
  exact PE.imp (pe_callTy (f_dict h.calm) (h.gl e) (h.blt (by decide)) (by decide +kernel) (pa_cons ha pa_nil (star_ok hn)) (by decide) (by decide) (star_ok hn) rfl) fun _ _ _ q => gf_one q
/-! sorted(set(..)) -/
def rSetT (K : PySem.W.Frag) (w : World) : List V → Hp → VK → Prop := fun vs H Q => ∃ (p : Addr) (ns : List Int), vs = [.ref p] ∧ SqT K H p (ns.map V.int) ∧ ns.length < 1000 ∧
  ∀ (a : Addr) (n : Nat), H a = none → n ≤ ns.length → Q (.ref a) (upd H a (SetO w a (fun j => decide (j ∈ ns)) n))
theorem cr_setT (hc : X.calm = true) : CallR X (.type "set") (rSetT X.K X.w) := by
  rintro pins s σ H xs us Q I r ⟨p, ns, rfl, hq, hl, q⟩
  rw [Vals.ref1 r]
  obtain ⟨its, rv, pt, hz⟩ := I.tuple hq
  have hi := ints_of_vals rv
  refine call_set_tupI ns (I.ok.hd hc) (show s.heap.IsTuple p its.toArray from pt) hi (by unfold scanBound; omega) fun h' tk c R1 hcn k => ?_
  have hn : H s.heap.objs.size = none := I.hok.fresh (Nat.le_refl _)
  exact ⟨.ref s.heap.objs.size, _, I.laid (t' := tk) k (Nat.le_refl _) (setO_new R1), rfl, q _ c hn hcn⟩
theorem s_sset (h : Cok T X g N sc) {x y : Str} {p p2 pos2 : Pos} (hx : isB sc x "sorted" = true) (hy : isB sc y "set" = true) (hn : nst a = true) (ha : PE X a (GE g .rep fa)) :
    PE X (.Call (.Name x p) [.Call (.Name y p2) [a] [] pos2] [] pos) (GE g .frs fun ρ M => (fa ρ M).bind fun x M => Pv.opt (ffD .sset (dr M x)) M) := by
  obtain ⟨rfl, e⟩ := isB_of hx
  obtain ⟨rfl, e2⟩ := isB_of hy
  have ps : PE X (.Call (.Name "set" p2) [a] [] pos2) (tCB (rSetT X.K X.w) (tCons (GE g .rep fa) tNil)) := pe_callTy (cr_setT h.calm) (h.gl e2) (h.blt (by decide)) (by decide +kernel) (pa_cons ha pa_nil (star_ok hn)) (by decide) (by decide) (star_ok hn) rfl
  refine PE.imp (pe_callB (cr_sortedSet h.calm) (h.gl e) (h.blt (by decide)) (by decide +kernel) (pa_cons ps pa_nil rfl) (by decide) (by decide) rfl rfl) fun σ H Q q => ?_
  refine ge_one (ka := .rep) (rel := fun ρ σ => rl g ρ σ .frs) (F := fun ρ x M => Pv.opt (ffD .sset (dr M x)) M) (anti_rl (k := .frs)) ?_ q
  intro ρ M w w0 v x s ex r af
  obtain ⟨d, ed, a3⟩ := Aft.optE af
  have c := s.con r
  generalize dr M x = x' at c ed
  cases x' <;> simp only [ffD, reduceCtorEq, Option.ite_none_right_eq_some, Option.map_eq_some_iff] at ed
  obtain ⟨h64, ns, e1, rfl⟩ := ed
  obtain ⟨p0, vs, rfl, hp, rr⟩ := c
  have hv := rr.ints e1
  subst hv
  have hl : ns.length < 64 := by
    have := rr.length
    rw [List.length_map] at this
    omega
  refine ⟨p0, ns, rfl, hp.sq, by omega, fun z n hz hnl => ?_⟩
  refine ⟨z, _, n, rfl, upd_same, by omega, fun ms q so mem _ hq => ?_⟩
  have em : ms = sset ns := rise_eq so (sset_lt ns) fun k => by
    rw [mem k, decide_eq_true_eq, sset_mem]
  subst em
  let w1 : Wd := w.owned z (SetO X.w z (fun j => decide (j ∈ ns)) n)
  have wf1 : Wf w1 := owned_wf s.wf hz
  have ex1 : Ext w w1 := owned_ext s.wf hz
  have s1 : Sr g.w0 ρ M w1 σ := s.ext ex1 wf1 (owned_sto s.sto s.wf hz)
  have n1 : w1.H q = none := hq
  have ex2 : Ext w1 (w1.owned q (.lst ((sset ns).map V.int))) := owned_ext wf1 n1
  exact a3 (.ref q) (w1.owned q (.lst ((sset ns).map V.int))) (ex1.trans ex2) (s1.ext ex2 (owned_wf wf1 n1) (owned_sto s1.sto wf1 n1)) ⟨q, rfl, ⟨_, upd_same, Reps.of_ints _⟩, wf1.notF n1, wf1.notA n1, ex1.none n1⟩
/-! list(range(..)) -/
theorem rgV_reps {w : Wd} (a b : Int) : Reps w (rgV a b) (rangeL a (b - a).toNat) := reps_range a _
theorem s_lit (h : Cok T X g N sc) {x y : Str} {p p2 pos2 : Pos} (hx : isB sc x "list" = true) (hy : isB sc y "range" = true) (hn : nst a = true) (ha : PE X a (GE g .rep fa)) :
    PE X (.Call (.Name x p) [.Call (.Name y p2) [a] [] pos2] [] pos) (GE g .frs fun ρ M => (fa ρ M).bind fun x M => Pv.opt ((rangeD (.int 0) x).map .lst) M) := by
  obtain ⟨rfl, e⟩ := isB_of hx
  obtain ⟨rfl, e2⟩ := isB_of hy
  refine PE.imp (pe_listRg h.calm (h.gl e) (h.blt (by decide)) (prg_1 (h.gl e2) (h.blt (by decide)) ha (star_ok hn)) rfl) fun σ H Q q => ?_
  refine ge_one (ka := .rep) (rel := fun ρ σ => rl g ρ σ .frs) (F := fun ρ x M => Pv.opt ((rangeD (.int 0) x).map .lst) M) (anti_rl (k := .frs)) ?_ q
  intro ρ M w w0 v x s ex r af
  obtain ⟨d, ed, a3⟩ := Aft.optE af
  obtain ⟨ds, e3, rfl⟩ := Option.map_eq_some_iff.mp ed
  obtain ⟨i, j, e1, rfl, e2, e3, rfl⟩ := rangeD_of e3
  cases e1
  cases (show Rep w v (.int j) from r)
  refine ⟨j, rfl, ⟨e2.1, e2.2.1, e2.2.2.1, e2.2.2.2, by have : LIM = 2 ^ 24 := rfl; omega⟩, fun q n => ?_⟩
  exact a3.newO s n ⟨_, upd_same, rgV_reps 0 j⟩
theorem s_lit2 (h : Cok T X g N sc) {x y : Str} {p p2 pos2 : Pos} (hx : isB sc x "list" = true) (hy : isB sc y "range" = true) (hn : nst a = true) (hn' : nst b = true) (ha : PE X a (GE g .rep fa)) (hb : PE X b (GE g .rep fb)) :
    PE X (.Call (.Name x p) [.Call (.Name y p2) [a, b] [] pos2] [] pos) (GE g .frs fun ρ M => (fa ρ M).bind fun x M => (fb ρ M).bind fun y M => Pv.opt ((rangeD x y).map .lst) M) := by
  obtain ⟨rfl, e⟩ := isB_of hx
  obtain ⟨rfl, e2⟩ := isB_of hy
  refine PE.imp (pe_listRg h.calm (h.gl e) (h.blt (by decide)) (prg_2 (h.gl e2) (h.blt (by decide)) ha hb (star_ok hn) (star_ok hn') (star_any (by simp [hn']))) rfl) fun σ H Q q => ?_
  refine ge_two (ka := .rep) (kb := .rep) (rel := fun ρ σ => rl g ρ σ .frs) (F := fun ρ x y M => Pv.opt ((rangeD x y).map .lst) M) (fun z => nomatch z) (anti_rl (k := .frs)) ?_ q
  intro ρ M w w0 w1 v u x y s rx ry af
  obtain ⟨d, ed, a3⟩ := Aft.optE af
  obtain ⟨ds, e3, rfl⟩ := Option.map_eq_some_iff.mp ed
  obtain ⟨i, j, rfl, rfl, e2, e3, rfl⟩ := rangeD_of e3
  cases (show Rep w v (.int i) from rx)
  cases (show Rep w u (.int j) from ry)
  refine ⟨i, j, rfl, rfl, ⟨e2.1, e2.2.1, e2.2.2.1, e2.2.2.2, by have : LIM = 2 ^ 24 := rfl; omega⟩, fun q n => ?_⟩
  exact a3.newO s n ⟨_, upd_same, rgV_reps i j⟩
/-! {k: v} -/
theorem s_dsp {ek ev : Expr} (ha : PE X ek (GE g .rep fa)) (hb : PE X ev (GE g .rep fb)) :
    PE X (.Dict [some ek] [ev] pos) (GE g .frs fun ρ M => (fa ρ M).bind fun x M => (fb ρ M).bind fun y M => Pv.opt ((keyOf x).map fun k => .dic [(k, y)]) M) := by
  refine PE.imp (pe_disp (pps_cons ha hb pps_nil) rfl rfl (by simp) (by simp)) fun σ H Q q => ?_
  obtain ⟨ρ, M, w, rfl, s, a⟩ := q
  dsimp only at a
  intro p n
  have wf1 : Wf (w.owned p (.dK [])) := owned_wf s.wf n
  have ex1 : Ext w (w.owned p (.dK [])) := owned_ext s.wf n
  have s1 : Sr g.w0 ρ M (w.owned p (.dK [])) σ := s.ext ex1 wf1 (owned_sto s.sto s.wf n)
  have nA : p ∉ (w.owned p (.dK [])).A := s.wf.notA n
  have hp1 : (w.owned p (.dK [])).H p = some (.dK []) := upd_same
  refine ⟨ρ, M, _, rfl, s1, ?_⟩
  cases hfa : fa ρ M with
  | fail => rw [hfa] at a; exact a.elim
  | exc c M' => rw [hfa] at a; exact fun w' e s' => a w' (ex1.trans e) s'
  | ok x M1 =>
    rw [hfa] at a
    intro v w2 e2 s2 r2
    refine ⟨ρ, M1, w2, rfl, s2, ?_⟩
    have a : Aft g (rl g ρ σ .frs) w ρ σ Q ((fb ρ M1).bind fun y M => Pv.opt ((keyOf x).map fun k => .dic [(k, y)]) M) := a
    cases hfb : fb ρ M1 with
    | fail => rw [hfb] at a; exact a.elim
    | exc c M' => rw [hfb] at a; exact fun w' e s' => a w' ((ex1.trans e2).trans e) s'
    | ok y M2 =>
      rw [hfb] at a
      intro u w3 e3 s3 r3
      have a : Aft g (rl g ρ σ .frs) w ρ σ Q (Pv.opt ((keyOf x).map fun k => .dic [(k, y)]) M2) := a
      obtain ⟨d, ed, a3⟩ := a.optE
      obtain ⟨k, ek, rfl⟩ := Option.map_eq_some_iff.mp ed
      have e13 := e2.trans e3
      have hp3 : w3.H p = some (.dK []) := e13.H p _ hp1 nA
      have nF3 : ¬ w3.F p := fun z => by
        rcases e13.nF p z with z | z
        · exact s.wf.notF n z
        · rw [hp1] at z; cases z
      have nA3 : p ∉ w3.A := fun z => by
        rcases e13.nA p z with z | z
        · exact nA z
        · rw [hp1] at z; cases z
      have r2 : Rep w3 v x := (show Rep w2 v x from r2).mono (e3.wle s2.wf)
      have hv := keyOf_V r2 ek
      subst hv
      refine ⟨hp3, [(k, u)], rfl, by simp, ?_⟩
      let w4 : Wd := ⟨w3.F, w3.A, upd w3.H p (.dK [(k, u)]), w3.K, w3.B⟩
      have hne : ∀ q, w3.F q → q ≠ p := fun q hq z => nF3 (z ▸ hq)
      have le34 : Wle w3 w4 := ⟨fun q hq => ⟨hq, upd_ne (hne q hq)⟩, fun _ _ z => z, rfl, rfl⟩
      have wf4 : Wf w4 := ⟨fun q hq => by
          obtain ⟨n1, o, ho⟩ := s3.wf.f q hq
          exact ⟨n1, o, by show upd w3.H p _ q = some o; rw [upd_ne (hne q hq)]; exact ho⟩, s3.wf.nd, fun q hq => by
          obtain ⟨o, ho⟩ := s3.wf.a q hq
          exact ⟨o, by show upd w3.H p _ q = some o; rw [upd_ne (show q ≠ p from fun z => by subst z; exact nA3 hq)]; exact ho⟩⟩
      have e03 := ex1.trans e13
      have ex4 : Ext w w4 := by
        refine ⟨e03.F, e03.A, fun q o ho hn => ?_, e03.nF, e03.nA, fun q hq => ?_, e03.K, e03.B⟩
        · show upd w3.H p _ q = some o
          rw [upd_ne (ne_of_none ho n)]; exact e03.H q o ho hn
        · show upd w3.H p _ q ≠ none
          by_cases z : q = p
          · subst z; rw [upd_same]; exact fun z => nomatch z
          · rw [upd_ne z]; exact e03.kp q hq
      have st4 : Sto w4 M2 := ⟨s3.sto.len, fun hh q dd h1 h2 => (s3.sto.at_ hh q dd h1 h2).mono le34 (upd_ne (show q ≠ p from fun z => by subst z; exact nA3 (List.mem_of_getElem? h1)))⟩
      exact a3 (.ref p) w4 ex4 (s.ext ex4 wf4 st4) ⟨p, rfl, ⟨[(k, u)], upd_same, rfl, .cons ((show Rep w3 u y from r3).mono le34) .nil⟩, nF3, nA3, n⟩
end
end Pv

set_option Elab.async false
set_option linter.all false
set_option maxRecDepth 100000
set_option maxHeartbeats 4000000
namespace Pv
open PySem L2 RZ

section
variable {T : Tb} {X : Cx} {g : Gx} {N : List Str} {sc : Scope} {pos : Pos} {a b c : Expr} {fa fb fc : Rho → Store → Res D}
/-! ### zip -/
theorem walk_zipT {K : PySem.W.Frag} {p q : Addr} {xs ys : List V} {n : Nat} (hn : n = min xs.length ys.length) : Walk (ItzT K p q) n (fun H => SqT K H p xs ∧ SqT K H q ys) (YPair (fun i => xs[i]?) (fun i => ys[i]?)) := by
  subst hn
  refine ⟨fun i _ hi q => ?_, fun _ q => ⟨xs, ys, q.1, q.2, by omega⟩, fun i H v H' _ q y => ?_⟩
  · have h1 : i < xs.length := by omega
    have h2 : i < ys.length := by omega
    exact ⟨xs, ys, xs[i], ys[i], q.1, q.2, by simp [h1], by simp [h2]⟩
  · obtain ⟨T, x, z, h1, h2, h3, h4, h5⟩ := y
    exact ⟨T, x, z, h1, h2, h3, h4 xs q.1, h5 ys q.2⟩
theorem wk_pair {K : PySem.W.Frag} {w : Wd} {J : It} {ds : List D} {f1 f2 : Nat → Option V} {G : Hp → Prop} (hl : ds.length ≤ LIM) (W : Walk J ds.length G (YPair f1 f2)) (hG : ∀ w2, Wle w w2 → G w2.H)
    (hr : ∀ (i : Nat) (d : D) (x y : V), ds[i]? = some d → f1 i = some x → f2 i = some y → ∃ d1 d2, d = .tup [d1, d2] ∧ Rep w x d1 ∧ Rep w y d2) : Wk K true w J ds := by
  refine ⟨hl, G, _, W, hG, fun i w2 x H' d hd le wf y => ?_⟩
  obtain ⟨p, x1, x2, rfl, n, rfl, e1, e2⟩ := y
  obtain ⟨d1, d2, rfl, r1, r2⟩ := hr i d x1 x2 hd e1 e2
  have le2 : Wle w2 (w2.frozen p (.tup [x1, x2])) := frozen_wle wf n
  exact ⟨w2.frozen p (.tup [x1, x2]), rfl, frozen_ext wf n, frozen_wf wf n, fun M s => frozen_sto s wf n, .inr ⟨rfl, p, _, _, rfl, rfl, upd_same, .cons ((r1.mono le).mono le2) (.cons ((r2.mono le).mono le2) .nil)⟩⟩
theorem zip_len (xs ys : List D) : (zipD xs ys).length = min xs.length ys.length := by simp [zipD]
theorem zip_get {w : Wd} {vs us : List V} {xs ys : List D} (r1 : Reps w vs xs) (r2 : Reps w us ys) {i : Nat} {d : D} {x y : V} (hd : (zipD xs ys)[i]? = some d) (h1 : vs[i]? = some x) (h2 : us[i]? = some y) :
    ∃ d1 d2, d = .tup [d1, d2] ∧ Rep w x d1 ∧ Rep w y d2 := by
  obtain ⟨d1, e1, k1⟩ := r1.get' h1
  obtain ⟨d2, e2, k2⟩ := r2.get' h2
  unfold zipD at hd
  rw [List.getElem?_map] at hd
  have : (xs.zip ys)[i]? = some (d1, d2) := by
    rw [List.getElem?_zip_eq_some]
    exact ⟨e1, e2⟩
  rw [this] at hd
  exact ⟨d1, d2, (Option.some.inj hd).symm, k1, k2⟩
/-- lists and tuples are not too long -/
def Lens (H : Hp) : Prop := ∀ p vs, (TH H p vs ∨ H p = some (.lst vs)) → vs.length ≤ sizeLine
theorem Inv.lens {pins : List (Addr × Obj)} {s : Shared} {σ : St} {H : Hp} (I : L2.Inv X pins σ H s) : Lens H := fun p vs h => by
  rcases h with ⟨o, _, h⟩ | h
  · exact (I.hok p _ h).2.1
  · exact (I.hok p _ h).1
theorem PE.lens {e : Expr} {t : TE} (h : PE X e t) : PE X e (fun σ H Q => t σ H fun v H' => Lens H' → Q v H') := ⟨fun pins s σ H Q I q => thn (h.run pins s σ H _ I q) fun u s' ⟨v, H', I', r, k⟩ => ⟨v, H', I', r, k (Inv.lens I')⟩⟩
theorem i_zip (h : Cok T X g N sc) {elts : List Expr} {kk : Nat} {tpos : Pos} {x : Str} {p : Pos} (hx : isB sc x "zip" = true) (hn : nst a = true) (hn' : nst b = true) (ha : PE X a (GE g .rep fa)) (hb : PE X b (GE g .rep fb)) :
    PI X (.Tuple elts kk tpos) (.Call (.Name x p) [a, b] [] pos) (GI g X.K true fun ρ M => (fa ρ M).bind fun x M => (fb ρ M).bind fun y M => Pv.opt (zipO x y) M) := by
  obtain ⟨rfl, e⟩ := isB_of hx
  refine ⟨fun pins s σ H R I q => ?_⟩
  refine (pi_zipA (h.gl e) (h.blt (by decide)) (pa_cons ha (pa_cons (PE.lens hb) pa_nil (star_ok hn')) (star_ok hn)) (star_ok hn) (star_any (by simp [hn']))).run pins s σ H R I ?_
  refine ge_two (ka := .rep) (kb := .rep) (rel := fun ρ σ => fun _ w' J ds => Wk X.K true w' J ds) (F := fun ρ x y M => Pv.opt (zipO x y) M) (fun z => nomatch z) (anti_w (σ := σ)) ?_ q
  intro ρ M w w0 w1 v u x y s rx ry af hL
  obtain ⟨ds, ed, a3⟩ := Aft.opt af
  have rx : Rep w v x := rx
  have ry : Rep w u y := ry
  cases rx <;> cases ry <;> simp only [zipO, reduceCtorEq, Option.some.injEq] at ed <;> subst ed
  · rename_i p1 vs xs f1 hp1 r1 p2 us ys f2 hp2 r2
    have hz : xs.length ≤ LIM := by rw [← r1.length]; exact hL p1 vs (.inl hp1)
    refine ⟨p1, p2, vs, us, rfl, .inr ⟨hp1.sq, hp2.sq, a3.fin s ?_⟩⟩
    refine wk_pair (by rw [zip_len]; omega) (walk_zipT (xs := vs) (ys := us) (by rw [zip_len, r1.length, r2.length])) (fun w2 le => ⟨(hp1.eq (le.F p1 f1).2).sq, (hp2.eq (le.F p2 f2).2).sq⟩) ?_
    exact fun i d x y hd h1 h2 => zip_get r1 r2 hd h1 h2
  · rename_i p1 vs xs f1 hp1 r1 p2 us ys f2 hp2 r2
    have hz : xs.length ≤ LIM := by rw [← r1.length]; exact hL p1 vs (.inr hp1)
    refine ⟨p1, p2, vs, us, rfl, .inl ⟨SqL.of hp1, SqL.of hp2, a3.fin s ?_⟩⟩
    refine wk_pair (by rw [zip_len]; omega) (walk_zip (xs := vs) (ys := us) (by rw [zip_len, r1.length, r2.length])) (fun w2 le => ⟨SqL.of ((le.F p1 f1).2.trans hp1), SqL.of ((le.F p2 f2).2.trans hp2)⟩) ?_
    exact fun i d x y hd h1 h2 => zip_get r1 r2 hd h1 h2

/-! ### comprehensions -/
def Gx.blk (g : Gx) : Gx := { g with W := fun _ _ _ _ => False }
/-- one turn -/
def turnF (tg : List Nat) (tt : Bool) (own : List Nat) (fc : Rho → Store → Res Bool) (fe : Rho → Store → Res D) (ρ : Rho) : D → Store → Res (Option D) := fun d M =>
  match bindT tg tt (wipeR ρ own) d with
  | some ρ1 => match fc ρ1 M with
    | .ok true M1 => (fe ρ1 M1).bind fun x M2 => .ok (some x) M2
    | .ok false M1 => .ok none M1
    | _ => .fail
  | none => .fail
theorem wipe_wipe {σ : St} : ∀ {vs : List Nat}, wipe (wipe σ vs) vs = wipe σ vs := by
  intro vs
  have key : ∀ (us vs : List Nat) (σ : St), (∀ i ∈ us, i ∈ vs) → wipe (wipe σ us) vs = wipe σ vs := by
    intro us
    induction us with
    | nil => intro vs σ _; rfl
    | cons u us ih =>
      intro vs σ h
      show wipe ((wipe σ us).set u none) vs = _
      rw [wipe_set (h u List.mem_cons_self)]
      exact ih vs σ fun i hi => h i (List.mem_cons_of_mem _ hi)
  exact key vs vs σ fun _ h => h
theorem compL_len {f : D → Store → Res (Option D)} : ∀ {ds : List D} {M : Store} {r : List D} {M' : Store}, compL f ds M = .ok r M' → r.length ≤ ds.length
  | [], M, r, M', h => by cases h; exact Nat.le_refl _
  | d :: ds, M, r, M', h => by
    unfold compL at h
    split at h
    · rename_i o M1 _
      split at h
      · rename_i r1 M2 h2
        have := compL_len h2
        cases h
        cases o <;> simp <;> omega
      · cases h
    · cases h
/-- the list at D holds what was made -/
theorem Sr.blkOf {w0 w : Wd} {ρ : Rho} {M : Store} {σ : St} (s : Sr w0 ρ M w σ) : True := trivial
theorem comp_rd {tg own : List Nat} {tt : Bool} {fi : Rho → Store → Res (List D)} {fc : Rho → Store → Res Bool} {fe : Rho → Store → Res D} (nm : List (Str × Nat)) (hnm : nm.map (·.2) = own) (htg : ∀ i ∈ tg, i ∈ own) :
    ∀ (σ : St) (H : Hp) (Q : VK), GE g .frs (fun ρ M => (fi ρ M).bind fun ds M => (compL (turnF tg tt own fc fe ρ) ds M).bind fun r M => .ok (.lst r) M) σ H Q →
      tLc (GIe g X.K tt fi) (gT X.K tg tt) (GT g.blk fc) (GE g.blk .rep fe) (nm.map (·.2)) σ H Q := by
  rintro σ H Q ⟨ρ, M, w, e, s, a⟩
  refine ⟨ρ, M, w, e, s, Aft.mono (Aft.bind (rel := fun _ w' J ds => WkE X.K tt w' J ds) a fun w1 ex => anti_rl (k := .frs) (σ := σ) ρ w w1 ex) ?_⟩
  rintro J H1 ⟨ds, M1, w1, e1, ex1, s1, ⟨hlen, G, Y, W, hG, hY⟩, a1⟩
  subst e1
  intro Dp hD
  rw [hnm]
  -- the rest of the items from turn i on, and what is made so far
  refine lc_it W (Pv := fun i H => ∃ (acc : List D) (vs : List V) (Mi : Store) (wi : Wd), wi.H = H ∧ Ext w1 wi ∧ Sr g.w0 ρ Mi wi σ ∧ wi.H Dp = some (.lst vs) ∧ Reps wi vs acc ∧ ¬ wi.F Dp ∧ Dp ∉ wi.A ∧ acc.length ≤ i ∧
      Aft g (rl g ρ σ .frs) w1 ρ σ Q ((compL (turnF tg tt own fc fe ρ) (ds.drop i) Mi).bind fun r M => .ok (.lst (acc ++ r)) M)) ?_ ?_ ?_ ?_
  · refine ⟨[], [], M1, w1.owned Dp (.lst []), rfl, owned_ext s1.wf hD, s1.ext (owned_ext s1.wf hD) (owned_wf s1.wf hD) (owned_sto s1.sto s1.wf hD), upd_same, .nil, s1.wf.notF hD, s1.wf.notA hD, Nat.zero_le _, ?_⟩
    simpa using a1
  · rintro i H hi ⟨acc, vs, Mi, wi, rfl, exi, _⟩
    exact hG wi exi
  · rintro i x H H' hi ⟨acc, vs, Mi, wi, rfl, exi, si, hDi, ri, nF, nA, hl, ai⟩ y
    have hd : ds[i]? = some ds[i] := List.getElem?_eq_getElem hi
    obtain ⟨w3, rfl, ex3, wf3, st3, r3⟩ := hY i wi x H' _ hd (exi.wle s1.wf) si.wf y
    have s3 : Sr g.w0 ρ Mi w3 σ := si.ext ex3 wf3 (st3 Mi si.sto)
    rw [List.drop_eq_getElem_cons hi] at ai
    unfold compL at ai
    -- the turn
    cases hb : bindT tg tt (wipeR ρ own) ds[i] with
    | none =>
      have : turnF tg tt own fc fe ρ ds[i] Mi = .fail := by unfold turnF; rw [hb]
      rw [this] at ai; exact ai.elim
    | some ρ1 =>
      refine gT_ok (s3.wipe own) r3 hb fun us s4 => ⟨by rw [wipe_setVs htg, wipe_wipe], ?_⟩
      have et : turnF tg tt own fc fe ρ ds[i] Mi = (match fc ρ1 Mi with
          | .ok true M1 => (fe ρ1 M1).bind fun x M2 => .ok (some x) M2
          | .ok false M1 => .ok none M1
          | _ => .fail) := by unfold turnF; rw [hb]
      rw [et] at ai
      -- the list at D is kept through a piece of code that goes from w3 to w'
      have keep : ∀ w', Ext w3 w' → w'.H Dp = some (.lst vs) ∧ ¬ w'.F Dp ∧ Dp ∉ w'.A := by
        intro w' ex'
        have exw := ex3.trans ex'
        refine ⟨exw.H Dp _ hDi nA, fun z => ?_, fun z => ?_⟩
        · rcases exw.nF Dp z with z | z
          · exact nF z
          · rw [z] at hDi; cases hDi
        · rcases exw.nA Dp z with z | z
          · exact nA z
          · rw [z] at hDi; cases hDi
      refine ⟨ρ1, Mi, w3, rfl, s4, ?_⟩
      cases hc : fc ρ1 Mi with
      | fail => rw [hc] at ai; exact ai.elim
      | exc k M5 => rw [hc] at ai; exact ai.elim
      | ok t M5 =>
        rw [hc] at ai
        intro t' w5 ex5 s5 e5
        subst e5
        have srS : ∀ {Mx : Store} {wx : Wd}, Ext w3 wx → Wf wx → Sto wx Mx → Sr g.w0 ρ Mx wx σ := fun ex wf st => s3.ext ex wf st
        cases t' with
        | false =>
          rw [if_neg (by decide)]
          obtain ⟨k1, k2, k3⟩ := keep w5 ex5
          refine ⟨acc, vs, M5, w5, rfl, exi.trans (ex3.trans ex5), srS ex5 s5.wf s5.sto, k1, (ri.mono ((ex3.trans ex5).wle si.wf)), k2, k3, by omega, ?_⟩
          revert ai
          show Aft g _ w1 ρ σ Q (Res.bind (match compL (turnF tg tt own fc fe ρ) (List.drop (i + 1) ds) M5 with | .ok r M2 => Res.ok r M2 | _ => .fail) _) → _
          cases compL (turnF tg tt own fc fe ρ) (List.drop (i + 1) ds) M5 with
          | ok r M6 => exact fun z => z
          | exc _ _ => exact fun z => z.elim
          | fail => exact fun z => z
        | true =>
          rw [if_pos rfl]
          refine ⟨ρ1, M5, w5, rfl, s5, ?_⟩
          have ai : Aft g (rl g ρ σ .frs) w1 ρ σ Q (Res.bind (match ((fe ρ1 M5).bind fun x M2 => .ok (some x) M2) with
            | .ok o M1 => match compL (turnF tg tt own fc fe ρ) (List.drop (i + 1) ds) M1 with
              | .ok r M2 => .ok (match o with | some x => x :: r | none => r) M2
              | _ => .fail
            | _ => .fail) fun r M => .ok (.lst (acc ++ r)) M) := ai
          cases hx : fe ρ1 M5 with
          | fail => rw [hx] at ai; exact ai.elim
          | exc k M6 => rw [hx] at ai; exact ai.elim
          | ok d6 M6 =>
            rw [hx] at ai
            intro v6 w6 ex6 s6 r6
            have ex36 := ex5.trans ex6
            obtain ⟨k1, k2, k3⟩ := keep w6 ex36
            have r6 : Rep w6 v6 d6 := r6
            have rv := ri.mono ((ex3.trans ex36).wle si.wf)
            refine ⟨vs, k1, ?_, ?_⟩
            · rw [rv.length]
              have : i < LIM := Nat.lt_of_lt_of_le hi hlen
              show acc.length < LIM
              omega
            · -- the list grows
              let w7 : Wd := ⟨w6.F, w6.A, upd w6.H Dp (.lst (vs ++ [v6])), w6.K, w6.B⟩
              have hne : ∀ q, w6.F q → q ≠ Dp := fun q hq z => k2 (z ▸ hq)
              have le67 : Wle w6 w7 := ⟨fun q hq => ⟨hq, upd_ne (hne q hq)⟩, fun _ _ z => z, rfl, rfl⟩
              have wf7 : Wf w7 := ⟨fun q hq => by
                  obtain ⟨n1, o, ho⟩ := s6.wf.f q hq
                  exact ⟨n1, o, by show upd w6.H Dp _ q = some o; rw [upd_ne (hne q hq)]; exact ho⟩, s6.wf.nd, fun q hq => by
                  obtain ⟨o, ho⟩ := s6.wf.a q hq
                  exact ⟨o, by show upd w6.H Dp _ q = some o; rw [upd_ne (show q ≠ Dp from fun z => by subst z; exact k3 hq)]; exact ho⟩⟩
              have ex17 : Ext w1 w7 := by
                have ex16 := exi.trans (ex3.trans ex36)
                refine ⟨ex16.F, ex16.A, fun q o ho hn => ?_, ex16.nF, ex16.nA, fun q hq => ?_, ex16.K, ex16.B⟩
                · have hne : q ≠ Dp := ne_of_none ho hD
                  show upd w6.H Dp _ q = some o
                  rw [upd_ne hne]; exact ex16.H q o ho hn
                · show upd w6.H Dp _ q ≠ none
                  by_cases z : q = Dp
                  · subst z; rw [upd_same]; exact fun z => nomatch z
                  · rw [upd_ne z]; exact ex16.kp q hq
              have st7 : Sto w7 M6 := ⟨s6.sto.len, fun hh q dd h1 h2 => (s6.sto.at_ hh q dd h1 h2).mono le67 (upd_ne (show q ≠ Dp from fun z => by subst z; exact k3 (List.mem_of_getElem? h1)))⟩
              refine ⟨acc ++ [d6], vs ++ [v6], M6, w7, rfl, ex17, s1.ext ex17 wf7 st7, upd_same, (rv.append (.cons r6 .nil)).mono le67, k2, k3, by simp; omega, ?_⟩
              revert ai
              show Aft g _ w1 ρ σ Q (Res.bind (match compL (turnF tg tt own fc fe ρ) (List.drop (i + 1) ds) M6 with | .ok r M2 => Res.ok (d6 :: r) M2 | _ => .fail) _) → _
              cases compL (turnF tg tt own fc fe ρ) (List.drop (i + 1) ds) M6 with
              | ok r M6 =>
                intro z
                simpa [Res.bind] using z
              | exc _ _ => exact fun z => z.elim
              | fail => exact fun z => z
  · rintro H ⟨acc, vs, Mi, wi, rfl, exi, si, hDi, ri, nF, nA, hl, ai⟩
    rw [List.drop_length] at ai
    have ai : Aft g (rl g ρ σ .frs) w1 ρ σ Q (.ok (.lst (acc ++ [])) Mi) := ai
    rw [List.append_nil] at ai
    exact ai (.ref Dp) wi exi si ⟨Dp, rfl, ⟨vs, hDi, ri⟩, nF, nA, hD⟩
theorem s_comp (h : Cok T X g N sc) {tge iter elt : Expr} {ifs : List Expr} {scope : Scope} {tg own : List Nat} {tt : Bool} {fi : Rho → Store → Res (List D)} {fc : Rho → Store → Res Bool} {fe : Rho → Store → Res D}
    (nm : List (Str × Nat)) (hnm : nm.map (·.2) = own)
    (hi : PI X tge iter (GIe g X.K tt fi)) (ok : BlkOk X.N X.env.scope scope nm) (htg : ∀ i ∈ tg, i ∈ own)
    (hg : ∀ (s : Shared) (H : Hp) (C : Addr) (cl : List (Str × Addr)) (fp : List Addr), PG (X.blk s H scope (compEnvC scope cl C X.env) fp) tge (gT X.K tg tt))
    (ht : ∀ (s : Shared) (H : Hp) (C : Addr) (cl : List (Str × Addr)) (fp : List Addr), PTs (X.blk s H scope (compEnvC scope cl C X.env) fp) ifs (GT g.blk fc))
    (he : ∀ (s : Shared) (H : Hp) (C : Addr) (cl : List (Str × Addr)) (fp : List Addr), PE (X.blk s H scope (compEnvC scope cl C X.env) fp) elt (GE g.blk .rep fe))
    (hs : ∀ x, foldedSetIterable iter X.env x = pure x) :
    PE X (.ListComp elt [⟨tge, iter, ifs, 0⟩] scope pos) (GE g .frs fun ρ M => (fi ρ M).bind fun ds M => (compL (turnF tg tt own fc fe ρ) ds M).bind fun r M => .ok (.lst r) M) := by
  exact PE.imp (pe_lc h.calm (by rw [h.hN]; exact h.nd) hi ok hg ht he hs) (comp_rd nm hnm htg)
end
end Pv

set_option Elab.async false
set_option linter.all false
set_option maxRecDepth 100000
set_option maxHeartbeats 4000000
/-! ### enumerate(x) of what begins -/
namespace Pv.En
open PySem PyProof.Rows
theorem enum_new {v : Value} {o : Obj} {Z : Heap → Prop} (B : Begins v o Z) :
    Meets (Builtin.«enumerate.__new__» ⟨[.type "enumerate", v], []⟩) (fun _ R s => Z s.heap ∧
      R (.ok (.ret (.ref (s.heap.push o).objs.size))) { s with heap := (s.heap.push o).push { cls := .type "enumerate", data := .fields #[.none, .bool false, .ref s.heap.objs.size, rawInt 0, .none, .none] } }) :=
  .of_wp fun prog w A R s q => by
    obtain ⟨hp, g, d, tk, os⟩ := s
    obtain ⟨q0, q⟩ := q
    have hsub := sub_enumerate
    have q1 : ∀ {A2 : Around} {E : Value → Shared → Prop} {Q : Value → Shared → Prop}, Q (.ref hp.objs.size) ⟨hp.push o, g, d, tk, os⟩ → wpAny (model prog w) A2 (pyIter v) Q E ⟨hp, g, d, tk, os⟩ :=
      fun z => B.iter prog w _ _ ⟨hp, g, d, tk, os⟩ _ q0 z
    wp_walk using q1
    refine wpAny_stack_any fun z => wpAny_pure ?_
    split
    · rename_i c _ _ _ _ _
      cases (c == Value.type "enumerate") <;> (wp_walk using q1; exact ⟨_, rfl, q⟩)
    · wp_walk using q1
      exact ⟨_, rfl, q⟩
theorem enum_call {prog : Program} {w : World} {A : Around} {E : Value → Shared → Prop} {s : Shared} {v : Value} {o : Obj} {Z : Heap → Prop} {Q : Value → Shared → Prop} (B : Begins v o Z) (q0 : Z s.heap)
    (q : ∀ h', IsEnum h' (s.heap.objs.size + 1) s.heap.objs.size 0 .none → h'.get? s.heap.objs.size = some o → (∀ b u, s.heap.get? b = some u → h'.get? b = some u) → Q (.ref (s.heap.objs.size + 1)) { s with heap := h' }) :
    wpAny (model prog w) A (call (.type "enumerate") [v]) Q E s := by
  refine callType_new F.called_enumerate (by decide) (F.typeCall_enumerate_1 _) (F.newCall_enumerate_1 _) (fun obj => F.args_object_init_2 obj _) F.entry_enumerate_new (enum_new B) ⟨q0, ?_⟩
  have hz : (s.heap.push o).objs.size = s.heap.objs.size + 1 := Heap.size_push ..
  show _ ∧ _
  rw [hz]
  generalize hE : ({ cls := .type "enumerate", data := .fields #[.none, .bool false, .ref s.heap.objs.size, rawInt 0, .none, .none] } : Obj) = oe
  have he : ((s.heap.push o).push oe).get? (s.heap.objs.size + 1) = some oe := by
    have := Heap.get?_push_size (s.heap.push o) (o := oe) (by rw [← hE]; rfl)
    rw [hz] at this; exact this
  have he2 : IsEnum ((s.heap.push o).push oe) (s.heap.objs.size + 1) s.heap.objs.size 0 .none := by
    subst hE; exact he
  refine ⟨⟨oe, he, by rw [← hE]⟩, q _ he2 ?_ fun b u z => ?_⟩
  · exact Heap.get?_push_of_some _ (Heap.get?_push_size _ B.free)
  · exact Heap.get?_push_of_some _ (Heap.get?_push_of_some _ z)
end Pv.En
namespace Pv
open PySem L2

/-- pairs of a place and an item -/
def Itf (xs : List V) (G : Hp → Prop) : It :=
  ⟨fun i H => i < xs.length ∧ G H, fun i H v H' => ∃ (T : Addr) (x : V), v = V.ref T ∧ H T = none ∧ H' = upd H T (.tup [.int (i : Nat), x]) ∧ xs[i]? = some x, fun i H => i = xs.length ∧ G H⟩
theorem walk_f {xs : List V} {G : Hp → Prop} : Walk (Itf xs G) xs.length G (YPair (fun i => some (.int (i : Nat))) (fun i => xs[i]?)) := by
  refine ⟨fun i H hi q => ⟨hi, q⟩, fun H q => ⟨rfl, q⟩, fun i H v H' _ q y => ?_⟩
  obtain ⟨T, x, h1, h2, h3, h4⟩ := y
  exact ⟨T, _, x, h1, h2, h3, rfl, h4⟩
theorem turn_enumF {P : Program} {w : World} {K : PySem.W.Frag} {elts : List Expr} {kk : Nat} {tpos : Pos} {xs : List V} {G : Hp → Prop} (e it : Addr) (fr : Nat → Heap → Prop)
    (hD : ∀ (X : Cx) (pins : List (Addr × Obj)) (s : Shared) (σ : L2.St) (H : Hp), X.prog = P → X.w = w → X.K = K → X.calm = true → L2.Inv X pins σ H s → (∀ b ∈ [e, it], FpOk X pins H b) → G H → e ≠ it → ∀ i, fr i s.heap →
      ∃ (fp : List Addr) (Ps : Nat → Value → Prop) (St : Nat → Heap → Prop), e ∉ fp ∧ Draws P w X.A.in1 it fp xs.length Ps St ∧ St i s.heap ∧ (∀ i h, St i h → fr i h) ∧ ∀ i v, Ps i v → ∃ x, xs[i]? = some x ∧ RelV x v)
    (ob : ∀ i h, fr i h → ∃ o, h.get? it = some o ∧ ∀ v, o.data ≠ .cell v) (kp : ∀ i h h', fr i h → (∀ o, h.get? it = some o → h'.get? it = some o) → fr i h') :
    Turn P w K (.Tuple elts kk tpos) (Itf xs G) [e, it] e (fun i h => (∃ old, IsEnum h e it ((i : Nat) : Int) old) ∧ fr i h ∧ e ≠ it) where
  mem := by simp
  obj := fun i h st b hb => by
    obtain ⟨⟨old, he⟩, hi, _⟩ := st
    rcases List.mem_cons.mp hb with z | z
    · rw [z]; exact ⟨_, he, fun v q => nomatch q⟩
    · rw [List.mem_singleton.mp z]; exact ob i h hi
  keep := fun i h h' st k => by
    obtain ⟨⟨old, he⟩, hi, hne⟩ := st
    exact ⟨⟨old, k e (by simp) _ he⟩, kp i h h' hi fun o q => k it (by simp) o q, hne⟩
  item := by
    intro X hP' hw hK hc i pins s σ H E I hf st hg
    obtain ⟨fp, Ps, St, hef, D, sti, hF, hP⟩ := hD X pins s σ H hP' hw hK hc I hf hg.2 st.2.2 i st.2.1
    subst hP' hw hK
    obtain ⟨⟨old, he⟩, hit, hne⟩ := st
    have hel : e < s.heap.objs.size := Heap.lt_size he
    have hil : it < s.heap.objs.size := by
      obtain ⟨o, q, _⟩ := ob i _ hit
      exact Heap.lt_size q
    refine wpAny_pyNext_enum_itemD D he sti hg.1 hne hef fun u h' tk hpu ho sti' hT hsz hk => ?_
    obtain ⟨x, hx, ru⟩ := hP i u hpu
    refine ⟨_, rfl, wpAny_letOwnedTupleGo_enum (s := { s with heap := h', toks := tk + 1 }) ho fun h2 he' sb => ?_⟩
    have hT2 : h2.get? s.heap.objs.size = some { cls := .type "tuple", data := .seq #[.int i tk, u] } := (sb.2 _ (Nat.ne_of_gt hel)).trans hT
    have new : ObjOk X.prog X.w (upd H s.heap.objs.size (.tup [.int (i : Nat), x])) h2 s.heap.objs.size (.tup [.int (i : Nat), x]) :=
      And.intro (by show 2 ≤ sizeLine; decide) (Exists.intro [.int i tk, u] (And.intro (.cons ⟨_, rfl⟩ (.cons ru .nil)) ⟨_, hT2, rfl, _, rfl⟩))
    have I1 : L2.Inv X pins σ (upd H s.heap.objs.size (.tup [.int (i : Nat), x])) { s with heap := h2, toks := tk + 1 } :=
      I.turnedNew (ch := [e, it]) (fun b ob hb q => (sb.2 b (fun z => hb (by simp [z]))).trans (hk b ob (fun z => hb (by simp [z])) (fun z => hb (by simp [z])) q)) hf (Nat.le_refl _) new
    refine ⟨.ref s.heap.objs.size, _, I1, rfl, ⟨_, x, rfl, I.hok.fresh (Nat.le_refl _), rfl, hx⟩, ⟨⟨u, ?_⟩, kp _ _ _ (hF _ _ sti') fun o q => (sb.2 it (Ne.symm hne)).trans q, hne⟩, fun b hb => ?_⟩
    · have e1 : ((i + 1 : Nat) : Int) = (i : Int) + 1 := by omega
      rw [e1]; exact he'
    · have hb' : b < s.heap.objs.size := by
        rcases List.mem_cons.mp hb with z | z
        · rw [z]; exact hel
        · rw [List.mem_singleton.mp z]; exact hil
      rw [upd_ne (Nat.ne_of_lt hb')]
      exact (hf b hb).1
  done := by
    intro X hP' hw hK hc i pins s σ H E I hf st hg
    obtain ⟨fp, Ps, St, hef, D, sti, hF, hP⟩ := hD X pins s σ H hP' hw hK hc I hf hg.2 st.2.2 i st.2.1
    subst hP' hw hK
    obtain ⟨⟨old, he⟩, hit, hne⟩ := st
    obtain ⟨f0, f1, f2, f3, f4, f5⟩ := hf it (by simp)
    obtain ⟨rfl, _⟩ := hg
    exact wpAny_pyNext_enum_endD D he sti fun h' eb => ⟨rfl, I.turned (t' := s.toks) (fun b o hb q => eb b o hb q) f0 f1 f3 f4 f5⟩
  self := fun A i s Q E st h => by
    obtain ⟨⟨_, he⟩, _⟩ := st
    exact wpAny_pyIter_enum he h
section
variable {T : Tb} {X : Cx} {g : Gx} {N : List Str} {sc : Scope} {pos : Pos} {a b c : Expr} {fa fb fc : Rho → Store → Res D}
theorem enum_len (ds : List D) : (enumD ds).length = ds.length := by simp [enumD]
theorem wk_enum {K : PySem.W.Frag} {w : Wd} {vs : List V} {ds : List D} {G : Hp → Prop} (hl : ds.length ≤ LIM) (r : Reps w vs ds) (hG : ∀ w2, Wle w w2 → G w2.H) : Wk K true w (Itf vs G) (enumD ds) := by
  refine wk_pair (f1 := fun i => some (.int (i : Nat))) (f2 := fun i => vs[i]?) (G := G) (by rw [enum_len]; exact hl) (by rw [enum_len, ← r.length]; exact walk_f) hG fun i d x y hd h1 h2 => ?_
  obtain ⟨d2, e2, k2⟩ := r.get' h2
  unfold enumD at hd
  rw [List.getElem?_map, List.getElem?_zipIdx, e2] at hd
  simp at hd
  cases h1
  exact ⟨.int (i : Nat), d2, hd.symm, .int _, k2⟩
theorem turn_enumS {P : Program} {w : World} {K : PySem.W.Frag} {elts : List Expr} {kk : Nat} {tpos : Pos} (e it : Addr) (z : Str) (t : Tok) :
    Turn P w K (.Tuple elts kk tpos) (Itf (z.cps.toList.map fun c => V.str ⟨#[c]⟩) fun _ => True) [e, it] e (fun i h => (∃ old, IsEnum h e it ((i : Nat) : Int) old) ∧ h.IsStrIter it (strIterType z) z t i ∧ e ≠ it) := by
  refine turn_enumF e it (fun i h => h.IsStrIter it (strIterType z) z t i) (fun X pins s σ H hP hw hK hc I hf _ ne i fr => ?_) (fun i h st => ?_) fun i h h' st k => ?_
  · subst hP hw hK
    refine ⟨[it], (fun i v => ∃ c u, z.cps[i]? = some c ∧ v = .str ⟨#[c]⟩ u), _, by simpa using ne, ?_, fr, fun _ _ h => h, fun i v hv => ?_⟩
    · rw [List.length_map, Array.length_toList]
      exact Draws.text (prog := X.prog) (w := X.w) (A := X.A.in1) (I.ok.hd hc) it z t
    · obtain ⟨c, u, hc', rfl⟩ := hv
      exact ⟨.str ⟨#[c]⟩, by rw [List.getElem?_map, Array.getElem?_toList, hc']; rfl, ⟨u, rfl⟩⟩
  · obtain ⟨o, ho, _, hd⟩ := st
    exact ⟨o, ho, fun v q => by rw [hd] at q; cases q⟩
  · obtain ⟨o, ho, r⟩ := st
    exact ⟨o, k o ho, r⟩
theorem draws_mono {P : Program} {w : World} {A : Around} {it : Addr} {fp : List Addr} {n : Nat} {Ps Ps' : Nat → Value → Prop} {St : Nat → Heap → Prop} (D : Draws P w A it fp n Ps St) (k : ∀ i v, Ps i v → Ps' i v) : Draws P w A it fp n Ps' St :=
  ⟨D.live, D.frame, fun i s Q E hi st q => D.item i s Q E hi st fun x h' tk p => q x h' tk (k i x p), D.done⟩
theorem turn_enumT {P : Program} {w : World} {K : PySem.W.Frag} {elts : List Expr} {kk : Nat} {tpos : Pos} (e it p : Addr) (vs : List V) (hn : p ≠ e) (hn2 : p ≠ it) :
    Turn P w K (.Tuple elts kk tpos) (Itf vs fun H => TH H p vs) [e, it] e (fun i h => (∃ old, IsEnum h e it ((i : Nat) : Int) old) ∧ h.IsTupleIter it p i ∧ e ≠ it) := by
  refine turn_enumF e it (fun i h => h.IsTupleIter it p i) (fun X pins s σ H hP hw hK hc I hf hG ne i fr => ?_) (fun i h st => ?_) fun i h h' st k => ?_
  · subst hP hw hK
    obtain ⟨its, rv, pl, hz⟩ := I.tuple (hG.sq (K := X.K))
    have D := Draws.tuple (prog := X.prog) (w := X.w) (A := X.A.in1) (I.ok.hd hc) it p hn2 its.toArray
    rw [List.size_toArray, ← rv.length] at D
    refine ⟨[it, p], _, _, ?_, D, ⟨fr, pl⟩, fun _ _ h => h.1, fun i v hv => ?_⟩
    · simp only [List.mem_cons, List.not_mem_nil, or_false, not_or]
      exact ⟨ne, hn.symm⟩
    · have hv : its[i]? = some v := by simpa using hv
      obtain ⟨hi, hv2⟩ := List.getElem?_eq_some_iff.mp hv
      obtain ⟨x, hx⟩ : ∃ x, vs[i]? = some x := ⟨vs[i]'(by rw [rv.length]; exact hi), List.getElem?_eq_getElem _⟩
      obtain ⟨u, hu, ru⟩ := rv.get hx
      rw [hv] at hu
      cases hu
      exact ⟨_, hx, ru⟩
  · obtain ⟨o, ho, _, hd⟩ := st
    exact ⟨o, ho, fun v q => by rw [hd] at q; cases q⟩
  · exact st.at fun o q => k o q
theorem turn_enumL {P : Program} {w : World} {K : PySem.W.Frag} {elts : List Expr} {kk : Nat} {tpos : Pos} (e it p : Addr) (vs : List V) (hn : p ≠ e) (hn2 : p ≠ it) :
    Turn P w K (.Tuple elts kk tpos) (Itf vs fun H => H p = some (.lst vs)) [e, it] e (fun i h => (∃ old, IsEnum h e it ((i : Nat) : Int) old) ∧ h.IsListIter it p i ∧ e ≠ it) := by
  refine turn_enumF e it (fun i h => h.IsListIter it p i) (fun X pins s σ H hP hw hK hc I hf hG ne i fr => ?_) (fun i h st => ?_) fun i h h' st k => ?_
  · subst hP hw hK
    obtain ⟨its, rv, pl, hz⟩ := I.list (SqL.of (K := X.K) hG)
    have D := Draws.list (prog := X.prog) (w := X.w) (A := X.A.in1) (I.ok.hd hc) it p hn2 its.toArray
    rw [List.size_toArray, ← rv.length] at D
    refine ⟨[it, p], _, _, ?_, D, ⟨fr, pl.isList⟩, fun _ _ h => h.1, fun i v hv => ?_⟩
    · simp only [List.mem_cons, List.not_mem_nil, or_false, not_or]
      exact ⟨ne, hn.symm⟩
    · have hv : its[i]? = some v := by simpa using hv
      obtain ⟨hi, hv2⟩ := List.getElem?_eq_some_iff.mp hv
      obtain ⟨x, hx⟩ : ∃ x, vs[i]? = some x := ⟨vs[i]'(by rw [rv.length]; exact hi), List.getElem?_eq_getElem _⟩
      obtain ⟨u, hu, ru⟩ := rv.get hx
      rw [hv] at hu
      cases hu
      exact ⟨_, hx, ru⟩
  · obtain ⟨o, ho, _, hd⟩ := st
    exact ⟨o, ho, fun v q => by rw [hd] at q; cases q⟩
  · exact st.at fun o q => k o q
theorem i_enum (h : Cok T X g N sc) {elts : List Expr} {kk : Nat} {tpos : Pos} {x : Str} {p : Pos} (hx : isB sc x "enumerate" = true) (hn : nst a = true) (ha : PE X a (GE g .rep fa)) :
    PI X (.Tuple elts kk tpos) (.Call (.Name x p) [a] [] pos) (GI g X.K true fun ρ M => (fa ρ M).bind fun x M => Pv.opt (enumI x) M) := by
  obtain ⟨rfl, e⟩ := isB_of hx
  refine ⟨fun pins s σ H R I q => ?_⟩
  have q : tCons (GE g .rep fa) tNil σ H (fun vs H1 => ∃ (ρ : Rho) (M : Store) (w : Wd) (v : V) (x : D) (ds : List D), vs = [v] ∧ w.H = H1 ∧ Sr g.w0 ρ M w σ ∧ Rep w v x ∧ enumI x = some ds ∧ Aft g (fun _ w' J ds => Wk X.K true w' J ds) w ρ σ R (.ok ds M)) := by
    refine ge_one (ka := .rep) (rel := fun ρ σ => fun _ w' J ds => Wk X.K true w' J ds) (F := fun ρ x M => Pv.opt (enumI x) M) (anti_w (σ := σ)) ?_ q
    intro ρ M w w0 v x s ex r af
    obtain ⟨ds, ed, a3⟩ := Aft.opt af
    exact ⟨ρ, M, w, v, x, ds, rfl, rfl, s, r, ed, a3⟩
  have pa : PA X [a] (tCons (GE g .rep fa) tNil) := pa_cons ha pa_nil (star_ok hn)
  refine PyProof.Rows.Call_ (ld_blt I (h.gl e) (h.blt (by decide)) PyProof.Rows.boot_enumerate (PyProof.Rows.callWith_type1 (thn (pa.run pos pins s σ H _ I q) fun us s1 ⟨vs, H1, I1, r1, ρ, M, w, v, x, ds, e0, e1, sr, r, ed, af⟩ => ?_) (star_ok hn) rfl))
  subst e0 e1
  have fpk : ∀ {h' : Heap} (I2 : L2.Inv X pins σ w.H { s1 with heap := h' }), ∀ b ∈ [s1.heap.objs.size + 1, s1.heap.objs.size], FpOk X pins w.H b := fun I2 b hb => by
    have hle : s1.heap.objs.size ≤ b := by
      rcases List.mem_cons.mp hb with z | z
      · rw [z]; exact Nat.le_succ _
      · rw [List.mem_singleton.mp z]; exact Nat.le_refl _
    exact I1.fpOk hle (I1.hok.fresh hle)
  cases r <;> simp only [enumI, reduceCtorEq, Option.some.injEq] at ed
  · subst ed
    rename_i z hz
    cases r1 with
    | cons r1 rr =>
      cases rr
      obtain ⟨t, rfl⟩ := r1
      refine En.enum_call (begins_text z t) trivial fun h' he hit hk => wpAny_pyIter_enum he ?_
      have I2 : L2.Inv X pins σ w.H { s1 with heap := h' } := I1.kept (t' := s1.toks) hk
      refine ⟨s1.heap.objs.size + 1, [s1.heap.objs.size + 1, s1.heap.objs.size], _, _, w.H, rfl, I2, turn_enumS (s1.heap.objs.size + 1) s1.heap.objs.size z t, ⟨⟨.none, he⟩, ⟨_, hit, rfl, rfl⟩, Nat.succ_ne_self _⟩, fpk I2, ?_⟩
      exact af.fin sr (wk_enum (by rw [List.length_map, Array.length_toList]; exact hz) (signs_rep _) fun _ _ => trivial)
  · subst ed
    rename_i q vs ds0 f hp rr
    cases r1 with
    | cons r1 r2 =>
      cases r2
      cases r1
      obtain ⟨its, rv, pl, hz⟩ := I1.tuple (hp.sq (K := X.K))
      have hlt : q < s1.heap.objs.size := by
        obtain ⟨o, ho, _⟩ := pl
        exact Heap.lt_size ho
      refine En.enum_call (begins_tuple q its.toArray) pl fun h' he hit hk => wpAny_pyIter_enum he ?_
      have I2 : L2.Inv X pins σ w.H { s1 with heap := h' } := I1.kept (t' := s1.toks) hk
      refine ⟨s1.heap.objs.size + 1, [s1.heap.objs.size + 1, s1.heap.objs.size], _, _, w.H, rfl, I2, turn_enumT (s1.heap.objs.size + 1) s1.heap.objs.size q vs (Nat.ne_of_lt (Nat.lt_succ_of_lt hlt)) (Nat.ne_of_lt hlt), ⟨⟨.none, he⟩, ⟨_, hit, rfl, rfl⟩, Nat.succ_ne_self _⟩, fpk I2, ?_⟩
      exact af.fin sr (wk_enum (by rw [← rr.length]; exact hz) rr fun w2 le => hp.eq (le.F q f).2)
  · subst ed
    rename_i q vs ds0 f hp rr
    cases r1 with
    | cons r1 r2 =>
      cases r2
      cases r1
      obtain ⟨its, rv, pl, hz⟩ := I1.list (SqL.of (K := X.K) hp)
      have hlt : q < s1.heap.objs.size := by
        obtain ⟨o, ho, _⟩ := pl.isList
        exact Heap.lt_size ho
      refine En.enum_call (begins_list q its.toArray) pl.isList fun h' he hit hk => wpAny_pyIter_enum he ?_
      have I2 : L2.Inv X pins σ w.H { s1 with heap := h' } := I1.kept (t' := s1.toks) hk
      refine ⟨s1.heap.objs.size + 1, [s1.heap.objs.size + 1, s1.heap.objs.size], _, _, w.H, rfl, I2, turn_enumL (s1.heap.objs.size + 1) s1.heap.objs.size q vs (Nat.ne_of_lt (Nat.lt_succ_of_lt hlt)) (Nat.ne_of_lt hlt), ⟨⟨.none, he⟩, ⟨_, hit, rfl, rfl⟩, Nat.succ_ne_self _⟩, fpk I2, ?_⟩
      exact af.fin sr (wk_enum (by rw [← rr.length]; exact hz) rr fun w2 le => (le.F q f).2.trans hp)
end
end Pv

set_option Elab.async false
set_option linter.all false
set_option maxRecDepth 100000
set_option maxHeartbeats 4000000
/-! ### t[::-1] -/
namespace Pv.Rv
open PySem PyProof.Rows HT
open PySem.SeqAt
open PySem.MeetsSeq PySem.MeetsSeq2 PySem.MeetsSeq3
section
variable {prog : Program} {w : World} {A : Around} {E : Value → Shared → Prop} {s : Shared}
theorem adjust_rev (n : Nat) : Builtin.Slice.sliceAdjust none none (-1) (n : Int) = ((n : Int) - 1, -1) := by
  unfold Builtin.Slice.sliceAdjust
  simp
theorem places_rev (n : Nat) : Builtin.Slice.slicePlaces ((n : Int) - 1) (-1) (-1) = n := by
  unfold Builtin.Slice.slicePlaces
  have h1 : ¬ ((-1 : Int) > 0) := by omega
  simp only [h1, if_false]
  split <;> simp <;> omega
theorem applied_rev {sl : Addr} {vl vu vs : Value} {n : Nat} {Q : Int × Int × Nat → Shared → Prop} (hs : s.heap.IsSliceOf sl vl vu vs) (pl : IsPart vl none) (pu : IsPart vu none) (ps : IsPart vs (some (-1)))
    (q : Q ((n : Int) - 1, -1, n) s) : wpAny (model prog w) A (Builtin.Slice.sliceApplied (.ref sl) (pure (n : Int))) Q E s := by
  obtain ⟨os, hos, hcs, hds⟩ := id hs
  unfold Builtin.Slice.sliceApplied Builtin.Slice.sliceFields
  refine wpAny_bind (wpAny_bind (wpAny_field hos hds (x := vl) rfl (wpAny_bind (wpAny_field hos hds (x := vu) rfl (wpAny_bind (wpAny_field hos hds (x := vs) rfl (wpAny_pure ?_)))))))
  refine wpAny_bind (slicePart_ ps ?_)
  show wpAny _ _ (if ((-1 : Int) == 0) = true then _ else _) _ _ s
  rw [if_neg (by decide)]
  refine wpAny_bind (slicePart_ pl (wpAny_bind (slicePart_ pu (wpAny_bind (wpAny_pure ?_)))))
  show wpAny _ _ (match Builtin.Slice.sliceAdjust none none (-1) (n : Int) with | (lo, hi) => pure (lo, (-1 : Int), Builtin.Slice.slicePlaces lo hi (-1))) _ _ s
  rw [adjust_rev n]
  show wpAny _ _ (pure ((n : Int) - 1, (-1 : Int), Builtin.Slice.slicePlaces ((n : Int) - 1) (-1) (-1))) _ _ s
  rw [places_rev]
  exact wpAny_pure q
theorem pick_rev (xs : Array Value) : (List.range xs.size).filterMap (fun (m : Nat) => xs[(((xs.size : Nat) : Int) - 1 + (m : Int) * (-1)).toNat]?) = xs.toList.reverse := by
  apply List.ext_getElem?
  intro i
  have key : ∀ m ∈ List.range xs.size, xs[(((xs.size : Nat) : Int) - 1 + (m : Int) * (-1)).toNat]? = some (xs.toList.reverse.getD m Value.none) := by
    intro m hm
    have hm : m < xs.size := List.mem_range.mp hm
    have e : (((xs.size : Nat) : Int) - 1 + (m : Int) * (-1)).toNat = xs.size - 1 - m := by omega
    rw [e, ← Array.getElem?_toList]
    have hl : m < xs.toList.reverse.length := by simpa using hm
    rw [List.getD_eq_getElem?_getD, List.getElem?_reverse (by simpa using hm)]
    have : xs.toList.length - 1 - m < xs.toList.length := by simp; omega
    rw [Array.length_toList] at this ⊢
    rw [List.getElem?_eq_getElem (by simpa using this)]
    rfl
  have e2 : (List.range xs.size).filterMap (fun (m : Nat) => xs[(((xs.size : Nat) : Int) - 1 + (m : Int) * (-1)).toNat]?) = (List.range xs.size).map fun m => xs.toList.reverse.getD m Value.none := by
    rw [← List.filterMap_eq_map]
    generalize List.range xs.size = l at key
    induction l with
    | nil => rfl
    | cons a l ih =>
      rw [List.filterMap_cons, List.filterMap_cons, key a List.mem_cons_self, ih fun m hm => key m (List.mem_cons_of_mem _ hm)]
      rfl
  rw [e2, List.getElem?_map]
  by_cases hi : i < xs.size
  · rw [List.getElem?_range hi]
    have hl : i < xs.toList.reverse.length := by simpa using hi
    rw [List.getElem?_eq_getElem hl]
    simp only [Option.map_some, List.getD_eq_getElem?_getD]
    rw [List.getElem?_eq_getElem hl]; rfl
  · rw [List.getElem?_eq_none (by simpa using hi), List.getElem?_eq_none (by simpa using hi)]; rfl
theorem getItem_rev {t sl : Addr} {items : Array Value} {vl vu vs : Value} {Q : Value → Shared → Prop} (ht : IsTup s.heap t items) (hs : s.heap.IsSliceOf sl vl vu vs) (pl : IsPart vl none) (pu : IsPart vu none) (ps : IsPart vs (some (-1)))
    (q : Q (.ref s.heap.objs.size) { s with heap := s.heap.push { cls := .type "tuple", data := .seq items.toList.reverse.toArray } }) (hsz : items.size ≤ sizeLine) : wpAny (model prog w) A (getItem (.ref t) (.ref sl)) Q E s := by
  have hok : sizeOk (.seq items.toList.reverse.toArray) := by
    show items.toList.reverse.toArray.size ≤ sizeLine
    rw [List.size_toArray, List.length_reverse, Array.length_toList]
    exact hsz
  obtain ⟨os, hos, hcs, hds⟩ := id hs
  have hTs : s.TypeIs (.ref sl) "slice" := ⟨os, hos, hcs⟩
  unfold getItem
  try with_reducible refine wpAny_holding ?_
  first | refine wpAny_bind (wpAny_pure ?_) | skip
  refine wpAny_bind (wpAny_sequenceKey ht.typeIs (by decide) ?_)
  refine wpAny_bind (wpAny_callSpecial?_slot (name := Str.ofString "__getitem__") ht.typeIs PyProof.Rows.slot_tuple_getitem (wpAny_call_entry PyProof.Rows.slot_tuple_getitem ht.typeIs entry_tuple_getitem ?_ (args_tuple_getitem _ _)))
  show wpAny _ _ (Builtin.Tuple.tupleItemsOf (.ref t) >>= _) _ _ s
  refine wpAny_bind (tupleItemsOf_ ht ?_)
  refine wpAny_bind (wpAny_typeOf hTs ?_)
  rw [if_pos (by decide)]
  refine wpAny_bind (applied_rev hs pl pu ps ?_)
  have hno : ¬ ((((items.size : Nat) : Int) - 1 == 0 && (-1 : Int) == 1 && items.size == items.size) = true) := by
    intro z
    rw [Bool.and_eq_true, Bool.and_eq_true] at z
    exact absurd z.1.2 (by decide)
  show wpAny _ _ (if (((items.size : Nat) : Int) - 1 == 0 && (-1 : Int) == 1 && items.size == items.size) = true then _ else _) _ _ s
  rw [if_neg hno, pick_rev]
  first
    | exact wpAny_bind (m := Builtin.Tuple.tupleExact _) (wpAny_newObj_type (wpAny_pure ⟨_, rfl, wpAny_pure q⟩) hok)
    | exact wpAny_bind (m := Builtin.Tuple.tupleExact _) (wpAny_newObj_type (wpAny_bind (wpAny_pure (wpAny_pure ⟨_, rfl, wpAny_pure q⟩))) hok)
    | exact wpAny_bind (wpAny_bind (m := Builtin.Tuple.tupleExact _) (wpAny_newObj_type (wpAny_pure (wpAny_pure ⟨_, rfl, wpAny_pure q⟩)) hok))
    | exact wpAny_bind (wpAny_bind (m := Builtin.Tuple.tupleExact _) (wpAny_newObj_type (wpAny_pure ⟨_, rfl, wpAny_pure q⟩) hok))
end
end Pv.Rv
namespace Pv
open PySem L2

section
variable {T : Tb} {X : Cx} {g : Gx} {N : List Str} {sc : Scope} {pos : Pos} {a b c : Expr} {fa fb fc : Rho → Store → Res D}
theorem s_rev {k : Nat} {p1 p2 p3 : Pos} (ha : PE X a (GE g .rep fa)) : PE X (.Subscript a (.Slice none none (some (.UnaryOp .USub (.Constant (.int 1) k p1) p2)) p3) pos) (GE g .rep fun ρ M => (fa ρ M).bind fun x M => Pv.opt (revD x) M) := by
  refine ⟨fun pins s σ H Q I h => ?_⟩
  have q : GE g .rep fa σ H (fun v H1 => ∃ (ρ : Rho) (M : Store) (w : Wd) (x d : D), w.H = H1 ∧ Sr g.w0 ρ M w σ ∧ Rep w v x ∧ revD x = some d ∧ Aft g (rl g ρ σ .rep) w ρ σ Q (.ok d M)) := by
    refine ge_one (ka := .rep) (rel := fun ρ σ => rl g ρ σ .rep) (F := fun ρ x M => Pv.opt (revD x) M) anti_rl ?_ h
    intro ρ M w w0 v x s ex r af
    obtain ⟨d, ed, a3⟩ := af.optE
    exact ⟨ρ, M, w, x, d, rfl, s, r, ed, a3⟩
  refine PyProof.Rows.Subscript_ (thn (ha.run pins s σ H _ I q) fun v s1 ⟨y, H1, I1, r1, ρ, M, w, x, d, e1, sr, r, ed, af⟩ => ?_)
  subst e1
  have hst : PO X (some (.UnaryOp .USub (.Constant (.int 1) k p1) p2)) (tPart (tUn (rU fun i => .int (-i)) (tC (.int 1)))) := po_some (pe_un un_neg pe_int)
  refine wpAny_Slice (thn (po_none.run pins s1 σ w.H (fun o H2 => o = none ∧ H2 = w.H) I1 ⟨rfl, rfl⟩) fun vl s2 ⟨l, H2, I2, pl, el, e2⟩ => ?_)
  subst el e2
  refine thn (po_none.run pins s2 σ w.H (fun o H3 => o = none ∧ H3 = w.H) I2 ⟨rfl, rfl⟩) fun vu s3 ⟨u, H3, I3, pu, eu, e3⟩ => ?_
  subst eu e3
  refine thn (hst.run pins s3 σ w.H (fun o H4 => o = some (-1) ∧ H4 = w.H) I3 ⟨1, rfl, -1, rfl, rfl, rfl⟩) fun vs s4 ⟨o, H4, I4, ps, eo, e4⟩ => ?_
  subst eo e4
  have I5 : L2.Inv X pins σ w.H { s4 with heap := s4.heap.push { cls := .type "slice", data := .fields #[vl, vu, vs] } } := I4.kept (t' := s4.toks) fun b ob q => Heap.get?_push_of_some _ q
  cases r <;> simp only [revD, reduceCtorEq, Option.some.injEq] at ed
  · subst ed
    rename_i p vs0 ds f hp rr
    cases r1
    obtain ⟨its, rv, ht, hz⟩ := I5.tuple (hp.sq (K := X.K))
    show wpAny (model X.prog X.w) X.A (PyProof.Rows.subscriptTail a (.Slice none none (some (.UnaryOp .USub (.Constant (.int 1) k p1) p2)) p3) (.ref p) (.ref s4.heap.objs.size)) (EP X pins σ Q) X.xe ({ s4 with heap := s4.heap.push { cls := .type "slice", data := .fields #[vl, vu, vs] } } : Shared)
    refine PyProof.Rows.tail_any (ops := [.ref p, .ref s4.heap.objs.size]) ht.typeIs (PyProof.Rows.slot_tuple_getitem.lookup) ?_ (by with_unfolding_all rfl)
    refine Rv.getItem_rev ht (Heap.IsSliceOf.new _ vl vu vs) pl pu ps ?_ (by rw [List.size_toArray, ← rv.length]; exact hz)
    rw [List.toList_toArray]
    exact laidT (tk := s4.toks) I5 (xs := vs0.reverse) rv.reverse (by rw [List.length_reverse]; exact hz) fun p' o hn hd => af.new sr hn (.tup (.inr rfl) ⟨o, hd, upd_same⟩ (rr.reverse.mono (frozen_wle sr.wf hn)))
  · subst ed
    rename_i p vs0 ds f hp rr
    cases r1
    obtain ⟨its, rv, ht, hz⟩ := I5.list (SqL.of (K := X.K) hp)
    have hlen := rv.length
    show wpAny (model X.prog X.w) X.A (PyProof.Rows.subscriptTail a (.Slice none none (some (.UnaryOp .USub (.Constant (.int 1) k p1) p2)) p3) (.ref p) (.ref s4.heap.objs.size)) (EP X pins σ Q) X.xe ({ s4 with heap := s4.heap.push { cls := .type "slice", data := .fields #[vl, vu, vs] } } : Shared)
    refine PyProof.Rows.tail_any (ops := [.ref p, .ref s4.heap.objs.size]) ht.isList.typeIs (PySem.slot_list_getitem.lookup) ?_ (by with_unfolding_all rfl)
    refine wpAny_getItem_list_slice ht.isList (Heap.IsSliceOf.new _ vl vu vs) pl pu ps (by decide) ?_ (by rw [List.size_toArray, ← rv.length]; exact hz)
    rw [PySem.W.krv_pick]
    have hn := I5.hok.fresh (Nat.le_refl _)
    refine ⟨.ref _, _, I5.laid (t' := s4.toks) (o := .lst vs0.reverse) (fun b ob q => Heap.get?_push_of_some _ q) (Nat.le_refl _) ?_, rfl, af.new sr hn (.lst (.inr rfl) upd_same (rr.reverse.mono (frozen_wle sr.wf hn)))⟩
    exact And.intro (by rw [List.length_reverse]; exact hz) ⟨_, 0, rv.reverse, Heap.get?_push_size _ rfl⟩
/-! handles -/
theorem Sr.addH {w0 w : Wd} {ρ : Rho} {M : Store} {σ : St} {p : Addr} {d : D} (s : Sr w0 ρ M w σ) (o : OwnM w p d) (nF : ¬ w.F p) (nA : p ∉ w.A) (n0 : w0.H p = none)
    (hd : ∀ (j : Nat) (e : D), ρ[j]? = some (.ow e) → σ[j]? ≠ some (some (.ref p))) :
    Wle w ⟨w.F, w.A ++ [p], w.H, w.K, w.B⟩ ∧ Sr w0 ρ (M ++ [d]) ⟨w.F, w.A ++ [p], w.H, w.K, w.B⟩ σ := by
  have le : Wle w ⟨w.F, w.A ++ [p], w.H, w.K, w.B⟩ := ⟨fun _ h => ⟨h, rfl⟩, fun n a h => by
    show (w.A ++ [p])[n]? = some a
    rw [List.getElem?_append_left (List.getElem?_eq_some_iff.mp h).1]; exact h, rfl, rfl⟩
  obtain ⟨ob, ho⟩ := o.some
  refine ⟨le, ⟨⟨fun a h => ?_, ?_, fun a h => ?_⟩, ⟨s.e0.F, ?_, s.e0.H, s.e0.nF, fun a h => ?_, s.e0.kp, s.e0.K, s.e0.B⟩, ⟨?_, fun n a e h1 h2 => ?_⟩, s.len, fun j e h => ?_, fun j e h => ?_, s.dj⟩⟩
  · obtain ⟨n, u⟩ := s.wf.f a h
    refine ⟨fun z => ?_, u⟩
    rcases List.mem_append.mp z with z | z
    · exact n z
    · rw [List.mem_singleton.mp z] at h; exact nF h
  · show (w.A ++ [p]).Nodup
    rw [List.nodup_append]
    refine ⟨s.wf.nd, by simp, fun a ha b hb e => ?_⟩
    rw [List.mem_singleton.mp hb] at e
    subst e; exact nA ha
  · rcases List.mem_append.mp h with z | z
    · exact s.wf.a a z
    · rw [List.mem_singleton.mp z]; exact ⟨ob, ho⟩
  · obtain ⟨l, e⟩ := s.e0.A
    exact ⟨l ++ [p], by show w.A ++ [p] = _; rw [e, List.append_assoc]⟩
  · rcases List.mem_append.mp h with z | z
    · exact s.e0.nA a z
    · rw [List.mem_singleton.mp z]; exact .inr n0
  · show (w.A ++ [p]).length = (M ++ [d]).length
    rw [List.length_append, List.length_append, s.sto.len]; rfl
  · have h1 : (w.A ++ [p])[n]? = some a := h1
    rcases Nat.lt_trichotomy n M.length with q | q | q
    · rw [List.getElem?_append_left (by rw [s.sto.len]; exact q)] at h1
      rw [List.getElem?_append_left q] at h2
      exact (s.sto.at_ n a e h1 h2).mono le rfl
    · subst q
      have hl : (w.A ++ [p])[M.length]? = some p := by
        rw [← s.sto.len, List.getElem?_append_right (Nat.le_refl _)]; simp
      rw [hl] at h1
      rw [List.getElem?_append_right (Nat.le_refl _)] at h2
      simp at h2
      cases h1; subst h2
      exact o.mono le rfl
    · rw [List.getElem?_eq_none (by simp; omega)] at h2
      cases h2
  · obtain ⟨u, a, b⟩ := s.sh j e h
    exact ⟨u, a, b.mono le⟩
  · obtain ⟨u, a, b, c, n, z⟩ := s.ow j e h
    refine ⟨u, a, b.mono le rfl, c, fun z => ?_, z⟩
    rcases List.mem_append.mp z with z | z
    · exact n z
    · rw [List.mem_singleton.mp z] at a
      exact hd j e h a
theorem s_hn (ha : PE X a (GE g .frs fa)) : PE X a (GE g .rep fun ρ M => (fa ρ M).bind fun x M => .ok (.hnd M.length) (M ++ [x])) := by
  refine PE.imp ha fun σ H Q q => ?_
  obtain ⟨ρ, M, w, rfl, s, af⟩ := q
  dsimp only at af
  refine ⟨ρ, M, w, rfl, s, ?_⟩
  cases hfa : fa ρ M with
  | fail => rw [hfa] at af; exact af.elim
  | exc c M' => rw [hfa] at af; exact af
  | ok d M' =>
    rw [hfa] at af
    intro v w' e' s' r
    obtain ⟨p, rfl, o, nF, nA, n⟩ := r
    obtain ⟨le, s2⟩ := s'.addH (.of o) nF nA (s.e0.none n) fun j e h z => s.owH j e p h z n
    have ex : Ext w ⟨w'.F, w'.A ++ [p], w'.H, w'.K, w'.B⟩ := by
      refine ⟨e'.F, ?_, e'.H, e'.nF, fun a h => ?_, e'.kp, e'.K, e'.B⟩
      · obtain ⟨l, e⟩ := e'.A
        exact ⟨l ++ [p], by show w'.A ++ [p] = _; rw [e, List.append_assoc]⟩
      · rcases List.mem_append.mp h with z | z
        · exact e'.nA a z
        · rw [List.mem_singleton.mp z]; exact .inr n
    refine af (.ref p) ⟨w'.F, w'.A ++ [p], w'.H, w'.K, w'.B⟩ ex s2 (Rep.hnd ?_)
    show (w'.A ++ [p])[M'.length]? = some p
    rw [← s'.sto.len, List.getElem?_append_right (Nat.le_refl _)]; simp
end
end Pv

set_option Elab.async false
set_option linter.all false
set_option maxRecDepth 100000
set_option maxHeartbeats 4000000
namespace Pv
open PySem L2

theorem Reps.eraseIdx {w : Wd} : ∀ {vs : List V} {ds : List D} (i : Nat), Reps w vs ds → Reps w (vs.eraseIdx i) (ds.eraseIdx i)
  | _, _, _, .nil => .nil
  | _, _, 0, .cons _ t => t
  | _, _, i + 1, .cons q t => .cons q (Reps.eraseIdx i t)
theorem ixN_seq {i : Int} {n k : Nat} (h : ixN n i = some k) : seqIndex? i n = some k := by
  unfold ixN at h
  unfold seqIndex?
  split at h
  · rename_i h0
    split at h
    · rename_i h1
      have e : ¬ i < 0 := by omega
      simp only [e, if_false]
      rw [if_pos (by simp; omega)]
      exact h
    · cases h
  · rename_i h0
    split at h
    · rename_i h1
      have e : i < 0 := by omega
      simp only [e, if_true]
      rw [if_pos (by simp; omega)]
      rw [← h]
    · cases h
/-- a handle's object is written -/
theorem Sr.writeH {w0 w : Wd} {ρ : Rho} {M : Store} {σ : St} {n : Nat} {p : Addr} {d' : D} {o : HO} (s : Sr w0 ρ M w σ) (hp : w.A[n]? = some p) (hn : n < M.length)
    (own : OwnM ⟨w.F, w.A, upd w.H p o, w.K, w.B⟩ p d') : Wle w ⟨w.F, w.A, upd w.H p o, w.K, w.B⟩ ∧ Sr w0 ρ (M.set n d') ⟨w.F, w.A, upd w.H p o, w.K, w.B⟩ σ := by
  have hm : p ∈ w.A := List.mem_of_getElem? hp
  have nF : ¬ w.F p := fun z => (s.wf.f p z).1 hm
  have ne : ∀ q, w.F q → q ≠ p := fun q hq e => nF (e ▸ hq)
  have le : Wle w ⟨w.F, w.A, upd w.H p o, w.K, w.B⟩ := ⟨fun q hq => ⟨hq, upd_ne (ne q hq)⟩, fun _ _ e => e, rfl, rfl⟩
  refine ⟨le, ⟨⟨fun q hq => ?_, s.wf.nd, fun q hq => ?_⟩, ⟨s.e0.F, s.e0.A, fun q u hu hn => ?_, s.e0.nF, s.e0.nA, fun q hq => ?_, s.e0.K, s.e0.B⟩, ⟨by rw [List.length_set]; exact s.sto.len, fun hh q dd h1 h2 => ?_⟩, s.len, fun j e hj => ?_, fun j e hj => ?_, s.dj⟩⟩
  · obtain ⟨n1, u, hu⟩ := s.wf.f q hq
    exact ⟨n1, u, by show upd w.H p o q = some u; rw [upd_ne (ne q hq)]; exact hu⟩
  · by_cases e : q = p
    · subst e; exact ⟨o, upd_same⟩
    · obtain ⟨u, hu⟩ := s.wf.a q hq
      exact ⟨u, by show upd w.H p o q = some u; rw [upd_ne e]; exact hu⟩
  · show upd w.H p o q = some u
    have : q ≠ p := by
      rintro rfl
      rcases s.e0.nA q hm with z | z
      · exact hn z
      · rw [z] at hu; cases hu
    rw [upd_ne this]
    exact s.e0.H q u hu hn
  · show upd w.H p o q ≠ none
    by_cases e : q = p
    · subst e; rw [upd_same]; exact fun z => nomatch z
    · rw [upd_ne e]; exact s.e0.kp q hq
  · by_cases e : n = hh
    · subst e
      rw [List.getElem?_set_self hn] at h2
      cases h2
      have h1 : w.A[n]? = some q := h1
      rw [hp] at h1; cases h1
      exact own
    · rw [List.getElem?_set_ne e] at h2
      refine (s.sto.at_ hh q dd h1 h2).mono le (upd_ne (show q ≠ p from fun e1 => ?_))
      subst e1
      have h1 : w.A[hh]? = some q := h1
      obtain ⟨l1, e1⟩ := List.getElem?_eq_some_iff.mp hp
      obtain ⟨l2, e2⟩ := List.getElem?_eq_some_iff.mp h1
      exact e ((List.getElem_inj s.wf.nd).mp (e1.trans e2.symm))
  · obtain ⟨u, a, b⟩ := s.sh j e hj
    exact ⟨u, a, b.mono le⟩
  · obtain ⟨u, a', b', c', n', z'⟩ := s.ow j e hj
    exact ⟨u, a', b'.mono le (upd_ne (show u ≠ p from fun e1 => n' (e1 ▸ hm))), c', n', z'⟩

theorem ext_writeH {w : Wd} {n : Nat} {p : Addr} {o : HO} (hp : w.A[n]? = some p) : Ext w ⟨w.F, w.A, upd w.H p o, w.K, w.B⟩ := by
  have hm : p ∈ w.A := List.mem_of_getElem? hp
  refine ⟨fun _ h => h, ⟨[], by simp⟩, fun q u hu hn => ?_, fun _ h => .inl h, fun _ h => .inl h, fun q hq => ?_, rfl, rfl⟩
  · show upd w.H p o q = some u
    rw [upd_ne (show q ≠ p from fun z => hn (z ▸ hm))]; exact hu
  · show upd w.H p o q ≠ none
    by_cases z : q = p
    · subst z; rw [upd_same]; exact fun z => nomatch z
    · rw [upd_ne z]; exact hq
section
variable {T : Tb} {X : Cx} {g : Gx} {N : List Str} {sc : Scope} {pos : Pos} {a b c : Expr} {fa fb fc : Rho → Store → Res D}
theorem s_hpop {apos : Pos} (hn : nst b = true) (ho : ncall a = true) (hl : (apos.endLine == pos.line) = true) (ha : PE X a (GE g .rep fa)) (hb : PE X b (GE g .rep fb)) :
    PE X (.Call (.Attribute a "pop" apos) [b] [] pos) (GE g .rep fun ρ M => (fa ρ M).bind fun x M => match dr M x with
    | .lst _ => (fb ρ M).bind fun y M => match x with
      | .hnd n => match M[n]? with
        | some (.lst ds) => match y with
          | .int j => if -(2 ^ 63) ≤ j ∧ j < 2 ^ 63 then match ixN ds.length j with
            | some k => match ds[k]? with
              | some d => .ok d (M.set n (.lst (ds.eraseIdx k)))
              | none => .fail
            | none => .fail else .fail
          | _ => .fail
        | _ => .fail
      | _ => .fail
    | _ => .fail) := by
  refine PE.imp (pe_bm PySem.F.plainAttrs_list PySem.F.slot_list_pop PySem.F.type_list_pop mt_popAt ha (pa_cons hb pa_nil (star_ok hn)) (ncall_ok ho) (few1 hn) hl (star_ok hn) rfl) fun σ H Q q => ?_
  refine ge_one (ka := .rep) (rel := fun ρ σ => rl g ρ σ .rep) (F := fun ρ x M => match dr M x with
    | .lst _ => (fb ρ M).bind fun y M => match x with
      | .hnd n => match M[n]? with
        | some (.lst ds) => match y with
          | .int j => if -(2 ^ 63) ≤ j ∧ j < 2 ^ 63 then match ixN ds.length j with
            | some k => match ds[k]? with
              | some d => .ok d (M.set n (.lst (ds.eraseIdx k)))
              | none => .fail
            | none => .fail else .fail
          | _ => .fail
        | _ => .fail
      | _ => .fail
    | _ => .fail) anti_rl ?_ q
  intro ρ M w w0 v x s ex r af
  split at af
  · rename_i ds0 hds
    have c := s.con r
    rw [hds] at c
    obtain ⟨p0, vs0, rfl, hp0, _⟩ := c
    refine ⟨.inl ⟨rfl, _, SqL.of hp0⟩, ρ, M, w, rfl, s, Aft.mono (Aft.bind af fun w1 ex => anti_rl (k := .rep) (σ := σ) ρ w w1 ex) ?_⟩
    rintro u H1 ⟨y, M1, w1, rfl, ex1, s1, r1, a1⟩
    split at a1
    · rename_i n'
      split at a1
      · rename_i ds hM
        split at a1
        · rename_i j
          split at a1
          · rename_i hj
            split at a1
            · rename_i k hk
              split at a1
              · rename_i d hd
                have r : Rep w (.ref p0) (.hnd n') := r
                have r2 := r.mono (ex1.wle s.wf)
                cases r2 with
                | hnd hA =>
                  obtain ⟨vs1, hvs1, rr1⟩ := s1.sto.at_ n' p0 _ hA hM
                  cases (show Rep w1 u (.int j) from r1)
                  obtain ⟨y1, hy1, ry1⟩ := rr1.get hd
                  refine ⟨p0, vs1, j, k, y1, rfl, rfl, hvs1, hj.1, hj.2, by rw [rr1.length]; exact ixN_seq hk, hy1, ?_⟩
                  have nF1 : ¬ w1.F p0 := fun z => (s1.wf.f p0 z).1 (List.mem_of_getElem? hA)
                  have le : Wle w1 ⟨w1.F, w1.A, upd w1.H p0 (.lst (vs1.eraseIdx k)), w1.K, w1.B⟩ := ⟨fun t ht => ⟨ht, upd_ne (show t ≠ p0 from fun e => nF1 (e ▸ ht))⟩, fun _ _ e => e, rfl, rfl⟩
                  obtain ⟨le2, s2⟩ := s1.writeH (d' := .lst (ds.eraseIdx k)) (o := .lst (vs1.eraseIdx k)) hA (List.getElem?_eq_some_iff.mp hM).1 ⟨_, upd_same, (rr1.eraseIdx k).mono le⟩
                  exact a1 y1 _ (ext_writeH hA) s2 (ry1.mono le2)
              · exact a1.elim
            · exact a1.elim
          · exact a1.elim
        · exact a1.elim
      · exact a1.elim
    · exact a1.elim
  · exact af.elim
end
end Pv

set_option Elab.async false
set_option linter.all false
set_option maxRecDepth 100000
set_option maxHeartbeats 4000000
namespace Pv
open PySem L2

section
variable {P : List Fn} {gi : List (Str × GV)} {N : List Str}
theorem okE_nst {sc : Scope} {a : E} {e : Expr} (h : okE P gi N sc a e = true) : nst e = true := by
  cases e <;> first | rfl | (exfalso; cases a <;> first | (simp [okE, plainX] at h; done) | (simp [okE] at h))
theorem okE_nset {sc : Scope} {a : E} {e : Expr} (h : okE P gi N sc a e = true) : nset e = true := by
  cases e <;> first | rfl | (exfalso; cases a <;> first | (simp [okE, plainX] at h; done) | (simp [okE] at h))
theorem okE_nsl {sc : Scope} {a : E} {e : Expr} (h : okE P gi N sc a e = true) : nsl e = true := by
  cases e <;> first | rfl | (exfalso; cases a <;> first | (simp [okE, plainX] at h; done) | (simp [okE] at h))
theorem okL_nst {sc : Scope} : ∀ (l : E) {xs : List Expr}, okL P gi N sc l xs = true → xs.all nst = true := by
  intro l
  induction l with
  | nil =>
    intro xs h
    cases xs with
    | nil => rfl
    | cons x xs => simp [okL] at h
  | cons e r ihe ihr =>
    intro xs h
    cases xs with
    | nil => rfl
    | cons x xs =>
      simp only [okL, Bool.and_eq_true] at h
      rw [List.all_cons, okE_nst h.2.1, ihr h.2.2]; rfl
  | _ => intro xs h; simp [okL] at h
theorem okI_nset {sc : Scope} {tt : Bool} {a : E} {e : Expr} (h : okI P gi N sc tt a e = true) : nset e = true := by
  cases e <;> first | rfl | skip
  exfalso
  cases a <;> simp [okI] at h
  exact absurd (okE_nset h.2) (by simp [nset])
theorem okW_nset {sc : Scope} {a : E} {e : Expr} (h : okW N sc a e = true) : nset e = true := by
  cases a <;> first | (cases h; done) | skip
  cases e <;> first | rfl | cases h
/-- neither a list of arguments nor what is walked -/
def plainE : E → Bool
  | .nil => false | .cons _ _ => false | .itSeq _ => false | .itRange1 _ => false | .itRange _ _ => false | .itEnum _ => false | .itZip _ _ => false | .itOwn _ => false
  | _ => true
theorem plain_L {sc : Scope} {a : E} {xs : List Expr} (p : plainE a = true) : okL P gi N sc a xs = false := by cases a <;> first | (cases p; done) | rfl
theorem plain_C {sc : Scope} {a : E} {xs : List Expr} (p : plainE a = true) : okC P gi N sc a xs = false := by cases a <;> first | (cases p; done) | rfl
theorem plain_O {sc : Scope} {a : E} {xs : Option Expr} (p : plainE a = true) : okO P gi N sc a xs = false := by cases a <;> first | (cases p; done) | rfl
theorem plain_I {sc : Scope} {tt : Bool} {a : E} {x : Expr} (p : plainE a = true) : okI P gi N sc tt a x = false := by cases a <;> first | (cases p; done) | rfl
theorem fold_ok {e : Expr} {env : PySem.Env} (h : nset e = true) : ∀ x, foldedSetIterable e env x = pure x := by
  intro x
  cases e <;> first | rfl | cases h
end

section
variable {T : Tb} {X : Cx} {g : Gx} {N : List Str} {sc : Scope} {pos : Pos} {a b c : Expr} {fa fb fc : Rho → Store → Res D}
theorem to_rep {x : Expr} {e : E} (h : PE X x (GE g (kindE e) fa)) (n : notBor e = true) : PE X x (GE g .rep fa) := by
  cases k : kindE e with
  | rep => rw [k] at h; exact h
  | frs => rw [k] at h; exact PE.imp h fun _ _ _ q => GE.freeze q
  | bor => cases e <;> first | (cases n; done) | (cases k; done)
theorem to_nf {x : Expr} {e : E} (h : PE X x (GE g (kindE e) fa)) : ∃ k, k ≠ RK.frs ∧ PE X x (GE g k fa) := by
  cases k : kindE e with
  | rep => rw [k] at h; exact ⟨.rep, (fun z => nomatch z), h⟩
  | frs => rw [k] at h; exact ⟨.rep, (fun z => nomatch z), PE.imp h fun _ _ _ q => GE.freeze q⟩
  | bor => rw [k] at h; exact ⟨.bor, (fun z => nomatch z), h⟩
theorem t_fail {x : Expr} : PT X x (GT g fun _ _ => .fail) := ⟨fun pins s σ H Q I q => by
  obtain ⟨ρ, M, w, e, s, a⟩ := q
  exact a.elim⟩
theorem pt_eq {x : Expr} {f f' : Rho → Store → Res Bool} (h : PT X x (GT g f)) (e : ∀ ρ M, f' ρ M = f ρ M) : PT X x (GT g f') := by
  have : f' = f := funext fun ρ => funext fun M => e ρ M
  rw [this]; exact h
theorem pe_eq {x : Expr} {k : RK} {f f' : Rho → Store → Res D} (h : PE X x (GE g k f)) (e : ∀ ρ M, f' ρ M = f ρ M) : PE X x (GE g k f') := by
  have : f' = f := funext fun ρ => funext fun M => e ρ M
  rw [this]; exact h
/-- the context of a comprehension's block -/
theorem Cok.blk (h : Cok T X g N sc) (scope : Scope) (s : Shared) (H : Hp) (C : Addr) (cl : List (Str × Addr)) (fp : List Addr) : Cok T (X.blk s H scope (compEnvC scope cl C X.env) fp) g.blk N (relS scope sc) where
  p := h.p
  room := h.room
  hN := h.hN
  nd := h.nd
  sc := by
    show relabel scope X.env = relS scope sc
    rw [← h.sc]; rfl
  calm := h.calm
  tk := fun u s' x => by
    obtain ⟨_, _, _, _, _, _, _, _, _, _, _, _, _, _, _, _, z⟩ := x
    exact z.elim
  gc := h.gc
  kk := h.kk
  bb := h.bb
theorem blk_tg (h : Cok T X g N sc) (scope : Scope) (s : Shared) (H : Hp) (C : Addr) (cl : List (Str × Addr)) (fp : List Addr) (i : Nat) (x : Str) (k : tgB N scope i x = true) : TgOk (X.blk s H scope (compEnvC scope cl C X.env) fp) i x := by
  have hsc : (X.blk s H scope (compEnvC scope cl C X.env) fp).env.scope = relS scope sc := (h.blk scope s H C cl fp).sc
  obtain ⟨h1, h2⟩ := tgB_of k
  refine ⟨by rw [← h.hN] at h1; exact h1, ?_, ?_⟩
  · rw [hsc]
    rcases h2 with h2 | h2
    · exact .inl (lookup_relS_keep (by decide) h2)
    · exact .inr (lookup_relS_keep (by decide) h2)
  · rcases h2 with h2 | h2
    · refine .inr ?_
      rw [hsc]
      exact lookup_relS_keep (by decide) h2
    · refine .inl ?_
      show (scope.names.lookup x == some .cell) = true
      rw [h2]; rfl
theorem truR_bind {α : Type} (r : Res α) (f : α → Store → Res D) : truR (r.bind f) = r.bind fun a M => truR (f a M) := by
  unfold truR; cases r <;> rfl
theorem truR_opt (o : Option D) (M : Store) : truR (Pv.opt o M) = (Pv.opt o M).bind fun d M => Pv.opt (truD (dr M d)) M := rfl

end
end Pv

set_option Elab.async false
set_option linter.all false
set_option maxRecDepth 100000
set_option maxHeartbeats 4000000
namespace Pv
open PySem L2

section
variable {X : Cx} {k : Nat} {f C : Addr} {fd : FuncData} {ps : List Str} {sp : Sp} {E : L2.St → XK} {o e : Expr} {es : List Expr} {m : Str} {apos pos : Pos} {ta : TE} {t : TA}
/-- o.m(..) in a try, too -/
def tMethP (C : Addr) (m : Str) (sp : Sp) (E : L2.St → XK) (ta : TE) (t : TA) : TE := fun σ H Q => ta σ H fun x H1 => ∃ a dx fs, x = .ref a ∧ H1 a = some (.ins C dx fs) ∧ fs.lookup m = none ∧ t σ H1 fun vs H2 => sp (x :: vs) H2 Q (E σ)
theorem pe_methP (he : PE X o ta) (c : Cls X.K C) (hm : Meth X.K C m f) (F : FnOk X.prog X.w X.K X.mg X.base (L2.CX X.prog X.w) k f fd ps sp) (hr : Room k X.A) (hb : Binds X.K fd ps []) (hx : ∀ σ, PassesAt (L2.CX X.prog X.w) X σ (E σ)) (ha : PA X (e :: es) t)
    (hbase : attributeBase o m X.env (eval o X.env) = eval o X.env)
    (hfew : methodCallForm ((e :: es).length + ([] : List Keyword).length) (backTo pos (starEach (e :: es) X.env)) (backToKw pos (keywordEach [] X.env)) = true)
    (hl : (apos.endLine == pos.line) = true) (hst : starEach (e :: es) X.env = (false, eval e X.env) :: starEach es X.env) (hpl : (backTo pos (starEach es X.env)).any (·.1) = false) :
    PE X (.Call (.Attribute o m apos) (e :: es) [] pos) (tMethP C m sp E ta t) := by
  refine ⟨fun pins s σ H Q I h => ?_⟩
  rw [arm_eval_Call, hbase]
  refine wpAny_bind (thn (he.run pins s σ H _ I h) fun u s1 ⟨x, H1, I1, rx, a, dx, fs, ex, ea, l, q⟩ => ?_)
  subst ex
  obtain rfl : u = Value.ref a := rx
  refine wpAny_bind (wpAny_standAt ?_)
  have hpos : methodCallPos true o X.env apos pos = pure pos := by unfold methodCallPos; simp [hl]
  unfold methodCall
  rw [hfew]
  refine wpAny_bind (wpAny_holding (getmeth_ok I1 ea c hm l ?_))
  refine wpAny_bind (wpAny_of_eq hpos ?_)
  refine PySem.W.callWith_K (first := [.ref a]) (h₀ := X.base) I1.ok.mod.kin hm.kp (thn (ha.run pos pins s1 σ H1 _ I1 q) fun us s2 ⟨vs, H2, I2, r, q2⟩ => ⟨I2.kIn, ?_⟩) hst hpl
  exact run_fnSD (us := .ref a :: us) (vs := .ref a :: vs) (dvs := []) F hr hb .nil (hx σ) I2 (.cons rfl r) (by rw [List.append_nil]; exact q2)
theorem pe_methP0 (he : PE X o ta) (c : Cls X.K C) (hm : Meth X.K C m f) (F : FnOk X.prog X.w X.K X.mg X.base (L2.CX X.prog X.w) k f fd ps sp) (hr : Room k X.A) (hb : Binds X.K fd ps []) (hx : ∀ σ, PassesAt (L2.CX X.prog X.w) X σ (E σ))
    (hbase : attributeBase o m X.env (eval o X.env) = eval o X.env) (hl : (apos.endLine == pos.line) = true) :
    PE X (.Call (.Attribute o m apos) [] [] pos) (tMethP C m sp E ta tNil) := by
  refine ⟨fun pins s σ H Q I h => ?_⟩
  rw [arm_eval_Call, hbase]
  refine wpAny_bind (thn (he.run pins s σ H _ I h) fun u s1 ⟨x, H1, I1, rx, a, dx, fs, ex, ea, l, q⟩ => ?_)
  subst ex
  obtain rfl : u = Value.ref a := rx
  refine wpAny_bind (wpAny_standAt ?_)
  have hpos : methodCallPos true o X.env apos pos = pure pos := by unfold methodCallPos; simp [hl]
  have hfew : methodCallForm (([] : List Expr).length + ([] : List Keyword).length) (backTo pos (starEach [] X.env)) (backToKw pos (keywordEach [] X.env)) = true := rfl
  unfold methodCall
  rw [hfew]
  refine wpAny_bind (wpAny_holding (getmeth_ok I1 ea c hm l ?_))
  refine wpAny_bind (wpAny_of_eq hpos ?_)
  exact PySem.W.callWith_K0 (first := [.ref a]) I1.kIn hm.kp (run_fnSD (us := [.ref a]) (vs := [.ref a]) (dvs := []) F hr hb .nil (hx σ) I1 (.cons rfl .nil) (by rw [List.append_nil]; exact q))
end

section
variable {T : Tb} {X : Cx} {g : Gx} {N : List Str} {sc : Scope} {pos : Pos} {a b c : Expr} {fa fb fc : Rho → Store → Res D}
/-! ### attributes -/
theorem fld_facts (h : Cok T X g N sc) {cc : Nat} {x : Str} (k : fldB T.P cc x = true) : Cls X.K (T.ca cc) ∧ NoAttr X.K (T.ca cc) x := by
  unfold fldB at k
  obtain ⟨fn, hm, k⟩ := List.any_eq_true.mp k
  obtain ⟨i, hi⟩ := List.mem_iff_getElem?.mp hm
  obtain ⟨f, fd, ps, F⟩ := h.p.fn i fn hi
  have z := F.mgf
  unfold Stands at z
  cases hmt : fn.mt with
  | none => rw [hmt] at k; cases k
  | some t =>
    rw [hmt] at k z
    simp only [Bool.and_eq_true, decide_eq_true_eq] at k
    obtain ⟨k1, k2⟩ := k
    subst k1
    exact ⟨z.2.1, z.2.2.2.2 x (List.contains_iff_mem.mp k2)⟩
theorem look_f {w : Wd} {x : Str} : ∀ {fvs : List (Str × V)} {fs : List (Str × D)}, fvs.map (·.1) = fs.map (·.1) → Reps w (fvs.map (·.2)) (fs.map (·.2)) →
    (match fs.lookup x with | some d => ∃ v, fvs.lookup x = some v ∧ Rep w v d | none => fvs.lookup x = none)
  | [], [], _, _ => rfl
  | [], _ :: _, e, _ => by cases e
  | _ :: _, [], e, _ => by cases e
  | (a, v) :: fvs, (b, d) :: fs, e, r => by
    rw [List.map_cons, List.map_cons] at e
    injection e with e1 e2
    have e1 : a = b := e1
    subst e1
    cases r with
    | cons r1 r2 =>
      have ih := look_f (x := x) e2 r2
      by_cases q : x = a
      · subst q
        have h1 : List.lookup x ((x, d) :: fs) = some d := by rw [List.lookup_cons]; simp
        rw [h1]
        exact ⟨v, by rw [List.lookup_cons]; simp, r1⟩
      · have hb : (x == a) = false := by simpa using q
        have h1 : List.lookup x ((a, d) :: fs) = List.lookup x fs := by rw [List.lookup_cons, hb]
        have h2 : List.lookup x ((a, v) :: fvs) = List.lookup x fvs := by rw [List.lookup_cons, hb]
        rw [h1, h2]
        exact ih
theorem s_fld (h : Cok T X g N sc) {cc : Nat} {x : Str} (k : fldB T.P cc x = true) (ho : ncall a = true) (ha : PE X a (GE g .rep fa)) :
    PE X (.Attribute a x pos) (GE g .rep fun ρ M => (fa ρ M).bind fun v M => match dr M v with
    | .obj c' fs => if c' = cc then Pv.opt (fs.lookup x) M else .fail
    | _ => .fail) := by
  refine PE.imp (pe_fld ha (ncall_ok ho)) fun σ H Q q => ?_
  refine ge_one (ka := .rep) (rel := fun ρ σ => rl g ρ σ .rep) (F := fun ρ v M => match dr M v with
    | .obj c' fs => if c' = cc then Pv.opt (fs.lookup x) M else .fail
    | _ => .fail) anti_rl ?_ q
  intro ρ M w w0 v d s ex r af
  have cn := s.con r
  split at af
  · rename_i c' fs hd
    rw [hd] at cn
    obtain ⟨p, dx, fvs, rfl, hp, ek, rr⟩ := cn
    split at af
    · rename_i hc
      subst hc
      obtain ⟨d', hd', af⟩ := af.optE
      have lf := look_f (x := x) ek rr
      rw [hd'] at lf
      obtain ⟨v', hv', rv⟩ := lf
      obtain ⟨cl, na⟩ := fld_facts h k
      have hB : w.B = T.ca := s.e0.B.trans h.bb
      refine ⟨p, w.B c', dx, fvs, v', rfl, hp, by rw [hB]; exact cl, by rw [hB]; exact na, hv', af.fin s rv⟩
    · exact af.elim
  · exact af.elim

/-! ### a dict of the module -/
theorem lookup_mem {y z : Str} : ∀ {kvs : List (Str × Str)}, kvs.lookup y = some z → (y, z) ∈ kvs
  | [], e => by cases e
  | (a, b) :: kvs, e => by
    rw [List.lookup_cons] at e
    cases hq : (y == a) with
    | true => rw [hq] at e; cases e; rw [beq_iff_eq.mp hq]; exact List.mem_cons_self
    | false => rw [hq] at e; exact List.mem_cons_of_mem _ (lookup_mem e)
theorem ix_kd {d : Addr} {es : Array DictEntry} {n : Nat} (D : KDict X.K X.w d es n) : IxR X (fun x y H Q => ∃ (z : Str) (u0 : Value) (v0 : V), x = .ref d ∧ y = .str z ∧ PySem.W.nsIn X.K d z = some (some u0) ∧ RelV v0 u0 ∧ Q v0 H) := by
  rintro vE sE pins s σ H x y v u Q I rx ry ⟨z, u0, v0, rfl, rfl, e, r, q⟩ hs
  have rx' := rx
  cases rx'
  exact PyProof.Rows.tail_any (kd_type D I) PySem.F.slot_dict_getitem.lookup (op_item_kd D pins s σ H _ _ _ _ Q I rx ry ⟨z, u0, v0, rfl, rfl, e, r, q⟩) hs
theorem s_gd (h : Cok T X g N sc) {y : Str} {kvs : List (Str × Str)} {p : Pos} (k : (y, GV.dct kvs) ∈ T.gi) (k2 : glB sc y = true) (hn : nsl b = true) (hz : (kvs.all fun q => decide (q.2.length ≤ LIM)) = true) (hb : PE X b (GE g .rep fb)) :
    PE X (.Subscript (.Name y p) b pos) (GE g .rep fun ρ M => (fb ρ M).bind fun x M => Pv.opt (gdD kvs x) M) := by
  obtain ⟨a, es, n, hm, D, hv⟩ := h.p.gd y kvs k
  obtain ⟨h1, h2⟩ := glB_of k2
  refine PE.imp (pe_ix (ix_kd D) (pe_glob (v := .ref a) (h.gl h1) hm rfl h2) hb (nsl_ok hn)) fun σ H Q q => ?_
  refine ge_one (ka := .rep) (rel := fun ρ σ => rl g ρ σ .rep) (F := fun ρ x M => Pv.opt (gdD kvs x) M) anti_rl ?_ q
  intro ρ M w w0 v x s ex r af
  obtain ⟨d, ed, a3⟩ := af.optE
  have r : Rep w v x := r
  cases r <;> simp only [gdD, reduceCtorEq, Option.map_eq_some_iff] at ed
  obtain ⟨z, ez, rfl⟩ := ed
  rename_i y' hy
  have hmem : (y', z) ∈ kvs := lookup_mem ez
  obtain ⟨t, ht⟩ := hv _ hmem
  have hz := of_decide_eq_true (List.all_eq_true.mp hz _ hmem)
  exact ⟨y', _, .str z, rfl, rfl, ht, ⟨t, rfl⟩, a3.fin s (.str z hz)⟩

/-! ### methods -/
theorem mt_facts (h : Cok T X g N sc) {cc f : Nat} {m : Str} (k : mtB T.P cc f m = true) : ∃ fn fa fd ps, T.P[f]? = some fn ∧ fn.own = false ∧ Cls X.K (T.ca cc) ∧ Meth X.K (T.ca cc) m fa ∧ Fok T X.prog X.w X.K X.mg X.base f fn fa fd ps := by
  unfold mtB at k
  cases hf : T.P[f]? with
  | none => rw [hf] at k; cases k
  | some fn =>
    rw [hf] at k
    dsimp only at k
    obtain ⟨fa, fd, ps, F⟩ := h.p.fn f fn hf
    have z := F.mgf
    unfold Stands at z
    cases hmt : fn.mt with
    | none => rw [hmt] at k; cases k
    | some t =>
      rw [hmt] at k z
      simp only [Bool.and_eq_true, decide_eq_true_eq, Bool.not_eq_true'] at k
      obtain ⟨k1, k2, k3⟩ := k
      subst k1 k2
      exact ⟨fn, fa, fd, ps, rfl, k3, z.2.1, z.2.2.1, F⟩
theorem few_args {es : List Expr} (h : small30 es = true) (hst : es.all nst = true) : methodCallForm (es.length + ([] : List Keyword).length) (backTo pos (starEach es X.env)) (backToKw pos (keywordEach [] X.env)) = true := by
  have h := of_decide_eq_true h
  have e1 : (backTo pos (starEach es X.env)).all (fun x => !x.1) = true := by
    have := star_any (pos := pos) (env := X.env) hst
    rw [List.all_eq_true]
    intro x hx
    rw [List.any_eq_false] at this
    have := this x hx
    simpa using this
  have e2 : ((backTo pos (starEach es X.env)).all (fun x => !x.1) && (backToKw pos (keywordEach [] X.env)).all (fun x => x.1.isSome)
      && decide (es.length + ([] : List Keyword).length + (if ([] : List Keyword).isEmpty then 0 else 1) < 30)) = true := by
    rw [e1]
    simp [keywordEach, backToKw]
    omega
  exact e2
/-- the promise of a def from the interpreter's end -/
theorem sp_of (h : Cok T X g N sc) {f : Nat} {fn : Fn} (hf : T.P[f]? = some fn) (ho : fn.own = false) {ρ : Rho} {M : Store} {w : Wd} {σ : St} {Q : VK} {vs : List V} {ds : List D} (s : Sr g.w0 ρ M w σ) (r : Reps w vs ds) (af : Aft g (rl g ρ σ .rep) w ρ σ Q (T.C f ds M)) :
    spF T.cls T.ca X.K fn.own fn.np (T.C f) vs w.H Q (fun c d H => g.W c d σ H) := by
  have hl : ds.length = fn.np := by
    apply Classical.byContradiction
    intro z
    rw [h.p.len f fn ds M hf z] at af
    exact af
  refine ⟨r.length.trans hl, ds, M, w, rfl, s.e0.K.trans h.kk, s.e0.B.trans h.bb, s.wf, s.sto, r, ?_⟩
  have af : Aft g (rl g ρ σ (if fn.own then .frs else .rep)) w ρ σ Q (T.C f ds M) := by rw [ho]; exact af
  exact aft_call h.gc s af
theorem s_mcall (h : Cok T X g N sc) {cc f : Nat} {m : Str} {es : List Expr} {apos : Pos} {fr : Rho → Store → Res (List D)} (k : mtB T.P cc f m = true) (ho : ncall a = true) (hl : (apos.endLine == pos.line) = true) (h30 : small30 es = true) (hst : es.all nst = true)
    (ha : PE X a (GE g .rep fa)) (hr : PA X es (GA g fr)) (h0 : es = [] → ∀ ρ M, fr ρ M = .ok [] M) :
    PE X (.Call (.Attribute a m apos) es [] pos) (GE g .rep fun ρ M => (fa ρ M).bind fun v M => match dr M v with
    | .obj c' fs => if c' = cc ∧ fs.lookup m = none then (fr ρ M).bind fun ds M => T.C f (v :: ds) M else .fail
    | _ => .fail) := by
  obtain ⟨fn, fad, fd, ps, hf, how, cl, me, F⟩ := mt_facts h k
  -- the receiver
  have rd : ∀ (t : TA), (∀ {σ : St} {ρ : Rho} {M : Store} {w : Wd} {Q : List V → Hp → Prop}, Sr g.w0 ρ M w σ → Aft g (fun _ w' vs ds => Reps w' vs ds) w ρ σ Q (fr ρ M) → t σ w.H Q) →
      ∀ σ H Q, GE g .rep (fun ρ M => (fa ρ M).bind fun v M => match dr M v with
        | .obj c' fs => if c' = cc ∧ fs.lookup m = none then (fr ρ M).bind fun ds M => T.C f (v :: ds) M else .fail
        | _ => .fail) σ H Q → tMethP (T.ca cc) m (spF T.cls T.ca X.K fn.own fn.np (T.C f)) (WE g.W) (GE g .rep fa) t σ H Q := by
    intro t ht σ H Q q
    refine ge_one (ka := .rep) (rel := fun ρ σ => rl g ρ σ .rep) (F := fun ρ v M => match dr M v with
        | .obj c' fs => if c' = cc ∧ fs.lookup m = none then (fr ρ M).bind fun ds M => T.C f (v :: ds) M else .fail
        | _ => .fail) anti_rl ?_ q
    intro ρ M w w0 v d s ex r af
    have cn := s.con r
    split at af
    · rename_i c' fs hd
      rw [hd] at cn
      obtain ⟨p, dx, fvs, rfl, hp, ek, rr⟩ := cn
      split at af
      · rename_i hc
        obtain ⟨hc, hlk⟩ := hc
        subst hc
        have lf := look_f (x := m) ek rr
        rw [hlk] at lf
        have hB : w.B = T.ca := s.e0.B.trans h.bb
        refine ⟨p, dx, fvs, rfl, by rw [← hB]; exact hp, lf, ?_⟩
        refine ht s (Aft.mono (Aft.bind af fun w1 ex => anti_rl (k := .rep) (σ := σ) ρ w w1 ex) ?_)
        rintro vs H1 ⟨ds, M1, w1, e1, ex1, s1, r1, a1⟩
        subst e1
        have r : Rep w (.ref p) d := r
        exact sp_of h hf how s1 (.cons (r.mono (ex1.wle s.wf)) r1) a1
      · exact af.elim
    · exact af.elim
  cases es with
  | nil =>
    refine PE.imp (pe_methP0 (E := WE g.W) ha cl me F.ok (h.room.mono (Nat.le_succ _)) F.bd (fun σ => passAt h.tk σ) (ncall_ok ho) hl) (rd _ fun {σ ρ M w Q} s af => ?_)
    rw [h0 rfl] at af
    exact af.fin s .nil
  | cons e es =>
    have hst2 := hst
    rw [List.all_cons, Bool.and_eq_true] at hst2
    refine PE.imp (pe_methP (E := WE g.W) ha cl me F.ok (h.room.mono (Nat.le_succ _)) F.bd (fun σ => passAt h.tk σ) hr (ncall_ok ho) (few_args h30 hst) hl (star_ok hst2.1) (star_any hst2.2)) (rd _ fun {σ ρ M w Q} s af => ?_)
    exact ⟨ρ, M, w, rfl, s, af⟩
end
end Pv

set_option Elab.async false
set_option linter.all false
set_option maxRecDepth 100000
set_option maxHeartbeats 4000000
namespace Pv
open PySem L2

theorem noexM {P : Program} {w : World} {K : PySem.W.Frag} {mg : Str → Option Value} {base : Heap} {k : Nat} {f : Addr} {fd : FuncData} {ps : List Str} {sp : Sp} (F : FnOk P w K mg base (L2.CX P w) k f fd ps sp) :
    FnOk P w K mg base CX0 k f fd ps fun vs H Q _ => sp vs H Q fun _ _ _ => False :=
  ⟨fun vs H Q E q => F.len vs H Q _ q, fun A outer s H args us vs Q E hr he hb hv hs => codeAny_mono (F.run A outer s H args us vs Q (fun _ _ _ => False) hr he hb hv hs) fun r s' c => by
    cases r with
    | ok u => cases u <;> exact c
    | error e =>
      obtain ⟨_, _, _, _, _, _, _, _, _, _, _, _, z⟩ := c
      exact z.elim⟩
section
variable {w : Wd} {M : Store} {x dx : Addr} {c : Nat}
def Wd.made (w : Wd) (x dx : Addr) (c : Nat) : Wd := ⟨w.F, w.A ++ [x], upd (upd w.H dx (.own x)) x (.ins (w.B c) dx []), w.K, w.B⟩
theorem made_H (hx : w.H x = none) (hd : w.H dx = none) {a : Addr} {o : HO} (h : w.H a = some o) : (w.made x dx c).H a = some o := by
  show upd (upd w.H dx (.own x)) x _ a = some o
  rw [upd_ne (ne_of_none h hx), upd_ne (ne_of_none h hd)]; exact h
theorem made_ext (f : Wf w) (hx : w.H x = none) (hd : w.H dx = none) : Ext w (w.made x dx c) where
  F := fun a h => h
  A := ⟨[x], rfl⟩
  H := fun a o h _ => made_H hx hd h
  nF := fun a h => .inl h
  nA := fun a h => by
    rcases List.mem_append.mp h with h | h
    · exact .inl h
    · rw [List.mem_singleton.mp h]; exact .inr hx
  kp := fun a h => by
    obtain ⟨u, e⟩ := Option.ne_none_iff_exists'.mp h
    rw [made_H hx hd e]; exact fun z => nomatch z
  K := rfl
  B := rfl
theorem made_wf (f : Wf w) (hx : w.H x = none) (hd : w.H dx = none) : Wf (w.made x dx c) where
  f := fun a h => by
    obtain ⟨n, u, e⟩ := f.f a h
    refine ⟨fun z => ?_, u, made_H hx hd e⟩
    rcases List.mem_append.mp z with z | z
    · exact n z
    · rw [List.mem_singleton.mp z] at e; rw [hx] at e; cases e
  nd := by
    show (w.A ++ [x]).Nodup
    rw [List.nodup_append]
    refine ⟨f.nd, by simp, fun a ha b hb e => ?_⟩
    rw [List.mem_singleton.mp hb] at e
    subst e
    exact f.notA hx ha
  a := fun a h => by
    rcases List.mem_append.mp h with h | h
    · obtain ⟨u, e⟩ := f.a a h
      exact ⟨u, made_H hx hd e⟩
    · rw [List.mem_singleton.mp h]; exact ⟨_, upd_same⟩
theorem made_sto (s : Sto w M) (f : Wf w) (hx : w.H x = none) (hd : w.H dx = none) : Sto (w.made x dx c) (M ++ [.obj c []]) where
  len := by
    show (w.A ++ [x]).length = _
    rw [List.length_append, List.length_append, s.len]; rfl
  at_ := fun h a d h1 h2 => by
    have h1 : (w.A ++ [x])[h]? = some a := h1
    by_cases hl : h < w.A.length
    · rw [List.getElem?_append_left hl] at h1
      rw [List.getElem?_append_left (by rw [← s.len]; exact hl)] at h2
      obtain ⟨u, e⟩ := f.a a (List.mem_of_getElem? h1)
      exact (s.at_ h a d h1 h2).mono ((made_ext f hx hd).wle f) ((made_H hx hd e).trans e.symm)
    · rw [List.getElem?_append_right (by omega)] at h1
      rw [List.getElem?_append_right (by rw [← s.len]; omega), ← s.len] at h2
      have e : h - w.A.length = 0 := by
        have := (List.getElem?_eq_some_iff.mp h1).1
        simp only [List.length_singleton] at this
        omega
      rw [e] at h1 h2
      cases h1; cases h2
      exact ⟨dx, [], upd_same, rfl, .nil⟩
end
section
variable {T : Tb} {X : Cx} {g : Gx} {N : List Str} {sc : Scope} {pos : Pos} {a b c : Expr} {fa fb fc : Rho → Store → Res D}
theorem mk_facts (h : Cok T X g N sc) {cc f : Nat} {x : Str} (k : mkB T.P cc f x = true) : ∃ fn fa fd ps, T.P[f]? = some fn ∧ fn.own = false ∧ X.mg x = some (.ref (T.ca cc)) ∧ Mk X.K (T.ca cc) fa ∧ Fok T X.prog X.w X.K X.mg X.base f fn fa fd ps := by
  unfold mkB at k
  cases hf : T.P[f]? with
  | none => rw [hf] at k; cases k
  | some fn =>
    rw [hf] at k
    dsimp only at k
    obtain ⟨fa, fd, ps, F⟩ := h.p.fn f fn hf
    have z := F.mgf
    unfold Stands at z
    cases hmt : fn.mt with
    | none => rw [hmt] at k; cases k
    | some t =>
      rw [hmt] at k z
      simp only [Bool.and_eq_true, decide_eq_true_eq, Bool.not_eq_true'] at k
      obtain ⟨k1, k2, k3, k4⟩ := k
      subst k1 k3
      exact ⟨fn, fa, fd, ps, rfl, k4, z.1, z.2.2.2.1 k2, F⟩
theorem s_mk (h : Cok T X g N sc) {cc f : Nat} {x : Str} {p : Pos} {es : List Expr} {fr : Rho → Store → Res (List D)} (k : mkB T.P cc f x = true) (hx : glB sc x = true) (hst : es.all nst = true) (hr : PA X es (GA g fr)) (h0 : es = [] → ∀ ρ M, fr ρ M = .ok [] M) :
    PE X (.Call (.Name x p) es [] pos) (GE g .rep fun ρ M => (fr ρ M).bind fun ds M => match T.C f (.hnd M.length :: ds) (M ++ [.obj cc []]) with
    | .ok .non M1 => .ok (.hnd M.length) M1
    | _ => .fail) := by
  obtain ⟨fn, fad, fd, ps, hf, how, hm, mk, F⟩ := mk_facts h k
  obtain ⟨g1, g2⟩ := glB_of hx
  have fin : ∀ {σ : St} {ρ : Rho} {M : Store} {w : Wd} {Q : VK} {vs : List V} {ds : List D}, Sr g.w0 ρ M w σ → Reps w vs ds → Aft g (rl g ρ σ .rep) w ρ σ Q (match T.C f (.hnd M.length :: ds) (M ++ [.obj cc []]) with
      | .ok .non M1 => .ok (.hnd M.length) M1
      | _ => .fail) → ∀ x dx, w.H x = none → w.H dx = none → dx ≠ x →
      spF T.cls T.ca X.K fn.own fn.np (T.C f) (.ref x :: (vs ++ [])) (upd (upd w.H dx (.own x)) x (.ins (T.ca cc) dx [])) (fun v H2 => v = .non ∧ Q (.ref x) H2) (fun _ _ _ => False) := by
    intro σ ρ M w Q vs ds s r af x dx hx hd hne
    have hB : w.B = T.ca := s.e0.B.trans h.bb
    have hl : (.hnd M.length :: ds : List D).length = fn.np := by
      apply Classical.byContradiction
      intro z
      rw [h.p.len f fn _ _ hf z] at af
      exact af
    have ex := made_ext (c := cc) s.wf hx hd
    have rx : Rep (w.made x dx cc) (.ref x) (.hnd M.length) := .hnd (by
      show (w.A ++ [x])[M.length]? = some x
      rw [← s.sto.len]; simp)
    rw [List.append_nil]
    have rr : Reps (w.made x dx cc) (.ref x :: vs) (.hnd M.length :: ds) := .cons rx (r.mono (ex.wle s.wf))
    refine ⟨rr.length.trans hl, _, _, w.made x dx cc, by rw [← hB]; rfl, s.e0.K.trans h.kk, hB, made_wf s.wf hx hd, made_sto s.sto s.wf hx hd, rr, ?_⟩
    generalize T.C f (.hnd M.length :: ds) (M ++ [.obj cc []]) = res at af ⊢
    cases res with
    | fail => exact af
    | exc c M' => exact af.elim
    | ok d M' =>
      intro v w' e wf' st' rv
      cases d <;> first | exact af.elim | skip
      rw [how] at rv
      have rv : Rep w' v .non := rv
      cases rv
      refine ⟨rfl, af (.ref x) w' (ex.trans e) (s.ext (ex.trans e) wf' st') (.hnd ?_)⟩
      obtain ⟨l, q⟩ := e.A
      show w'.A[M.length]? = some x
      rw [q, List.getElem?_append_left]
      · show (w.A ++ [x])[M.length]? = some x
        rw [← s.sto.len]; simp
      · show M.length < (w.A ++ [x]).length
        rw [List.length_append, s.sto.len]; simp
  cases es with
  | nil =>
    refine PE.imp (pe_make0 mk (noexM F.ok) h.room (h.gl g1) hm F.bd (dvs := []) .nil (E := fun _ _ _ => False) pass0 g2) fun σ H Q q => ?_
    obtain ⟨ρ, M, w, rfl, s, af⟩ := q
    dsimp only at af
    rw [h0 rfl] at af
    exact fin s .nil af
  | cons e es =>
    rw [List.all_cons, Bool.and_eq_true] at hst
    refine PE.imp (pe_make mk (noexM F.ok) h.room (h.gl g1) hm F.bd (dvs := []) .nil (E := fun _ _ _ => False) pass0 hr g2 (star_ok hst.1) (star_any hst.2)) fun σ H Q q => ?_
    obtain ⟨ρ, M, w, e, s, a⟩ := q
    refine ⟨ρ, M, w, e, s, Aft.mono (Aft.bind a fun w1 ex => anti_rl (k := .rep) (σ := σ) ρ w w1 ex) ?_⟩
    rintro vs H1 ⟨ds, M1, w1, e1, ex1, s1, r1, a1⟩
    subst e1
    exact fin s1 r1 a1
end
end Pv

set_option Elab.async false
set_option linter.all false
set_option maxRecDepth 100000
set_option maxHeartbeats 8000000
namespace Pv
open PySem L2

structure Snd (T : Tb) (N : List Str) (a : E) : Prop where
  e : ∀ {X : Cx} {g : Gx} {sc : Scope} (e : Expr), Cok T X g N sc → okE T.P T.gi N sc a e = true → PE X e (GE g (kindE a) (ev T.C a))
  t : ∀ {X : Cx} {g : Gx} {sc : Scope} (e : Expr), Cok T X g N sc → okE T.P T.gi N sc a e = true → PT X e (GT g (evT T.C a))
  l : ∀ {X : Cx} {g : Gx} {sc : Scope} (xs : List Expr), Cok T X g N sc → okL T.P T.gi N sc a xs = true → PA X xs (GA g (evs T.C a))
  c : ∀ {X : Cx} {g : Gx} {sc : Scope} (xs : List Expr), Cok T X g N sc → okC T.P T.gi N sc a xs = true → PTs X xs (GT g (evC T.C a))
  o : ∀ {X : Cx} {g : Gx} {sc : Scope} (x : Option Expr), Cok T X g N sc → okO T.P T.gi N sc a x = true → PO X x (GO g (evO T.C a))
  and : ∀ {X : Cx} {g : Gx} {sc : Scope} (xs : List Expr) (p : Pos), Cok T X g N sc → (!xs.isEmpty) = true → okL T.P T.gi N sc a xs = true → PE X (.BoolOp .And xs p) (GE g .rep (evAnd T.C a))
  or : ∀ {X : Cx} {g : Gx} {sc : Scope} (xs : List Expr) (p : Pos), Cok T X g N sc → (!xs.isEmpty) = true → okL T.P T.gi N sc a xs = true → PE X (.BoolOp .Or xs p) (GE g .rep (evOr T.C a))
  andT : ∀ {X : Cx} {g : Gx} {sc : Scope} (xs : List Expr) (p : Pos), Cok T X g N sc → (!xs.isEmpty) = true → okL T.P T.gi N sc a xs = true → PW X (.BoolOp .And xs p) (GT g (evAndT T.C a))
  orT : ∀ {X : Cx} {g : Gx} {sc : Scope} (xs : List Expr) (p : Pos), Cok T X g N sc → (!xs.isEmpty) = true → okL T.P T.gi N sc a xs = true → PW X (.BoolOp .Or xs p) (GT g (evOrT T.C a))
  i : ∀ {X : Cx} {g : Gx} {sc : Scope} {tt : Bool} (e tg : Expr), Cok T X g N sc → okI T.P T.gi N sc tt a e = true → (tt = true → ∃ elts kk p, tg = .Tuple elts kk p) → PI X tg e (GI g X.K tt (evI T.C a))

section
variable {T : Tb} {N : List Str}
theorem Snd.plain {a : E} (p : plainE a = true) (he : ∀ {X : Cx} {g : Gx} {sc : Scope} (e : Expr), Cok T X g N sc → okE T.P T.gi N sc a e = true → PE X e (GE g (kindE a) (ev T.C a)))
    (ht : ∀ {X : Cx} {g : Gx} {sc : Scope} (e : Expr), Cok T X g N sc → okE T.P T.gi N sc a e = true → PT X e (GT g (evT T.C a))) : Snd T N a where
  e := he
  t := ht
  l := fun xs h k => by rw [plain_L p] at k; cases k
  c := fun xs h k => by rw [plain_C p] at k; cases k
  o := fun xs h k => by rw [plain_O p] at k; cases k
  and := fun xs p' h n k => by rw [plain_L p] at k; cases k
  or := fun xs p' h n k => by rw [plain_L p] at k; cases k
  andT := fun xs p' h n k => by rw [plain_L p] at k; cases k
  orT := fun xs p' h n k => by rw [plain_L p] at k; cases k
  i := fun e tg h k => by rw [plain_I p] at k; cases k
theorem isNil_of {r : E} (h : isNil r = true) : r = .nil := by cases r <;> first | rfl | cases h
theorem own_walk {T : Tb} {X : Cx} {g : Gx} {N : List Str} {sc : Scope} {tt : Bool} (h : Cok T X g N sc) {it : E} {tg e : Expr} (k : okW N sc it e = true) : PI X tg e (GIe g X.K tt (evI T.C it)) := by
  cases it <;> first | (cases k; done) | skip
  rename_i i
  cases e <;> first | (cases k; done) | skip
  obtain ⟨h1, h2, h3, h4⟩ := nameB_of k
  refine PI.imp (i_own (tt := tt) h (pe_var (i := i) (by rw [h.hN]; exact h1) (by rw [h.sc]; exact h2) h3 h4)) fun σ H R q => ?_
  obtain ⟨ρ, M, w, e, s, a⟩ := q
  refine ⟨ρ, M, w, e, s, ?_⟩
  rw [evI] at a
  exact a
theorem noCall_of {o : Expr} (h : noCall o = true) : ncall o = true := h
theorem rep_not {a : E} (h : isRep a = true) : notBor a = true := by
  unfold isRep at h
  rw [Bool.and_eq_true] at h
  exact h.1
theorem okL_nil {sc : Scope} {l : E} (h : okL T.P T.gi N sc l [] = true) : ∀ ρ M, evs T.C l ρ M = .ok [] M := by
  cases l <;> first | (simp [okL] at h; done) | skip
  intro ρ M
  simp only [evs]

theorem snd (a : E) : Snd T N a := by
  induction a with
  | int i => exact .plain rfl (fun e h k => by
      cases e <;> try (simp [okE] at k; done)
      rename_i c _ _; cases c <;> simp [okE] at k
      subst k; exact s_const pe_int fun _ => .int _) (fun e h k => t_fail)
  | str x => exact .plain rfl (fun e h k => by
      cases e <;> try (simp [okE] at k; done)
      rename_i c _ _; cases c <;> simp [okE] at k
      obtain ⟨rfl, k⟩ := k
      exact s_const pe_str fun _ => .str _ k) (fun e h k => t_fail)
  | bl b =>
    have pe : ∀ {X : Cx} {g : Gx} {sc : Scope} (e : Expr), Cok T X g N sc → okE T.P T.gi N sc (.bl b) e = true → PE X e (GE g .rep (ev T.C (.bl b))) := fun e h k => by
      cases e <;> try (simp [okE] at k; done)
      rename_i c _ _; cases c <;> simp [okE] at k
      subst k; exact s_const pe_bl fun _ => .bl _
    exact .plain rfl pe (fun e h k => by
      have p := pe e h k
      cases e <;> try (simp [okE] at k; done)
      exact pt_eq (t_truth h.kk rfl p) fun ρ M => rfl)
  | non => exact .plain rfl (fun e h k => by
      cases e <;> try (simp [okE] at k; done)
      rename_i c _ _; cases c <;> simp [okE] at k
      exact s_const pe_non fun _ => .non) (fun e h k => t_fail)
  | var i => exact .plain rfl (fun e h k => by
      cases e <;> try (simp [okE] at k; done)
      exact s_var h (by simpa only [okE] using k)) (fun e h k => by
      cases e <;> try (simp [okE] at k; done)
      refine pt_eq (t_truth h.kk rfl (s_var h (by simpa only [okE] using k))) fun ρ M => ?_
      simp only [evT, ev]
      split <;> rfl)
  | peek i => exact .plain rfl (fun e h k => by
      cases e <;> try (simp [okE] at k; done)
      exact s_peek h (by simpa only [okE] using k)) (fun e h k => by
      cases e <;> try (simp [okE] at k; done)
      refine pt_eq (t_truth h.kk rfl (s_peek h (by simpa only [okE] using k))) fun ρ M => ?_
      simp only [evT, ev]
      split <;> rfl)
  | move i => exact .plain rfl (fun e h k => by
      cases e <;> try (simp [okE] at k; done)
      exact s_peek h (by simpa only [okE] using k)) (fun e h k => t_fail)
  | glob y i => exact .plain rfl (fun e h k => by
      cases e <;> try (simp [okE] at k; done)
      simp only [okE, Bool.and_eq_true, decide_eq_true_eq] at k
      obtain ⟨rfl, k1, k2⟩ := k
      exact s_glob h k1 k2) (fun e h k => t_fail)
  | bin bk a b iha ihb => exact .plain rfl (fun e h k => by
      cases e <;> try (simp [okE] at k; done)
      simp only [okE, Bool.and_eq_true] at k
      obtain ⟨k1, ⟨n1, k2⟩, n2, k3⟩ := k
      exact s_bin h k1 (to_rep (iha.e _ h k2) n1) (to_rep (ihb.e _ h k3) n2)) (fun e h k => t_fail)
  | neg a iha => exact .plain rfl (fun e h k => by
      cases e <;> try (simp [okE] at k; done)
      rename_i op x p; cases op <;> try (simp [okE] at k; done)
      simp only [okE, Bool.and_eq_true] at k
      exact s_neg (to_rep (iha.e _ h k.2.2) k.2.1)) (fun e h k => t_fail)
  | cmp ck a b iha ihb => exact .plain rfl (fun e h k => by
      cases e <;> try (simp [okE] at k; done)
      rename_i x ops ys p
      rcases ops with _ | ⟨op, _ | ⟨op2, ops⟩⟩ <;> try (simp [okE] at k; done)
      rcases ys with _ | ⟨y, _ | ⟨y2, ys⟩⟩ <;> try (simp [okE] at k; done)
      simp only [okE, Bool.and_eq_true] at k
      obtain ⟨k1, ⟨n1, k2⟩, k3, k4⟩ := k
      exact s_cmp h k1 (okE_nset k3) (to_rep (iha.e _ h k2) n1) (ihb.e _ h k3)) (fun e h k => by
      cases e <;> try (simp [okE] at k; done)
      rename_i x ops ys p
      rcases ops with _ | ⟨op, _ | ⟨op2, ops⟩⟩ <;> try (simp [okE] at k; done)
      rcases ys with _ | ⟨y, _ | ⟨y2, ys⟩⟩ <;> try (simp [okE] at k; done)
      simp only [okE, Bool.and_eq_true] at k
      obtain ⟨k1, ⟨n1, k2⟩, k3, k4⟩ := k
      exact t_cmp h k1 (okE_nset k3) (to_rep (iha.e _ h k2) n1) (ihb.e _ h k3))
  | cmp2 ck cl a b c iha ihb ihc => exact .plain rfl (fun e h k => by
      cases e <;> try (simp [okE] at k; done)
      rename_i x ops ys p
      rcases ops with _ | ⟨op, _ | ⟨op2, _ | ⟨op3, ops⟩⟩⟩ <;> try (simp [okE] at k; done)
      rcases ys with _ | ⟨y, _ | ⟨y2, _ | ⟨y3, ys⟩⟩⟩ <;> try (simp [okE] at k; done)
      simp only [okE, Bool.and_eq_true] at k
      obtain ⟨k1, k2, ⟨n1, k3⟩, ⟨n2, k4⟩, ⟨n3, k5⟩, _⟩ := k
      exact s_cmp2 h k1 k2 (okE_nset k5) (to_rep (iha.e _ h k3) n1) (to_rep (ihb.e _ h k4) n2) (to_rep (ihc.e _ h k5) n3)) (fun e h k => by
      cases e <;> try (simp [okE] at k; done)
      rename_i x ops ys p
      rcases ops with _ | ⟨op, _ | ⟨op2, _ | ⟨op3, ops⟩⟩⟩ <;> try (simp [okE] at k; done)
      rcases ys with _ | ⟨y, _ | ⟨y2, _ | ⟨y3, ys⟩⟩⟩ <;> try (simp [okE] at k; done)
      simp only [okE, Bool.and_eq_true] at k
      obtain ⟨k1, k2, ⟨n1, k3⟩, ⟨n2, k4⟩, ⟨n3, k5⟩, _⟩ := k
      exact t_cmp2 h k1 k2 (okE_nset k5) (to_rep (iha.e _ h k3) n1) (to_rep (ihb.e _ h k4) n2) (to_rep (ihc.e _ h k5) n3))
  | and l ihl => exact .plain rfl (fun e h k => by
      cases e <;> try (simp [okE] at k; done)
      rename_i op xs p; cases op <;> try (simp [okE] at k; done)
      simp only [okE, Bool.and_eq_true] at k
      exact ihl.and xs p h k.2.1 k.2.2) (fun e h k => by
      cases e <;> try (simp [okE] at k; done)
      rename_i op xs p; cases op <;> try (simp [okE] at k; done)
      simp only [okE, Bool.and_eq_true] at k
      exact (ihl.andT xs p h k.2.1 k.2.2).pt)
  | or l ihl => exact .plain rfl (fun e h k => by
      cases e <;> try (simp [okE] at k; done)
      rename_i op xs p; cases op <;> try (simp [okE] at k; done)
      simp only [okE, Bool.and_eq_true] at k
      exact ihl.or xs p h k.2.1 k.2.2) (fun e h k => by
      cases e <;> try (simp [okE] at k; done)
      rename_i op xs p; cases op <;> try (simp [okE] at k; done)
      simp only [okE, Bool.and_eq_true] at k
      exact (ihl.orT xs p h k.2.1 k.2.2).pt)
  | not a iha => exact .plain rfl (fun e h k => by
      cases e <;> try (simp [okE] at k; done)
      rename_i op x p; cases op <;> try (simp [okE] at k; done)
      simp only [okE, Bool.and_eq_true] at k
      exact s_not h.kk (iha.e _ h k.2)) (fun e h k => by
      cases e <;> try (simp [okE] at k; done)
      rename_i op x p; cases op <;> try (simp [okE] at k; done)
      simp only [okE, Bool.and_eq_true] at k
      exact t_not (iha.t _ h k.2))
  | ite t a b iht iha ihb => exact .plain rfl (fun e h k => by
      cases e <;> try (simp [okE] at k; done)
      simp only [okE, Bool.and_eq_true] at k
      obtain ⟨k1, ⟨n1, k2⟩, n2, k3⟩ := k
      exact s_ite (iht.t _ h k1) (to_rep (iha.e _ h k2) n1) (to_rep (ihb.e _ h k3) n2)) (fun e h k => t_fail)
  | tup l ihl => exact .plain rfl (fun e h k => by
      cases e <;> try (simp [okE] at k; done)
      simp only [okE] at k
      exact s_tup (ihl.l _ h k)) (fun e h k => t_fail)
  | lst l ihl => exact .plain rfl (fun e h k => by
      cases e <;> try (simp [okE] at k; done)
      simp only [okE] at k
      exact s_lst (ihl.l _ h k)) (fun e h k => t_fail)
  | idx a b iha ihb =>
    have pe : ∀ {X : Cx} {g : Gx} {sc : Scope} (e : Expr), Cok T X g N sc → okE T.P T.gi N sc (.idx a b) e = true → PE X e (GE g .rep (ev T.C (.idx a b))) := fun e h k => by
      cases e <;> try (simp [okE] at k; done)
      simp only [okE, Bool.and_eq_true] at k
      obtain ⟨k1, n2, k2⟩ := k
      obtain ⟨ka, hk, pa⟩ := to_nf (iha.e _ h k1)
      exact s_idx h hk (okE_nsl k2) pa (to_rep (ihb.e _ h k2) n2)
    exact .plain rfl pe (fun e h k => by
      have p := pe e h k
      cases e <;> try (simp [okE] at k; done)
      refine pt_eq (t_truth h.kk rfl p) fun ρ M => ?_
      simp only [evT, ev, truR_bind, truR_opt])
  | slice a lo hi iha ihl ihh => exact .plain rfl (fun e h k => by
      cases e <;> try (simp [okE] at k; done)
      rename_i x y p
      cases y <;> try (simp [okE] at k; done)
      rename_i l u st p2
      cases st <;> try (simp [okE] at k; done)
      simp only [okE, Bool.and_eq_true] at k
      obtain ⟨⟨n1, k1⟩, k2, k3⟩ := k
      exact s_slice (to_rep (iha.e _ h k1) n1) (ihl.o _ h k2) (ihh.o _ h k3)) (fun e h k => t_fail)
  | rev a iha => exact .plain rfl (fun e h k => by
      cases e <;> try (simp [okE] at k; done)
      rename_i x y p
      cases y <;> try (simp [okE] at k; done)
      rename_i l u st p2
      cases l <;> try (simp [okE] at k; done)
      cases u <;> try (simp [okE] at k; done)
      cases st <;> try (simp [okE] at k; done)
      rename_i z
      cases z <;> try (simp [okE] at k; done)
      rename_i op y2 p3
      cases op <;> try (simp [okE] at k; done)
      cases y2 <;> try (simp [okE] at k; done)
      rename_i cc kk p4
      cases cc <;> try (simp [okE] at k; done)
      rename_i i
      by_cases hi : i = 1
      · subst hi
        simp only [okE, Bool.and_eq_true] at k
        exact s_rev (to_rep (iha.e _ h k.2) k.1)
      · simp [okE, hi] at k) (fun e h k => t_fail)
  | hn a iha => exact .plain rfl (fun {X g sc} e h k => by
      have k1 : (match kindE a with | .frs => true | _ => false) = true ∧ okE T.P T.gi N sc a e = true := by
        simp only [okE, Bool.and_eq_true] at k
        exact k.2
      have pe := iha.e e h k1.2
      have kf : kindE a = .frs := by
        cases hk : kindE a with
        | frs => rfl
        | rep => rw [hk] at k1; exact absurd k1.1 (by decide)
        | bor => rw [hk] at k1; exact absurd k1.1 (by decide)
      rw [kf] at pe
      exact s_hn pe) (fun e h k => t_fail)
  | dsp a b iha ihb => exact .plain rfl (fun e h k => by
      cases e <;> try (simp [okE] at k; done)
      rename_i ks vs p
      rcases ks with _ | ⟨y, _ | ⟨y2, ks⟩⟩ <;> try (simp [okE] at k; done)
      cases y <;> try (simp [okE] at k; done)
      rcases vs with _ | ⟨z, _ | ⟨z2, vs⟩⟩ <;> try (simp [okE] at k; done)
      simp only [okE, Bool.and_eq_true] at k
      obtain ⟨⟨n1, k1⟩, n2, k2⟩ := k
      exact s_dsp (to_rep (iha.e _ h k1) n1) (to_rep (ihb.e _ h k2) n2)) (fun e h k => t_fail)
  | lit a iha => exact .plain rfl (fun e h k => by
      cases e <;> try (simp [okE] at k; done)
      rename_i fe xs kw p
      cases fe <;> try (simp [okE] at k; done)
      cases kw <;> try (simp [okE] at k; done)
      rcases xs with _ | ⟨x, _ | ⟨x2, xs⟩⟩ <;> try (simp [okE] at k; done)
      cases x <;> try (simp [okE] at k; done)
      rename_i fe2 xs2 kw2 p2
      cases fe2 <;> try (simp [okE] at k; done)
      cases kw2 <;> try (simp [okE] at k; done)
      rcases xs2 with _ | ⟨x, _ | ⟨x2, xs2⟩⟩ <;> try (simp [okE] at k; done)
      simp only [okE, Bool.and_eq_true] at k
      obtain ⟨k1, k2, n, k3⟩ := k
      exact s_lit h k1 k2 (okE_nst k3) (to_rep (iha.e _ h k3) n)) (fun e h k => t_fail)
  | lit2 a b iha ihb => exact .plain rfl (fun e h k => by
      cases e <;> try (simp [okE] at k; done)
      rename_i fe xs kw p
      cases fe <;> try (simp [okE] at k; done)
      cases kw <;> try (simp [okE] at k; done)
      rcases xs with _ | ⟨x, _ | ⟨x2, xs⟩⟩ <;> try (simp [okE] at k; done)
      cases x <;> try (simp [okE] at k; done)
      rename_i fe2 xs2 kw2 p2
      cases fe2 <;> try (simp [okE] at k; done)
      cases kw2 <;> try (simp [okE] at k; done)
      rcases xs2 with _ | ⟨x, _ | ⟨x2, _ | ⟨x3, xs2⟩⟩⟩ <;> try (simp [okE] at k; done)
      simp only [okE, Bool.and_eq_true] at k
      obtain ⟨k1, k2, ⟨n, k3⟩, n2, k4⟩ := k
      exact s_lit2 h k1 k2 (okE_nst k3) (okE_nst k4) (to_rep (iha.e _ h k3) n) (to_rep (ihb.e _ h k4) n2)) (fun e h k => t_fail)
  | hpop a b iha ihb => exact .plain rfl (fun e h k => by
      cases e <;> try (simp [okE] at k; done)
      rename_i fe xs kw p
      cases fe <;> try (simp [okE] at k; done)
      cases kw <;> try (simp [okE] at k; done)
      rcases xs with _ | ⟨x, _ | ⟨x2, xs⟩⟩ <;> try (simp [okE] at k; done)
      simp only [okE, Bool.and_eq_true, decide_eq_true_eq] at k
      obtain ⟨rfl, n1, k1, n2, k2, k3, k4⟩ := k
      exact s_hpop (okE_nst k2) (noCall_of k3) k4 (to_rep (iha.e _ h k1) n1) (to_rep (ihb.e _ h k2) n2)) (fun e h k => t_fail)
  | gd y kvs a iha => exact .plain rfl (fun e h k => by
      cases e <;> try (simp [okE] at k; done)
      rename_i l r p
      cases l <;> try (simp [okE] at k; done)
      simp only [okE, Bool.and_eq_true, decide_eq_true_eq] at k
      obtain ⟨k0, k1, k2, n1, k3, k4⟩ := k
      rw [k0]
      exact s_gd h k1 (k0 ▸ k2) (okE_nsl k3) k4 (to_rep (iha.e _ h k3) n1)) (fun e h k => t_fail)
  | fld cc a x iha => exact .plain rfl (fun e h k => by
      cases e <;> try (simp [okE] at k; done)
      simp only [okE, Bool.and_eq_true, decide_eq_true_eq] at k
      obtain ⟨k0, k1, k2, k3, k4⟩ := k
      rw [k0]
      exact s_fld h k1 (noCall_of k4) (to_rep (iha.e _ h k3) (rep_not k2))) (fun e h k => t_fail)
  | mcall cc f m a l iha ihl =>
    have pe : ∀ {X : Cx} {g : Gx} {sc : Scope} (e : Expr), Cok T X g N sc → okE T.P T.gi N sc (.mcall cc f m a l) e = true → PE X e (GE g .rep (ev T.C (.mcall cc f m a l))) := fun e h k => by
      cases e <;> try (simp [okE] at k; done)
      rename_i fe xs kw p
      cases fe <;> try (simp [okE] at k; done)
      rename_i o n apos
      cases kw <;> try (simp [okE] at k; done)
      simp only [okE, Bool.and_eq_true, decide_eq_true_eq] at k
      obtain ⟨k0, k1, k2, k3, k4, k5, k6, k7⟩ := k
      subst k0
      exact s_mcall h k1 (noCall_of k5) k6 k7 (okL_nst l k4) (to_rep (iha.e _ h k3) (rep_not k2)) (ihl.l _ h k4) fun e => okL_nil (e ▸ k4)
    exact .plain rfl pe (fun e h k => by
      have p := pe e h k
      cases e <;> try (simp [okE] at k; done)
      refine pt_eq (t_truth h.kk rfl p) fun ρ M => ?_
      simp only [evT, ev, truR_bind]
      congr 1
      funext v M
      split
      · split
        · rw [truR_bind]
        · rfl
      · rfl)
  | mk cc f l ihl => exact .plain rfl (fun e h k => by
      cases e <;> try (simp [okE] at k; done)
      rename_i fe xs kw p
      cases fe <;> try (simp [okE] at k; done)
      cases kw <;> try (simp [okE] at k; done)
      simp only [okE, Bool.and_eq_true] at k
      obtain ⟨k0, k1, k2⟩ := k
      exact s_mk h k0 k1 (okL_nst l k2) (ihl.l _ h k2) fun e => okL_nil (e ▸ k2)) (fun e h k => t_fail)
  | compK tg a c e iha ihc ihe => exact .plain rfl (fun e h k => by simp [okE] at k) (fun e h k => by simp [okE] at k)
  | dsps l ihl => exact .plain rfl (fun e h k => by simp [okE] at k) (fun e h k => by simp [okE] at k)
  | call f l ihl =>
    have pe : ∀ {X : Cx} {g : Gx} {sc : Scope} (e : Expr), Cok T X g N sc → okE T.P T.gi N sc (.call f l) e = true → PE X e (GE g .rep (ev T.C (.call f l))) := fun e h k => by
      cases e <;> try (simp [okE] at k; done)
      rename_i fe xs kw p
      cases fe <;> try (simp [okE] at k; done)
      rename_i idn pn
      cases kw <;> try (simp [okE] at k; done)
      simp only [okE, Bool.and_eq_true] at k
      obtain ⟨k0, k1, kn, k2⟩ := k
      cases hf : T.P[f]? with
      | none => rw [hf] at k0; cases k0
      | some fn =>
        rw [hf] at k0
        simp only [Bool.and_eq_true, decide_eq_true_eq, Bool.not_eq_true'] at k0
        cases xs with
        | nil => cases kn
        | cons x xs =>
          have := s_call (pos := p) (p := pn) h hf k1 k0.1 k0.2.1 (okL_nst l k2) (ihl.l _ h k2)
          rw [k0.2.2] at this
          exact this
    exact .plain rfl pe (fun e h k => by
      have p := pe e h k
      cases e <;> try (simp [okE] at k; done)
      refine pt_eq (t_truth h.kk rfl p) fun ρ M => ?_
      simp only [evT, ev, truR_bind])
  | fcall f l ihl => exact .plain rfl (fun e h k => by
      cases e <;> try (simp [okE] at k; done)
      rename_i fe xs kw p
      cases fe <;> try (simp [okE] at k; done)
      rename_i idn pn
      cases kw <;> try (simp [okE] at k; done)
      simp only [okE, Bool.and_eq_true] at k
      obtain ⟨k0, k1, kn, k2⟩ := k
      cases hf : T.P[f]? with
      | none => rw [hf] at k0; cases k0
      | some fn =>
        rw [hf] at k0
        simp only [Bool.and_eq_true, decide_eq_true_eq] at k0
        cases xs with
        | nil => cases kn
        | cons x xs =>
          have := s_call (pos := p) (p := pn) h hf k1 k0.1 k0.2.1 (okL_nst l k2) (ihl.l _ h k2)
          rw [k0.2.2] at this
          exact this) (fun e h k => t_fail)
  | fn1 fk a iha =>
    have pe : ∀ {X : Cx} {g : Gx} {sc : Scope} (e : Expr), Cok T X g N sc → okE T.P T.gi N sc (.fn1 fk a) e = true → PE X e (GE g .rep (ev T.C (.fn1 fk a))) := fun e h k => by
      cases e <;> try (simp [okE] at k; done)
      rename_i fe xs kw p
      cases fe <;> try (simp [okE] at k; done)
      cases kw <;> try (simp [okE] at k; done)
      rcases xs with _ | ⟨x, _ | ⟨x2, xs⟩⟩ <;> try (simp [okE] at k; done)
      simp only [okE, Bool.and_eq_true] at k
      exact s_fn1 h k.1 (okE_nst k.2) (iha.e _ h k.2)
    exact .plain rfl pe (fun e h k => by
      have p := pe e h k
      cases e <;> try (simp [okE] at k; done)
      refine pt_eq (t_truth h.kk rfl p) fun ρ M => ?_
      simp only [evT, ev, truR_bind, truR_opt])
  | fn2 fk a b iha ihb => exact .plain rfl (fun e h k => by
      cases e <;> try (simp [okE] at k; done)
      rename_i fe xs kw p
      cases fe <;> try (simp [okE] at k; done)
      cases kw <;> try (simp [okE] at k; done)
      rcases xs with _ | ⟨x, _ | ⟨x2, _ | ⟨x3, xs⟩⟩⟩ <;> try (simp [okE] at k; done)
      simp only [okE, Bool.and_eq_true] at k
      obtain ⟨k1, ⟨n1, k2⟩, n2, k3⟩ := k
      exact s_fn2 h k1 (okE_nst k2) (okE_nst k3) (to_rep (iha.e _ h k2) n1) (to_rep (ihb.e _ h k3) n2)) (fun e h k => t_fail)
  | meth1 mk a b iha ihb => exact .plain rfl (fun e h k => by
      cases e <;> try (simp [okE] at k; done)
      rename_i fe xs kw p
      cases fe <;> try (simp [okE] at k; done)
      cases kw <;> try (simp [okE] at k; done)
      rcases xs with _ | ⟨x, _ | ⟨x2, xs⟩⟩ <;> try (simp [okE] at k; done)
      simp only [okE, Bool.and_eq_true, decide_eq_true_eq] at k
      obtain ⟨rfl, k1, ⟨n2, k2⟩, k3, k4⟩ := k
      obtain ⟨ka, hk, pa⟩ := to_nf (iha.e _ h k1)
      exact s_meth1 h hk (okE_nst k2) (noCall_of k3) k4 pa (to_rep (ihb.e _ h k2) n2)) (fun e h k => t_fail)
  | get2 a b c iha ihb ihc => exact .plain rfl (fun e h k => by
      cases e <;> try (simp [okE] at k; done)
      rename_i fe xs kw p
      cases fe <;> try (simp [okE] at k; done)
      cases kw <;> try (simp [okE] at k; done)
      rcases xs with _ | ⟨x, _ | ⟨x2, _ | ⟨x3, xs⟩⟩⟩ <;> try (simp [okE] at k; done)
      simp only [okE, Bool.and_eq_true, decide_eq_true_eq] at k
      obtain ⟨rfl, k1, ⟨n2, k2⟩, ⟨n3, k5⟩, k3, k4⟩ := k
      obtain ⟨ka, hk, pa⟩ := to_nf (iha.e _ h k1)
      exact s_get2 h hk (okE_nst k2) (okE_nst k5) (noCall_of k3) k4 pa (to_rep (ihb.e _ h k2) n2) (to_rep (ihc.e _ h k5) n3)) (fun e h k => t_fail)
  | isi a t iha => exact .plain rfl (fun e h k => by
      cases e <;> try (simp [okE] at k; done)
      rename_i fe xs kw p
      cases fe <;> try (simp [okE] at k; done)
      cases kw <;> try (simp [okE] at k; done)
      rcases xs with _ | ⟨x, _ | ⟨x2, _ | ⟨x3, xs⟩⟩⟩ <;> try (simp [okE] at k; done)
      cases x2 <;> try (simp [okE] at k; done)
      simp only [okE, Bool.and_eq_true] at k
      exact s_isi h k.1 k.2.1 (okE_nst k.2.2) (iha.e _ h k.2.2)) (fun e h k => by
      cases e <;> try (simp [okE] at k; done)
      rename_i fe xs kw p
      cases fe <;> try (simp [okE] at k; done)
      cases kw <;> try (simp [okE] at k; done)
      rcases xs with _ | ⟨x, _ | ⟨x2, _ | ⟨x3, xs⟩⟩⟩ <;> try (simp [okE] at k; done)
      cases x2 <;> try (simp [okE] at k; done)
      simp only [okE, Bool.and_eq_true] at k
      exact t_isi h k.1 k.2.1 (okE_nst k.2.2) (iha.e _ h k.2.2))
  | ff fk a iha => exact .plain rfl (fun e h k => by
      cases e <;> try (simp [okE] at k; done)
      rename_i fe xs kw p
      cases fe <;> try (simp [okE] at k; done)
      cases kw <;> try (simp [okE] at k; done)
      rcases xs with _ | ⟨x, _ | ⟨x2, xs⟩⟩ <;> try (simp [okE] at k; done)
      cases fk <;> try (simp [okE] at k; done)
      · simp only [okE, Bool.and_eq_true] at k
        exact s_list h k.1 (okE_nst k.2) (iha.e _ h k.2)
      · simp only [okE, Bool.and_eq_true] at k
        exact s_sorted h k.1 (okE_nst k.2) (iha.e _ h k.2)
      · cases x <;> try (simp [okE] at k; done)
        rename_i fe2 xs2 kw2 p2
        cases fe2 <;> try (simp [okE] at k; done)
        cases kw2 <;> try (simp [okE] at k; done)
        rcases xs2 with _ | ⟨y, _ | ⟨y2, xs2⟩⟩ <;> try (simp [okE] at k; done)
        simp only [okE, Bool.and_eq_true] at k
        obtain ⟨k1, k2, n, k3⟩ := k
        exact s_sset h k1 k2 (okE_nst k3) (to_rep (iha.e _ h k3) n)
      · simp only [okE, Bool.and_eq_true] at k
        exact s_dict h k.1 (okE_nst k.2) (iha.e _ h k.2)) (fun e h k => t_fail)
  | dic0 => exact .plain rfl (fun e h k => by
      cases e <;> try (simp [okE] at k; done)
      rename_i ks vs p
      cases ks <;> try (simp [okE] at k; done)
      cases vs <;> try (simp [okE] at k; done)
      exact s_dic0) (fun e h k => t_fail)
  | comp tg tt it cond elt own ihi ihc ihe =>
    have pe : ∀ {X : Cx} {g : Gx} {sc : Scope} (e : Expr), Cok T X g N sc → okE T.P T.gi N sc (.comp tg tt it cond elt own) e = true → PE X e (GE g .frs (ev T.C (.comp tg tt it cond elt own))) := fun {X g sc} e h k => by
      cases e <;> try (simp [okE] at k; done)
      rename_i x gs scope p
      rcases gs with _ | ⟨⟨t, i, ifs, na⟩, _ | ⟨g2, gs⟩⟩ <;> try (simp [okE] at k; done)
      simp only [okE, Bool.and_eq_true, decide_eq_true_eq] at k
      obtain ⟨rfl, k1, k2, k3, k4, k5, k6, n7, k7⟩ := k
      rw [Bool.or_eq_true] at k1
      have hi : PI X t i (GIe g X.K tt (evI T.C it)) := by
        rcases k1 with k1 | k1
        · exact PI.imp (ihi.i (tt := tt) i t h k1 (fun z => by
            subst z
            cases t <;> first | exact ⟨_, _, _, rfl⟩ | (exfalso; simp [targetB] at k4))) fun _ _ _ q => q.gi
        · exact own_walk h k1
      have hfold : ∀ y, foldedSetIterable i X.env y = pure y := fold_ok (k1.elim okI_nset okW_nset)
      have tgo : ∀ j ∈ tg, j ∈ own := by
        intro j hj
        have := List.all_eq_true.mp k5 j hj
        simpa using this
      refine s_comp h (own.filterMap fun j => (N[j]?).map fun y => (y, j)) k3 hi (by rw [h.hN, h.sc]; exact blkOk_by k2) tgo ?_ ?_ ?_ hfold
      · intro s H C cl fp
        exact pg_gT (N := N) (sc' := scope) (h.blk scope s H C cl fp).calm (by rw [(h.blk scope s H C cl fp).hN]; exact h.nd) (fun i x => blk_tg h scope s H C cl fp i x) k4
      · intro s H C cl fp
        exact ihc.c _ (h.blk scope s H C cl fp) k6
      · intro s H C cl fp
        exact to_rep (ihe.e _ (h.blk scope s H C cl fp) k7) n7
    exact .plain rfl pe (fun e h k => by
      have p := pe e h k
      have hp : plainT e = true := by cases e <;> first | rfl | (simp [okE] at k; done)
      refine pt_eq (t_truth h.kk hp p) fun ρ M => ?_
      simp only [evT, ev, truR_bind]
      rfl)
  | nil => exact {
      e := fun e h k => by simp [okE] at k
      t := fun e h k => t_fail
      l := fun xs h k => by
        cases xs with
        | nil => exact a_nil
        | cons x xs => simp [okL] at k
      c := fun xs h k => by
        cases xs with
        | nil => exact ⟨fun pins s σ H Q I q => pts_nil.run pins s σ H Q I (GT.ok q)⟩
        | cons x xs => simp [okC] at k
      o := fun x h k => by
        cases x with
        | none => exact o_none
        | some x => simp [okO] at k
      and := fun xs p h kn k => by
        cases xs with
        | nil => cases kn
        | cons x xs => simp [okL] at k
      or := fun xs p h kn k => by
        cases xs with
        | nil => cases kn
        | cons x xs => simp [okL] at k
      andT := fun xs p h kn k => by
        cases xs with
        | nil => cases kn
        | cons x xs => simp [okL] at k
      orT := fun xs p h kn k => by
        cases xs with
        | nil => cases kn
        | cons x xs => simp [okL] at k
      i := fun e tg h k _ => by simp [okI] at k }
  | cons e r ihe ihr => exact {
      e := fun e h k => by simp [okE] at k
      t := fun e h k => t_fail
      l := fun xs h k => by
        cases xs with
        | nil => simp [okL] at k
        | cons x xs =>
          simp only [okL, Bool.and_eq_true] at k
          exact a_cons (okE_nst k.2.1) (to_rep (ihe.e _ h k.2.1) k.1) (ihr.l _ h k.2.2)
      c := fun xs h k => by
        rcases xs with _ | ⟨x, _ | ⟨x2, xs⟩⟩ <;> try (simp [okC] at k; done)
        simp only [okC, Bool.and_eq_true] at k
        have e1 := isNil_of k.1
        subst e1
        exact pts_one (ihe.t _ h k.2)
      o := fun x h k => by
        cases x with
        | none => simp [okO] at k
        | some x =>
          simp only [okO, Bool.and_eq_true] at k
          have e1 := isNil_of k.1
          subst e1
          exact o_some (to_rep (ihe.e _ h k.2.2) k.2.1)
      and := fun xs p h kn k => by
        cases xs with
        | nil => cases kn
        | cons x xs =>
          simp only [okL, Bool.and_eq_true] at k
          have pe := to_rep (ihe.e _ h k.2.1) k.1
          cases xs with
          | nil =>
            cases r <;> try (simp [okL] at k; done)
            exact pe_one pe
          | cons y ys =>
            have pr := ihr.and (y :: ys) p h rfl k.2.2
            cases r <;> try (simp [okL] at k; done)
            exact v_and h.kk pe pr
      or := fun xs p h kn k => by
        cases xs with
        | nil => cases kn
        | cons x xs =>
          simp only [okL, Bool.and_eq_true] at k
          have pe := to_rep (ihe.e _ h k.2.1) k.1
          cases xs with
          | nil =>
            cases r <;> try (simp [okL] at k; done)
            exact pe_one pe
          | cons y ys =>
            have pr := ihr.or (y :: ys) p h rfl k.2.2
            cases r <;> try (simp [okL] at k; done)
            exact v_or h.kk pe pr
      andT := fun xs p h kn k => by
        cases xs with
        | nil => cases kn
        | cons x xs =>
          simp only [okL, Bool.and_eq_true] at k
          have pe := ihe.t _ h k.2.1
          cases xs with
          | nil =>
            cases r <;> try (simp [okL] at k; done)
            exact w_and1 pe
          | cons y ys => exact w_and pe (ihr.andT (y :: ys) p h rfl k.2.2)
      orT := fun xs p h kn k => by
        cases xs with
        | nil => cases kn
        | cons x xs =>
          simp only [okL, Bool.and_eq_true] at k
          have pe := ihe.t _ h k.2.1
          cases xs with
          | nil =>
            cases r <;> try (simp [okL] at k; done)
            exact w_or1 pe
          | cons y ys => exact w_or pe (ihr.orT (y :: ys) p h rfl k.2.2)
      i := fun e tg h k _ => by simp [okI] at k }
  | itSeq a iha => exact {
      e := fun e h k => by simp [okE] at k
      t := fun e h k => t_fail
      l := fun xs h k => by simp [okL] at k
      c := fun xs h k => by simp [okC] at k
      o := fun xs h k => by simp [okO] at k
      and := fun xs p h kn k => by simp [okL] at k
      or := fun xs p h kn k => by simp [okL] at k
      andT := fun xs p h kn k => by simp [okL] at k
      orT := fun xs p h kn k => by simp [okL] at k
      i := fun e tg h k _ => by
        simp only [okI, Bool.and_eq_true] at k
        exact i_seq h.kk (to_rep (iha.e _ h k.2) k.1) }
  | itOwn j => exact {
      e := fun e h k => by simp [okE] at k
      t := fun e h k => t_fail
      l := fun xs h k => by simp [okL] at k
      c := fun xs h k => by simp [okC] at k
      o := fun xs h k => by simp [okO] at k
      and := fun xs p h kn k => by simp [okL] at k
      or := fun xs p h kn k => by simp [okL] at k
      andT := fun xs p h kn k => by simp [okL] at k
      orT := fun xs p h kn k => by simp [okL] at k
      i := fun e tg h k _ => by simp [okI] at k }
  | itRange1 a iha => exact {
      e := fun e h k => by simp [okE] at k
      t := fun e h k => t_fail
      l := fun xs h k => by simp [okL] at k
      c := fun xs h k => by simp [okC] at k
      o := fun xs h k => by simp [okO] at k
      and := fun xs p h kn k => by simp [okL] at k
      or := fun xs p h kn k => by simp [okL] at k
      andT := fun xs p h kn k => by simp [okL] at k
      orT := fun xs p h kn k => by simp [okL] at k
      i := fun e tg h k ht => by
        cases e <;> try (simp [okI] at k; done)
        rename_i fe xs kw p
        cases fe <;> try (simp [okI] at k; done)
        cases kw <;> try (simp [okI] at k; done)
        rcases xs with _ | ⟨x, _ | ⟨x2, xs⟩⟩ <;> try (simp [okI] at k; done)
        simp only [okI, Bool.and_eq_true] at k
        exact i_range1 h k.1 (okE_nst k.2.2) (to_rep (iha.e _ h k.2.2) k.2.1) }
  | itRange a b iha ihb => exact {
      e := fun e h k => by simp [okE] at k
      t := fun e h k => t_fail
      l := fun xs h k => by simp [okL] at k
      c := fun xs h k => by simp [okC] at k
      o := fun xs h k => by simp [okO] at k
      and := fun xs p h kn k => by simp [okL] at k
      or := fun xs p h kn k => by simp [okL] at k
      andT := fun xs p h kn k => by simp [okL] at k
      orT := fun xs p h kn k => by simp [okL] at k
      i := fun e tg h k ht => by
        cases e <;> try (simp [okI] at k; done)
        rename_i fe xs kw p
        cases fe <;> try (simp [okI] at k; done)
        cases kw <;> try (simp [okI] at k; done)
        rcases xs with _ | ⟨x, _ | ⟨x2, _ | ⟨x3, xs⟩⟩⟩ <;> try (simp [okI] at k; done)
        simp only [okI, Bool.and_eq_true] at k
        obtain ⟨k1, ⟨n1, k2⟩, n2, k3⟩ := k
        exact i_range2 h k1 (okE_nst k2) (okE_nst k3) (to_rep (iha.e _ h k2) n1) (to_rep (ihb.e _ h k3) n2) }
  | itEnum a iha => exact {
      e := fun e h k => by simp [okE] at k
      t := fun e h k => t_fail
      l := fun xs h k => by simp [okL] at k
      c := fun xs h k => by simp [okC] at k
      o := fun xs h k => by simp [okO] at k
      and := fun xs p h kn k => by simp [okL] at k
      or := fun xs p h kn k => by simp [okL] at k
      andT := fun xs p h kn k => by simp [okL] at k
      orT := fun xs p h kn k => by simp [okL] at k
      i := fun e tg h k ht => by
        cases e <;> try (simp [okI] at k; done)
        rename_i fe xs kw p
        cases fe <;> try (simp [okI] at k; done)
        cases kw <;> try (simp [okI] at k; done)
        rcases xs with _ | ⟨x, _ | ⟨x2, xs⟩⟩ <;> try (simp [okI] at k; done)
        simp only [okI, Bool.and_eq_true] at k
        obtain ⟨k0, k1, n, k2⟩ := k
        obtain ⟨elts, kk, tp, rfl⟩ := ht k0
        subst k0
        exact i_enum h k1 (okE_nst k2) (to_rep (iha.e _ h k2) n) }
  | itZip a b iha ihb => exact {
      e := fun e h k => by simp [okE] at k
      t := fun e h k => t_fail
      l := fun xs h k => by simp [okL] at k
      c := fun xs h k => by simp [okC] at k
      o := fun xs h k => by simp [okO] at k
      and := fun xs p h kn k => by simp [okL] at k
      or := fun xs p h kn k => by simp [okL] at k
      andT := fun xs p h kn k => by simp [okL] at k
      orT := fun xs p h kn k => by simp [okL] at k
      i := fun e tg h k ht => by
        cases e <;> try (simp [okI] at k; done)
        rename_i fe xs kw p
        cases fe <;> try (simp [okI] at k; done)
        cases kw <;> try (simp [okI] at k; done)
        rcases xs with _ | ⟨x, _ | ⟨x2, _ | ⟨x3, xs⟩⟩⟩ <;> try (simp [okI] at k; done)
        simp only [okI, Bool.and_eq_true] at k
        obtain ⟨k0, k1, ⟨n1, k2⟩, n2, k3⟩ := k
        obtain ⟨elts, kk, tp, rfl⟩ := ht k0
        subst k0
        exact i_zip h k1 (okE_nst k2) (okE_nst k3) (to_rep (iha.e _ h k2) n1) (to_rep (ihb.e _ h k3) n2) }
end
end Pv

set_option Elab.async false
set_option linter.all false
set_option maxRecDepth 100000
set_option maxHeartbeats 8000000
namespace Pv
open PySem L2

/-! ### behind a statement -/
def AftS (g : Gx) (own : Bool) (w : Wd) (D : Ends) : Out → Prop
  | .nx ρ' M' => ∀ σ' w', Wle w w' → Sr g.w0 ρ' M' w' σ' → D.nx σ' w'.H
  | .ct ρ' M' => ∀ σ' w', Wle w w' → Sr g.w0 ρ' M' w' σ' → D.ct σ' w'.H
  | .ret d M' => ∀ v w', Ext g.w0 w' → Wf w' → Sto w' M' → resRel own g.w0 w' v d → D.rt v w'.H
  | .exc c ρ' M' => ∀ σ' w', Wle w w' → Sr g.w0 ρ' M' w' σ' → g.W (g.cls c) none σ' w'.H
  | .fail => False
def GS (g : Gx) (own : Bool) (f : Rho → Store → Out) : TS := fun D σ H => ∃ ρ M w, w.H = H ∧ Sr g.w0 ρ M w σ ∧ AftS g own w D (f ρ M)
theorem PS.imp {X : Cx} {e : Stmt} {t t' : TS} (h : PS X e t) (k : ∀ D σ H, t' D σ H → t D σ H) : PS X e t' := ⟨fun pins s σ H D I q => h.run pins s σ H D I (k D σ H q)⟩
theorem PSs.imp {X : Cx} {e : List Stmt} {t t' : TS} (h : PSs X e t) (k : ∀ D σ H, t' D σ H → t D σ H) : PSs X e t' := ⟨fun pins s σ H D I q => h.run pins s σ H D I (k D σ H q)⟩
section
variable {g : Gx} {own : Bool}
theorem AftS.later {w w1 : Wd} {D : Ends} {r : Out} (h : AftS g own w D r) (e : Wle w w1) : AftS g own w1 D r := by
  cases r with
  | nx ρ M => exact fun σ' w' l s => h σ' w' (e.trans l) s
  | ct ρ M => exact fun σ' w' l s => h σ' w' (e.trans l) s
  | ret d M => exact h
  | exc c ρ M => exact fun σ' w' l s => h σ' w' (e.trans l) s
  | fail => exact h
/-- an expression within a statement -/
theorem AftS.ofR {α β : Type} {rel : Wd → Wd → β → α → Prop} {w : Wd} {ρ : Rho} {M : Store} {σ : St} {D : Ends} {r : Res α} {k : α → Store → Out} (s : Sr g.w0 ρ M w σ) (h : AftS g own w D (ofR ρ r k)) :
    Aft g rel w ρ σ (fun v H1 => ∃ d M1 w1, w1.H = H1 ∧ Ext w w1 ∧ Sr g.w0 ρ M1 w1 σ ∧ rel w w1 v d ∧ AftS g own w1 D (k d M1)) r := by
  cases r with
  | ok d M' => exact fun v w' e s' r => ⟨d, M', w', rfl, e, s', r, AftS.later h (e.wle s.wf)⟩
  | exc c M' => exact fun w' e s' => h σ w' (e.wle s.wf) s'
  | fail => exact h
theorem GS.one {ka : RK} {fa : Rho → Store → Res D} {k : Rho → D → Store → Out} {σ : St} {H : Hp} {D' : Ends} {Q' : V → Hp → Prop}
    (fin : ∀ (ρ : Rho) (M : Store) (w w0 : Wd) (v : V) (x : D), Sr g.w0 ρ M w σ → Ext w0 w → Sr g.w0 ρ M w σ → (∀ (i : Nat) (d : D) (p : Addr), ρ[i]? = some (.ow d) → σ[i]? = some (some (.ref p)) → w0.H p ≠ none) → Ext g.w0 w0 → rl g ρ σ ka w0 w v x → AftS g own w D' (k ρ x M) → Q' v w.H)
    (h : GS g own (fun ρ M => ofR ρ (fa ρ M) (k ρ)) D' σ H) : GE g ka fa σ H Q' := by
  obtain ⟨ρ, M, w, e, s, a⟩ := h
  refine ⟨ρ, M, w, e, s, (AftS.ofR s a).mono ?_⟩
  rintro v H1 ⟨d, M1, w1, e1, ex, s1, r, a1⟩
  subst e1
  exact fin ρ M1 w1 w v d s1 ex s1 s.owH s.e0 r a1
end

/-- the context of a def's statements -/
structure Sok (T : Tb) (X : Cx) (g : Gx) (N : List Str) (sc : Scope) : Prop extends Cok T X g N sc where
  po : PassesOwn (model X.prog X.w) X.A X.env X.xe
  fn : ∀ x, X.fn x = true
  kd : X.env.scope.kind = .function
  stk : X.stack = X.env :: X.outer
  frm : X.env.frame = some X.env.locals

/-! ### the checker of statements -/
def ncomp : Expr → Bool
  | .ListComp .. => false
  | .SetComp .. => false
  | .DictComp .. => false
  | _ => true
def ntup : Expr → Bool
  | .Tuple .. => false
  | _ => true
def ntgName : Expr → Bool
  | .Name .. => false
  | _ => true
def ntgTup : Expr → Bool
  | .Tuple .. => false
  | .List .. => false
  | _ => true
theorem ncomp_ok {e : Expr} {t : Option Expr} {l : Nat} {env : PySem.Env} (h : ncomp e = true) : swapsWith e t l env = pure false := by
  cases e <;> first | rfl | cases h
theorem ntup_ok {t e : Expr} {env : PySem.Env} (h : ntup e = true) : swappedStores [t] e env = pure none := by
  cases e <;> first | (cases t <;> rfl) | cases h
theorem swap_tup {e : Expr} {es : List Expr} {k : Nat} {p : Pos} {l : Nat} {env : PySem.Env} : swapsWith e (some (.Tuple es k p)) l env = pure false := by
  cases e <;> rfl
theorem swap_sub {e o i : Expr} {p : Pos} {l : Nat} {env : PySem.Env} : swapsWith e (some (.Subscript o i p)) l env = pure false := by
  cases e <;> rfl
def freshE : E → Bool
  | .lst _ => true
  | .comp .. => true
  | .ff .. => true
  | .dic0 => true
  | .dsp .. => true
  | .lit .. => true
  | .lit2 .. => true
  | .fcall .. => true
  | _ => false
def constE : E → Bool
  | .int _ => true
  | .str _ => true
  | .bl _ => true
  | .non => true
  | _ => false
/-- .. or the empty tuple -/
def constT : E → Bool
  | .tup .nil => true
  | e => constE e
def moveE : E → Bool
  | .move _ => true
  | e => freshE e
/-- names of the def's own, on one line -/
def locLine (sc : Scope) (l : Nat) (t : Expr) : Bool := match t with
  | .Name x p => (sc.names.lookup x == some .local) && (p.line == l)
  | _ => false
def lineOf (ts : List Expr) : Nat := (ts.head?.map (·.pos.line)).getD 0
def swYes (sc : Scope) (ts vs : List Expr) : Bool := ((vs.length == ts.length)) && (ts.all (locLine sc (lineOf ts)) && (!(vs.all (foldedForSure 8)) && !(vs.all (constantsAlone 8))))
def swNo (sc : Scope) (ts vs : List Expr) : Bool := !(ts.length == 2 || ts.length == 3) || (vs.all (foldedForSure 8) || !(ts.all (locLine sc (lineOf ts))))
def noneX : Expr → Bool
  | .Constant .none _ _ => true
  | _ => false
/-- an except clause: one return or store of a constant -/
def okSu (P : List Fn) (gi : List (Str × GV)) (N : List Str) (sc : Scope) (own : Bool) (s : S) (xs : List Stmt) : Bool := match s with
  | .seq a b => (match b with
    | .skip => (match xs with
      | [x] => (match a with
        | .ret e => (match x with
          | .Return (some y) _ => !own && (constT e && okE P gi N sc e y)
          | _ => false)
        | .asg tg tt e => (match x with
          | .Assign ts y _ => (match ts with
            | [.Name z _] => (match tg with
              | [i] => !tt && (tgB N sc i z && (constE e && okE P gi N sc e y))
              | _ => false)
            | _ => false)
          | _ => false)
        | _ => false)
      | _ => false)
    | _ => false)
  | _ => false
section
variable (P : List Fn) (gi : List (Str × GV)) (xn : List Str) (N : List Str) (sc : Scope) (own : Bool)
/-- a store to a target -/
def asgB (tg : List Nat) (tt : Bool) (e : E) (t x : Expr) : Bool := targetB N sc tg tt t && (okE P gi N sc e x && ((!tt || (ntup x || (match t, x with
  | .Tuple us _ _, .Tuple vs _ _ => swNo sc us vs
  | _, _ => false)))))
mutual
def okS : S → Stmt → Bool
  | .asg tg tt e, st => match st with
    | .Assign ts x _ => (match ts with
      | [t] => notBor e && asgB P gi N sc tg tt e t x
      | _ => false)
    | _ => false
  | .own i e, st => match st with
    | .Assign ts x _ => (match ts with
      | [t] => freshE e && asgB P gi N sc [i] false e t x
      | _ => false)
    | _ => false
  | .hnew i e, st => match st with
    | .Assign ts x _ => (match ts with
      | [t] => freshE e && asgB P gi N sc [i] false e t x
      | _ => false)
    | _ => false
  | .seti i k e, st => match st with
    | .Assign ts x _ => (match ts with
      | [t] => (match t with
        | .Subscript o j _ => notBor e && (okE P gi N sc e x && (okE P gi N sc (.peek i) o && (notBor k && okE P gi N sc k j)))
        | _ => false)
      | _ => false)
    | _ => false
  | .app i e, st => match st with
    | .Expr x _ => (match x with
      | .Call f xs kw pos => (match f with
        | .Attribute o m apos => (match kw with
          | [] => (match xs with
            | [y] => decide (m = "append") && (okE P gi N sc (.peek i) o && (notBor e && (okE P gi N sc e y && (apos.endLine == pos.line))))
            | _ => false)
          | _ => false)
        | _ => false)
      | _ => false)
    | _ => false
  | .happ h e, st => match st with
    | .Expr x _ => (match x with
      | .Call f xs kw pos => (match f with
        | .Attribute o m apos => (match kw with
          | [] => (match xs with
            | [y] => decide (m = "append") && (notBor h && (okE P gi N sc h o && (notBor e && (okE P gi N sc e y && (noCall o && (apos.endLine == pos.line))))))
            | _ => false)
          | _ => false)
        | _ => false)
      | _ => false)
    | _ => false
  | .hseti b k e, st => match st with
    | .Assign ts x _ => (match ts with
      | [t] => (match t with
        | .Subscript o j _ => notBor e && (okE P gi N sc e x && ((notBor b && okE P gi N sc b o) && (notBor k && okE P gi N sc k j)))
        | _ => false)
      | _ => false)
    | _ => false
  | .popd i k, st => match st with
    | .Expr x _ => (match x with
      | .Call f xs kw pos => (match f with
        | .Attribute o m apos => (match kw with
          | [] => (match xs with
            | [y, z] => decide (m = "pop") && (okE P gi N sc (.peek i) o && (notBor k && (okE P gi N sc k y && (noneX z && (apos.endLine == pos.line)))))
            | _ => false)
          | _ => false)
        | _ => false)
      | _ => false)
    | _ => false
  | .hpopd b k, st => match st with
    | .Expr x _ => (match x with
      | .Call f xs kw pos => (match f with
        | .Attribute o m apos => (match kw with
          | [] => (match xs with
            | [y, z] => decide (m = "pop") && ((notBor b && okE P gi N sc b o) && (notBor k && (okE P gi N sc k y && (noneX z && (noCall o && (apos.endLine == pos.line))))))
            | _ => false)
          | _ => false)
        | _ => false)
      | _ => false)
    | _ => false
  | .hfld cc b y e, st => match st with
    | .Assign ts x _ => (match ts with
      | [t] => (match t with
        | .Attribute o f _ => decide (f = y) && ((notBor e && okE P gi N sc e x) && (fldB P cc y && (notBor b && okE P gi N sc b o)))
        | _ => false)
      | _ => false)
    | _ => false
  | .hpop1 b k, st => match st with
    | .Expr x _ => (match x with
      | .Call f xs kw pos => (match f with
        | .Attribute o m apos => (match kw with
          | [] => (match xs with
            | [y] => decide (m = "pop") && ((notBor b && okE P gi N sc b o) && ((notBor k && okE P gi N sc k y) && (noCall o && (apos.endLine == pos.line))))
            | _ => false)
          | _ => false)
        | _ => false)
      | _ => false)
    | _ => false
  | .hext b e, st => match st with
    | .Expr x _ => (match x with
      | .Call f xs kw pos => (match f with
        | .Attribute o m apos => (match kw with
          | [] => (match xs with
            | [y] => decide (m = "extend") && ((notBor b && okE P gi N sc b o) && ((notBor e && okE P gi N sc e y) && (noCall o && (apos.endLine == pos.line))))
            | _ => false)
          | _ => false)
        | _ => false)
      | _ => false)
    | _ => false
  | .hupd b e, st => match st with
    | .Expr x _ => (match x with
      | .Call f xs kw pos => (match f with
        | .Attribute o m apos => (match kw with
          | [] => (match xs with
            | [y] => decide (m = "update") && ((notBor b && okE P gi N sc b o) && ((notBor e && okE P gi N sc e y) && (noCall o && (apos.endLine == pos.line))))
            | _ => false)
          | _ => false)
        | _ => false)
      | _ => false)
    | _ => false
  | .par tg l, st => match st with
    | .Assign ts x _ => (match ts with
      | [t] => (match t with
        | .Tuple us _ _ => (match x with
          | .Tuple vs _ _ => okL P gi N sc l vs && (tgsB N sc tg us && (decide (tg.Nodup) && (swYes sc us vs && (decide (us.length = 2) || decide (us.length = 3)))))
          | _ => false)
        | _ => false)
      | _ => false)
    | _ => false
  | .parO i a j b, st => match st with
    | .Assign ts x _ => (match ts with
      | [t] => (match t with
        | .Tuple us _ _ => (match x with
          | .Tuple vs _ _ => (match us with
            | [.Name u1 q1, .Name u2 q2] => (match vs with
              | [v1, v2] => notBor a && (okE P gi N sc a v1 && (freshE b && (okE P gi N sc b v2 && (tgB N sc i u1 && (tgB N sc j u2 && (decide (i ≠ j) && swYes sc [.Name u1 q1, .Name u2 q2] [v1, v2]))))))
              | _ => false)
            | _ => false)
          | _ => false)
        | _ => false)
      | _ => false)
    | _ => false
  | .raise c, st => match st with
    | .Raise x f _ => (match x with
      | some (.Call (.Name y _) [] [] _) => (match f with
        | none => decide (xn[c]? = some y) && glB sc y
        | _ => false)
      | _ => false)
    | _ => false
  | .tryx body c n su, st => match st with
    | .Try xs hs els fin _ => els.isEmpty && (fin.isEmpty && (match hs with
      | [.ExceptHandler t nm ys _] => (match t with
        | some (.Name y _) => (match nm with
          | none => decide (xn[c]? = some y) && (decide (n = xn.length) && (glB sc y && (okB body xs && okSu P gi N sc own su ys)))
          | _ => false)
        | _ => false)
      | _ => false))
    | _ => false
  | .expr e, st => match st with
    | .Expr x _ => notBor e && (okE P gi N sc e x && ncomp x)
    | _ => false
  | .ite c a b, st => match st with
    | .If t xs ys _ => okE P gi N sc c t && (okB a xs && okB b ys)
    | _ => false
  | .for tg tt it body, st => match st with
    | .For t i xs es _ => es.isEmpty && (targetB N sc tg tt t && (okI P gi N sc tt it i && okB body xs))
    | _ => false
  | .while c body, st => match st with
    | .While t xs es _ => es.isEmpty && (okE P gi N sc c t && okB body xs)
    | _ => false
  | .ret e, st => match st with
    | .Return x _ => (match x with
      | some x => !own && (notBor e && okE P gi N sc e x)
      | none => false)
    | _ => false
  | .retF e, st => match st with
    | .Return x _ => (match x with
      | some x => own && (moveE e && okE P gi N sc e x)
      | none => false)
    | _ => false
  | .cont, st => match st with
    | .Continue _ => true
    | _ => false
  | _, _ => false
def okB : S → List Stmt → Bool
  | .skip, xs => xs.isEmpty
  | .seq a b, xs => (match xs with
    | x :: xs => okS a x && okB b xs
    | [] => false)
  | .frzB _ b, xs => okB b xs
  | _, _ => false
end
end
end Pv

set_option Elab.async false
set_option linter.all false
set_option maxRecDepth 100000
set_option maxHeartbeats 8000000
namespace Pv
open PySem L2

/-! ### stores of things of one's own -/
theorem Sr.setOwn {w0 w : Wd} {ρ : Rho} {M : Store} {σ : St} {i : Nat} {p : Addr} {d : D} (s : Sr w0 ρ M w σ) (o : Own w p d) (nF : ¬ w.F p) (nA : p ∉ w.A) (n0 : w0.H p = none) (hi : i < ρ.length)
    (hd : ∀ (j : Nat) (e : D), j ≠ i → ρ[j]? = some (.ow e) → σ[j]? ≠ some (some (.ref p))) : Sr w0 (ρ.set i (.ow d)) M w (σ.set i (some (.ref p))) where
  wf := s.wf
  e0 := s.e0
  sto := s.sto
  len := by simpa using s.len
  sh := fun j e h => by
    by_cases q : i = j
    · subst q
      rw [List.getElem?_set_self hi] at h
      cases h
    · rw [List.getElem?_set_ne q] at h
      obtain ⟨u, a, b⟩ := s.sh j e h
      exact ⟨u, by rw [List.getElem?_set_ne q]; exact a, b⟩
  ow := fun j e h => by
    by_cases q : i = j
    · subst q
      rw [List.getElem?_set_self hi] at h
      cases h
      exact ⟨p, by rw [List.getElem?_set_self (by rw [← s.len]; exact hi)], o, nF, nA, n0⟩
    · rw [List.getElem?_set_ne q] at h
      obtain ⟨u, a, b⟩ := s.ow j e h
      exact ⟨u, by rw [List.getElem?_set_ne q]; exact a, b⟩
  dj := fun j k d e q h1 h2 h3 h4 => by
    have hiσ : i < σ.length := by rw [← s.len]; exact hi
    by_cases qj : i = j
    · subst qj
      by_cases qk : i = k
      · exact qk
      · exfalso
        rw [List.getElem?_set_self hiσ] at h3
        rw [List.getElem?_set_ne qk] at h2 h4
        cases h3
        exact hd k e (Ne.symm qk) h2 h4
    · by_cases qk : i = k
      · subst qk
        exfalso
        rw [List.getElem?_set_self hiσ] at h4
        rw [List.getElem?_set_ne qj] at h1 h3
        cases h4
        exact hd j d (Ne.symm qj) h1 h3
      · rw [List.getElem?_set_ne qj] at h1 h3
        rw [List.getElem?_set_ne qk] at h2 h4
        exact s.dj j k d e q h1 h2 h3 h4
/-- an own thing becomes a handle's -/
theorem Sr.setH {w0 w : Wd} {ρ : Rho} {M : Store} {σ : St} {i : Nat} {p : Addr} {d : D} (s : Sr w0 ρ M w σ) (o : Own w p d) (nF : ¬ w.F p) (nA : p ∉ w.A) (n0 : w0.H p = none) (hi : i < ρ.length)
    (hd : ∀ (j : Nat) (e : D), j ≠ i → ρ[j]? = some (.ow e) → σ[j]? ≠ some (some (.ref p))) :
    Wle w ⟨w.F, w.A ++ [p], w.H, w.K, w.B⟩ ∧ Sr w0 (ρ.set i (.sh (.hnd M.length))) (M ++ [d]) ⟨w.F, w.A ++ [p], w.H, w.K, w.B⟩ (σ.set i (some (.ref p))) := by
  have le : Wle w ⟨w.F, w.A ++ [p], w.H, w.K, w.B⟩ := ⟨fun _ h => ⟨h, rfl⟩, fun n a h => by
    show (w.A ++ [p])[n]? = some a
    rw [List.getElem?_append_left (List.getElem?_eq_some_iff.mp h).1]; exact h, rfl, rfl⟩
  have hlast : (w.A ++ [p])[M.length]? = some p := by
    rw [← s.sto.len, List.getElem?_append_right (Nat.le_refl _)]; simp
  have old : ∀ (j : Nat) (e : D), (ρ.set i (.sh (.hnd M.length)))[j]? = some (.ow e) → j ≠ i ∧ ρ[j]? = some (.ow e) := by
    intro j e h
    by_cases q : i = j
    · subst q
      rw [List.getElem?_set_self hi] at h
      cases h
    · rw [List.getElem?_set_ne q] at h
      exact ⟨Ne.symm q, h⟩
  obtain ⟨ob, ho⟩ := o.some
  refine ⟨le, ⟨⟨fun a h => ?_, ?_, fun a h => ?_⟩, ⟨s.e0.F, ?_, s.e0.H, s.e0.nF, fun a h => ?_, s.e0.kp, s.e0.K, s.e0.B⟩, ⟨?_, fun n a e h1 h2 => ?_⟩, by simpa using s.len, fun j e h => ?_, fun j e h => ?_, fun j k e e' q h1 h2 h3 h4 => ?_⟩⟩
  · obtain ⟨n, u⟩ := s.wf.f a h
    refine ⟨fun z => ?_, u⟩
    rcases List.mem_append.mp z with z | z
    · exact n z
    · rw [List.mem_singleton.mp z] at h; exact nF h
  · show (w.A ++ [p]).Nodup
    rw [List.nodup_append]
    refine ⟨s.wf.nd, by simp, fun a ha b hb e => ?_⟩
    rw [List.mem_singleton.mp hb] at e
    subst e; exact nA ha
  · rcases List.mem_append.mp h with z | z
    · exact s.wf.a a z
    · rw [List.mem_singleton.mp z]; exact ⟨ob, ho⟩
  · obtain ⟨l, e⟩ := s.e0.A
    exact ⟨l ++ [p], by show w.A ++ [p] = _; rw [e, List.append_assoc]⟩
  · rcases List.mem_append.mp h with z | z
    · exact s.e0.nA a z
    · rw [List.mem_singleton.mp z]; exact .inr n0
  · show (w.A ++ [p]).length = (M ++ [d]).length
    rw [List.length_append, List.length_append, s.sto.len]; rfl
  · have h1 : (w.A ++ [p])[n]? = some a := h1
    rcases Nat.lt_trichotomy n M.length with q | q | q
    · rw [List.getElem?_append_left (by rw [s.sto.len]; exact q)] at h1
      rw [List.getElem?_append_left q] at h2
      exact (s.sto.at_ n a e h1 h2).mono le rfl
    · subst q
      rw [hlast] at h1
      rw [List.getElem?_append_right (Nat.le_refl _)] at h2
      simp at h2
      cases h1; subst h2
      exact .of (o.mono le rfl)
    · rw [List.getElem?_eq_none (by simp; omega)] at h2
      cases h2
  · by_cases q : i = j
    · subst q
      rw [List.getElem?_set_self hi] at h
      cases h
      exact ⟨.ref p, by rw [List.getElem?_set_self (by rw [← s.len]; exact hi)], .hnd hlast⟩
    · rw [List.getElem?_set_ne q] at h
      obtain ⟨u, a, b⟩ := s.sh j e h
      exact ⟨u, by rw [List.getElem?_set_ne q]; exact a, b.mono le⟩
  · obtain ⟨q, h⟩ := old j e h
    obtain ⟨u, a, b, c, n, z⟩ := s.ow j e h
    refine ⟨u, by rw [List.getElem?_set_ne (Ne.symm q)]; exact a, b.mono le rfl, c, fun z => ?_, z⟩
    rcases List.mem_append.mp z with z | z
    · exact n z
    · rw [List.mem_singleton.mp z] at a
      exact hd j e q h a
  · obtain ⟨q1, h1⟩ := old j e h1
    obtain ⟨q2, h2⟩ := old k e' h2
    rw [List.getElem?_set_ne (Ne.symm q1)] at h3
    rw [List.getElem?_set_ne (Ne.symm q2)] at h4
    exact s.dj j k e e' q h1 h2 h3 h4
/-- an owned thing is frozen in its slot -/
theorem Sr.frz {w0 w : Wd} {ρ : Rho} {M : Store} {σ : St} {i : Nat} {d : D} (s : Sr w0 ρ M w σ) (h : ρ[i]? = some (.ow d)) : ∃ p, Wle w (w.freeze p) ∧ Sr w0 (ρ.set i (.sh d)) M (w.freeze p) σ := by
  obtain ⟨p, a, b, c, n, z⟩ := s.ow i d h
  obtain ⟨o, ho⟩ := b.some
  have hi : i < ρ.length := (List.getElem?_eq_some_iff.mp h).1
  refine ⟨p, freeze_wle, ⟨freeze_wf s.wf ho n, ⟨fun q hq => .inl (s.e0.F q hq), s.e0.A, s.e0.H, fun q hq => hq.elim (s.e0.nF q) fun e => .inr (e ▸ z), s.e0.nA, s.e0.kp, s.e0.K, s.e0.B⟩, freeze_sto s.sto, by simpa using s.len, fun j e hj => ?_, fun j e hj => ?_, fun j k d e q h1 h2 h3 h4 => ?_⟩⟩
  · by_cases q : i = j
    · subst q
      rw [List.getElem?_set_self hi] at hj
      cases hj
      exact ⟨_, a, Own.rep (show (w.freeze p).F p from Or.inr rfl) (b.mono (w' := w.freeze p) freeze_wle rfl)⟩
    · rw [List.getElem?_set_ne q] at hj
      obtain ⟨u, a, b⟩ := s.sh j e hj
      exact ⟨u, a, b.mono freeze_wle⟩
  · by_cases q : i = j
    · subst q
      rw [List.getElem?_set_self hi] at hj
      cases hj
    · rw [List.getElem?_set_ne q] at hj
      obtain ⟨u, a', b', c', n', z'⟩ := s.ow j e hj
      refine ⟨u, a', b'.mono freeze_wle rfl, fun hf => ?_, n', z'⟩
      rcases hf with hf | hf
      · exact c' hf
      · subst hf
        exact q (s.dj i j d e u h hj a a')
  · by_cases qj : i = j
    · subst qj
      rw [List.getElem?_set_self hi] at h1; cases h1
    · by_cases qk : i = k
      · subst qk
        rw [List.getElem?_set_self hi] at h2; cases h2
      · rw [List.getElem?_set_ne qj] at h1
        rw [List.getElem?_set_ne qk] at h2
        exact s.dj j k d e q h1 h2 h3 h4
/-- an owned thing is written -/
theorem Sr.write {w0 w : Wd} {ρ : Rho} {M : Store} {σ : St} {i : Nat} {p : Addr} {d d' : D} {o : HO} (s : Sr w0 ρ M w σ) (h : ρ[i]? = some (.ow d)) (hp : σ[i]? = some (some (.ref p)))
    (own : Own ⟨w.F, w.A, upd w.H p o, w.K, w.B⟩ p d') : Wle w ⟨w.F, w.A, upd w.H p o, w.K, w.B⟩ ∧ Sr w0 (ρ.set i (.ow d')) M ⟨w.F, w.A, upd w.H p o, w.K, w.B⟩ σ := by
  obtain ⟨q, a, b, c, n, z⟩ := s.ow i d h
  rw [hp] at a; cases a
  have hi : i < ρ.length := (List.getElem?_eq_some_iff.mp h).1
  have ne : ∀ q, w.F q → q ≠ p := fun q hq e => c (e ▸ hq)
  have le : Wle w ⟨w.F, w.A, upd w.H p o, w.K, w.B⟩ := ⟨fun q hq => ⟨hq, upd_ne (ne q hq)⟩, fun _ _ e => e, rfl, rfl⟩
  refine ⟨le, ⟨⟨fun q hq => ?_, s.wf.nd, fun q hq => ?_⟩, ⟨s.e0.F, s.e0.A, fun q u hu hn => ?_, s.e0.nF, s.e0.nA, fun q hq => ?_, s.e0.K, s.e0.B⟩, ⟨s.sto.len, fun hh q dd h1 h2 => ?_⟩, by simpa using s.len, fun j e hj => ?_, fun j e hj => ?_, fun j k d e q h1 h2 h3 h4 => ?_⟩⟩
  · obtain ⟨n1, u, hu⟩ := s.wf.f q hq
    exact ⟨n1, u, by show upd w.H p o q = some u; rw [upd_ne (ne q hq)]; exact hu⟩
  · obtain ⟨u, hu⟩ := s.wf.a q hq
    exact ⟨u, by show upd w.H p o q = some u; rw [upd_ne (show q ≠ p from fun e => n (e ▸ hq))]; exact hu⟩
  · show upd w.H p o q = some u
    rw [upd_ne (ne_of_none hu z)]
    exact s.e0.H q u hu hn
  · show upd w.H p o q ≠ none
    by_cases e : q = p
    · subst e; rw [upd_same]; exact fun z => nomatch z
    · rw [upd_ne e]; exact s.e0.kp q hq
  · exact (s.sto.at_ hh q dd h1 h2).mono le (upd_ne (show q ≠ p from fun e => by subst e; exact n (List.mem_of_getElem? h1)))
  · by_cases q : i = j
    · subst q
      rw [List.getElem?_set_self hi] at hj; cases hj
    · rw [List.getElem?_set_ne q] at hj
      obtain ⟨u, a, b⟩ := s.sh j e hj
      exact ⟨u, a, b.mono le⟩
  · by_cases q : i = j
    · subst q
      rw [List.getElem?_set_self hi] at hj; cases hj
      exact ⟨p, hp, own, c, n, z⟩
    · rw [List.getElem?_set_ne q] at hj
      obtain ⟨u, a', b', c', n', z'⟩ := s.ow j e hj
      refine ⟨u, a', b'.mono le (upd_ne (show u ≠ p from fun e1 => ?_)), c', n', z'⟩
      subst e1
      exact q (s.dj i j d e u h hj hp a')
  · have key : ∀ (j : Nat) (d : D), (ρ.set i (.ow d'))[j]? = some (.ow d) → ∃ d2, ρ[j]? = some (.ow d2) := by
      intro j d hj
      by_cases q : i = j
      · subst q; exact ⟨_, h⟩
      · rw [List.getElem?_set_ne q] at hj; exact ⟨_, hj⟩
    obtain ⟨d1, h1⟩ := key j d h1
    obtain ⟨d2, h2⟩ := key k e h2
    exact s.dj j k d1 d2 q h1 h2 h3 h4
section
variable {T : Tb} {X : Cx} {g : Gx} {N : List Str} {sc : Scope} {pos : Pos} {own : Bool}
theorem S_skip : PSs X [] (GS g own fun ρ M => .nx ρ M) := PSs.imp pss_nil fun D σ H ⟨ρ, M, w, e, s, a⟩ => by
  subst e
  exact a σ w (Wle.refl w) s
theorem S_seq {st : Stmt} {rest : List Stmt} {fa fb : Rho → Store → Out} (ha : PS X st (GS g own fa)) (hb : PSs X rest (GS g own fb)) : PSs X (st :: rest) (GS g own fun ρ M => (fa ρ M).seq fb) := by
  refine PSs.imp (pss_cons ha hb) ?_
  rintro D σ H ⟨ρ, M, w, e, s, a⟩
  refine ⟨ρ, M, w, e, s, ?_⟩
  have a : AftS g own w D ((fa ρ M).seq fb) := a
  cases q : fa ρ M with
  | nx ρ' M' =>
    rw [q] at a
    have a : AftS g own w D (fb ρ' M') := a
    exact fun σ' w' le s' => ⟨ρ', M', w', rfl, s', a.later le⟩
  | ct ρ' M' => rw [q] at a; exact a
  | ret d M' => rw [q] at a; exact a
  | exc c ρ' M' => rw [q] at a; exact a
  | fail => rw [q] at a; exact a
theorem S_frz {rest : List Stmt} {i : Nat} {f : Rho → Store → Out} (h : PSs X rest (GS g own f)) : PSs X rest (GS g own fun ρ M => match ρ[i]? with
    | some (.ow d) => f (ρ.set i (.sh d)) M
    | _ => .fail) := by
  refine PSs.imp h ?_
  rintro D σ H ⟨ρ, M, w, e, s, a⟩
  subst e
  dsimp only at a
  split at a
  · rename_i d hd
    obtain ⟨p, le, s2⟩ := s.frz hd
    exact ⟨_, M, w.freeze p, rfl, s2, a.later le⟩
  · exact a.elim
theorem S_cont : PS X (.Continue pos) (GS g own fun ρ M => .ct ρ M) := PS.imp ps_continue fun D σ H ⟨ρ, M, w, e, s, a⟩ => by
  subst e
  exact a σ w (Wle.refl w) s
theorem S_ret {e : Expr} {fa : Rho → Store → Res D} (he : PE X e (GE g .rep fa)) : PS X (.Return (some e) pos) (GS g false fun ρ M => ofR ρ (fa ρ M) fun d M => .ret d M) := by
  refine PS.imp (ps_ret he) fun D σ H q => ?_
  refine GS.one (k := fun ρ d M => .ret d M) ?_ q
  intro ρ M w w0 v x s ex _ _ _ r a
  exact a v w s.e0 s.wf s.sto r
theorem S_retF {e : Expr} {k : RK} {fa : Rho → Store → Res D} (hk : k = .frs ∨ k = .bor) (he : PE X e (GE g k fa)) : PS X (.Return (some e) pos) (GS g true fun ρ M => ofR ρ (fa ρ M) fun d M => .ret d M) := by
  refine PS.imp (ps_ret he) fun D σ H q => ?_
  refine GS.one (k := fun ρ d M => .ret d M) ?_ q
  intro ρ M w w0 v x s ex _ _ ex0 r a
  refine a v w s.e0 s.wf s.sto ?_
  rcases hk with rfl | rfl
  · obtain ⟨p, rfl, o, nF, nA, n⟩ := r
    exact ⟨p, rfl, o, nF, nA, ex0.none n⟩
  · obtain ⟨i, h1, h2⟩ := r
    obtain ⟨p, e1, o, nF, nA, z⟩ := s.ow i _ h1
    rw [h2] at e1
    cases e1
    exact ⟨p, rfl, o, nF, nA, z⟩
theorem S_expr {e : Expr} {fa : Rho → Store → Res D} {k : RK} (hn : ncomp e = true) (he : PE X e (GE g k fa)) : PS X (.Expr e pos) (GS g own fun ρ M => ofR ρ (fa ρ M) fun _ M => .nx ρ M) := by
  refine PS.imp (ps_expr he (ncomp_ok hn)) fun D σ H q => ?_
  refine GS.one (k := fun ρ _ M => .nx ρ M) ?_ q
  intro ρ M w w0 v x s ex _ _ _ r a
  exact a σ w (Wle.refl w) s
theorem S_ite {c : Expr} {a b : List Stmt} {ft : Rho → Store → Res Bool} {fa fb : Rho → Store → Out} (hc : PT X c (GT g ft)) (ha : PSs X a (GS g own fa)) (hb : PSs X b (GS g own fb)) :
    PS X (.If c a b pos) (GS g own fun ρ M => ofR ρ (ft ρ M) fun t M => match t with | true => fa ρ M | false => fb ρ M) := by
  refine PS.imp (ps_if hc ha hb) ?_
  rintro D σ H ⟨ρ, M, w, e, s, a⟩
  refine ⟨ρ, M, w, e, s, (AftS.ofR s a).mono ?_⟩
  rintro t H1 ⟨d, M1, w1, e1, ex, s1, rfl, a1⟩
  cases t with
  | true => rw [if_pos rfl]; exact ⟨ρ, M1, w1, e1, s1, a1⟩
  | false => rw [if_neg (by decide)]; exact ⟨ρ, M1, w1, e1, s1, a1⟩
/-! loops -/
theorem S_while (po : PassesOwn (model X.prog X.w) X.A X.env X.xe) {c : Expr} {body : List Stmt} {ft : Rho → Store → Res Bool} {fb : Rho → Store → Out} (hc : PT X c (GT g ft)) (hb : PSs X body (GS g own fb)) :
    PS X (.While c body [] pos) (GS g own fun ρ M => whileL ft fb WF ρ M) := by
  refine PS.imp (ps_while po hc hb) ?_
  rintro D σ H ⟨ρ, M, w, e, s, a⟩
  refine ⟨fun m σ H => ∃ ρ M w1, w1.H = H ∧ Wle w w1 ∧ Sr g.w0 ρ M w1 σ ∧ AftS g own w1 D (whileL ft fb m ρ M), ⟨WF, ρ, M, w, e, Wle.refl w, s, a⟩, ?_⟩
  rintro m σ H ⟨ρ, M, w1, e, le, s, a⟩
  cases m with
  | zero => exact a.elim
  | succ m =>
    have a : AftS g own w1 D (ofR ρ (ft ρ M) fun t M => match t with
      | true => (fb ρ M).again (whileL ft fb m)
      | false => .nx ρ M) := a
    refine ⟨ρ, M, w1, e, s, (AftS.ofR s a).mono ?_⟩
    rintro t H1 ⟨d, M1, w2, e1, ex, s1, rfl, a1⟩
    subst e1
    cases t with
    | false => rw [if_neg (by decide)]; exact a1 σ w2 (Wle.refl w2) s1
    | true =>
      rw [if_pos rfl]
      refine ⟨fun σ H => ∃ ρ M w1, w1.H = H ∧ Wle w w1 ∧ Sr g.w0 ρ M w1 σ ∧ AftS g own w1 D (whileL ft fb m ρ M), fun σ' H' h => ⟨m, Nat.lt_succ_self m, h⟩, ρ, M1, w2, rfl, s1, ?_⟩
      have le2 : Wle w w2 := le.trans (ex.wle s.wf)
      have a1 : AftS g own w2 D ((fb ρ M1).again (whileL ft fb m)) := a1
      cases q : fb ρ M1 with
      | nx ρ' M' =>
        rw [q] at a1
        exact fun σ' w' l s' => ⟨ρ', M', w', rfl, le2.trans l, s', AftS.later (show AftS g own w2 D (whileL ft fb m ρ' M') from a1) l⟩
      | ct ρ' M' =>
        rw [q] at a1
        exact fun σ' w' l s' => ⟨ρ', M', w', rfl, le2.trans l, s', AftS.later (show AftS g own w2 D (whileL ft fb m ρ' M') from a1) l⟩
      | ret d M' => rw [q] at a1; exact a1
      | exc c ρ' M' => rw [q] at a1; exact a1
      | fail => rw [q] at a1; exact a1
theorem S_for (po : PassesOwn (model X.prog X.w) X.A X.env X.xe) (hc : X.calm = true) {t it : Expr} {body : List Stmt} {tg : List Nat} {tt : Bool} {fi : Rho → Store → Res (List D)} {fb : Rho → Store → Out}
    (hi : PI X t it (GI g X.K tt fi)) (hg : PG X t (gT X.K tg tt)) (hb : PSs X body (GS g own fb)) (hs : ∀ x, foldedSetIterable it X.env x = pure x) :
    PS X (.For t it body [] pos) (GS g own fun ρ M => ofR ρ (fi ρ M) fun ds M => forL (fun d ρ M => match bindT tg tt ρ d with
      | some ρ => fb ρ M
      | none => .fail) ds ρ M) := by
  refine PS.imp (ps_for po hc hi hg hb hs) ?_
  rintro D σ H ⟨ρ, M, w, e, s, a⟩
  refine ⟨ρ, M, w, e, s, (AftS.ofR (rel := fun _ w' J ds => Wk X.K tt w' J ds) s a).mono ?_⟩
  rintro J H1 ⟨ds, M1, w1, e1, ex, s1, ⟨hlen, G, Y, W, hG, hY⟩, a1⟩
  refine for_it W (Pv := fun i σ H => ∃ ρ M wi, wi.H = H ∧ Wle w1 wi ∧ Sr g.w0 ρ M wi σ ∧ AftS g own wi D (forL (fun d ρ M => match bindT tg tt ρ d with
      | some ρ => fb ρ M
      | none => .fail) (ds.drop i) ρ M)) ⟨ρ, M1, w1, e1, Wle.refl w1, s1, by simpa using a1⟩ ?_ ?_ ?_
  · rintro i σ H hi ⟨ρ, M, wi, rfl, le, _⟩
    exact hG wi le
  · rintro i x σ H H' hi ⟨ρ, M, wi, rfl, le, si, ai⟩ y
    have hd : ds[i]? = some ds[i] := List.getElem?_eq_getElem hi
    obtain ⟨w3, rfl, ex3, wf3, st3, r3⟩ := hY i wi x H' _ hd le si.wf y
    have s3 : Sr g.w0 ρ M w3 σ := si.ext ex3 wf3 (st3 M si.sto)
    rw [List.drop_eq_getElem_cons hi] at ai
    unfold forL at ai
    cases hb' : bindT tg tt ρ ds[i] with
    | none =>
      rw [hb'] at ai
      exact ai.elim
    | some ρ1 =>
      rw [hb'] at ai
      refine gT_ok s3 r3 hb' fun us s4 => ?_
      refine ⟨ρ1, M, w3, rfl, s4, ?_⟩
      have le3 : Wle w1 w3 := le.trans (ex3.wle si.wf)
      have ai := AftS.later ai (ex3.wle si.wf)
      dsimp only at ai
      cases q : fb ρ1 M with
      | nx ρ' M' =>
        rw [q] at ai
        exact fun σ' w' l s' => ⟨ρ', M', w', rfl, le3.trans l, s', AftS.later (r := forL _ (ds.drop (i + 1)) ρ' M') ai l⟩
      | ct ρ' M' =>
        rw [q] at ai
        exact fun σ' w' l s' => ⟨ρ', M', w', rfl, le3.trans l, s', AftS.later (r := forL _ (ds.drop (i + 1)) ρ' M') ai l⟩
      | ret d M' => rw [q] at ai; exact ai
      | exc c ρ' M' => rw [q] at ai; exact ai
      | fail => rw [q] at ai; exact ai
  · rintro σ H ⟨ρ, M, wi, rfl, le, si, ai⟩
    rw [List.drop_length] at ai
    exact ai σ wi (Wle.refl wi) si
end
end Pv

set_option Elab.async false
set_option linter.all false
set_option maxRecDepth 100000
set_option maxHeartbeats 8000000
namespace Pv
open PySem L2

/-! ### raise, try -/
section
variable {X : Cx} {C : Addr} {bmB : List Value} {B newId initId : String}
theorem pmk_own0 {x : Str} {p pos : Pos} (F : ExcBaseFacts B newId initId bmB) (q : PySem.W.excIn X.K C bmB newId = true) (gC : X.mg x = some (.ref C)) (kC : PySem.W.keepIn X.K (.ref C) = true) (r : Raises X (.ref C)) (hg : Gl X x)
    (hdb : (x == ("__debug__" : Str)) = false) : PMk X (.Call (.Name x p) [] [] pos) (fun _ H Q => Q (.ref C) none H) := by
  intro pins s σ H Q I h
  refine wpAny_Call_Name_kw (ld_glob I hg gC ?_ hdb)
  refine PySem.W.callWith_K0 I.kIn kC ?_
  obtain ⟨bm, N, nm, qn, bs, hdct, sn, sub, ab, col, dd, k0, k1, k2, k3, k5, mN, hC, hN, hni, T⟩ := exc_obj I.kIn q
  refine wpAny_call_exc_subT F T hC hN hni (fun z e hm => mk_of I hm r h (I.hok.gone hm.new)) ?_
  exact Nat.zero_le _
end
section
variable {T : Tb} {X : Cx} {g : Gx} {N : List Str} {sc : Scope} {pos : Pos} {own : Bool}
theorem S_raise (h : Sok T X g N sc) {c : Nat} {y : Str} {py p2 : Pos} (hx : T.xn[c]? = some y) (hg : glB sc y = true) :
    PS X (.Raise (some (.Call (.Name y py) [] [] p2)) none pos) (GS g own fun ρ M => .exc c ρ M) := by
  obtain ⟨C, e1, e2, e3, e4, e5, e6⟩ := h.p.xc c y hx
  obtain ⟨g1, g2⟩ := glB_of hg
  refine PS.imp (ps_raise h.calm h.tk (pmk_own0 PySem.F.excBase_ValueError e3 e2 e4 (raises_own e5 e6) (h.gl g1) g2)) ?_
  rintro D σ H ⟨ρ, M, w, rfl, s, a⟩
  have a1 := a σ w (Wle.refl w) s
  rw [h.gc, e1] at a1
  exact a1
theorem Sok.tg (h : Sok T X g N sc) (i : Nat) (x : Str) (k : tgB N sc i x = true) : TgOk X i x := by
  obtain ⟨h1, h2⟩ := tgB_of k
  exact ⟨by rw [h.hN]; exact h1, by rw [h.sc]; exact h2, .inl (h.fn x)⟩
theorem asg_swap {t e : Expr} (h1 : ncomp e = true ∨ ntgName t = true) {l : Nat} {env : PySem.Env} : swapsWithSole [t] e l env = pure false := by
  show swapsWith e (some t) l env = pure false
  rcases h1 with h1 | h1
  · exact ncomp_ok h1
  · cases t <;> first | (cases h1; done) | (cases e <;> rfl)
theorem constE_pe {X' : Cx} {g' : Gx} {e : E} {x : Expr} (hc : constE e = true) (k : okE T.P T.gi N sc e x = true) : PE X' x (GE g' .rep (ev T.C e)) := by
  cases e <;> first | (cases hc; done) | skip
  · cases x <;> try (simp [okE] at k; done)
    rename_i c _ _; cases c <;> simp [okE] at k
    subst k; exact s_const pe_int fun _ => .int _
  · cases x <;> try (simp [okE] at k; done)
    rename_i c _ _; cases c <;> simp [okE] at k
    obtain ⟨rfl, k⟩ := k
    exact s_const pe_str fun _ => .str _ k
  · cases x <;> try (simp [okE] at k; done)
    rename_i c _ _; cases c <;> simp [okE] at k
    subst k; exact s_const pe_bl fun _ => .bl _
  · cases x <;> try (simp [okE] at k; done)
    rename_i c _ _; cases c <;> simp [okE] at k
    exact s_const pe_non fun _ => .non
theorem constT_pe {X' : Cx} {g' : Gx} {e : E} {x : Expr} (hc : constT e = true) (k : okE T.P T.gi N sc e x = true) : PE X' x (GE g' .rep (ev T.C e)) := by
  cases e <;> first | exact constE_pe hc k | skip
  rename_i l
  cases l <;> first | (cases hc; done) | skip
  cases x <;> try (simp [okE] at k; done)
  rename_i es _ _
  cases es with
  | nil => exact s_tup a_nil
  | cons _ _ => simp [okE, okL] at k
theorem gName_of2 {i : Nat} {v : V} {σ : St} {H : Hp} {Q : St → Hp → Prop} (q : Q (σ.set i (some v)) H) : gName i v σ H Q := q
/-- an except clause -/
theorem S_su (h : Sok T X g N sc) {su : S} {ys : List Stmt} (k : okSu T.P T.gi N sc own su ys = true) (a : Addr) (pn : List (Addr × Obj)) : PSs (X.suite a pn) ys (GS g own (ex T.C su)) := by
  unfold okSu at k
  split at k
  · rename_i s1 s2
    split at k
    · split at k
      · rename_i x
        split at k
        · rename_i e
          split at k
          · rename_i y p
            simp only [Bool.and_eq_true, Bool.not_eq_true'] at k
            obtain ⟨k1, k2, k3⟩ := k
            subst k1
            exact S_seq (S_ret (constT_pe k2 k3)) S_skip
          · cases k
        · rename_i tg tt e
          split at k
          · rename_i ts y p
            split at k
            · rename_i z pz
              split at k
              · rename_i i
                simp only [Bool.and_eq_true, Bool.not_eq_true'] at k
                obtain ⟨rfl, k1, k2, k3⟩ := k
                refine S_seq (fa := ex T.C (.asg [i] false e)) ?_ S_skip
                have pe : PE (X.suite a pn) y (GE g .rep (ev T.C e)) := constE_pe k2 k3
                obtain ⟨h1, h2, h3⟩ := h.tg i z k1
                have pg : PG (X.suite a pn) (.Name z pz) (gName i) := pg_name (X := X.suite a pn) (by show X.N.Nodup; rw [h.hN]; exact h.nd) h1 h2 h3
                have hy : ncomp y = true ∧ ntup y = true := by
                  cases e <;> first | (cases k2; done) | (cases y <;> first | exact ⟨rfl, rfl⟩ | (simp [okE] at k3))
                refine PS.imp (ps_asg pe pg (asg_swap (.inl hy.1)) (ntup_ok hy.2) rfl) fun D σ H q => ?_
                refine GS.one (k := fun ρ d M => oRho (bindT [i] false ρ d) M) ?_ q
                intro ρ M w w0 v x s ex _ _ _ r af
                have af : AftS g own w D (oRho (setS ρ i x) M) := af
                unfold setS at af
                split at af
                · rename_i hi
                  exact af _ w (Wle.refl w) (s.set r hi)
                · exact af.elim
              · cases k
            · cases k
          · cases k
        · cases k
      · cases k
    · cases k
  · cases k
theorem S_try (h : Sok T X g N sc) {c n : Nat} {y : Str} {py hp : Pos} {xs ys : List Stmt} {body su : S} (hx : T.xn[c]? = some y) (hn : n = T.xn.length) (hg : glB sc y = true) (k : okSu T.P T.gi N sc own su ys = true)
    (hb : ∀ {X' : Cx} {g' : Gx}, Sok T X' g' N sc → PSs X' xs (GS g' own (ex T.C body))) :
    PS X (.Try xs [.ExceptHandler (some (.Name y py)) none ys hp] [] [] pos) (GS g own (ex T.C (.tryx body c n su))) := by
  obtain ⟨C, e1, e2, e3, e4, e5, e6⟩ := h.p.xc c y hx
  obtain ⟨g1, g2⟩ := glB_of hg
  have hys : ∃ b r, ys = b :: r := by
    cases ys with
    | nil =>
      exfalso
      unfold okSu at k
      split at k
      · split at k <;> cases k
      · cases k
    | cons b r => exact ⟨b, r, rfl⟩
  obtain ⟨b, r, rfl⟩ := hys
  refine PS.imp (ps_try_only (tb := fun W => GS { g with W := W } own (ex T.C body)) (ts := fun _ _ _ => GS g own (ex T.C su)) (Wout := g.W) h.stk h.frm (c := .ref C) ⟨h.gl g1, g2, .inl e2⟩ h.tk (fun W pn xe tk po => ?_) (fun a oe cls d pn _ _ => S_su h k a _)) ?_
  · refine hb (X' := X.tr pn xe) (g' := { g with W := W }) ?_
    exact { p := h.p, room := h.room, hN := h.hN, nd := h.nd, sc := h.sc, calm := h.calm, tk := tk, gc := h.gc, kk := h.kk, bb := h.bb, po := po, fn := h.fn, kd := h.kd, stk := h.stk, frm := h.frm }
  · rintro D σ H ⟨ρ, M, w, rfl, s, a⟩
    refine ⟨ρ, M, w, rfl, s, ?_⟩
    have a : AftS g own w D (match ex T.C body ρ M with
      | .exc c' ρ M => if c = c' then ex T.C su ρ M else if c' < n then .exc c' ρ M else .fail
      | o => o) := by
      simp only [ex] at a
      exact a
    cases q : ex T.C body ρ M with
    | nx ρ' M' => rw [q] at a; exact a
    | ct ρ' M' => rw [q] at a; exact a
    | ret d M' => rw [q] at a; exact a
    | fail => rw [q] at a; exact a
    | exc c' ρ' M' =>
      rw [q] at a
      dsimp only at a
      intro σ' w' le s'
      show wOnly X.K (.ref C) (fun _ _ _ => GS g own (ex T.C su)) g.W D (g.cls c') none σ' w'.H
      by_cases e : c = c'
      · subst e
        rw [if_pos rfl] at a
        refine ⟨true, ?_, fun _ ad hd => ⟨ρ', M', w', rfl, s', AftS.later a le⟩, fun z => by cases z⟩
        rw [h.gc, ← e1]
        have := h.p.xm c c y y hx hx
        simpa using this
      · rw [if_neg e] at a
        split at a
        · rename_i hlt
          have hy' : T.xn[c']? = some (T.xn[c']'(by omega)) := List.getElem?_eq_getElem (by omega)
          refine ⟨false, ?_, fun z => (by cases z), fun _ => a σ' w' le s'⟩
          rw [h.gc, ← e1]
          have := h.p.xm c' c _ y hy' hx
          rw [this]
          have ne : ¬ c' = c := fun z => e z.symm
          rw [decide_eq_false ne]
        · exact a.elim
end
end Pv

set_option Elab.async false
set_option linter.all false
set_option maxRecDepth 100000
set_option maxHeartbeats 400000
namespace Pv
open PySem L2

section
variable {T : Tb} {X : Cx} {g : Gx} {N : List Str} {sc : Scope} {pos : Pos} {own : Bool}
/-! ### a, b = x, y -/
theorem any_star {vs : List Expr} {f : Expr → Bool} (h : vs.all nst = true) (hf : ∀ v, nst v = true → f v = false) : ¬ vs.any f = true := by
  intro hh
  obtain ⟨v, hv, e⟩ := List.any_eq_true.mp hh
  rw [hf v (List.all_eq_true.mp h v hv)] at e
  cases e
theorem blk_fun (h : Sok T X g N sc) : X.env.blockKind = .function := by unfold Env.blockKind; rw [h.kd]; rfl
theorem sw_two (h : Sok T X g N sc) {x y : Str} {px py : Pos} {v1 v2 : Expr} {ka kb : Nat} {pa pb : Pos} (kx : (X.env.kindOf x == some .local) = true) (ky : (X.env.kindOf y == some .local) = true) (hl : (py.line == px.line) = true) (hst : [v1, v2].all nst = true) (hxy : x ≠ y)
    (hf : [v1, v2].all (foldedForSure 8) = false) (hc : [v1, v2].all (constantsAlone 8) = false) : swappedStores [.Tuple [.Name x px, .Name y py] ka pa] (.Tuple [v1, v2] kb pb) X.env = pure (some [x, y]) := by
  unfold swappedStores
  dsimp only
  refine (if_neg ?_).trans ?_
  · rw [blk_fun h]; simp
  refine (if_neg (any_star hst fun v hv => ?_)).trans ?_
  · cases v <;> first | (cases hv; done) | rfl
  have e0 : (px.line == px.line) = true := by simp
  have e1 : (y == x) = false := by simpa using hxy.symm
  simp only [List.filterMap_cons, List.filterMap_nil, List.head?_cons, Option.map_some, Option.getD_some, Expr.pos, kx, ky, e0, hl, Bool.and_self, if_true]
  refine (if_neg ?_).trans ?_
  · simp [List.eraseDups_cons, e1]
  rw [hf, hc]
  rfl
theorem sw_three (h : Sok T X g N sc) {x y z : Str} {px py pz : Pos} {v1 v2 v3 : Expr} {ka kb : Nat} {pa pb : Pos} (kx : (X.env.kindOf x == some .local) = true) (ky : (X.env.kindOf y == some .local) = true) (kz : (X.env.kindOf z == some .local) = true) (hl : (py.line == px.line) = true) (hl2 : (pz.line == px.line) = true) (hst : [v1, v2, v3].all nst = true) (hxy : x ≠ y) (hxz : x ≠ z) (hyz : y ≠ z)
    (hf : [v1, v2, v3].all (foldedForSure 8) = false) (hc : [v1, v2, v3].all (constantsAlone 8) = false) : swappedStores [.Tuple [.Name x px, .Name y py, .Name z pz] ka pa] (.Tuple [v1, v2, v3] kb pb) X.env = pure (some [x, y, z]) := by
  unfold swappedStores
  dsimp only
  refine (if_neg ?_).trans ?_
  · rw [blk_fun h]; simp
  refine (if_neg (any_star hst fun v hv => ?_)).trans ?_
  · cases v <;> first | (cases hv; done) | rfl
  have e0 : (px.line == px.line) = true := by simp
  have e1 : (y == x) = false := by simpa using hxy.symm
  have e2 : (z == x) = false := by simpa using hxz.symm
  have e3 : (z == y) = false := by simpa using hyz.symm
  simp only [List.filterMap_cons, List.filterMap_nil, List.head?_cons, Option.map_some, Option.getD_some, Expr.pos, kx, ky, kz, e0, hl, hl2, Bool.and_self, if_true]
  refine (if_neg ?_).trans ?_
  · simp [List.eraseDups_cons, e1, e2, e3]
  rw [hf, hc]
  rfl
theorem loc_line {sc : Scope} {l : Nat} {t : Expr} (k : locLine sc l t = true) : ∃ x p, t = .Name x p ∧ sc.names.lookup x = some .local ∧ (p.line == l) = true := by
  cases t <;> simp only [locLine, Bool.and_eq_true, beq_iff_eq, Bool.false_eq_true] at k
  exact ⟨_, _, rfl, k.1, by simpa using k.2⟩
theorem kind_of (h : Sok T X g N sc) {x : Str} (e : sc.names.lookup x = some .local) : (X.env.kindOf x == some .local) = true := by
  unfold Env.kindOf
  rw [h.sc, e]; rfl
theorem par_fin {l : E} {tg : List Nat} (D : Ends) (σ : St) (H : Hp) (q : GS g own (fun ρ M => ofR ρ (evs T.C l ρ M) fun ds M => oRho (setSs ρ tg ds) M) D σ H) : GA g (evs T.C l) σ H fun ws H1 => ws.length = tg.length ∧ D.nx (setVs σ tg ws) H1 := by
  obtain ⟨ρ, M, w, e, s, a⟩ := q
  refine ⟨ρ, M, w, e, s, (AftS.ofR (rel := fun _ w' vs ds => Reps w' vs ds) s a).mono ?_⟩
  rintro ws H1 ⟨ds, M1, w1, rfl, ex, s1, r1, a1⟩
  cases q : setSs ρ tg ds with
  | none => rw [q] at a1; exact a1.elim
  | some ρ1 =>
    rw [q] at a1
    obtain ⟨h1, h2⟩ := s1.setSs r1 q
    exact ⟨h2, a1 _ w1 (Wle.refl w1) h1⟩
theorem ne_names {N : List Str} (hN : N.Nodup) {i j : Nat} {x y : Str} (hx : N[i]? = some x) (hy : N[j]? = some y) (hij : i ≠ j) : x ≠ y := by
  intro e
  subst e
  obtain ⟨a1, b1⟩ := List.getElem?_eq_some_iff.mp hx
  obtain ⟨a2, b2⟩ := List.getElem?_eq_some_iff.mp hy
  exact hij ((List.getElem_inj hN).mp (b1.trans b2.symm))
theorem S_par2 (h : Sok T X g N sc) {i j : Nat} {l : E} {x y : Str} {px py : Pos} {v1 v2 : Expr} {ka kb : Nat} {pa pb : Pos} (k1 : okL T.P T.gi N sc l [v1, v2] = true) (kx : tgB N sc i x = true) (ky : tgB N sc j y = true) (hij : i ≠ j) (lx : sc.names.lookup x = some .local) (ly : sc.names.lookup y = some .local)
    (hl : (py.line == px.line) = true) (hf : [v1, v2].all (foldedForSure 8) = false) (hc : [v1, v2].all (constantsAlone 8) = false) :
    PS X (.Assign [.Tuple [.Name x px, .Name y py] ka pa] (.Tuple [v1, v2] kb pb) pos) (GS g own fun ρ M => ofR ρ (evs T.C l ρ M) fun ds M => oRho (setSs ρ [i, j] ds) M) := by
  have hPA := (snd (T := T) (N := N) l).l [v1, v2] h.toCok k1
  have hst := okL_nst l k1
  have hx := (tgB_of kx).1
  have hy := (tgB_of ky).1
  have hxy := ne_names h.nd hx hy hij
  have sw : swappedStores [.Tuple [.Name x px, .Name y py] ka pa] (.Tuple [v1, v2] kb pb) X.env = pure (some [x, y]) := by
    exact sw_two h (kind_of h lx) (kind_of h ly) hl hst hxy hf hc
  refine PS.imp (ps_par (i := i) (j := j) h.calm (by rw [h.hN]; exact h.nd) (by rw [h.hN]; exact hx) (by rw [h.hN]; exact hy) hij (by rw [h.sc]; exact lx) (by rw [h.sc]; exact ly) hPA sw rfl) fun D σ H q => ?_
  obtain ⟨ρ, M, w, e, s, a⟩ := par_fin D σ H q
  refine ⟨ρ, M, w, e, s, a.mono ?_⟩
  rintro ws H1 ⟨hlen, q1⟩
  match ws, hlen, q1 with
  | [a, b], _, q1 => exact ⟨a, b, rfl, q1⟩
theorem S_par3 (h : Sok T X g N sc) {i j m : Nat} {l : E} {x y z : Str} {px py pz : Pos} {v1 v2 v3 : Expr} {ka kb : Nat} {pa pb : Pos} (k1 : okL T.P T.gi N sc l [v1, v2, v3] = true) (kx : tgB N sc i x = true) (ky : tgB N sc j y = true) (kz : tgB N sc m z = true) (hij : i ≠ j) (him : i ≠ m) (hjm : j ≠ m)
    (lx : sc.names.lookup x = some .local) (ly : sc.names.lookup y = some .local) (lz : sc.names.lookup z = some .local)
    (hl : (py.line == px.line) = true) (hl2 : (pz.line == px.line) = true) (hf : [v1, v2, v3].all (foldedForSure 8) = false) (hc : [v1, v2, v3].all (constantsAlone 8) = false) :
    PS X (.Assign [.Tuple [.Name x px, .Name y py, .Name z pz] ka pa] (.Tuple [v1, v2, v3] kb pb) pos) (GS g own fun ρ M => ofR ρ (evs T.C l ρ M) fun ds M => oRho (setSs ρ [i, j, m] ds) M) := by
  have hPA := (snd (T := T) (N := N) l).l [v1, v2, v3] h.toCok k1
  have hst := okL_nst l k1
  have hx := (tgB_of kx).1
  have hy := (tgB_of ky).1
  have hz := (tgB_of kz).1
  have hxy := ne_names h.nd hx hy hij
  have hxz := ne_names h.nd hx hz him
  have hyz := ne_names h.nd hy hz hjm
  have sw : swappedStores [.Tuple [.Name x px, .Name y py, .Name z pz] ka pa] (.Tuple [v1, v2, v3] kb pb) X.env = pure (some [x, y, z]) := by
    exact sw_three h (kind_of h lx) (kind_of h ly) (kind_of h lz) hl hl2 hst hxy hxz hyz hf hc
  refine PS.imp (ps_par3 (i := i) (j := j) (l := m) h.calm (by rw [h.hN]; exact h.nd) (by rw [h.hN]; exact hx) (by rw [h.hN]; exact hy) (by rw [h.hN]; exact hz) hij him hjm (by rw [h.sc]; exact lx) (by rw [h.sc]; exact ly) (by rw [h.sc]; exact lz) hPA sw rfl) fun D σ H q => ?_
  obtain ⟨ρ, M, w, e, s, a⟩ := par_fin D σ H q
  refine ⟨ρ, M, w, e, s, a.mono ?_⟩
  rintro ws H1 ⟨hlen, q1⟩
  match ws, hlen, q1 with
  | [a, b, c], _, q1 => exact ⟨a, b, c, rfl, q1⟩
theorem fm_len {α β : Type} {f : α → Option β} : ∀ {l : List α}, (l.filterMap f).length = l.length → ∀ t ∈ l, (f t).isSome = true
  | [], _, t, ht => absurd ht List.not_mem_nil
  | a :: l, e, t, ht => by
    rw [List.filterMap_cons] at e
    have hle := List.length_filterMap_le f l
    cases hf : f a with
    | none =>
      rw [hf] at e
      simp only [List.length_cons] at e
      omega
    | some b =>
      rw [hf] at e
      simp only [List.length_cons, Nat.add_right_cancel_iff] at e
      rcases List.mem_cons.mp ht with z | z
      · rw [z, hf]; rfl
      · exact fm_len e t z
theorem sw_no (h : Sok T X g N sc) {us vs : List Expr} {ka kb : Nat} {pa pb : Pos} (k : swNo sc us vs = true) : swappedStores [.Tuple us ka pa] (.Tuple vs kb pb) X.env = pure none := by
  unfold swappedStores
  dsimp only
  split
  · rfl
  · rename_i c1
    split
    · rfl
    · split
      · rfl
      · rename_i c3
        split
        · rfl
        · rename_i c4
          exfalso
          unfold swNo at k
          simp only [Bool.or_eq_true, Bool.not_eq_true', Bool.or_eq_false_iff, beq_eq_false_iff_ne, bne_iff_ne, ne_eq, not_or, Decidable.not_not] at c1 c3 k
          rcases k with k | k | k
          · rcases Bool.eq_false_or_eq_true (us.length == 2 || us.length == 3) with q | q
            · simp only [Bool.or_eq_true, beq_iff_eq] at q
              exact q.elim k.1 k.2
            · exact absurd c1.1.1 (by
                simp only [Bool.or_eq_false_iff, beq_eq_false_iff_ne] at q
                simp [q.1, q.2])
          · exact c4 k
          · have all := fm_len c3.1
            have : us.all (locLine sc (lineOf us)) = true := by
              rw [List.all_eq_true]
              intro t ht
              have q := all t ht
              cases t <;> first | (exfalso; simp at q; done) | skip
              rename_i x p
              simp only [locLine, Bool.and_eq_true]
              by_cases hk : (X.env.kindOf x == some .local && p.line == lineOf us) = true
              · simp only [Bool.and_eq_true] at hk
                refine ⟨?_, hk.2⟩
                unfold Env.kindOf at hk
                rw [h.sc] at hk
                exact hk.1
              · exfalso
                have hk2 : (X.env.kindOf x == some .local && p.line == (Option.map (fun x => x.pos.line) us.head?).getD 0) = true → False := hk
                simp only [] at q
                split at q
                · rename_i hq; exact hk2 hq
                · cases q
            rw [this] at k
            cases k
theorem S_par (h : Sok T X g N sc) {tg : List Nat} {l : E} {us vs : List Expr} {ka kb : Nat} {pa pb : Pos} (k1 : okL T.P T.gi N sc l vs = true) (k2 : tgsB N sc tg us = true) (nd : tg.Nodup) (sw : swYes sc us vs = true) (hl : us.length = 2 ∨ us.length = 3) :
    PS X (.Assign [.Tuple us ka pa] (.Tuple vs kb pb) pos) (GS g own fun ρ M => ofR ρ (evs T.C l ρ M) fun ds M => oRho (setSs ρ tg ds) M) := by
  unfold swYes at sw
  simp only [Bool.and_eq_true, Bool.not_eq_true', beq_iff_eq] at sw
  obtain ⟨hvl, hloc, hf, hc⟩ := sw
  rcases hl with hl | hl
  · obtain ⟨u1, u2, rfl⟩ : ∃ u1 u2, us = [u1, u2] := by
      rcases us with _ | ⟨u1, _ | ⟨u2, _ | ⟨u3, us⟩⟩⟩ <;> first | exact ⟨_, _, rfl⟩ | (simp at hl)
    obtain ⟨v1, v2, rfl⟩ : ∃ v1 v2, vs = [v1, v2] := by
      rcases vs with _ | ⟨v1, _ | ⟨v2, _ | ⟨v3, vs⟩⟩⟩ <;> first | exact ⟨_, _, rfl⟩ | (simp at hvl)
    simp only [List.all_cons, List.all_nil, Bool.and_true, Bool.and_eq_true] at hloc
    obtain ⟨x, px, rfl, lx, px'⟩ := loc_line hloc.1
    obtain ⟨y, py, rfl, ly, py'⟩ := loc_line hloc.2
    obtain ⟨i, j, rfl⟩ : ∃ i j, tg = [i, j] := by
      rcases tg with _ | ⟨i, _ | ⟨j, _ | ⟨m, tg⟩⟩⟩ <;> first | exact ⟨_, _, rfl⟩ | (simp [tgsB] at k2)
    simp only [tgsB, Bool.and_eq_true] at k2
    exact S_par2 h k1 k2.1 k2.2.1 (by intro z; subst z; simp at nd) lx ly py' hf hc
  · obtain ⟨u1, u2, u3, rfl⟩ : ∃ u1 u2 u3, us = [u1, u2, u3] := by
      rcases us with _ | ⟨u1, _ | ⟨u2, _ | ⟨u3, _ | ⟨u4, us⟩⟩⟩⟩ <;> first | exact ⟨_, _, _, rfl⟩ | (simp at hl)
    obtain ⟨v1, v2, v3, rfl⟩ : ∃ v1 v2 v3, vs = [v1, v2, v3] := by
      rcases vs with _ | ⟨v1, _ | ⟨v2, _ | ⟨v3, _ | ⟨v4, vs⟩⟩⟩⟩ <;> first | exact ⟨_, _, _, rfl⟩ | (simp at hvl)
    simp only [List.all_cons, List.all_nil, Bool.and_true, Bool.and_eq_true] at hloc
    obtain ⟨x, px, rfl, lx, px'⟩ := loc_line hloc.1
    obtain ⟨y, py, rfl, ly, py'⟩ := loc_line hloc.2.1
    obtain ⟨z, pz, rfl, lz, pz'⟩ := loc_line hloc.2.2
    obtain ⟨i, j, m, rfl⟩ : ∃ i j m, tg = [i, j, m] := by
      rcases tg with _ | ⟨i, _ | ⟨j, _ | ⟨m, _ | ⟨q, tg⟩⟩⟩⟩ <;> first | exact ⟨_, _, _, rfl⟩ | (simp [tgsB] at k2)
    simp only [tgsB, Bool.and_eq_true] at k2
    simp only [List.nodup_cons, List.mem_cons, List.not_mem_nil, or_false, not_or] at nd
    exact S_par3 h k1 k2.1 k2.2.1 k2.2.2.1 nd.1.1 nd.1.2 nd.2.1 lx ly lz py' pz' hf hc
theorem S_parO (h : Sok T X g N sc) {i j : Nat} {a b : E} {x y : Str} {px py : Pos} {v1 v2 : Expr} {ka kb : Nat} {pa pb : Pos} (n1 : notBor a = true) (k1 : okE T.P T.gi N sc a v1 = true) (fb : freshE b = true) (k2 : okE T.P T.gi N sc b v2 = true)
    (kx : tgB N sc i x = true) (ky : tgB N sc j y = true) (hij : i ≠ j) (sw : swYes sc [.Name x px, .Name y py] [v1, v2] = true) :
    PS X (.Assign [.Tuple [.Name x px, .Name y py] ka pa] (.Tuple [v1, v2] kb pb) pos) (GS g own fun ρ M => ofR ρ (ev T.C a ρ M) fun d M => ofR ρ (ev T.C b ρ M) fun e M => oRho ((setS ρ i d).bind fun ρ => setO ρ j e) M) := by
  unfold swYes at sw
  simp only [Bool.and_eq_true, Bool.not_eq_true', beq_iff_eq, List.all_cons, List.all_nil, Bool.and_true] at sw
  obtain ⟨hvl, hloc, hf, hc⟩ := sw
  obtain ⟨x', px', e1, lx, lpx⟩ := loc_line hloc.1
  cases e1
  obtain ⟨y', py', e1, ly, lpy⟩ := loc_line hloc.2
  cases e1
  have pe1 := to_rep ((snd (T := T) (N := N) a).e v1 h.toCok k1) n1
  have kf : kindE b = .frs := by cases b <;> first | rfl | cases fb
  have pe2 := (snd (T := T) (N := N) b).e v2 h.toCok k2
  rw [kf] at pe2
  have hx := (tgB_of kx).1
  have hy := (tgB_of ky).1
  have hxy := ne_names h.nd hx hy hij
  have sw : swappedStores [.Tuple [.Name x px, .Name y py] ka pa] (.Tuple [v1, v2] kb pb) X.env = pure (some [x, y]) :=
    sw_two h (kind_of h lx) (kind_of h ly) lpy (by simp only [List.all_cons, List.all_nil, okE_nst k1, okE_nst k2]; rfl) hxy (by simpa using hf) (by simpa using hc)
  have hPA := pa_cons pe1 (pa_cons pe2 pa_nil (star_ok (okE_nst k2))) (star_ok (okE_nst k1))
  refine PS.imp (ps_par (i := i) (j := j) h.calm (by rw [h.hN]; exact h.nd) (by rw [h.hN]; exact hx) (by rw [h.hN]; exact hy) hij (by rw [h.sc]; exact lx) (by rw [h.sc]; exact ly) hPA sw rfl) fun D σ H q => ?_
  refine GS.one (k := fun ρ d M => ofR ρ (ev T.C b ρ M) fun e M => oRho ((setS ρ i d).bind fun ρ => setO ρ j e) M) ?_ q
  intro ρ M w w0 v d s ex _ _ _ r af
  replace r : Rep w v d := r
  refine ⟨ρ, M, w, rfl, s, (AftS.ofR (rel := rl g ρ σ .frs) s af).mono ?_⟩
  rintro u H1 ⟨e, M1, w1, rfl, ex1, s1, r1, a1⟩
  obtain ⟨p, rfl, o, nF, nA, n⟩ := r1
  have rv : Rep w1 v d := r.mono (ex1.wle s.wf)
  refine ⟨v, .ref p, rfl, ?_⟩
  cases q1 : setS ρ i d with
  | none => rw [q1] at a1; exact a1.elim
  | some ρ1 =>
    rw [q1] at a1
    cases q2 : setO ρ1 j e with
    | none => rw [show (some ρ1).bind (fun ρ => setO ρ j e) = setO ρ1 j e from rfl, q2] at a1; exact a1.elim
    | some ρ2 =>
      rw [show (some ρ1).bind (fun ρ => setO ρ j e) = setO ρ1 j e from rfl, q2] at a1
      unfold setS at q1
      unfold setO at q2
      split at q1
      · rename_i hi
        cases q1
        split at q2
        · rename_i hj
          cases q2
          have s2 := s1.set (i := i) rv hi
          refine a1 _ w1 (Wle.refl w1) (s2.setOwn o nF nA (s.e0.none n) hj fun j' e' hne h1 h2 => ?_)
          by_cases z : i = j'
          · subst z
            rw [List.getElem?_set_self hi] at h1
            cases h1
          · rw [List.getElem?_set_ne z] at h1 h2
            exact s.owH j' e' p h1 h2 n
        · cases q2
      · cases q1
end
end Pv

set_option Elab.async false
set_option linter.all false
set_option maxRecDepth 100000
set_option maxHeartbeats 8000000
namespace Pv
open PySem L2

/-! ### objects -/
theorem swap_attr {e o : Expr} {f : Str} {p : Pos} {l : Nat} {env : PySem.Env} : swapsWith e (some (.Attribute o f p)) l env = pure false := by
  cases e <;> rfl
theorem put_f {w : Wd} {x : Str} {v : V} {d : D} (r : Rep w v d) : ∀ {fvs : List (Str × V)} {fs : List (Str × D)}, fvs.map (·.1) = fs.map (·.1) → Reps w (fvs.map (·.2)) (fs.map (·.2)) →
    (putF x v fvs).map (·.1) = (fput x d fs).map (·.1) ∧ Reps w ((putF x v fvs).map (·.2)) ((fput x d fs).map (·.2))
  | [], [], _, _ => ⟨rfl, .cons r .nil⟩
  | [], _ :: _, e, _ => by cases e
  | _ :: _, [], e, _ => by cases e
  | (a, u) :: fvs, (b, t) :: fs, e, rr => by
    rw [List.map_cons, List.map_cons] at e
    injection e with e1 e2
    have e1 : a = b := e1
    subst e1
    cases rr with
    | cons r1 r2 =>
      unfold putF fput
      by_cases q : a = x
      · rw [if_pos q, if_pos q]
        exact ⟨by rw [List.map_cons, List.map_cons, e2], .cons r r2⟩
      · rw [if_neg q, if_neg q]
        have ih := put_f (x := x) r e2 r2
        exact ⟨by rw [List.map_cons, List.map_cons, ih.1], .cons r1 ih.2⟩
section
variable {T : Tb} {X : Cx} {g : Gx} {N : List Str} {sc : Scope} {own : Bool} {pos : Pos}
theorem S_hfld (h : Sok T X g N sc) {cc : Nat} {b a : E} {y : Str} {o e : Expr} {p2 : Pos} (n : notBor a = true) (k1 : okE T.P T.gi N sc a e = true) (kf : fldB T.P cc y = true) (nb : notBor b = true) (k2 : okE T.P T.gi N sc b o = true) :
    PS X (.Assign [.Attribute o y p2] e pos) (GS g own fun ρ M => ofR ρ (ev T.C a ρ M) fun d M => ofR ρ (ev T.C b ρ M) fun v M => match v with
    | .hnd n => match M[n]? with
      | some (.obj c' fs) => if c' = cc ∧ fs.length < 1000 then .nx ρ (M.set n (.obj cc (fput y d fs))) else .fail
      | _ => .fail
    | _ => .fail) := by
  have pe := to_rep ((snd (T := T) (N := N) a).e e h.toCok k1) n
  have pr := to_rep ((snd (T := T) (N := N) b).e o h.toCok k2) nb
  refine PS.imp (ps_fld pr pe swap_attr) fun D' σ H q => ?_
  refine GS.one (k := fun ρ d M => ofR ρ (ev T.C b ρ M) fun v M => match v with
    | .hnd n => match M[n]? with
      | some (.obj c' fs) => if c' = cc ∧ fs.length < 1000 then .nx ρ (M.set n (.obj cc (fput y d fs))) else .fail
      | _ => .fail
    | _ => .fail) ?_ q
  intro ρ M w w0 v d s ex _ _ _ r af
  have r : Rep w v d := r
  refine ⟨ρ, M, w, rfl, s, (AftS.ofR (rel := rl g ρ σ .rep) s af).mono ?_⟩
  rintro u H1 ⟨x, M1, w1, rfl, ex1, s1, r1, a1⟩
  have rv : Rep w1 v d := r.mono (ex1.wle s.wf)
  replace r1 : Rep w1 u x := r1
  split at a1
  · rename_i nn
    cases r1 with
    | hnd hA =>
      rename_i p
      split at a1
      · rename_i c' fs hM
        split at a1
        · rename_i hc
          obtain ⟨hc, hz⟩ := hc
          subst hc
          obtain ⟨dx, fvs, hp, ek, rr⟩ := s1.sto.at_ nn p _ hA hM
          obtain ⟨cl, na⟩ := fld_facts h.toCok kf
          have hB : w1.B = T.ca := s1.e0.B.trans h.bb
          have hlen : fvs.length < 1000 := by
            have := congrArg List.length ek
            simp only [List.length_map] at this
            rw [this]; exact hz
          refine ⟨p, w1.B c', dx, fvs, rfl, hp, by rw [hB]; exact cl, by rw [hB]; exact na, hlen, ?_⟩
          have nF : ¬ w1.F p := fun z => (s1.wf.f p z).1 (List.mem_of_getElem? hA)
          have le : Wle w1 ⟨w1.F, w1.A, upd w1.H p (.ins (w1.B c') dx (putF y v fvs)), w1.K, w1.B⟩ := ⟨fun t ht => ⟨ht, upd_ne (show t ≠ p from fun e => nF (e ▸ ht))⟩, fun _ _ e => e, rfl, rfl⟩
          have hput := put_f (x := y) rv ek rr
          obtain ⟨le2, s2⟩ := s1.writeH (d' := .obj c' (fput y d fs)) (o := .ins (w1.B c') dx (putF y v fvs)) hA (List.getElem?_eq_some_iff.mp hM).1 ⟨dx, _, upd_same, hput.1, hput.2.mono le⟩
          exact a1 σ _ le2 s2
        · exact a1.elim
      · exact a1.elim
  · exact a1.elim

/-! ### d.pop(k), there -/
theorem m1_pop {o y : Expr} {m : Str} {apos : Pos} (ho : ncall o = true) (hy : nst y = true) (hl : (apos.endLine == pos.line) = true) : L2.M1 X o m apos y pos := by
  refine ⟨ncall_ok ho, few1 hy, hl, ?_⟩
  rw [star_ok hy]; rfl
theorem S_hpop1 (h : Sok T X g N sc) {b c : E} {o y : Expr} {apos p : Pos} (nb : notBor b = true) (k1 : okE T.P T.gi N sc b o = true) (nc : notBor c = true) (k2 : okE T.P T.gi N sc c y = true) (ho : noCall o = true) (hl : (apos.endLine == pos.line) = true)
    (drop : ∀ {w : Wd} {k : Key} {kvs : List (Key × V)} {ks : List (Key × D)}, kvs.map (·.1) = ks.map (·.1) → Reps w (kvs.map (·.2)) (ks.map (·.2)) → (dropK kvs k).map (·.1) = (delK ks k).map (·.1) ∧ Reps w ((dropK kvs k).map (·.2)) ((delK ks k).map (·.2))) :
    PS X (.Expr (.Call (.Attribute o "pop" apos) [y] [] pos) p) (GS g own fun ρ M => ofR ρ (ev T.C b ρ M) fun x M => match dr M x with
    | .dic _ => ofR ρ (ev T.C c ρ M) fun y M => match x with
      | .hnd n => match M[n]? with
        | some (.dic kvs) => match keyOf y with
          | some k => if (lookK kvs k).isSome then .nx ρ (M.set n (.dic (delK kvs k))) else .fail
          | none => .fail
        | _ => .fail
      | _ => .fail
    | _ => .fail) := by
  have pr := to_rep ((snd (T := T) (N := N) b).e o h.toCok k1) nb
  have pk := to_rep ((snd (T := T) (N := N) c).e y h.toCok k2) nc
  refine PS.imp (ps_expr (pe_dpop1 pr pk (m1_pop (noCall_of ho) (okE_nst k2) hl)) rfl) fun D' σ H q => ?_
  refine GS.one (k := fun ρ x M => match dr M x with
    | .dic _ => ofR ρ (ev T.C c ρ M) fun y M => match x with
      | .hnd n => match M[n]? with
        | some (.dic kvs) => match keyOf y with
          | some k => if (lookK kvs k).isSome then .nx ρ (M.set n (.dic (delK kvs k))) else .fail
          | none => .fail
        | _ => .fail
      | _ => .fail
    | _ => .fail) ?_ q
  intro ρ M w w0 v x s ex _ _ _ r af
  split at af
  · rename_i ks0 hds
    have c := s.con r
    rw [hds] at c
    obtain ⟨p0, vs0, rfl, hp0, _⟩ := c
    refine ⟨p0, rfl, .inl ⟨vs0, .inl hp0⟩, ?_⟩
    refine ⟨ρ, M, w, rfl, s, (AftS.ofR s af).mono ?_⟩
    rintro u H1 ⟨y, M1, w1, rfl, ex1, s1, r1, a1⟩
    split at a1
    · rename_i n'
      split at a1
      · rename_i kvs hM
        split at a1
        · rename_i key hk
          split at a1
          · rename_i hsome
            have r : Rep w (.ref p0) (.hnd n') := r
            have r2 := r.mono (ex1.wle s.wf)
            cases r2 with
            | hnd hA =>
              obtain ⟨vs1, hvs1, e2, rr1⟩ := s1.sto.at_ n' p0 _ hA hM
              have hu := keyOf_V (show Rep w1 u y from r1) hk
              subst hu
              have lk := look_of key e2 rr1
              obtain ⟨dd, hdd⟩ := Option.isSome_iff_exists.mp hsome
              rw [hdd] at lk
              obtain ⟨v', hv', _⟩ := lk
              have nF1 : ¬ w1.F p0 := fun z => (s1.wf.f p0 z).1 (List.mem_of_getElem? hA)
              refine ⟨vs1, key, v', hvs1, rfl, hv', ?_⟩
              have hd := drop (k := key) e2 rr1
              have le : Wle w1 ⟨w1.F, w1.A, upd w1.H p0 (.dK (dropK vs1 key)), w1.K, w1.B⟩ := ⟨fun t ht => ⟨ht, upd_ne (show t ≠ p0 from fun e => nF1 (e ▸ ht))⟩, fun _ _ e => e, rfl, rfl⟩
              obtain ⟨le2, s2⟩ := s1.writeH (d' := .dic (delK kvs key)) (o := .dK (dropK vs1 key)) hA (List.getElem?_eq_some_iff.mp hM).1 ⟨_, upd_same, hd.1, hd.2.mono le⟩
              exact a1 σ _ le2 s2
          · exact a1.elim
        · exact a1.elim
      · exact a1.elim
    · exact a1.elim
  · exact af.elim

/-! ### l.extend([..]) -/
theorem S_hext (h : Sok T X g N sc) {b a : E} {o e : Expr} {apos p : Pos} (nb : notBor b = true) (k1 : okE T.P T.gi N sc b o = true) (n : notBor a = true) (k2 : okE T.P T.gi N sc a e = true) (ho : noCall o = true) (hl : (apos.endLine == pos.line) = true) :
    PS X (.Expr (.Call (.Attribute o "extend" apos) [e] [] pos) p) (GS g own fun ρ M => ofR ρ (ev T.C b ρ M) fun x M => match dr M x with
    | .lst _ => ofR ρ (ev T.C a ρ M) fun y M => match x with
      | .hnd n => match M[n]? with
        | some (.lst ds) => match y with
          | .lst es => if ds.length + es.length ≤ LIM then .nx ρ (M.set n (.lst (ds ++ es))) else .fail
          | _ => .fail
        | _ => .fail
      | _ => .fail
    | _ => .fail) := by
  have po := to_rep ((snd (T := T) (N := N) b).e o h.toCok k1) nb
  have pe := (snd (T := T) (N := N) a).e e h.toCok k2
  refine PS.imp (ps_expr (pe_bm PySem.F.plainAttrs_list PySem.F.slot_list_extend PySem.F.type_list_extend mt_extend po (pa_cons pe pa_nil (star_ok (okE_nst k2))) (ncall_ok (noCall_of ho)) (few1 (okE_nst k2)) hl (star_ok (okE_nst k2)) rfl) rfl) ?_
  intro D' σ H q
  refine GS.one (k := fun ρ x M => match dr M x with
    | .lst _ => ofR ρ (ev T.C a ρ M) fun y M => match x with
      | .hnd n => match M[n]? with
        | some (.lst ds) => match y with
          | .lst es => if ds.length + es.length ≤ LIM then .nx ρ (M.set n (.lst (ds ++ es))) else .fail
          | _ => .fail
        | _ => .fail
      | _ => .fail
    | _ => .fail) ?_ q
  intro ρ M w w0 v x s ex _ _ _ r af
  split at af
  · rename_i ds0 hds
    have c := s.con r
    rw [hds] at c
    obtain ⟨p0, vs0, rfl, hp0, _⟩ := c
    refine ⟨.inl ⟨rfl, _, SqL.of hp0⟩, ρ, M, w, rfl, s, (AftS.ofR s af).mono ?_⟩
    rintro u H1 ⟨y, M1, w1, rfl, ex1, s1, r1, a1⟩
    split at a1
    · rename_i n'
      split at a1
      · rename_i ds hM
        split at a1
        · rename_i es
          split at a1
          · rename_i hz
            have r : Rep w (.ref p0) (.hnd n') := r
            have r2 := r.mono (ex1.wle s.wf)
            have cy := s1.con (M := M1) r1
            obtain ⟨p1, ws, rfl, hp1, rw1⟩ := cy
            cases r2 with
            | hnd hA =>
              obtain ⟨vs1, hvs1, rr1⟩ := s1.sto.at_ n' p0 _ hA hM
              refine ⟨p0, p1, vs1, ws, rfl, rfl, hvs1, hp1, by rw [rr1.length, rw1.length]; exact hz, ?_⟩
              have nF1 : ¬ w1.F p0 := fun z => (s1.wf.f p0 z).1 (List.mem_of_getElem? hA)
              have le : Wle w1 ⟨w1.F, w1.A, upd w1.H p0 (.lst (vs1 ++ ws)), w1.K, w1.B⟩ := ⟨fun t ht => ⟨ht, upd_ne (show t ≠ p0 from fun e => nF1 (e ▸ ht))⟩, fun _ _ e => e, rfl, rfl⟩
              obtain ⟨le2, s2⟩ := s1.writeH (d' := .lst (ds ++ es)) (o := .lst (vs1 ++ ws)) hA (List.getElem?_eq_some_iff.mp hM).1 ⟨_, upd_same, (rr1.append rw1).mono le⟩
              exact a1 σ _ le2 s2
          · exact a1.elim
        · exact a1.elim
      · exact a1.elim
    · exact a1.elim
  · exact af.elim

/-! ### d.update(..) -/
def rUpd (K : PySem.W.Frag) : V → List V → Hp → VK → Prop := fun x vs H Q => ∃ (a b : Addr) (kvs more : List (Key × V)), x = .ref a ∧ vs = [.ref b] ∧ H a = some (.dK kvs) ∧ kvs.length + more.length ≤ sizeLine ∧ Q .non (upd H a (.dK (mergeK kvs more))) ∧
  ((a ≠ b ∧ H b = some (.dK more)) ∨ ∃ as : List Addr, TH H b (as.map V.ref) ∧ (∀ z ∈ as, H z ≠ some (.dK kvs)) ∧ Paired (fun p kv => SqT K H p [kV kv.1, kv.2]) as more)
theorem mt_upd (hc : X.calm = true) : MtM X "dict.update" (rUpd X.K) := by
  rintro pins s σ H x vs v us Q I rx rv ⟨a, b, kvs, more, rfl, rfl, hH, hz, q, hq⟩
  cases rx
  obtain ⟨u, rfl, ru⟩ := rv.one
  cases ru
  obtain ⟨z, hd, xs, rel, dd⟩ := dk_of I.hok hH
  have hl : (mergeK kvs more).length ≤ sizeLine := Nat.le_trans (length_mergeK more kvs) hz
  have fin : ∀ (h' : Heap) (tk : Tok) (rs : List (Key × Value)), KV more rs → h'.DictOf (mixKind X.prog X.w) a (merged xs rs) → (∀ c o, c ≠ a → s.heap.get? c = some o → h'.get? c = some o) → EP X pins σ Q .none { s with heap := h', toks := tk } := by
    intro h' tk rs rm hd' hk
    have he : ∃ o, h'.get? a = some o := let ⟨o, _, _, ho, _⟩ := hd'; ⟨o, ho⟩
    exact ⟨.non, _, I.write (t' := tk) (x := a) (e := a) (o := .dK (mergeK kvs more)) (by rw [hH]; exact True.intro) (.inl rfl) (fun c o hc e => hk c o hc e) he ⟨hl, hd, _, KV.merge rm rel, hd'⟩, rfl, q⟩
  rcases hq with ⟨hne, hb⟩ | ⟨as, ht, hna, hp⟩
  · obtain ⟨z2, hd2, ys, rel2, dd2⟩ := dk_of I.hok hb
    refine call_meetsIn PySem.F.slot_dict_update dd.typeIs PySem.F.entry_dict_update (PySem.F.args_dict_update_2 _ _) (meets_dict_update (mixKind X.prog X.w) a b hne hd2)
      ⟨xs, ys, dd, dd2, by rw [← rel.length, ← rel2.length]; exact hz, fun h' hm _ hs => fin h' s.toks ys rel2 hm fun c o hc e => (hs.2 c hc).trans e⟩
  · obtain ⟨its, l, rm, hln, hsz, ok1, ok2, hh⟩ := tup_arg I ht hp
    have hlm : more.length = (l.map fun t => t.2).length := by rw [rm.length, List.length_map, List.length_map]
    refine PySem.call_update_pairs (knd := mixKind X.prog X.w) (PairArg.tuple b its (fun j => as.getD j 0) (l.map fun t => t.2)) (I.ok.hd hc) ⟨ok1, ok2⟩ ?_ hh dd (by rw [← rel.length, ← hlm]; exact hz) fun h' tk hd' k => fin h' tk _ rm hd' fun c o hc e => k c o hc List.not_mem_nil e
    intro hm
    rcases List.mem_cons.mp hm with e | hm
    · subst e
      obtain ⟨o, _, e⟩ := ht
      rw [e] at hH; cases hH
    · obtain ⟨j, hj, e⟩ := List.mem_map.mp hm
      have hj : j < (l.map fun t => t.2).length := List.mem_range.mp hj
      have hj2 : j < as.length := by rw [List.length_map, hln] at hj; exact hj
      have e2 : as.getD j 0 = as[j] := by rw [List.getD_eq_getElem?_getD, List.getElem?_eq_getElem hj2]; rfl
      have e : as.getD j 0 = a := e
      rw [e2] at e
      exact hna _ (List.getElem_mem hj2) (e ▸ hH)
theorem S_hupd (h : Sok T X g N sc) {b a : E} {o e : Expr} {apos p : Pos} (nb : notBor b = true) (k1 : okE T.P T.gi N sc b o = true) (n : notBor a = true) (k2 : okE T.P T.gi N sc a e = true) (ho : noCall o = true) (hl : (apos.endLine == pos.line) = true) :
    PS X (.Expr (.Call (.Attribute o "update" apos) [e] [] pos) p) (GS g own fun ρ M => ofR ρ (ev T.C b ρ M) fun x M => match dr M x with
    | .dic _ => ofR ρ (ev T.C a ρ M) fun y M => match x with
      | .hnd n => match M[n]? with
        | some (.dic kvs) => match updPs (dr M y) with
          | some ps => if hndNe y n = true ∧ kvs.length + ps.length ≤ LIM then .nx ρ (M.set n (.dic (mergeD kvs ps))) else .fail
          | none => .fail
        | _ => .fail
      | _ => .fail
    | _ => .fail) := by
  have po := to_rep ((snd (T := T) (N := N) b).e o h.toCok k1) nb
  have pe := to_rep ((snd (T := T) (N := N) a).e e h.toCok k2) n
  refine PS.imp (ps_expr (pe_bmP (t := tCons (GE g .rep (ev T.C a)) tNil) po (pa_cons pe pa_nil (star_ok (okE_nst k2))) (ncall_ok (noCall_of ho)) (few1 (okE_nst k2)) hl (star_ok (okE_nst k2)) rfl) rfl) ?_
  intro D' σ H q
  refine GS.one (k := fun ρ x M => match dr M x with
    | .dic _ => ofR ρ (ev T.C a ρ M) fun y M => match x with
      | .hnd n => match M[n]? with
        | some (.dic kvs) => match updPs (dr M y) with
          | some ps => if hndNe y n = true ∧ kvs.length + ps.length ≤ LIM then .nx ρ (M.set n (.dic (mergeD kvs ps))) else .fail
          | none => .fail
        | _ => .fail
      | _ => .fail
    | _ => .fail) ?_ q
  intro ρ M w w0 v x s ex _ _ _ r af
  split at af
  · rename_i ks0 hds
    have c := s.con r
    rw [hds] at c
    obtain ⟨p0, vs0, rfl, hp0, _⟩ := c
    refine ⟨"dict", _, rUpd X.K, PySem.F.plainAttrs_dict, PySem.F.slot_dict_update, PySem.F.type_dict_update, mt_upd h.calm, .inr (.inr (.inl ⟨rfl, .inl ⟨_, hp0⟩⟩)), ρ, M, w, rfl, s, (AftS.ofR s af).mono ?_⟩
    rintro u H1 ⟨y, M1, w1, rfl, ex1, s1, r1, a1⟩
    replace r1 : Rep w1 u y := r1
    split at a1
    · rename_i n'
      split at a1
      · rename_i kvs hM
        split at a1
        · rename_i ps hps
          split at a1
          · rename_i hc
            obtain ⟨hne, hz⟩ := hc
            have r : Rep w (.ref p0) (.hnd n') := r
            have r2 := r.mono (ex1.wle s.wf)
            cases r2 with
            | hnd hA =>
              obtain ⟨vs1, hvs1, e2, rr1⟩ := s1.sto.at_ n' p0 _ hA hM
              have nF1 : ¬ w1.F p0 := fun z => (s1.wf.f p0 z).1 (List.mem_of_getElem? hA)
              -- what is put in
              have fin : ∀ (pu : Addr) (more : List (Key × V)), u = .ref pu → more.map (·.1) = ps.map (·.1) → Reps w1 (more.map (·.2)) (ps.map (·.2)) →
                  ((p0 ≠ pu ∧ w1.H pu = some (.dK more)) ∨ ∃ as : List Addr, TH w1.H pu (as.map V.ref) ∧ (∀ z ∈ as, w1.H z ≠ some (.dK vs1)) ∧ Paired (fun p kv => SqT X.K w1.H p [kV kv.1, kv.2]) as more) →
                  rUpd X.K (.ref p0) [u] w1.H fun _ H' => D'.nx σ H' := by
                rintro pu more rfl ek rm hq
                have l1 := congrArg List.length e2
                have l2 := congrArg List.length ek
                simp only [List.length_map] at l1 l2
                have m := merge_reps (as := vs1) (bs := kvs) ek rm e2 rr1
                have le : Wle w1 ⟨w1.F, w1.A, upd w1.H p0 (.dK (mergeK vs1 more)), w1.K, w1.B⟩ := ⟨fun t ht => ⟨ht, upd_ne (show t ≠ p0 from fun e => nF1 (e ▸ ht))⟩, fun _ _ e => e, rfl, rfl⟩
                obtain ⟨le2, s2⟩ := s1.writeH (d' := .dic (mergeD kvs ps)) (o := .dK (mergeK vs1 more)) hA (List.getElem?_eq_some_iff.mp hM).1 ⟨_, upd_same, m.1, m.2.mono le⟩
                exact ⟨p0, pu, vs1, more, rfl, rfl, hvs1, by rw [l1, l2]; exact hz, a1 σ _ le2 s2, hq⟩
              have cy := s1.con (M := M1) (k := .rep) (w := w1) r1
              cases hd : dr M1 y <;> rw [hd] at hps cy <;> simp only [updPs, reduceCtorEq, Option.some.injEq] at hps
              · -- a tuple of pairs
                obtain ⟨pu, vs, rfl, hpu, rr⟩ := cy
                obtain ⟨as, more, rfl, pr, ek, rm⟩ := pairs_reps rr hps
                refine fin pu more rfl ek rm (.inr ⟨as, hpu, ?_, paired_map pr fun x y h => h.sq⟩)
                have nd : ∀ {as : List Addr} {more : List (Key × V)}, Paired (fun p kv => TH w1.H p [kV kv.1, kv.2]) as more → ∀ z ∈ as, w1.H z ≠ some (.dK vs1) := by
                  intro as more pr
                  induction pr with
                  | nil => intro z hz; exact absurd hz List.not_mem_nil
                  | cons h t ih =>
                    intro z hz e
                    rcases List.mem_cons.mp hz with q | q
                    · subst q
                      obtain ⟨o, _, e3⟩ := h
                      rw [e] at e3; cases e3
                    · exact ih z q e
                exact nd pr
              · -- a dict
                obtain ⟨pu, more, rfl, hpu, ek, rm⟩ := cy
                subst hps
                refine fin pu more rfl ek rm (.inl ⟨fun e => ?_, hpu⟩)
                subst e
                cases r1 with
                | dic f _ _ _ => exact nF1 f
                | hnd hA2 =>
                  rename_i m
                  have e : n' = m := by
                    obtain ⟨l1, q1⟩ := List.getElem?_eq_some_iff.mp hA
                    obtain ⟨l2, q2⟩ := List.getElem?_eq_some_iff.mp hA2
                    exact (List.getElem_inj s1.wf.nd).mp (q1.trans q2.symm)
                  subst e
                  unfold hndNe at hne
                  simp at hne
                | tup f _ _ => exact nF1 f
                | lst f _ _ => exact nF1 f
                | scr f _ _ => exact nF1 f
                | scrK _ _ => cases hd
          · exact a1.elim
        · exact a1.elim
      · exact a1.elim
    · exact a1.elim
  · exact af.elim
end
end Pv

set_option Elab.async false
set_option linter.all false
set_option maxRecDepth 100000
set_option maxHeartbeats 8000000
namespace Pv
open PySem L2

section
variable {T : Tb} {X : Cx} {g : Gx} {N : List Str} {sc : Scope} {pos : Pos} {own : Bool}
/-- a store, for any value of one of the kinds -/
theorem S_asgR (h : Sok T X g N sc) {t e : Expr} {tg : List Nat} {tt : Bool} {te : TE} (ht : targetB N sc tg tt t = true) (h1 : ncomp e = true ∨ ntgName t = true) (h2 : swappedStores [t] e X.env = pure none) (he : PE X e te) :
    PS X (.Assign [t] e pos) (tAsg te (gT X.K tg tt)) := by
  refine ps_asg he (pg_gT h.calm (by rw [h.hN]; exact h.nd) h.tg ht) (asg_swap h1) h2 ?_
  cases tt with
  | false =>
    unfold targetB at ht
    match tg, t, ht with
    | [i], .Name x p, _ => rfl
  | true => cases t <;> first | rfl | (exfalso; simp [targetB] at ht)
/-- a comprehension stored by the name on its line -/
def swB (sc : Scope) (y : Str) (py pos : Pos) (scope : Scope) : Bool := (sc.names.lookup y == some .local) && (py.line == pos.line) && !(scope.names.any fun (n, k) => n == y && (k == .local || k == .cell))
theorem comp_parts (h : Cok T X g N sc) {tg own : List Nat} {tt : Bool} {it cond elt : E} {x : Expr} {gs : List Comprehension} {scope : Scope} {p : Pos} (k : okE T.P T.gi N sc (.comp tg tt it cond elt own) (.ListComp x gs scope p) = true) :
    ∃ t i ifs, gs = [⟨t, i, ifs, 0⟩] ∧ ∃ nm : List (Str × Nat), nm.map (·.2) = own ∧ (∀ i ∈ tg, i ∈ own) ∧ PI X t i (GIe g X.K tt (evI T.C it)) ∧ BlkOk X.N X.env.scope scope nm ∧
      (∀ (s : Shared) (H : Hp) (C : Addr) (cl : List (Str × Addr)) (fp : List Addr), PG (X.blk s H scope (compEnvC scope cl C X.env) fp) t (gT X.K tg tt)) ∧
      (∀ (s : Shared) (H : Hp) (C : Addr) (cl : List (Str × Addr)) (fp : List Addr), PTs (X.blk s H scope (compEnvC scope cl C X.env) fp) ifs (GT g.blk (evC T.C cond))) ∧
      (∀ (s : Shared) (H : Hp) (C : Addr) (cl : List (Str × Addr)) (fp : List Addr), PE (X.blk s H scope (compEnvC scope cl C X.env) fp) x (GE g.blk .rep (ev T.C elt))) ∧
      (∀ y, foldedSetIterable i X.env y = pure y) := by
  rcases gs with _ | ⟨⟨t, i, ifs, na⟩, _ | ⟨g2, gs⟩⟩ <;> try (simp [okE] at k; done)
  simp only [okE, Bool.and_eq_true, decide_eq_true_eq] at k
  obtain ⟨rfl, k1, k2, k3, k4, k5, k6, n7, k7⟩ := k
  rw [Bool.or_eq_true] at k1
  have hi : PI X t i (GIe g X.K tt (evI T.C it)) := by
    rcases k1 with k1 | k1
    · exact PI.imp ((snd (T := T) (N := N) it).i (tt := tt) i t h k1 (fun z => by
        subst z
        cases t <;> first | exact ⟨_, _, _, rfl⟩ | (exfalso; simp [targetB] at k4))) fun _ _ _ q => q.gi
    · exact own_walk h k1
  refine ⟨t, i, ifs, rfl, own.filterMap fun j => (N[j]?).map fun y => (y, j), k3, fun j hj => by simpa using List.all_eq_true.mp k5 j hj, hi, by rw [h.hN, h.sc]; exact blkOk_by k2, ?_, ?_, ?_, fold_ok (k1.elim okI_nset okW_nset)⟩
  · intro s H C cl fp
    exact pg_gT (N := N) (sc' := scope) (h.blk scope s H C cl fp).calm (by rw [(h.blk scope s H C cl fp).hN]; exact h.nd) (fun i x => blk_tg h scope s H C cl fp i x) k4
  · intro s H C cl fp
    exact (snd (T := T) (N := N) cond).c _ (h.blk scope s H C cl fp) k6
  · intro s H C cl fp
    exact to_rep ((snd (T := T) (N := N) elt).e _ (h.blk scope s H C cl fp) k7) n7
theorem ev_comp {C : Nat → List D → Store → Res D} {tg own : List Nat} {tt : Bool} {it cond elt : E} : ev C (.comp tg tt it cond elt own) = fun ρ M => (evI C it ρ M).bind fun ds M => (compL (turnF tg tt own (evC C cond) (ev C elt) ρ) ds M).bind fun r M => .ok (.lst r) M := by
  funext ρ M
  simp only [ev]
  rfl
/-- a name's store of any value that the checker knows -/
theorem S_name (h : Sok T X g N sc) {i : Nat} {a : E} {y : Str} {py : Pos} {e : Expr} (hy : tgB N sc i y = true) (hn : ntup e = true ∨ True) (k : okE T.P T.gi N sc a e = true) :
    ∃ te, PS X (.Assign [.Name y py] e pos) (tAsg te (gName i)) ∧ ∀ σ H Q, GE g (kindE a) (ev T.C a) σ H Q → te σ H Q := by
  obtain ⟨t1, t2, t3⟩ := h.tg i y hy
  have nd : X.N.Nodup := by rw [h.hN]; exact h.nd
  cases hc : ncomp e with
  | true =>
    have pe := (snd (T := T) (N := N) a).e e h.toCok k
    exact ⟨_, ps_asg pe (pg_name nd t1 t2 t3) (asg_swap (.inl hc)) (by cases e <;> rfl) rfl, fun _ _ _ q => q⟩
  | false =>
    cases e <;> first | (cases hc; done) | skip
    · -- a list comprehension
      rename_i x gs scope p
      cases a <;> try (exfalso; simp [okE, plainX] at k; done)
      rename_i tg tt it cond elt own'
      obtain ⟨t, i', ifs, rfl, nm, hnm, htg, hi, ok, hg, ht, he, hs⟩ := comp_parts h.toCok k
      have hw : swapsWith (.ListComp x [⟨t, i', ifs, 0⟩] scope p) (some (.Name y py)) pos.line X.env = pure (swB sc y py p scope) := by
        have hb : X.env.blockKind = .function := by
          unfold Env.blockKind
          rw [h.kd]; rfl
        have hk : X.env.kindOf y = sc.names.lookup y := by
          show X.env.scope.names.lookup y = _
          rw [h.sc]
        show pure (X.env.blockKind == .function && X.env.kindOf y == some .local && py.line == p.line && !(scope.names.any fun (n, k) => n == y && (k == .local || k == .cell))) = _
        rw [hb, hk]
        rfl
      cases hsw : swB sc y py p scope with
      | true =>
        rw [hsw] at hw
        have hl : X.env.scope.names.lookup y = some .local := by
          unfold swB at hsw
          simp only [Bool.and_eq_true, beq_iff_eq] at hsw
          rw [h.sc]; exact hsw.1.1
        refine ⟨_, ps_setLc (i := i) h.calm nd t1 hl hw hi ok hg ht he hs, fun σ H Q q => ?_⟩
        refine comp_rd nm hnm htg σ H Q ?_
        rw [← ev_comp]; exact q
      | false =>
        rw [hsw] at hw
        have pe := (snd (T := T) (N := N) (.comp tg tt it cond elt own')).e _ h.toCok k
        exact ⟨_, ps_asg pe (pg_name nd t1 t2 t3) hw rfl rfl, fun _ _ _ q => q⟩
    · exfalso; cases a <;> simp [okE, plainX] at k
    · exfalso; cases a <;> simp [okE, plainX] at k
theorem gName_of {i : Nat} {σ : St} {v : V} {H : Hp} {Q : St → Hp → Prop} (q : Q (σ.set i (some v)) H) : gName i v σ H Q := q
theorem S_own (h : Sok T X g N sc) {i : Nat} {a : E} {y : Str} {py : Pos} {e : Expr} (hf : freshE a = true) (hy : tgB N sc i y = true) (k : okE T.P T.gi N sc a e = true) :
    PS X (.Assign [.Name y py] e pos) (GS g own fun ρ M => ofR ρ (ev T.C a ρ M) fun d M => oRho (setO ρ i d) M) := by
  obtain ⟨te, hp, hr⟩ := S_name (pos := pos) (py := py) h hy (.inr trivial) k
  have kf : kindE a = .frs := by cases a <;> first | rfl | cases hf
  refine PS.imp hp fun D σ H q => ?_
  refine hr σ H _ ?_
  refine GS.one (k := fun ρ d M => oRho (setO ρ i d) M) ?_ q
  intro ρ M w w0 v x s ex _ how ex0 r a
  rw [kf] at r
  obtain ⟨p, rfl, o, nF, nA, n⟩ := r
  refine gName_of (i := i) ?_
  unfold setO at a
  split at a
  · rename_i hi
    exact a _ w (Wle.refl w) (s.setOwn o nF nA (ex0.none n) hi fun j e hj h1 h2 => how j e p h1 h2 n)
  · exact a.elim
theorem S_hnew (h : Sok T X g N sc) {i : Nat} {a : E} {y : Str} {py : Pos} {e : Expr} (hf : freshE a = true) (hy : tgB N sc i y = true) (k : okE T.P T.gi N sc a e = true) :
    PS X (.Assign [.Name y py] e pos) (GS g own fun ρ M => ofR ρ (ev T.C a ρ M) fun d M => oRho (setS ρ i (.hnd M.length)) (M ++ [d])) := by
  obtain ⟨te, hp, hr⟩ := S_name (pos := pos) (py := py) h hy (.inr trivial) k
  have kf : kindE a = .frs := by cases a <;> first | rfl | cases hf
  refine PS.imp hp fun D σ H q => ?_
  refine hr σ H _ ?_
  refine GS.one (k := fun ρ d M => oRho (setS ρ i (.hnd M.length)) (M ++ [d])) ?_ q
  intro ρ M w w0 v x s ex _ how ex0 r a
  rw [kf] at r
  obtain ⟨p, rfl, o, nF, nA, n⟩ := r
  refine gName_of (i := i) ?_
  unfold setS at a
  split at a
  · rename_i hi
    obtain ⟨le, s2⟩ := s.setH o nF nA (ex0.none n) hi fun j e hj h1 h2 => how j e p h1 h2 n
    exact a _ ⟨w.F, w.A ++ [p], w.H, w.K, w.B⟩ le s2
  · exact a.elim
/-- a plain store -/
theorem oRho_gT {K : PySem.W.Frag} {tg : List Nat} {tt : Bool} {ρ : Rho} {M : Store} {w : Wd} {σ : St} {v : V} {d : D} {D' : Ends} (s : Sr g.w0 ρ M w σ) (r : Rep w v d) (a : AftS g own w D' (oRho (bindT tg tt ρ d) M)) : gT K tg tt v σ w.H D'.nx := by
  cases q : bindT tg tt ρ d with
  | none => rw [q] at a; exact a.elim
  | some ρ1 =>
    rw [q] at a
    exact gT_ok s (.inl r) q fun us s4 => a _ w (Wle.refl w) s4
theorem S_asg (h : Sok T X g N sc) {tg : List Nat} {tt : Bool} {a : E} {t e : Expr} (n : notBor a = true) (k : asgB T.P T.gi N sc tg tt a t e = true) :
    PS X (.Assign [t] e pos) (GS g own fun ρ M => ofR ρ (ev T.C a ρ M) fun d M => oRho (bindT tg tt ρ d) M) := by
  unfold asgB at k
  simp only [Bool.and_eq_true] at k
  obtain ⟨k1, k2, k3⟩ := k
  have pe := to_rep ((snd (T := T) (N := N) a).e e h.toCok k2) n
  cases tt with
  | true =>
    have ht : ntgName t = true := by cases t <;> first | rfl | (exfalso; simp [targetB] at k1)
    have hsw : swappedStores [t] e X.env = pure none := by
      simp only [Bool.not_true, Bool.false_or, Bool.or_eq_true] at k3
      rcases k3 with k3 | k3
      · exact ntup_ok k3
      · split at k3
        · exact sw_no h k3
        · cases k3
    refine PS.imp (S_asgR h k1 (.inr ht) hsw pe) fun D' σ H q => ?_
    refine GS.one (k := fun ρ d M => oRho (bindT tg true ρ d) M) ?_ q
    intro ρ M w w0 v x s ex _ _ _ r af
    exact oRho_gT s r af
  | false =>
    have : ∃ i x p, tg = [i] ∧ t = .Name x p ∧ tgB N sc i x = true := by
      unfold targetB at k1
      match tg, t, k1 with
      | [i], .Name x p, k1 => exact ⟨i, x, p, rfl, rfl, k1⟩
    obtain ⟨i, x, p, rfl, rfl, hx⟩ := this
    obtain ⟨te, hp, hr⟩ := S_name (pos := pos) (py := p) h hx (.inr trivial) k2
    refine PS.imp hp fun D' σ H q => ?_
    have hk : GE g .rep (ev T.C a) σ H (fun x H1 => gName i x σ H1 D'.nx) := by
      refine GS.one (k := fun ρ d M => oRho (bindT [i] false ρ d) M) ?_ q
      intro ρ M w w0 v x s ex _ _ _ r af
      exact oRho_gT (K := X.K) (tg := [i]) (tt := false) s r af
    refine hr σ H _ ?_
    cases kk : kindE a with
    | rep => exact hk
    | frs => exact GE.freeze hk
    | bor => cases a <;> first | (cases n; done) | (cases kk; done)
/-! ### x.append(e) -/
theorem S_app (h : Sok T X g N sc) {i : Nat} {a : E} {o e : Expr} {apos p : Pos} (n : notBor a = true) (k1 : okE T.P T.gi N sc (.peek i) o = true) (k2 : okE T.P T.gi N sc a e = true) (hl : (apos.endLine == pos.line) = true) :
    PS X (.Expr (.Call (.Attribute o "append" apos) [e] [] pos) p) (GS g own fun ρ M => match ρ[i]? with
      | some (.ow (.lst ds)) => ofR ρ (ev T.C a ρ M) fun d M => if ds.length < LIM then .nx (ρ.set i (.ow (.lst (ds ++ [d])))) M else .fail
      | _ => .fail) := by
  have pe := to_rep ((snd (T := T) (N := N) a).e e h.toCok k2) n
  have ho : ncall o = true := by cases o <;> first | rfl | (exfalso; simp [okE] at k1)
  have pr : PE X o (tVar i) := by
    cases o <;> try (simp [okE] at k1; done)
    simp only [okE] at k1
    obtain ⟨h1, h2, h3, h4⟩ := nameB_of k1
    exact pe_var (i := i) (by rw [h.hN]; exact h1) (by rw [h.sc]; exact h2) h3 h4
  refine PS.imp (ps_expr (pe_bm PySem.F.plainAttrs_list PySem.F.slot_list_append PySem.F.type_list_append mt_append pr (pa_cons pe pa_nil (star_ok (okE_nst k2))) (ncall_ok ho) (few1 (okE_nst k2)) hl (star_ok (okE_nst k2)) rfl) rfl) ?_
  rintro D' σ H ⟨ρ, M, w, rfl, s, af⟩
  dsimp only at af
  split at af
  · rename_i ds hi
    obtain ⟨q, hq, ⟨vs, hvs, rr⟩, nF, nA, n0⟩ := s.ow i _ hi
    refine ⟨.ref q, hq, .inl ⟨rfl, _, SqL.of hvs⟩, ?_⟩
    refine ⟨ρ, M, w, rfl, s, (AftS.ofR s af).mono ?_⟩
    rintro v H1 ⟨d, M1, w1, rfl, ex, s1, r1, a1⟩
    split at a1
    · rename_i hz
      obtain ⟨q', hq', ⟨vs1, hvs1, rr1⟩, nF1, nA1, n01⟩ := s1.ow i _ hi
      rw [hq] at hq'
      cases hq'
      refine ⟨q, vs1, v, rfl, rfl, hvs1, by rw [rr1.length]; exact hz, ?_⟩
      have r1 : Rep w1 v d := r1
      have le : Wle w1 ⟨w1.F, w1.A, upd w1.H q (.lst (vs1 ++ [v])), w1.K, w1.B⟩ := ⟨fun u hu => ⟨hu, upd_ne (show u ≠ q from fun e => nF1 (e ▸ hu))⟩, fun _ _ e => e, rfl, rfl⟩
      obtain ⟨le2, s2⟩ := s1.write (d' := .lst (ds ++ [d])) (o := .lst (vs1 ++ [v])) hi hq ⟨_, upd_same, (rr1.append (.cons r1 .nil)).mono le⟩
      exact a1 σ _ le2 s2
    · exact a1.elim
  · exact af.elim
/-- .. of a handle -/
theorem S_happ (h : Sok T X g N sc) {b a : E} {o e : Expr} {apos p : Pos} (nb : notBor b = true) (n : notBor a = true) (k1 : okE T.P T.gi N sc b o = true) (k2 : okE T.P T.gi N sc a e = true) (ho : noCall o = true) (hl : (apos.endLine == pos.line) = true) :
    PS X (.Expr (.Call (.Attribute o "append" apos) [e] [] pos) p) (GS g own fun ρ M => ofR ρ (ev T.C b ρ M) fun x M => match dr M x with
      | .lst _ => ofR ρ (ev T.C a ρ M) fun d M => match x with
        | .hnd n => match M[n]? with
          | some (.lst ds) => if ds.length < LIM then .nx ρ (M.set n (.lst (ds ++ [d]))) else .fail
          | _ => .fail
        | _ => .fail
      | _ => .fail) := by
  have po := to_rep ((snd (T := T) (N := N) b).e o h.toCok k1) nb
  have pe := to_rep ((snd (T := T) (N := N) a).e e h.toCok k2) n
  refine PS.imp (ps_expr (pe_bm PySem.F.plainAttrs_list PySem.F.slot_list_append PySem.F.type_list_append mt_append po (pa_cons pe pa_nil (star_ok (okE_nst k2))) (ncall_ok (noCall_of ho)) (few1 (okE_nst k2)) hl (star_ok (okE_nst k2)) rfl) rfl) ?_
  intro D' σ H q
  refine GS.one (k := fun ρ x M => match dr M x with
      | .lst _ => ofR ρ (ev T.C a ρ M) fun d M => match x with
        | .hnd n => match M[n]? with
          | some (.lst ds) => if ds.length < LIM then .nx ρ (M.set n (.lst (ds ++ [d]))) else .fail
          | _ => .fail
        | _ => .fail
      | _ => .fail) ?_ q
  intro ρ M w w0 v x s ex _ _ _ r af
  split at af
  · rename_i ds0 hds
    have c := s.con r
    rw [hds] at c
    obtain ⟨p0, vs0, rfl, hp0, _⟩ := c
    refine ⟨.inl ⟨rfl, _, SqL.of hp0⟩, ρ, M, w, rfl, s, (AftS.ofR s af).mono ?_⟩
    rintro u H1 ⟨d, M1, w1, rfl, ex1, s1, r1, a1⟩
    split at a1
    · rename_i n'
      split at a1
      · rename_i ds hM
        split at a1
        · rename_i hz
          have r : Rep w (.ref p0) (.hnd n') := r
          have r2 := r.mono (ex1.wle s.wf)
          cases r2 with
          | hnd hA =>
            obtain ⟨vs1, hvs1, rr1⟩ := s1.sto.at_ n' p0 _ hA hM
            refine ⟨p0, vs1, u, rfl, rfl, hvs1, by rw [rr1.length]; exact hz, ?_⟩
            have r1 : Rep w1 u d := r1
            have nF1 : ¬ w1.F p0 := fun z => (s1.wf.f p0 z).1 (List.mem_of_getElem? hA)
            have le : Wle w1 ⟨w1.F, w1.A, upd w1.H p0 (.lst (vs1 ++ [u])), w1.K, w1.B⟩ := ⟨fun t ht => ⟨ht, upd_ne (show t ≠ p0 from fun e => nF1 (e ▸ ht))⟩, fun _ _ e => e, rfl, rfl⟩
            obtain ⟨le2, s2⟩ := s1.writeH (d' := .lst (ds ++ [d])) (o := .lst (vs1 ++ [u])) hA (List.getElem?_eq_some_iff.mp hM).1 ⟨_, upd_same, (rr1.append (.cons r1 .nil)).mono le⟩
            exact a1 σ _ le2 s2
        · exact a1.elim
      · exact a1.elim
    · exact a1.elim
  · exact af.elim

/-! ### x[k] = e -/
def rSetA : TSet := fun o i v H Q => (∃ (p : Addr) (vs : List V) (k : Int) (j : Nat), o = .ref p ∧ i = .int k ∧ H p = some (.lst vs) ∧ ixN vs.length k = some j ∧ Q (upd H p (.lst (vs.set j v)))) ∨ ∃ (a : Addr) (H' : Hp), o = .ref a ∧ DPut H a i v H' ∧ Q H'
theorem set_all (hu : X.A.units + 1 < cLine) : PSet X rSetA := by
  intro pins s σ H o i v ov iv u Q I ro ri rv h
  rcases h with ⟨p, vs, k, j, rfl, rfl, hp, hj, q⟩ | ⟨a, H', rfl, dp, q⟩
  · exact set_list pins s σ H _ _ v ov iv u Q I ro ri rv ⟨p, vs, k, j, rfl, rfl, hp, hj, q⟩
  · cases ro
    exact d_setItem hu I dp ri rv fun s' I' => ⟨H', I', q⟩
theorem nsl_assign {o j : Expr} {p2 : Pos} {env : PySem.Env} (h : nsl j = true) : ∀ v, assign (.Subscript o j p2) env v = (do
      let ov ← holding [v] (eval o env)
      let iv ← holding [v, ov] (eval j env)
      standAt p2
      holding [v, ov, iv] (setItem ov iv v)
      release [v, ov, iv] []) := by
  intro v
  cases j <;> first | rfl | cases h
theorem S_seti (h : Sok T X g N sc) {i : Nat} {a b : E} {o j e : Expr} {p2 : Pos} (n : notBor a = true) (k1 : okE T.P T.gi N sc a e = true) (k2 : okE T.P T.gi N sc (.peek i) o = true) (nb : notBor b = true) (k3 : okE T.P T.gi N sc b j = true) :
    PS X (.Assign [.Subscript o j p2] e pos) (GS g own fun ρ M => ofR ρ (ev T.C a ρ M) fun d M => match ρ[i]? with
    | some (.ow (.dic kvs)) => ofR ρ (ev T.C b ρ M) fun y M => match keyOf y with
      | some k => if kvs.length < LIM then .nx (ρ.set i (.ow (.dic (setK kvs k d)))) M else .fail
      | none => .fail
    | some (.ow (.lst ds)) => ofR ρ (ev T.C b ρ M) fun y M => match y with
      | .int j => match ixN ds.length j with
        | some j => .nx (ρ.set i (.ow (.lst (ds.set j d)))) M
        | none => .fail
      | _ => .fail
    | _ => .fail) := by
  have pe := to_rep ((snd (T := T) (N := N) a).e e h.toCok k1) n
  have pk := to_rep ((snd (T := T) (N := N) b).e j h.toCok k3) nb
  have pr : PE X o (tVar i) := by
    cases o <;> try (simp [okE] at k2; done)
    simp only [okE] at k2
    obtain ⟨h1, h2, h3, h4⟩ := nameB_of k2
    exact pe_var (i := i) (by rw [h.hN]; exact h1) (by rw [h.sc]; exact h2) h3 h4
  refine PS.imp (ps_asg pe (pg_sub pr pk (set_all h.hu) (nsl_assign (okE_nsl k3))) (asg_swap (.inr rfl)) (by cases e <;> rfl) rfl) fun D' σ H q => ?_
  refine GS.one (k := fun ρ d M => match ρ[i]? with
    | some (.ow (.dic kvs)) => ofR ρ (ev T.C b ρ M) fun y M => match keyOf y with
      | some k => if kvs.length < LIM then .nx (ρ.set i (.ow (.dic (setK kvs k d)))) M else .fail
      | none => .fail
    | some (.ow (.lst ds)) => ofR ρ (ev T.C b ρ M) fun y M => match y with
      | .int j => match ixN ds.length j with
        | some j => .nx (ρ.set i (.ow (.lst (ds.set j d)))) M
        | none => .fail
      | _ => .fail
    | _ => .fail) ?_ q
  intro ρ M w w0 v x s ex _ _ _ r af
  have r : Rep w v x := r
  split at af
  · rename_i kvs hi
    obtain ⟨p, hp, ⟨vs, hvs, e1, rr⟩, nF, nA, n0⟩ := s.ow i _ hi
    refine ⟨.ref p, hp, ρ, M, w, rfl, s, (AftS.ofR s af).mono ?_⟩
    rintro u H1 ⟨y, M1, w1, rfl, ex1, s1, r1, a1⟩
    split at a1
    · rename_i key hk
      split at a1
      · rename_i hz
        obtain ⟨p', hp', ⟨vs1, hvs1, e2, rr1⟩, nF1, nA1, n01⟩ := s1.ow i _ hi
        rw [hp] at hp'; cases hp'
        have hu := keyOf_V r1 hk
        subst hu
        have hlen : vs1.length < sizeLine := by
          have := congrArg List.length e2
          simp only [List.length_map] at this
          rw [this]; exact hz
        refine .inr ⟨p, _, rfl, DPut.k (k := key) hvs1 hlen, ?_⟩
        have le : Wle w1 ⟨w1.F, w1.A, upd w1.H p (.dK (putK vs1 key v)), w1.K, w1.B⟩ := ⟨fun t ht => ⟨ht, upd_ne (show t ≠ p from fun e => nF1 (e ▸ ht))⟩, fun _ _ e => e, rfl, rfl⟩
        have hset := set_kv (k := key) (r.mono (ex1.wle s.wf)) e2 rr1
        obtain ⟨le2, s2⟩ := s1.write (d' := .dic (setK kvs key x)) (o := .dK (putK vs1 key v)) hi hp ⟨_, upd_same, hset.1, hset.2.mono le⟩
        exact a1 σ _ le2 s2
      · exact a1.elim
    · exact a1.elim
  · rename_i ds hi
    obtain ⟨p, hp, ⟨vs, hvs, rr⟩, nF, nA, n0⟩ := s.ow i _ hi
    refine ⟨.ref p, hp, ρ, M, w, rfl, s, (AftS.ofR s af).mono ?_⟩
    rintro u H1 ⟨y, M1, w1, rfl, ex1, s1, r1, a1⟩
    split at a1
    · rename_i jj
      split at a1
      · rename_i k hk
        obtain ⟨p', hp', ⟨vs1, hvs1, rr1⟩, nF1, nA1, n01⟩ := s1.ow i _ hi
        rw [hp] at hp'; cases hp'
        cases (show Rep w1 u (.int jj) from r1)
        refine .inl ⟨p, vs1, jj, k, rfl, rfl, hvs1, by rw [rr1.length]; exact hk, ?_⟩
        have le : Wle w1 ⟨w1.F, w1.A, upd w1.H p (.lst (vs1.set k v)), w1.K, w1.B⟩ := ⟨fun t ht => ⟨ht, upd_ne (show t ≠ p from fun e => nF1 (e ▸ ht))⟩, fun _ _ e => e, rfl, rfl⟩
        obtain ⟨le2, s2⟩ := s1.write (d' := .lst (ds.set k x)) (o := .lst (vs1.set k v)) hi hp ⟨_, upd_same, (Reps.set (r.mono (ex1.wle s.wf)) k rr1).mono le⟩
        exact a1 σ _ le2 s2
      · exact a1.elim
    · exact a1.elim
  · exact af.elim

/-! ### stores into handles; pop -/
theorem S_hseti (h : Sok T X g N sc) {a b c : E} {o j e : Expr} {p2 : Pos} (n : notBor a = true) (k1 : okE T.P T.gi N sc a e = true) (nb : notBor b = true) (k2 : okE T.P T.gi N sc b o = true) (nc : notBor c = true) (k3 : okE T.P T.gi N sc c j = true) :
    PS X (.Assign [.Subscript o j p2] e pos) (GS g own fun ρ M => ofR ρ (ev T.C a ρ M) fun d M => ofR ρ (ev T.C b ρ M) fun x M => ofR ρ (ev T.C c ρ M) fun y M => match x with
    | .hnd n => match M[n]? with
      | some (.dic kvs) => match keyOf y with
        | some k => if kvs.length < LIM then .nx ρ (M.set n (.dic (setK kvs k d))) else .fail
        | none => .fail
      | some (.lst ds) => match y with
        | .int j => match ixN ds.length j with
          | some j => .nx ρ (M.set n (.lst (ds.set j d)))
          | none => .fail
        | _ => .fail
      | _ => .fail
    | _ => .fail) := by
  have pe := to_rep ((snd (T := T) (N := N) a).e e h.toCok k1) n
  have pr := to_rep ((snd (T := T) (N := N) b).e o h.toCok k2) nb
  have pk := to_rep ((snd (T := T) (N := N) c).e j h.toCok k3) nc
  refine PS.imp (ps_asg pe (pg_sub pr pk (set_all h.hu) (nsl_assign (okE_nsl k3))) (asg_swap (.inr rfl)) (by cases e <;> rfl) rfl) fun D' σ H q => ?_
  refine GS.one (k := fun ρ d M => ofR ρ (ev T.C b ρ M) fun x M => ofR ρ (ev T.C c ρ M) fun y M => match x with
    | .hnd n => match M[n]? with
      | some (.dic kvs) => match keyOf y with
        | some k => if kvs.length < LIM then .nx ρ (M.set n (.dic (setK kvs k d))) else .fail
        | none => .fail
      | some (.lst ds) => match y with
        | .int j => match ixN ds.length j with
          | some j => .nx ρ (M.set n (.lst (ds.set j d)))
          | none => .fail
        | _ => .fail
      | _ => .fail
    | _ => .fail) ?_ q
  intro ρ M w w0 v d s ex _ _ _ r af
  have r : Rep w v d := r
  refine ⟨ρ, M, w, rfl, s, (AftS.ofR (rel := rl g ρ σ .rep) s af).mono ?_⟩
  rintro u H1 ⟨x, M1, w1, rfl, ex1, s1, r1, a1⟩
  refine ⟨ρ, M1, w1, rfl, s1, (AftS.ofR (rel := rl g ρ σ .rep) s1 a1).mono ?_⟩
  rintro t H2 ⟨y, M2, w2, rfl, ex2, s2, r2, a2⟩
  replace r1 : Rep w1 u x := r1
  have rv : Rep w2 v d := (r.mono (ex1.wle s.wf)).mono (ex2.wle s1.wf)
  have rx := r1.mono (ex2.wle s1.wf)
  split at a2
  · rename_i nn
    cases rx with
    | hnd hA =>
      rename_i p
      have nF : ¬ w2.F p := fun z => (s2.wf.f p z).1 (List.mem_of_getElem? hA)
      split at a2
      · rename_i kvs hM
        split at a2
        · rename_i key hk
          split at a2
          · rename_i hz
            obtain ⟨vs1, hvs1, e2, rr1⟩ := s2.sto.at_ nn p _ hA hM
            have hu := keyOf_V (show Rep w2 t y from r2) hk
            subst hu
            have hlen : vs1.length < sizeLine := by
              have := congrArg List.length e2
              simp only [List.length_map] at this
              rw [this]; exact hz
            refine .inr ⟨p, _, rfl, DPut.k (k := key) hvs1 hlen, ?_⟩
            have le : Wle w2 ⟨w2.F, w2.A, upd w2.H p (.dK (putK vs1 key v)), w2.K, w2.B⟩ := ⟨fun t ht => ⟨ht, upd_ne (show t ≠ p from fun e => nF (e ▸ ht))⟩, fun _ _ e => e, rfl, rfl⟩
            have hset := set_kv (k := key) rv e2 rr1
            obtain ⟨le2, s3⟩ := s2.writeH (d' := .dic (setK kvs key d)) (o := .dK (putK vs1 key v)) hA (List.getElem?_eq_some_iff.mp hM).1 ⟨_, upd_same, hset.1, hset.2.mono le⟩
            exact a2 σ _ le2 s3
          · exact a2.elim
        · exact a2.elim
      · rename_i ds hM
        split at a2
        · rename_i jj
          split at a2
          · rename_i kk hk
            obtain ⟨vs1, hvs1, rr1⟩ := s2.sto.at_ nn p _ hA hM
            cases (show Rep w2 t (.int jj) from r2)
            refine .inl ⟨p, vs1, jj, kk, rfl, rfl, hvs1, by rw [rr1.length]; exact hk, ?_⟩
            have le : Wle w2 ⟨w2.F, w2.A, upd w2.H p (.lst (vs1.set kk v)), w2.K, w2.B⟩ := ⟨fun t ht => ⟨ht, upd_ne (show t ≠ p from fun e => nF (e ▸ ht))⟩, fun _ _ e => e, rfl, rfl⟩
            obtain ⟨le2, s3⟩ := s2.writeH (d' := .lst (ds.set kk d)) (o := .lst (vs1.set kk v)) hA (List.getElem?_eq_some_iff.mp hM).1 ⟨_, upd_same, (Reps.set rv kk rr1).mono le⟩
            exact a2 σ _ le2 s3
          · exact a2.elim
        · exact a2.elim
      · exact a2.elim
  · exact a2.elim
theorem drop_kv {w : Wd} {k : Key} : ∀ {kvs : List (Key × V)} {ks : List (Key × D)}, kvs.map (·.1) = ks.map (·.1) → Reps w (kvs.map (·.2)) (ks.map (·.2)) → (dropK kvs k).map (·.1) = (delK ks k).map (·.1) ∧ Reps w ((dropK kvs k).map (·.2)) ((delK ks k).map (·.2))
  | [], [], _, _ => ⟨rfl, .nil⟩
  | [], _ :: _, e, _ => by cases e
  | _ :: _, [], e, _ => by cases e
  | x :: xs, y :: ys, e, rr => by
    rw [List.map_cons, List.map_cons] at e
    injection e with e1 e2
    rw [List.map_cons, List.map_cons] at rr
    cases rr with
    | cons r1 r2 =>
      obtain ⟨i1, i2⟩ := drop_kv (k := k) e2 r2
      unfold dropK delK at i1 i2 ⊢
      by_cases q : x.1 = k
      · have q' : y.1 = k := by rw [← e1]; exact q
        rw [List.filter_cons_of_neg (by simpa using q), List.filter_cons_of_neg (by simpa using q')]
        exact ⟨i1, i2⟩
      · have q' : ¬ y.1 = k := by rw [← e1]; exact q
        rw [List.filter_cons_of_pos (by simpa using q), List.filter_cons_of_pos (by simpa using q'), List.map_cons, List.map_cons, List.map_cons, List.map_cons, e1, i1]
        exact ⟨rfl, .cons r1 i2⟩
theorem drop_none {k : Key} : ∀ {kvs : List (Key × V)}, valV kvs k = none → dropK kvs k = kvs
  | [], _ => rfl
  | x :: xs, h => by
    by_cases q : x.1 = k
    · rw [valV_pos q] at h; cases h
    · rw [valV_neg q] at h
      unfold dropK
      rw [List.filter_cons_of_pos (by simpa using q)]
      have := drop_none h
      unfold dropK at this
      rw [this]
theorem m2_pop {o y z : Expr} {apos : Pos} (ho : ncall o = true) (hy : nst y = true) (hz : noneX z = true) (hl : (apos.endLine == pos.line) = true) : M2 X o "pop" apos y z pos := by
  have hz' : nst z = true := by cases z <;> first | rfl | (cases hz; done)
  refine ⟨ncall_ok ho, few2 hy hz', hl, ?_⟩
  rw [star_ok hy, star_ok hz']
  rfl
theorem noneX_pe {z : Expr} (hz : noneX z = true) : PE X z (tC .non) := by
  cases z <;> try (cases hz; done)
  rename_i c _ _
  cases c <;> first | (cases hz; done) | exact pe_non
theorem S_popd (h : Sok T X g N sc) {i : Nat} {c : E} {o y z : Expr} {apos p : Pos} (k1 : okE T.P T.gi N sc (.peek i) o = true) (nc : notBor c = true) (k2 : okE T.P T.gi N sc c y = true) (hz : noneX z = true) (hl : (apos.endLine == pos.line) = true) :
    PS X (.Expr (.Call (.Attribute o "pop" apos) [y, z] [] pos) p) (GS g own fun ρ M => match ρ[i]? with
    | some (.ow (.dic kvs)) => ofR ρ (ev T.C c ρ M) fun y M => match keyOf y with
      | some k => .nx (ρ.set i (.ow (.dic (delK kvs k)))) M
      | none => .fail
    | _ => .fail) := by
  have pk := to_rep ((snd (T := T) (N := N) c).e y h.toCok k2) nc
  have ho : ncall o = true := by cases o <;> first | rfl | (exfalso; simp [okE] at k1)
  have pr : PE X o (tVar i) := by
    cases o <;> try (simp [okE] at k1; done)
    simp only [okE] at k1
    obtain ⟨h1, h2, h3, h4⟩ := nameB_of k1
    exact pe_var (i := i) (by rw [h.hN]; exact h1) (by rw [h.sc]; exact h2) h3 h4
  refine PS.imp (ps_expr (pe_dpop2 pr pk (noneX_pe hz) (m2_pop ho (okE_nst k2) hz hl)) rfl) fun D' σ H q => ?_
  obtain ⟨ρ, M, w, rfl, s, af⟩ := q
  dsimp only at af
  split at af
  · rename_i kvs hi
    obtain ⟨q, hq, ⟨vs, hvs, e1, rr⟩, nF, nA, n0⟩ := s.ow i _ hi
    refine ⟨.ref q, hq, q, rfl, .inl ⟨vs, .inl hvs⟩, ?_⟩
    refine ⟨ρ, M, w, rfl, s, (AftS.ofR s af).mono ?_⟩
    rintro u H1 ⟨y, M1, w1, rfl, ex, s1, r1, a1⟩
    obtain ⟨q', hq', ⟨vs1, hvs1, e2, rr1⟩, nF1, nA1, n01⟩ := s1.ow i _ hi
    rw [hq] at hq'
    cases hq'
    split at a1
    · rename_i key hk
      have hu := keyOf_V (show Rep w1 u y from r1) hk
      subst hu
      refine ⟨vs1, key, hvs1, rfl, fun v hv => ?_, fun hv => ?_⟩
      · have hd := drop_kv (k := key) e2 rr1
        have le : Wle w1 ⟨w1.F, w1.A, upd w1.H q (.dK (dropK vs1 key)), w1.K, w1.B⟩ := ⟨fun t ht => ⟨ht, upd_ne (show t ≠ q from fun e => nF1 (e ▸ ht))⟩, fun _ _ e => e, rfl, rfl⟩
        obtain ⟨le2, s2⟩ := s1.write (d' := .dic (delK kvs key)) (o := .dK (dropK vs1 key)) hi hq ⟨_, upd_same, hd.1, hd.2.mono le⟩
        exact a1 σ _ le2 s2
      · have e3 : delK kvs key = kvs := by
          have hd := drop_kv (k := key) e2 rr1
          have h1 := drop_none hv
          have hl := look_of key e2 rr1
          cases hk2 : lookK kvs key with
          | some d =>
            rw [hk2] at hl
            obtain ⟨v, hv2, _⟩ := hl
            rw [hv] at hv2; cases hv2
          | none =>
            unfold delK
            rw [List.filter_eq_self]
            intro a ha
            unfold lookK at hk2
            simp only [Option.map_eq_none_iff, List.find?_eq_none] at hk2
            simpa using hk2 a ha
        rw [e3] at a1
        have hset : ρ.set i (.ow (.dic kvs)) = ρ := by
          obtain ⟨hlt, hv⟩ := List.getElem?_eq_some_iff.mp hi
          rw [← hv]; exact List.set_getElem_self hlt
        rw [hset] at a1
        exact a1 σ _ (Wle.refl w1) s1
    · exact a1.elim
  · exact af.elim
theorem S_hpopd (h : Sok T X g N sc) {b c : E} {o y z : Expr} {apos p : Pos} (nb : notBor b = true) (k1 : okE T.P T.gi N sc b o = true) (nc : notBor c = true) (k2 : okE T.P T.gi N sc c y = true) (hz : noneX z = true) (ho : noCall o = true) (hl : (apos.endLine == pos.line) = true) :
    PS X (.Expr (.Call (.Attribute o "pop" apos) [y, z] [] pos) p) (GS g own fun ρ M => ofR ρ (ev T.C b ρ M) fun x M => match dr M x with
    | .dic _ => ofR ρ (ev T.C c ρ M) fun y M => match x with
      | .hnd n => match M[n]? with
        | some (.dic kvs) => match keyOf y with
          | some k => .nx ρ (M.set n (.dic (delK kvs k)))
          | none => .fail
        | _ => .fail
      | _ => .fail
    | _ => .fail) := by
  have pr := to_rep ((snd (T := T) (N := N) b).e o h.toCok k1) nb
  have pk := to_rep ((snd (T := T) (N := N) c).e y h.toCok k2) nc
  refine PS.imp (ps_expr (pe_dpop2 pr pk (noneX_pe hz) (m2_pop (noCall_of ho) (okE_nst k2) hz hl)) rfl) fun D' σ H q => ?_
  refine GS.one (k := fun ρ x M => match dr M x with
    | .dic _ => ofR ρ (ev T.C c ρ M) fun y M => match x with
      | .hnd n => match M[n]? with
        | some (.dic kvs) => match keyOf y with
          | some k => .nx ρ (M.set n (.dic (delK kvs k)))
          | none => .fail
        | _ => .fail
      | _ => .fail
    | _ => .fail) ?_ q
  intro ρ M w w0 v x s ex _ _ _ r af
  split at af
  · rename_i ks0 hds
    have c := s.con r
    rw [hds] at c
    obtain ⟨p0, vs0, rfl, hp0, _⟩ := c
    refine ⟨p0, rfl, .inl ⟨vs0, .inl hp0⟩, ?_⟩
    refine ⟨ρ, M, w, rfl, s, (AftS.ofR s af).mono ?_⟩
    rintro u H1 ⟨y, M1, w1, rfl, ex1, s1, r1, a1⟩
    split at a1
    · rename_i n'
      split at a1
      · rename_i kvs hM
        split at a1
        · rename_i key hk
          have r : Rep w (.ref p0) (.hnd n') := r
          have r2 := r.mono (ex1.wle s.wf)
          cases r2 with
          | hnd hA =>
            obtain ⟨vs1, hvs1, e2, rr1⟩ := s1.sto.at_ n' p0 _ hA hM
            have hu := keyOf_V (show Rep w1 u y from r1) hk
            subst hu
            have nF1 : ¬ w1.F p0 := fun z => (s1.wf.f p0 z).1 (List.mem_of_getElem? hA)
            refine ⟨vs1, key, hvs1, rfl, fun v hv => ?_, fun hv => ?_⟩
            · have hd := drop_kv (k := key) e2 rr1
              have le : Wle w1 ⟨w1.F, w1.A, upd w1.H p0 (.dK (dropK vs1 key)), w1.K, w1.B⟩ := ⟨fun t ht => ⟨ht, upd_ne (show t ≠ p0 from fun e => nF1 (e ▸ ht))⟩, fun _ _ e => e, rfl, rfl⟩
              obtain ⟨le2, s2⟩ := s1.writeH (d' := .dic (delK kvs key)) (o := .dK (dropK vs1 key)) hA (List.getElem?_eq_some_iff.mp hM).1 ⟨_, upd_same, hd.1, hd.2.mono le⟩
              exact a1 σ _ le2 s2
            · have e3 : delK kvs key = kvs := by
                have hl := look_of key e2 rr1
                cases hk2 : lookK kvs key with
                | some d =>
                  rw [hk2] at hl
                  obtain ⟨v, hv2, _⟩ := hl
                  rw [hv] at hv2; cases hv2
                | none =>
                  unfold delK
                  rw [List.filter_eq_self]
                  intro a ha
                  unfold lookK at hk2
                  simp only [Option.map_eq_none_iff, List.find?_eq_none] at hk2
                  simpa using hk2 a ha
              rw [e3] at a1
              have hset : M1.set n' (.dic kvs) = M1 := by
                obtain ⟨hlt, hv⟩ := List.getElem?_eq_some_iff.mp hM
                rw [← hv]; exact List.set_getElem_self hlt
              rw [hset] at a1
              exact a1 σ _ (Wle.refl w1) s1
        · exact a1.elim
      · exact a1.elim
    · exact a1.elim
  · exact af.elim

/-! ### the statements -/
theorem sndS (s : S) : (∀ {X : Cx} {g : Gx} {sc : Scope} (st : Stmt), Sok T X g N sc → okS T.P T.gi T.xn N sc own s st = true → PS X st (GS g own (ex T.C s))) ∧
    (∀ {X : Cx} {g : Gx} {sc : Scope} (xs : List Stmt), Sok T X g N sc → okB T.P T.gi T.xn N sc own s xs = true → PSs X xs (GS g own (ex T.C s))) := by
  induction s with
  | skip => exact ⟨fun st h k => by simp [okS] at k, fun xs h k => by
      cases xs with
      | nil => exact S_skip
      | cons x xs => simp [okB] at k⟩
  | seq a b iha ihb => exact ⟨fun st h k => by simp [okS] at k, fun xs h k => by
      cases xs with
      | nil => simp [okB] at k
      | cons x xs =>
        simp only [okB, Bool.and_eq_true] at k
        exact S_seq (iha.1 x h k.1) (ihb.2 xs h k.2)⟩
  | frzB i b ih => exact ⟨fun st h k => by simp [okS] at k, fun xs h k => by
      simp only [okB] at k
      exact S_frz (ih.2 xs h k)⟩
  | seti i a e => exact ⟨fun st h k => by
      cases st <;> try (simp [okS] at k; done)
      rename_i ts x p
      rcases ts with _ | ⟨t, _ | ⟨t2, ts⟩⟩ <;> try (simp [okS] at k; done)
      cases t <;> try (simp [okS] at k; done)
      simp only [okS, Bool.and_eq_true] at k
      obtain ⟨n, k1, k2, nb, k3⟩ := k
      exact S_seti h n k1 k2 nb k3, fun xs h k => by simp [okB] at k⟩
  | asg tg tt e => exact ⟨fun st h k => by
      cases st <;> try (simp [okS] at k; done)
      rename_i ts x p
      rcases ts with _ | ⟨t, _ | ⟨t2, ts⟩⟩ <;> try (simp [okS] at k; done)
      simp only [okS, Bool.and_eq_true] at k
      exact S_asg h k.1 k.2, fun xs h k => by simp [okB] at k⟩
  | own i e => exact ⟨fun st h k => by
      cases st <;> try (simp [okS] at k; done)
      rename_i ts x p
      rcases ts with _ | ⟨t, _ | ⟨t2, ts⟩⟩ <;> try (simp [okS] at k; done)
      simp only [okS, asgB, Bool.and_eq_true] at k
      obtain ⟨k1, k2, k3, k4⟩ := k
      cases t <;> try (simp [targetB] at k2; done)
      exact S_own h k1 k2 k3, fun xs h k => by simp [okB] at k⟩
  | hnew i e => exact ⟨fun st h k => by
      cases st <;> try (simp [okS] at k; done)
      rename_i ts x p
      rcases ts with _ | ⟨t, _ | ⟨t2, ts⟩⟩ <;> try (simp [okS] at k; done)
      simp only [okS, asgB, Bool.and_eq_true] at k
      obtain ⟨k1, k2, k3, k4⟩ := k
      cases t <;> try (simp [targetB] at k2; done)
      exact S_hnew h k1 k2 k3, fun xs h k => by simp [okB] at k⟩
  | hseti b k e => exact ⟨fun st h k => by
      cases st <;> try (simp [okS] at k; done)
      rename_i ts x p
      rcases ts with _ | ⟨t, _ | ⟨t2, ts⟩⟩ <;> try (simp [okS] at k; done)
      cases t <;> try (simp [okS] at k; done)
      simp only [okS, Bool.and_eq_true] at k
      obtain ⟨n, k1, ⟨nb, k2⟩, nc, k3⟩ := k
      exact S_hseti h n k1 nb k2 nc k3, fun xs h k => by simp [okB] at k⟩
  | popd i c => exact ⟨fun st h k => by
      cases st <;> try (simp [okS] at k; done)
      rename_i x p
      cases x <;> try (simp [okS] at k; done)
      rename_i f xs kw pos
      cases f <;> try (simp [okS] at k; done)
      cases kw <;> try (simp [okS] at k; done)
      rcases xs with _ | ⟨y, _ | ⟨y2, _ | ⟨y3, xs⟩⟩⟩ <;> try (simp [okS] at k; done)
      simp only [okS, Bool.and_eq_true, decide_eq_true_eq] at k
      obtain ⟨rfl, k1, nc, k2, hz, hl⟩ := k
      exact S_popd h k1 nc k2 hz hl, fun xs h k => by simp [okB] at k⟩
  | hpopd b c => exact ⟨fun st h k => by
      cases st <;> try (simp [okS] at k; done)
      rename_i x p
      cases x <;> try (simp [okS] at k; done)
      rename_i f xs kw pos
      cases f <;> try (simp [okS] at k; done)
      cases kw <;> try (simp [okS] at k; done)
      rcases xs with _ | ⟨y, _ | ⟨y2, _ | ⟨y3, xs⟩⟩⟩ <;> try (simp [okS] at k; done)
      simp only [okS, Bool.and_eq_true, decide_eq_true_eq] at k
      obtain ⟨rfl, ⟨nb, k1⟩, nc, k2, hz, ho, hl⟩ := k
      exact S_hpopd h nb k1 nc k2 hz ho hl, fun xs h k => by simp [okB] at k⟩
  | hfld cc b y e => exact ⟨fun st h k => by
      cases st <;> try (simp [okS] at k; done)
      rename_i ts x p
      rcases ts with _ | ⟨t, _ | ⟨t2, ts⟩⟩ <;> try (simp [okS] at k; done)
      cases t <;> try (simp [okS] at k; done)
      simp only [okS, Bool.and_eq_true, decide_eq_true_eq] at k
      obtain ⟨k0, ⟨n, k1⟩, k2, n2, k3⟩ := k
      subst k0
      exact S_hfld h n k1 k2 n2 k3, fun xs h k => by simp [okB] at k⟩
  | hpop1 b c => exact ⟨fun st h k => by
      cases st <;> try (simp [okS] at k; done)
      rename_i x p
      cases x <;> try (simp [okS] at k; done)
      rename_i f xs kw pos
      cases f <;> try (simp [okS] at k; done)
      cases kw <;> try (simp [okS] at k; done)
      rcases xs with _ | ⟨y, _ | ⟨y2, xs⟩⟩ <;> try (simp [okS] at k; done)
      simp only [okS, Bool.and_eq_true, decide_eq_true_eq] at k
      obtain ⟨rfl, ⟨n1, k1⟩, ⟨n2, k2⟩, k3, k4⟩ := k
      exact S_hpop1 h n1 k1 n2 k2 k3 k4 fun e r => drop_kv e r, fun xs h k => by simp [okB] at k⟩
  | hext b e => exact ⟨fun st h k => by
      cases st <;> try (simp [okS] at k; done)
      rename_i x p
      cases x <;> try (simp [okS] at k; done)
      rename_i f xs kw pos
      cases f <;> try (simp [okS] at k; done)
      cases kw <;> try (simp [okS] at k; done)
      rcases xs with _ | ⟨y, _ | ⟨y2, xs⟩⟩ <;> try (simp [okS] at k; done)
      simp only [okS, Bool.and_eq_true, decide_eq_true_eq] at k
      obtain ⟨rfl, ⟨n1, k1⟩, ⟨n2, k2⟩, k3, k4⟩ := k
      exact S_hext h n1 k1 n2 k2 k3 k4, fun xs h k => by simp [okB] at k⟩
  | hupd b e => exact ⟨fun st h k => by
      cases st <;> try (simp [okS] at k; done)
      rename_i x p
      cases x <;> try (simp [okS] at k; done)
      rename_i f xs kw pos
      cases f <;> try (simp [okS] at k; done)
      cases kw <;> try (simp [okS] at k; done)
      rcases xs with _ | ⟨y, _ | ⟨y2, xs⟩⟩ <;> try (simp [okS] at k; done)
      simp only [okS, Bool.and_eq_true, decide_eq_true_eq] at k
      obtain ⟨rfl, ⟨n1, k1⟩, ⟨n2, k2⟩, k3, k4⟩ := k
      exact S_hupd h n1 k1 n2 k2 k3 k4, fun xs h k => by simp [okB] at k⟩
  | par tg l => exact ⟨fun st h k => by
      cases st <;> try (simp [okS] at k; done)
      rename_i ts x p
      rcases ts with _ | ⟨t, _ | ⟨t2, ts⟩⟩ <;> try (simp [okS] at k; done)
      cases t <;> try (simp [okS] at k; done)
      cases x <;> try (simp [okS] at k; done)
      simp only [okS, Bool.and_eq_true, Bool.or_eq_true, decide_eq_true_eq] at k
      obtain ⟨k1, k2, nd, sw, hl⟩ := k
      exact S_par h k1 k2 nd sw hl, fun xs h k => by simp [okB] at k⟩
  | parO i a j b => exact ⟨fun st h k => by
      cases st <;> try (simp [okS] at k; done)
      rename_i ts x p
      rcases ts with _ | ⟨t, _ | ⟨t2, ts⟩⟩ <;> try (simp [okS] at k; done)
      cases t <;> try (simp [okS] at k; done)
      cases x <;> try (simp [okS] at k; done)
      rename_i us _ _ vs _ _
      rcases us with _ | ⟨u1, _ | ⟨u2, _ | ⟨u3, us⟩⟩⟩ <;> try (simp [okS] at k; done)
      cases u1 <;> try (simp [okS] at k; done)
      cases u2 <;> try (simp [okS] at k; done)
      rcases vs with _ | ⟨v1, _ | ⟨v2, _ | ⟨v3, vs⟩⟩⟩ <;> try (simp [okS] at k; done)
      simp only [okS, Bool.and_eq_true, decide_eq_true_eq] at k
      obtain ⟨n1, k1, fb, k2, kx, ky, hij, sw⟩ := k
      exact S_parO h n1 k1 fb k2 kx ky hij sw, fun xs h k => by simp [okB] at k⟩
  | raise c => exact ⟨fun st h k => by
      cases st <;> try (simp [okS] at k; done)
      rename_i x f p
      cases x <;> try (simp [okS] at k; done)
      rename_i x
      cases x <;> try (simp [okS] at k; done)
      rename_i fe xs kw p2
      cases fe <;> try (simp [okS] at k; done)
      cases xs <;> try (simp [okS] at k; done)
      cases kw <;> try (simp [okS] at k; done)
      cases f <;> try (simp [okS] at k; done)
      simp only [okS, Bool.and_eq_true, decide_eq_true_eq] at k
      exact S_raise h k.1 k.2, fun xs h k => by simp [okB] at k⟩
  | tryx body c n su ihb ihs => exact ⟨fun st h k => by
      cases st <;> try (simp [okS] at k; done)
      rename_i xs hs els fin p
      cases els <;> try (simp [okS] at k; done)
      cases fin <;> try (simp [okS] at k; done)
      rcases hs with _ | ⟨hd, _ | ⟨h2, hs⟩⟩ <;> try (simp [okS] at k; done)
      obtain ⟨t, nm, ys, hp⟩ := hd
      cases t <;> try (simp [okS] at k; done)
      rename_i t
      cases t <;> try (simp [okS] at k; done)
      cases nm <;> try (simp [okS] at k; done)
      simp only [okS, Bool.and_eq_true, decide_eq_true_eq, List.isEmpty_nil, true_and] at k
      obtain ⟨k1, k2, k3, k4, k5⟩ := k
      exact S_try h k1 k2 k3 k5 fun h' => ihb.2 xs h' k4, fun xs h k => by simp [okB] at k⟩
  | app i e => exact ⟨fun st h k => by
      cases st <;> try (simp [okS] at k; done)
      rename_i x p
      cases x <;> try (simp [okS] at k; done)
      rename_i f xs kw pos
      cases f <;> try (simp [okS] at k; done)
      cases kw <;> try (simp [okS] at k; done)
      rcases xs with _ | ⟨y, _ | ⟨y2, xs⟩⟩ <;> try (simp [okS] at k; done)
      simp only [okS, Bool.and_eq_true, decide_eq_true_eq] at k
      obtain ⟨rfl, k1, n, k2, k3⟩ := k
      exact S_app h n k1 k2 k3, fun xs h k => by simp [okB] at k⟩
  | happ b e => exact ⟨fun st h k => by
      cases st <;> try (simp [okS] at k; done)
      rename_i x p
      cases x <;> try (simp [okS] at k; done)
      rename_i f xs kw pos
      cases f <;> try (simp [okS] at k; done)
      cases kw <;> try (simp [okS] at k; done)
      rcases xs with _ | ⟨y, _ | ⟨y2, xs⟩⟩ <;> try (simp [okS] at k; done)
      simp only [okS, Bool.and_eq_true, decide_eq_true_eq] at k
      obtain ⟨rfl, nb, k1, n, k2, k3, k4⟩ := k
      exact S_happ h nb n k1 k2 k3 k4, fun xs h k => by simp [okB] at k⟩
  | expr e => exact ⟨fun st h k => by
      cases st <;> try (simp [okS] at k; done)
      simp only [okS, Bool.and_eq_true] at k
      exact S_expr k.2.2 ((snd (T := T) (N := N) e).e _ h.toCok k.2.1), fun xs h k => by simp [okB] at k⟩
  | ite c a b iha ihb => exact ⟨fun st h k => by
      cases st <;> try (simp [okS] at k; done)
      simp only [okS, Bool.and_eq_true] at k
      exact S_ite ((snd (T := T) (N := N) c).t _ h.toCok k.1) (iha.2 _ h k.2.1) (ihb.2 _ h k.2.2), fun xs h k => by simp [okB] at k⟩
  | «for» tg tt it body ih => exact ⟨fun st h k => by
      cases st <;> try (simp [okS] at k; done)
      rename_i t i xs es p
      simp only [okS, Bool.and_eq_true] at k
      obtain ⟨k0, k1, k2, k3⟩ := k
      cases es <;> try (simp at k0; done)
      have hi := (snd (T := T) (N := N) it).i (tt := tt) i t h.toCok k2 (fun z => by
        subst z
        cases t <;> first | exact ⟨_, _, _, rfl⟩ | (exfalso; simp [targetB] at k1))
      exact S_for h.po h.calm hi (pg_gT h.calm (by rw [h.hN]; exact h.nd) h.tg k1) (ih.2 xs h k3) (fold_ok (okI_nset k2)), fun xs h k => by simp [okB] at k⟩
  | «while» c body ih => exact ⟨fun st h k => by
      cases st <;> try (simp [okS] at k; done)
      rename_i t xs es p
      simp only [okS, Bool.and_eq_true] at k
      obtain ⟨k0, k1, k2⟩ := k
      cases es <;> try (simp at k0; done)
      exact S_while h.po ((snd (T := T) (N := N) c).t _ h.toCok k1) (ih.2 xs h k2), fun xs h k => by simp [okB] at k⟩
  | ret e => exact ⟨fun st h k => by
      cases st <;> try (simp [okS] at k; done)
      rename_i x p
      cases x <;> try (simp [okS] at k; done)
      simp only [okS, Bool.and_eq_true, Bool.not_eq_true'] at k
      obtain ⟨k0, n, k1⟩ := k
      subst k0
      exact S_ret (to_rep ((snd (T := T) (N := N) e).e _ h.toCok k1) n), fun xs h k => by simp [okB] at k⟩
  | retF e => exact ⟨fun st h k => by
      cases st <;> try (simp [okS] at k; done)
      rename_i x p
      cases x <;> try (simp [okS] at k; done)
      simp only [okS, Bool.and_eq_true] at k
      obtain ⟨k0, n, k1⟩ := k
      subst k0
      exact S_retF (by cases e <;> first | exact .inl rfl | exact .inr rfl | (cases n; done)) ((snd (T := T) (N := N) e).e _ h.toCok k1), fun xs h k => by simp [okB] at k⟩
  | cont => exact ⟨fun st h k => by
      cases st <;> try (simp [okS] at k; done)
      exact S_cont, fun xs h k => by simp [okB] at k⟩
  | _ => exact ⟨fun st h k => by simp [okS] at k, fun xs h k => by simp [okB] at k⟩
end
end Pv

set_option Elab.async false
set_option linter.all false
set_option maxRecDepth 100000
set_option maxHeartbeats 8000000
namespace Pv
open PySem L2

/-! ### defs -/
/-- the def's own name; its name with its class is the qualified one -/
def Fn.nm (fn : Fn) : Str := match fn.mt with
  | none => fn.name
  | some t => t.m
structure Dfs (P : List Fn) (gi : List (Str × GV)) (xn : List Str) (K : PySem.W.Frag) (mg : Str → Option Value) (ca : Nat → Addr) (fn : Fn) (st : Stmt) (f : Addr) (fd : FuncData) (ps : List Str) : Prop where
  fun_ : FunD K fn.nm fn.name (defArgs st) (defBody st) (defScope st) [] [] f fd
  sc : FnScope fn.N ps (defScope st)
  np : ps.length = fn.np
  mgf : Stands K mg ca fn f
  bd : Binds K fd ps []
  ck : okB P gi xn fn.N (defScope st) fn.own fn.body (defBody st) = true
theorem start_sr {w : Wd} {M : Store} {fn : Fn} {vs : List V} {ds : List D} (f : Wf w) (s : Sto w M) (r : Reps w vs ds) : Sr w (entry fn ds) M w (L2.start fn.N vs) := by
  have key : ∀ (i : Nat) (sl : Slot), (entry fn ds)[i]? = some sl → (∃ d, ds[i]? = some d ∧ sl = .sh d) ∨ sl = .no := by
    intro i sl h
    unfold entry at h
    by_cases hi : i < ds.length
    · rw [List.getElem?_append_left (by simpa using hi), List.getElem?_map, List.getElem?_eq_getElem hi] at h
      exact .inl ⟨ds[i], List.getElem?_eq_getElem hi, (Option.some.inj h).symm⟩
    · rw [List.getElem?_append_right (by simpa using hi)] at h
      rw [List.getElem?_replicate] at h
      split at h
      · exact .inr (Option.some.inj h).symm
      · cases h
  refine ⟨f, Ext.refl w, s, ?_, fun i d h => ?_, fun i d h => ?_, fun i j d e p h _ _ _ => ?_⟩
  · unfold entry L2.start
    simp [r.length]
  · rcases key i _ h with ⟨d', h1, h2⟩ | h2
    · cases h2
      obtain ⟨v, h3, h4⟩ := r.get h1
      refine ⟨v, ?_, h4⟩
      unfold L2.start
      have hi : i < vs.length := (List.getElem?_eq_some_iff.mp h3).1
      rw [List.getElem?_append_left (by simpa using hi), List.getElem?_map, h3]; rfl
    · cases h2
  · rcases key i _ h with ⟨d', h1, h2⟩ | h2 <;> cases h2
  · rcases key i _ h with ⟨d', h1, h2⟩ | h2 <;> cases h2
theorem run_len {P : List Fn} {k f : Nat} {fn : Fn} {ds : List D} {M : Store} (h : P[f]? = some fn) (hl : ds.length ≠ fn.np) : run P k f ds M = .fail := by
  cases k with
  | zero => rfl
  | succ k =>
    unfold run
    rw [h]
    simp only
    rw [if_neg hl]
/-- all defs keep their promises, to the depth k -/
theorem run_ok {Pg : Program} {W : World} {K : PySem.W.Frag} {mg : Str → Option Value} {base : Heap} {P : List Fn} {xn : List Str} {gi : List (Str × GV)} {cls : Nat → Value} {ca : Nat → Addr}
    (blt : ∀ x ∈ bltN, mg x = none) (hgi : ∀ x i, (x, .int i) ∈ gi → ∃ t, mg x = some (.int i t)) (hgd : ∀ x kvs, (x, .dct kvs) ∈ gi → ∃ a es n, mg x = some (.ref a) ∧ KDict K W a es n ∧ ∀ q ∈ kvs, ∃ t, PySem.W.nsIn K a q.1 = some (some (.str q.2 t)))
    (hxc : ∀ c x, xn[c]? = some x → ∃ C : Addr, cls c = .ref C ∧ mg x = some (.ref C) ∧ PySem.W.excIn K C He.veBase "ValueError.__new__" = true ∧ PySem.W.keepIn K (.ref C) = true ∧ PySem.W.subIn K (.ref C) (.type "BaseException") = some true ∧ PySem.W.typeIn K (.ref C) = some (.type "type"))
    (hxm : ∀ c d x y, xn[c]? = some x → xn[d]? = some y → PySem.W.exmOne K (cls c) (cls d) = some (decide (c = d)))
    (D : ∀ (i : Nat) (fn : Fn), P[i]? = some fn → ∃ st f fd ps, Dfs P gi xn K mg ca fn st f fd ps) : ∀ (k i : Nat) (fn : Fn), P[i]? = some fn → ∀ st f fd ps, Dfs P gi xn K mg ca fn st f fd ps →
      FnOk Pg W K mg base (L2.CX Pg W) (2 * k) f fd ps (spF cls ca K fn.own fn.np (run P k i)) := by
  intro k
  induction k with
  | zero =>
    intro i fn hi st f fd ps d
    refine ⟨fun vs H Q E h => h.1.trans d.np.symm, fun A outer s H args us vs Q E _ _ _ _ h => ?_⟩
    obtain ⟨_, ds, M, w, _, _, _, _, _, _, a⟩ := h
    exact a.elim
  | succ k ih =>
    intro i fn hi st f fd ps d
    refine d.fun_.ok (k := 2 * k + 1) d.sc (fun vs H Q E h => h.1.trans d.np.symm) fun cdv A outer s H vs Q E hr h => ?_
    obtain ⟨hl, ds, M, w, rfl, hK, hB, wf, sto, rr, a⟩ := h
    let g : Gx := ⟨w, fun c d _ H => E c d H, cls⟩
    let T : Tb := ⟨P, xn, gi, 2 * k, run P k, cls, ca⟩
    refine ⟨GS g fn.own (ex (run P k) fn.body), ?_, ?_⟩
    · refine (sndS (T := T) (N := fn.N) fn.body).2 (defBody st) (sc := defScope st) ?_ d.ck
      refine { p := ⟨blt, fun j fn' hj => ?_, hgi, hgd, hxc, hxm, fun f fn' ds M hf hl => run_len hf hl⟩, room := hr, hN := rfl, nd := d.sc.nd, sc := rfl, calm := rfl, tk := takes_of rfl rfl rfl rfl, gc := rfl, kk := hK, bb := hB, po := passes_of rfl, fn := fun _ => rfl, kd := d.sc.kind, stk := rfl, frm := rfl }
      obtain ⟨st', f', fd', ps', d'⟩ := D j fn' hj
      exact ⟨f', fd', ps', ⟨d'.mgf, d'.fun_.kp, d'.bd, ih j fn' hj st' f' fd' ps' d'⟩⟩
    · refine ⟨entry fn ds, M, w, rfl, start_sr wf sto rr, ?_⟩
      unfold run at a
      rw [hi] at a
      dsimp only at a
      rw [if_pos (rr.length.symm.trans hl)] at a
      generalize ex (run P k) fn.body (entry fn ds) M = o at a ⊢
      cases o with
      | nx ρ' M' =>
        unfold outR at a
        cases ho : fn.own with
        | true => rw [ho] at a; exact a.elim
        | false =>
          rw [ho] at a
          exact fun σ' w' le s' => a .non w' s'.e0 s'.wf s'.sto .non
      | ct ρ' M' => exact a.elim
      | ret d M' => exact fun v w' ex wf' st' r => a v w' ex wf' st' r
      | exc c ρ' M' => exact fun σ' w' le s' => a w' s'.e0 s'.wf s'.sto
      | fail => exact a.elim
end Pv

set_option Elab.async false
set_option linter.all false
set_option maxRecDepth 100000
set_option maxHeartbeats 8000000
namespace Pv
open PySem L2

/-! ### the end: a law's def answers True -/
theorem noex {P : Program} {w : World} {K : PySem.W.Frag} {mg : Str → Option Value} {base : Heap} {k : Nat} {f : Addr} {fd : FuncData} {ps : List Str} {sp : Sp} (F : FnOk P w K mg base (L2.CX P w) k f fd ps sp) :
    FnOk P w K mg base CX0 k f fd ps fun vs H Q _ => sp vs H Q fun _ _ _ => False :=
  ⟨fun vs H Q E q => F.len vs H Q _ q, fun A outer s H args us vs Q E hr he hb hv hs => codeAny_mono (F.run A outer s H args us vs Q (fun _ _ _ => False) hr he hb hv hs) fun r s' c => by
    cases r with
    | ok u => cases u <;> exact c
    | error e =>
      obtain ⟨_, _, _, _, _, _, _, _, _, _, _, _, z⟩ := c
      exact z.elim⟩
theorem law_sp {K : PySem.W.Frag} {cls : Nat → Value} {ca : Nat → Addr} {call : List D → Store → Res D} {H : Hp} {a : Addr} {ns : List Int} (h : ∃ M', call [.scr (ns.map .int)] [] = .ok (.bl true) M') (hO : Only H) (hS : SqL K H a (ns.map V.int)) :
    spF cls ca K false 1 call [.ref a] H (fun v _ => v = .bl true) fun _ _ _ => False := by
  obtain ⟨M', e⟩ := h
  have fin : ∀ w : Wd, w.H = H → w.K = K → w.B = ca → Wf w → Sto w [] → Rep w (.ref a) (.scr (ns.map .int)) → spF cls ca K false 1 call [.ref a] H (fun v _ => v = .bl true) fun _ _ _ => False := by
    intro w hH hK hB wf st r
    refine ⟨rfl, [.scr (ns.map .int)], [], w, hH, hK, hB, wf, st, .cons r .nil, ?_⟩
    rw [e]
    intro v w' _ _ _ r
    have r : Rep w' v (.bl true) := r
    cases r
    rfl
  rcases hS with hS | ⟨o, its, m, h1, h2, h3, h4, h5, h6⟩
  · rcases hO a with q | ⟨o, xs, q⟩
    · rcases hS with z | ⟨o, z⟩ <;> rw [q] at z <;> cases z
    · have e2 : xs = ns.map V.int := by
        rcases hS with z | ⟨o, z⟩ <;> rw [q] at z <;> cases z
        rfl
      subst e2
      refine fin ⟨fun b => b = a, [], H, K, ca⟩ rfl rfl rfl ⟨fun b hb => ⟨List.not_mem_nil, _, hb ▸ q⟩, List.nodup_nil, fun x hx => absurd hx List.not_mem_nil⟩ ⟨rfl, fun n a d h1 _ => by cases h1⟩ (.scr rfl q (.of_ints ns))
  · refine fin ⟨fun _ => False, [], H, K, ca⟩ rfl rfl rfl ⟨fun b hb => hb.elim, List.nodup_nil, fun x hx => absurd hx List.not_mem_nil⟩ ⟨rfl, fun n a d h1 _ => by cases h1⟩ (.scrK ⟨o, its, m, h1, h2, h3, h4, h5, h6⟩ (.of_ints ns))

/-! ### a program's defs -/
structure Item where
  fn : Fn
  st : Stmt
  ps : List Str
structure ItemOk (P : List Fn) (gi : List (Str × GV)) (xn : List Str) (t : Item) : Prop where
  sc : FnScope t.fn.N t.ps (defScope t.st)
  np : t.ps.length = t.fn.np
  ck : okB P gi xn t.fn.N (defScope t.st) t.fn.own t.fn.body (defBody t.st) = true
  bd : ∀ (kV doc pm : Value) (an : Option Addr) (cdv ct : Value) (us : List Value), us.length = t.ps.length → bindArgs (PySem.W.fnOf t.fn.nm t.fn.name (defArgs t.st) (defBody t.st) (defScope t.st) .none kV doc pm an cdv ct) ⟨us, []⟩ = pure (t.ps.zip us)
def AllOk (P : List Fn) (gi : List (Str × GV)) (xn : List Str) : List Item → Prop
  | [] => True
  | t :: r => ItemOk P gi xn t ∧ AllOk P gi xn r
theorem AllOk.get {P : List Fn} {gi : List (Str × GV)} {xn : List Str} : ∀ {l : List Item}, AllOk P gi xn l → ∀ {i : Nat} {t : Item}, l[i]? = some t → ItemOk P gi xn t
  | [], _, _, _, h => by cases h
  | t :: r, a, 0, _, h => by
    cases h; exact a.1
  | t :: r, a, i + 1, _, h => AllOk.get a.2 (i := i) (by simpa using h)
def Fn.at_ (fn : Fn) : Str × Option Str := match fn.mt with
  | none => (fn.name, none)
  | some t => (t.cn, some t.m)
def Item.dd (t : Item) : He.DefD := ⟨t.fn.at_, t.fn.nm, t.fn.name, defArgs t.st, defBody t.st, defScope t.st, [], []⟩
def dds (l : List Item) : List He.DefD := l.map Item.dd
/-- which exception is which -/
def exms (xn : List Str) : List He.Fa := xn.flatMap fun x => xn.map fun y => .exm x y (decide (x = y))
/-- what is asked of a def's place -/
def fnFas (fn : Fn) : List He.Fa := match fn.mt with
  | none => [.glo fn.name]
  | some t => [.glo t.cn, .cls t.cn, .meth t.cn t.m] ++ (if t.m = "__init__" then [.mkr t.cn] else []) ++ t.fl.map fun x => .noat t.cn x
def giFas (p : Str × GV) : List He.Fa := match p.2 with
  | .int i => [.int p.1 i]
  | .dct _ => [.glo p.1]
def fas (l : List Item) (gi : List (Str × GV)) (xn : List Str) : List He.Fa := l.flatMap (fun t => fnFas t.fn) ++ (bltN.map .free ++ (gi.flatMap giFas ++ (xn.map .glo ++ (xn.map .exc ++ exms xn))))
/-! the dicts of the module -/
def dctOf (gi : List (Str × GV)) : List (Str × List (Str × Str)) := gi.filterMap fun p => match p.2 with
  | .int _ => none
  | .dct kvs => some (p.1, kvs)
def tabs (gi : List (Str × GV)) : List He.Tab := (dctOf gi).map fun d => (fun K => He.ga K d.1, d.2.map (·.1))
def valsOk (gi : List (Str × GV)) (K : PySem.W.Frag) : Bool := (dctOf gi).all fun d => He.valsB K (He.ga K d.1) (d.2.map fun q => (q.1, He.Dv.str q.2))
abbrev AlW : Type := He.AlT × Bool
def obsW (fa : List He.Fa) (fn : List He.DefD) (gi : List (Str × GV)) (K : PySem.W.Frag) : AlW := (He.obsT fa fn (tabs gi) K, valsOk gi K)
def SaysW (fa : List He.Fa) (fn : List He.DefD) (gi : List (Str × GV)) (w : World) (K : PySem.W.Frag) : Prop := He.SaysT fa fn (tabs gi) w K ∧ valsOk gi K = true
def obsWG (n : Nat) (fa : List He.Fa) (fn : List He.DefD) (gi : List (Str × GV)) (f : Addr → Option Obj) : AlW := obsW fa fn gi (He.frG f (He.asD f n))
def hookW (n : Nat) (fa : List He.Fa) (fn : List He.DefD) (gi : List (Str × GV)) : PySem.W.Hook where
  α := AlW
  obs := fun s => obsWG n fa fn gi s.heap.get?
  val := fun w => (He.valT fn (tabs gi) w, true)
  says := fun w h => ∃ K : PySem.W.Frag, K.In h ∧ SaysW fa fn gi w K
  of := fun _ _ e => ⟨_, He.frG_in, congrArg Prod.fst e, congrArg Prod.snd e⟩
  keeps := fun _ _ _ ⟨K, hK, c⟩ k => ⟨K, PySem.W.Frag.In.keeps hK k, c⟩
theorem obsWG_eq {n : Nat} {fa : List He.Fa} {fn : List He.DefD} {gi : List (Str × GV)} {f : Addr → Option Obj} {s : Shared} (h : ∀ a, f a = s.heap.get? a) : obsWG n fa fn gi f = (hookW n fa fn gi).obs s := by
  have e : f = s.heap.get? := funext h
  subst e; rfl
section
variable {K : PySem.W.Frag} {l : List Item} {gi : List (Str × GV)} {xn : List Str} {h : Heap} {mg : Str → Option Value} {w : World}
theorem fact_mem (c : SaysW (fas l gi xn) (dds l) gi w K) {f : He.Fa} (m : f ∈ fas l gi xn) : f.ok K = true := by
  obtain ⟨i, e⟩ := List.mem_iff_getElem?.mp m
  exact c.1.d.fact i e
/-- the classes' names, by their numbers -/
def cnsOk (P : List Fn) (cns : List Str) : Bool := P.all fun fn => match fn.mt with
  | none => true
  | some t => decide (cns[t.c]? = some t.cn)
theorem stands_of (X : K.In h) (G : h.Ns mainGlobals mg) (c : SaysW (fas l gi xn) (dds l) gi w K) {cns : List Str} (hc : cnsOk (l.map (·.fn)) cns = true) {t : Item} (e : t ∈ l) : Stands K mg (fun c => He.ga K (cns.getD c "")) t.fn (He.fAd K t.fn.at_) := by
  have hm : ∀ f ∈ fnFas t.fn, f.ok K = true := fun f hf => fact_mem c (List.mem_append_left _ (List.mem_flatMap.mpr ⟨t, e, hf⟩))
  have hc := List.all_eq_true.mp hc t.fn (List.mem_map.mpr ⟨t, e, rfl⟩)
  unfold Stands Fn.at_
  unfold fnFas at hm
  cases q : t.fn.mt with
  | none =>
    rw [q] at hm
    exact He.glo_ok X G (hm _ List.mem_cons_self)
  | some m =>
    rw [q] at hm hc
    have hc := of_decide_eq_true hc
    have ec : (cns.getD m.c "") = m.cn := by rw [List.getD_eq_getElem?_getD, hc]; rfl
    dsimp only at hm ⊢
    rw [ec]
    refine ⟨He.glo_ok X G (hm _ (by simp)), He.cls_ok (hm _ (by simp)), He.meth_ok (hm _ (by simp)), fun em => ?_, fun x hx => He.noat_ok (hm _ (List.mem_append_right _ (List.mem_map.mpr ⟨x, hx, rfl⟩)))⟩
    have := He.mkr_ok (x := m.cn) (K := K) (hm _ (by simp [em]))
    rw [em]; exact this
theorem dfs_of (X : K.In h) (G : h.Ns mainGlobals mg) (c : SaysW (fas l gi xn) (dds l) gi w K) {cns : List Str} (hc : cnsOk (l.map (·.fn)) cns = true) (ok : AllOk (l.map (·.fn)) gi xn l) {i : Nat} {t : Item} (e : l[i]? = some t) :
    ∃ fd, Dfs (l.map (·.fn)) gi xn K mg (fun c => He.ga K (cns.getD c "")) t.fn t.st (He.fAd K t.fn.at_) fd t.ps := by
  have o := ok.get e
  obtain ⟨fd, F⟩ := c.1.d.def_ i (d := t.dd) (by unfold dds; rw [List.getElem?_map, e]; rfl)
  have F : FunD K t.fn.nm t.fn.name (defArgs t.st) (defBody t.st) (defScope t.st) [] [] (He.fAd K t.fn.at_) fd := F
  exact ⟨fd, F, o.sc, o.np, stands_of X G c hc (List.mem_of_getElem? e), F.bindsN o.bd, o.ck⟩
theorem dct_mem {x : Str} {kvs : List (Str × Str)} : ∀ {gi : List (Str × GV)}, (x, GV.dct kvs) ∈ gi → (x, kvs) ∈ dctOf gi := fun {gi} hm => List.mem_filterMap.mpr ⟨_, hm, rfl⟩
theorem gd_of (X : K.In h) (G : h.Ns mainGlobals mg) (c : SaysW (fas l gi xn) (dds l) gi w K) {x : Str} {kvs : List (Str × Str)} (hm : (x, GV.dct kvs) ∈ gi) :
    ∃ a es n, mg x = some (.ref a) ∧ KDict K w a es n ∧ ∀ q ∈ kvs, ∃ t, PySem.W.nsIn K a q.1 = some (some (.str q.2 t)) := by
  have hd := dct_mem hm
  obtain ⟨i, hi⟩ := List.mem_iff_getElem?.mp hd
  obtain ⟨es, n, D⟩ := c.1.tab i (t := (fun K => He.ga K x, kvs.map (·.1))) (by unfold tabs; rw [List.getElem?_map, hi]; rfl)
  refine ⟨He.ga K x, es, n, ?_, D, fun q hq => ?_⟩
  · refine He.glo_ok X G (fact_mem c ?_)
    refine List.mem_append_right _ (List.mem_append_right _ (List.mem_append_left _ (List.mem_flatMap.mpr ⟨_, hm, ?_⟩)))
    exact List.mem_cons_self
  · have hv := List.all_eq_true.mp c.2 _ hd
    obtain ⟨u, h1, h2⟩ := He.valsB_ok hv (q := (q.1, He.Dv.str q.2)) (List.mem_map.mpr ⟨q, hq, rfl⟩)
    obtain ⟨t, rfl⟩ := h2
    exact ⟨t, h1⟩
/-- a law's walk from its run -/
theorem walkF {lw : PySem.W.OpenLaw} {n : Nat} {q : Program} {loose : List Str} {XP : (Str → Option Value) → Heap → Prop} {YP : World → Heap → Prop} {d : DefRec} (l : List Item) (gi : List (Str × GV)) (xn cns : List Str) (hxn : xn.Nodup) (ok : AllOk (l.map (·.fn)) gi xn l) (hcn : cnsOk (l.map (·.fn)) cns = true)
    (li : Nat) (t : Item) (x : Str) (k : Nat) (hl : l[li]? = some t) (hps : t.ps = [x]) (hown : t.fn.own = false) (hmt : t.fn.mt = none) (hd : d.name = t.fn.name)
    (hn : lw.most = some n) (hn2 : n ≤ sizeLine) (hdf : d.params.defaults = []) (hr : Room (2 * k) callerA)
    (hY : ∀ w h, YP w h → ∃ K : PySem.W.Frag, K.In h ∧ SaysW (fas l gi xn) (dds l) gi w K)
    (hrun : ∀ ns : List Int, ns.length ≤ n → ∃ M', run (l.map (·.fn)) k li [.scr (ns.map .int)] [] = .ok (.bl true) M') :
    PySem.W.WalkO q loose XP YP lw.row.toRowW d [] (fun f vs => PySem.call f vs) := by
  refine L2.walk_ofE (k := 2 * k) (CX := CX0) (x := x) hn hn2 hdf hr ?_ (fun _ _ _ _ z => z)
  intro w mg fa h Y G hmg
  obtain ⟨K, KX, c⟩ := hY w h Y
  obtain ⟨fd, D⟩ := dfs_of KX G c hcn ok hl
  have eat : t.fn.at_ = (t.fn.name, none) := by unfold Fn.at_; rw [hmt]
  have mgf : mg t.fn.name = some (.ref (He.fAd K t.fn.at_)) := by
    have z := D.mgf
    unfold Stands at z
    rw [hmt] at z; exact z
  have e : fa = He.fAd K t.fn.at_ := by
    rw [hd, mgf] at hmg
    cases hmg; rfl
  subst e
  have b := FunD.bindsA D.fun_ (ok.get hl).bd
  have hnp : t.fn.np = 1 := by rw [← D.np, hps]; rfl
  refine ⟨K, fd, fun vs H Q _ => spF (fun c => .ref (He.ga K (xn.getD c ""))) (fun c => He.ga K (cns.getD c "")) K false 1 (run (l.map (·.fn)) k li) vs H Q fun _ _ _ => False, KX, fun s u => ?_, fun H a ns hlen hO hS => law_sp (hrun ns hlen) hO hS, fun base _ Gb => ?_⟩
  · have := b s [u] (by rw [hps]; rfl)
    rw [hps] at this
    exact this
  · have hfn : (l.map (·.fn))[li]? = some t.fn := by rw [List.getElem?_map, hl]; rfl
    have R := run_ok (Pg := lw.prog) (W := w) (base := base) (xn := xn) (P := l.map (·.fn)) (gi := gi) (mg := mg) (K := K) (cls := fun c => .ref (He.ga K (xn.getD c ""))) (ca := fun c => He.ga K (cns.getD c ""))
      (fun x hx => He.free_ok KX G (fact_mem c (List.mem_append_right _ (List.mem_append_left _ (List.mem_map.mpr ⟨x, hx, rfl⟩)))))
      (fun x i hx => He.int_ok KX G (fact_mem c (List.mem_append_right _ (List.mem_append_right _ (List.mem_append_left _ (List.mem_flatMap.mpr ⟨(x, .int i), hx, List.mem_cons_self⟩))))))
      (fun x kvs hx => gd_of KX G c hx)
      (fun cc x hx => by
        have hm := List.mem_of_getElem? hx
        have e1 : xn.getD cc "" = x := by rw [List.getD_eq_getElem?_getD, hx]; rfl
        have gl := He.glo_ok KX G (fact_mem c (List.mem_append_right _ (List.mem_append_right _ (List.mem_append_right _ (List.mem_append_left _ (List.mem_map.mpr ⟨x, hm, rfl⟩))))))
        have ex := He.exc_ok (fact_mem c (List.mem_append_right _ (List.mem_append_right _ (List.mem_append_right _ (List.mem_append_right _ (List.mem_append_left _ (List.mem_map.mpr ⟨x, hm, rfl⟩)))))))
        exact ⟨He.ga K x, by rw [e1], gl, ex.1, ex.2.1, ex.2.2.1, ex.2.2.2⟩)
      (fun c1 c2 x y hx hy => by
        have hm := List.mem_of_getElem? hx
        have hm2 := List.mem_of_getElem? hy
        have e1 : xn.getD c1 "" = x := by rw [List.getD_eq_getElem?_getD, hx]; rfl
        have e2 : xn.getD c2 "" = y := by rw [List.getD_eq_getElem?_getD, hy]; rfl
        have ex := He.exm_ok (fact_mem c (f := .exm x y (decide (x = y))) (List.mem_append_right _ (List.mem_append_right _ (List.mem_append_right _ (List.mem_append_right _ (List.mem_append_right _ (List.mem_flatMap.mpr ⟨x, hm, List.mem_map.mpr ⟨y, hm2, rfl⟩⟩)))))))
        have e3 : decide (x = y) = decide (c1 = c2) := by
          refine decide_eq_decide.mpr ⟨fun e => ?_, fun e => ?_⟩
          · subst e
            obtain ⟨a1, b1⟩ := List.getElem?_eq_some_iff.mp hx
            obtain ⟨a2, b2⟩ := List.getElem?_eq_some_iff.mp hy
            exact (List.getElem_inj hxn).mp (b1.trans b2.symm)
          · subst e
            rw [hx] at hy
            exact Option.some.inj hy
        rw [e3] at ex
        rw [e1, e2]
        exact ex)
      (fun i fn hi => by
        rw [List.getElem?_map] at hi
        cases ht : l[i]? with
        | none => rw [ht] at hi; cases hi
        | some u =>
          rw [ht] at hi
          cases hi
          obtain ⟨fd', D'⟩ := dfs_of KX G c hcn ok ht
          exact ⟨_, _, _, _, D'⟩) k li t.fn hfn t.st _ fd t.ps D
    rw [hown, hnp, hps] at R
    exact noex R
end
end Pv

set_option Elab.async false
set_option linter.all false
set_option maxRecDepth 100000
set_option maxHeartbeats 4000000
namespace Pv.Wp
open PySem L2 Pv

/-! ### what a run may end with: a calculus of weakest conditions -/
def RW {α : Type} (r : Res α) (Q : α → Store → Prop) (X : Nat → Store → Prop) : Prop := match r with
  | .ok a M => Q a M
  | .exc c M => X c M
  | .fail => False
def PW {α : Type} (o : Option α) (k : α → Prop) : Prop := match o with
  | some a => k a
  | none => False
structure Ek where
  nx : Rho → Store → Prop
  ct : Rho → Store → Prop
  rt : D → Store → Prop
  xc : Nat → Rho → Store → Prop
def OW (o : Out) (e : Ek) : Prop := match o with
  | .nx ρ M => e.nx ρ M
  | .ct ρ M => e.ct ρ M
  | .ret d M => e.rt d M
  | .exc c ρ M => e.xc c ρ M
  | .fail => False
theorem pw_some {α : Type} {a : α} {k : α → Prop} (h : k a) : PW (some a) k := h
theorem pw_eq {α : Type} {o : Option α} {a : α} {k : α → Prop} (e : o = some a) (h : k a) : PW o k := by rw [e]; exact h
theorem pw_if {α : Type} {c : Prop} [Decidable c] {o o' : Option α} {k : α → Prop} (hc : c) (h : PW o k) : PW (if c then o else o') k := by rw [if_pos hc]; exact h
theorem rw_ok {α : Type} {r : Res α} {a : α} {M : Store} {Q : α → Store → Prop} {X : Nat → Store → Prop} (e : r = .ok a M) (h : Q a M) : RW r Q X := by rw [e]; exact h
theorem ok_of {α : Type} {r : Res α} {a : α} {M : Store} (h : RW r (fun b M' => b = a ∧ M' = M) fun _ _ => False) : r = .ok a M := by
  cases r with
  | ok b M' => obtain ⟨rfl, rfl⟩ := h; rfl
  | exc c M' => exact h.elim
  | fail => exact h.elim
theorem ok_ex {α : Type} {r : Res α} {Q : α → Store → Prop} (h : RW r Q fun _ _ => False) : ∃ a M, r = .ok a M ∧ Q a M := by
  cases r with
  | ok b M' => exact ⟨b, M', rfl, h⟩
  | exc c M' => exact h.elim
  | fail => exact h.elim
theorem RW.mono {α : Type} {r : Res α} {Q Q' : α → Store → Prop} {X X' : Nat → Store → Prop} (h : RW r Q X) (k : ∀ a M, Q a M → Q' a M) (x : ∀ c M, X c M → X' c M) : RW r Q' X' := by
  cases r with
  | ok b M' => exact k _ _ h
  | exc c M' => exact x _ _ h
  | fail => exact h
theorem OW.mono {o : Out} {e e' : Ek} (h : OW o e) (a : ∀ ρ M, e.nx ρ M → e'.nx ρ M) (b : ∀ ρ M, e.ct ρ M → e'.ct ρ M) (c : ∀ d M, e.rt d M → e'.rt d M) (x : ∀ c ρ M, e.xc c ρ M → e'.xc c ρ M) : OW o e' := by
  cases o with
  | nx ρ M => exact a _ _ h
  | ct ρ M => exact b _ _ h
  | ret d M => exact c _ _ h
  | exc c ρ M => exact x _ _ _ h
  | fail => exact h
theorem rw_bind {α β : Type} {r : Res α} {k : α → Store → Res β} {Q : β → Store → Prop} {X : Nat → Store → Prop} (h : RW r (fun a M => RW (k a M) Q X) X) : RW (r.bind k) Q X := by
  cases r with
  | ok b M' => exact h
  | exc c M' => exact h
  | fail => exact h
theorem rw_opt {α : Type} {o : Option α} {M : Store} {Q : α → Store → Prop} {X : Nat → Store → Prop} (h : PW o fun a => Q a M) : RW (opt o M) Q X := by
  cases o with
  | none => exact h
  | some a => exact h
theorem pw_map {α β : Type} {o : Option α} {f : α → β} {k : β → Prop} (h : PW o fun a => k (f a)) : PW (o.map f) k := by
  cases o with
  | none => exact h
  | some a => exact h
theorem rw_if {α : Type} {c : Prop} [Decidable c] {r r' : Res α} {Q : α → Store → Prop} {X : Nat → Store → Prop} (hc : c) (h : RW r Q X) : RW (if c then r else r') Q X := by rw [if_pos hc]; exact h
theorem ow_ofR {α : Type} {ρ : Rho} {r : Res α} {k : α → Store → Out} {e : Ek} (h : RW r (fun a M => OW (k a M) e) fun c M => e.xc c ρ M) : OW (ofR ρ r k) e := by
  cases r with
  | ok b M' => exact h
  | exc c M' => exact h
  | fail => exact h
section
variable {C : Nat → List D → Store → Res D} {ρ : Rho} {M : Store} {Q : D → Store → Prop} {X : Nat → Store → Prop} {QB : Bool → Store → Prop} {QL : List D → Store → Prop} {a b c l : E} {d : D} {i : Nat}
/-! expressions -/
theorem w_int {i : Int} (h : Q (.int i) M) : RW (ev C (.int i) ρ M) Q X := h
theorem w_str {x : Str} (h : Q (.str x) M) : RW (ev C (.str x) ρ M) Q X := h
theorem w_bl {x : Bool} (h : Q (.bl x) M) : RW (ev C (.bl x) ρ M) Q X := h
theorem w_non (h : Q .non M) : RW (ev C .non ρ M) Q X := h
theorem w_glob {x : Str} {i : Int} (h : Q (.int i) M) : RW (ev C (.glob x i) ρ M) Q X := h
theorem w_var (e : ρ[i]? = some (.sh d)) (h : Q d M) : RW (ev C (.var i) ρ M) Q X := by
  simp only [ev, e]; exact h
theorem w_peek (e : ρ[i]? = some (.ow d)) (h : Q d M) : RW (ev C (.peek i) ρ M) Q X := by
  simp only [ev, e]; exact h
theorem w_move (e : ρ[i]? = some (.ow d)) (h : Q d M) : RW (ev C (.move i) ρ M) Q X := by
  simp only [ev, e]; exact h
theorem w_bin {k : BK} (h : RW (ev C a ρ M) (fun x M => RW (ev C b ρ M) (fun y M => PW (binD k x y) fun d => Q d M) X) X) : RW (ev C (.bin k a b) ρ M) Q X := by
  simp only [ev]
  exact rw_bind (h.mono (fun x M h => rw_bind (h.mono (fun y M h => rw_opt h) fun _ _ h => h)) fun _ _ h => h)
theorem w_neg (h : RW (ev C a ρ M) (fun x M => ∃ i : Int, x = .int i ∧ Q (.int (-i)) M) X) : RW (ev C (.neg a) ρ M) Q X := by
  simp only [ev]
  refine rw_bind (h.mono (fun x M h => ?_) fun _ _ h => h)
  obtain ⟨i, rfl, h⟩ := h
  exact h
theorem w_negI {i : Int} (h : Q (.int (-i)) M) : RW (ev C (.neg (.int i)) ρ M) Q X := h
theorem w_cmp {k : CK} (h : RW (ev C a ρ M) (fun x M => RW (ev C b ρ M) (fun y M => PW (cmpD k x (dr M y)) fun t => Q (.bl t) M) X) X) : RW (ev C (.cmp k a b) ρ M) Q X := by
  simp only [ev]
  exact rw_bind (h.mono (fun x M h => rw_bind (h.mono (fun y M h => rw_opt (pw_map h)) fun _ _ h => h)) fun _ _ h => h)
theorem w_not (h : RW (ev C a ρ M) (fun x M => PW (truD (dr M x)) fun t => Q (.bl (!t)) M) X) : RW (ev C (.not a) ρ M) Q X := by
  simp only [ev, truR]
  exact rw_bind (rw_bind (h.mono (fun x M h => rw_opt h) fun _ _ h => h))
theorem w_ite (h : RW (evT C c ρ M) (fun t M => (t = true → RW (ev C a ρ M) Q X) ∧ (t = false → RW (ev C b ρ M) Q X)) X) : RW (ev C (.ite c a b) ρ M) Q X := by
  simp only [ev]
  refine rw_bind (h.mono (fun t M h => ?_) fun _ _ h => h)
  cases t with
  | true => exact h.1 rfl
  | false => exact h.2 rfl
theorem w_tup (h : RW (evs C l ρ M) (fun ds M => ds.length ≤ LIM ∧ Q (.tup ds) M) X) : RW (ev C (.tup l) ρ M) Q X := by
  simp only [ev]
  exact rw_bind (h.mono (fun x M h => rw_if h.1 h.2) fun _ _ h => h)
theorem w_lst (h : RW (evs C l ρ M) (fun ds M => ds.length ≤ LIM ∧ Q (.lst ds) M) X) : RW (ev C (.lst l) ρ M) Q X := by
  simp only [ev]
  exact rw_bind (h.mono (fun x M h => rw_if h.1 h.2) fun _ _ h => h)
theorem w_idx (h : RW (ev C a ρ M) (fun x M => RW (ev C b ρ M) (fun y M => PW (idxD (dr M x) y) fun d => Q d M) X) X) : RW (ev C (.idx a b) ρ M) Q X := by
  simp only [ev]
  exact rw_bind (h.mono (fun x M h => rw_bind (h.mono (fun y M h => rw_opt h) fun _ _ h => h)) fun _ _ h => h)
theorem w_slice {lo hi : E} (h : RW (ev C a ρ M) (fun x M => RW (evO C lo ρ M) (fun u M => RW (evO C hi ρ M) (fun v M => PW (sliceD x u v) fun d => Q d M) X) X) X) : RW (ev C (.slice a lo hi) ρ M) Q X := by
  simp only [ev]
  exact rw_bind (h.mono (fun x M h => rw_bind (h.mono (fun y M h => rw_bind (h.mono (fun z M h => rw_opt h) fun _ _ h => h)) fun _ _ h => h)) fun _ _ h => h)
theorem w_oNil {Q : Option Int → Store → Prop} (h : Q none M) : RW (evO C .nil ρ M) Q X := h
theorem w_oCons {Q : Option Int → Store → Prop} (h : RW (ev C a ρ M) (fun x M => ∃ i : Int, x = .int i ∧ Q (some i) M) X) : RW (evO C (.cons a .nil) ρ M) Q X := by
  simp only [evO]
  refine rw_bind (h.mono (fun x M h => ?_) fun _ _ h => h)
  obtain ⟨i, rfl, h⟩ := h
  exact h
theorem w_call {f : Nat} (h : RW (evs C l ρ M) (fun ds M => RW (C f ds M) Q X) X) : RW (ev C (.call f l) ρ M) Q X := by
  simp only [ev]
  exact rw_bind h
theorem w_fcall {f : Nat} (h : RW (evs C l ρ M) (fun ds M => RW (C f ds M) Q X) X) : RW (ev C (.fcall f l) ρ M) Q X := by
  simp only [ev]
  exact rw_bind h
theorem w_fn1 {k : F1} (h : RW (ev C a ρ M) (fun x M => PW (fn1D k (dr M x)) fun d => Q d M) X) : RW (ev C (.fn1 k a) ρ M) Q X := by
  simp only [ev]
  exact rw_bind (h.mono (fun x M h => rw_opt h) fun _ _ h => h)
theorem w_fn2 {k : F2} (h : RW (ev C a ρ M) (fun x M => RW (ev C b ρ M) (fun y M => PW (fn2D k x y) fun d => Q d M) X) X) : RW (ev C (.fn2 k a b) ρ M) Q X := by
  simp only [ev]
  exact rw_bind (h.mono (fun x M h => rw_bind (h.mono (fun y M h => rw_opt h) fun _ _ h => h)) fun _ _ h => h)
theorem w_meth1 {k : M1} (h : RW (ev C a ρ M) (fun x M => recvB k (dr M x) = true ∧ RW (ev C b ρ M) (fun y M => PW (meth1D k (dr M x) y) fun d => Q d M) X) X) : RW (ev C (.meth1 k a b) ρ M) Q X := by
  simp only [ev]
  refine rw_bind (h.mono (fun x M h => ?_) fun _ _ h => h)
  rw [h.1]
  exact rw_bind (h.2.mono (fun y M h => rw_opt h) fun _ _ h => h)
theorem w_get2 (h : RW (ev C a ρ M) (fun x M => recvB .get (dr M x) = true ∧ RW (ev C b ρ M) (fun y M => RW (ev C c ρ M) (fun z M => PW (get2D (dr M x) y z) fun d => Q d M) X) X) X) : RW (ev C (.get2 a b c) ρ M) Q X := by
  simp only [ev]
  refine rw_bind (h.mono (fun x M h => ?_) fun _ _ h => h)
  rw [h.1]
  exact rw_bind (h.2.mono (fun y M h => rw_bind (h.mono (fun z M h => rw_opt h) fun _ _ h => h)) fun _ _ h => h)
theorem w_isi {t : Ty} (h : RW (ev C a ρ M) (fun x M => PW (isiD x t) fun b => Q (.bl b) M) X) : RW (ev C (.isi a t) ρ M) Q X := by
  simp only [ev]
  exact rw_bind (h.mono (fun x M h => rw_opt (pw_map h)) fun _ _ h => h)
theorem w_ff {k : FF} (h : RW (ev C a ρ M) (fun x M => PW (ffD k (dr M x)) fun d => Q d M) X) : RW (ev C (.ff k a) ρ M) Q X := by
  simp only [ev]
  exact rw_bind (h.mono (fun x M h => rw_opt h) fun _ _ h => h)
theorem w_dic0 (h : Q (.dic []) M) : RW (ev C .dic0 ρ M) Q X := by
  simp only [ev]; exact h
theorem w_hn (h : RW (ev C a ρ M) (fun x M => Q (.hnd M.length) (M ++ [x])) X) : RW (ev C (.hn a) ρ M) Q X := by
  simp only [ev]
  exact rw_bind (h.mono (fun x M h => h) fun _ _ h => h)
theorem w_dsp (h : RW (ev C a ρ M) (fun x M => RW (ev C b ρ M) (fun y M => PW (keyOf x) fun k => Q (.dic [(k, y)]) M) X) X) : RW (ev C (.dsp a b) ρ M) Q X := by
  simp only [ev]
  exact rw_bind (h.mono (fun x M h => rw_bind (h.mono (fun y M h => rw_opt (pw_map h)) fun _ _ h => h)) fun _ _ h => h)
theorem w_lit (h : RW (ev C a ρ M) (fun x M => PW (rangeD (.int 0) x) fun ds => Q (.lst ds) M) X) : RW (ev C (.lit a) ρ M) Q X := by
  simp only [ev]
  exact rw_bind (h.mono (fun x M h => rw_opt (pw_map h)) fun _ _ h => h)
theorem w_lit2 (h : RW (ev C a ρ M) (fun x M => RW (ev C b ρ M) (fun y M => PW (rangeD x y) fun ds => Q (.lst ds) M) X) X) : RW (ev C (.lit2 a b) ρ M) Q X := by
  simp only [ev]
  exact rw_bind (h.mono (fun x M h => rw_bind (h.mono (fun y M h => rw_opt (pw_map h)) fun _ _ h => h)) fun _ _ h => h)
theorem w_rev (h : RW (ev C a ρ M) (fun x M => PW (revD x) fun d => Q d M) X) : RW (ev C (.rev a) ρ M) Q X := by
  simp only [ev]
  exact rw_bind (h.mono (fun x M h => rw_opt h) fun _ _ h => h)
theorem w_hpop (h : RW (ev C a ρ M) (fun x M => ∃ n ds0, x = .hnd n ∧ M[n]? = some (.lst ds0) ∧ RW (ev C b ρ M) (fun y M => ∃ (ds : List D) (j : Int) (k : Nat) (d : D), y = .int j ∧ M[n]? = some (.lst ds) ∧ ds.length ≤ LIM ∧ ixN ds.length j = some k ∧ ds[k]? = some d ∧ Q d (M.set n (.lst (ds.eraseIdx k)))) X) X) : RW (ev C (.hpop a b) ρ M) Q X := by
  simp only [ev]
  refine rw_bind (h.mono (fun x M h => ?_) fun _ _ h => h)
  obtain ⟨n, ds0, rfl, hM, h⟩ := h
  simp only [dr, hM]
  refine rw_bind (h.mono (fun y M h => ?_) fun _ _ h => h)
  obtain ⟨ds, j, k, d, rfl, hM2, hl, hk, hd, h⟩ := h
  have hb : -(2 ^ 63) ≤ j ∧ j < 2 ^ 63 := by
    have e : LIM = 16777216 := rfl
    unfold ixN at hk
    split at hk
    · split at hk
      · omega
      · cases hk
    · split at hk
      · omega
      · cases hk
  simp only [hM2]
  rw [if_pos hb]
  simp only [hk, hd]
  exact h
theorem w_nil (h : QL [] M) : RW (evs C .nil ρ M) QL X := by
  simp only [evs]; exact h
theorem w_cons (h : RW (ev C a ρ M) (fun d M => RW (evs C l ρ M) (fun ds M => QL (d :: ds) M) X) X) : RW (evs C (.cons a l) ρ M) QL X := by
  simp only [evs]
  exact rw_bind (h.mono (fun x M h => rw_bind h) fun _ _ h => h)
/-! and, or as values: of truth values -/
theorem w_cmp2 {k k' : CK} (h : RW (ev C a ρ M) (fun x M => RW (ev C b ρ M) (fun y M => PW (cmpD k x (dr M y)) fun t => (t = true → RW (ev C c ρ M) (fun z M => PW (cmpD k' y (dr M z)) fun t => Q (.bl t) M) X) ∧ (t = false → Q (.bl false) M)) X) X) : RW (ev C (.cmp2 k k' a b c) ρ M) Q X := by
  simp only [ev]
  refine rw_bind (h.mono (fun x M h => rw_bind (h.mono (fun y M h => rw_bind (rw_opt ?_)) fun _ _ h => h)) fun _ _ h => h)
  generalize cmpD k x (dr M y) = o at h ⊢
  cases o with
  | none => exact h
  | some t => cases t with
    | true => exact rw_bind ((h.1 rfl).mono (fun z M h => rw_opt (pw_map h)) fun _ _ h => h)
    | false => exact h.2 rfl
theorem w_and (h : RW (evAnd C l ρ M) Q X) : RW (ev C (.and l) ρ M) Q X := by
  simp only [ev]; exact h
theorem w_or (h : RW (evOr C l ρ M) Q X) : RW (ev C (.or l) ρ M) Q X := by
  simp only [ev]; exact h
theorem w_andL (h : RW (ev C a ρ M) Q X) : RW (evAnd C (.cons a .nil) ρ M) Q X := by
  simp only [evAnd]; exact h
theorem w_orL (h : RW (ev C a ρ M) Q X) : RW (evOr C (.cons a .nil) ρ M) Q X := by
  simp only [evOr]; exact h
theorem w_andC {r : E} (h : RW (ev C a ρ M) (fun d M => PW (truD (dr M d)) fun t => (t = true → RW (evAnd C (.cons b r) ρ M) Q X) ∧ (t = false → Q d M)) X) : RW (evAnd C (.cons a (.cons b r)) ρ M) Q X := by
  rw [evAnd]
  rotate_left 1
  · exact fun h => nomatch h
  refine rw_bind (h.mono (fun d M h => rw_bind (rw_opt ?_)) fun _ _ h => h)
  generalize truD (dr M d) = o at h ⊢
  cases o with
  | none => exact h
  | some t => cases t with
    | true => exact h.1 rfl
    | false => exact h.2 rfl
theorem w_orC {r : E} (h : RW (ev C a ρ M) (fun d M => PW (truD (dr M d)) fun t => (t = false → RW (evOr C (.cons b r) ρ M) Q X) ∧ (t = true → Q d M)) X) : RW (evOr C (.cons a (.cons b r)) ρ M) Q X := by
  rw [evOr]
  rotate_left 1
  · exact fun h => nomatch h
  refine rw_bind (h.mono (fun d M h => rw_bind (rw_opt ?_)) fun _ _ h => h)
  generalize truD (dr M d) = o at h ⊢
  cases o with
  | none => exact h
  | some t => cases t with
    | true => exact h.2 rfl
    | false => exact h.1 rfl
/-! conditions -/
theorem t_and (h : RW (evAndT C l ρ M) QB X) : RW (evT C (.and l) ρ M) QB X := by
  simp only [evT]; exact h
theorem t_or (h : RW (evOrT C l ρ M) QB X) : RW (evT C (.or l) ρ M) QB X := by
  simp only [evT]; exact h
theorem t_andN (h : QB true M) : RW (evAndT C .nil ρ M) QB X := by
  simp only [evAndT]; exact h
theorem t_orN (h : QB false M) : RW (evOrT C .nil ρ M) QB X := by
  simp only [evOrT]; exact h
theorem t_andC (h : RW (evT C a ρ M) (fun t M => (t = true → RW (evAndT C l ρ M) QB X) ∧ (t = false → QB false M)) X) : RW (evAndT C (.cons a l) ρ M) QB X := by
  simp only [evAndT]
  refine rw_bind (h.mono (fun t M h => ?_) fun _ _ h => h)
  cases t with
  | true => exact h.1 rfl
  | false => exact h.2 rfl
theorem t_orC (h : RW (evT C a ρ M) (fun t M => (t = true → QB true M) ∧ (t = false → RW (evOrT C l ρ M) QB X)) X) : RW (evOrT C (.cons a l) ρ M) QB X := by
  simp only [evOrT]
  refine rw_bind (h.mono (fun t M h => ?_) fun _ _ h => h)
  cases t with
  | true => exact h.1 rfl
  | false => exact h.2 rfl
theorem t_not (h : RW (evT C a ρ M) (fun t M => QB (!t) M) X) : RW (evT C (.not a) ρ M) QB X := by
  simp only [evT]
  exact rw_bind (h.mono (fun t M h => h) fun _ _ h => h)
theorem t_cmp {k : CK} (h : RW (ev C a ρ M) (fun x M => RW (ev C b ρ M) (fun y M => PW (cmpD k x (dr M y)) fun t => QB t M) X) X) : RW (evT C (.cmp k a b) ρ M) QB X := by
  simp only [evT]
  exact rw_bind (h.mono (fun x M h => rw_bind (h.mono (fun y M h => rw_opt h) fun _ _ h => h)) fun _ _ h => h)
theorem t_cmp2 {k k' : CK} (h : RW (ev C a ρ M) (fun x M => RW (ev C b ρ M) (fun y M => PW (cmpD k x (dr M y)) fun t => (t = true → RW (ev C c ρ M) (fun z M => PW (cmpD k' y (dr M z)) fun t => QB t M) X) ∧ (t = false → QB false M)) X) X) : RW (evT C (.cmp2 k k' a b c) ρ M) QB X := by
  simp only [evT]
  refine rw_bind (h.mono (fun x M h => rw_bind (h.mono (fun y M h => rw_bind (rw_opt ?_)) fun _ _ h => h)) fun _ _ h => h)
  generalize cmpD k x (dr M y) = o at h ⊢
  cases o with
  | none => exact h
  | some t => cases t with
    | true => exact rw_bind ((h.1 rfl).mono (fun z M h => rw_opt h) fun _ _ h => h)
    | false => exact h.2 rfl
theorem t_var (e : ρ[i]? = some (.sh d)) (h : PW (truD (dr M d)) fun t => QB t M) : RW (evT C (.var i) ρ M) QB X := by
  simp only [evT, e]; exact rw_opt h
theorem t_peek (e : ρ[i]? = some (.ow d)) (h : PW (truD (dr M d)) fun t => QB t M) : RW (evT C (.peek i) ρ M) QB X := by
  simp only [evT, e]; exact rw_opt h
theorem t_call {f : Nat} (h : RW (evs C l ρ M) (fun ds M => RW (C f ds M) (fun d M => PW (truD (dr M d)) fun t => QB t M) X) X) : RW (evT C (.call f l) ρ M) QB X := by
  simp only [evT, truR]
  exact rw_bind (h.mono (fun ds M h => rw_bind (h.mono (fun d M h => rw_opt h) fun _ _ h => h)) fun _ _ h => h)
theorem t_idx (h : RW (ev C a ρ M) (fun x M => RW (ev C b ρ M) (fun y M => PW (idxD (dr M x) y) fun d => PW (truD (dr M d)) fun t => QB t M) X) X) : RW (evT C (.idx a b) ρ M) QB X := by
  simp only [evT]
  exact rw_bind (h.mono (fun x M h => rw_bind (h.mono (fun y M h => rw_bind (rw_opt (by
    generalize idxD (dr M x) y = o at h ⊢
    cases o with
    | none => exact h
    | some d => exact rw_opt h))) fun _ _ h => h)) fun _ _ h => h)
theorem t_fn1 {k : F1} (h : RW (ev C a ρ M) (fun x M => PW (fn1D k (dr M x)) fun d => PW (truD (dr M d)) fun t => QB t M) X) : RW (evT C (.fn1 k a) ρ M) QB X := by
  simp only [evT]
  exact rw_bind (h.mono (fun x M h => rw_bind (rw_opt (by
    generalize fn1D k (dr M x) = o at h ⊢
    cases o with
    | none => exact h
    | some d => exact rw_opt h))) fun _ _ h => h)
theorem t_isi {t : Ty} (h : RW (ev C a ρ M) (fun x M => PW (isiD x t) fun b => QB b M) X) : RW (evT C (.isi a t) ρ M) QB X := by
  simp only [evT]
  exact rw_bind (h.mono (fun x M h => rw_opt h) fun _ _ h => h)
theorem t_bl {x : Bool} (h : QB x M) : RW (evT C (.bl x) ρ M) QB X := by
  simp only [evT]; exact h
/-! what a loop walks -/
theorem i_seq (h : RW (ev C a ρ M) (fun x M => PW (itemsD x) fun ds => QL ds M) X) : RW (evI C (.itSeq a) ρ M) QL X := by
  simp only [evI]
  exact rw_bind (h.mono (fun x M h => rw_opt h) fun _ _ h => h)
theorem i_range1 (h : RW (ev C a ρ M) (fun x M => PW (rangeD (.int 0) x) fun ds => QL ds M) X) : RW (evI C (.itRange1 a) ρ M) QL X := by
  simp only [evI]
  exact rw_bind (h.mono (fun x M h => rw_opt h) fun _ _ h => h)
theorem i_range (h : RW (ev C a ρ M) (fun x M => RW (ev C b ρ M) (fun y M => PW (rangeD x y) fun ds => QL ds M) X) X) : RW (evI C (.itRange a b) ρ M) QL X := by
  simp only [evI]
  exact rw_bind (h.mono (fun x M h => rw_bind (h.mono (fun y M h => rw_opt h) fun _ _ h => h)) fun _ _ h => h)
theorem i_enum (h : RW (ev C a ρ M) (fun x M => PW (enumI x) fun ds => QL ds M) X) : RW (evI C (.itEnum a) ρ M) QL X := by
  simp only [evI]
  exact rw_bind (h.mono (fun x M h => rw_opt h) fun _ _ h => h)
theorem i_zip (h : RW (ev C a ρ M) (fun x M => RW (ev C b ρ M) (fun y M => PW (zipO x y) fun ds => QL ds M) X) X) : RW (evI C (.itZip a b) ρ M) QL X := by
  simp only [evI]
  exact rw_bind (h.mono (fun x M h => rw_bind (h.mono (fun y M h => rw_opt h) fun _ _ h => h)) fun _ _ h => h)
/-! comprehensions -/
def addO (r : List D) : Option D → List D
  | some x => r ++ [x]
  | none => r
/-- a list's walk: I says what is kept and what was built -/
theorem compL_inv {f : D → Store → Res (Option D)} (I : Nat → List D → Store → Prop) (ds : List D) {QL : List D → Store → Prop} {X : Nat → Store → Prop} (h0 : I 0 [] M)
    (hs : ∀ (i : Nat) (h : i < ds.length) (r : List D) (M : Store), I i r M → RW (f ds[i] M) (fun o M => I (i + 1) (addO r o) M) fun _ _ => False)
    (he : ∀ r M, I ds.length r M → QL r M) : RW (compL f ds M) QL X := by
  suffices H : ∀ (k : Nat) (r : List D) (M : Store), k ≤ ds.length → I k r M → RW (compL f (ds.drop k) M) (fun t M => QL (r ++ t) M) fun _ _ => False by
    have := H 0 [] M (Nat.zero_le _) h0
    rw [List.drop_zero] at this
    exact this.mono (fun _ _ h => h) fun _ _ h => h.elim
  intro k
  induction hk : ds.length - k generalizing k with
  | zero =>
    intro r M h1 h
    have e : k = ds.length := by omega
    subst e
    rw [List.drop_length]
    show QL (r ++ []) M
    rw [List.append_nil]
    exact he r M h
  | succ n ih =>
    intro r M h1 h
    have hl : k < ds.length := by omega
    rw [List.drop_eq_getElem_cons hl]
    have := hs k hl r M h
    unfold compL
    cases e : f ds[k] M with
    | fail => rw [e] at this; exact this.elim
    | exc c M' => rw [e] at this; exact this.elim
    | ok o M' =>
      rw [e] at this
      have h2 := ih (k + 1) (by omega) _ M' (by omega) this
      dsimp only
      cases e2 : compL f (ds.drop (k + 1)) M' with
      | fail => rw [e2] at h2; exact h2.elim
      | exc c M' => rw [e2] at h2; exact h2.elim
      | ok t M2 =>
        rw [e2] at h2
        have h2 : QL (addO r o ++ t) M2 := h2
        cases o with
        | none => exact h2
        | some x =>
          show QL (r ++ x :: t) M2
          have h2 : QL (r ++ [x] ++ t) M2 := h2
          rwa [List.append_assoc] at h2
def stepC (C : Nat → List D → Store → Res D) (tg : List Nat) (tt : Bool) (cond elt : E) (own : List Nat) (ρ : Rho) (d : D) (M : Store) : Res (Option D) := match bindT tg tt (wipeR ρ own) d with
  | some ρ1 => match evC C cond ρ1 M with
    | .ok true M1 => (ev C elt ρ1 M1).bind fun x M2 => .ok (some x) M2
    | .ok false M1 => .ok none M1
    | _ => .fail
  | none => .fail
theorem w_comp {tg own : List Nat} {tt : Bool} {it cond elt : E} (h : RW (evI C it ρ M) (fun ds M => RW (compL (stepC C tg tt cond elt own ρ) ds M) (fun r M => Q (.lst r) M) X) X) : RW (ev C (.comp tg tt it cond elt own) ρ M) Q X := by
  simp only [ev]
  exact rw_bind (h.mono (fun ds M h => rw_bind (h.mono (fun _ _ h => h) fun _ _ h => h)) fun _ _ h => h)
theorem t_comp {tg own : List Nat} {tt : Bool} {it cond elt : E} (h : RW (evI C it ρ M) (fun ds M => RW (compL (stepC C tg tt cond elt own ρ) ds M) (fun r M => QB (!r.isEmpty) M) X) X) : RW (evT C (.comp tg tt it cond elt own) ρ M) QB X := by
  simp only [evT]
  exact rw_bind (h.mono (fun ds M h => rw_bind (h.mono (fun _ _ h => h) fun _ _ h => h)) fun _ _ h => h)
theorem step_all {tg own : List Nat} {tt : Bool} {elt : E} {ρ1 : Rho} {QO : Option D → Store → Prop} (e : bindT tg tt (wipeR ρ own) d = some ρ1) (h : RW (ev C elt ρ1 M) (fun x M => QO (some x) M) X) : RW (stepC C tg tt .nil elt own ρ d M) QO X := by
  unfold stepC
  rw [e]
  simp only [evC]
  exact rw_bind (h.mono (fun _ _ h => h) fun _ _ h => h)
theorem step_if {tg own : List Nat} {tt : Bool} {elt : E} {ρ1 : Rho} {QO : Option D → Store → Prop} (e : bindT tg tt (wipeR ρ own) d = some ρ1)
    (h : RW (evT C c ρ1 M) (fun t M => (t = true → RW (ev C elt ρ1 M) (fun x M => QO (some x) M) X) ∧ (t = false → QO none M)) fun _ _ => False) : RW (stepC C tg tt (.cons c .nil) elt own ρ d M) QO X := by
  unfold stepC
  rw [e]
  simp only [evC]
  generalize evT C c ρ1 M = r at h ⊢
  cases r with
  | fail => exact h.elim
  | exc c M' => exact h.elim
  | ok t M1 => cases t with
    | true => exact rw_bind ((h.1 rfl).mono (fun _ _ h => h) fun _ _ h => h)
    | false => exact h.2 rfl
end
/-! statements -/
section
variable {C : Nat → List D → Store → Res D} {ρ : Rho} {M : Store} {e : Ek} {s t : S} {a k c : E} {i : Nat} {ρ1 : Rho} {d : D}
theorem s_skip (h : e.nx ρ M) : OW (ex C .skip ρ M) e := by
  simp only [ex]; exact h
theorem s_seq (h : OW (ex C s ρ M) ⟨fun ρ M => OW (ex C t ρ M) e, e.ct, e.rt, e.xc⟩) : OW (ex C (.seq s t) ρ M) e := by
  simp only [ex]
  cases q : ex C s ρ M with
  | nx ρ M => rw [q] at h; exact h
  | ct ρ M => rw [q] at h; exact h
  | ret d M => rw [q] at h; exact h
  | exc c ρ M => rw [q] at h; exact h
  | fail => rw [q] at h; exact h
theorem ow_oRho {o : Option Rho} (h : PW o fun ρ => e.nx ρ M) : OW (oRho o M) e := by
  cases o with
  | none => exact h
  | some ρ => exact h
theorem s_asg {tg : List Nat} {tt : Bool} (h : RW (ev C a ρ M) (fun d M => PW (bindT tg tt ρ d) fun ρ => e.nx ρ M) fun c M => e.xc c ρ M) : OW (ex C (.asg tg tt a) ρ M) e := by
  simp only [ex]
  exact ow_ofR (h.mono (fun d M h => ow_oRho h) fun _ _ h => h)
theorem s_own (h : RW (ev C a ρ M) (fun d M => i < ρ.length ∧ e.nx (ρ.set i (.ow d)) M) fun c M => e.xc c ρ M) : OW (ex C (.own i a) ρ M) e := by
  simp only [ex]
  refine ow_ofR (h.mono (fun d M h => ?_) fun _ _ h => h)
  unfold setO
  rw [if_pos h.1]; exact h.2
theorem s_hnew (h : RW (ev C a ρ M) (fun d M => i < ρ.length ∧ e.nx (ρ.set i (.sh (.hnd M.length))) (M ++ [d])) fun c M => e.xc c ρ M) : OW (ex C (.hnew i a) ρ M) e := by
  simp only [ex]
  refine ow_ofR (h.mono (fun d M h => ?_) fun _ _ h => h)
  unfold setS
  rw [if_pos h.1]; exact h.2
theorem s_expr (h : RW (ev C a ρ M) (fun _ M => e.nx ρ M) fun c M => e.xc c ρ M) : OW (ex C (.expr a) ρ M) e := by
  simp only [ex]
  exact ow_ofR h
theorem s_ite (h : RW (evT C c ρ M) (fun b M => (b = true → OW (ex C s ρ M) e) ∧ (b = false → OW (ex C t ρ M) e)) fun c M => e.xc c ρ M) : OW (ex C (.ite c s t) ρ M) e := by
  simp only [ex]
  refine ow_ofR (h.mono (fun b M h => ?_) fun _ _ h => h)
  cases b with
  | true => exact h.1 rfl
  | false => exact h.2 rfl
theorem s_ret (h : RW (ev C a ρ M) (fun d M => e.rt d M) fun c M => e.xc c ρ M) : OW (ex C (.ret a) ρ M) e := by
  simp only [ex]
  exact ow_ofR h
theorem s_retF (h : RW (ev C a ρ M) (fun d M => e.rt d M) fun c M => e.xc c ρ M) : OW (ex C (.retF a) ρ M) e := by
  simp only [ex]
  exact ow_ofR h
theorem s_cont (h : e.ct ρ M) : OW (ex C .cont ρ M) e := by
  simp only [ex]; exact h
theorem s_frz (q : ρ[i]? = some (.ow d)) (h : OW (ex C s (ρ.set i (.sh d)) M) e) : OW (ex C (.frzB i s) ρ M) e := by
  simp only [ex, q]; exact h
theorem s_app {ds : List D} (q : ρ[i]? = some (.ow (.lst ds))) (h : RW (ev C a ρ M) (fun d M => ds.length < LIM ∧ e.nx (ρ.set i (.ow (.lst (ds ++ [d])))) M) fun c M => e.xc c ρ M) : OW (ex C (.app i a) ρ M) e := by
  simp only [ex, q]
  refine ow_ofR (h.mono (fun d M h => ?_) fun _ _ h => h)
  rw [if_pos h.1]; exact h.2
theorem s_setiD {kvs : List (Key × D)} (q : ρ[i]? = some (.ow (.dic kvs)))
    (h : RW (ev C a ρ M) (fun d M => RW (ev C k ρ M) (fun y M => PW (keyOf y) fun x => kvs.length < LIM ∧ e.nx (ρ.set i (.ow (.dic (setK kvs x d)))) M) fun c M => e.xc c ρ M) fun c M => e.xc c ρ M) : OW (ex C (.seti i k a) ρ M) e := by
  simp only [ex]
  refine ow_ofR (h.mono (fun d M h => ?_) fun _ _ h => h)
  rw [q]
  refine ow_ofR (h.mono (fun y M h => ?_) fun _ _ h => h)
  generalize keyOf y = o at h ⊢
  cases o with
  | none => exact h
  | some x =>
    show OW (if _ then _ else _) _
    rw [if_pos h.1]; exact h.2
theorem s_setiL {ds : List D} (q : ρ[i]? = some (.ow (.lst ds)))
    (h : RW (ev C a ρ M) (fun d M => RW (ev C k ρ M) (fun y M => ∃ (j : Int), y = .int j ∧ PW (ixN ds.length j) fun n => e.nx (ρ.set i (.ow (.lst (ds.set n d)))) M) fun c M => e.xc c ρ M) fun c M => e.xc c ρ M) : OW (ex C (.seti i k a) ρ M) e := by
  simp only [ex]
  refine ow_ofR (h.mono (fun d M h => ?_) fun _ _ h => h)
  rw [q]
  refine ow_ofR (h.mono (fun y M h => ?_) fun _ _ h => h)
  obtain ⟨j, rfl, h⟩ := h
  generalize hq : ixN ds.length j = o at h
  cases o with
  | none => exact h.elim
  | some x =>
    show OW (match ixN ds.length j with | some j => _ | none => _) _
    rw [hq]; exact h
theorem s_raise {c : Nat} (h : e.xc c ρ M) : OW (ex C (.raise c) ρ M) e := by
  simp only [ex]; exact h
theorem s_try {c n : Nat} {u : S} (h : OW (ex C s ρ M) ⟨e.nx, e.ct, e.rt, fun c' ρ M => (c = c' ∧ OW (ex C u ρ M) e) ∨ (c ≠ c' ∧ c' < n ∧ e.xc c' ρ M)⟩) : OW (ex C (.tryx s c n u) ρ M) e := by
  simp only [ex]
  cases q : ex C s ρ M with
  | nx ρ M => rw [q] at h; exact h
  | ct ρ M => rw [q] at h; exact h
  | ret d M => rw [q] at h; exact h
  | fail => rw [q] at h; exact h
  | exc c' ρ M =>
    rw [q] at h
    dsimp only
    rcases h with ⟨h1, h2⟩ | ⟨h1, h2, h3⟩
    · rw [if_pos h1]; exact h2
    · rw [if_neg h1, if_pos h2]; exact h3
theorem s_par {tg : List Nat} {l : E} (h : RW (evs C l ρ M) (fun ds M => PW (setSs ρ tg ds) fun ρ => e.nx ρ M) fun c M => e.xc c ρ M) : OW (ex C (.par tg l) ρ M) e := by
  simp only [ex]
  exact ow_ofR (h.mono (fun d M h => ow_oRho h) fun _ _ h => h)
theorem s_popd {kvs : List (Key × D)} (q : ρ[i]? = some (.ow (.dic kvs))) (h : RW (ev C k ρ M) (fun y M => PW (keyOf y) fun x => e.nx (ρ.set i (.ow (.dic (delK kvs x)))) M) fun c M => e.xc c ρ M) : OW (ex C (.popd i k) ρ M) e := by
  simp only [ex]
  rw [q]
  refine ow_ofR (h.mono (fun y M h => ?_) fun _ _ h => h)
  generalize keyOf y = o at h ⊢
  cases o with
  | none => exact h
  | some x => exact h
/-- writing to a handle's list -/
theorem s_happ {n : Nat} {h' : E} (h : RW (ev C h' ρ M) (fun x M => x = .hnd n ∧ (∃ ds, M[n]? = some (.lst ds)) ∧ RW (ev C a ρ M) (fun d M => ∃ ds, M[n]? = some (.lst ds) ∧ ds.length < LIM ∧ e.nx ρ (M.set n (.lst (ds ++ [d])))) fun c M => e.xc c ρ M) fun c M => e.xc c ρ M) :
    OW (ex C (.happ h' a) ρ M) e := by
  simp only [ex]
  refine ow_ofR (h.mono (fun x M h => ?_) fun _ _ h => h)
  obtain ⟨rfl, ⟨ds, q⟩, h⟩ := h
  simp only [dr, q]
  refine ow_ofR (h.mono (fun d M h => ?_) fun _ _ h => h)
  obtain ⟨ds', q', h1, h2⟩ := h
  simp only [q']
  rw [if_pos h1]; exact h2
/-! loops -/
theorem forL_inv {b : D → Rho → Store → Out} (I : Nat → Rho → Store → Prop) (ds : List D) (h0 : I 0 ρ M)
    (hs : ∀ (i : Nat) (h : i < ds.length) (ρ : Rho) (M : Store), I i ρ M → OW (b ds[i] ρ M) ⟨I (i + 1), I (i + 1), e.rt, e.xc⟩)
    (he : ∀ ρ M, I ds.length ρ M → e.nx ρ M) : OW (forL b ds ρ M) e := by
  suffices H : ∀ (k : Nat) (ρ : Rho) (M : Store), k ≤ ds.length → I k ρ M → OW (forL b (ds.drop k) ρ M) e by
    have := H 0 ρ M (Nat.zero_le _) h0
    rwa [List.drop_zero] at this
  intro k
  induction hk : ds.length - k generalizing k with
  | zero =>
    intro ρ M h1 h
    have e' : k = ds.length := by omega
    subst e'
    rw [List.drop_length]
    exact he ρ M h
  | succ n ih =>
    intro ρ M h1 h
    have hl : k < ds.length := by omega
    rw [List.drop_eq_getElem_cons hl]
    have := hs k hl ρ M h
    unfold forL
    cases q : b ds[k] ρ M with
    | nx ρ' M' => rw [q] at this; exact ih (k + 1) (by omega) ρ' M' (by omega) this
    | ct ρ' M' => rw [q] at this; exact ih (k + 1) (by omega) ρ' M' (by omega) this
    | ret d M => rw [q] at this; exact this
    | exc c ρ M => rw [q] at this; exact this
    | fail => rw [q] at this; exact this
def stepF (C : Nat → List D → Store → Res D) (tg : List Nat) (tt : Bool) (s : S) (d : D) (ρ : Rho) (M : Store) : Out := match bindT tg tt ρ d with
  | some ρ => ex C s ρ M
  | none => .fail
theorem s_for {tg : List Nat} {tt : Bool} {it : E} (h : RW (evI C it ρ M) (fun ds M => OW (forL (stepF C tg tt s) ds ρ M) e) fun c M => e.xc c ρ M) : OW (ex C (.for tg tt it s) ρ M) e := by
  simp only [ex]
  exact ow_ofR h
theorem s_step {tg : List Nat} {tt : Bool} (q : bindT tg tt ρ d = some ρ1) (h : OW (ex C s ρ1 M) e) : OW (stepF C tg tt s d ρ M) e := by
  unfold stepF
  rw [q]; exact h
theorem whileL_inv {cf : Rho → Store → Res Bool} {b : Rho → Store → Out} (I : Nat → Rho → Store → Prop) (n : Nat) (hn : n ≤ WF) (h0 : I n ρ M)
    (hs : ∀ (m : Nat) (ρ : Rho) (M : Store), I m ρ M → RW (cf ρ M) (fun t M => (t = true → ∃ m', m = m' + 1 ∧ OW (b ρ M) ⟨I m', I m', e.rt, e.xc⟩) ∧ (t = false → e.nx ρ M)) fun c M => e.xc c ρ M) (hp : 0 < n) : True := trivial
def bodyF (fn : Fn) (ds : List D) : Rho := entry fn ds
theorem run_w {P : List Fn} {k f : Nat} {fn : Fn} {ds : List D} {Q : D → Store → Prop} {X : Nat → Store → Prop} (hf : P[f]? = some fn) (hl : ds.length = fn.np)
    (h : OW (ex (run P k) fn.body (entry fn ds) M) ⟨fun _ M => fn.own = false ∧ Q .non M, fun _ _ => False, Q, fun c _ M => X c M⟩) : RW (run P (k + 1) f ds M) Q X := by
  unfold run
  rw [hf]
  dsimp only
  rw [if_pos hl]
  generalize ex (run P k) fn.body (entry fn ds) M = o at h
  cases o with
  | nx ρ M =>
    obtain ⟨h1, h2⟩ := h
    rw [h1]; exact h2
  | ct ρ M => exact h.elim
  | ret d M => exact h
  | exc c ρ M => exact h
  | fail => exact h
end
end Pv.Wp
namespace Pv.Wp
open PySem L2 Pv
section
variable {i j : Int} {k : D → Prop} {kb : Bool → Prop} {x y : Str} {ds es : List D} {b c : Bool} {M : Store}
theorem p_add (h : k (.int (i + j))) : PW (binD .add (.int i) (.int j)) k := h
theorem p_sub (h : k (.int (i - j))) : PW (binD .sub (.int i) (.int j)) k := h
theorem p_mul (hs : (-(2 ^ 64) < i ∧ i < 2 ^ 64) ∨ (-(2 ^ 64) < j ∧ j < 2 ^ 64)) (h : k (.int (i * j))) : PW (binD .mul (.int i) (.int j)) k := by
  have e : (smallI i || smallI j) = true := by
    unfold smallI
    simpa using hs
  show PW (if _ then _ else _) k
  rw [if_pos e]; exact h
theorem p_fdiv (h0 : 0 < j) (h1 : j < 1073741824) (h : k (.int (i / j))) : PW (binD .fdiv (.int i) (.int j)) k := by
  show PW (if _ then _ else _) k
  rw [if_pos ⟨h0, h1⟩]; exact h
theorem p_mod (h0 : 0 < j) (h : k (.int (i % j))) : PW (binD .mod (.int i) (.int j)) k := by
  show PW (if _ then _ else _) k
  rw [if_pos h0]; exact h
theorem p_addT (h0 : ds.length + es.length ≤ LIM) (h : k (.tup (ds ++ es))) : PW (binD .add (.tup ds) (.tup es)) k := by
  show PW (if _ then _ else _) k
  rw [if_pos h0]; exact h
theorem p_addL (h0 : ds.length + es.length ≤ LIM) (h : k (.lst (ds ++ es))) : PW (binD .add (.lst ds) (.lst es)) k := by
  show PW (if _ then _ else _) k
  rw [if_pos h0]; exact h
theorem p_lt (h : kb (decide (i < j))) : PW (cmpD .lt (.int i) (dr M (.int j))) kb := h
theorem p_le (h : kb (decide (i ≤ j))) : PW (cmpD .le (.int i) (dr M (.int j))) kb := h
theorem p_gt (h : kb (decide (j < i))) : PW (cmpD .gt (.int i) (dr M (.int j))) kb := h
theorem p_ge (h : kb (decide (j ≤ i))) : PW (cmpD .ge (.int i) (dr M (.int j))) kb := h
theorem p_eq (h : kb (decide (i = j))) : PW (cmpD .eq (.int i) (dr M (.int j))) kb := by
  show kb (i == j)
  rwa [show (i == j) = decide (i = j) from by by_cases q : i = j <;> simp [q]]
theorem p_ne (h : kb (!decide (i = j))) : PW (cmpD .ne (.int i) (dr M (.int j))) kb := by
  show kb (!(i == j))
  rwa [show (i == j) = decide (i = j) from by by_cases q : i = j <;> simp [q]]
theorem p_eqB (h : kb (b == c)) : PW (cmpD .eq (.bl b) (dr M (.bl c))) kb := h
theorem p_neB (h : kb (!(b == c))) : PW (cmpD .ne (.bl b) (dr M (.bl c))) kb := h
theorem p_tBl (h : kb b) : PW (truD (dr M (.bl b))) kb := h
theorem p_tInt (h : kb (i != 0)) : PW (truD (dr M (.int i))) kb := h
theorem p_tNon (h : kb false) : PW (truD (dr M .non)) kb := h
theorem p_tScr (h : kb (!ds.isEmpty)) : PW (truD (dr M (.scr ds))) kb := h
theorem p_tLst (h : kb (!ds.isEmpty)) : PW (truD (dr M (.lst ds))) kb := h
theorem p_tTup (h : kb (!ds.isEmpty)) : PW (truD (dr M (.tup ds))) kb := h
theorem p_lenS (h : k (.int ds.length)) : PW (fn1D .len (dr M (.scr ds))) k := h
theorem p_lenL (h : k (.int ds.length)) : PW (fn1D .len (dr M (.lst ds))) k := h
theorem p_lenT (h : k (.int ds.length)) : PW (fn1D .len (dr M (.tup ds))) k := h
theorem p_lenX (h : k (.int x.length)) : PW (fn1D .len (dr M (.str x))) k := h
theorem p_lenH {n : Nat} (e : M[n]? = some (.lst ds)) (h : k (.int ds.length)) : PW (fn1D .len (dr M (.hnd n))) k := by
  have q : dr M (.hnd n) = .lst ds := by simp only [dr, e]
  rw [q]; exact h
theorem p_abs (h : k (.int (if i < 0 then -i else i))) : PW (fn1D .abs (dr M (.int i))) k := h
theorem p_max2 (h : k (.int (if j > i then j else i))) : PW (fn2D .max (.int i) (.int j)) k := h
theorem p_min2 (h : k (.int (if j < i then j else i))) : PW (fn2D .min (.int i) (.int j)) k := h
theorem p_idxS (h : PW (atI ds i) k) : PW (idxD (dr M (.scr ds)) (.int i)) k := h
theorem p_idxL (h : PW (atI ds i) k) : PW (idxD (dr M (.lst ds)) (.int i)) k := h
theorem p_idxT (h : PW (atI ds i) k) : PW (idxD (dr M (.tup ds)) (.int i)) k := h
theorem p_set {ρ : Rho} {d : D} {n : Nat} {kr : Rho → Prop} (hi : n < ρ.length) (h : kr (ρ.set n (.sh d))) : PW (bindT [n] false ρ d) kr := by
  unfold bindT setS
  dsimp only
  rw [if_pos hi]; exact h
theorem p_itL {kl : List D → Prop} (h : kl ds) : PW (itemsD (.lst ds)) kl := h
theorem p_itT {kl : List D → Prop} (h : kl ds) : PW (itemsD (.tup ds)) kl := h
theorem p_itS {kl : List D → Prop} (h : kl ds) : PW (itemsD (.scr ds)) kl := h
theorem p_range {kl : List D → Prop} (h0 : -4611686018427387904 ≤ i ∧ i < 4611686018427387904 ∧ -4611686018427387904 ≤ j ∧ j < 4611686018427387904 ∧ j - i ≤ 16777216) (h : kl (rangeL i (j - i).toNat)) : PW (rangeD (.int i) (.int j)) kl := by
  show PW (if _ then _ else _) kl
  have e : ((LIM : Nat) : Int) = 16777216 := rfl
  rw [if_pos ⟨by omega, by omega, by omega, by omega, by omega⟩]; exact h
theorem rangeL_len {n : Nat} : (rangeL i n).length = n := by
  simp [rangeL]
theorem rangeL_get {n m : Nat} (h : m < (rangeL i n).length) : (rangeL i n)[m] = .int (i + m) := by
  simp [rangeL]
end
end Pv.Wp
namespace Pv.Wp
open PySem L2 Pv
def shAt (o : Option Slot) (k : D → Prop) : Prop := match o with
  | some (.sh d) => k d
  | _ => False
def owAt (o : Option Slot) (k : D → Prop) : Prop := match o with
  | some (.ow d) => k d
  | _ => False
section
variable {C : Nat → List D → Store → Res D} {ρ : Rho} {M : Store} {Q : D → Store → Prop} {X : Nat → Store → Prop} {QB : Bool → Store → Prop} {i n : Nat} {d : D} {k : D → Prop} {s : Slot} {l : List Slot}
theorem g_zero (h : k d) : shAt ((Slot.sh d :: l)[0]?) k := h
theorem g_succ (h : shAt (l[n]?) k) : shAt ((s :: l)[n + 1]?) k := h
theorem o_zero (h : k d) : owAt ((Slot.ow d :: l)[0]?) k := h
theorem o_succ (h : owAt (l[n]?) k) : owAt ((s :: l)[n + 1]?) k := h
theorem shAt.ex {o : Option Slot} (h : shAt o k) : ∃ d, o = some (.sh d) ∧ k d := by
  cases o with
  | none => exact h.elim
  | some s => cases s with
    | sh d => exact ⟨d, rfl, h⟩
    | no => exact h.elim
    | ow d => exact h.elim
theorem owAt.ex {o : Option Slot} (h : owAt o k) : ∃ d, o = some (.ow d) ∧ k d := by
  cases o with
  | none => exact h.elim
  | some s => cases s with
    | ow d => exact ⟨d, rfl, h⟩
    | no => exact h.elim
    | sh d => exact h.elim
theorem v_var (h : shAt ρ[i]? fun d => Q d M) : RW (ev C (.var i) ρ M) Q X := by
  obtain ⟨d, e, h⟩ := h.ex
  exact w_var e h
theorem v_peek (h : owAt ρ[i]? fun d => Q d M) : RW (ev C (.peek i) ρ M) Q X := by
  obtain ⟨d, e, h⟩ := h.ex
  exact w_peek e h
theorem v_move (h : owAt ρ[i]? fun d => Q d M) : RW (ev C (.move i) ρ M) Q X := by
  obtain ⟨d, e, h⟩ := h.ex
  exact w_move e h
theorem u_var (h : shAt ρ[i]? fun d => PW (truD (dr M d)) fun t => QB t M) : RW (evT C (.var i) ρ M) QB X := by
  obtain ⟨d, e, h⟩ := h.ex
  exact t_var e h
theorem u_peek (h : owAt ρ[i]? fun d => PW (truD (dr M d)) fun t => QB t M) : RW (evT C (.peek i) ρ M) QB X := by
  obtain ⟨d, e, h⟩ := h.ex
  exact t_peek e h
def hAt (o : Option D) (k : List D → Prop) : Prop := match o with
  | some (.lst ds) => k ds
  | _ => False
theorem h_zero {ds : List D} {k : List D → Prop} {M : List D} (h : k ds) : hAt ((D.lst ds :: M)[0]?) k := h
theorem h_succ {k : List D → Prop} {M : List D} {x : D} (h : hAt (M[n]?) k) : hAt ((x :: M)[n + 1]?) k := h
theorem v_lenH {n : Nat} (h : hAt M[n]? fun ds => k (.int ds.length)) : PW (fn1D .len (dr M (.hnd n))) k := by
  cases e : M[n]? with
  | none => rw [e] at h; exact h.elim
  | some x =>
    rw [e] at h
    cases x with
    | lst ds => exact p_lenH e h
    | _ => exact h.elim
end
end Pv.Wp
namespace Pv.Wp
open PySem L2 Pv
theorem len_ok {ds : List D} {P : Prop} (h1 : Nat.ble ds.length LIM = true) (h2 : P) : ds.length ≤ LIM ∧ P := ⟨Nat.le_of_ble_eq_true h1, h2⟩
theorem set_len {i : Nat} {ρ : Rho} {P : Prop} (h1 : Nat.ble (i + 1) ρ.length = true) (h2 : P) : i < ρ.length ∧ P := ⟨Nat.le_of_ble_eq_true h1, h2⟩
end Pv.Wp
namespace Pv.Wp
theorem br_t {A B : Prop} (h : A) : (true = true → A) ∧ (true = false → B) := ⟨fun _ => h, fun z => Bool.noConfusion z⟩
theorem br_f {A B : Prop} (h : B) : (false = true → A) ∧ (false = false → B) := ⟨fun z => Bool.noConfusion z, fun _ => h⟩
theorem br_nt {A B : Prop} (h : B) : ((!true) = true → A) ∧ ((!true) = false → B) := ⟨fun z => Bool.noConfusion z, fun _ => h⟩
theorem br_nf {A B : Prop} (h : A) : ((!false) = true → A) ∧ ((!false) = false → B) := ⟨fun _ => h, fun z => Bool.noConfusion z⟩
end Pv.Wp
namespace Pv.Wp
open PySem L2 Pv
theorem q_abs {i : Int} {k : D → Prop} {M : Store} (h : ∀ n : Int, (0 ≤ i → n = i) → (i < 0 → n = -i) → k (.int n)) : PW (fn1D .abs (dr M (.int i))) k := by
  refine h (if i < 0 then -i else i) (fun q => if_neg (by omega)) fun q => if_pos q
theorem q_count2 {P R : Prop} [Decidable P] [Decidable R] {k : D → Prop} (h : ∀ n : Int, (P → R → n = 2) → (P → ¬R → n = 1) → (¬P → R → n = 1) → (¬P → ¬R → n = 0) → k (.int n)) :
    PW (meth1D .count (.lst [.bl (decide P), .bl (decide R)]) (.bl true)) k := by
  refine pw_eq (a := .int (Int.ofNat ([D.bl (decide P), .bl (decide R)].countP fun y => eqD y (.bl true)))) rfl (h _ ?_ ?_ ?_ ?_) <;> intro a b <;> simp [a, b, eqD]
end Pv.Wp

set_option Elab.async false
set_option linter.all false
set_option maxRecDepth 100000
set_option maxHeartbeats 0
namespace Pv
open PySem L2
abbrev top (i : Nat) : Stmt := PySem.Challenge.pw_standsend_k01_whole_things_as_stands.main.body.getD i (.Pass ⟨0, 0, 0, 0⟩)
def g_is_whole : Fn := ⟨"is_whole", 3, ["thing", "low", "high"], false, (.seq (.ret (.and (.cons (.isi (.var 0) .int) (.cons (.not (.isi (.var 0) .bool)) (.cons (.cmp2 .le .le (.var 1) (.var 0) (.var 2)) .nil)))))
  .skip), none⟩
def g_are_shapes : Fn := ⟨"are_shapes", 1, ["thing", "one"], false, (.seq (.ite (.or (.cons (.not (.isi (.var 0) .tuple)) (.cons (.not (.cmp2 .le .le (.int 1) (.fn1 .len (.var 0)) (.glob "KINDS_MOST" 4))) .nil))) (.seq (.ret (.bl false))
  .skip) .skip)
  (.seq (.ret (.fn1 .all (.comp [1] false (.itSeq (.var 0)) .nil (.call 0 (.cons (.var 1) (.cons (.int 0) (.cons (.glob "FIELDS_MOST" 5) .nil)))) [1])))
  .skip)), none⟩
def g_is_thing : Fn := ⟨"is_thing", 2, ["shapes", "thing", "one"], false, (.seq (.ite (.or (.cons (.not (.isi (.var 1) .tuple)) (.cons (.cmp .ne (.fn1 .len (.var 1)) (.int 3)) (.cons (.not (.call 0 (.cons (.idx (.var 1) (.int 0)) (.cons (.int 0) (.cons (.glob "ID_MOST" 99) .nil))))) .nil)))) (.seq (.ret (.bl false))
  .skip) .skip)
  (.seq (.ite (.or (.cons (.not (.call 0 (.cons (.idx (.var 1) (.int 1)) (.cons (.int 0) (.cons (.bin .sub (.fn1 .len (.var 0)) (.int 1)) .nil))))) (.cons (.not (.isi (.idx (.var 1) (.int 2)) .tuple)) .nil))) (.seq (.ret (.bl false))
  .skip) .skip)
  (.seq (.ret (.and (.cons (.cmp .eq (.fn1 .len (.idx (.var 1) (.int 2))) (.idx (.var 0) (.idx (.var 1) (.int 1)))) (.cons (.fn1 .all (.comp [2] false (.itSeq (.idx (.var 1) (.int 2))) .nil (.call 0 (.cons (.var 2) (.cons (.int 0) (.cons (.glob "NUMBER_MOST" 255) .nil)))) [2])) .nil))))
  .skip))), none⟩
def g_is_stand : Fn := ⟨"is_stand", 2, ["shapes", "thing", "one", "two"], false, (.seq (.ite (.or (.cons (.not (.isi (.var 1) .tuple)) (.cons (.not (.fn1 .all (.comp [2] false (.itSeq (.var 1)) .nil (.call 2 (.cons (.var 0) (.cons (.var 2) .nil))) [2]))) .nil))) (.seq (.ret (.bl false))
  .skip) .skip)
  (.seq (.ret (.fn1 .all (.comp [2, 3] true (.itZip (.slice (.var 1) .nil (.cons (.neg (.int 1)) .nil)) (.slice (.var 1) (.cons (.int 1) .nil) .nil)) .nil (.cmp .lt (.idx (.var 2) (.int 0)) (.idx (.var 3) (.int 0))) [2, 3])))
  .skip)), none⟩
def g_is_change : Fn := ⟨"is_change", 1, ["thing"], false, (.seq (.ite (.or (.cons (.not (.isi (.var 0) .tuple)) (.cons (.cmp .ne (.fn1 .len (.var 0)) (.int 2)) .nil))) (.seq (.ret (.bl false))
  .skip) .skip)
  (.seq (.ret (.and (.cons (.call 0 (.cons (.idx (.var 0) (.int 0)) (.cons (.int 0) (.cons (.bin .sub (.glob "FIELDS_MOST" 5) (.int 1)) .nil)))) (.cons (.call 0 (.cons (.idx (.var 0) (.int 1)) (.cons (.int 0) (.cons (.glob "NUMBER_MOST" 255) .nil)))) .nil))))
  .skip)), none⟩
def g_is_row : Fn := ⟨"is_row", 2, ["shapes", "thing", "one", "places", "two"], false, (.seq (.ite (.or (.cons (.not (.isi (.var 1) .tuple)) (.cons (.cmp .lt (.fn1 .len (.var 1)) (.int 2)) (.cons (.not (.isi (.idx (.var 1) (.int 0)) .str)) .nil)))) (.seq (.ret (.bl false))
  .skip) .skip)
  (.seq (.ite (.cmp .eq (.idx (.var 1) (.int 0)) (.str "gone")) (.seq (.ret (.and (.cons (.cmp .eq (.fn1 .len (.var 1)) (.int 2)) (.cons (.call 0 (.cons (.idx (.var 1) (.int 1)) (.cons (.int 0) (.cons (.glob "ID_MOST" 99) .nil)))) .nil))))
  .skip) .skip)
  (.seq (.ite (.cmp .eq (.idx (.var 1) (.int 0)) (.str "new")) (.seq (.ret (.call 2 (.cons (.var 0) (.cons (.slice (.var 1) (.cons (.int 1) .nil) .nil) .nil))))
  .skip) .skip)
  (.seq (.ite (.or (.cons (.cmp .ne (.idx (.var 1) (.int 0)) (.str "changed")) (.cons (.cmp .ne (.fn1 .len (.var 1)) (.int 3)) (.cons (.not (.call 0 (.cons (.idx (.var 1) (.int 1)) (.cons (.int 0) (.cons (.glob "ID_MOST" 99) .nil))))) .nil)))) (.seq (.ret (.bl false))
  .skip) .skip)
  (.seq (.ite (.or (.cons (.not (.isi (.idx (.var 1) (.int 2)) .tuple)) (.cons (.cmp .eq (.idx (.var 1) (.int 2)) (.tup .nil)) (.cons (.not (.fn1 .all (.comp [2] false (.itSeq (.idx (.var 1) (.int 2))) .nil (.call 4 (.cons (.var 2) .nil)) [2]))) .nil)))) (.seq (.ret (.bl false))
  .skip) .skip)
  (.seq (.asg [3] false (.comp [2] false (.itSeq (.idx (.var 1) (.int 2))) .nil (.idx (.var 2) (.int 0)) [2]))
  (.seq (.ret (.fn1 .all (.comp [2, 4] true (.itZip (.slice (.var 3) .nil (.cons (.neg (.int 1)) .nil)) (.slice (.var 3) (.cons (.int 1) .nil) .nil)) .nil (.cmp .lt (.var 2) (.var 4)) [2, 4])))
  .skip))))))), none⟩
def g_are_rows : Fn := ⟨"are_rows", 2, ["shapes", "thing", "one", "two"], false, (.seq (.ite (.or (.cons (.not (.isi (.var 1) .tuple)) (.cons (.not (.fn1 .all (.comp [2] false (.itSeq (.var 1)) .nil (.call 5 (.cons (.var 0) (.cons (.var 2) .nil))) [2]))) .nil))) (.seq (.ret (.bl false))
  .skip) .skip)
  (.seq (.ret (.fn1 .all (.comp [2, 3] true (.itZip (.slice (.var 1) .nil (.cons (.neg (.int 1)) .nil)) (.slice (.var 1) (.cons (.int 1) .nil) .nil)) .nil (.cmp .lt (.idx (.var 2) (.int 1)) (.idx (.var 3) (.int 1))) [2, 3])))
  .skip)), none⟩
def g__law_same : Fn := ⟨"_law_same", 2, ["_law_got", "_law_due", "_law_one", "_law_other"], false, (.seq (.ite (.cmp .is (.var 1) .non) (.seq (.ret (.cmp .is (.var 0) .non))
  .skip) .skip)
  (.seq (.ite (.isi (.var 1) .bool) (.seq (.ret (.and (.cons (.isi (.var 0) .bool) (.cons (.cmp .eq (.var 0) (.var 1)) .nil))))
  .skip) .skip)
  (.seq (.ite (.isi (.var 1) .tuple) (.seq (.ite (.or (.cons (.not (.isi (.var 0) .tuple)) (.cons (.cmp .ne (.fn1 .len (.var 0)) (.fn1 .len (.var 1))) .nil))) (.seq (.ret (.bl false))
  .skip) .skip)
  (.seq (.ret (.fn1 .all (.comp [2, 3] true (.itZip (.var 0) (.var 1)) .nil (.call 7 (.cons (.var 2) (.cons (.var 3) .nil))) [2, 3])))
  .skip)) .skip)
  (.seq (.ite (.isi (.var 1) .str) (.seq (.ret (.and (.cons (.isi (.var 0) .str) (.cons (.cmp .eq (.var 0) (.var 1)) .nil))))
  .skip) .skip)
  (.seq (.ret (.and (.cons (.isi (.var 0) .int) (.cons (.not (.isi (.var 0) .bool)) (.cons (.cmp .eq (.var 0) (.var 1)) .nil)))))
  .skip))))), none⟩
def g__law_draw : Fn := ⟨"_law_draw", 3, ["_law_script", "_law_town", "_law_many", "_law_k", "_law_cell", "_law_number", "_law_more"], false, (.seq (.happ (.var 1) (.int 0))
  (.seq (.asg [3] false (.fn1 .len (.var 1)))
  (.seq (.asg [4] false (.int 0))
  (.seq (.ite (.var 0) (.seq (.asg [4] false (.idx (.var 0) (.bin .mod (.var 3) (.fn1 .len (.var 0)))))
  .skip) .skip)
  (.seq (.asg [5] false (.bin .mod (.bin .add (.var 4) (.bin .mul (.int 104729) (.var 3))) (.int 4294967291)))
  (.seq (.asg [5] false (.bin .mod (.bin .mul (.bin .mod (.bin .mul (.var 5) (.var 5)) (.int 4294967279)) (.int 48271)) (.int 4294967291)))
  (.seq (.asg [6] false (.bin .mod (.bin .mul (.bin .mod (.bin .mul (.var 5) (.var 5)) (.int 4294967279)) (.int 69621)) (.int 4294967291)))
  (.seq (.ret (.bin .mod (.bin .add (.bin .mul (.bin .fdiv (.var 5) (.int 64)) (.int 67108864)) (.bin .fdiv (.var 6) (.int 64))) (.var 2)))
  .skip)))))))), none⟩
def g__law_pick : Fn := ⟨"_law_pick", 3, ["_law_script", "_law_town", "_law_some"], false, (.seq (.ret (.idx (.var 2) (.call 8 (.cons (.var 0) (.cons (.var 1) (.cons (.fn1 .len (.var 2)) .nil))))))
  .skip), none⟩
def g__law_shapes : Fn := ⟨"_law_shapes", 2, ["_law_script", "_law_town", "_law_k"], false, (.seq (.ret (.fn1 .tuple (.comp [2] false (.itRange1 (.bin .add (.int 1) (.call 8 (.cons (.var 0) (.cons (.var 1) (.cons (.int 4) .nil)))))) .nil (.call 8 (.cons (.var 0) (.cons (.var 1) (.cons (.int 6) .nil)))) [2])))
  .skip), none⟩
def g__law_thing : Fn := ⟨"_law_thing", 4, ["_law_script", "_law_town", "_law_shapes_here", "_law_number", "_law_kind", "_law_top", "_law_k"], false, (.seq (.asg [4] false (.call 8 (.cons (.var 0) (.cons (.var 1) (.cons (.fn1 .len (.var 2)) .nil)))))
  (.seq (.asg [5] false (.call 9 (.cons (.var 0) (.cons (.var 1) (.cons (.lst (.cons (.int 3) (.cons (.int 20) (.cons (.int 256) .nil)))) .nil)))))
  (.seq (.ret (.tup (.cons (.var 3) (.cons (.var 4) (.cons (.fn1 .tuple (.comp [6] false (.itRange1 (.idx (.var 2) (.var 4))) .nil (.call 8 (.cons (.var 0) (.cons (.var 1) (.cons (.var 5) .nil)))) [6])) .nil)))))
  .skip))), none⟩
def g__law_stand : Fn := ⟨"_law_stand", 4, ["_law_script", "_law_town", "_law_shapes_here", "_law_most", "_law_got", "_law_top", "_law_k", "_law_number"], false, (.seq (.own 4 .dic0)
  (.seq (.asg [5] false (.call 9 (.cons (.var 0) (.cons (.var 1) (.cons (.lst (.cons (.int 8) (.cons (.int 100) .nil))) .nil)))))
  (.seq (.for [6] false (.itRange1 (.call 8 (.cons (.var 0) (.cons (.var 1) (.cons (.bin .add (.var 3) (.int 1)) .nil))))) (.seq (.asg [7] false (.call 8 (.cons (.var 0) (.cons (.var 1) (.cons (.var 5) .nil)))))
  (.seq (.seti 4 (.var 7) (.call 11 (.cons (.var 0) (.cons (.var 1) (.cons (.var 2) (.cons (.var 7) .nil))))))
  .skip)))
  (.seq (.ret (.fn1 .tuple (.comp [7] false (.itSeq (.ff .sorted (.peek 4))) .nil (.idx (.peek 4) (.var 7)) [7])))
  .skip)))), none⟩
def g__law_rows : Fn := ⟨"_law_rows", 4, ["_law_script", "_law_town", "_law_shapes_here", "_law_most", "_law_got", "_law_k", "_law_number", "_law_kind", "_law_places", "_law_at"], false, (.seq (.own 4 .dic0)
  (.seq (.for [5] false (.itRange1 (.call 8 (.cons (.var 0) (.cons (.var 1) (.cons (.bin .add (.var 3) (.int 1)) .nil))))) (.seq (.asg [6] false (.call 8 (.cons (.var 0) (.cons (.var 1) (.cons (.int 9) .nil)))))
  (.seq (.asg [7] false (.call 8 (.cons (.var 0) (.cons (.var 1) (.cons (.int 3) .nil)))))
  (.seq (.ite (.cmp .eq (.var 7) (.int 0)) (.seq (.seti 4 (.var 6) (.tup (.cons (.str "gone") (.cons (.var 6) .nil))))
  .skip) (.seq (.ite (.cmp .eq (.var 7) (.int 1)) (.seq (.seti 4 (.var 6) (.bin .add (.tup (.cons (.str "new") .nil)) (.call 11 (.cons (.var 0) (.cons (.var 1) (.cons (.var 2) (.cons (.var 6) .nil)))))))
  .skip) (.seq (.asg [8] false (.or (.cons (.comp [9] false (.itRange1 (.int 5)) (.cons (.cmp .eq (.call 8 (.cons (.var 0) (.cons (.var 1) (.cons (.int 3) .nil)))) (.int 0)) .nil) (.var 9) [9]) (.cons (.lst (.cons (.call 8 (.cons (.var 0) (.cons (.var 1) (.cons (.int 5) .nil)))) .nil)) .nil))))
  (.seq (.seti 4 (.var 6) (.tup (.cons (.str "changed") (.cons (.var 6) (.cons (.fn1 .tuple (.comp [9] false (.itSeq (.var 8)) .nil (.tup (.cons (.var 9) (.cons (.call 8 (.cons (.var 0) (.cons (.var 1) (.cons (.int 256) .nil)))) .nil))) [9])) .nil)))))
  .skip)))
  .skip))
  .skip))))
  (.seq (.ret (.fn1 .tuple (.comp [6] false (.itSeq (.ff .sorted (.peek 4))) .nil (.idx (.peek 4) (.var 6)) [6])))
  .skip))), none⟩
def g__law_whole : Fn := ⟨"_law_whole", 2, ["_law_thing_here", "_law_most"], false, (.seq (.ret (.and (.cons (.isi (.var 0) .int) (.cons (.not (.isi (.var 0) .bool)) (.cons (.cmp2 .le .le (.int 0) (.var 0) (.var 1)) .nil)))))
  .skip), none⟩
def g__law_are_shapes : Fn := ⟨"_law_are_shapes", 1, ["_law_thing_here", "_law_one"], false, (.seq (.ite (.or (.cons (.not (.isi (.var 0) .tuple)) (.cons (.not (.cmp2 .lt .lt (.int 0) (.fn1 .len (.var 0)) (.int 5))) .nil))) (.seq (.ret (.bl false))
  .skip) .skip)
  (.seq (.ret (.not (.comp [1] false (.itSeq (.var 0)) (.cons (.not (.call 14 (.cons (.var 1) (.cons (.int 5) .nil)))) .nil) (.int 1) [1])))
  .skip)), none⟩
def g__law_is_thing : Fn := ⟨"_law_is_thing", 2, ["_law_shapes_here", "_law_thing_here", "_law_one"], false, (.seq (.ite (.or (.cons (.not (.isi (.var 1) .tuple)) (.cons (.cmp .ne (.fn1 .len (.var 1)) (.int 3)) (.cons (.not (.call 14 (.cons (.idx (.var 1) (.int 0)) (.cons (.int 99) .nil)))) .nil)))) (.seq (.ret (.bl false))
  .skip) .skip)
  (.seq (.ite (.or (.cons (.not (.call 14 (.cons (.idx (.var 1) (.int 1)) (.cons (.bin .sub (.fn1 .len (.var 0)) (.int 1)) .nil)))) (.cons (.not (.isi (.idx (.var 1) (.int 2)) .tuple)) .nil))) (.seq (.ret (.bl false))
  .skip) .skip)
  (.seq (.ret (.and (.cons (.cmp .eq (.fn1 .len (.idx (.var 1) (.int 2))) (.idx (.var 0) (.idx (.var 1) (.int 1)))) (.cons (.not (.comp [2] false (.itSeq (.idx (.var 1) (.int 2))) (.cons (.not (.call 14 (.cons (.var 2) (.cons (.int 255) .nil)))) .nil) (.int 1) [2])) .nil))))
  .skip))), none⟩
def g__law_rise : Fn := ⟨"_law_rise", 1, ["_law_row", "_law_at"], false, (.seq (.ret (.not (.comp [1] false (.itRange (.int 1) (.fn1 .len (.var 0))) (.cons (.cmp .ge (.idx (.var 0) (.bin .sub (.var 1) (.int 1))) (.idx (.var 0) (.var 1))) .nil) (.var 1) [1])))
  .skip), none⟩
def g__law_is_stand : Fn := ⟨"_law_is_stand", 2, ["_law_shapes_here", "_law_thing_here", "_law_one"], false, (.seq (.ite (.or (.cons (.not (.isi (.var 1) .tuple)) (.cons (.comp [2] false (.itSeq (.var 1)) (.cons (.not (.call 16 (.cons (.var 0) (.cons (.var 2) .nil)))) .nil) (.int 1) [2]) .nil))) (.seq (.ret (.bl false))
  .skip) .skip)
  (.seq (.ret (.call 17 (.cons (.comp [2] false (.itSeq (.var 1)) .nil (.idx (.var 2) (.int 0)) [2]) .nil)))
  .skip)), none⟩
def g__law_is_row : Fn := ⟨"_law_is_row", 2, ["_law_shapes_here", "_law_thing_here", "_law_one"], false, (.seq (.ite (.or (.cons (.not (.isi (.var 1) .tuple)) (.cons (.cmp .lt (.fn1 .len (.var 1)) (.int 2)) (.cons (.not (.isi (.idx (.var 1) (.int 0)) .str)) .nil)))) (.seq (.ret (.bl false))
  .skip) .skip)
  (.seq (.ite (.cmp .eq (.idx (.var 1) (.int 0)) (.str "new")) (.seq (.ret (.call 16 (.cons (.var 0) (.cons (.slice (.var 1) (.cons (.int 1) .nil) .nil) .nil))))
  .skip) .skip)
  (.seq (.ite (.or (.cons (.not (.call 14 (.cons (.idx (.var 1) (.int 1)) (.cons (.int 99) .nil)))) (.cons (.cmp .notin (.idx (.var 1) (.int 0)) (.tup (.cons (.str "gone") (.cons (.str "changed") .nil)))) .nil))) (.seq (.ret (.bl false))
  .skip) .skip)
  (.seq (.ite (.cmp .eq (.idx (.var 1) (.int 0)) (.str "gone")) (.seq (.ret (.cmp .eq (.fn1 .len (.var 1)) (.int 2)))
  .skip) .skip)
  (.seq (.ite (.or (.cons (.cmp .ne (.fn1 .len (.var 1)) (.int 3)) (.cons (.not (.isi (.idx (.var 1) (.int 2)) .tuple)) (.cons (.cmp .eq (.idx (.var 1) (.int 2)) (.tup .nil)) .nil)))) (.seq (.ret (.bl false))
  .skip) .skip)
  (.seq (.for [2] false (.itSeq (.idx (.var 1) (.int 2))) (.seq (.ite (.or (.cons (.not (.isi (.var 2) .tuple)) (.cons (.cmp .ne (.fn1 .len (.var 2)) (.int 2)) (.cons (.not (.call 14 (.cons (.idx (.var 2) (.int 0)) (.cons (.int 4) .nil)))) (.cons (.not (.call 14 (.cons (.idx (.var 2) (.int 1)) (.cons (.int 255) .nil)))) .nil))))) (.seq (.ret (.bl false))
  .skip) .skip)
  .skip))
  (.seq (.ret (.call 17 (.cons (.comp [2] false (.itSeq (.idx (.var 1) (.int 2))) .nil (.idx (.var 2) (.int 0)) [2]) .nil)))
  .skip))))))), none⟩
def g__law_are_rows : Fn := ⟨"_law_are_rows", 2, ["_law_shapes_here", "_law_thing_here", "_law_one"], false, (.seq (.ite (.or (.cons (.not (.isi (.var 1) .tuple)) (.cons (.comp [2] false (.itSeq (.var 1)) (.cons (.not (.call 19 (.cons (.var 0) (.cons (.var 2) .nil)))) .nil) (.int 1) [2]) .nil))) (.seq (.ret (.bl false))
  .skip) .skip)
  (.seq (.ret (.call 17 (.cons (.comp [2] false (.itSeq (.var 1)) .nil (.idx (.var 2) (.int 1)) [2]) .nil)))
  .skip)), none⟩
def g__law_bent : Fn := ⟨"_law_bent", 3, ["_law_script", "_law_town", "_law_thing_here", "_law_odds", "_law_at", "_law_some", "_law_both"], false, (.seq (.asg [3] false (.lst (.cons .non (.cons (.bl true) (.cons (.bl false) (.cons (.int 0) (.cons (.int 1) (.cons (.int 4) (.cons (.int 5) (.cons (.int 6) (.cons (.int 99) (.cons (.int 100) (.cons (.int 255) (.cons (.int 256) (.cons (.neg (.int 1)) (.cons (.str "gone") (.cons (.str "new") (.cons (.str "changed") (.cons (.str "") .nil)))))))))))))))))))
  (.seq (.asg [3] false (.bin .add (.var 3) (.lst (.cons (.tup .nil) (.cons (.tup (.cons (.int 0) (.cons (.int 0) .nil))) (.cons (.tup (.cons (.tup (.cons (.int 0) (.cons (.int 0) .nil))) .nil)) .nil))))))
  (.seq (.ite (.or (.cons (.not (.isi (.var 2) .tuple)) (.cons (.cmp .eq (.var 2) (.tup .nil)) (.cons (.cmp .eq (.call 8 (.cons (.var 0) (.cons (.var 1) (.cons (.int 6) .nil)))) (.int 0)) .nil)))) (.seq (.ret (.call 9 (.cons (.var 0) (.cons (.var 1) (.cons (.var 3) .nil)))))
  .skip) .skip)
  (.seq (.asg [4] false (.call 8 (.cons (.var 0) (.cons (.var 1) (.cons (.fn1 .len (.var 2)) .nil)))))
  (.seq (.own 5 (.lst (.cons (.bin .add (.slice (.var 2) .nil (.cons (.var 4) .nil)) (.slice (.var 2) (.cons (.bin .add (.var 4) (.int 1)) .nil) .nil)) (.cons (.bin .add (.bin .add (.slice (.var 2) .nil (.cons (.var 4) .nil)) (.slice (.var 2) (.cons (.var 4) .nil) (.cons (.bin .add (.var 4) (.int 1)) .nil))) (.slice (.var 2) (.cons (.var 4) .nil) .nil)) (.cons (.ff .list (.var 2)) .nil)))))
  (.seq (.asg [6] false (.rev (.slice (.var 2) (.cons (.var 4) .nil) (.cons (.bin .add (.var 4) (.int 2)) .nil))))
  (.seq (.app 5 (.bin .add (.bin .add (.slice (.var 2) .nil (.cons (.var 4) .nil)) (.var 6)) (.slice (.var 2) (.cons (.bin .add (.var 4) (.int 2)) .nil) .nil)))
  (.seq (.ite (.cmp .eq (.call 8 (.cons (.var 0) (.cons (.var 1) (.cons (.int 4) .nil)))) (.int 0)) (.frzB 5 (.seq (.ret (.call 9 (.cons (.var 0) (.cons (.var 1) (.cons (.var 5) .nil)))))
  .skip)) .skip)
  (.seq (.ret (.bin .add (.bin .add (.slice (.var 2) .nil (.cons (.var 4) .nil)) (.tup (.cons (.call 21 (.cons (.var 0) (.cons (.var 1) (.cons (.idx (.var 2) (.var 4)) .nil)))) .nil))) (.slice (.var 2) (.cons (.bin .add (.var 4) (.int 1)) .nil) .nil)))
  .skip))))))))), none⟩
def g_law : Fn := ⟨"law", 1, ["_law_script", "_law_town", "_law_k", "_law_shapes_here", "_law_stand_here", "_law_rows_here", "_law_things", "_law_one", "_law_j", "_law_thing_here", "_law_due"], false, (.seq (.hnew 1 (.lst .nil))
  (.seq (.for [2] false (.itRange1 (.int 6)) (.seq (.asg [3] false (.call 10 (.cons (.var 0) (.cons (.var 1) .nil))))
  (.seq (.par [4, 5] (.cons (.call 12 (.cons (.var 0) (.cons (.var 1) (.cons (.var 3) (.cons (.int 6) .nil))))) (.cons (.call 13 (.cons (.var 0) (.cons (.var 1) (.cons (.var 3) (.cons (.int 6) .nil))))) .nil)))
  (.seq (.asg [6] false (.lst (.cons (.var 3) (.cons (.var 4) (.cons (.var 5) (.cons (.ff .list (.var 4)) (.cons (.ff .list (.var 5)) (.cons (.rev (.var 4)) (.cons (.rev (.var 5)) (.cons (.tup (.cons (.var 4) .nil)) (.cons .non (.cons (.int 7) (.cons (.str "") (.cons (.tup .nil) .nil))))))))))))))
  (.seq (.asg [6] false (.bin .add (.var 6) (.lst (.cons (.tup (.cons (.tup (.cons (.str "changed") (.cons (.int 1) (.cons (.tup .nil) .nil)))) .nil)) (.cons (.tup (.cons (.tup (.cons (.str "gone") (.cons (.int 1) .nil))) (.cons (.tup (.cons (.str "gone") (.cons (.int 1) .nil))) .nil))) (.cons (.bin .mul (.tup (.cons (.int 0) .nil)) (.int 4)) (.cons (.bin .mul (.tup (.cons (.int 0) .nil)) (.int 5)) .nil)))))))
  (.seq (.for [7] false (.itSeq (.tup (.cons (.var 3) (.cons (.var 4) (.cons (.var 5) (.cons (.var 5) .nil)))))) (.seq (.asg [6] false (.bin .add (.var 6) (.comp [8] false (.itRange1 (.int 8)) .nil (.call 21 (.cons (.var 0) (.cons (.var 1) (.cons (.var 7) .nil)))) [8])))
  .skip))
  (.seq (.for [9] false (.itSeq (.var 6)) (.seq (.asg [10] false (.tup (.cons (.call 15 (.cons (.var 9) .nil)) (.cons (.call 18 (.cons (.var 3) (.cons (.var 9) .nil))) (.cons (.call 20 (.cons (.var 3) (.cons (.var 9) .nil))) .nil)))))
  (.seq (.ite (.not (.call 7 (.cons (.tup (.cons (.call 1 (.cons (.var 9) .nil)) (.cons (.call 3 (.cons (.var 3) (.cons (.var 9) .nil))) (.cons (.call 6 (.cons (.var 3) (.cons (.var 9) .nil))) .nil)))) (.cons (.var 10) .nil)))) (.seq (.ret (.bl false))
  .skip) .skip)
  .skip)))
  .skip)))))))
  (.seq (.ret (.bl true))
  .skip))), none⟩
abbrev i_is_whole : Nat := 0
abbrev i_are_shapes : Nat := 1
abbrev i_is_thing : Nat := 2
abbrev i_is_stand : Nat := 3
abbrev i_is_change : Nat := 4
abbrev i_is_row : Nat := 5
abbrev i_are_rows : Nat := 6
abbrev i__law_same : Nat := 7
abbrev i__law_draw : Nat := 8
abbrev i__law_pick : Nat := 9
abbrev i__law_shapes : Nat := 10
abbrev i__law_thing : Nat := 11
abbrev i__law_stand : Nat := 12
abbrev i__law_rows : Nat := 13
abbrev i__law_whole : Nat := 14
abbrev i__law_are_shapes : Nat := 15
abbrev i__law_is_thing : Nat := 16
abbrev i__law_rise : Nat := 17
abbrev i__law_is_stand : Nat := 18
abbrev i__law_is_row : Nat := 19
abbrev i__law_are_rows : Nat := 20
abbrev i__law_bent : Nat := 21
abbrev i_law : Nat := 22
def its : List Item := [⟨g_is_whole, top 5, ["thing", "low", "high"]⟩, ⟨g_are_shapes, top 6, ["thing"]⟩, ⟨g_is_thing, top 7, ["shapes", "thing"]⟩, ⟨g_is_stand, top 8, ["shapes", "thing"]⟩, ⟨g_is_change, top 10, ["thing"]⟩, ⟨g_is_row, top 11, ["shapes", "thing"]⟩, ⟨g_are_rows, top 12, ["shapes", "thing"]⟩, ⟨g__law_same, top 14, ["_law_got", "_law_due"]⟩, ⟨g__law_draw, top 15, ["_law_script", "_law_town", "_law_many"]⟩, ⟨g__law_pick, top 16, ["_law_script", "_law_town", "_law_some"]⟩, ⟨g__law_shapes, top 17, ["_law_script", "_law_town"]⟩, ⟨g__law_thing, top 18, ["_law_script", "_law_town", "_law_shapes_here", "_law_number"]⟩, ⟨g__law_stand, top 19, ["_law_script", "_law_town", "_law_shapes_here", "_law_most"]⟩, ⟨g__law_rows, top 24, ["_law_script", "_law_town", "_law_shapes_here", "_law_most"]⟩, ⟨g__law_whole, top 25, ["_law_thing_here", "_law_most"]⟩, ⟨g__law_are_shapes, top 26, ["_law_thing_here"]⟩, ⟨g__law_is_thing, top 27, ["_law_shapes_here", "_law_thing_here"]⟩, ⟨g__law_rise, top 28, ["_law_row"]⟩, ⟨g__law_is_stand, top 29, ["_law_shapes_here", "_law_thing_here"]⟩, ⟨g__law_is_row, top 30, ["_law_shapes_here", "_law_thing_here"]⟩, ⟨g__law_are_rows, top 31, ["_law_shapes_here", "_law_thing_here"]⟩, ⟨g__law_bent, top 32, ["_law_script", "_law_town", "_law_thing_here"]⟩, ⟨g_law, top 33, ["_law_script"]⟩]
def prg : List Fn := [g_is_whole, g_are_shapes, g_is_thing, g_is_stand, g_is_change, g_is_row, g_are_rows, g__law_same, g__law_draw, g__law_pick, g__law_shapes, g__law_thing, g__law_stand, g__law_rows, g__law_whole, g__law_are_shapes, g__law_is_thing, g__law_rise, g__law_is_stand, g__law_is_row, g__law_are_rows, g__law_bent, g_law]
def gis : List (Str × GV) := [("KINDS_MOST", .int 4), ("FIELDS_MOST", .int 5), ("ID_MOST", .int 99), ("NUMBER_MOST", .int 255)]
def xns : List Str := []
def cns : List Str := []
theorem ok_is_whole : ItemOk prg gis xns ⟨g_is_whole, top 5, ["thing", "low", "high"]⟩ := ⟨⟨rfl, rfl, rfl, by decide +kernel, rfl, by decide +kernel, by decide +kernel⟩, rfl, by decide +kernel, fun _ _ _ _ _ _ us hl => match us, hl with | [_, _, _], _ => rfl⟩
theorem ok_are_shapes : ItemOk prg gis xns ⟨g_are_shapes, top 6, ["thing"]⟩ := ⟨⟨rfl, rfl, rfl, by decide +kernel, rfl, by decide +kernel, by decide +kernel⟩, rfl, by decide +kernel, fun _ _ _ _ _ _ us hl => match us, hl with | [_], _ => rfl⟩
theorem ok_is_thing : ItemOk prg gis xns ⟨g_is_thing, top 7, ["shapes", "thing"]⟩ := ⟨⟨rfl, rfl, rfl, by decide +kernel, rfl, by decide +kernel, by decide +kernel⟩, rfl, by decide +kernel, fun _ _ _ _ _ _ us hl => match us, hl with | [_, _], _ => rfl⟩
theorem ok_is_stand : ItemOk prg gis xns ⟨g_is_stand, top 8, ["shapes", "thing"]⟩ := ⟨⟨rfl, rfl, rfl, by decide +kernel, rfl, by decide +kernel, by decide +kernel⟩, rfl, by decide +kernel, fun _ _ _ _ _ _ us hl => match us, hl with | [_, _], _ => rfl⟩
theorem ok_is_change : ItemOk prg gis xns ⟨g_is_change, top 10, ["thing"]⟩ := ⟨⟨rfl, rfl, rfl, by decide +kernel, rfl, by decide +kernel, by decide +kernel⟩, rfl, by decide +kernel, fun _ _ _ _ _ _ us hl => match us, hl with | [_], _ => rfl⟩
theorem ok_is_row : ItemOk prg gis xns ⟨g_is_row, top 11, ["shapes", "thing"]⟩ := ⟨⟨rfl, rfl, rfl, by decide +kernel, rfl, by decide +kernel, by decide +kernel⟩, rfl, by decide +kernel, fun _ _ _ _ _ _ us hl => match us, hl with | [_, _], _ => rfl⟩
theorem ok_are_rows : ItemOk prg gis xns ⟨g_are_rows, top 12, ["shapes", "thing"]⟩ := ⟨⟨rfl, rfl, rfl, by decide +kernel, rfl, by decide +kernel, by decide +kernel⟩, rfl, by decide +kernel, fun _ _ _ _ _ _ us hl => match us, hl with | [_, _], _ => rfl⟩
theorem ok__law_same : ItemOk prg gis xns ⟨g__law_same, top 14, ["_law_got", "_law_due"]⟩ := ⟨⟨rfl, rfl, rfl, by decide +kernel, rfl, by decide +kernel, by decide +kernel⟩, rfl, by decide +kernel, fun _ _ _ _ _ _ us hl => match us, hl with | [_, _], _ => rfl⟩
theorem ok__law_draw : ItemOk prg gis xns ⟨g__law_draw, top 15, ["_law_script", "_law_town", "_law_many"]⟩ := ⟨⟨rfl, rfl, rfl, by decide +kernel, rfl, by decide +kernel, by decide +kernel⟩, rfl, by decide +kernel, fun _ _ _ _ _ _ us hl => match us, hl with | [_, _, _], _ => rfl⟩
theorem ok__law_pick : ItemOk prg gis xns ⟨g__law_pick, top 16, ["_law_script", "_law_town", "_law_some"]⟩ := ⟨⟨rfl, rfl, rfl, by decide +kernel, rfl, by decide +kernel, by decide +kernel⟩, rfl, by decide +kernel, fun _ _ _ _ _ _ us hl => match us, hl with | [_, _, _], _ => rfl⟩
theorem ok__law_shapes : ItemOk prg gis xns ⟨g__law_shapes, top 17, ["_law_script", "_law_town"]⟩ := ⟨⟨rfl, rfl, rfl, by decide +kernel, rfl, by decide +kernel, by decide +kernel⟩, rfl, by decide +kernel, fun _ _ _ _ _ _ us hl => match us, hl with | [_, _], _ => rfl⟩
theorem ok__law_thing : ItemOk prg gis xns ⟨g__law_thing, top 18, ["_law_script", "_law_town", "_law_shapes_here", "_law_number"]⟩ := ⟨⟨rfl, rfl, rfl, by decide +kernel, rfl, by decide +kernel, by decide +kernel⟩, rfl, by decide +kernel, fun _ _ _ _ _ _ us hl => match us, hl with | [_, _, _, _], _ => rfl⟩
theorem ok__law_stand : ItemOk prg gis xns ⟨g__law_stand, top 19, ["_law_script", "_law_town", "_law_shapes_here", "_law_most"]⟩ := ⟨⟨rfl, rfl, rfl, by decide +kernel, rfl, by decide +kernel, by decide +kernel⟩, rfl, by decide +kernel, fun _ _ _ _ _ _ us hl => match us, hl with | [_, _, _, _], _ => rfl⟩
theorem ok__law_rows : ItemOk prg gis xns ⟨g__law_rows, top 24, ["_law_script", "_law_town", "_law_shapes_here", "_law_most"]⟩ := ⟨⟨rfl, rfl, rfl, by decide +kernel, rfl, by decide +kernel, by decide +kernel⟩, rfl, by decide +kernel, fun _ _ _ _ _ _ us hl => match us, hl with | [_, _, _, _], _ => rfl⟩
theorem ok__law_whole : ItemOk prg gis xns ⟨g__law_whole, top 25, ["_law_thing_here", "_law_most"]⟩ := ⟨⟨rfl, rfl, rfl, by decide +kernel, rfl, by decide +kernel, by decide +kernel⟩, rfl, by decide +kernel, fun _ _ _ _ _ _ us hl => match us, hl with | [_, _], _ => rfl⟩
theorem ok__law_are_shapes : ItemOk prg gis xns ⟨g__law_are_shapes, top 26, ["_law_thing_here"]⟩ := ⟨⟨rfl, rfl, rfl, by decide +kernel, rfl, by decide +kernel, by decide +kernel⟩, rfl, by decide +kernel, fun _ _ _ _ _ _ us hl => match us, hl with | [_], _ => rfl⟩
theorem ok__law_is_thing : ItemOk prg gis xns ⟨g__law_is_thing, top 27, ["_law_shapes_here", "_law_thing_here"]⟩ := ⟨⟨rfl, rfl, rfl, by decide +kernel, rfl, by decide +kernel, by decide +kernel⟩, rfl, by decide +kernel, fun _ _ _ _ _ _ us hl => match us, hl with | [_, _], _ => rfl⟩
theorem ok__law_rise : ItemOk prg gis xns ⟨g__law_rise, top 28, ["_law_row"]⟩ := ⟨⟨rfl, rfl, rfl, by decide +kernel, rfl, by decide +kernel, by decide +kernel⟩, rfl, by decide +kernel, fun _ _ _ _ _ _ us hl => match us, hl with | [_], _ => rfl⟩
theorem ok__law_is_stand : ItemOk prg gis xns ⟨g__law_is_stand, top 29, ["_law_shapes_here", "_law_thing_here"]⟩ := ⟨⟨rfl, rfl, rfl, by decide +kernel, rfl, by decide +kernel, by decide +kernel⟩, rfl, by decide +kernel, fun _ _ _ _ _ _ us hl => match us, hl with | [_, _], _ => rfl⟩
theorem ok__law_is_row : ItemOk prg gis xns ⟨g__law_is_row, top 30, ["_law_shapes_here", "_law_thing_here"]⟩ := ⟨⟨rfl, rfl, rfl, by decide +kernel, rfl, by decide +kernel, by decide +kernel⟩, rfl, by decide +kernel, fun _ _ _ _ _ _ us hl => match us, hl with | [_, _], _ => rfl⟩
theorem ok__law_are_rows : ItemOk prg gis xns ⟨g__law_are_rows, top 31, ["_law_shapes_here", "_law_thing_here"]⟩ := ⟨⟨rfl, rfl, rfl, by decide +kernel, rfl, by decide +kernel, by decide +kernel⟩, rfl, by decide +kernel, fun _ _ _ _ _ _ us hl => match us, hl with | [_, _], _ => rfl⟩
theorem ok__law_bent : ItemOk prg gis xns ⟨g__law_bent, top 32, ["_law_script", "_law_town", "_law_thing_here"]⟩ := ⟨⟨rfl, rfl, rfl, by decide +kernel, rfl, by decide +kernel, by decide +kernel⟩, rfl, by decide +kernel, fun _ _ _ _ _ _ us hl => match us, hl with | [_, _, _], _ => rfl⟩
theorem ok_law : ItemOk prg gis xns ⟨g_law, top 33, ["_law_script"]⟩ := ⟨⟨rfl, rfl, rfl, by decide +kernel, rfl, by decide +kernel, by decide +kernel⟩, rfl, by decide +kernel, fun _ _ _ _ _ _ us hl => match us, hl with | [_], _ => rfl⟩
theorem its_ok : AllOk (its.map (·.fn)) gis xns its := ⟨ok_is_whole, ok_are_shapes, ok_is_thing, ok_is_stand, ok_is_change, ok_is_row, ok_are_rows, ok__law_same, ok__law_draw, ok__law_pick, ok__law_shapes, ok__law_thing, ok__law_stand, ok__law_rows, ok__law_whole, ok__law_are_shapes, ok__law_is_thing, ok__law_rise, ok__law_is_stand, ok__law_is_row, ok__law_are_rows, ok__law_bent, ok_law, trivial⟩
end Pv


set_option Elab.async false
set_option linter.all false
set_option maxRecDepth 100000
set_option maxHeartbeats 4000000
set_option hygiene false
local macro_rules | `(tactic| walk_at "WP!") => `(tactic| repeat' (first | with_reducible (first | refine Wp.w_int ?_ | refine Wp.v_var ?_ | refine Wp.g_zero ?_ | refine Wp.g_succ ?_ | refine Wp.w_glob ?_ | refine Wp.w_bin ?_ | refine Wp.w_call ?_ | refine Wp.w_fcall ?_ | refine Wp.w_cons ?_ | refine Wp.w_nil ?_ | refine Wp.w_str ?_ | refine Wp.w_bl ?_ | refine Wp.w_non ?_ | refine Wp.v_peek ?_ | refine Wp.v_move ?_ | refine Wp.o_zero ?_ | refine Wp.o_succ ?_ | refine Wp.w_negI ?_ | refine Wp.w_neg ?_ | refine Wp.w_cmp ?_ | refine Wp.w_not ?_ | refine Wp.w_ite ?_ | refine Wp.w_tup ?_ | refine Wp.w_lst ?_ | refine Wp.w_idx ?_ | refine Wp.w_slice ?_ | refine Wp.w_oNil ?_ | refine Wp.w_oCons ?_ | refine Wp.w_fn1 ?_ | refine Wp.w_fn2 ?_ | refine Wp.w_meth1 ?_ | refine Wp.w_get2 ?_ | refine Wp.w_isi ?_ | refine Wp.w_ff ?_ | refine Wp.w_dic0 ?_ | refine Wp.w_cmp2 ?_ | refine Wp.w_and ?_ | refine Wp.w_or ?_ | refine Wp.w_andL ?_ | refine Wp.w_orL ?_ | refine Wp.w_andC ?_ | refine Wp.w_orC ?_ | refine Wp.t_and ?_ | refine Wp.t_or ?_ | refine Wp.t_andN ?_ | refine Wp.t_orN ?_ | refine Wp.t_andC ?_ | refine Wp.t_orC ?_ | refine Wp.t_not ?_ | refine Wp.t_cmp ?_ | refine Wp.t_cmp2 ?_ | refine Wp.u_var ?_ | refine Wp.u_peek ?_ | refine Wp.t_call ?_ | refine Wp.t_idx ?_ | refine Wp.t_fn1 ?_ | refine Wp.t_isi ?_ | refine Wp.t_bl ?_ | refine Wp.i_seq ?_ | refine Wp.i_range1 ?_ | refine Wp.i_range ?_ | refine Wp.i_zip ?_ | refine Wp.s_for ?_ | refine Wp.w_comp ?_ | refine Wp.t_comp ?_ | refine Wp.s_skip ?_ | refine Wp.s_seq ?_ | refine Wp.s_asg ?_ | refine Wp.s_expr ?_ | refine Wp.s_ite ?_ | refine Wp.s_ret ?_ | refine Wp.s_retF ?_ | refine Wp.s_cont ?_ | refine Wp.pw_some ?_ | refine Wp.p_add ?_ | refine Wp.p_sub ?_ | refine Wp.p_lt ?_ | refine Wp.p_le ?_ | refine Wp.p_gt ?_ | refine Wp.p_ge ?_ | refine Wp.p_eq ?_ | refine Wp.p_ne ?_ | refine Wp.p_eqB ?_ | refine Wp.p_neB ?_ | refine Wp.p_tBl ?_ | refine Wp.p_tInt ?_ | refine Wp.p_tNon ?_ | refine Wp.p_tScr ?_ | refine Wp.p_tLst ?_ | refine Wp.p_tTup ?_ | refine Wp.p_lenS ?_ | refine Wp.l_L ?_ | refine Wp.l_I ?_ | refine Wp.l_S ?_ | refine Wp.l_T ?_ | refine Wp.p_lenL ?_ | refine Wp.p_lenT ?_ | refine Wp.p_lenX ?_ | refine Wp.v_lenH ?_ | refine Wp.h_zero ?_ | refine Wp.h_succ ?_ | refine Wp.q_abs fun n _ _ => ?_ | refine Wp.q_count2 fun n _ _ _ _ => ?_ | refine Wp.p_max2 ?_ | refine Wp.p_min2 ?_ | refine Wp.p_idxS ?_ | refine Wp.p_idxL ?_ | refine Wp.p_idxT ?_ | refine Wp.p_itL ?_ | refine Wp.p_itT ?_ | refine Wp.p_itS ?_ | refine Wp.i_T0 ?_ | refine Wp.i_T1 ?_ | refine Wp.i_T2 ?_ | refine Wp.it_S ?_ | refine Wp.it_I ?_ | refine Wp.u_I ?_ | refine Wp.u_S ?_ | refine Wp.u_L ?_ | refine Wp.f_listI ?_ | refine Wp.f_listS ?_ | refine Wp.f_sortI ?_ | refine Wp.w_hn ?_ | refine Wp.w_dsp ?_ | refine Wp.w_lit ?_ | refine Wp.w_lit2 ?_ | refine Wp.w_rev ?_ | refine Wp.i_enum ?_ | refine Wp.s_raise ?_ | refine Wp.s_par ?_ | refine Wp.ex_int ?_ | refine Wp.sl_initS ?_ | refine Wp.sl_tailS ?_ | refine Wp.sl_initI ?_ | refine Wp.sl_tailI ?_ | refine Wp.sl_2I ?_ | refine Wp.sl_1I ?_ | refine Wp.zip_S ?_ | refine Wp.key_i ?_ | refine Wp.c_neI0 ?_ | refine Wp.br_t ?_ | refine Wp.br_f ?_ | refine Wp.br_nt ?_ | refine Wp.br_nf ?_ | refine ⟨fun hb => ?_, fun hb => ?_⟩) | ((with_reducible refine Wp.p_set ?_ ?_); exact of_decide_eq_true rfl; dsimp only [List.set]) | ((with_reducible refine Wp.p_mul ?_ ?_); try omega) | ((with_reducible refine Wp.p_fdiv ?_ ?_ ?_); omega; omega) | ((with_reducible refine Wp.p_mod ?_ ?_); try omega) | ((with_reducible refine Wp.p_range ?_ ?_); omega) | ((with_reducible refine Wp.isi_D (b := true) ?_ ?_); exact rfl) | ((with_reducible refine Wp.isi_D (b := false) ?_ ?_); exact rfl) | ((with_reducible refine Wp.is_D (b := true) ?_ ?_); exact rfl) | ((with_reducible refine Wp.is_D (b := false) ?_ ?_); exact rfl) | ((with_reducible refine Wp.isn_D (b := true) ?_ ?_); exact rfl) | ((with_reducible refine Wp.isn_D (b := false) ?_ ?_); exact rfl) | ((with_reducible refine Wp.len_ok ?_ ?_); exact rfl) | ((with_reducible refine Wp.set_len ?_ ?_); exact rfl; dsimp only [List.set]) | dsimp only))
local macro_rules | `(tactic| walk_at "WPN!") => `(tactic| repeat' (first | with_reducible (first | refine Wp.w_int ?_ | refine Wp.v_var ?_ | refine Wp.g_zero ?_ | refine Wp.g_succ ?_ | refine Wp.w_glob ?_ | refine Wp.w_bin ?_ | refine Wp.w_call ?_ | refine Wp.w_fcall ?_ | refine Wp.w_cons ?_ | refine Wp.w_nil ?_ | refine Wp.w_str ?_ | refine Wp.w_bl ?_ | refine Wp.w_non ?_ | refine Wp.v_peek ?_ | refine Wp.v_move ?_ | refine Wp.o_zero ?_ | refine Wp.o_succ ?_ | refine Wp.w_negI ?_ | refine Wp.w_neg ?_ | refine Wp.w_cmp ?_ | refine Wp.w_not ?_ | refine Wp.w_ite ?_ | refine Wp.w_tup ?_ | refine Wp.w_lst ?_ | refine Wp.w_idx ?_ | refine Wp.w_slice ?_ | refine Wp.w_oNil ?_ | refine Wp.w_oCons ?_ | refine Wp.w_fn1 ?_ | refine Wp.w_fn2 ?_ | refine Wp.w_meth1 ?_ | refine Wp.w_get2 ?_ | refine Wp.w_isi ?_ | refine Wp.w_ff ?_ | refine Wp.w_dic0 ?_ | refine Wp.w_cmp2 ?_ | refine Wp.w_and ?_ | refine Wp.w_or ?_ | refine Wp.w_andL ?_ | refine Wp.w_orL ?_ | refine Wp.w_andC ?_ | refine Wp.w_orC ?_ | refine Wp.t_and ?_ | refine Wp.t_or ?_ | refine Wp.t_andN ?_ | refine Wp.t_orN ?_ | refine Wp.t_andC ?_ | refine Wp.t_orC ?_ | refine Wp.t_not ?_ | refine Wp.t_cmp ?_ | refine Wp.t_cmp2 ?_ | refine Wp.u_var ?_ | refine Wp.u_peek ?_ | refine Wp.t_call ?_ | refine Wp.t_idx ?_ | refine Wp.t_fn1 ?_ | refine Wp.t_isi ?_ | refine Wp.t_bl ?_ | refine Wp.i_seq ?_ | refine Wp.i_range1 ?_ | refine Wp.i_range ?_ | refine Wp.i_zip ?_ | refine Wp.s_for ?_ | refine Wp.w_comp ?_ | refine Wp.t_comp ?_ | refine Wp.s_skip ?_ | refine Wp.s_seq ?_ | refine Wp.s_asg ?_ | refine Wp.s_expr ?_ | refine Wp.s_ite ?_ | refine Wp.s_ret ?_ | refine Wp.s_retF ?_ | refine Wp.s_cont ?_ | refine Wp.pw_some ?_ | refine Wp.p_add ?_ | refine Wp.p_sub ?_ | refine Wp.p_tBl ?_ | refine Wp.p_tInt ?_ | refine Wp.p_tNon ?_ | refine Wp.p_tScr ?_ | refine Wp.p_tLst ?_ | refine Wp.p_tTup ?_ | refine Wp.p_lenS ?_ | refine Wp.l_L ?_ | refine Wp.l_I ?_ | refine Wp.l_S ?_ | refine Wp.l_T ?_ | refine Wp.p_lenL ?_ | refine Wp.p_lenT ?_ | refine Wp.p_lenX ?_ | refine Wp.v_lenH ?_ | refine Wp.h_zero ?_ | refine Wp.h_succ ?_ | refine Wp.q_abs fun n _ _ => ?_ | refine Wp.q_count2 fun n _ _ _ _ => ?_ | refine Wp.p_max2 ?_ | refine Wp.p_min2 ?_ | refine Wp.p_idxS ?_ | refine Wp.p_idxL ?_ | refine Wp.p_idxT ?_ | refine Wp.p_itL ?_ | refine Wp.p_itT ?_ | refine Wp.p_itS ?_ | refine Wp.i_T0 ?_ | refine Wp.i_T1 ?_ | refine Wp.i_T2 ?_ | refine Wp.it_S ?_ | refine Wp.it_I ?_ | refine Wp.u_I ?_ | refine Wp.u_S ?_ | refine Wp.u_L ?_ | refine Wp.f_listI ?_ | refine Wp.f_listS ?_ | refine Wp.f_sortI ?_ | refine Wp.w_hn ?_ | refine Wp.w_dsp ?_ | refine Wp.w_lit ?_ | refine Wp.w_lit2 ?_ | refine Wp.w_rev ?_ | refine Wp.i_enum ?_ | refine Wp.s_raise ?_ | refine Wp.s_par ?_ | refine Wp.ex_int ?_ | refine Wp.sl_initS ?_ | refine Wp.sl_tailS ?_ | refine Wp.sl_initI ?_ | refine Wp.sl_tailI ?_ | refine Wp.sl_2I ?_ | refine Wp.sl_1I ?_ | refine Wp.zip_S ?_ | refine Wp.key_i ?_ | refine Wp.c_neI0 ?_ | refine Wp.br_t ?_ | refine Wp.br_f ?_ | refine Wp.br_nt ?_ | refine Wp.br_nf ?_ | refine ⟨fun hb => ?_, fun hb => ?_⟩) | ((with_reducible refine Wp.p_set ?_ ?_); exact of_decide_eq_true rfl; dsimp only [List.set]) | ((with_reducible refine Wp.p_mul ?_ ?_); try omega) | ((with_reducible refine Wp.p_fdiv ?_ ?_ ?_); omega; omega) | ((with_reducible refine Wp.p_mod ?_ ?_); try omega) | ((with_reducible refine Wp.p_range ?_ ?_); omega) | ((with_reducible refine Wp.isi_D (b := true) ?_ ?_); exact rfl) | ((with_reducible refine Wp.isi_D (b := false) ?_ ?_); exact rfl) | ((with_reducible refine Wp.is_D (b := true) ?_ ?_); exact rfl) | ((with_reducible refine Wp.is_D (b := false) ?_ ?_); exact rfl) | ((with_reducible refine Wp.isn_D (b := true) ?_ ?_); exact rfl) | ((with_reducible refine Wp.isn_D (b := false) ?_ ?_); exact rfl) | ((with_reducible refine Wp.len_ok ?_ ?_); exact rfl) | ((with_reducible refine Wp.set_len ?_ ?_); exact rfl; dsimp only [List.set]) | dsimp only))
local macro_rules | `(tactic| walk_at "WPE!") => `(tactic| repeat' (first | with_reducible (first | refine Wp.w_int ?_ | refine Wp.v_var ?_ | refine Wp.g_zero ?_ | refine Wp.g_succ ?_ | refine Wp.w_glob ?_ | refine Wp.w_bin ?_ | refine Wp.w_call ?_ | refine Wp.w_fcall ?_ | refine Wp.w_cons ?_ | refine Wp.w_nil ?_ | refine Wp.w_str ?_ | refine Wp.w_bl ?_ | refine Wp.w_non ?_ | refine Wp.v_peek ?_ | refine Wp.v_move ?_ | refine Wp.o_zero ?_ | refine Wp.o_succ ?_ | refine Wp.w_negI ?_ | refine Wp.w_neg ?_ | refine Wp.w_cmp ?_ | refine Wp.w_not ?_ | refine Wp.w_ite ?_ | refine Wp.w_tup ?_ | refine Wp.w_lst ?_ | refine Wp.w_idx ?_ | refine Wp.w_slice ?_ | refine Wp.w_oNil ?_ | refine Wp.w_oCons ?_ | refine Wp.w_fn1 ?_ | refine Wp.w_fn2 ?_ | refine Wp.w_meth1 ?_ | refine Wp.w_get2 ?_ | refine Wp.w_isi ?_ | refine Wp.w_ff ?_ | refine Wp.w_dic0 ?_ | refine Wp.w_cmp2 ?_ | refine Wp.w_and ?_ | refine Wp.w_or ?_ | refine Wp.w_andL ?_ | refine Wp.w_orL ?_ | refine Wp.w_andC ?_ | refine Wp.w_orC ?_ | refine Wp.t_and ?_ | refine Wp.t_or ?_ | refine Wp.t_andN ?_ | refine Wp.t_orN ?_ | refine Wp.t_andC ?_ | refine Wp.t_orC ?_ | refine Wp.t_not ?_ | refine Wp.t_cmp ?_ | refine Wp.t_cmp2 ?_ | refine Wp.u_var ?_ | refine Wp.u_peek ?_ | refine Wp.t_call ?_ | refine Wp.t_idx ?_ | refine Wp.t_fn1 ?_ | refine Wp.t_isi ?_ | refine Wp.t_bl ?_ | refine Wp.i_seq ?_ | refine Wp.i_range1 ?_ | refine Wp.i_range ?_ | refine Wp.i_zip ?_ | refine Wp.s_for ?_ | refine Wp.w_comp ?_ | refine Wp.t_comp ?_ | refine Wp.s_skip ?_ | refine Wp.s_asg ?_ | refine Wp.s_expr ?_ | refine Wp.s_ite ?_ | refine Wp.s_ret ?_ | refine Wp.s_retF ?_ | refine Wp.s_cont ?_ | refine Wp.pw_some ?_ | refine Wp.p_add ?_ | refine Wp.p_sub ?_ | refine Wp.p_lt ?_ | refine Wp.p_le ?_ | refine Wp.p_gt ?_ | refine Wp.p_ge ?_ | refine Wp.p_eq ?_ | refine Wp.p_ne ?_ | refine Wp.p_eqB ?_ | refine Wp.p_neB ?_ | refine Wp.p_tBl ?_ | refine Wp.p_tInt ?_ | refine Wp.p_tNon ?_ | refine Wp.p_tScr ?_ | refine Wp.p_tLst ?_ | refine Wp.p_tTup ?_ | refine Wp.p_lenS ?_ | refine Wp.l_L ?_ | refine Wp.l_I ?_ | refine Wp.l_S ?_ | refine Wp.l_T ?_ | refine Wp.p_lenL ?_ | refine Wp.p_lenT ?_ | refine Wp.p_lenX ?_ | refine Wp.v_lenH ?_ | refine Wp.h_zero ?_ | refine Wp.h_succ ?_ | refine Wp.q_abs fun n _ _ => ?_ | refine Wp.q_count2 fun n _ _ _ _ => ?_ | refine Wp.p_max2 ?_ | refine Wp.p_min2 ?_ | refine Wp.p_idxS ?_ | refine Wp.p_idxL ?_ | refine Wp.p_idxT ?_ | refine Wp.p_itL ?_ | refine Wp.p_itT ?_ | refine Wp.p_itS ?_ | refine Wp.i_T0 ?_ | refine Wp.i_T1 ?_ | refine Wp.i_T2 ?_ | refine Wp.it_S ?_ | refine Wp.it_I ?_ | refine Wp.u_I ?_ | refine Wp.u_S ?_ | refine Wp.u_L ?_ | refine Wp.f_listI ?_ | refine Wp.f_listS ?_ | refine Wp.f_sortI ?_ | refine Wp.w_hn ?_ | refine Wp.w_dsp ?_ | refine Wp.w_lit ?_ | refine Wp.w_lit2 ?_ | refine Wp.w_rev ?_ | refine Wp.i_enum ?_ | refine Wp.s_raise ?_ | refine Wp.s_par ?_ | refine Wp.ex_int ?_ | refine Wp.sl_initS ?_ | refine Wp.sl_tailS ?_ | refine Wp.sl_initI ?_ | refine Wp.sl_tailI ?_ | refine Wp.sl_2I ?_ | refine Wp.sl_1I ?_ | refine Wp.zip_S ?_ | refine Wp.key_i ?_ | refine Wp.c_neI0 ?_ | refine Wp.br_t ?_ | refine Wp.br_f ?_ | refine Wp.br_nt ?_ | refine Wp.br_nf ?_ | refine ⟨fun hb => ?_, fun hb => ?_⟩) | ((with_reducible refine Wp.p_set ?_ ?_); exact of_decide_eq_true rfl; dsimp only [List.set]) | ((with_reducible refine Wp.p_mul ?_ ?_); try omega) | ((with_reducible refine Wp.p_fdiv ?_ ?_ ?_); omega; omega) | ((with_reducible refine Wp.p_mod ?_ ?_); try omega) | ((with_reducible refine Wp.p_range ?_ ?_); omega) | ((with_reducible refine Wp.isi_D (b := true) ?_ ?_); exact rfl) | ((with_reducible refine Wp.isi_D (b := false) ?_ ?_); exact rfl) | ((with_reducible refine Wp.is_D (b := true) ?_ ?_); exact rfl) | ((with_reducible refine Wp.is_D (b := false) ?_ ?_); exact rfl) | ((with_reducible refine Wp.isn_D (b := true) ?_ ?_); exact rfl) | ((with_reducible refine Wp.isn_D (b := false) ?_ ?_); exact rfl) | ((with_reducible refine Wp.len_ok ?_ ?_); exact rfl) | ((with_reducible refine Wp.set_len ?_ ?_); exact rfl; dsimp only [List.set]) | dsimp only))
local macro_rules | `(tactic| walk_at "WPM!") => `(tactic| repeat' (first | with_reducible (first | refine Wp.w_int ?_ | refine Wp.v_var ?_ | refine Wp.g_zero ?_ | refine Wp.g_succ ?_ | refine Wp.w_glob ?_ | refine Wp.w_bin ?_ | refine Wp.w_call ?_ | refine Wp.w_fcall ?_ | refine Wp.w_cons ?_ | refine Wp.w_nil ?_ | refine Wp.w_str ?_ | refine Wp.w_bl ?_ | refine Wp.w_non ?_ | refine Wp.v_peek ?_ | refine Wp.v_move ?_ | refine Wp.o_zero ?_ | refine Wp.o_succ ?_ | refine Wp.w_negI ?_ | refine Wp.w_neg ?_ | refine Wp.w_cmp ?_ | refine Wp.w_not ?_ | refine Wp.w_ite ?_ | refine Wp.w_tup ?_ | refine Wp.w_lst ?_ | refine Wp.w_idx ?_ | refine Wp.w_slice ?_ | refine Wp.w_oNil ?_ | refine Wp.w_oCons ?_ | refine Wp.w_fn1 ?_ | refine Wp.w_fn2 ?_ | refine Wp.w_meth1 ?_ | refine Wp.w_get2 ?_ | refine Wp.w_isi ?_ | refine Wp.w_ff ?_ | refine Wp.w_dic0 ?_ | refine Wp.w_cmp2 ?_ | refine Wp.w_and ?_ | refine Wp.w_or ?_ | refine Wp.w_andL ?_ | refine Wp.w_orL ?_ | refine Wp.w_andC ?_ | refine Wp.w_orC ?_ | refine Wp.t_and ?_ | refine Wp.t_or ?_ | refine Wp.t_andN ?_ | refine Wp.t_orN ?_ | refine Wp.t_andC ?_ | refine Wp.t_orC ?_ | refine Wp.t_not ?_ | refine Wp.t_cmp ?_ | refine Wp.t_cmp2 ?_ | refine Wp.u_var ?_ | refine Wp.u_peek ?_ | refine Wp.t_call ?_ | refine Wp.t_idx ?_ | refine Wp.t_fn1 ?_ | refine Wp.t_isi ?_ | refine Wp.t_bl ?_ | refine Wp.i_seq ?_ | refine Wp.i_range1 ?_ | refine Wp.i_range ?_ | refine Wp.i_zip ?_ | refine Wp.s_for ?_ | refine Wp.w_comp ?_ | refine Wp.t_comp ?_ | refine Wp.s_skip ?_ | refine Wp.s_asg ?_ | refine Wp.s_expr ?_ | refine Wp.s_ite ?_ | refine Wp.s_ret ?_ | refine Wp.s_retF ?_ | refine Wp.s_cont ?_ | refine Wp.pw_some ?_ | refine Wp.p_add ?_ | refine Wp.p_sub ?_ | refine Wp.p_tBl ?_ | refine Wp.p_tInt ?_ | refine Wp.p_tNon ?_ | refine Wp.p_tScr ?_ | refine Wp.p_tLst ?_ | refine Wp.p_tTup ?_ | refine Wp.p_lenS ?_ | refine Wp.l_L ?_ | refine Wp.l_I ?_ | refine Wp.l_S ?_ | refine Wp.l_T ?_ | refine Wp.p_lenL ?_ | refine Wp.p_lenT ?_ | refine Wp.p_lenX ?_ | refine Wp.v_lenH ?_ | refine Wp.h_zero ?_ | refine Wp.h_succ ?_ | refine Wp.q_abs fun n _ _ => ?_ | refine Wp.q_count2 fun n _ _ _ _ => ?_ | refine Wp.p_max2 ?_ | refine Wp.p_min2 ?_ | refine Wp.p_idxS ?_ | refine Wp.p_idxL ?_ | refine Wp.p_idxT ?_ | refine Wp.p_itL ?_ | refine Wp.p_itT ?_ | refine Wp.p_itS ?_ | refine Wp.i_T0 ?_ | refine Wp.i_T1 ?_ | refine Wp.i_T2 ?_ | refine Wp.it_S ?_ | refine Wp.it_I ?_ | refine Wp.u_I ?_ | refine Wp.u_S ?_ | refine Wp.u_L ?_ | refine Wp.f_listI ?_ | refine Wp.f_listS ?_ | refine Wp.f_sortI ?_ | refine Wp.w_hn ?_ | refine Wp.w_dsp ?_ | refine Wp.w_lit ?_ | refine Wp.w_lit2 ?_ | refine Wp.w_rev ?_ | refine Wp.i_enum ?_ | refine Wp.s_raise ?_ | refine Wp.s_par ?_ | refine Wp.ex_int ?_ | refine Wp.sl_initS ?_ | refine Wp.sl_tailS ?_ | refine Wp.sl_initI ?_ | refine Wp.sl_tailI ?_ | refine Wp.sl_2I ?_ | refine Wp.sl_1I ?_ | refine Wp.zip_S ?_ | refine Wp.key_i ?_ | refine Wp.c_neI0 ?_ | refine Wp.br_t ?_ | refine Wp.br_f ?_ | refine Wp.br_nt ?_ | refine Wp.br_nf ?_ | refine ⟨fun hb => ?_, fun hb => ?_⟩) | ((with_reducible refine Wp.p_set ?_ ?_); exact of_decide_eq_true rfl; dsimp only [List.set]) | ((with_reducible refine Wp.p_mul ?_ ?_); try omega) | ((with_reducible refine Wp.p_fdiv ?_ ?_ ?_); omega; omega) | ((with_reducible refine Wp.p_mod ?_ ?_); try omega) | ((with_reducible refine Wp.p_range ?_ ?_); omega) | ((with_reducible refine Wp.isi_D (b := true) ?_ ?_); exact rfl) | ((with_reducible refine Wp.isi_D (b := false) ?_ ?_); exact rfl) | ((with_reducible refine Wp.is_D (b := true) ?_ ?_); exact rfl) | ((with_reducible refine Wp.is_D (b := false) ?_ ?_); exact rfl) | ((with_reducible refine Wp.isn_D (b := true) ?_ ?_); exact rfl) | ((with_reducible refine Wp.isn_D (b := false) ?_ ?_); exact rfl) | ((with_reducible refine Wp.len_ok ?_ ?_); exact rfl) | ((with_reducible refine Wp.set_len ?_ ?_); exact rfl; dsimp only [List.set]) | dsimp only))
namespace Pv
open PySem L2 Wp
theorem compL_noexc (f : D → Store → Res (Option D)) : ∀ (ds : List D) (M : Store) (c : Nat) (M' : Store), compL f ds M ≠ .exc c M'
  | [], M, c, M', h => by cases h
  | d :: ds, M, c, M', h => by
    unfold compL at h
    split at h
    · split at h <;> cases h
    · cases h
open Wp
def dI (l : List Int) : D := .tup (l.map .int)
structure Th where
  id : Int
  kd : Int
  fs : List Int
deriving DecidableEq
def dT (t : Th) : D := .tup [.int t.id, .int t.kd, dI t.fs]
def dS (s : List Th) : D := .tup (s.map dT)
def Shp (ks : List Int) : Prop := 1 ≤ ks.length ∧ ks.length ≤ 4 ∧ ∀ k ∈ ks, 0 ≤ k ∧ k ≤ 5
structure ThOk (ks : List Int) (t : Th) : Prop where
  i0 : 0 ≤ t.id
  i1 : t.id ≤ 99
  k0 : 0 ≤ t.kd
  k1 : t.kd < ks.length
  fl : atI ks t.kd = some (t.fs.length : Int)
  fb : ∀ f ∈ t.fs, 0 ≤ f ∧ f ≤ 255
def Srt (s : List Th) : Prop := s.Pairwise fun a b => a.id < b.id
structure StOk (ks : List Int) (s : List Th) : Prop where
  so : Srt s
  ok : ∀ t ∈ s, ThOk ks t
/-! ### equality -/
theorem eqDs_int : ∀ a b : List Int, eqDs (a.map .int) (b.map .int) = decide (a = b)
  | [], [] => rfl
  | [], _ :: _ => rfl
  | _ :: _, [] => rfl
  | x :: a, y :: b => by
    simp only [List.map_cons, eqDs, eqD, eqDs_int a b]
    by_cases h : x = y
    · by_cases h2 : a = b <;> simp [h, h2]
    · simp [h]
theorem eqD_I (a b : List Int) : eqD (dI a) (dI b) = decide (a = b) := eqDs_int a b
theorem eqD_T (a b : Th) : eqD (dT a) (dT b) = decide (a = b) := by
  obtain ⟨i, k, f⟩ := a
  obtain ⟨j, l, g⟩ := b
  simp only [dT, eqD, eqDs, eqD_I, Bool.and_true]
  by_cases h1 : i = j <;> by_cases h2 : k = l <;> by_cases h3 : f = g <;> simp [h1, h2, h3]
theorem eqDs_T : ∀ a b : List Th, eqDs (a.map dT) (b.map dT) = decide (a = b)
  | [], [] => rfl
  | [], _ :: _ => rfl
  | _ :: _, [] => rfl
  | x :: a, y :: b => by
    simp only [List.map_cons, eqDs, eqD_T, eqDs_T a b]
    by_cases h : x = y
    · by_cases h2 : a = b <;> simp [h, h2]
    · simp [h]
theorem eqD_S (a b : List Th) : eqD (dS a) (dS b) = decide (a = b) := eqDs_T a b
theorem okds_int (n : Nat) : ∀ a : List Int, okds n (a.map .int) = true
  | [] => by cases n <;> rfl
  | x :: a => by
    rw [List.map_cons]
    show (okd n (.int x) && okds n (a.map .int)) = true
    rw [okds_int n a]
    cases n <;> rfl
theorem okd_I (n : Nat) (a : List Int) : okd (n + 1) (dI a) = true := okds_int n a
theorem okd_T (n : Nat) (t : Th) : okd (n + 2) (dT t) = true := by
  show (okd (n + 1) (.int t.id) && (okd (n + 1) (.int t.kd) && (okd (n + 1) (dI t.fs) && okds (n + 1) []))) = true
  rw [okd_I]; rfl
theorem okds_T (n : Nat) : ∀ s : List Th, okds (n + 2) (s.map dT) = true
  | [] => rfl
  | t :: s => by
    rw [List.map_cons]
    show (okd (n + 2) (dT t) && okds (n + 2) (s.map dT)) = true
    rw [okd_T, okds_T n s]; rfl
theorem okd_S (n : Nat) (s : List Th) : okd (n + 3) (dS s) = true := okds_T n s
/-- two plain values -/
theorem c_eqG {x y : D} {kb : Bool → Prop} {M : Store} (hx : okd 60 x = true) (hy : okd 60 y = true) (hd : dr M y = y) (h : kb (eqD x y)) : PW (cmpD .eq x (dr M y)) kb := by
  rw [hd]
  show PW (if (okd 60 x && okd 60 y) = true then some (eqD x y) else none) kb
  rw [hx, hy]; exact h
theorem c_neG {x y : D} {kb : Bool → Prop} {M : Store} (hx : okd 60 x = true) (hy : okd 60 y = true) (hd : dr M y = y) (h : kb (!eqD x y)) : PW (cmpD .ne x (dr M y)) kb := by
  rw [hd]
  show PW (if (okd 60 x && okd 60 y) = true then some (!eqD x y) else none) kb
  rw [hx, hy]; exact h
namespace Wp
section
variable {kb : Bool → Prop} {M : Store}
theorem c_eqS {a b : List Th} (h : kb (decide (a = b))) : PW (cmpD .eq (dS a) (dr M (dS b))) kb := c_eqG (okd_S 57 a) (okd_S 57 b) rfl (by rw [eqD_S]; exact h)
theorem c_neS {a b : List Th} (h : kb (!decide (a = b))) : PW (cmpD .ne (dS a) (dr M (dS b))) kb := c_neG (okd_S 57 a) (okd_S 57 b) rfl (by rw [eqD_S]; exact h)
theorem c_eqT {a b : Th} (h : kb (decide (a = b))) : PW (cmpD .eq (dT a) (dr M (dT b))) kb := c_eqG (okd_T 58 a) (okd_T 58 b) rfl (by rw [eqD_T]; exact h)
theorem c_neT {a b : Th} (h : kb (!decide (a = b))) : PW (cmpD .ne (dT a) (dr M (dT b))) kb := c_neG (okd_T 58 a) (okd_T 58 b) rfl (by rw [eqD_T]; exact h)
theorem c_eqI {a b : List Int} (h : kb (decide (a = b))) : PW (cmpD .eq (dI a) (dr M (dI b))) kb := c_eqG (okd_I 59 a) (okd_I 59 b) rfl (by rw [eqD_I]; exact h)
theorem c_neI {a b : List Int} (h : kb (!decide (a = b))) : PW (cmpD .ne (dI a) (dr M (dI b))) kb := c_neG (okd_I 59 a) (okd_I 59 b) rfl (by rw [eqD_I]; exact h)
theorem c_neLI {a b : List Int} (h : kb (!decide (a = b))) : PW (cmpD .ne (.lst (a.map .int)) (dr M (.lst (b.map .int)))) kb := by
  refine c_neG (okds_int 59 a) (okds_int 59 b) rfl ?_
  rw [show eqD (.lst (a.map .int)) (.lst (b.map .int)) = decide (a = b) from eqDs_int a b]; exact h
theorem c_neLS {a b : List Th} (h : kb (!decide (a = b))) : PW (cmpD .ne (.lst (a.map dT)) (dr M (.lst (b.map dT)))) kb := by
  refine c_neG (okds_T 57 a) (okds_T 57 b) rfl ?_
  rw [show eqD (.lst (a.map dT)) (.lst (b.map dT)) = decide (a = b) from eqDs_T a b]; exact h
theorem c_eqLS {a b : List Th} (h : kb (decide (a = b))) : PW (cmpD .eq (.lst (a.map dT)) (dr M (.lst (b.map dT)))) kb := by
  refine c_eqG (okds_T 57 a) (okds_T 57 b) rfl ?_
  rw [show eqD (.lst (a.map dT)) (.lst (b.map dT)) = decide (a = b) from eqDs_T a b]; exact h
/-! the same, known -/
theorem x_eqS {a b : List Th} (e : a = b) (h : kb true) : PW (cmpD .eq (dS a) (dr M (dS b))) kb := c_eqS (by rw [decide_eq_true e]; exact h)
theorem x_neS {a b : List Th} (e : a = b) (h : kb false) : PW (cmpD .ne (dS a) (dr M (dS b))) kb := c_neS (by rw [decide_eq_true e]; exact h)
theorem x_eqT {a b : Th} (e : a = b) (h : kb true) : PW (cmpD .eq (dT a) (dr M (dT b))) kb := c_eqT (by rw [decide_eq_true e]; exact h)
theorem x_neT {a b : Th} (e : a = b) (h : kb false) : PW (cmpD .ne (dT a) (dr M (dT b))) kb := c_neT (by rw [decide_eq_true e]; exact h)
theorem x_eqI {a b : List Int} (e : a = b) (h : kb true) : PW (cmpD .eq (dI a) (dr M (dI b))) kb := c_eqI (by rw [decide_eq_true e]; exact h)
theorem x_neI {a b : List Int} (e : a = b) (h : kb false) : PW (cmpD .ne (dI a) (dr M (dI b))) kb := c_neI (by rw [decide_eq_true e]; exact h)
theorem x_neLI {a b : List Int} (e : a = b) (h : kb false) : PW (cmpD .ne (.lst (a.map .int)) (dr M (.lst (b.map .int)))) kb := c_neLI (by rw [decide_eq_true e]; exact h)
theorem x_neLS {a b : List Th} (e : a = b) (h : kb false) : PW (cmpD .ne (.lst (a.map dT)) (dr M (.lst (b.map dT)))) kb := c_neLS (by rw [decide_eq_true e]; exact h)
theorem x_ne {i j : Int} (e : i = j) (h : kb false) : PW (cmpD .ne (.int i) (dr M (.int j))) kb := by
  subst e
  exact p_ne (by simpa using h)
/-! things and their parts -/
theorem i_T0 {t : Th} {k : D → Prop} (h : k (.int t.id)) : PW (idxD (dr M (dT t)) (.int 0)) k := h
theorem i_T1 {t : Th} {k : D → Prop} (h : k (.int t.kd)) : PW (idxD (dr M (dT t)) (.int 1)) k := h
theorem i_T2 {t : Th} {k : D → Prop} (h : k (dI t.fs)) : PW (idxD (dr M (dT t)) (.int 2)) k := h
theorem atI_map {α β : Type} (f : α → β) (l : List α) (i : Int) : atI (l.map f) i = (atI l i).map f := by
  unfold atI
  rw [List.length_map]
  cases ixN l.length i with
  | none => rfl
  | some n => exact List.getElem?_map
theorem atI_get {α : Type} {l : List α} {i : Int} (h0 : 0 ≤ i) (h1 : i < l.length) : ∃ h : i.toNat < l.length, atI l i = some l[i.toNat] := by
  have h : i.toNat < l.length := by omega
  refine ⟨h, ?_⟩
  unfold atI ixN
  rw [if_pos h0, if_pos h1]
  exact List.getElem?_eq_getElem h
theorem i_I {l : List Int} {i v : Int} {k : D → Prop} (e : atI l i = some v) (h : k (.int v)) : PW (idxD (dr M (dI l)) (.int i)) k := by
  show PW (atI (l.map .int) i) k
  rw [atI_map, e]; exact h
theorem i_S {s : List Th} {i : Int} {t : Th} {k : D → Prop} (e : atI s i = some t) (h : k (dT t)) : PW (idxD (dr M (dS s)) (.int i)) k := by
  show PW (atI (s.map dT) i) k
  rw [atI_map, e]; exact h
theorem it_S {s : List Th} {kl : List D → Prop} (h : kl (s.map dT)) : PW (itemsD (dS s)) kl := h
theorem it_I {l : List Int} {kl : List D → Prop} (h : kl (l.map .int)) : PW (itemsD (dI l)) kl := h
theorem l_I {l : List Int} {k : D → Prop} (h : k (.int l.length)) : PW (fn1D .len (dr M (dI l))) k := by
  show k (.int ((l.map D.int).length : Nat))
  rw [List.length_map]; exact h
theorem l_S {s : List Th} {k : D → Prop} (h : k (.int s.length)) : PW (fn1D .len (dr M (dS s))) k := by
  show k (.int ((s.map dT).length : Nat))
  rw [List.length_map]; exact h
theorem l_T {t : Th} {k : D → Prop} (h : k (.int 3)) : PW (fn1D .len (dr M (dT t))) k := h
theorem l_L {α : Type} {f : α → D} {s : List α} {k : D → Prop} (h : k (.int s.length)) : PW (fn1D .len (dr M (.lst (s.map f)))) k := by
  show k (.int ((s.map f).length : Nat))
  rw [List.length_map]; exact h
theorem u_I {l : List Int} {k : D → Prop} (h : k (dI l)) : PW (fn1D .tuple (dr M (.lst (l.map .int)))) k := h
theorem u_S {s : List Th} {k : D → Prop} (h : k (dS s)) : PW (fn1D .tuple (dr M (.lst (s.map dT)))) k := h
theorem isi_I {l : List Int} {kb : Bool → Prop} (h : kb true) : PW (isiD (dI l) .tuple) kb := h
theorem isi_T {t : Th} {kb : Bool → Prop} (h : kb true) : PW (isiD (dT t) .tuple) kb := h
theorem isi_S {s : List Th} {kb : Bool → Prop} (h : kb true) : PW (isiD (dS s) .tuple) kb := h
theorem isi_ii {i : Int} {kb : Bool → Prop} (h : kb true) : PW (isiD (.int i) .int) kb := h
theorem isi_ib {i : Int} {kb : Bool → Prop} (h : kb false) : PW (isiD (.int i) .bool) kb := h
theorem in_I {i : Int} {l : List Int} {kb : Bool → Prop} (h : kb (decide (i ∈ l))) : PW (cmpD .isin (.int i) (dr M (dI l))) kb := by
  have e : ∀ l : List Int, inD (.int i) (l.map .int) = decide (i ∈ l) := by
    intro l
    induction l with
    | nil => rfl
    | cons x l ih =>
      show (eqD (.int x) (.int i) || inD (.int i) (l.map .int)) = _
      rw [ih]
      by_cases h1 : i = x
      · subst h1; simp [eqD]
      · have h2 : ¬ x = i := fun z => h1 z.symm
        simp [eqD, h1, h2]
  have f : ((flatD (.int i) && (l.map D.int).all flatD) || (okd 59 (.int i) && okds 59 (l.map .int))) = true := by
    rw [okds_int 59 l]; simp [okd]
  show PW (if _ then some (inD (.int i) (l.map .int)) else none) kb
  rw [if_pos f, e]; exact h
theorem nin_I {i : Int} {l : List Int} {kb : Bool → Prop} (h : kb (!decide (i ∈ l))) : PW (cmpD .notin (.int i) (dr M (dI l))) kb := by
  show PW ((isinD _ _).map _) kb
  exact pw_map (in_I (M := M) (kb := fun b => kb (!b)) h)
theorem in_S {t : Th} {s : List Th} {kb : Bool → Prop} (h : kb (decide (t ∈ s))) : PW (cmpD .isin (dT t) (dr M (dS s))) kb := by
  have e : ∀ s : List Th, inD (dT t) (s.map dT) = decide (t ∈ s) := by
    intro s
    induction s with
    | nil => rfl
    | cons x s ih =>
      show (eqD (dT x) (dT t) || inD (dT t) (s.map dT)) = _
      rw [ih, eqD_T]
      by_cases h1 : t = x
      · subst h1; simp
      · have h2 : ¬ x = t := fun z => h1 z.symm
        simp [h1, h2]
  have f : ((flatD (dT t) && (s.map dT).all flatD) || (okd 59 (dT t) && okds 59 (s.map dT))) = true := by
    rw [okds_T 57 s, okd_T 57 t]; simp
  show PW (if _ then some (inD (dT t) (s.map dT)) else none) kb
  rw [if_pos f, e]; exact h
theorem nin_S {t : Th} {s : List Th} {kb : Bool → Prop} (h : kb (!decide (t ∈ s))) : PW (cmpD .notin (dT t) (dr M (dS s))) kb := by
  show PW ((isinD _ _).map _) kb
  exact pw_map (in_S (M := M) (kb := fun b => kb (!b)) h)
/-- all of truths -/
theorem all_f {α : Type} {f : α → Bool} {l : List α} {k : D → Prop} (h : k (.bl (l.all f))) : PW (fn1D .all (dr M (.lst (l.map fun x => .bl (f x))))) k := by
  have e : fn1D .all (.lst (l.map fun x => .bl (f x))) = some (.bl (l.all f)) := by
    show (boolsOf (l.map fun x => .bl (f x))).map (fun bs => D.bl (bs.all id)) = _
    have : boolsOf (l.map fun x => D.bl (f x)) = some (l.map f) := by
      clear h
      induction l with
      | nil => rfl
      | cons x l ih =>
        rw [List.map_cons]
        show (boolsOf (l.map fun x => D.bl (f x))).map (f x :: ·) = _
        rw [ih]; rfl
    rw [this]
    show some (D.bl ((l.map f).all id)) = _
    rw [List.all_map]; rfl
  show PW (fn1D .all (.lst (l.map fun x => .bl (f x)))) k
  rw [e]; exact h
theorem all_t {α : Type} {f : α → Bool} {l : List α} {k : D → Prop} (hf : ∀ x ∈ l, f x = true) (h : k (.bl true)) : PW (fn1D .all (dr M (.lst (l.map fun x => .bl (f x))))) k := by
  refine all_f ?_
  rw [List.all_eq_true.mpr hf]; exact h
end
end Wp
end Pv

set_option Elab.async false
set_option linter.all false
set_option maxRecDepth 100000
set_option maxHeartbeats 4000000
namespace Pv
open PySem L2 Wp
open Wp
/-! ### stands: by members -/
theorem Srt.nil : Srt [] := List.Pairwise.nil
theorem Srt.ext : ∀ {a b : List Th}, Srt a → Srt b → (∀ x, x ∈ a ↔ x ∈ b) → a = b
  | [], [], _, _, _ => rfl
  | [], y :: b, _, _, h => absurd ((h y).mpr List.mem_cons_self) List.not_mem_nil
  | x :: a, [], _, _, h => absurd ((h x).mp List.mem_cons_self) List.not_mem_nil
  | x :: a, y :: b, ha, hb, h => by
    have ha' := List.pairwise_cons.mp ha
    have hb' := List.pairwise_cons.mp hb
    have e : x = y := by
      rcases List.mem_cons.mp ((h x).mp List.mem_cons_self) with e | e
      · exact e
      rcases List.mem_cons.mp ((h y).mpr List.mem_cons_self) with e2 | e2
      · exact e2.symm
      have := ha'.1 y e2
      have := hb'.1 x e
      omega
    subst e
    rw [Srt.ext ha'.2 hb'.2 fun z => ⟨fun hz => ?_, fun hz => ?_⟩]
    · rcases List.mem_cons.mp ((h z).mp (List.mem_cons_of_mem _ hz)) with e | e
      · subst e
        have := ha'.1 z hz
        omega
      · exact e
    · rcases List.mem_cons.mp ((h z).mpr (List.mem_cons_of_mem _ hz)) with e | e
      · subst e
        have := hb'.1 z hz
        omega
      · exact e
theorem Srt.inj {s : List Th} (h : Srt s) {a b : Th} (ha : a ∈ s) (hb : b ∈ s) (e : a.id = b.id) : a = b := by
  induction s with
  | nil => cases ha
  | cons x s ih =>
    have h' := List.pairwise_cons.mp h
    rcases List.mem_cons.mp ha with q | q
    · rcases List.mem_cons.mp hb with r | r
      · exact q.trans r.symm
      · have := h'.1 b r; subst q; omega
    · rcases List.mem_cons.mp hb with r | r
      · have := h'.1 a q; subst r; omega
      · exact ih h'.2 q r
theorem Srt.filter {s : List Th} (h : Srt s) (p : Th → Bool) : Srt (s.filter p) := List.Pairwise.filter p h
theorem srt_ids {s : List Th} (h : Srt s) : (s.map (·.id)).Pairwise (· < ·) := List.pairwise_map.mpr h
theorem srt_of_ids {s : List Th} (h : (s.map (·.id)).Pairwise (· < ·)) : Srt s := List.pairwise_map.mp h
/-- ints, each once, rising: by members -/
theorem rise_ext : ∀ {a b : List Int}, a.Pairwise (· < ·) → b.Pairwise (· < ·) → (∀ x, x ∈ a ↔ x ∈ b) → a = b
  | [], [], _, _, _ => rfl
  | [], y :: b, _, _, h => absurd ((h y).mpr List.mem_cons_self) List.not_mem_nil
  | x :: a, [], _, _, h => absurd ((h x).mp List.mem_cons_self) List.not_mem_nil
  | x :: a, y :: b, ha, hb, h => by
    have ha' := List.pairwise_cons.mp ha
    have hb' := List.pairwise_cons.mp hb
    have e : x = y := by
      rcases List.mem_cons.mp ((h x).mp List.mem_cons_self) with e | e
      · exact e
      rcases List.mem_cons.mp ((h y).mpr List.mem_cons_self) with e2 | e2
      · exact e2.symm
      have := ha'.1 y e2
      have := hb'.1 x e
      omega
    subst e
    rw [rise_ext ha'.2 hb'.2 fun z => ⟨fun hz => ?_, fun hz => ?_⟩]
    · rcases List.mem_cons.mp ((h z).mp (List.mem_cons_of_mem _ hz)) with e | e
      · subst e
        have := ha'.1 z hz
        omega
      · exact e
    · rcases List.mem_cons.mp ((h z).mpr (List.mem_cons_of_mem _ hz)) with e | e
      · subst e
        have := hb'.1 z hz
        omega
      · exact e
/-! ### sorting -/
theorem isort_perm (l : List Int) : (isort l).Perm l := List.mergeSort_perm l _
theorem isort_ord (l : List Int) : (isort l).Pairwise (· ≤ ·) := by
  have := List.pairwise_mergeSort (le := fun a b : Int => decide (a ≤ b)) (fun a b c h1 h2 => by simp only [decide_eq_true_eq] at *; omega) (fun a b => by simp only [Bool.or_eq_true, decide_eq_true_eq]; omega) l
  exact this.imp fun h => by simpa using h
theorem isort_lt {l : List Int} (h : l.Nodup) : (isort l).Pairwise (· < ·) := by
  have h1 := isort_ord l
  have h2 : (isort l).Nodup := (isort_perm l).nodup_iff.mpr h
  exact (List.pairwise_and_iff.mpr ⟨h1, h2⟩).imp fun ⟨a, b⟩ => by
    have : _ ≠ _ := b
    omega
theorem rise_nodup {l : List Int} (h : l.Pairwise (· < ·)) : l.Nodup := h.imp fun h e => by omega
theorem isort_id {l : List Int} (h : l.Pairwise (· < ·)) : isort l = l := rise_ext (isort_lt (rise_nodup h)) h fun x => (isort_perm l).mem_iff
theorem uniq_rise : ∀ {l : List Int}, l.Pairwise (· ≤ ·) → (uniq l).Pairwise (· < ·) ∧ ∀ x, x ∈ uniq l ↔ x ∈ l
  | [], _ => ⟨List.Pairwise.nil, fun _ => Iff.rfl⟩
  | a :: r, h => by
    have h' := List.pairwise_cons.mp h
    obtain ⟨h1, h2⟩ := uniq_rise h'.2
    unfold uniq
    cases q : uniq r with
    | nil =>
      rw [q] at h2
      refine ⟨List.pairwise_singleton _ _, fun x => ?_⟩
      have := h2 x
      simp only [List.not_mem_nil, false_iff] at this
      simp [this]
    | cons b t =>
      rw [q] at h1 h2
      dsimp only
      by_cases e : a = b
      · rw [if_pos e]
        subst e
        refine ⟨h1, fun x => ?_⟩
        rw [h2 x, List.mem_cons]
        refine ⟨.inr, fun z => ?_⟩
        rcases z with rfl | z
        · exact (h2 x).mp List.mem_cons_self
        · exact z
      · rw [if_neg e]
        have hb : b ∈ r := (h2 b).mp List.mem_cons_self
        have := h'.1 b hb
        refine ⟨List.pairwise_cons.mpr ⟨fun z hz => ?_, h1⟩, fun x => ?_⟩
        · rcases List.mem_cons.mp hz with rfl | hz
          · omega
          · have := (List.pairwise_cons.mp h1).1 z hz; omega
        · rw [List.mem_cons, h2 x, List.mem_cons]
theorem sset_rise (l : List Int) : (sset l).Pairwise (· < ·) := (uniq_rise (isort_ord l)).1
theorem sset_iff (l : List Int) (x : Int) : x ∈ sset l ↔ x ∈ l := ((uniq_rise (isort_ord l)).2 x).trans (isort_perm l).mem_iff
theorem sset_id {l : List Int} (h : l.Pairwise (· < ·)) : sset l = l := rise_ext (sset_rise l) h (sset_iff l)
/-! ### things by ids -/
def ats (s : List Th) (n : Int) : Option Th := s.find? fun t => decide (t.id = n)
def wo (s : List Th) (n : Int) : List Th := s.filter fun t => !decide (t.id = n)
def bys (s : List Th) : List Th := s.mergeSort fun a b => decide (a.id ≤ b.id)
def wth (s : List Th) (t : Th) : List Th := bys (wo s t.id ++ [t])
theorem ats_some {s : List Th} (h : Srt s) {n : Int} {t : Th} : ats s n = some t ↔ t ∈ s ∧ t.id = n := by
  constructor
  · intro e
    have h1 := List.mem_of_find?_eq_some e
    have h2 := List.find?_some e
    exact ⟨h1, by simpa using h2⟩
  · rintro ⟨h1, h2⟩
    cases q : ats s n with
    | none =>
      have := List.find?_eq_none.mp q t h1
      simp [h2] at this
    | some u =>
      have h3 := List.mem_of_find?_eq_some q
      have h4 : u.id = n := by simpa using List.find?_some q
      rw [h.inj h3 h1 (h4.trans h2.symm)]
theorem ats_none {s : List Th} {n : Int} : ats s n = none ↔ ∀ t ∈ s, t.id ≠ n := by
  unfold ats
  rw [List.find?_eq_none]
  exact ⟨fun h t ht e => h t ht (by simpa using e), fun h t ht e => h t ht (by simpa using e)⟩
theorem mem_wo {s : List Th} {n : Int} {x : Th} : x ∈ wo s n ↔ x ∈ s ∧ x.id ≠ n := by
  unfold wo
  rw [List.mem_filter]; simp
theorem srt_wo {s : List Th} (h : Srt s) (n : Int) : Srt (wo s n) := h.filter _
theorem bys_perm (s : List Th) : (bys s).Perm s := List.mergeSort_perm s _
theorem mem_bys {s : List Th} {x : Th} : x ∈ bys s ↔ x ∈ s := (bys_perm s).mem_iff
theorem srt_bys {s : List Th} (h : (s.map (·.id)).Nodup) : Srt (bys s) := by
  have := List.pairwise_mergeSort (le := fun a b : Th => decide (a.id ≤ b.id)) (fun a b c h1 h2 => by simp only [decide_eq_true_eq] at *; omega) (fun a b => by simp only [Bool.or_eq_true, decide_eq_true_eq]; omega) s
  have h1 : (bys s).Pairwise fun a b => a.id ≤ b.id := this.imp fun h => by simpa using h
  have h2 : ((bys s).map (·.id)).Nodup := ((bys_perm s).map _).nodup_iff.mpr h
  have h3 : (bys s).Pairwise fun a b => a.id ≠ b.id := List.pairwise_map.mp h2
  exact (List.pairwise_and_iff.mpr ⟨h1, h3⟩).imp fun ⟨a, b⟩ => by omega
theorem mem_wth {s : List Th} {t x : Th} : x ∈ wth s t ↔ (x ∈ s ∧ x.id ≠ t.id) ∨ x = t := by
  unfold wth
  rw [mem_bys, List.mem_append, mem_wo, List.mem_singleton]
theorem nd_wo {s : List Th} (h : (s.map (·.id)).Nodup) (t : Th) : ((wo s t.id ++ [t]).map (·.id)).Nodup := by
  rw [List.map_append, List.nodup_append]
  refine ⟨?_, List.pairwise_singleton _ _, ?_⟩
  · exact List.Pairwise.sublist (List.filter_sublist.map _) h
  · intro a ha b hb e
    rw [List.map_cons, List.map_nil, List.mem_singleton] at hb
    obtain ⟨u, hu, rfl⟩ := List.mem_map.mp ha
    exact (mem_wo.mp hu).2 (e.trans hb)
theorem srt_wth {s : List Th} (h : Srt s) (t : Th) : Srt (wth s t) := srt_bys (nd_wo (rise_nodup (srt_ids h)) t)
theorem len_wo (s : List Th) (n : Int) : (wo s n).length ≤ s.length := List.length_filter_le _ _
theorem len_wth (s : List Th) (t : Th) : (wth s t).length ≤ s.length + 1 := by
  unfold wth
  rw [(bys_perm _).length_eq, List.length_append, List.length_singleton]
  have := len_wo s t.id
  omega
theorem ok_wo {ks : List Int} {s : List Th} (h : StOk ks s) (n : Int) : StOk ks (wo s n) := ⟨srt_wo h.so n, fun t ht => h.ok t (mem_wo.mp ht).1⟩
theorem ok_wth {ks : List Int} {s : List Th} (h : StOk ks s) {t : Th} (ht : ThOk ks t) : StOk ks (wth s t) := ⟨srt_wth h.so t, fun u hu => by
  rcases mem_wth.mp hu with ⟨h1, _⟩ | rfl
  · exact h.ok u h1
  · exact ht⟩
theorem ids_mem {s : List Th} {n : Int} : n ∈ s.map (·.id) ↔ ∃ t ∈ s, t.id = n := List.mem_map
/-! ### tuples sorted by their firsts -/
theorem tsort_T (s : List Th) : tsort (s.map dT) = (bys s).map dT := by
  unfold tsort bys
  rw [List.map_mergeSort]
  intro a _ b _
  rfl
theorem fstsOf_T : ∀ s : List Th, fstsOf (s.map dT) = some (s.map (·.id))
  | [] => rfl
  | t :: s => by
    rw [List.map_cons]
    show (fstsOf (s.map dT)).map (t.id :: ·) = _
    rw [fstsOf_T s]; rfl
theorem intsOf_T {s : List Th} (h : s ≠ []) : intsOf (s.map dT) = none := by
  cases s with
  | nil => exact absurd rfl h
  | cons t s => rfl
namespace Wp
theorem f_sortT {M : Store} {s : List Th} {k : D → Prop} (hn : (s.map (·.id)).Nodup) (hl : s.length < 64) (h : k (.lst ((bys s).map dT))) : PW (ffD .sorted (dr M (.lst (s.map dT)))) k := by
  cases s with
  | nil =>
    have e : bys [] = [] := List.length_eq_zero_iff.mp (bys_perm []).length_eq
    have e2 : isort [] = [] := List.length_eq_zero_iff.mp (isort_perm []).length_eq
    rw [e] at h
    show PW (some (.lst ((isort []).map D.int))) k
    rw [e2]
    exact h
  | cons t s =>
    show PW (match intsOf ((t :: s).map dT) with
      | some ns => some (.lst ((isort ns).map .int))
      | none => match fstsOf ((t :: s).map dT) with
        | some ns => if ns.Nodup ∧ ((t :: s).map dT).length < 64 then some (.lst (tsort ((t :: s).map dT))) else none
        | none => none) k
    rw [intsOf_T (by simp), fstsOf_T, tsort_T]
    dsimp only
    rw [if_pos ⟨hn, by rw [List.length_map]; exact hl⟩]
    exact h
theorem intsOf_I : ∀ l : List Int, intsOf (l.map .int) = some l
  | [] => rfl
  | x :: l => by
    rw [List.map_cons]
    show (intsOf (l.map .int)).map (x :: ·) = _
    rw [intsOf_I l]; rfl
theorem f_sortI {M : Store} {l : List Int} {k : D → Prop} (h : k (.lst ((isort l).map .int))) : PW (ffD .sorted (dr M (.lst (l.map .int)))) k := by
  show PW (match intsOf (l.map .int) with
      | some ns => some (.lst ((isort ns).map .int))
      | none => match fstsOf (l.map .int) with
        | some ns => if ns.Nodup ∧ (l.map D.int).length < 64 then some (.lst (tsort (l.map .int))) else none
        | none => none) k
  rw [intsOf_I]; exact h
theorem f_sset {M : Store} {l : List Int} {k : D → Prop} (hl : l.length < 64) (h : k (.lst ((sset l).map .int))) : PW (ffD .sset (dr M (dI l))) k := by
  show PW (if (l.map D.int).length < 64 then (intsOf (l.map .int)).map fun ns => .lst ((sset ns).map .int) else none) k
  rw [if_pos (by rw [List.length_map]; exact hl), intsOf_I]; exact h
theorem f_listI {M : Store} {l : List Int} {k : D → Prop} (h : k (.lst (l.map .int))) : PW (ffD .list (dr M (dI l))) k := h
theorem f_listS {M : Store} {s : List Th} {k : D → Prop} (h : k (.lst (s.map dT))) : PW (ffD .list (dr M (dS s))) k := h
end Wp
/-! ### dictionaries of things -/
def kvT (ts : List Th) : List (Key × D) := ts.map fun t => (.inl t.id, dT t)
/-- in its place, or behind -/
def setT (ts : List Th) (t : Th) : List Th := if (ts.any fun u => decide (u.id = t.id)) = true then ts.map (fun u => if u.id = t.id then t else u) else ts ++ [t]
theorem setK_T (ts : List Th) (t : Th) : setK (kvT ts) (.inl t.id) (dT t) = kvT (setT ts t) := by
  unfold setK setT
  have e : (kvT ts).any (fun kv => decide (kv.1 = .inl t.id)) = ts.any fun u => decide (u.id = t.id) := by
    unfold kvT
    rw [List.any_map]
    congr 1
    funext u
    simp
  rw [e]
  split
  · unfold kvT
    rw [List.map_map, List.map_map]
    refine List.map_congr_left fun u _ => ?_
    show (if (Sum.inl u.id : Key) = Sum.inl t.id then ((Sum.inl u.id : Key), dT t) else (Sum.inl u.id, dT u)) = ((fun t => ((Sum.inl t.id : Key), dT t)) (if u.id = t.id then t else u))
    by_cases q : u.id = t.id
    · rw [if_pos q, if_pos (by rw [q]), q]
    · rw [if_neg q, if_neg (fun z => q (Sum.inl.inj z))]
  · unfold kvT
    rw [List.map_append]; rfl
theorem mem_setT {ts : List Th} (hn : (ts.map (·.id)).Nodup) {t x : Th} : x ∈ setT ts t ↔ (x ∈ ts ∧ x.id ≠ t.id) ∨ x = t := by
  unfold setT
  split
  · rename_i h
    rw [List.mem_map]
    constructor
    · rintro ⟨u, hu, rfl⟩
      by_cases q : u.id = t.id
      · rw [if_pos q]; exact .inr rfl
      · rw [if_neg q]; exact .inl ⟨hu, q⟩
    · rintro (⟨h1, h2⟩ | rfl)
      · exact ⟨x, h1, if_neg h2⟩
      · obtain ⟨u, hu, q⟩ := List.any_eq_true.mp h
        exact ⟨u, hu, if_pos (by simpa using q)⟩
  · rename_i h
    rw [List.mem_append, List.mem_singleton]
    refine ⟨fun z => z.elim (fun q => .inl ⟨q, fun e => h (List.any_eq_true.mpr ⟨x, q, by simpa using e⟩)⟩) .inr, fun z => z.elim (fun q => .inl q.1) .inr⟩
theorem nd_setT {ts : List Th} (hn : (ts.map (·.id)).Nodup) (t : Th) : ((setT ts t).map (·.id)).Nodup := by
  unfold setT
  split
  · rw [List.map_map]
    rw [show ((fun t : Th => t.id) ∘ fun u => if u.id = t.id then t else u) = fun u => u.id from by
      funext u
      show (if u.id = t.id then t else u).id = u.id
      by_cases q : u.id = t.id
      · rw [if_pos q, q]
      · rw [if_neg q]]
    exact hn
  · rename_i h
    rw [List.map_append, List.nodup_append]
    refine ⟨hn, List.pairwise_singleton _ _, ?_⟩
    intro a ha b hb e
    rw [List.map_cons, List.map_nil, List.mem_singleton] at hb
    obtain ⟨u, hu, rfl⟩ := List.mem_map.mp ha
    exact h (List.any_eq_true.mpr ⟨u, hu, by simpa using e.trans hb⟩)
theorem len_setT (ts : List Th) (t : Th) : (setT ts t).length ≤ ts.length + 1 := by
  unfold setT
  split
  · rw [List.length_map]; omega
  · rw [List.length_append, List.length_singleton]; omega
def delT (ts : List Th) (n : Int) : List Th := wo ts n
theorem delK_T (ts : List Th) (n : Int) : delK (kvT ts) (.inl n) = kvT (wo ts n) := by
  unfold delK kvT wo
  rw [List.filter_map]
  congr 1
  refine List.filter_congr fun u _ => ?_
  simp
theorem lookK_T (ts : List Th) (n : Int) : lookK (kvT ts) (.inl n) = (ats ts n).map dT := by
  unfold lookK kvT ats
  rw [List.find?_map, Option.map_map]
  rw [show ((fun kv : Key × D => decide (kv.1 = Sum.inl n)) ∘ fun t : Th => ((Sum.inl t.id : Key), dT t)) = fun t => decide (t.id = n) from by
    funext u
    simp]
  rfl
theorem intKs_T : ∀ ts : List Th, intKs (kvT ts) = some (ts.map (·.id))
  | [] => rfl
  | t :: ts => by
    show (intKs (kvT ts)).map (t.id :: ·) = _
    rw [intKs_T ts]; rfl
theorem pairsOf_T : ∀ s : List Th, pairsOf (s.map fun t => .tup [.int t.id, dT t]) = some (kvT s)
  | [] => rfl
  | t :: s => by
    rw [List.map_cons]
    show (pairsOf (s.map fun t => .tup [.int t.id, dT t])).map ((.inl t.id, dT t) :: ·) = _
    rw [pairsOf_T s]; rfl
theorem setK_new {α : Type} {kvs : List (Key × α)} {k : Key} {v : α} (h : ∀ kv ∈ kvs, kv.1 ≠ k) : setK kvs k v = kvs ++ [(k, v)] := by
  unfold setK
  rw [if_neg]
  rw [List.any_eq_true]
  rintro ⟨kv, h1, h2⟩
  exact h kv h1 (by simpa using h2)
theorem dictOf_nd {ps : List (Key × D)} (h : (ps.map (·.1)).Nodup) : dictOf ps = ps := by
  unfold dictOf
  suffices H : ∀ (ps acc : List (Key × D)), ((acc ++ ps).map (·.1)).Nodup → ps.foldl (fun a p => setK a p.1 p.2) acc = acc ++ ps by
    have := H ps [] (by simpa using h)
    simpa using this
  intro ps
  induction ps with
  | nil => intro acc _; simp
  | cons p ps ih =>
    intro acc hn
    rw [List.foldl_cons, setK_new, ih]
    · simp
    · simpa using hn
    · intro kv hkv e
      rw [List.map_append, List.nodup_append] at hn
      exact hn.2.2 _ (List.mem_map_of_mem hkv) _ (List.mem_map_of_mem List.mem_cons_self) e
theorem dictOf_T {s : List Th} (h : (s.map (·.id)).Nodup) : dictOf (kvT s) = kvT s := by
  refine dictOf_nd ?_
  unfold kvT
  rw [List.map_map]
  show (s.map fun t => (Sum.inl t.id : Key)).Nodup
  rw [show (s.map fun t => (Sum.inl t.id : Key)) = (s.map (·.id)).map Sum.inl from by rw [List.map_map]; rfl]
  exact List.pairwise_map.mpr (h.imp fun a b => a (Sum.inl.inj b))
/-- what is there by the ids in order -/
theorem by_ids {ts : List Th} (hn : (ts.map (·.id)).Nodup) : (isort (ts.map (·.id))).filterMap (ats ts) = bys ts := by
  have key : isort (ts.map (·.id)) = (bys ts).map (·.id) := by
    refine rise_ext (isort_lt hn) (srt_ids (srt_bys hn)) fun x => ?_
    rw [(isort_perm _).mem_iff, List.mem_map, List.mem_map]
    exact ⟨fun ⟨t, h1, h2⟩ => ⟨t, mem_bys.mpr h1, h2⟩, fun ⟨t, h1, h2⟩ => ⟨t, mem_bys.mp h1, h2⟩⟩
  rw [key, List.filterMap_map]
  have : ∀ l : List Th, (∀ t ∈ l, t ∈ ts) → l.filterMap (ats ts ∘ fun t => t.id) = l := by
    intro l
    induction l with
    | nil => intro _; rfl
    | cons t l ih =>
      intro h
      rw [List.filterMap_cons]
      have ht : ats ts t.id = some t := by
        cases q : ats ts t.id with
        | none => exact absurd rfl (ats_none.mp q t (h t List.mem_cons_self))
        | some u =>
          have h3 := List.mem_of_find?_eq_some q
          have h4 : u.id = t.id := by simpa using List.find?_some q
          have hu : u ∈ bys ts := mem_bys.mpr h3
          rw [(srt_bys hn).inj hu (mem_bys.mpr (h t List.mem_cons_self)) h4]
      rw [Function.comp_apply, ht]
      dsimp only
      rw [ih fun u hu => h u (List.mem_cons_of_mem _ hu)]
  exact this _ fun t ht => mem_bys.mp ht
theorem bys_id {s : List Th} (h : Srt s) : bys s = s := (srt_bys (rise_nodup (srt_ids h))).ext h fun _ => mem_bys
namespace Wp
theorem f_sortD {M : Store} {s : List Th} {k : D → Prop} (hl : s.length < 64) (h : k (.lst ((isort (s.map (·.id))).map .int))) : PW (ffD .sorted (dr M (.dic (kvT s)))) k := by
  show PW (if (kvT s).length < 64 then (intKs (kvT s)).map fun ns => .lst ((isort ns).map .int) else none) k
  rw [if_pos (by unfold kvT; rw [List.length_map]; exact hl), intKs_T]; exact h
theorem f_dictT {M : Store} {s : List Th} {k : D → Prop} (hn : (s.map (·.id)).Nodup) (h : k (.dic (kvT s))) : PW (ffD .dict (dr M (.lst (s.map fun t => .tup [.int t.id, dT t])))) k := by
  show PW ((pairsOf (s.map fun t => .tup [.int t.id, dT t])).map fun ps => .dic (dictOf ps)) k
  rw [pairsOf_T]
  show k (.dic (dictOf (kvT s)))
  rw [dictOf_T hn]; exact h
end Wp
/-! ### a comprehension of a pure body -/
/-- what a map's comprehension gives -/
theorem comp_map {α β : Type} {f : D → Store → Res (Option D)} {M : Store} (enc : α → D) (dec : β → D) (o : α → Option β) {xs : List α} {QL : List D → Store → Prop} {X : Nat → Store → Prop}
    (hs : ∀ x ∈ xs, RW (f (enc x) M) (fun r M' => r = (o x).map dec ∧ M' = M) fun _ _ => False) (h : QL ((xs.filterMap o).map dec) M) : RW (compL f (xs.map enc) M) QL X := by
  refine (show RW (compL f (xs.map enc) M) (fun r M' => r = (xs.filterMap o).map dec ∧ M' = M) X from ?_).mono (fun r M' e => ?_) fun _ _ h => h
  · clear h
    induction xs with
    | nil => exact ⟨rfl, rfl⟩
    | cons d ds ih =>
      have h1 := hs d List.mem_cons_self
      have h2 := ih fun x hx => hs x (List.mem_cons_of_mem _ hx)
      rw [List.map_cons]
      unfold compL
      cases e : f (enc d) M with
      | fail => rw [e] at h1; exact h1.elim
      | exc c M' => rw [e] at h1; exact h1.elim
      | ok r M' =>
        rw [e] at h1
        obtain ⟨rfl, rfl⟩ := h1
        dsimp only
        cases e2 : compL f (ds.map enc) M' with
        | fail => rw [e2] at h2; exact h2.elim
        | exc c M2 => exact absurd e2 (compL_noexc f _ M' c M2)
        | ok t M2 =>
          rw [e2] at h2
          obtain ⟨rfl, rfl⟩ := h2
          refine ⟨?_, rfl⟩
          rw [List.filterMap_cons]
          cases o d <;> rfl
  · obtain ⟨rfl, rfl⟩ := e
    exact h
theorem comp_all {α β : Type} {f : D → Store → Res (Option D)} {M : Store} (enc : α → D) (dec : β → D) (o : α → β) {xs : List α} {QL : List D → Store → Prop} {X : Nat → Store → Prop}
    (hs : ∀ x ∈ xs, RW (f (enc x) M) (fun r M' => r = some (dec (o x)) ∧ M' = M) fun _ _ => False) (h : QL ((xs.map o).map dec) M) : RW (compL f (xs.map enc) M) QL X := by
  refine comp_map enc dec (fun x => some (o x)) hs ?_
  rw [List.filterMap_eq_map']; exact h
theorem comp_if {α : Type} {f : D → Store → Res (Option D)} {M : Store} (enc : α → D) (p : α → Bool) {xs : List α} {QL : List D → Store → Prop} {X : Nat → Store → Prop}
    (hs : ∀ x ∈ xs, RW (f (enc x) M) (fun r M' => r = (if p x = true then some (enc x) else none) ∧ M' = M) fun _ _ => False) (h : QL ((xs.filter p).map enc) M) : RW (compL f (xs.map enc) M) QL X := by
  refine comp_map enc enc (fun x => if p x = true then some x else none) (fun x hx => (hs x hx).mono (fun r M' e => ⟨e.1.trans (by split <;> rfl), e.2⟩) fun _ _ h => h) ?_
  rw [show (fun x => if p x = true then some x else none) = Option.guard p from by funext x; rfl, List.filterMap_eq_filter]
  exact h
/-! ### slices and pairs side by side -/
theorem cut_init {α : Type} (l : List α) : cutL l none (some (-1)) = l.dropLast := by
  unfold cutL
  have e : HT.sIx l.length l.length (some (-1)) = l.length - 1 := by
    show (if (-1 : Int) < 0 then ((-1 : Int) + (l.length : Int)).toNat else min (-1 : Int).toNat l.length) = _
    rw [if_pos (by omega)]
    omega
  rw [e]
  show (l.drop 0).take (l.length - 1 - 0) = _
  rw [List.drop_zero, Nat.sub_zero, List.dropLast_eq_take]
theorem cut_from {α : Type} (l : List α) (n : Nat) : cutL l (some (n : Int)) none = l.drop n := by
  unfold cutL
  have e : HT.sIx l.length 0 (some (n : Int)) = min n l.length := HT.sIx_nat _ _ _
  rw [e]
  show (l.drop (min n l.length)).take (l.length - min n l.length) = _
  by_cases h : n ≤ l.length
  · rw [Nat.min_eq_left h, List.take_of_length_le (by rw [List.length_drop]; omega)]
  · rw [Nat.min_eq_right (by omega), List.drop_eq_nil_of_le (by omega), List.drop_eq_nil_of_le (by omega), List.take_nil]
theorem cut_to {α : Type} (l : List α) (n : Nat) : cutL l none (some (n : Int)) = l.take n := by
  unfold cutL
  have e : HT.sIx l.length l.length (some (n : Int)) = min n l.length := HT.sIx_nat _ _ _
  rw [e]
  show (l.drop 0).take (min n l.length - 0) = _
  rw [List.drop_zero, Nat.sub_zero]
  by_cases h : n ≤ l.length
  · rw [Nat.min_eq_left h]
  · rw [Nat.min_eq_right (by omega), List.take_length, List.take_of_length_le (by omega)]
theorem srt_beside {s : List Th} (h : Srt s) : ∀ p ∈ s.dropLast.zip s.tail, p.1.id < p.2.id := by
  intro p hp
  obtain ⟨i, hi, rfl⟩ := List.mem_iff_getElem.mp hp
  rw [List.getElem_zip, List.getElem_dropLast, List.getElem_tail]
  exact List.pairwise_iff_getElem.mp h i (i + 1) _ _ (by omega)
namespace Wp
section
variable {M : Store} {k : D → Prop} {s : List Th} {l : List Int}
theorem ex_int {j : Int} {P : Int → Prop} (h : P j) : ∃ i : Int, D.int j = .int i ∧ P i := ⟨j, rfl, h⟩
theorem sl_initS (h : k (dS s.dropLast)) : PW (sliceD (dS s) none (some (-1))) k := by
  show k (.tup (cutL (s.map dT) none (some (-1))))
  rw [cut_init, ← List.map_dropLast]; exact h
theorem sl_tailS (h : k (dS s.tail)) : PW (sliceD (dS s) (some 1) none) k := by
  show k (.tup (cutL (s.map dT) (some ((1 : Nat) : Int)) none))
  rw [cut_from, ← List.map_drop, List.drop_one]; exact h
theorem sl_initI (h : k (dI l.dropLast)) : PW (sliceD (dI l) none (some (-1))) k := by
  show k (.tup (cutL (l.map D.int) none (some (-1))))
  rw [cut_init, ← List.map_dropLast]; exact h
theorem sl_tailI (h : k (dI l.tail)) : PW (sliceD (dI l) (some 1) none) k := by
  show k (.tup (cutL (l.map D.int) (some ((1 : Nat) : Int)) none))
  rw [cut_from, ← List.map_drop, List.drop_one]; exact h
theorem sl_2I (h : k (dI (l.take 2))) : PW (sliceD (dI l) none (some 2)) k := by
  show k (.tup (cutL (l.map D.int) none (some ((2 : Nat) : Int))))
  rw [cut_to, ← List.map_take]; exact h
theorem sl_1I (h : k (dI (l.take 1))) : PW (sliceD (dI l) none (some 1)) k := by
  show k (.tup (cutL (l.map D.int) none (some ((1 : Nat) : Int))))
  rw [cut_to, ← List.map_take]; exact h
def dP (p : Th × Th) : D := .tup [dT p.1, dT p.2]
theorem zip_S {a b : List Th} {kl : List D → Prop} (h : kl ((a.zip b).map dP)) : PW (zipO (dS a) (dS b)) kl := by
  show kl ((List.zip (a.map dT) (b.map dT)).map fun p => .tup [p.1, p.2])
  rw [List.zip_map, List.map_map]; exact h
end
end Wp
namespace Wp
section
variable {M : Store} {kb : Bool → Prop} {b : Bool} {t : Ty} {x y : D}
theorem key_i {i : Int} {k : Key → Prop} (h : k (.inl i)) : PW (keyOf (.int i)) k := h
theorem isi_D (e : isiD x t = some b) (h : kb b) : PW (isiD x t) kb := by rw [e]; exact h
theorem is_D (e : cmpD .is x (dr M y) = some b) (h : kb b) : PW (cmpD .is x (dr M y)) kb := by rw [e]; exact h
theorem isn_D (e : cmpD .isnot x (dr M y) = some b) (h : kb b) : PW (cmpD .isnot x (dr M y)) kb := by rw [e]; exact h
end
end Wp
/-- plain data without lists -/
def pl : Nat → D → Bool
  | _, .non => true
  | _, .bl _ => true
  | _, .int _ => true
  | _, .str x => okStr x
  | n + 1, .tup ds => ds.all (pl n)
  | _, _ => false
theorem pl_I (n : Nat) (l : List Int) : pl (n + 1) (dI l) = true := by
  show (l.map D.int).all (pl n) = true
  rw [List.all_map]
  exact List.all_eq_true.mpr fun x _ => by cases n <;> rfl
theorem pl_T (n : Nat) (t : Th) : pl (n + 2) (dT t) = true := by
  show (pl (n + 1) (.int t.id) && (pl (n + 1) (.int t.kd) && (pl (n + 1) (dI t.fs) && true))) = true
  rw [pl_I]; rfl
theorem pl_S (n : Nat) (s : List Th) : pl (n + 3) (dS s) = true := by
  show (s.map dT).all (pl (n + 2)) = true
  rw [List.all_map]
  exact List.all_eq_true.mpr fun x _ => pl_T n x
theorem zip_self : ∀ l : List D, (l.zip l).map (fun p => D.tup [p.1, p.2]) = l.map fun d => .tup [d, d]
  | [] => rfl
  | d :: l => by
    rw [List.zip_cons_cons, List.map_cons, zip_self l, List.map_cons]
/-- a thing at an id, or the word for none -/
def atD (s : List Th) (i : Int) : D := match ats s i with
  | some t => dT t
  | none => .str "NoThing"
theorem get2_T {s : List Th} {i : Int} : get2D (.dic (kvT s)) (.int i) (.str "NoThing") = some (atD s i) := by
  show some ((lookK (kvT s) (.inl i)).getD (.str "NoThing")) = _
  rw [lookK_T]
  unfold atD
  cases ats s i <;> rfl
theorem pl_at (n : Nat) (s : List Th) (i : Int) : pl (n + 2) (atD s i) = true := by
  unfold atD
  cases ats s i with
  | none => show okStr _ = true; decide +kernel
  | some t => exact pl_T n t
theorem setT_wo (s : List Th) (t : Th) : setT (wo s t.id) t = wo s t.id ++ [t] := by
  unfold setT
  rw [if_neg]
  rw [List.any_eq_true]
  rintro ⟨u, hu, e⟩
  exact (mem_wo.mp hu).2 (by simpa using e)
theorem nd_S {s : List Th} (h : Srt s) : (s.map (·.id)).Nodup := rise_nodup (srt_ids h)
theorem wo_wth {s : List Th} (h : Srt s) (t : Th) : wo (wth s t) t.id = wo s t.id := by
  refine Srt.ext (srt_wo (srt_wth h t) _) (srt_wo h _) fun x => ?_
  rw [mem_wo, mem_wo, mem_wth]
  constructor
  · rintro ⟨h1 | rfl, h2⟩
    · exact h1
    · exact absurd rfl h2
  · rintro ⟨h1, h2⟩
    exact ⟨.inl ⟨h1, h2⟩, h2⟩
namespace Wp
section
variable {C : Nat → List D → Store → Res D} {ρ : Rho} {M : Store} {e : Ek} {a k c : E}
theorem s_hpopd {n : Nat} {h' : E} (h : RW (ev C h' ρ M) (fun x M => x = .hnd n ∧ (∃ kvs, dr M (.hnd n) = .dic kvs) ∧ RW (ev C k ρ M) (fun y M => ∃ kvs, M[n]? = some (.dic kvs) ∧ PW (keyOf y) fun x => e.nx ρ (M.set n (.dic (delK kvs x)))) fun c M => e.xc c ρ M) fun c M => e.xc c ρ M) :
    OW (ex C (.hpopd h' k) ρ M) e := by
  simp only [ex]
  refine ow_ofR (h.mono (fun x M h => ?_) fun _ _ h => h)
  obtain ⟨rfl, ⟨kvs, q⟩, h⟩ := h
  simp only [q]
  refine ow_ofR (h.mono (fun y M h => ?_) fun _ _ h => h)
  obtain ⟨kvs', q', h⟩ := h
  simp only [q']
  generalize keyOf y = o at h ⊢
  cases o with
  | none => exact h
  | some x => exact h
theorem s_hsetiD {n : Nat} {h' : E} (h : RW (ev C a ρ M) (fun d M => RW (ev C h' ρ M) (fun x M => x = .hnd n ∧ RW (ev C k ρ M) (fun y M => ∃ kvs, M[n]? = some (.dic kvs) ∧ PW (keyOf y) fun x => kvs.length < LIM ∧ e.nx ρ (M.set n (.dic (setK kvs x d)))) fun c M => e.xc c ρ M) fun c M => e.xc c ρ M) fun c M => e.xc c ρ M) :
    OW (ex C (.hseti h' k a) ρ M) e := by
  simp only [ex]
  refine ow_ofR (h.mono (fun d M h => ow_ofR (h.mono (fun x M h => ?_) fun _ _ h => h)) fun _ _ h => h)
  obtain ⟨rfl, h⟩ := h
  refine ow_ofR (h.mono (fun y M h => ?_) fun _ _ h => h)
  obtain ⟨kvs', q', h⟩ := h
  simp only [q']
  generalize keyOf y = o at h ⊢
  cases o with
  | none => exact h
  | some x =>
    dsimp only
    rw [if_pos h.1]; exact h.2
theorem s_hsetiL {n : Nat} {h' : E} (h : RW (ev C a ρ M) (fun d M => RW (ev C h' ρ M) (fun x M => x = .hnd n ∧ RW (ev C k ρ M) (fun y M => ∃ (ds : List D) (j : Int), M[n]? = some (.lst ds) ∧ y = .int j ∧ PW (ixN ds.length j) fun i => e.nx ρ (M.set n (.lst (ds.set i d)))) fun c M => e.xc c ρ M) fun c M => e.xc c ρ M) fun c M => e.xc c ρ M) :
    OW (ex C (.hseti h' k a) ρ M) e := by
  simp only [ex]
  refine ow_ofR (h.mono (fun d M h => ow_ofR (h.mono (fun x M h => ?_) fun _ _ h => h)) fun _ _ h => h)
  obtain ⟨rfl, h⟩ := h
  refine ow_ofR (h.mono (fun y M h => ?_) fun _ _ h => h)
  obtain ⟨ds, j, q', rfl, h⟩ := h
  simp only [q']
  generalize ixN ds.length j = o at h ⊢
  cases o with
  | none => exact h
  | some x => exact h
theorem hAt_some {ds : List D} {k : List D → Prop} (h : k ds) : hAt (some (.lst ds)) k := h
theorem u_L {ds : List D} {k : D → Prop} (h : k (.tup ds)) : PW (fn1D .tuple (dr M (.lst ds))) k := h
theorem s_cut {s t : S} (I : Rho → Store → Prop) (h1 : OW (ex C s ρ M) ⟨I, fun _ _ => False, fun _ _ => False, fun _ _ _ => False⟩) (h2 : ∀ ρ M, I ρ M → OW (ex C t ρ M) e) : OW (ex C (.seq s t) ρ M) e :=
  s_seq (h1.mono h2 (fun _ _ h => h.elim) (fun _ _ h => h.elim) fun _ _ _ h => h.elim)
theorem c_neI0 {l : List Int} {kb : Bool → Prop} (h : kb (!decide (l = []))) : PW (cmpD .ne (dI l) (dr M (.tup []))) kb := c_neI (b := []) h
theorem tru_dic {kvs : List (Key × D)} {kb : Bool → Prop} (h : kb (!kvs.isEmpty)) : PW (truD (.dic kvs)) kb := h
theorem in_dic {ts : List Th} {i : Int} {kb : Bool → Prop} (h : kb (ats ts i).isSome) : PW (cmpD .isin (.int i) (.dic (kvT ts))) kb := by
  show kb (lookK (kvT ts) (.inl i)).isSome
  rw [lookK_T, Option.isSome_map]; exact h
theorem idx_dic {ts : List Th} {i : Int} {t : Th} {k : D → Prop} (e : ats ts i = some t) (h : k (dT t)) : PW (idxD (.dic (kvT ts)) (.int i)) k := by
  show PW (lookK (kvT ts) (.inl i)) k
  rw [lookK_T, e]; exact h
end
end Wp
/-- a handle's place in the store -/
def tw (n : Nat) (R : Store) : Store := .lst (List.replicate n (.int 0)) :: R
theorem tw_succ (n : Nat) (R : Store) : tw (n + 1) R = .lst (List.replicate n (.int 0) ++ [.int 0]) :: R := by
  unfold tw; rw [List.replicate_succ']
theorem tw_app (n : Nat) (R : Store) (d : D) : tw n R ++ [d] = tw n (R ++ [d]) := rfl
theorem tw_len (n : Nat) (R : Store) : (tw n R).length = R.length + 1 := rfl
theorem hd_at (n : Nat) (R G : Store) (d : D) : (tw n (R ++ d :: G))[R.length + 1]? = some d := by
  show (R ++ d :: G)[R.length]? = some d
  rw [List.getElem?_append_right (Nat.le_refl _), Nat.sub_self]; rfl
theorem hd_set (n : Nat) (R G : Store) (d e : D) : (tw n (R ++ d :: G)).set (R.length + 1) e = tw n (R ++ e :: G) := by
  show _ :: (R ++ d :: G).set R.length e = _
  rw [List.set_append_right _ _ (Nat.le_refl _), Nat.sub_self]; rfl
theorem dr_dic (n : Nat) (R G : Store) (kvs : List (Key × D)) : dr (tw n (R ++ .dic kvs :: G)) (.hnd (R.length + 1)) = .dic kvs := by
  simp only [dr, hd_at]
theorem dr_lst (n : Nat) (R G : Store) (ds : List D) : dr (tw n (R ++ .lst ds :: G)) (.hnd (R.length + 1)) = .lst ds := by
  simp only [dr, hd_at]
theorem atI_set {α : Type} {l : List α} {i : Int} (h0 : 0 ≤ i) (h1 : i < l.length) : ixN l.length i = some i.toNat := by
  unfold ixN
  rw [if_pos h0, if_pos h1]
/-! ### places, distances -/
def px (l : List Int) : Int := l.getD 0 0
def py (l : List Int) : Int := l.getD 1 0
theorem plc_eq (l : List Int) : (l ++ [0, 0]).take 2 = [px l, py l] := by
  match l with
  | [] => rfl
  | [a] => rfl
  | a :: b :: r => rfl
def iab (i : Int) : Int := if i < 0 then -i else i
def dist (a b : Th) : Int := iab (px a.fs - px b.fs) + iab (py a.fs - py b.fs)
theorem iab_cases (i : Int) : (0 ≤ i ∧ iab i = i) ∨ (i < 0 ∧ iab i = -i) := by
  unfold iab
  by_cases h : i < 0
  · rw [if_pos h]; exact .inr ⟨h, rfl⟩
  · rw [if_neg h]; exact .inl ⟨by omega, rfl⟩
theorem px_ok {ks : List Int} {t : Th} (h : ThOk ks t) : 0 ≤ px t.fs ∧ px t.fs ≤ 255 := by
  unfold px
  rw [List.getD_eq_getElem?_getD]
  cases q : t.fs[0]? with
  | none => exact ⟨by decide, by decide⟩
  | some v => exact h.fb v (List.mem_of_getElem? q)
theorem py_ok {ks : List Int} {t : Th} (h : ThOk ks t) : 0 ≤ py t.fs ∧ py t.fs ≤ 255 := by
  unfold py
  rw [List.getD_eq_getElem?_getD]
  cases q : t.fs[1]? with
  | none => exact ⟨by decide, by decide⟩
  | some v => exact h.fb v (List.mem_of_getElem? q)
theorem ThOk.len {ks : List Int} {t : Th} (hk : Shp ks) (h : ThOk ks t) : t.fs.length ≤ 5 := by
  obtain ⟨h2, e⟩ := atI_get h.k0 h.k1
  have := hk.2.2 _ (List.getElem_mem h2)
  have h3 := h.fl
  rw [e] at h3
  have h3 := Option.some.inj h3
  omega
/-! ### rows -/
inductive Ro where
  | gone (i : Int)
  | new (t : Th)
  | chg (i : Int) (cs : List (Int × Int))
deriving DecidableEq
def dC (cs : List (Int × Int)) : D := .tup (cs.map fun c => .tup [.int c.1, .int c.2])
def dR : Ro → D
  | .gone i => .tup [.str "gone", .int i]
  | .new t => .tup [.str "new", .int t.id, .int t.kd, dI t.fs]
  | .chg i cs => .tup [.str "changed", .int i, dC cs]
def dRs (rs : List Ro) : D := .tup (rs.map dR)
/-- the changed places -/
def chs (a b : List Int) : List (Int × Int) := (List.range a.length).filterMap fun (i : Nat) => if a[i]? = b[i]? then none else (b[i]?).map fun v => ((i : Int), v)
def rowOf (a b : List Th) (n : Int) : Option Ro := match ats b n with
  | none => some (.gone n)
  | some v => match ats a n with
    | none => some (.new v)
    | some u => if u.kd = v.kd then if u = v then none else some (.chg n (chs u.fs v.fs)) else some (.new v)
def allIds (a b : List Th) : List Int := sset (a.map (·.id) ++ b.map (·.id))
def diff (a b : List Th) : List Ro := (allIds a b).filterMap (rowOf a b)
theorem mem_allIds {a b : List Th} {n : Int} : n ∈ allIds a b ↔ (∃ t ∈ a, t.id = n) ∨ ∃ t ∈ b, t.id = n := by
  unfold allIds
  rw [sset_iff, List.mem_append, List.mem_map, List.mem_map]
theorem at_nat {α : Type} {l : List α} {i : Nat} (h : i < l.length) : atI l (0 + (i : Int)) = some l[i] := by
  unfold atI ixN
  rw [if_pos (by omega), if_pos (by omega)]
  have e : (0 + (i : Int)).toNat = i := by omega
  show l[(0 + (i : Int)).toNat]? = _
  rw [e]
  exact List.getElem?_eq_getElem h
theorem fm_congr {α β : Type} {f g : α → Option β} : ∀ {l : List α}, (∀ x ∈ l, f x = g x) → l.filterMap f = l.filterMap g
  | [], _ => rfl
  | a :: l, h => by
    rw [List.filterMap_cons, List.filterMap_cons, h a List.mem_cons_self, fm_congr fun x hx => h x (List.mem_cons_of_mem _ hx)]
theorem chs_eq {a b : List Int} (h : a.length = b.length) {n : Int} (hn : n = a.length) : (((List.range (n - 0).toNat).filter fun (i : Nat) => !decide (a[i]? = b[i]?)).map fun (i : Nat) => ((i : Int), b.getD i 0)) = chs a b := by
  unfold chs
  rw [show (n - 0).toNat = a.length from by omega]
  rw [← List.filterMap_eq_filter, List.map_filterMap]
  refine fm_congr fun i hi => ?_
  have hi : i < b.length := by
    have := List.mem_range.mp hi
    omega
  have e : b.getD i 0 = b[i] := by rw [List.getD_eq_getElem?_getD, List.getElem?_eq_getElem hi]; rfl
  have e2 : b[i]? = some b[i] := List.getElem?_eq_getElem hi
  by_cases q : a[i]? = b[i]?
  · rw [if_pos q]
    simp [Option.guard, q]
  · rw [if_neg q]
    simp only [Option.guard, q, decide_false, Bool.not_false, if_true, Option.map_some, e]
    rw [e2]; rfl
theorem uniq_len : ∀ l : List Int, (uniq l).length ≤ l.length
  | [] => Nat.le_refl _
  | a :: r => by
    have := uniq_len r
    unfold uniq
    cases q : uniq r with
    | nil => simp
    | cons b t =>
      rw [q] at this
      dsimp only
      split
      · exact Nat.le_succ_of_le this
      · simp only [List.length_cons] at this ⊢; omega
theorem allIds_len (a b : List Th) : (allIds a b).length ≤ a.length + b.length := by
  unfold allIds sset
  have h1 := uniq_len (isort (a.map (·.id) ++ b.map (·.id)))
  rw [(isort_perm _).length_eq, List.length_append, List.length_map, List.length_map] at h1
  exact h1
theorem fs_len {ks : List Int} {u v : Th} (hu : ThOk ks u) (hv : ThOk ks v) (e : u.kd = v.kd) : u.fs.length = v.fs.length := by
  have h1 := hu.fl
  have h2 := hv.fl
  rw [e, h2] at h1
  have := Option.some.inj h1
  omega
theorem ats_id {s : List Th} {n : Int} {t : Th} (h : ats s n = some t) : t ∈ s ∧ t.id = n := ⟨List.mem_of_find?_eq_some h, by simpa using List.find?_some h⟩
theorem not_ids {s : List Th} {n : Int} : n ∉ s.map (·.id) ↔ ats s n = none := by
  rw [ats_none, List.mem_map]
  exact ⟨fun h t ht e => h ⟨t, ht, e⟩, fun h ⟨t, ht, e⟩ => h t ht e⟩
theorem in_ids {s : List Th} {n : Int} (h : n ∈ s.map (·.id)) : ∃ t, ats s n = some t := by
  cases q : ats s n with
  | none => exact absurd h (not_ids.mpr q)
  | some t => exact ⟨t, rfl⟩
namespace Wp
section
variable {k : D → Prop} {l m : List Int} {M : Store} {kb : Bool → Prop}
theorem p_addI2 {i j : Int} (hl : l.length + 2 ≤ LIM) (h : k (dI (l ++ [i, j]))) : PW (binD .add (dI l) (.tup [.int i, .int j])) k := by
  refine p_addT (by rw [List.length_map]; exact hl) ?_
  rw [show l.map D.int ++ [.int i, .int j] = (l ++ [i, j]).map D.int from by rw [List.map_append]; rfl]
  exact h
theorem p_addI1 {i : Int} (hl : l.length + 1 ≤ LIM) (h : k (dI (l ++ [i]))) : PW (binD .add (dI l) (.tup [.int i])) k := by
  refine p_addT (by rw [List.length_map]; exact hl) ?_
  rw [show l.map D.int ++ [.int i] = (l ++ [i]).map D.int from by rw [List.map_append]; rfl]
  exact h
theorem p_addII (hl : l.length + m.length ≤ LIM) (h : k (dI (l ++ m))) : PW (binD .add (dI l) (dI m)) k := by
  refine p_addT (by rw [List.length_map, List.length_map]; exact hl) ?_
  rw [← List.map_append]; exact h
theorem p_addSS {a b : List Th} (hl : a.length + b.length ≤ LIM) (h : k (dS (a ++ b))) : PW (binD .add (dS a) (dS b)) k := by
  refine p_addT (by rw [List.length_map, List.length_map]; exact hl) ?_
  rw [← List.map_append]; exact h
theorem p_addNew {t : Th} (h : k (dR (.new t))) : PW (binD .add (.tup [.str "new"]) (dT t)) k := p_addT (ds := [.str "new"]) (es := [.int t.id, .int t.kd, dI t.fs]) (show 1 + 3 ≤ LIM by decide) h
theorem it_sset {l : List Int} {kl : List D → Prop} (h : kl (l.map .int)) : PW (itemsD (.lst (l.map .int))) kl := h
theorem it_R {rs : List Ro} {kl : List D → Prop} (h : kl (rs.map dR)) : PW (itemsD (dRs rs)) kl := h
theorem l_R {rs : List Ro} (h : k (.int rs.length)) : PW (fn1D .len (dr M (dRs rs))) k := by
  show k (.int ((rs.map dR).length : Nat))
  rw [List.length_map]; exact h
/-! what row it is -/
def tagR : Ro → Str
  | .gone _ => "gone"
  | .new _ => "new"
  | .chg _ _ => "changed"
def idR : Ro → Int
  | .gone i => i
  | .new t => t.id
  | .chg i _ => i
theorem i_R0 {r : Ro} (h : k (.str (tagR r))) : PW (idxD (dr M (dR r)) (.int 0)) k := by cases r <;> exact h
theorem i_R1 {r : Ro} (h : k (.int (idR r))) : PW (idxD (dr M (dR r)) (.int 1)) k := by cases r <;> exact h
def isGone : Ro → Bool
  | .gone _ => true
  | _ => false
def isNew : Ro → Bool
  | .new _ => true
  | _ => false
def isChg : Ro → Bool
  | .chg _ _ => true
  | _ => false
theorem okGone : okStr "gone" = true := by decide +kernel
theorem okNew : okStr "new" = true := by decide +kernel
theorem okChg : okStr "changed" = true := by decide +kernel
theorem ok_tag (r : Ro) : okd 60 (.str (tagR r)) = true := by
  cases r with
  | gone i => exact okGone
  | new t => exact okNew
  | chg i cs => exact okChg
theorem tg11 : ("gone" : Str) == "gone" := by decide +kernel
theorem tg12 : (("gone" : Str) == "new") = false := by decide +kernel
theorem tg13 : (("gone" : Str) == "changed") = false := by decide +kernel
theorem tg21 : (("new" : Str) == "gone") = false := by decide +kernel
theorem tg22 : ("new" : Str) == "new" := by decide +kernel
theorem tg23 : (("new" : Str) == "changed") = false := by decide +kernel
theorem tg31 : (("changed" : Str) == "gone") = false := by decide +kernel
theorem tg32 : (("changed" : Str) == "new") = false := by decide +kernel
theorem tg33 : ("changed" : Str) == "changed" := by decide +kernel
theorem c_gone {r : Ro} (h : kb (isGone r)) : PW (cmpD .eq (.str (tagR r)) (dr M (.str "gone"))) kb := by
  refine c_eqG (ok_tag r) okGone rfl ?_
  rw [show eqD (.str (tagR r)) (.str "gone") = isGone r from by
    cases r with
    | gone i => exact tg11
    | new t => exact tg21
    | chg i cs => exact tg31]
  exact h
theorem c_new {r : Ro} (h : kb (isNew r)) : PW (cmpD .eq (.str (tagR r)) (dr M (.str "new"))) kb := by
  refine c_eqG (ok_tag r) okNew rfl ?_
  rw [show eqD (.str (tagR r)) (.str "new") = isNew r from by
    cases r with
    | gone i => exact tg12
    | new t => exact tg22
    | chg i cs => exact tg32]
  exact h
theorem c_chg {r : Ro} (h : kb (isChg r)) : PW (cmpD .eq (.str (tagR r)) (dr M (.str "changed"))) kb := by
  refine c_eqG (ok_tag r) okChg rfl ?_
  rw [show eqD (.str (tagR r)) (.str "changed") = isChg r from by
    cases r with
    | gone i => exact tg13
    | new t => exact tg23
    | chg i cs => exact tg33]
  exact h
end
end Wp
end Pv

set_option Elab.async false
set_option linter.all false
set_option maxRecDepth 100000
set_option maxHeartbeats 4000000
namespace Pv
open PySem L2 Wp
mutual
theorem pl_okd : ∀ (n m : Nat) (d : D), n ≤ m → pl n d = true → okd m d = true
  | _, m, .non, _, _ => by cases m <;> rfl
  | _, m, .bl _, _, _ => by cases m <;> rfl
  | _, m, .int _, _, _ => by cases m <;> rfl
  | n, m, .str x, _, h => by
    have h : okStr x = true := by cases n <;> exact h
    cases m <;> exact h
  | 0, _, .tup _, _, h => nomatch h
  | n + 1, 0, .tup _, h1, _ => absurd h1 (by omega)
  | n + 1, m + 1, .tup ds, h1, h => pl_okds n m ds (by omega) h
  | n, _, .lst _, _, h => by cases n <;> cases h
  | n, _, .scr _, _, h => by cases n <;> cases h
  | n, _, .dic _, _, h => by cases n <;> cases h
  | n, _, .hnd _, _, h => by cases n <;> cases h
  | n, _, .obj _ _, _, h => by cases n <;> cases h
  | n, _, .lck _, _, h => by cases n <;> cases h
theorem pl_okds : ∀ (n m : Nat) (ds : List D), n ≤ m → ds.all (pl n) = true → okds m ds = true
  | _, m, [], _, _ => by cases m <;> rfl
  | n, m, d :: ds, h1, h => by
    rw [List.all_cons, Bool.and_eq_true] at h
    show (okd m d && okds m ds) = true
    rw [pl_okd n m d h1 h.1, pl_okds n m ds h1 h.2]; rfl
end
mutual
theorem eqD_refl : ∀ (n : Nat) (d : D), pl n d = true → eqD d d = true
  | _, .non, _ => rfl
  | _, .bl b, _ => by simp [eqD]
  | _, .int _, _ => by simp [eqD]
  | _, .str _, _ => by simp [eqD]
  | 0, .tup _, h => nomatch h
  | n + 1, .tup ds, h => eqDs_refl n ds h
  | n, .lst _, h => by cases n <;> cases h
  | n, .scr _, h => by cases n <;> cases h
  | n, .dic _, h => by cases n <;> cases h
  | n, .hnd _, h => by cases n <;> cases h
  | n, .obj _ _, h => by cases n <;> cases h
  | n, .lck _, h => by cases n <;> cases h
theorem eqDs_refl : ∀ (n : Nat) (ds : List D), ds.all (pl n) = true → eqDs ds ds = true
  | _, [], _ => rfl
  | n, d :: ds, h => by
    rw [List.all_cons, Bool.and_eq_true] at h
    show (eqD d d && eqDs ds ds) = true
    rw [eqD_refl n d h.1, eqDs_refl n ds h.2]; rfl
end
theorem pl_dr {n : Nat} {d : D} {M : Store} (h : pl n d = true) : dr M d = d := by
  cases d with
  | hnd i => cases n <;> cases h
  | obj _ _ => cases n <;> cases h
  | lck _ => cases n <;> cases h
  | _ => rfl
theorem pl_C (n : Nat) (cs : List (Int × Int)) : pl (n + 2) (dC cs) = true := by
  show (cs.map fun c => D.tup [.int c.1, .int c.2]).all (pl (n + 1)) = true
  rw [List.all_map]
  exact List.all_eq_true.mpr fun x _ => by
    show (pl n (.int x.1) && (pl n (.int x.2) && true)) = true
    cases n <;> rfl
theorem pl_R (n : Nat) (r : Ro) : pl (n + 3) (dR r) = true := by
  cases r with
  | gone i => show (pl (n + 2) (.str "gone") && _) = true; rw [show pl (n + 2) (.str "gone") = true from Wp.okGone]; rfl
  | new t =>
    show (pl (n + 2) (.str "new") && (pl (n + 2) (.int t.id) && (pl (n + 2) (.int t.kd) && (pl (n + 2) (dI t.fs) && true)))) = true
    rw [show pl (n + 2) (.str "new") = true from Wp.okNew, pl_I]; rfl
  | chg i cs =>
    show (pl (n + 2) (.str "changed") && (pl (n + 2) (.int i) && (pl (n + 2) (dC cs) && true))) = true
    rw [show pl (n + 2) (.str "changed") = true from Wp.okChg, pl_C]; rfl
theorem pl_Rs (n : Nat) (rs : List Ro) : pl (n + 4) (dRs rs) = true := by
  show (rs.map dR).all (pl (n + 3)) = true
  rw [List.all_map]
  exact List.all_eq_true.mpr fun x _ => pl_R n x
theorem pl_pair {n : Nat} {a b : D} (ha : pl n a = true) (hb : pl n b = true) : pl (n + 1) (.tup [a, b]) = true := by
  show (pl n a && (pl n b && true)) = true
  rw [ha, hb]; rfl
namespace Wp
section
variable {M : Store} {kb : Bool → Prop} {d e : D}
theorem x_neD (n : Nat) (q : d = e) (hn : n ≤ 60) (hp : pl n d = true) (h : kb false) : PW (cmpD .ne d (dr M e)) kb := by
  subst q
  refine c_neG (pl_okd n 60 d hn hp) (pl_okd n 60 d hn hp) (pl_dr hp) ?_
  rw [eqD_refl n d hp]; exact h
theorem x_eqD (n : Nat) (q : d = e) (hn : n ≤ 60) (hp : pl n d = true) (h : kb true) : PW (cmpD .eq d (dr M e)) kb := by
  subst q
  refine c_eqG (pl_okd n 60 d hn hp) (pl_okd n 60 d hn hp) (pl_dr hp) ?_
  rw [eqD_refl n d hp]; exact h
theorem x_neB {a b : Bool} (q : a = b) (h : kb false) : PW (cmpD .ne (.bl a) (dr M (.bl b))) kb := by
  subst q
  exact p_neB (by simpa using h)
theorem x_gtF {i j : Int} (q : i ≤ j) (h : kb false) : PW (cmpD .gt (.int i) (dr M (.int j))) kb := p_gt (by rw [decide_eq_false (by omega)]; exact h)
theorem x_leT {i j : Int} (q : i ≤ j) (h : kb true) : PW (cmpD .le (.int i) (dr M (.int j))) kb := p_le (by rw [decide_eq_true q]; exact h)
end
end Wp
theorem dist_self (a : Th) : dist a a = 0 := by unfold dist iab; simp
theorem dist_comm (a b : Th) : dist a b = dist b a := by
  unfold dist
  rcases iab_cases (px a.fs - px b.fs) with ⟨h1, e1⟩ | ⟨h1, e1⟩ <;> rcases iab_cases (px b.fs - px a.fs) with ⟨h2, e2⟩ | ⟨h2, e2⟩ <;> rcases iab_cases (py a.fs - py b.fs) with ⟨h3, e3⟩ | ⟨h3, e3⟩ <;> rcases iab_cases (py b.fs - py a.fs) with ⟨h4, e4⟩ | ⟨h4, e4⟩ <;> omega
theorem iab_tri (a b c : Int) : iab (a - b) ≤ iab (a - c) + iab (c - b) := by
  rcases iab_cases (a - b) with ⟨h1, e1⟩ | ⟨h1, e1⟩ <;> rcases iab_cases (a - c) with ⟨h2, e2⟩ | ⟨h2, e2⟩ <;> rcases iab_cases (c - b) with ⟨h3, e3⟩ | ⟨h3, e3⟩ <;> omega
theorem dist_tri (a b c : Th) : dist a b ≤ dist a c + dist c b := by
  unfold dist
  have := iab_tri (px a.fs) (px b.fs) (px c.fs)
  have := iab_tri (py a.fs) (py b.fs) (py c.fs)
  omega
theorem dist_rng {ks : List Int} {a b : Th} (ha : ThOk ks a) (hb : ThOk ks b) : 0 ≤ dist a b ∧ dist a b ≤ 510 := by
  have := px_ok ha
  have := px_ok hb
  have := py_ok ha
  have := py_ok hb
  unfold dist
  rcases iab_cases (px a.fs - px b.fs) with ⟨h1, e1⟩ | ⟨h1, e1⟩ <;> rcases iab_cases (py a.fs - py b.fs) with ⟨h3, e3⟩ | ⟨h3, e3⟩ <;> omega
theorem dist_nul (a b : Th) : decide (dist a b = 0) = decide ([px a.fs, py a.fs] = [px b.fs, py b.fs]) := by
  refine decide_eq_decide.mpr ?_
  unfold dist
  simp only [List.cons.injEq, and_true]
  rcases iab_cases (px a.fs - px b.fs) with ⟨h1, e1⟩ | ⟨h1, e1⟩ <;> rcases iab_cases (py a.fs - py b.fs) with ⟨h3, e3⟩ | ⟨h3, e3⟩ <;> omega
theorem at_0 {α : Type} (a : α) (l : List α) : atI (a :: l) 0 = some a := by
  unfold atI ixN
  rw [if_pos (by decide), if_pos (by simp only [List.length_cons]; omega)]
  rfl
theorem at_px (l : List Int) : atI (l ++ [0]) 0 = some (px l) := by cases l <;> exact at_0 _ _
theorem at_py (l : List Int) : atI (l.tail ++ [0]) 0 = some (py l) := by
  match l with
  | [] => exact at_0 _ _
  | [a] => exact at_0 _ _
  | a :: b :: r => exact at_0 _ _
/-! what the rows of a difference tell -/
theorem rise_filter {l : List Int} (h : l.Pairwise (· < ·)) (p : Int → Bool) : (l.filter p).Pairwise (· < ·) := h.filter p
theorem rowOf_id {a b : List Th} {n : Int} {r : Ro} (h : rowOf a b n = some r) : Wp.idR r = n := by
  unfold rowOf at h
  split at h
  · cases h; rfl
  · rename_i v hv
    have vo := ats_id hv
    split at h
    · cases h; exact vo.2
    · split at h
      · split at h
        · cases h
        · cases h; rfl
      · cases h; exact vo.2
/-- picked rows' ids -/
theorem diff_ids {a b : List Th} (p : Ro → Bool) : ((diff a b).filterMap fun r => if p r = true then some (Wp.idR r) else none) = (allIds a b).filter fun n => ((rowOf a b n).map p).getD false := by
  unfold diff
  rw [List.filterMap_filterMap, ← List.filterMap_eq_filter]
  refine fm_congr fun n _ => ?_
  have q0 : ∀ r, rowOf a b n = some r → Wp.idR r = n := fun r h => rowOf_id h
  show (rowOf a b n).bind (fun r => if p r = true then some (Wp.idR r) else none) = if ((rowOf a b n).map p).getD false = true then some n else none
  generalize rowOf a b n = o at q0 ⊢
  cases o with
  | none => rfl
  | some r =>
    show (if p r = true then some (Wp.idR r) else none) = if p r = true then some n else none
    rw [q0 r rfl]
theorem rise_all (a b : List Th) : (allIds a b).Pairwise (· < ·) := sset_rise _
theorem went_eq {a b : List Th} (ha : Srt a) : (a.map (·.id)).filter (fun n => !decide (n ∈ b.map (·.id))) = (diff a b).filterMap fun r => if Wp.isGone r = true then some (Wp.idR r) else none := by
  rw [diff_ids]
  refine rise_ext (rise_filter (srt_ids ha) _) (rise_filter (rise_all a b) _) fun n => ?_
  rw [List.mem_filter, List.mem_filter, mem_allIds, List.mem_map]
  simp only [Bool.not_eq_true', decide_eq_false_iff_not]
  rw [not_ids]
  constructor
  · rintro ⟨h1, h2⟩
    refine ⟨.inl h1, ?_⟩
    unfold rowOf
    rw [h2]; rfl
  · rintro ⟨h1, h2⟩
    cases hb : ats b n with
    | none =>
      refine ⟨?_, rfl⟩
      rcases h1 with h1 | ⟨t, ht, e⟩
      · exact h1
      · exact absurd e (ats_none.mp hb t ht)
    | some v =>
      exfalso
      unfold rowOf at h2
      rw [hb] at h2
      dsimp only at h2
      cases ha : ats a n with
      | none => rw [ha] at h2; cases h2
      | some u =>
        rw [ha] at h2
        dsimp only at h2
        split at h2
        · split at h2 <;> cases h2
        · cases h2
theorem came_eq {a b : List Th} (hb : Srt b) : (b.map (·.id)).filter (fun n => !decide (n ∈ a.map (·.id))) = (diff a b).filterMap fun r => if (Wp.isNew r && !decide (Wp.idR r ∈ a.map (·.id))) = true then some (Wp.idR r) else none := by
  rw [diff_ids fun r => Wp.isNew r && !decide (Wp.idR r ∈ a.map (·.id))]
  refine rise_ext (rise_filter (srt_ids hb) _) (rise_filter (rise_all a b) _) fun n => ?_
  rw [List.mem_filter, List.mem_filter, mem_allIds, List.mem_map]
  simp only [Bool.not_eq_true', decide_eq_false_iff_not]
  rw [not_ids]
  constructor
  · rintro ⟨⟨t, ht, e⟩, h2⟩
    refine ⟨.inr ⟨t, ht, e⟩, ?_⟩
    have hv : ats b n = some t := (ats_some hb).mpr ⟨ht, e⟩
    have hr : rowOf a b n = some (.new t) := by unfold rowOf; rw [hv, h2]
    rw [hr]
    show (true && !decide (t.id ∈ a.map (·.id))) = true
    rw [e, decide_eq_false (not_ids.mpr h2)]; rfl
  · rintro ⟨h1, h2⟩
    cases q : rowOf a b n with
    | none => rw [q] at h2; cases h2
    | some r =>
      rw [q] at h2
      have h2 : (Wp.isNew r && !decide (Wp.idR r ∈ a.map (·.id))) = true := h2
      rw [rowOf_id q, Bool.and_eq_true] at h2
      have h3 : ats a n = none := not_ids.mp (by simpa using h2.2)
      refine ⟨?_, h3⟩
      rcases h1 with ⟨t, ht, e⟩ | h1
      · exact absurd e (ats_none.mp h3 t ht)
      · exact h1
theorem none_came (a : List Th) : (a.map (·.id)).filter (fun n => !decide (n ∈ a.map (·.id))) = [] := by
  rw [List.filter_eq_nil_iff]
  intro x hx
  simp [List.mem_map] at hx ⊢
  exact hx
end Pv

set_option Elab.async false
set_option linter.all false
set_option maxRecDepth 100000
set_option maxHeartbeats 4000000
namespace Pv
open PySem L2 Wp
/-! ### views -/
def vk (s : List Th) (l : List Int) : List Th := s.filter fun t => decide (t.kd ∈ l)
def vn (s : List Th) (i f : Int) : List Th := match ats s i with
  | none => []
  | some m => s.filter fun t => decide (dist m t ≤ f)
theorem mem_vk {s : List Th} {l : List Int} {t : Th} : t ∈ vk s l ↔ t ∈ s ∧ t.kd ∈ l := by
  unfold vk
  rw [List.mem_filter]; simp
theorem srt_vk {s : List Th} (h : Srt s) (l : List Int) : Srt (vk s l) := h.filter _
theorem ok_vk {ks : List Int} {s : List Th} (h : StOk ks s) (l : List Int) : StOk ks (vk s l) := ⟨srt_vk h.so l, fun t ht => h.ok t (mem_vk.mp ht).1⟩
theorem vk_two {s : List Th} {l l' : List Int} (h : ∀ t ∈ s, t.kd ∈ l' ↔ t.kd ∉ l) : (vk s l ++ vk s l').Perm s := by
  have e : vk s l' = s.filter fun t => !decide (t.kd ∈ l) := by
    refine List.filter_congr fun t ht => ?_
    rw [← decide_not]
    exact decide_eq_decide.mpr (h t ht)
  rw [e]
  exact List.filter_append_perm _ _
theorem vk_nd {s : List Th} (hs : Srt s) {l l' : List Int} (h : ∀ t ∈ s, t.kd ∈ l' ↔ t.kd ∉ l) : ((vk s l ++ vk s l').map (·.id)).Nodup := ((vk_two h).map _).nodup_iff.mpr (nd_S hs)
theorem vk_bys {s : List Th} (hs : Srt s) {l l' : List Int} (h : ∀ t ∈ s, t.kd ∈ l' ↔ t.kd ∉ l) : bys (vk s l ++ vk s l') = s :=
  (srt_bys (vk_nd hs h)).ext hs fun _ => mem_bys.trans (vk_two h).mem_iff
theorem vk_take (s : List Th) (l : List Int) : vk s (l.take 1) = vk (vk s l) (l.take 1) := by
  unfold vk
  rw [List.filter_filter]
  refine List.filter_congr fun t _ => ?_
  by_cases h : t.kd ∈ l.take 1
  · have h2 : t.kd ∈ l := List.mem_of_mem_take h
    simp [h, h2]
  · simp [h]
theorem vk_wth {s : List Th} (hs : Srt s) (t : Th) (l : List Int) : vk (wth s t) l = if t.kd ∈ l then wth (vk (wo s t.id) l) t else vk (wo s t.id) l := by
  split
  · rename_i h
    refine Srt.ext (srt_vk (srt_wth hs t) l) (srt_wth (srt_vk (srt_wo hs _) l) t) fun x => ?_
    rw [mem_vk, mem_wth, mem_wth, mem_vk, mem_wo]
    constructor
    · rintro ⟨⟨h1, h2⟩ | rfl, h3⟩
      · exact .inl ⟨⟨⟨h1, h2⟩, h3⟩, h2⟩
      · exact .inr rfl
    · rintro (⟨⟨⟨h1, h2⟩, h3⟩, _⟩ | rfl)
      · exact ⟨.inl ⟨h1, h2⟩, h3⟩
      · exact ⟨.inr rfl, h⟩
  · rename_i h
    refine Srt.ext (srt_vk (srt_wth hs t) l) (srt_vk (srt_wo hs _) l) fun x => ?_
    rw [mem_vk, mem_wth, mem_vk, mem_wo]
    constructor
    · rintro ⟨⟨h1, h2⟩ | rfl, h3⟩
      · exact ⟨⟨h1, h2⟩, h3⟩
      · exact absurd h3 h
    · rintro ⟨⟨h1, h2⟩, h3⟩
      exact ⟨.inl ⟨h1, h2⟩, h3⟩
theorem vk_all {ks : List Int} {s : List Th} (hk : Shp ks) (h : StOk ks s) : vk s [0, 1, 2, 3] = s := by
  unfold vk
  rw [List.filter_eq_self]
  intro t ht
  have h1 := (h.ok t ht).k0
  have h2 := (h.ok t ht).k1
  have h3 := hk.2.1
  have : t.kd = 0 ∨ t.kd = 1 ∨ t.kd = 2 ∨ t.kd = 3 := by omega
  rcases this with e | e | e | e <;> rw [e] <;> decide
theorem near_all {ks : List Int} {s : List Th} (h : StOk ks s) {m : Th} (hm : m ∈ s) {f : Int} (hf : 510 ≤ f) : (s.filter fun t => decide (dist m t ≤ f)) = s := by
  rw [List.filter_eq_self]
  intro t ht
  have := (dist_rng (h.ok m hm) (h.ok t ht)).2
  simp only [decide_eq_true_eq]
  omega
theorem vn_far {ks : List Int} {s : List Th} (h : StOk ks s) (i : Int) : vn s i 600 = if i ∈ s.map (·.id) then s else [] := by
  unfold vn
  cases q : ats s i with
  | none => rw [if_neg (not_ids.mpr q)]
  | some m =>
    rw [if_pos (show i ∈ s.map (·.id) from ids_mem.mpr ⟨m, ats_id q⟩)]
    exact near_all h (ats_id q).1 (by omega)
theorem mem_vn {s : List Th} {i f : Int} {m t : Th} (q : ats s i = some m) : t ∈ vn s i f ↔ t ∈ s ∧ dist m t ≤ f := by
  unfold vn
  rw [q]
  simp [List.mem_filter]
theorem srt_vn {s : List Th} (h : Srt s) (i f : Int) : Srt (vn s i f) := by
  unfold vn
  split
  · exact Srt.nil
  · exact h.filter _
theorem vn_vn {s : List Th} (h : Srt s) {i f : Int} {m : Th} (q : ats s i = some m) (hf : 0 ≤ f) : vn (vn s i f) i f = vn s i f := by
  have mo := ats_id q
  have hm : ats (vn s i f) i = some m := (ats_some (srt_vn h i f)).mpr ⟨(mem_vn q).mpr ⟨mo.1, by rw [dist_self]; exact hf⟩, mo.2⟩
  refine Srt.ext (srt_vn (srt_vn h i f) i f) (srt_vn h i f) fun t => ?_
  rw [mem_vn hm, mem_vn q]
  exact ⟨fun z => z.1, fun z => ⟨z, z.2⟩⟩
theorem one_at {s : List Th} (h : Srt s) {i : Int} {m : Th} (q : ats s i = some m) : (s.filter fun t => decide (t.id = i)) = [m] := by
  have mo := ats_id q
  refine Srt.ext (h.filter _) (List.pairwise_singleton _ _) fun t => ?_
  rw [List.mem_filter, List.mem_singleton]
  constructor
  · rintro ⟨h1, h2⟩
    exact h.inj h1 mo.1 ((of_decide_eq_true h2).trans mo.2.symm)
  · rintro rfl
    exact ⟨mo.1, decide_eq_true mo.2⟩
namespace Wp
theorem c_str {x y : Str} {b : Bool} {kb : Bool → Prop} {M : Store} (hx : okStr x = true) (hy : okStr y = true) (e : (x == y) = b) (h : kb b) : PW (cmpD .eq (.str x) (dr M (.str y))) kb := by
  refine c_eqG hx hy rfl ?_
  rw [show eqD (.str x) (.str y) = (x == y) from rfl, e]; exact h
theorem pw_at {ds : List D} {i : Int} {d : D} {k : D → Prop} (e : atI ds i = some d) (h : k d) : PW (atI ds i) k := by rw [e]; exact h
theorem rev_I {l : List Int} {k : D → Prop} (h : k (dI l.reverse)) : PW (revD (dI l)) k := by
  show k (.tup (l.map D.int).reverse)
  rw [← List.map_reverse]; exact h
theorem sl_L4 {l : List Int} {k : D → Prop} (h : k (.lst ((l.take 4).map .int))) : PW (sliceD (.lst (l.map .int)) none (some 4)) k := by
  show k (.lst (cutL (l.map D.int) none (some ((4 : Nat) : Int))))
  rw [cut_to, ← List.map_take]; exact h
end Wp
namespace Wp
theorem f_sortTT {M : Store} {s : List Th} {k : D → Prop} (hn : (s.map (·.id)).Nodup) (hl : s.length < 64) (h : k (.lst ((bys s).map dT))) : PW (ffD .sorted (dr M (dS s))) k := by
  have := f_sortT (M := M) hn hl h
  exact this
end Wp
namespace Wp
section
variable {C : Nat → List D → Store → Res D} {ρ : Rho} {M : Store} {e : Ek} {s : S} {a b c : E} {i j : Nat} {QL : List D → Store → Prop} {X : Nat → Store → Prop}
/-- a loop with a measure of what is left -/
theorem s_while (I : Nat → Rho → Store → Prop) (m : Nat) (hm : m < 1000000) (h0 : I m ρ M)
    (hs : ∀ (m : Nat) (ρ : Rho) (M : Store), I m ρ M → RW (evT C c ρ M) (fun t M => (t = true → ∃ m', m = m' + 1 ∧ OW (ex C s ρ M) ⟨I m', I m', e.rt, e.xc⟩) ∧ (t = false → e.nx ρ M)) fun c M => e.xc c ρ M) :
    OW (ex C (.while c s) ρ M) e := by
  simp only [ex]
  have H : ∀ (n m : Nat) (ρ : Rho) (M : Store), m < n → I m ρ M → OW (whileL (evT C c) (ex C s) n ρ M) e := by
    intro n
    induction n with
    | zero => intro m _ _ h; omega
    | succ n ih =>
      intro m ρ M hm h
      unfold whileL
      refine ow_ofR ((hs m ρ M h).mono (fun t M1 h => ?_) fun _ _ h => h)
      cases t with
      | false => exact h.2 rfl
      | true =>
        obtain ⟨m', e1, h2⟩ := h.1 rfl
        clear h
        dsimp only
        cases q : ex C s ρ M1 with
        | nx ρ M => rw [q] at h2; exact ih m' ρ M (by omega) h2
        | ct ρ M => rw [q] at h2; exact ih m' ρ M (by omega) h2
        | ret d M => rw [q] at h2; exact h2
        | exc c ρ M => rw [q] at h2; exact h2
        | fail => rw [q] at h2; exact h2
  exact H _ m ρ M (show m < WF by unfold WF; exact hm) h0
theorem s_parO (h : RW (ev C a ρ M) (fun x M => RW (ev C b ρ M) (fun y M => PW ((setS ρ i x).bind fun ρ => setO ρ j y) fun ρ => e.nx ρ M) fun c M => e.xc c ρ M) fun c M => e.xc c ρ M) : OW (ex C (.parO i a j b) ρ M) e := by
  simp only [ex]
  exact ow_ofR (h.mono (fun x M h => ow_ofR (h.mono (fun y M h => ow_oRho h) fun _ _ h => h)) fun _ _ h => h)
theorem i_own {ds : List D} (q : ρ[i]? = some (.ow (.lst ds))) (h : QL ds M) : RW (evI C (.itOwn i) ρ M) QL X := by
  simp only [evI, q]; exact h
end
end Wp
/-! ### things put in and taken out -/
theorem wth_idem {s : List Th} (h : Srt s) (a : Th) : wth (wth s a) a = wth s a := by
  refine (srt_wth (srt_wth h a) a).ext (srt_wth h a) fun x => ?_
  rw [mem_wth, mem_wth]
  constructor
  · rintro (⟨h1, _⟩ | rfl)
    · exact h1
    · exact .inr rfl
  · rintro (⟨h1, h2⟩ | rfl)
    · exact .inl ⟨.inl ⟨h1, h2⟩, h2⟩
    · exact .inr rfl
theorem wth_comm {s : List Th} (h : Srt s) {a b : Th} (hn : a.id ≠ b.id) : wth (wth s b) a = wth (wth s a) b := by
  refine (srt_wth (srt_wth h b) a).ext (srt_wth (srt_wth h a) b) fun x => ?_
  rw [mem_wth, mem_wth, mem_wth, mem_wth]
  constructor
  · rintro (⟨⟨h1, h2⟩ | rfl, h3⟩ | rfl)
    · exact .inl ⟨.inl ⟨h1, h3⟩, h2⟩
    · exact .inr rfl
    · exact .inl ⟨.inr rfl, hn⟩
  · rintro (⟨⟨h1, h2⟩ | rfl, h3⟩ | rfl)
    · exact .inl ⟨.inl ⟨h1, h3⟩, h2⟩
    · exact .inr rfl
    · exact .inl ⟨.inr rfl, fun e => hn e.symm⟩
theorem wth_over {s : List Th} (h : Srt s) {a b : Th} (e : a.id = b.id) : wth (wth s a) b = wth s b := by
  refine (srt_wth (srt_wth h a) b).ext (srt_wth h b) fun x => ?_
  rw [mem_wth, mem_wth, mem_wth]
  constructor
  · rintro (⟨⟨h1, h2⟩ | rfl, h3⟩ | rfl)
    · exact .inl ⟨h1, h3⟩
    · exact absurd e h3
    · exact .inr rfl
  · rintro (⟨h1, h2⟩ | rfl)
    · exact .inl ⟨.inl ⟨h1, e ▸ h2⟩, h2⟩
    · exact .inr rfl
theorem ats_wth {s : List Th} (h : Srt s) (b : Th) : ats (wth s b) b.id = some b := (ats_some (srt_wth h b)).mpr ⟨mem_wth.mpr (.inr rfl), rfl⟩
theorem wo_wo (s : List Th) (i : Int) : wo (wo s i) i = wo s i := by
  unfold wo
  rw [List.filter_filter]
  refine List.filter_congr fun t _ => ?_
  simp
theorem wo_ids (s : List Th) (i : Int) : (wo s i).map (·.id) = (s.map (·.id)).filter fun n => !decide (n = i) := by
  unfold wo
  rw [List.filter_map]; rfl
theorem wo_none {s : List Th} {i : Int} (h : i ∉ s.map (·.id)) : wo s i = s := by
  unfold wo
  rw [List.filter_eq_self]
  intro t ht
  have : t.id ≠ i := fun e => h (ids_mem.mpr ⟨t, ht, e⟩)
  simpa using this
theorem wth_len {s : List Th} (h : Srt s) (a : Th) : (wth s a).length = s.length + if a.id ∈ s.map (·.id) then 0 else 1 := by
  have h1 : (wth s a).length = (wo s a.id).length + 1 := by
    unfold wth
    rw [(bys_perm _).length_eq, List.length_append]; rfl
  rw [h1]
  split
  · rename_i hin
    obtain ⟨u, hu⟩ := in_ids hin
    have p := (List.filter_append_perm (fun t : Th => decide (t.id = a.id)) s).length_eq
    rw [List.length_append, one_at h hu] at p
    have e : (wo s a.id).length = (s.filter fun t => !decide (t.id = a.id)).length := rfl
    rw [List.length_singleton] at p
    omega
  · rename_i hin
    rw [wo_none hin]
theorem setT_new {ts : List Th} {t : Th} (h : ∀ z ∈ ts, z.id ≠ t.id) : setT ts t = ts ++ [t] := by
  unfold setT
  rw [if_neg]
  rw [List.any_eq_true]
  rintro ⟨u, hu, e⟩
  exact h u hu (by simpa using e)
/-! ### between -/
def scl (l : Int) (x : List Int) : List Int := x.map (· * l)
def mix (u l : Int) (x y : List Int) : List Int := (x.zip y).map fun p => p.1 * (l - u) + p.2 * u
/-- a thing of the first stand, so far on -/
def btw1 (b : List Th) (u l : Int) (t : Th) : Option Th := match ats b t.id with
  | some v => if v.kd = t.kd then some ⟨t.id, t.kd, mix u l t.fs v.fs⟩ else if u < l then some ⟨t.id, t.kd, scl l t.fs⟩ else none
  | none => if u < l then some ⟨t.id, t.kd, scl l t.fs⟩ else none
def btwA (a b : List Th) (u l : Int) : List Th := a.filterMap (btw1 b u l)
def btw2 (F : List Th) (l : Int) (t : Th) : Option Th := if t.id ∈ F.map (·.id) then none else some ⟨t.id, t.kd, scl l t.fs⟩
def btwL (a b : List Th) (u l : Int) : List Th := if u = l then btwA a b u l ++ b.filterMap (btw2 (btwA a b u l) l) else btwA a b u l
def btw (a b : List Th) (u l : Int) : List Th := bys (btwL a b u l)
theorem btw1_id {b : List Th} {u l : Int} {t x : Th} (h : btw1 b u l t = some x) : x.id = t.id := by
  unfold btw1 at h
  split at h
  · split at h
    · cases h; rfl
    · split at h <;> cases h
      rfl
  · split at h <;> cases h
    rfl
theorem btw2_id {F : List Th} {l : Int} {t x : Th} (h : btw2 F l t = some x) : x.id = t.id ∧ t.id ∉ F.map (·.id) := by
  unfold btw2 at h
  split at h
  · cases h
  · rename_i q
    cases h; exact ⟨rfl, q⟩
/-- a map that keeps ids keeps their order -/
theorem srt_fm {s : List Th} (h : Srt s) {f : Th → Option Th} (hf : ∀ t x, f t = some x → x.id = t.id) : Srt (s.filterMap f) := by
  refine List.pairwise_filterMap.mpr (h.imp fun {a b} q x hx y hy => ?_)
  rw [hf a x hx, hf b y hy]
  exact q
theorem srt_btwA {a b : List Th} (h : Srt a) (u l : Int) : Srt (btwA a b u l) := srt_fm h fun _ _ => btw1_id
theorem nd_btwL {a b : List Th} (ha : Srt a) (hb : Srt b) (u l : Int) : ((btwL a b u l).map (·.id)).Nodup := by
  unfold btwL
  split
  · rw [List.map_append, List.nodup_append]
    refine ⟨nd_S (srt_btwA ha u l), nd_S (srt_fm hb fun _ _ h => (btw2_id h).1), ?_⟩
    intro x hx y hy e
    obtain ⟨p, hp, rfl⟩ := List.mem_map.mp hy
    obtain ⟨t, _, ht⟩ := List.mem_filterMap.mp hp
    have := btw2_id ht
    rw [← this.1, ← e] at this
    exact this.2 hx
  · exact nd_S (srt_btwA ha u l)
theorem len_btwL (a b : List Th) (u l : Int) : (btwL a b u l).length ≤ a.length + b.length := by
  have h1 : (btwA a b u l).length ≤ a.length := List.length_filterMap_le _ _
  unfold btwL
  split
  · have h2 := List.length_filterMap_le (btw2 (btwA a b u l) l) b
    rw [List.length_append]
    omega
  · omega
theorem srt_btw {a b : List Th} (ha : Srt a) (hb : Srt b) (u l : Int) : Srt (btw a b u l) := srt_bys (nd_btwL ha hb u l)
def dP2 (p : Int × Int) : D := .tup [.int p.1, .int p.2]
namespace Wp
theorem zip_I {a b : List Int} {kl : List D → Prop} (h : kl ((a.zip b).map dP2)) : PW (zipO (dI a) (dI b)) kl := by
  show kl ((List.zip (a.map D.int) (b.map D.int)).map fun p => .tup [p.1, p.2])
  rw [List.zip_map, List.map_map]; exact h
theorem nin_L {i : Int} {l : List Int} {M : Store} {kb : Bool → Prop} (h : kb (!decide (i ∈ l))) : PW (cmpD .notin (.int i) (dr M (.lst (l.map .int)))) kb := nin_I (M := M) h
theorem in_L {i : Int} {l : List Int} {M : Store} {kb : Bool → Prop} (h : kb (decide (i ∈ l))) : PW (cmpD .isin (.int i) (dr M (.lst (l.map .int)))) kb := in_I (M := M) h
end Wp
end Pv

set_option Elab.async false
set_option linter.all false
set_option maxRecDepth 100000
set_option maxHeartbeats 4000000
namespace Pv
open PySem L2 Wp
/-! ### so many times -/
def tm (m : Int) (t : Th) : Th := ⟨t.id, t.kd, scl m t.fs⟩
def tms (m : Int) (s : List Th) : List Th := s.map (tm m)
/-- of one kind in both -/
def both1 (b : List Th) (t : Th) : Option Th := (ats b t.id).bind fun v => if v.kd = t.kd then some v else none
def gg (b : List Th) (u l : Int) (t : Th) : Th := match both1 b t with
  | some v => ⟨t.id, t.kd, mix u l t.fs v.fs⟩
  | none => tm l t
theorem gg_id (b : List Th) (u l : Int) (t : Th) : (gg b u l t).id = t.id := by
  unfold gg; split <;> rfl
theorem srt_map {s : List Th} (h : Srt s) {f : Th → Th} (hf : ∀ t, (f t).id = t.id) : Srt (s.map f) :=
  List.pairwise_map.mpr (h.imp fun {a b} q => by rw [hf, hf]; exact q)
theorem srt_tms {s : List Th} (h : Srt s) (m : Int) : Srt (tms m s) := srt_map h fun _ => rfl
theorem btw1_gg {b : List Th} {u l : Int} (h : u < l) (t : Th) : btw1 b u l t = some (gg b u l t) := by
  unfold btw1 gg both1
  cases ats b t.id with
  | none => dsimp only [Option.bind]; rw [if_pos h]; rfl
  | some v =>
    dsimp only [Option.bind]
    by_cases q : v.kd = t.kd
    · rw [if_pos q, if_pos q]
    · rw [if_neg q, if_neg q, if_pos h]; rfl
theorem btw_lt {a b : List Th} (ha : Srt a) {u l : Int} (h : u < l) : btw a b u l = a.map (gg b u l) := by
  have e : btwA a b u l = a.map (gg b u l) := by
    unfold btwA
    rw [show btw1 b u l = fun t => some (gg b u l t) from funext fun t => btw1_gg h t, List.filterMap_eq_map']
  unfold btw btwL
  rw [if_neg (by omega), e]
  exact bys_id (srt_map ha fun t => gg_id b u l t)
theorem both1_some {b : List Th} {t v : Th} (h : both1 b t = some v) : ats b t.id = some v ∧ v.kd = t.kd := by
  unfold both1 at h
  cases q : ats b t.id with
  | none => rw [q] at h; cases h
  | some w =>
    rw [q] at h
    dsimp only [Option.bind] at h
    split at h
    · cases h; exact ⟨rfl, by assumption⟩
    · cases h
theorem both1_of {b : List Th} {t v : Th} (h1 : ats b t.id = some v) (h2 : v.kd = t.kd) : both1 b t = some v := by
  unfold both1
  rw [h1]
  dsimp only [Option.bind]
  rw [if_pos h2]
theorem both1_len {ks : List Int} {a b : List Th} (ha : StOk ks a) (hb : StOk ks b) {t v : Th} (ht : t ∈ a) (h : both1 b t = some v) : t.fs.length = v.fs.length := by
  obtain ⟨h1, h2⟩ := both1_some h
  exact fs_len (ha.ok t ht) (hb.ok v (ats_id h1).1) h2.symm
/-- field by field -/
theorem mix_scl : ∀ {x y : List Int} {u l m : Int} {c : Int × Int → Int}, x.length = y.length → (∀ p ∈ x.zip y, p.1 * (l - u) + p.2 * u = c p) → mix u l x y = (x.zip y).map c := by
  intro x y u l m c h hc
  unfold mix
  exact List.map_congr_left hc
theorem zip_fst : ∀ {x y : List Int} (f : Int → Int), x.length = y.length → (x.zip y).map (fun p => f p.1) = x.map f
  | [], [], _, _ => rfl
  | a :: x, b :: y, f, h => by
    rw [List.zip_cons_cons, List.map_cons, List.map_cons, zip_fst f (by simpa using h)]
  | [], _ :: _, _, h => by simp at h
  | _ :: _, [], _, h => by simp at h
theorem zip_snd : ∀ {x y : List Int} (f : Int → Int), x.length = y.length → (x.zip y).map (fun p => f p.2) = y.map f
  | [], [], _, _ => rfl
  | a :: x, b :: y, f, h => by
    rw [List.zip_cons_cons, List.map_cons, List.map_cons, zip_snd f (by simpa using h)]
  | [], _ :: _, _, h => by simp at h
  | _ :: _, [], _, h => by simp at h
theorem mix_0 {x y : List Int} (l : Int) (h : x.length = y.length) : mix 0 l x y = scl l x := by
  unfold mix scl
  rw [← zip_fst (y := y) (fun i => i * l) h]
  refine List.map_congr_left fun p _ => ?_
  rw [Int.sub_zero, Int.mul_zero, Int.add_zero]
theorem mix_l {x y : List Int} (l : Int) (h : x.length = y.length) : mix l l x y = scl l y := by
  unfold mix scl
  rw [← zip_snd (x := x) (fun i => i * l) h]
  refine List.map_congr_left fun p _ => ?_
  rw [Int.sub_self, Int.mul_zero, Int.zero_add]
theorem zip_same : ∀ x : List Int, x.zip x = x.map fun i => (i, i)
  | [] => rfl
  | a :: x => by rw [List.zip_cons_cons, List.map_cons, zip_same x]
theorem mix_self (x : List Int) (u l : Int) : mix u l x x = scl l x := by
  unfold mix scl
  rw [zip_same, List.map_map]
  refine List.map_congr_left fun i _ => ?_
  show i * (l - u) + i * u = i * l
  rw [Int.mul_sub, Int.sub_add_cancel]
theorem mix_3 (x y : List Int) (u l : Int) : mix (3 * u) (3 * l) x y = scl 3 (mix u l x y) := by
  unfold mix scl
  rw [List.map_map]
  refine List.map_congr_left fun p _ => ?_
  show p.1 * (3 * l - 3 * u) + p.2 * (3 * u) = (p.1 * (l - u) + p.2 * u) * 3
  rw [Int.add_mul, ← Int.mul_sub, Int.mul_left_comm, Int.mul_left_comm p.2, Int.mul_comm 3, Int.mul_comm 3]
theorem zip_swap : ∀ x y : List Int, y.zip x = (x.zip y).map fun p => (p.2, p.1)
  | [], [] => rfl
  | [], _ :: _ => rfl
  | _ :: _, [] => rfl
  | a :: x, b :: y => by rw [List.zip_cons_cons, List.zip_cons_cons, List.map_cons, zip_swap x y]
theorem mix_back (x y : List Int) (u l : Int) : mix (l - u) l y x = mix u l x y := by
  unfold mix
  rw [zip_swap x y, List.map_map]
  refine List.map_congr_left fun p _ => ?_
  show p.2 * (l - (l - u)) + p.1 * (l - u) = p.1 * (l - u) + p.2 * u
  rw [Int.add_comm]
  congr 2
  omega
theorem scl_scl (l m : Int) (x : List Int) : scl (m * l) x = scl m (scl l x) := by
  unfold scl
  rw [List.map_map]
  refine List.map_congr_left fun i _ => ?_
  show i * (m * l) = i * l * m
  rw [Int.mul_comm m, Int.mul_assoc]
/-! the law's equalities -/
theorem b_none {ks : List Int} {a b : List Th} (ha : StOk ks a) (hb : StOk ks b) {l : Int} (h : 0 < l) : btw a b 0 l = tms l a := by
  rw [btw_lt ha.so h]
  refine List.map_congr_left fun t ht => ?_
  unfold gg
  cases q : both1 b t with
  | none => rfl
  | some v =>
    dsimp only
    rw [mix_0 l (both1_len ha hb ht q)]; rfl
theorem b_self {ks : List Int} {a : List Th} (ha : StOk ks a) {u l : Int} (h : u < l) : btw a a u l = tms l a := by
  rw [btw_lt ha.so h]
  refine List.map_congr_left fun t ht => ?_
  unfold gg
  cases q : both1 a t with
  | none => rfl
  | some v =>
    have h1 := (both1_some q).1
    rw [(ats_some ha.so).mpr ⟨ht, rfl⟩] at h1
    cases h1
    dsimp only
    rw [mix_self]; rfl
theorem b_three {a b : List Th} (ha : Srt a) {u l : Int} (h : u < l) : btw a b (3 * u) (3 * l) = tms 3 (btw a b u l) := by
  rw [btw_lt ha h, btw_lt ha (show 3 * u < 3 * l by omega)]
  unfold tms
  rw [List.map_map]
  refine List.map_congr_left fun t _ => ?_
  show gg b (3 * u) (3 * l) t = tm 3 (gg b u l t)
  unfold gg
  cases both1 b t with
  | none =>
    show tm (3 * l) t = tm 3 (tm l t)
    unfold tm
    rw [scl_scl]
  | some v =>
    show (⟨t.id, t.kd, mix (3 * u) (3 * l) t.fs v.fs⟩ : Th) = ⟨t.id, t.kd, scl 3 (mix u l t.fs v.fs)⟩
    rw [mix_3]
theorem b_all {ks : List Int} {a b : List Th} (ha : StOk ks a) (hb : StOk ks b) {l : Int} : btw a b l l = tms l b := by
  refine (srt_btw ha.so hb.so l l).ext (srt_tms hb.so l) fun x => ?_
  unfold btw
  rw [mem_bys]
  unfold btwL tms
  rw [if_pos rfl, List.mem_append, List.mem_map]
  -- a thing of the second stand's kind
  have k1 : ∀ t ∈ a, ∀ y, btw1 b l l t = some y → ∃ v ∈ b, ats b t.id = some v ∧ tm l v = y := by
    intro t ht y h
    unfold btw1 at h
    cases q : ats b t.id with
    | none => rw [q] at h; dsimp only at h; rw [if_neg (by omega)] at h; cases h
    | some v =>
      rw [q] at h
      dsimp only at h
      by_cases z : v.kd = t.kd
      · rw [if_pos z] at h
        cases h
        have vo := ats_id q
        refine ⟨v, vo.1, rfl, ?_⟩
        unfold tm
        rw [mix_l l (fs_len (ha.ok t ht) (hb.ok v vo.1) z.symm), vo.2, z]
      · rw [if_neg z, if_neg (by omega)] at h; cases h
  constructor
  · rintro (h | h)
    · obtain ⟨t, ht, h⟩ := List.mem_filterMap.mp h
      obtain ⟨v, hv, _, e⟩ := k1 t ht x h
      exact ⟨v, hv, e⟩
    · obtain ⟨t, ht, h⟩ := List.mem_filterMap.mp h
      unfold btw2 at h
      split at h
      · cases h
      · cases h; exact ⟨t, ht, rfl⟩
  · rintro ⟨v, hv, rfl⟩
    by_cases z : v.id ∈ (btwA a b l l).map (·.id)
    · obtain ⟨y, hy, e⟩ := List.mem_map.mp z
      obtain ⟨t, ht, h⟩ := List.mem_filterMap.mp hy
      obtain ⟨w, hw, e1, e2⟩ := k1 t ht y h
      have h3 := btw1_id h
      have h4 := (ats_id e1).2
      have : w = v := hb.so.inj hw hv (by omega)
      subst this
      rw [e2]
      exact .inl hy
    · refine .inr (List.mem_filterMap.mpr ⟨v, hv, ?_⟩)
      unfold btw2
      rw [if_neg z]; rfl
/-- of one kind in both, as a list -/
def cmn (a b : List Th) : List Th := a.filter fun t => (both1 b t).isSome
theorem mem_cmn {a b : List Th} {t : Th} : t ∈ cmn a b ↔ t ∈ a ∧ (both1 b t).isSome = true := by
  unfold cmn
  rw [List.mem_filter]
theorem srt_cmn {a b : List Th} (h : Srt a) : Srt (cmn a b) := h.filter _
theorem cmn_ids {a b : List Th} (ha : Srt a) {t : Th} (ht : t ∈ a) : t.id ∈ (cmn a b).map (·.id) ↔ t ∈ cmn a b := by
  rw [List.mem_map]
  constructor
  · rintro ⟨x, hx, e⟩
    have : x = t := ha.inj (mem_cmn.mp hx).1 ht e
    rw [← this]; exact hx
  · exact fun h => ⟨t, h, rfl⟩
/-- those of the first stand's that both have, so far on -/
theorem some_eq {a b : List Th} (ha : Srt a) (u l : Int) : ((a.map (gg b u l)).filter fun t => decide (t.id ∈ (cmn a b).map (·.id))) = (cmn a b).map (gg b u l) := by
  rw [List.filter_map]
  congr 1
  unfold cmn
  refine List.filter_congr fun t ht => ?_
  show decide ((gg b u l t).id ∈ _) = _
  rw [gg_id]
  by_cases z : (both1 b t).isSome = true
  · rw [z]
    exact decide_eq_true ((cmn_ids ha ht).mpr (mem_cmn.mpr ⟨ht, z⟩))
  · rw [Bool.not_eq_true] at z
    rw [z]
    refine decide_eq_false fun q => ?_
    have := (mem_cmn.mp ((cmn_ids ha ht).mp q)).2
    rw [z] at this; cases this
theorem both1_sym {a b : List Th} (ha : Srt a) {t v : Th} (ht : t ∈ a) (h : both1 b t = some v) : both1 a v = some t := by
  obtain ⟨h1, h2⟩ := both1_some h
  refine both1_of ((ats_some ha).mpr ⟨ht, (ats_id h1).2.symm⟩) h2.symm
theorem back_mem {a b : List Th} (ha : Srt a) (hb : Srt b) {u l : Int} (h0 : 0 < u) {t : Th} (ht : t ∈ (cmn a b).map (gg b u l)) : t ∈ btw b a (l - u) l := by
  rw [btw_lt hb (show l - u < l by omega)]
  obtain ⟨x, hx, rfl⟩ := List.mem_map.mp ht
  obtain ⟨hx1, hx2⟩ := mem_cmn.mp hx
  obtain ⟨v, hv⟩ := Option.isSome_iff_exists.mp hx2
  obtain ⟨h1, h2⟩ := both1_some hv
  have vo := ats_id h1
  refine List.mem_map.mpr ⟨v, vo.1, ?_⟩
  unfold gg
  rw [hv, both1_sym ha hx1 hv]
  dsimp only
  rw [mix_back, vo.2, h2]
theorem alone_mem {a b : List Th} {u l : Int} {t : Th} (ht : t ∈ tms l (a.filter fun t => !decide (t ∈ cmn a b))) : t ∈ a.map (gg b u l) := by
  obtain ⟨x, hx, rfl⟩ := List.mem_map.mp ht
  obtain ⟨hx1, hx2⟩ := List.mem_filter.mp hx
  refine List.mem_map.mpr ⟨x, hx1, ?_⟩
  have : both1 b x = none := by
    cases q : both1 b x with
    | none => rfl
    | some v =>
      have : x ∈ cmn a b := mem_cmn.mpr ⟨hx1, by rw [q]; rfl⟩
      simp [this] at hx2
  unfold gg
  rw [this]
/-! ### small dictionaries of a stand -/
def kvF (f : Th → D) (ts : List Th) : List (Key × D) := ts.map fun t => (.inl t.id, f t)
theorem pairsOf_F (f : Th → D) : ∀ s : List Th, pairsOf (s.map fun t => .tup [.int t.id, f t]) = some (kvF f s)
  | [] => rfl
  | t :: s => by
    rw [List.map_cons]
    show (pairsOf (s.map fun t => .tup [.int t.id, f t])).map ((.inl t.id, f t) :: ·) = _
    rw [pairsOf_F f s]; rfl
theorem dictOf_F (f : Th → D) {s : List Th} (h : (s.map (·.id)).Nodup) : dictOf (kvF f s) = kvF f s := by
  refine dictOf_nd ?_
  unfold kvF
  rw [List.map_map]
  show (s.map fun t => (Sum.inl t.id : Key)).Nodup
  rw [show (s.map fun t => (Sum.inl t.id : Key)) = (s.map (·.id)).map Sum.inl from by rw [List.map_map]; rfl]
  exact List.pairwise_map.mpr (h.imp fun a b => a (Sum.inl.inj b))
theorem lookK_F (f : Th → D) (ts : List Th) (n : Int) : lookK (kvF f ts) (.inl n) = (ats ts n).map f := by
  unfold lookK kvF ats
  rw [List.find?_map, Option.map_map]
  rw [show ((fun kv : Key × D => decide (kv.1 = Sum.inl n)) ∘ fun t : Th => ((Sum.inl t.id : Key), f t)) = fun t => decide (t.id = n) from by
    funext u
    simp]
  rfl
namespace Wp
theorem f_dictF {M : Store} (f : Th → D) {s : List Th} {k : D → Prop} (hn : (s.map (·.id)).Nodup) (h : k (.dic (kvF f s))) : PW (ffD .dict (dr M (.lst (s.map fun t => .tup [.int t.id, f t])))) k := by
  show PW ((pairsOf (s.map fun t => .tup [.int t.id, f t])).map fun ps => .dic (dictOf ps)) k
  rw [pairsOf_F]
  show k (.dic (dictOf (kvF f s)))
  rw [dictOf_F f hn]; exact h
theorem sl_2T {t : Th} {k : D → Prop} (h : k (dI [t.id, t.kd])) : PW (sliceD (dT t) none (some 2)) k := by
  show k (.tup (cutL [D.int t.id, .int t.kd, dI t.fs] none (some ((2 : Nat) : Int))))
  rw [cut_to]; exact h
theorem in_LS {t : Th} {s : List Th} {M : Store} {kb : Bool → Prop} (h : kb (decide (t ∈ s))) : PW (cmpD .isin (dT t) (dr M (.lst (s.map dT)))) kb := in_S (M := M) h
theorem nin_LS {t : Th} {s : List Th} {M : Store} {kb : Bool → Prop} (h : kb (!decide (t ∈ s))) : PW (cmpD .notin (dT t) (dr M (.lst (s.map dT)))) kb := nin_S (M := M) h
theorem zip_L {α β : Type} {f : α → D} {g : β → D} {a : List α} {b : List β} {kl : List D → Prop} (h : kl ((a.zip b).map fun p => .tup [f p.1, g p.2])) : PW (zipO (.lst (a.map f)) (.lst (b.map g))) kl := by
  show kl ((List.zip (a.map f) (b.map g)).map fun p => .tup [p.1, p.2])
  rw [List.zip_map, List.map_map]; exact h
end Wp
end Pv

set_option Elab.async false
set_option linter.all false
set_option maxRecDepth 100000
set_option maxHeartbeats 4000000
namespace Pv
open PySem L2 Wp
/-! ### rows put on -/
def chf : List Int → List (Int × Int) → Option (List Int)
  | f, [] => some f
  | f, c :: cs => if (f.length : Int) ≤ c.1 then none else chf (f.set c.1.toNat c.2) cs
def apS (s : List Th) : Ro → Option (List Th)
  | .gone i => some (wo s i)
  | .new t => some (wth s t)
  | .chg i cs => (ats s i).bind fun t => (chf t.fs cs).map fun f => wth s ⟨t.id, t.kd, f⟩
def apl : List Th → List Ro → Option (List Th)
  | s, [] => some s
  | s, r :: rs => (apS s r).bind fun s => apl s rs
theorem apS_chg (s : List Th) (i : Int) (cs : List (Int × Int)) : apS s (.chg i cs) = (ats s i).bind fun t => (chf t.fs cs).map fun f => wth s ⟨t.id, t.kd, f⟩ := rfl
def RoOk : Ro → Prop
  | .chg _ cs => ∀ c ∈ cs, 0 ≤ c.1
  | _ => True
theorem apS_srt {s g : List Th} (h : Srt s) {r : Ro} (e : apS s r = some g) : Srt g ∧ g.length ≤ s.length + 1 := by
  cases r with
  | gone i => cases e; exact ⟨srt_wo h i, Nat.le_succ_of_le (len_wo s i)⟩
  | new t => cases e; exact ⟨srt_wth h t, len_wth s t⟩
  | chg i cs =>
    rw [apS_chg] at e
    cases q : ats s i with
    | none => rw [q] at e; cases e
    | some t =>
      rw [q] at e
      dsimp only [Option.bind] at e
      cases q2 : chf t.fs cs with
      | none => rw [q2] at e; cases e
      | some f => rw [q2] at e; cases e; exact ⟨srt_wth h _, len_wth s _⟩
/-! lookups -/
theorem ext_ats {a b : List Th} (ha : Srt a) (hb : Srt b) (h : ∀ n, ats a n = ats b n) : a = b := by
  refine ha.ext hb fun x => ?_
  constructor
  · intro hx
    have := (ats_some ha).mpr ⟨hx, rfl⟩
    rw [h] at this
    exact (ats_id this).1
  · intro hx
    have := (ats_some hb).mpr ⟨hx, rfl⟩
    rw [← h] at this
    exact (ats_id this).1
theorem ats_iff {s : List Th} (h : Srt s) {n : Int} {o : Option Th} : ats s n = o ↔ ∀ t, o = some t ↔ t ∈ s ∧ t.id = n := by
  constructor
  · rintro rfl t
    exact ats_some h
  · intro q
    cases o with
    | none =>
      refine ats_none.mpr fun t ht e => ?_
      have := (q t).mpr ⟨ht, e⟩
      cases this
    | some u => exact (ats_some h).mpr ((q u).mp rfl)
theorem ats_wo {s : List Th} (h : Srt s) (i n : Int) : ats (wo s i) n = if n = i then none else ats s n := by
  refine (ats_iff (srt_wo h i)).mpr fun t => ?_
  rw [mem_wo]
  split
  · rename_i e
    subst e
    constructor
    · intro z; cases z
    · rintro ⟨⟨_, h1⟩, h2⟩; exact absurd h2 h1
  · rename_i e
    rw [ats_some h]
    constructor
    · rintro ⟨h1, h2⟩; exact ⟨⟨h1, fun z => e (h2.symm.trans z)⟩, h2⟩
    · rintro ⟨⟨h1, _⟩, h2⟩; exact ⟨h1, h2⟩
theorem ats_wth2 {s : List Th} (h : Srt s) (t : Th) (n : Int) : ats (wth s t) n = if n = t.id then some t else ats s n := by
  refine (ats_iff (srt_wth h t)).mpr fun x => ?_
  rw [mem_wth]
  split
  · rename_i e
    subst e
    constructor
    · intro z; cases z; exact ⟨.inr rfl, rfl⟩
    · rintro ⟨⟨_, h1⟩ | rfl, h2⟩
      · exact absurd h2 h1
      · rfl
  · rename_i e
    rw [ats_some h]
    constructor
    · rintro ⟨h1, h2⟩; exact ⟨.inl ⟨h1, fun z => e (h2.symm.trans z)⟩, h2⟩
    · rintro ⟨⟨h1, _⟩ | rfl, h2⟩
      · exact ⟨h1, h2⟩
      · exact absurd h2.symm e
/-! changed fields lead there -/
theorem chf_go (a b : List Int) (hl : a.length = b.length) : ∀ (n : Nat), n ≤ a.length → chf (b.take n ++ a.drop n) (((List.range a.length).drop n).filterMap fun (i : Nat) => if a[i]? = b[i]? then none else (b[i]?).map fun v => ((i : Int), v)) = some b := by
  intro n
  induction hk : a.length - n generalizing n with
  | zero =>
    intro h
    have e : n = a.length := by omega
    subst e
    rw [List.drop_length, List.append_nil, hl, List.take_length, ← hl, List.drop_eq_nil_of_le (by rw [List.length_range]; omega)]
    rfl
  | succ k ih =>
    intro h
    have h1 : n < a.length := by omega
    have h2 : n < b.length := by omega
    have hr : n < (List.range a.length).length := by rw [List.length_range]; exact h1
    have ih' := ih (n + 1) (by omega) (by omega)
    rw [List.drop_eq_getElem_cons hr, List.getElem_range, List.filterMap_cons]
    have step : (b.take n ++ a.drop n).set n b[n] = b.take (n + 1) ++ a.drop (n + 1) := by
      rw [List.set_append_right _ _ (by rw [List.length_take]; omega), List.length_take, show n - min n b.length = 0 from by omega, List.drop_eq_getElem_cons h1, List.set_cons_zero, List.take_add_one, List.getElem?_eq_getElem h2, List.append_assoc]
      rfl
    rw [List.getElem?_eq_getElem h1, List.getElem?_eq_getElem h2]
    by_cases q : a[n] = b[n]
    · rw [if_pos (by rw [q])]
      dsimp only
      rw [show b.take n ++ a.drop n = b.take (n + 1) ++ a.drop (n + 1) from by
        rw [List.drop_eq_getElem_cons h1, List.take_add_one, List.getElem?_eq_getElem h2, List.append_assoc, q]
        rfl]
      exact ih'
    · rw [if_neg (fun z => q (Option.some.inj z))]
      dsimp only [Option.map]
      unfold chf
      have hle : (b.take n ++ a.drop n).length = a.length := by
        rw [List.length_append, List.length_take, List.length_drop]; omega
      rw [if_neg (by rw [hle]; dsimp only; omega)]
      show chf ((b.take n ++ a.drop n).set ((n : Int).toNat) b[n]) _ = _
      rw [Int.toNat_natCast, step]
      exact ih'
theorem chf_chs {a b : List Int} (hl : a.length = b.length) : chf a (chs a b) = some b := by
  have := chf_go a b hl 0 (Nat.zero_le _)
  simpa [chs] using this
theorem chs_pos (a b : List Int) : ∀ c ∈ chs a b, 0 ≤ c.1 := by
  intro c hc
  obtain ⟨i, _, h⟩ := List.mem_filterMap.mp hc
  split at h
  · cases h
  · cases q : b[i]? with
    | none => rw [q] at h; cases h
    | some v =>
      rw [q] at h
      cases h
      exact Int.natCast_nonneg i
/-- one id's row, put on -/
theorem row_on {ks : List Int} {a b s : List Th} (ha : StOk ks a) (hb : StOk ks b) (hs : Srt s) {n : Int} (hn : ats s n = ats a n) (hin : ats a n ≠ none ∨ ats b n ≠ none) :
    ∃ g, (match rowOf a b n with | some r => apS s r | none => some s) = some g ∧ Srt g ∧ ∀ m, ats g m = if m = n then ats b n else ats s m := by
  unfold rowOf
  cases qb : ats b n with
  | none => exact ⟨wo s n, rfl, srt_wo hs n, fun m => ats_wo hs n m⟩
  | some v =>
    have vo := ats_id qb
    have new : ∃ g, apS s (.new v) = some g ∧ Srt g ∧ ∀ m, ats g m = if m = n then some v else ats s m :=
      ⟨wth s v, rfl, srt_wth hs v, fun m => by rw [ats_wth2 hs, vo.2]⟩
    cases qa : ats a n with
    | none => exact new
    | some u =>
      have uo := ats_id qa
      dsimp only
      by_cases k : u.kd = v.kd
      · rw [if_pos k]
        by_cases e : u = v
        · rw [if_pos e]
          refine ⟨s, rfl, hs, fun m => ?_⟩
          split
          · rename_i z
            rw [z, hn, qa, e]
          · rfl
        · rw [if_neg e]
          dsimp only
          have hf := chf_chs (fs_len (ha.ok u uo.1) (hb.ok v vo.1) k)
          have ev : (⟨u.id, u.kd, v.fs⟩ : Th) = v := by
            have h1 := uo.2.trans vo.2.symm
            cases u; cases v; simp_all
          refine ⟨wth s v, ?_, srt_wth hs v, fun m => by rw [ats_wth2 hs, vo.2]⟩
          rw [apS_chg, hn, qa]
          show (chf u.fs (chs u.fs v.fs)).map _ = _
          rw [hf]
          show some (wth s ⟨u.id, u.kd, v.fs⟩) = _
          rw [ev]
      · rw [if_neg k]
        exact new
theorem apl_go {ks : List Int} {a b : List Th} (ha : StOk ks a) (hb : StOk ks b) : ∀ (ns : List Int) (s : List Th), Srt s → ns.Nodup → (∀ n ∈ ns, ats s n = ats a n) → (∀ n ∈ ns, ats a n ≠ none ∨ ats b n ≠ none) →
    ∃ g, apl s (ns.filterMap (rowOf a b)) = some g ∧ Srt g ∧ ∀ m, ats g m = if m ∈ ns then ats b m else ats s m
  | [], s, hs, _, _, _ => ⟨s, rfl, hs, fun m => by simp⟩
  | n :: ns, s, hs, nd, h1, h2 => by
    obtain ⟨hn, nd'⟩ := List.nodup_cons.mp nd
    obtain ⟨g, e, hg, hm⟩ := row_on ha hb hs (h1 n List.mem_cons_self) (h2 n List.mem_cons_self)
    obtain ⟨g2, e2, hg2, hm2⟩ := apl_go ha hb ns g hg nd' (fun m hmm => by
      have hne : ¬ m = n := fun z => by subst z; exact hn hmm
      rw [hm, if_neg hne]
      exact h1 m (List.mem_cons_of_mem _ hmm)) fun m hmm => h2 m (List.mem_cons_of_mem _ hmm)
    refine ⟨g2, ?_, hg2, fun m => ?_⟩
    · rw [List.filterMap_cons]
      cases q : rowOf a b n with
      | none =>
        rw [q] at e
        cases e
        exact e2
      | some r =>
        rw [q] at e
        show (apS s r).bind (fun s => apl s _) = _
        rw [show apS s r = some g from e]
        exact e2
    · rw [hm2, hm]
      by_cases z : m ∈ ns
      · rw [if_pos z, if_pos (List.mem_cons_of_mem _ z)]
      · rw [if_neg z]
        by_cases y : m = n
        · rw [if_pos y, if_pos (by rw [y]; exact List.mem_cons_self), y]
        · rw [if_neg y, if_neg (fun w => (List.mem_cons.mp w).elim y z)]
theorem all_in {a b : List Th} {n : Int} : n ∈ allIds a b ↔ ats a n ≠ none ∨ ats b n ≠ none := by
  rw [mem_allIds, Ne, Ne, ats_none, ats_none]
  constructor
  · rintro (⟨t, h1, h2⟩ | ⟨t, h1, h2⟩)
    · exact .inl fun z => z t h1 h2
    · exact .inr fun z => z t h1 h2
  · rintro (h | h)
    · refine .inl (Classical.byContradiction fun z => h fun t h1 h2 => z ⟨t, h1, h2⟩)
    · refine .inr (Classical.byContradiction fun z => h fun t h1 h2 => z ⟨t, h1, h2⟩)
/-- a difference leads there -/
theorem apl_diff {ks : List Int} {a b : List Th} (ha : StOk ks a) (hb : StOk ks b) : apl a (diff a b) = some b := by
  obtain ⟨g, e, hg, hm⟩ := apl_go ha hb (allIds a b) a ha.so (rise_nodup (rise_all a b)) (fun _ _ => rfl) fun n hn => all_in.mp hn
  unfold diff
  rw [e]
  congr 1
  refine ext_ats hg hb.so fun n => ?_
  rw [hm]
  split
  · rfl
  · rename_i z
    have h1 : ats a n = none := Classical.byContradiction fun q => z (all_in.mpr (.inl q))
    have h2 : ats b n = none := Classical.byContradiction fun q => z (all_in.mpr (.inr q))
    rw [h1, h2]
theorem chf_cons (f : List Int) (c : Int × Int) (cs : List (Int × Int)) : chf f (c :: cs) = if (f.length : Int) ≤ c.1 then none else chf (f.set c.1.toNat c.2) cs := rfl
theorem chf_len : ∀ {cs : List (Int × Int)} {f g : List Int}, chf f cs = some g → g.length = f.length
  | [], f, g, h => by cases h; rfl
  | c :: cs, f, g, h => by
    unfold chf at h
    split at h
    · cases h
    · rw [chf_len h, List.length_set]
structure CsOk (cs : List (Int × Int)) : Prop where
  ne : cs ≠ []
  b : ∀ c ∈ cs, 0 ≤ c.1 ∧ c.1 ≤ 4 ∧ 0 ≤ c.2 ∧ c.2 ≤ 255
  up : cs.Pairwise fun c d => c.1 < d.1
def RoG (ks : List Int) : Ro → Prop
  | .gone i => 0 ≤ i ∧ i ≤ 99
  | .new t => ThOk ks t
  | .chg i cs => 0 ≤ i ∧ i ≤ 99 ∧ CsOk cs
theorem chs_up (a b : List Int) : (chs a b).Pairwise fun c d => c.1 < d.1 := by
  unfold chs
  refine List.pairwise_filterMap.mpr ((List.pairwise_lt_range (n := a.length)).imp fun {i j} q x hx y hy => ?_)
  have key : ∀ (i : Nat) (x : Int × Int), (if a[i]? = b[i]? then none else (b[i]?).map fun v => ((i : Int), v)) = some x → x.1 = i := by
    intro i x h
    split at h
    · cases h
    · cases q : b[i]? with
      | none => rw [q] at h; cases h
      | some v => rw [q] at h; cases h; rfl
  rw [key i x hx, key j y hy]
  omega
theorem chs_bd {a b : List Int} (hl : a.length ≤ 5) (hb : ∀ f ∈ b, 0 ≤ f ∧ f ≤ 255) : ∀ c ∈ chs a b, 0 ≤ c.1 ∧ c.1 ≤ 4 ∧ 0 ≤ c.2 ∧ c.2 ≤ 255 := by
  intro c hc
  obtain ⟨i, hi, h⟩ := List.mem_filterMap.mp hc
  have hi := List.mem_range.mp hi
  split at h
  · cases h
  · cases q : b[i]? with
    | none => rw [q] at h; cases h
    | some v =>
      rw [q] at h
      cases h
      have := hb v (List.mem_of_getElem? q)
      exact ⟨Int.natCast_nonneg i, by show (i : Int) ≤ 4; omega, this.1, this.2⟩
theorem chs_ne {a b : List Int} (hl : a.length = b.length) (h : a ≠ b) : chs a b ≠ [] := by
  intro e
  have := chf_chs hl
  rw [e] at this
  exact h (Option.some.inj this)
theorem diff_ok {ks : List Int} {a b : List Th} (hk : Shp ks) (ha : StOk ks a) (hb : StOk ks b) : ∀ r ∈ diff a b, RoG ks r := by
  intro r hr
  obtain ⟨n, hn, h⟩ := List.mem_filterMap.mp hr
  have hn := mem_allIds.mp hn
  have hbd : 0 ≤ n ∧ n ≤ 99 := by
    rcases hn with ⟨t, ht, rfl⟩ | ⟨t, ht, rfl⟩
    · exact ⟨(ha.ok t ht).i0, (ha.ok t ht).i1⟩
    · exact ⟨(hb.ok t ht).i0, (hb.ok t ht).i1⟩
  unfold rowOf at h
  cases qb : ats b n with
  | none => rw [qb] at h; cases h; exact hbd
  | some v =>
    rw [qb] at h
    have vo := ats_id qb
    have hv := hb.ok v vo.1
    cases qa : ats a n with
    | none => rw [qa] at h; cases h; exact hv
    | some u =>
      rw [qa] at h
      have uo := ats_id qa
      have hu := ha.ok u uo.1
      dsimp only at h
      by_cases k : u.kd = v.kd
      · rw [if_pos k] at h
        by_cases e : u = v
        · rw [if_pos e] at h; cases h
        · rw [if_neg e] at h
          cases h
          have hl := fs_len hu hv k
          refine ⟨hbd.1, hbd.2, chs_ne hl fun z => e ?_, chs_bd (hu.len hk) hv.fb, chs_up _ _⟩
          have h1 := uo.2.trans vo.2.symm
          cases u; cases v; simp_all
      · rw [if_neg k] at h; cases h; exact hv
theorem diff_up (a b : List Th) : (diff a b).Pairwise fun r q => Wp.idR r < Wp.idR q := by
  unfold diff
  refine List.pairwise_filterMap.mpr ((rise_all a b).imp fun {i j} q x hx y hy => ?_)
  rw [rowOf_id hx, rowOf_id hy]
  exact q
theorem beside {α : Type} {R : α → α → Prop} {s : List α} (h : s.Pairwise R) : ∀ p ∈ s.dropLast.zip s.tail, R p.1 p.2 := by
  intro p hp
  obtain ⟨i, hi, rfl⟩ := List.mem_iff_getElem.mp hp
  rw [List.getElem_zip, List.getElem_dropLast, List.getElem_tail]
  exact List.pairwise_iff_getElem.mp h i (i + 1) _ _ (by omega)
namespace Wp
section
variable {M : Store} {kb : Bool → Prop} {k : D → Prop}
theorem x_eq {i j : Int} (e : i = j) (h : kb true) : PW (cmpD .eq (.int i) (dr M (.int j))) kb := p_eq (by rw [decide_eq_true e]; exact h)
theorem x_ltF {i j : Int} (e : j ≤ i) (h : kb false) : PW (cmpD .lt (.int i) (dr M (.int j))) kb := p_lt (by rw [decide_eq_false (by omega)]; exact h)
theorem x_ltT {i j : Int} (e : i < j) (h : kb true) : PW (cmpD .lt (.int i) (dr M (.int j))) kb := p_lt (by rw [decide_eq_true e]; exact h)
theorem c_neTag {r : Ro} {x : Str} (hx : okStr x = true) (h : kb (!(tagR r == x))) : PW (cmpD .ne (.str (tagR r)) (dr M (.str x))) kb := by
  refine c_neG (ok_tag r) hx rfl ?_
  exact h
theorem sl_gen {α : Type} {f : α → D} {l : List α} (h : k (.tup (l.dropLast.map f))) : PW (sliceD (.tup (l.map f)) none (some (-1))) k := by
  show k (.tup (cutL (l.map f) none (some (-1))))
  rw [cut_init, ← List.map_dropLast]; exact h
theorem sl_gen1 {α : Type} {f : α → D} {l : List α} (h : k (.tup (l.tail.map f))) : PW (sliceD (.tup (l.map f)) (some 1) none) k := by
  show k (.tup (cutL (l.map f) (some ((1 : Nat) : Int)) none))
  rw [cut_from, ← List.map_drop, List.drop_one]; exact h
theorem sl_genL {α : Type} {f : α → D} {l : List α} (h : k (.lst (l.dropLast.map f))) : PW (sliceD (.lst (l.map f)) none (some (-1))) k := by
  show k (.lst (cutL (l.map f) none (some (-1))))
  rw [cut_init, ← List.map_dropLast]; exact h
theorem sl_genL1 {α : Type} {f : α → D} {l : List α} (h : k (.lst (l.tail.map f))) : PW (sliceD (.lst (l.map f)) (some 1) none) k := by
  show k (.lst (cutL (l.map f) (some ((1 : Nat) : Int)) none))
  rw [cut_from, ← List.map_drop, List.drop_one]; exact h
theorem zip_T {α β : Type} {f : α → D} {g : β → D} {a : List α} {b : List β} {kl : List D → Prop} (h : kl ((a.zip b).map fun p => .tup [f p.1, g p.2])) : PW (zipO (.tup (a.map f)) (.tup (b.map g))) kl := by
  show kl ((List.zip (a.map f) (b.map g)).map fun p => .tup [p.1, p.2])
  rw [List.zip_map, List.map_map]; exact h
end
end Wp
theorem at_nat00 {α : Type} {l : List α} {i : Nat} (h : i < l.length) : atI l (i : Int) = some l[i] := by
  have := at_nat h
  rwa [Int.zero_add] at this
/-! ### there and back -/
def unl (a b : List Th) : List Int := (allIds a b).filter fun n => !decide (ats a n = ats b n)
theorem row_none {a b : List Th} {n : Int} (hn : n ∈ allIds a b) : rowOf a b n = none ↔ ats a n = ats b n := by
  have h := all_in.mp hn
  unfold rowOf
  cases qb : ats b n with
  | none =>
    rw [qb] at h
    constructor
    · intro z; cases z
    · intro z
      rcases h with h | h
      · exact absurd z h
      · exact absurd rfl h
  | some v =>
    cases qa : ats a n with
    | none => constructor <;> intro z <;> cases z
    | some u =>
      dsimp only
      by_cases k : u.kd = v.kd
      · rw [if_pos k]
        by_cases e : u = v
        · rw [if_pos e, e]; simp
        · rw [if_neg e]
          constructor
          · intro z; cases z
          · intro z; exact absurd (Option.some.inj z) e
      · rw [if_neg k]
        constructor
        · intro z; cases z
        · intro z
          have := Option.some.inj z
          subst this
          exact absurd rfl k
theorem diff_unl (a b : List Th) : (diff a b).map Wp.idR = unl a b := by
  unfold diff unl
  rw [List.map_filterMap, ← List.filterMap_eq_filter]
  refine fm_congr fun n hn => ?_
  show (rowOf a b n).map Wp.idR = if (!decide (ats a n = ats b n)) = true then some n else none
  cases q : rowOf a b n with
  | none => rw [decide_eq_true ((row_none hn).mp q)]; rfl
  | some r =>
    have : ¬ ats a n = ats b n := fun z => by rw [(row_none hn).mpr z] at q; cases q
    rw [decide_eq_false this]
    show some (Wp.idR r) = some n
    rw [rowOf_id q]
theorem all_sym (a b : List Th) : allIds a b = allIds b a := rise_ext (rise_all a b) (rise_all b a) fun n => by rw [mem_allIds, mem_allIds]; exact Or.comm
theorem unl_sym (a b : List Th) : unl a b = unl b a := by
  unfold unl
  rw [all_sym]
  refine List.filter_congr fun n _ => ?_
  rw [show decide (ats a n = ats b n) = decide (ats b n = ats a n) from decide_eq_decide.mpr eq_comm]
theorem diff_len (a b : List Th) : (diff b a).length = (diff a b).length := by
  have h1 := congrArg List.length (diff_unl a b)
  have h2 := congrArg List.length (diff_unl b a)
  rw [List.length_map] at h1 h2
  rw [h1, h2, unl_sym]
theorem diff_le (a b : List Th) : (diff a b).length ≤ a.length + b.length := Nat.le_trans (List.length_filterMap_le _ _) (allIds_len a b)
theorem diff_of_unl (a b : List Th) : diff a b = (unl a b).filterMap (rowOf a b) := by
  unfold diff unl
  rw [← List.filterMap_eq_filter, List.filterMap_filterMap]
  refine fm_congr fun n hn => ?_
  show rowOf a b n = (if (!decide (ats a n = ats b n)) = true then some n else none).bind (rowOf a b)
  by_cases z : ats a n = ats b n
  · rw [decide_eq_true z, (row_none hn).mpr z]; rfl
  · rw [decide_eq_false z]; rfl
theorem zip_fm {α β γ : Type} {f : α → Option β} {g : α → Option γ} : ∀ {ns : List α}, (∀ n ∈ ns, (f n).isSome = true ∧ (g n).isSome = true) → ∀ p ∈ (ns.filterMap f).zip (ns.filterMap g), ∃ n ∈ ns, f n = some p.1 ∧ g n = some p.2
  | [], _, p, h => absurd h (by simp)
  | n :: ns, hs, p, h => by
    obtain ⟨h1, h2⟩ := hs n List.mem_cons_self
    obtain ⟨x, hx⟩ := Option.isSome_iff_exists.mp h1
    obtain ⟨y, hy⟩ := Option.isSome_iff_exists.mp h2
    rw [List.filterMap_cons, List.filterMap_cons, hx, hy] at h
    dsimp only at h
    rw [List.zip_cons_cons] at h
    rcases List.mem_cons.mp h with e | h
    · subst e
      exact ⟨n, List.mem_cons_self, hx, hy⟩
    · obtain ⟨m, hm, e⟩ := zip_fm (fun m hm => hs m (List.mem_cons_of_mem _ hm)) p h
      exact ⟨m, List.mem_cons_of_mem _ hm, e⟩
theorem diff_zip (a b : List Th) : ∀ p ∈ (diff a b).zip (diff b a), ∃ n ∈ unl a b, rowOf a b n = some p.1 ∧ rowOf b a n = some p.2 := by
  rw [diff_of_unl a b, diff_of_unl b a, unl_sym b a]
  refine zip_fm fun n hn => ?_
  obtain ⟨h1, h2⟩ := List.mem_filter.mp hn
  have h2 : ¬ ats a n = ats b n := by simpa using h2
  have k1 : rowOf a b n ≠ none := fun z => h2 ((row_none h1).mp z)
  have k2 : rowOf b a n ≠ none := fun z => h2 ((row_none (by rw [all_sym]; exact h1)).mp z).symm
  exact ⟨Option.isSome_iff_ne_none.mpr k1, Option.isSome_iff_ne_none.mpr k2⟩
theorem chs_places {a b : List Int} (h : a.length = b.length) : (chs a b).map (·.1) = (chs b a).map (·.1) := by
  unfold chs
  rw [List.map_filterMap, List.map_filterMap, h]
  refine fm_congr fun i hi => ?_
  have hi := List.mem_range.mp hi
  rw [List.getElem?_eq_getElem (show i < a.length by omega), List.getElem?_eq_getElem hi]
  by_cases q : a[i]'(by omega) = b[i]
  · rw [if_pos (by rw [q]), if_pos (by rw [q])]
  · rw [if_neg (fun z => q (Option.some.inj z)), if_neg (fun z => q (Option.some.inj z).symm)]
    rfl
/-- a row and its way back -/
def Back : Ro → Ro → Prop
  | .chg _ cs, .chg _ ds => cs.map (·.1) = ds.map (·.1)
  | .gone _, .new _ => True
  | .new _, .gone _ => True
  | .new _, .new _ => True
  | _, _ => False
theorem diff_back {ks : List Int} {a b : List Th} (ha : StOk ks a) (hb : StOk ks b) : ∀ p ∈ (diff a b).zip (diff b a), Back p.1 p.2 := by
  intro p hp
  obtain ⟨n, hn, h1, h2⟩ := diff_zip a b p hp
  have hne : ¬ ats a n = ats b n := by simpa using (List.mem_filter.mp hn).2
  unfold rowOf at h1 h2
  cases qb : ats b n with
  | none =>
    cases qa : ats a n with
    | none => exact absurd (qa.trans qb.symm) hne
    | some u =>
      rw [qa, qb] at h2
      rw [qb] at h1
      dsimp only at h1 h2
      rw [← Option.some.inj h2, ← Option.some.inj h1]
      trivial
  | some v =>
    have vo := ats_id qb
    cases qa : ats a n with
    | none =>
      rw [qa, qb] at h1
      rw [qa] at h2
      dsimp only at h1 h2
      rw [← Option.some.inj h1, ← Option.some.inj h2]
      trivial
    | some u =>
      have uo := ats_id qa
      rw [qa, qb] at h1 h2
      dsimp only at h1 h2
      have e : ¬ u = v := fun z => hne (by rw [qa, qb, z])
      by_cases k : u.kd = v.kd
      · rw [if_pos k, if_neg e] at h1
        rw [if_pos k.symm, if_neg (fun z => e z.symm)] at h2
        rw [← Option.some.inj h1, ← Option.some.inj h2]
        exact chs_places (fs_len (ha.ok u uo.1) (hb.ok v vo.1) k)
      · rw [if_neg k] at h1
        rw [if_neg (fun z => k z.symm)] at h2
        rw [← Option.some.inj h1, ← Option.some.inj h2]
        trivial
theorem diff_nil {ks : List Int} {a b : List Th} (ha : StOk ks a) (hb : StOk ks b) : diff a b = [] ↔ a = b := by
  constructor
  · intro h
    have := apl_diff ha hb
    rw [h] at this
    exact Option.some.inj this
  · rintro rfl
    have := diff_unl a a
    have e : unl a a = [] := by unfold unl; simp
    rw [e] at this
    exact List.map_eq_nil_iff.mp this
/-- a changed row is needed -/
theorem diff_needed {a b : List Th} {i : Int} {cs : List (Int × Int)} (h : Ro.chg i cs ∈ diff a b) : ∃ u v, ats a i = some u ∧ ats b i = some v ∧ cs = chs u.fs v.fs := by
  obtain ⟨n, _, e⟩ := List.mem_filterMap.mp h
  have hid := rowOf_id e
  have hid : i = n := hid
  subst hid
  unfold rowOf at e
  cases qb : ats b i with
  | none => rw [qb] at e; cases e
  | some v =>
    rw [qb] at e
    cases qa : ats a i with
    | none => rw [qa] at e; cases e
    | some u =>
      rw [qa] at e
      dsimp only at e
      split at e
      · split at e
        · cases e
        · cases e; exact ⟨u, v, rfl, rfl, rfl⟩
      · cases e
theorem chs_at {a b : List Int} {c : Int × Int} (h : c ∈ chs a b) : ∃ x, atI a c.1 = some x ∧ x ≠ c.2 := by
  obtain ⟨i, hi, h⟩ := List.mem_filterMap.mp h
  have hi := List.mem_range.mp hi
  split at h
  · cases h
  · rename_i q
    cases qb : b[i]? with
    | none => rw [qb] at h; cases h
    | some v =>
      rw [qb] at h
      cases h
      refine ⟨a[i], at_nat00 hi, fun z => q ?_⟩
      rw [qb, List.getElem?_eq_getElem hi, z]
theorem diff_from {ks : List Int} {b : List Th} (hb : StOk ks b) : diff [] b = b.map Ro.new := by
  have h1 : ∀ n, ats ([] : List Th) n = none := fun n => rfl
  have h2 : allIds [] b = b.map (·.id) := rise_ext (rise_all _ _) (srt_ids hb.so) fun n => by rw [mem_allIds, List.mem_map]; simp
  unfold diff
  rw [h2, List.filterMap_map, ← List.filterMap_eq_map]
  refine fm_congr fun t ht => ?_
  show rowOf [] b t.id = some (.new t)
  unfold rowOf
  rw [(ats_some hb.so).mpr ⟨ht, rfl⟩]
  rfl
theorem diff_to {ks : List Int} {a : List Th} (ha : StOk ks a) : diff a [] = (a.map (·.id)).map Ro.gone := by
  have h2 : allIds a [] = a.map (·.id) := rise_ext (rise_all _ _) (srt_ids ha.so) fun n => by rw [mem_allIds, List.mem_map]; simp
  unfold diff
  rw [h2, show rowOf a [] = fun n => some (Ro.gone n) from funext fun n => rfl, List.filterMap_eq_map']
end Pv

set_option Elab.async false
set_option linter.all false
set_option maxRecDepth 100000
set_option maxHeartbeats 4000000
namespace Pv
open PySem L2 Wp
/-! ### a row left out -/
theorem fm_erase {α β : Type} {f : α → Option β} : ∀ {ns : List α} (i : Nat), (∀ n ∈ ns, (f n).isSome = true) → (ns.filterMap f).eraseIdx i = (ns.eraseIdx i).filterMap f
  | [], i, _ => by simp
  | n :: ns, 0, h => by
    obtain ⟨x, hx⟩ := Option.isSome_iff_exists.mp (h n List.mem_cons_self)
    rw [List.filterMap_cons, hx]
    rfl
  | n :: ns, i + 1, h => by
    obtain ⟨x, hx⟩ := Option.isSome_iff_exists.mp (h n List.mem_cons_self)
    have ih := fm_erase (f := f) i fun m hm => h m (List.mem_cons_of_mem _ hm)
    rw [List.filterMap_cons, hx]
    show (x :: ns.filterMap f).eraseIdx (i + 1) = (n :: ns.eraseIdx i).filterMap f
    rw [List.eraseIdx_cons_succ, List.filterMap_cons, hx, ih]
theorem nd_erase {α : Type} {l : List α} (h : l.Nodup) {i : Nat} (hi : i < l.length) : l[i] ∉ l.eraseIdx i := by
  have e : l = l.take i ++ l[i] :: l.drop (i + 1) := by rw [← List.drop_eq_getElem_cons hi, List.take_append_drop]
  have h2 : (l.take i ++ l[i] :: l.drop (i + 1)).Nodup := by rw [← e]; exact h
  rw [List.eraseIdx_eq_take_drop_succ]
  obtain ⟨h3, h4, h5⟩ := List.nodup_append.mp h2
  intro hm
  rcases List.mem_append.mp hm with q | q
  · exact h5 _ q _ List.mem_cons_self rfl
  · exact (List.nodup_cons.mp h4).1 q
theorem diff_out {ks : List Int} {a b : List Th} (ha : StOk ks a) (hb : StOk ks b) {i : Nat} (hi : i < (diff a b).length) : ∃ g, apl a ((diff a b).eraseIdx i) = some g ∧ g ≠ b := by
  have hl : (unl a b).length = (diff a b).length := by
    have := congrArg List.length (diff_unl a b)
    rw [List.length_map] at this
    exact this.symm
  have hi2 : i < (unl a b).length := by omega
  have nd : (unl a b).Nodup := (rise_nodup (rise_all a b)).sublist List.filter_sublist
  have hs : ∀ n ∈ unl a b, (rowOf a b n).isSome = true := by
    intro n hn
    obtain ⟨h1, h2⟩ := List.mem_filter.mp hn
    refine Option.isSome_iff_ne_none.mpr fun z => ?_
    have := (row_none h1).mp z
    simp [this] at h2
  rw [diff_of_unl, fm_erase i hs]
  have hmem : ∀ n ∈ (unl a b).eraseIdx i, n ∈ unl a b := fun n hn => List.mem_of_mem_eraseIdx hn
  obtain ⟨g, e, hg, hm⟩ := apl_go ha hb ((unl a b).eraseIdx i) a ha.so (nd.sublist (List.eraseIdx_sublist _ _)) (fun _ _ => rfl) fun n hn => all_in.mp (List.mem_filter.mp (hmem n hn)).1
  refine ⟨g, e, fun z => ?_⟩
  have h1 := hm (unl a b)[i]
  rw [if_neg (nd_erase nd hi2), z] at h1
  have h2 := (List.mem_filter.mp (List.getElem_mem hi2)).2
  simp [h1] at h2
/-! ### a difference by hand: all numbers in turn -/
theorem all_hand {ks : List Int} {a b : List Th} (ha : StOk ks a) (hb : StOk ks b) : (((List.range 100).map fun (n : Nat) => (n : Int)).filter fun n => !(decide (ats a n = none) && decide (ats b n = none))) = allIds a b := by
  refine rise_ext ?_ (rise_all a b) fun n => ?_
  · refine List.Pairwise.filter _ (List.pairwise_map.mpr ((List.pairwise_lt_range (n := 100)).imp fun h => by omega))
  · rw [List.mem_filter, all_in, List.mem_map]
    constructor
    · rintro ⟨_, h⟩
      by_cases z : ats a n = none
      · refine .inr fun y => ?_
        simp [z, y] at h
      · exact .inl z
    · intro h
      have hbd : 0 ≤ n ∧ n ≤ 99 := by
        rcases h with h | h
        · cases q : ats a n with
          | none => exact absurd q h
          | some t =>
            have o := ats_id q
            have := ha.ok t o.1
            rw [← o.2]
            exact ⟨this.i0, this.i1⟩
        · cases q : ats b n with
          | none => exact absurd q h
          | some t =>
            have o := ats_id q
            have := hb.ok t o.1
            rw [← o.2]
            exact ⟨this.i0, this.i1⟩
      refine ⟨⟨n.toNat, List.mem_range.mpr (by omega), by omega⟩, ?_⟩
      rcases h with h | h
      · simp [h]
      · simp [h]
def rowH (a b : List Th) (n : Nat) : Option Ro := if ats a (n : Int) = none ∧ ats b (n : Int) = none then none else rowOf a b (n : Int)
theorem diff_hand {ks : List Int} {a b : List Th} (ha : StOk ks a) (hb : StOk ks b) : (List.range 100).filterMap (rowH a b) = diff a b := by
  unfold diff
  rw [← all_hand ha hb, ← List.filterMap_eq_filter, List.filterMap_filterMap, List.filterMap_map]
  refine fm_congr fun n _ => ?_
  show rowH a b n = (if (!(decide (ats a (n : Int) = none) && decide (ats b (n : Int) = none))) = true then some (n : Int) else none).bind (rowOf a b)
  unfold rowH
  by_cases h1 : ats a (n : Int) = none <;> by_cases h2 : ats b (n : Int) = none <;> simp [h1, h2]
end Pv

set_option Elab.async false
set_option linter.all false
set_option maxRecDepth 100000
set_option maxHeartbeats 4000000
namespace Pv
open PySem L2 Wp
/-! ### bits as text -/
def bC (b : Bool) : Nat := if b then 49 else 48
def bS (b : Bool) : Str := ⟨#[bC b]⟩
def tB (bs : List Bool) : Str := ⟨(bs.map bC).toArray⟩
theorem bC_inj {a b : Bool} (h : bC a = bC b) : a = b := by
  cases a <;> cases b <;> first | rfl | (exact absurd h (by decide))
theorem tB_cps (bs : List Bool) : (tB bs).cps.toList = bs.map bC := rfl
theorem tB_len (bs : List Bool) : (tB bs).length = bs.length := by
  show (bs.map bC).toArray.size = _
  simp
theorem tB_inj {a b : List Bool} : tB a = tB b ↔ a = b := by
  refine ⟨fun h => ?_, fun h => h ▸ rfl⟩
  have h1 : a.map bC = b.map bC := by rw [← tB_cps, ← tB_cps, h]
  exact (List.map_inj_right fun _ _ e => bC_inj e).mp h1
theorem tB_app (a b : List Bool) : tB a ++ tB b = tB (a ++ b) := by
  show (⟨(a.map bC).toArray ++ (b.map bC).toArray⟩ : Str) = ⟨((a ++ b).map bC).toArray⟩
  simp
theorem join_bits : ∀ bs : List Bool, Txt.join "" (bs.map bS) = tB bs := by
  have e0 : ("" : Str) = tB [] := by decide +kernel
  have key : ∀ bs : List Bool, Str.join "" (bs.map bS) = tB bs := by
    intro bs
    induction bs with
    | nil => exact e0
    | cons a r ih =>
      cases r with
      | nil => rfl
      | cons b r =>
        show bS a ++ "" ++ Str.join "" (bS b :: r.map bS) = _
        rw [show Str.join "" (bS b :: r.map bS) = tB (b :: r) from ih, e0]
        show tB [a] ++ tB [] ++ tB (b :: r) = _
        rw [tB_app, tB_app]
        rfl
  intro bs
  show PySem.Builtin.Str.glued "" _ = _
  rw [StrLaws.glued_eq_join]
  exact key bs
theorem cnt_tB (c : Bool) : ∀ bs : List Bool, PyProof.Rows.cnt (bC c) (bs.map bC) = (bs.countP fun b => b == c : Nat)
  | [] => rfl
  | b :: r => by
    rw [List.map_cons, PyProof.Rows.cnt_cons, cnt_tB c r, List.countP_cons]
    by_cases h : b = c
    · subst h; simp; omega
    · rw [if_neg fun e => h (bC_inj e)]
      simp [h]
theorem count_tB (c : Bool) (bs : List Bool) : Txt.count (tB bs) (bS c) = (bs.countP fun b => b == c : Nat) := by
  show Txt.count (tB bs) ⟨#[bC c]⟩ = _
  rw [PyProof.Rows.count_is]
  exact cnt_tB c bs
section
variable {M : Store} {k : D → Prop} {kl : List D → Prop} {bs : List Bool}
theorem strsOf_B : ∀ bs : List Bool, strsOf (bs.map fun b => .str (bS b)) = some (bs.map bS)
  | [] => rfl
  | b :: r => by
    show (strsOf (r.map fun b => .str (bS b))).map (bS b :: ·) = _
    rw [strsOf_B r]; rfl
theorem sum_ones : ∀ bs : List Bool, (bs.map fun b => (bS b).length).sum = bs.length
  | [] => rfl
  | b :: r => by
    rw [List.map_cons, List.sum_cons, sum_ones r, List.length_cons]
    show 1 + _ = _
    omega
theorem p_join (hl : bs.length ≤ 16777216) (h : k (.str (tB bs))) : PW (meth1D .join (.str "") (.lst (bs.map fun b => .str (bS b)))) k := by
  show PW (match strsOf (bs.map fun b => D.str (bS b)) with
    | some ys => if (ys.map (·.length)).sum + ys.length * Str.length "" ≤ LIM then some (D.str (Txt.join "" ys)) else none
    | none => none) k
  rw [strsOf_B]
  show PW (if ((bs.map bS).map (·.length)).sum + (bs.map bS).length * Str.length "" ≤ LIM then some (D.str (Txt.join "" (bs.map bS))) else none) k
  rw [if_pos, join_bits]
  · exact h
  · rw [List.map_map]
    have := sum_ones bs
    rw [show ((fun x => Str.length x) ∘ bS) = fun b => (bS b).length from rfl, this, show Str.length "" = 0 from by decide +kernel]
    show _ ≤ 16777216
    omega
theorem p_strB {b : Bool} (h : k (.str (bS b))) : PW (fn1D .str (.int (if b = true then 1 else 0))) k := by
  have e : fn1D .str (.int (if b = true then 1 else 0)) = some (.str (bS b)) := by
    cases b
    · show (if (0 : Int) ≤ 0 ∧ (0 : Int) < 10 then some (D.str (Str.ofString (toString (0 : Int)))) else none) = _
      rw [if_pos (by omega), show Str.ofString (toString (0 : Int)) = bS false from by decide +kernel]
    · show (if (0 : Int) ≤ 1 ∧ (1 : Int) < 10 then some (D.str (Str.ofString (toString (1 : Int)))) else none) = _
      rw [if_pos (by omega), show Str.ofString (toString (1 : Int)) = bS true from by decide +kernel]
  rw [e]; exact h
theorem l_B (h : k (.int bs.length)) : PW (fn1D .len (dr M (.str (tB bs)))) k := by
  show k (.int (tB bs).length)
  rw [tB_len]; exact h
theorem it_B (h : kl (bs.map fun b => .str (bS b))) : PW (itemsD (.str (tB bs))) kl := by
  show kl ((bs.map bC).map fun c => .str ⟨#[c]⟩)
  rw [List.map_map]; exact h
theorem n_1 (h : k (.int (bs.countP fun b => b == true : Nat))) : PW (meth1D .count (.str (tB bs)) (.str "1")) k := by
  show k (.int (Txt.count (tB bs) "1"))
  rw [show ("1" : Str) = bS true from by decide +kernel, count_tB]; exact h
theorem n_0 (h : k (.int (bs.countP fun b => b == false : Nat))) : PW (meth1D .count (.str (tB bs)) (.str "0")) k := by
  show k (.int (Txt.count (tB bs) "0"))
  rw [show ("0" : Str) = bS false from by decide +kernel, count_tB]; exact h
theorem ok_bS (b : Bool) : okStr (bS b) = true := by cases b <;> decide +kernel
theorem c_eq1 {b : Bool} {kb : Bool → Prop} (h : kb b) : PW (cmpD .eq (.str (bS b)) (dr M (.str "1"))) kb := by
  have e : cmpD .eq (.str (bS b)) (.str "1") = some b := by cases b <;> decide +kernel
  show PW (cmpD .eq (.str (bS b)) (.str "1")) kb
  rw [e]; exact h
theorem c_eq0 {b : Bool} {kb : Bool → Prop} (h : kb (!b)) : PW (cmpD .eq (.str (bS b)) (dr M (.str "0"))) kb := by
  have e : cmpD .eq (.str (bS b)) (.str "0") = some (!b) := by cases b <;> decide +kernel
  show PW (cmpD .eq (.str (bS b)) (.str "0")) kb
  rw [e]; exact h
end
/-! ### what was heard -/
def fnd : List Bool → Int → List Int
  | [], _ => []
  | b :: r, m => if b = true then (m - 1) :: fnd r (m - 1) else fnd r (m - 1)
theorem fnd_enum : ∀ (bs : List Bool) (m : Int) (n : Nat), (bs.zipIdx n).filterMap (fun p : Bool × Nat => if p.1 = true then some (m - (p.2 : Int) - 1) else none) = fnd bs (m - n)
  | [], _, _ => rfl
  | b :: r, m, n => by
    have ih := fnd_enum r m (n + 1)
    rw [show m - ((n + 1 : Nat) : Int) = m - n - 1 from by omega] at ih
    rw [List.zipIdx_cons, List.filterMap_cons]
    cases b with
    | true =>
      show (m - (n : Int) - 1) :: (r.zipIdx (n + 1)).filterMap _ = (m - n - 1) :: fnd r (m - n - 1)
      rw [ih]
    | false => exact ih
theorem mem_fnd {x : Int} : ∀ {bs : List Bool} {m : Int}, x ∈ fnd bs m ↔ ∃ i : Nat, bs[i]? = some true ∧ x = m - i - 1
  | [], m => by simp [fnd]
  | b :: r, m => by
    have ih := mem_fnd (x := x) (bs := r) (m := m - 1)
    have key : (x ∈ fnd (b :: r) m) ↔ (b = true ∧ x = m - 1) ∨ x ∈ fnd r (m - 1) := by
      cases b with
      | true => show x ∈ (m - 1) :: fnd r (m - 1) ↔ _; rw [List.mem_cons]; simp
      | false => show x ∈ fnd r (m - 1) ↔ _; simp
    rw [key, ih]
    constructor
    · rintro (⟨rfl, rfl⟩ | ⟨i, h1, h2⟩)
      · exact ⟨0, rfl, by omega⟩
      · exact ⟨i + 1, h1, by omega⟩
    · rintro ⟨i, h1, h2⟩
      cases i with
      | zero => exact .inl ⟨by simpa using h1, by omega⟩
      | succ i => exact .inr ⟨i, h1, by omega⟩
theorem fnd_lt {x : Int} {bs : List Bool} {m : Int} (h : x ∈ fnd bs m) : x < m := by
  obtain ⟨i, _, h⟩ := mem_fnd.mp h; omega
theorem fnd_fall : ∀ (bs : List Bool) (m : Int), (fnd bs m).Pairwise (· > ·)
  | [], _ => List.Pairwise.nil
  | b :: r, m => by
    cases b with
    | true => exact List.Pairwise.cons (fun x hx => fnd_lt hx) (fnd_fall r (m - 1))
    | false => exact fnd_fall r (m - 1)
theorem fnd_rev (bs : List Bool) (m : Int) : (fnd bs m).reverse.Pairwise (· < ·) := List.pairwise_reverse.mpr (fnd_fall bs m)
theorem fnd_len : ∀ (bs : List Bool) (m : Int), (fnd bs m).length = bs.countP fun b => b == true
  | [], _ => rfl
  | b :: r, m => by
    have ih := fnd_len r (m - 1)
    rw [List.countP_cons, ← ih]
    cases b <;> simp [fnd]
def bts (S : List Int) (m : Int) : List Bool := (List.range 16).map fun (b : Nat) => decide (m - (1 + (b : Int)) ∈ S)
theorem bts_len (S : List Int) (m : Int) : (bts S m).length = 16 := by simp [bts]
theorem bts_at {S : List Int} {m : Int} {i : Nat} : (bts S m)[i]? = some true ↔ i < 16 ∧ m - (1 + (i : Int)) ∈ S := by
  unfold bts
  rw [List.getElem?_map]
  by_cases h : i < 16
  · rw [List.getElem?_range h]; simp [h]
  · rw [List.getElem?_eq_none (by rw [List.length_range]; omega)]; simp [h]
theorem mem_fb {S : List Int} {m x : Int} : x ∈ fnd (bts S m) m ↔ x ∈ S ∧ m - 16 ≤ x ∧ x < m := by
  rw [mem_fnd]
  constructor
  · rintro ⟨i, h, rfl⟩
    obtain ⟨h1, h2⟩ := bts_at.mp h
    exact ⟨by rw [show m - (i : Int) - 1 = m - (1 + (i : Int)) from by omega]; exact h2, by omega, by omega⟩
  · rintro ⟨h1, h2, h3⟩
    refine ⟨(m - 1 - x).toNat, bts_at.mpr ⟨by omega, ?_⟩, by omega⟩
    rw [show m - (1 + ((m - 1 - x).toNat : Int)) = x from by omega]; exact h1
theorem bts_congr {S T : List Int} {m : Int} (h : ∀ x, m - 16 ≤ x → x < m → (x ∈ S ↔ x ∈ T)) : bts S m = bts T m := by
  unfold bts
  refine List.map_congr_left fun i hi => ?_
  have hi := List.mem_range.mp hi
  have := h (m - (1 + (i : Int))) (by omega) (by omega)
  exact decide_eq_decide.mpr this
theorem bts_on (S : List Int) (m : Int) (c : Int) : bts (S.map (· + c)) (m + c) = bts S m := by
  unfold bts
  refine List.map_congr_left fun i hi => decide_eq_decide.mpr ?_
  rw [List.mem_map]
  constructor
  · rintro ⟨y, h1, h2⟩
    rw [show m - (1 + (i : Int)) = y from by omega]; exact h1
  · intro h
    exact ⟨_, h, by omega⟩
def nearL (S : List Int) (m : Int) : List Int := isort (S.filter fun x => decide (m - 16 ≤ x) && decide (x < m))
theorem near_eq {S : List Int} (hn : S.Nodup) (m : Int) : nearL S m = (fnd (bts S m) m).reverse := by
  refine rise_ext (isort_lt (List.Pairwise.filter _ hn)) (fnd_rev _ _) fun x => ?_
  rw [show nearL S m = isort _ from rfl, (isort_perm _).mem_iff, List.mem_reverse, mem_fb, List.mem_filter, Bool.and_eq_true, decide_eq_true_eq, decide_eq_true_eq]
theorem near_rise {S : List Int} (hn : S.Nodup) (m : Int) : (nearL S m).Pairwise (· < ·) := isort_lt (List.Pairwise.filter _ hn)
theorem mem_near {S : List Int} {m x : Int} : x ∈ nearL S m ↔ x ∈ S ∧ m - 16 ≤ x ∧ x < m := by
  unfold nearL
  rw [(isort_perm _).mem_iff, List.mem_filter, Bool.and_eq_true, decide_eq_true_eq, decide_eq_true_eq]
theorem near_len {S : List Int} (hn : S.Nodup) (m : Int) : (nearL S m).length = (bts S m).countP fun b => b == true := by
  rw [near_eq hn, List.length_reverse, fnd_len]
theorem near_le {S : List Int} (m : Int) : (nearL S m).length ≤ S.length := by
  unfold nearL
  rw [(isort_perm _).length_eq]
  exact List.length_filter_le _ _
theorem count_01 (bs : List Bool) : (bs.countP fun b => b == false) + (bs.countP fun b => b == true) = bs.length := by
  induction bs with
  | nil => rfl
  | cons b r ih =>
    rw [List.countP_cons, List.countP_cons, List.length_cons]
    cases b
    · rw [if_pos (by decide), if_neg (by decide)]; omega
    · rw [if_neg (by decide), if_pos (by decide)]; omega
def hrd (bs : List Bool) (m : Int) : List Int := isort (m :: (fnd bs m).filter fun x => decide (x ≥ 0))
theorem hrd_rise (bs : List Bool) (m : Int) : (hrd bs m).Pairwise (· < ·) := by
  refine isort_lt (List.Pairwise.cons (fun x hx => ?_) (List.Pairwise.filter _ ((fnd_fall bs m).imp fun h => by omega)))
  have := fnd_lt (List.mem_filter.mp hx).1
  omega
theorem mem_hrd {bs : List Bool} {m x : Int} : x ∈ hrd bs m ↔ x = m ∨ (x ∈ fnd bs m ∧ 0 ≤ x) := by
  unfold hrd
  rw [(isort_perm _).mem_iff, List.mem_cons, List.mem_filter, decide_eq_true_eq]
theorem hrd_due {S : List Int} (hn : S.Nodup) (m : Int) : hrd (bts S m) m = (nearL S m).filter (fun x => decide (x ≥ 0)) ++ [m] := by
  refine rise_ext (hrd_rise _ _) ?_ fun x => ?_
  · rw [List.pairwise_append]
    refine ⟨List.Pairwise.filter _ (near_rise hn m), List.pairwise_singleton _ _, fun x hx y hy => ?_⟩
    rw [List.mem_singleton.mp hy]
    exact (mem_near.mp (List.mem_filter.mp hx).1).2.2
  · rw [mem_hrd, mem_fb, List.mem_append, List.mem_filter, List.mem_singleton, mem_near, decide_eq_true_eq]
    constructor
    · rintro (h | h)
      · exact .inr h
      · exact .inl h
    · rintro (h | h)
      · exact .inr h
      · exact .inl h
theorem fnd_on : ∀ (bs : List Bool) (m c : Int), fnd bs (m + c) = (fnd bs m).map (· + c)
  | [], _, _ => rfl
  | b :: r, m, c => by
    have ih := fnd_on r (m - 1) c
    rw [show m - 1 + c = m + c - 1 from by omega] at ih
    cases b with
    | true =>
      show (m + c - 1) :: fnd r (m + c - 1) = (m - 1 + c) :: (fnd r (m - 1)).map (· + c)
      rw [ih, show m - 1 + c = m + c - 1 from by omega]
    | false => exact ih
theorem hrd_64 {S : List Int} (hn : S.Nodup) {m : Int} (h : 16 ≤ m) : hrd (bts S m) (m + 64) = (nearL S m ++ [m]).map (· + 64) := by
  refine rise_ext (hrd_rise _ _) ?_ fun x => ?_
  · rw [List.pairwise_map, List.pairwise_append]
    refine ⟨(near_rise hn m).imp fun h => by omega, List.pairwise_singleton _ _, fun x hx y hy => ?_⟩
    rw [List.mem_singleton.mp hy]
    have := (mem_near.mp hx).2.2
    omega
  · rw [mem_hrd, fnd_on, List.mem_map, List.mem_map]
    constructor
    · rintro (rfl | ⟨⟨y, h1, rfl⟩, _⟩)
      · exact ⟨m, by simp, rfl⟩
      · exact ⟨y, List.mem_append.mpr (.inl (mem_near.mpr (mem_fb.mp h1))), rfl⟩
    · rintro ⟨y, h1, rfl⟩
      rcases List.mem_append.mp h1 with h1 | h1
      · have := mem_near.mp h1
        exact .inr ⟨⟨y, mem_fb.mpr this, rfl⟩, by omega⟩
      · rw [List.mem_singleton.mp h1]; exact .inl rfl
theorem hrd_more {S : List Int} (hn : S.Nodup) {m t : Int} (h0 : 0 ≤ t) (h1 : m - 16 ≤ t) (h2 : t < m) (h3 : t ∉ S) : hrd (bts (S ++ [t]) m) m = isort ((nearL S m).filter (fun x => decide (x ≥ 0)) ++ [m] ++ [t]) := by
  refine rise_ext (hrd_rise _ _) (isort_lt ?_) fun x => ?_
  · rw [← hrd_due hn, List.nodup_append]
    refine ⟨rise_nodup (hrd_rise _ _), by simp, fun a ha b hb e => ?_⟩
    rw [List.mem_singleton.mp hb] at e
    subst e
    rcases mem_hrd.mp ha with h | h
    · omega
    · exact h3 (mem_fb.mp h.1).1
  · rw [(isort_perm _).mem_iff, ← hrd_due hn, List.mem_append, mem_hrd, mem_hrd, mem_fb, mem_fb, List.mem_append, List.mem_singleton]
    constructor
    · rintro (h | ⟨⟨h | h, h4⟩, h5⟩)
      · exact .inl (.inl h)
      · exact .inl (.inr ⟨⟨h, h4⟩, h5⟩)
      · exact .inr h
    · rintro ((h | ⟨⟨h, h4⟩, h5⟩) | h)
      · exact .inl h
      · exact .inr ⟨⟨.inl h, h4⟩, h5⟩
      · exact .inr ⟨⟨.inr h, by omega, by omega⟩, by omega⟩
theorem fnd_none : ∀ (n : Nat) (m : Int), fnd (List.replicate n false) m = []
  | 0, _ => rfl
  | n + 1, m => by rw [List.replicate_succ]; exact fnd_none n (m - 1)
theorem foldl_max {m : Int} : ∀ {l : List Int} {a : Int}, (∀ x ∈ l, x ≤ m) → a ≤ m → (a = m ∨ m ∈ l) → l.foldl max a = m
  | [], a, _, _, h => by rcases h with h | h; exact h; exact absurd h List.not_mem_nil
  | x :: r, a, h1, h2, h3 => by
    have hx := h1 x List.mem_cons_self
    refine foldl_max (a := max a x) (fun y hy => h1 y (List.mem_cons_of_mem _ hy)) (by omega) ?_
    rcases h3 with h3 | h3
    · exact .inl (by omega)
    · rcases List.mem_cons.mp h3 with h3 | h3
      · exact .inl (by omega)
      · exact .inr h3
theorem p_maxI {S : List Int} {m : Int} {M : Store} {k : D → Prop} (h1 : ∀ x ∈ S, x ≤ m) (h2 : m ∈ S) (h : k (.int m)) : PW (fn1D .max (dr M (dI S))) k := by
  show PW (((intsOf (S.map .int)).bind maxL).map D.int) k
  rw [intsOf_I]
  cases S with
  | nil => exact absurd h2 List.not_mem_nil
  | cons a r =>
    show k (.int (r.foldl max a))
    rw [foldl_max (fun x hx => h1 x (List.mem_cons_of_mem _ hx)) (h1 a List.mem_cons_self) ((List.mem_cons.mp h2).imp (fun h => h.symm) id)]
    exact h
/-! a dict of ints -/
def kvI (ks : List Int) : List (Key × D) := ks.map fun i => (.inl i, .int 0)
theorem setK_I (ks : List Int) (i : Int) : setK (kvI ks) (.inl i) (.int 0) = kvI (if i ∈ ks then ks else ks ++ [i]) := by
  by_cases h : i ∈ ks
  · rw [if_pos h]
    unfold setK
    rw [if_pos]
    · unfold kvI
      rw [List.map_map]
      refine List.map_congr_left fun x _ => ?_
      show (if (Sum.inl x : Key) = .inl i then (Sum.inl x, D.int 0) else (Sum.inl x, D.int 0)) = _
      split <;> rfl
    · rw [List.any_eq_true]
      exact ⟨_, List.mem_map.mpr ⟨i, h, rfl⟩, by simp⟩
  · rw [if_neg h, setK_new]
    · unfold kvI; simp
    · intro kv hkv e
      obtain ⟨x, hx, rfl⟩ := List.mem_map.mp hkv
      exact h (by rw [← Sum.inl.inj e]; exact hx)
theorem lookK_I (ks : List Int) (i : Int) : (lookK (kvI ks) (.inl i)).isSome = decide (i ∈ ks) := by
  unfold lookK kvI
  rw [Option.isSome_map, List.find?_map, Option.isSome_map]
  rw [Bool.eq_iff_iff, List.find?_isSome, decide_eq_true_eq]
  constructor
  · rintro ⟨x, hx, e⟩
    have : (Sum.inl x : Key) = .inl i := by simpa using e
    rw [← Sum.inl.inj this]; exact hx
  · intro h
    exact ⟨i, h, by simp⟩
theorem f_listKI {M : Store} {ks : List Int} {k : D → Prop} (h : k (.lst (ks.map .int))) : PW (ffD .list (dr M (.dic (kvI ks)))) k := by
  show PW (if ((kvI ks).map (·.1)).all keyFit = true then some (D.lst (((kvI ks).map (·.1)).map dK)) else none) k
  have e : (kvI ks).map (·.1) = ks.map Sum.inl := by unfold kvI; rw [List.map_map]; rfl
  rw [e, if_pos (by rw [List.all_map, List.all_eq_true]; exact fun _ _ => rfl), List.map_map]
  exact h
theorem nin_dicI {M : Store} {ks : List Int} {i : Int} {kb : Bool → Prop} (h : kb (!decide (i ∈ ks))) : PW (cmpD .notin (.int i) (dr M (.dic (kvI ks)))) kb := by
  show kb (!(lookK (kvI ks) (.inl i)).isSome)
  rw [lookK_I]; exact h
end Pv

set_option Elab.async false
set_option linter.all false
set_option maxRecDepth 100000
set_option maxHeartbeats 4000000
namespace Pv
open PySem L2 Wp
/-! ### dictionaries by ids, of anything -/
section
variable {α : Type} (id : α → Int) (enc : α → D)
def kvG (ts : List α) : List (Key × D) := ts.map fun t => (.inl (id t), enc t)
def aG (ts : List α) (n : Int) : Option α := ts.find? fun t => decide (id t = n)
def sG (ts : List α) (t : α) : List α := if (ts.any fun u => decide (id u = id t)) = true then ts.map (fun u => if id u = id t then t else u) else ts ++ [t]
theorem setK_G (ts : List α) (t : α) : setK (kvG id enc ts) (.inl (id t)) (enc t) = kvG id enc (sG id ts t) := by
  unfold setK sG
  have e : (kvG id enc ts).any (fun kv => decide (kv.1 = .inl (id t))) = ts.any fun u => decide (id u = id t) := by
    unfold kvG
    rw [List.any_map]
    congr 1
    funext u
    simp
  rw [e]
  split
  · unfold kvG
    rw [List.map_map, List.map_map]
    refine List.map_congr_left fun u _ => ?_
    show (if (Sum.inl (id u) : Key) = Sum.inl (id t) then ((Sum.inl (id u) : Key), enc t) else (Sum.inl (id u), enc u)) = ((fun t => ((Sum.inl (id t) : Key), enc t)) (if id u = id t then t else u))
    by_cases q : id u = id t
    · rw [if_pos q, if_pos (by rw [q]), q]
    · rw [if_neg q, if_neg (fun z => q (Sum.inl.inj z))]
  · unfold kvG
    rw [List.map_append]; rfl
theorem mem_sG {ts : List α} {t x : α} (h : x ∈ sG id ts t) : x ∈ ts ∨ x = t := by
  unfold sG at h
  split at h
  · obtain ⟨u, hu, rfl⟩ := List.mem_map.mp h
    by_cases q : id u = id t
    · rw [if_pos q]; exact .inr rfl
    · rw [if_neg q]; exact .inl hu
  · rcases List.mem_append.mp h with h | h
    · exact .inl h
    · exact .inr (List.mem_singleton.mp h)
theorem nd_sG {ts : List α} (hn : (ts.map id).Nodup) (t : α) : ((sG id ts t).map id).Nodup := by
  unfold sG
  split
  · rw [List.map_map]
    rw [show (id ∘ fun u => if id u = id t then t else u) = id from by
      funext u
      show id (if id u = id t then t else u) = id u
      by_cases q : id u = id t
      · rw [if_pos q, q]
      · rw [if_neg q]]
    exact hn
  · rename_i h
    rw [List.map_append, List.nodup_append]
    refine ⟨hn, List.pairwise_singleton _ _, ?_⟩
    intro a ha b hb e
    rw [List.map_cons, List.map_nil, List.mem_singleton] at hb
    obtain ⟨u, hu, rfl⟩ := List.mem_map.mp ha
    exact h (List.any_eq_true.mpr ⟨u, hu, by simpa using e.trans hb⟩)
theorem len_sG (ts : List α) (t : α) : (sG id ts t).length ≤ ts.length + 1 := by
  unfold sG
  split
  · rw [List.length_map]; omega
  · rw [List.length_append, List.length_singleton]; omega
theorem lookK_G (ts : List α) (n : Int) : lookK (kvG id enc ts) (.inl n) = (aG id ts n).map enc := by
  unfold lookK kvG aG
  rw [List.find?_map, Option.map_map]
  rw [show ((fun kv : Key × D => decide (kv.1 = Sum.inl n)) ∘ fun t : α => ((Sum.inl (id t) : Key), enc t)) = fun t => decide (id t = n) from by
    funext u
    simp]
  rfl
theorem intKs_G : ∀ ts : List α, intKs (kvG id enc ts) = some (ts.map id)
  | [] => rfl
  | t :: ts => by
    show (intKs (kvG id enc ts)).map (id t :: ·) = _
    rw [intKs_G ts]; rfl
theorem aG_some {ts : List α} {n : Int} {t : α} (h : aG id ts n = some t) : t ∈ ts ∧ id t = n := ⟨List.mem_of_find?_eq_some h, by simpa using List.find?_some h⟩
theorem aG_has {ts : List α} {n : Int} (h : n ∈ ts.map id) : ∃ t, aG id ts n = some t := by
  cases q : aG id ts n with
  | some t => exact ⟨t, rfl⟩
  | none =>
    obtain ⟨t, ht, e⟩ := List.mem_map.mp h
    exact absurd e (by simpa using List.find?_eq_none.mp q t ht)
/-- what is there, by ids in order -/
def byG (ts : List α) : List α := (isort (ts.map id)).filterMap (aG id ts)
theorem byG_up {ts : List α} (hn : (ts.map id).Nodup) : (byG id ts).Pairwise fun a b => id a < id b := by
  unfold byG
  refine List.pairwise_filterMap.mpr ((isort_lt hn).imp fun {i j} q x hx y hy => ?_)
  rw [(aG_some id hx).2, (aG_some id hy).2]; exact q
theorem mem_byG {ts : List α} {t : α} (h : t ∈ byG id ts) : t ∈ ts := by
  obtain ⟨n, _, h⟩ := List.mem_filterMap.mp h
  exact (aG_some id h).1
theorem byG_len (ts : List α) : (byG id ts).length ≤ ts.length := by
  have := List.length_filterMap_le (aG id ts) (isort (ts.map id))
  rw [(isort_perm _).length_eq, List.length_map] at this
  exact this
end
namespace Wp
theorem f_sortG {α : Type} {id : α → Int} {enc : α → D} {M : Store} {s : List α} {k : D → Prop} (hl : s.length < 64) (h : k (.lst ((isort (s.map id)).map .int))) : PW (ffD .sorted (dr M (.dic (kvG id enc s)))) k := by
  show PW (if (kvG id enc s).length < 64 then (intKs (kvG id enc s)).map fun ns => .lst ((isort ns).map .int) else none) k
  rw [if_pos (by unfold kvG; rw [List.length_map]; exact hl), intKs_G]; exact h
end Wp
/-! ### applied by hand: a dict of things -/
theorem bys_ext {a b : List Th} (ha : (a.map (·.id)).Nodup) (hb : Srt b) (h : ∀ x, x ∈ a ↔ x ∈ b) : bys a = b := (srt_bys ha).ext hb fun x => mem_bys.trans (h x)
theorem bys_wo {ts : List Th} (hn : (ts.map (·.id)).Nodup) (i : Int) : bys (wo ts i) = wo (bys ts) i := by
  refine bys_ext (List.Nodup.sublist (List.Sublist.map _ List.filter_sublist) hn) (srt_wo (srt_bys hn) i) fun x => ?_
  rw [mem_wo, mem_wo, mem_bys]
theorem nd_wo0 {ts : List Th} (hn : (ts.map (·.id)).Nodup) (i : Int) : ((wo ts i).map (·.id)).Nodup := List.Nodup.sublist (List.Sublist.map _ List.filter_sublist) hn
theorem bys_set {ts : List Th} (hn : (ts.map (·.id)).Nodup) (t : Th) : bys (setT ts t) = wth (bys ts) t := by
  refine bys_ext (nd_setT hn t) (srt_wth (srt_bys hn) t) fun x => ?_
  rw [mem_setT hn, mem_wth, mem_bys]
theorem ats_bys {ts : List Th} (hn : (ts.map (·.id)).Nodup) (i : Int) : ats (bys ts) i = ats ts i := by
  have key : ∀ t, ats ts i = some t → ats (bys ts) i = some t := by
    intro t h
    have := ats_id h
    exact (ats_some (srt_bys hn)).mpr ⟨mem_bys.mpr this.1, this.2⟩
  cases q : ats ts i with
  | some t => exact key t q
  | none =>
    rw [ats_none] at q ⊢
    exact fun t ht => q t (mem_bys.mp ht)
/-- changes that rise fit just if the last one does -/
theorem chf_last : ∀ {cs : List (Int × Int)} {f : List Int}, cs.Pairwise (fun c d => c.1 < d.1) → (h : cs ≠ []) → (chf f cs = none ↔ (f.length : Int) ≤ (cs.getLast h).1)
  | [], _, _, h => absurd rfl h
  | [c], f, _, _ => by
    rw [chf_cons]
    show _ ↔ _ ≤ c.1
    split
    · simp_all
    · simp_all [chf]
  | c :: d :: r, f, up, _ => by
    have ih := chf_last (cs := d :: r) (f := f.set c.1.toNat c.2) (List.pairwise_cons.mp up).2 (by simp)
    rw [List.length_set] at ih
    rw [chf_cons, List.getLast_cons (by simp)]
    split
    · rename_i h
      refine ⟨fun _ => ?_, fun _ => rfl⟩
      have := (List.pairwise_cons.mp up).1 _ (List.getLast_mem (l := d :: r) (by simp))
      omega
    · exact ih
theorem at_last {α : Type} {l : List α} (h : l ≠ []) : atI l (-1) = some (l.getLast h) := by
  have hl : 0 < l.length := List.length_pos_iff.mpr h
  unfold atI ixN
  rw [if_neg (by omega), if_pos (by omega), List.getLast_eq_getElem]
  show l[((-1 : Int) + l.length).toNat]? = _
  rw [show ((-1 : Int) + l.length).toNat = l.length - 1 from by omega]
  exact List.getElem?_eq_getElem (by omega)
end Pv

set_option Elab.async false
set_option linter.all false
set_option maxRecDepth 100000
set_option maxHeartbeats 4000000
namespace Pv
open PySem L2 Wp
/-! ### rows of unlike ids, one by one -/
def eff (o : Option Th) : Ro → Option (Option Th)
  | .gone _ => some none
  | .new t => some (some t)
  | .chg _ cs => o.bind fun t => (chf t.fs cs).map fun f => some ⟨t.id, t.kd, f⟩
theorem eff_chg (o : Option Th) (i : Int) (cs : List (Int × Int)) : eff o (.chg i cs) = o.bind fun t => (chf t.fs cs).map fun f => some ⟨t.id, t.kd, f⟩ := rfl
theorem apS_none {s : List Th} {r : Ro} : apS s r = none ↔ eff (ats s (Wp.idR r)) r = none := by
  cases r with
  | gone i => exact ⟨fun h => (nomatch h), fun h => (nomatch h)⟩
  | new t => exact ⟨fun h => (nomatch h), fun h => (nomatch h)⟩
  | chg i cs =>
    rw [apS_chg, eff_chg]
    show _ ↔ ((ats s i).bind _) = none
    cases ats s i with
    | none => exact ⟨fun _ => rfl, fun _ => rfl⟩
    | some t =>
      show (chf t.fs cs).map _ = none ↔ (chf t.fs cs).map _ = none
      rw [Option.map_eq_none_iff, Option.map_eq_none_iff]
theorem apS_eff {s g : List Th} (hs : Srt s) {r : Ro} (e : apS s r = some g) : Srt g ∧ ∃ o, eff (ats s (Wp.idR r)) r = some o ∧ ∀ n, ats g n = if n = Wp.idR r then o else ats s n := by
  refine ⟨(apS_srt hs e).1, ?_⟩
  cases r with
  | gone i =>
    obtain rfl : wo s i = g := Option.some.inj e
    exact ⟨none, rfl, fun n => ats_wo hs i n⟩
  | new t =>
    obtain rfl : wth s t = g := Option.some.inj e
    exact ⟨some t, rfl, fun n => ats_wth2 hs t n⟩
  | chg i cs =>
    rw [apS_chg] at e
    rw [eff_chg]
    show ∃ o, ((ats s i).bind _) = some o ∧ _
    cases q : ats s i with
    | none => rw [q] at e; cases e
    | some t =>
      rw [q] at e
      have e : (chf t.fs cs).map (fun f => wth s ⟨t.id, t.kd, f⟩) = some g := e
      cases q2 : chf t.fs cs with
      | none => rw [q2] at e; cases e
      | some f =>
        rw [q2] at e
        obtain rfl : wth s ⟨t.id, t.kd, f⟩ = g := Option.some.inj e
        refine ⟨some ⟨t.id, t.kd, f⟩, by show (chf t.fs cs).map _ = _; rw [q2]; rfl, fun n => ?_⟩
        rw [ats_wth2 hs, show (⟨t.id, t.kd, f⟩ : Th).id = i from (ats_id q).2]; rfl
def rFind (rs : List Ro) (n : Int) : Option Ro := rs.find? fun r => decide (Wp.idR r = n)
theorem rFind_cons (r : Ro) (rs : List Ro) (n : Int) : rFind (r :: rs) n = if Wp.idR r = n then some r else rFind rs n := by
  unfold rFind
  rw [List.find?_cons]
  by_cases h : Wp.idR r = n <;> simp [h]
theorem rFind_mem {rs : List Ro} (hn : (rs.map Wp.idR).Nodup) {r : Ro} (h : r ∈ rs) : rFind rs (Wp.idR r) = some r := by
  induction rs with
  | nil => exact absurd h List.not_mem_nil
  | cons q rs ih =>
    rw [rFind_cons]
    rw [List.map_cons, List.nodup_cons] at hn
    rcases List.mem_cons.mp h with rfl | h
    · rw [if_pos rfl]
    · rw [if_neg (fun e : Wp.idR q = Wp.idR r => hn.1 (e ▸ List.mem_map.mpr ⟨r, h, rfl⟩)), ih hn.2 h]
theorem rFind_none {rs : List Ro} {n : Int} : rFind rs n = none ↔ n ∉ rs.map Wp.idR := by
  unfold rFind
  rw [List.find?_eq_none]
  simp
theorem rFind_some {rs : List Ro} {n : Int} {r : Ro} (h : rFind rs n = some r) : r ∈ rs ∧ Wp.idR r = n := ⟨List.mem_of_find?_eq_some h, by simpa using List.find?_some h⟩
def after (s : List Th) (rs : List Ro) (n : Int) : Option Th := match rFind rs n with
  | some r => (eff (ats s n) r).getD none
  | none => ats s n
theorem apl_cons (s : List Th) (r : Ro) (rs : List Ro) : apl s (r :: rs) = (apS s r).bind fun s => apl s rs := rfl
theorem apl_app (s : List Th) (a b : List Ro) : apl s (a ++ b) = (apl s a).bind fun g => apl g b := by
  induction a generalizing s with
  | nil => rfl
  | cons r a ih =>
    rw [List.cons_append, apl_cons, apl_cons]
    cases apS s r with
    | none => rfl
    | some g => exact ih g
theorem all_eq {α : Type} {p q : α → Bool} : ∀ {l : List α}, (∀ x ∈ l, p x = q x) → l.all p = l.all q
  | [], _ => rfl
  | a :: l, h => by rw [List.all_cons, List.all_cons, h a List.mem_cons_self, all_eq fun x hx => h x (List.mem_cons_of_mem _ hx)]
theorem apl_is : ∀ {rs : List Ro} {s : List Th}, Srt s → (rs.map Wp.idR).Nodup → (apl s rs).isSome = rs.all fun r => (eff (ats s (Wp.idR r)) r).isSome
  | [], _, _, _ => rfl
  | r :: rs, s, hs, hn => by
    rw [List.map_cons, List.nodup_cons] at hn
    rw [apl_cons, List.all_cons]
    cases q : apS s r with
    | none =>
      rw [apS_none.mp q]; rfl
    | some g =>
      obtain ⟨hg, o, h1, h2⟩ := apS_eff hs q
      show (apl g rs).isSome = _
      rw [apl_is hg hn.2, h1]
      show _ = (true && _)
      rw [Bool.true_and]
      refine all_eq fun x hx => ?_
      rw [h2, if_neg (fun e : Wp.idR x = Wp.idR r => hn.1 (e ▸ List.mem_map.mpr ⟨x, hx, rfl⟩))]
theorem apl_at : ∀ {rs : List Ro} {s g : List Th}, Srt s → (rs.map Wp.idR).Nodup → apl s rs = some g → Srt g ∧ ∀ n, ats g n = after s rs n
  | [], s, g, hs, _, e => by
    obtain rfl : s = g := Option.some.inj e
    exact ⟨hs, fun n => rfl⟩
  | r :: rs, s, g, hs, hn, e => by
    rw [List.map_cons, List.nodup_cons] at hn
    rw [apl_cons] at e
    cases q : apS s r with
    | none => rw [q] at e; cases e
    | some u =>
      rw [q] at e
      obtain ⟨hu, o, h1, h2⟩ := apS_eff hs q
      obtain ⟨hg, h3⟩ := apl_at hu hn.2 e
      refine ⟨hg, fun n => ?_⟩
      rw [h3]
      unfold after
      rw [rFind_cons]
      by_cases hr : Wp.idR r = n
      · subst hr
        rw [if_pos rfl, rFind_none.mpr hn.1, h2, if_pos rfl]
        dsimp only
        rw [h1]; rfl
      · rw [if_neg hr, h2, if_neg fun e => hr e.symm]
/-- by hand: the changed fields -/
theorem chf_get : ∀ {cs : List (Int × Int)} {f g : List Int}, (∀ c ∈ cs, 0 ≤ c.1) → cs.Pairwise (fun c d => c.1 < d.1) → chf f cs = some g → ∀ i : Nat, g[i]? = (f[i]?).map fun x => ((cs.find? fun c => decide (c.1 = (i : Int))).map (·.2)).getD x
  | [], f, g, _, _, e, i => by
    obtain rfl : f = g := Option.some.inj e
    simp
  | c :: cs, f, g, h0, up, e, i => by
    rw [chf_cons] at e
    rw [List.pairwise_cons] at up
    split at e
    · cases e
    rename_i hlt
    have c0 := h0 c List.mem_cons_self
    rw [chf_get (fun d hd => h0 d (List.mem_cons_of_mem _ hd)) up.2 e i, List.find?_cons, List.getElem?_set]
    by_cases hi : c.1.toNat = i
    · have hci : c.1 = (i : Int) := by omega
      have hnf : cs.find? (fun d => decide (d.1 = (i : Int))) = none := by
        rw [List.find?_eq_none]
        intro d hd
        have := up.1 d hd
        simp; omega
      rw [if_pos hi, hnf, decide_eq_true hci]
      have : i < f.length := by omega
      rw [if_pos (by omega), List.getElem?_eq_getElem this]; rfl
    · rw [if_neg hi, decide_eq_false (by omega)]
end Pv

set_option Elab.async false
set_option linter.all false
set_option maxRecDepth 100000
set_option maxHeartbeats 4000000
namespace Pv
open PySem L2 Wp
/-! ### rows together -/
theorem ext_G {α : Type} {id : α → Int} : ∀ {a b : List α}, a.Pairwise (fun x y => id x < id y) → b.Pairwise (fun x y => id x < id y) → (∀ x, x ∈ a ↔ x ∈ b) → a = b
  | [], [], _, _, _ => rfl
  | [], y :: b, _, _, h => absurd ((h y).mpr List.mem_cons_self) List.not_mem_nil
  | x :: a, [], _, _, h => absurd ((h x).mp List.mem_cons_self) List.not_mem_nil
  | x :: a, y :: b, ha, hb, h => by
    have ha' := List.pairwise_cons.mp ha
    have hb' := List.pairwise_cons.mp hb
    have e : x = y := by
      rcases List.mem_cons.mp ((h x).mp List.mem_cons_self) with e | e
      · exact e
      rcases List.mem_cons.mp ((h y).mpr List.mem_cons_self) with e2 | e2
      · exact e2.symm
      have := ha'.1 y e2
      have := hb'.1 x e
      omega
    subst e
    rw [ext_G ha'.2 hb'.2 fun z => ⟨fun hz => ?_, fun hz => ?_⟩]
    · rcases List.mem_cons.mp ((h z).mp (List.mem_cons_of_mem _ hz)) with e | e
      · subst e
        have := ha'.1 z hz
        omega
      · exact e
    · rcases List.mem_cons.mp ((h z).mpr (List.mem_cons_of_mem _ hz)) with e | e
      · subst e
        have := hb'.1 z hz
        omega
      · exact e
section
variable {α : Type} {id : α → Int}
theorem up_nd {a : List α} (h : a.Pairwise fun x y => id x < id y) : (a.map id).Nodup := List.pairwise_map.mpr (h.imp fun h e => by omega)
theorem aG_nd {ts : List α} (hn : (ts.map id).Nodup) {t : α} (h : t ∈ ts) : aG id ts (id t) = some t := by
  induction ts with
  | nil => exact absurd h List.not_mem_nil
  | cons q ts ih =>
    rw [List.map_cons, List.nodup_cons] at hn
    unfold aG
    rw [List.find?_cons]
    rcases List.mem_cons.mp h with rfl | h
    · rw [decide_eq_true rfl]
    · rw [decide_eq_false (fun e : id q = id t => hn.1 (e ▸ List.mem_map.mpr ⟨t, h, rfl⟩))]
      exact ih hn.2 h
theorem aG_iff {ts : List α} (hn : (ts.map id).Nodup) {t : α} {n : Int} : aG id ts n = some t ↔ t ∈ ts ∧ id t = n := by
  constructor
  · exact aG_some id
  · rintro ⟨h, rfl⟩; exact aG_nd hn h
theorem aG_none {ts : List α} {n : Int} : aG id ts n = none ↔ n ∉ ts.map id := by
  unfold aG
  rw [List.find?_eq_none]
  simp
theorem ext_A {a b : List α} (ha : a.Pairwise fun x y => id x < id y) (hb : b.Pairwise fun x y => id x < id y) (h : ∀ n, aG id a n = aG id b n) : a = b := by
  refine ext_G ha hb fun x => ⟨fun hx => ?_, fun hx => ?_⟩
  · have := aG_nd (up_nd ha) hx
    rw [h] at this
    exact (aG_some id this).1
  · have := aG_nd (up_nd hb) hx
    rw [← h] at this
    exact (aG_some id this).1
theorem aG_sG {ts : List α} (hn : (ts.map id).Nodup) (t : α) (n : Int) : aG id (sG id ts t) n = if n = id t then some t else aG id ts n := by
  have hs := nd_sG id hn t
  have mem : ∀ x, x ∈ sG id ts t ↔ (x ∈ ts ∧ id x ≠ id t) ∨ x = t := by
    intro x
    unfold sG
    split
    · rename_i h
      rw [List.mem_map]
      constructor
      · rintro ⟨u, hu, rfl⟩
        by_cases q : id u = id t
        · rw [if_pos q]; exact .inr rfl
        · rw [if_neg q]; exact .inl ⟨hu, q⟩
      · rintro (⟨h1, h2⟩ | rfl)
        · exact ⟨x, h1, if_neg h2⟩
        · obtain ⟨u, hu, q⟩ := List.any_eq_true.mp h
          exact ⟨u, hu, if_pos (by simpa using q)⟩
    · rename_i h
      rw [List.mem_append, List.mem_singleton]
      refine ⟨fun z => z.elim (fun q => .inl ⟨q, fun e => h (List.any_eq_true.mpr ⟨x, q, by simpa using e⟩)⟩) .inr, fun z => z.elim (fun q => .inl q.1) .inr⟩
  by_cases h : n = id t
  · rw [if_pos h, aG_iff hs]
    exact ⟨(mem t).mpr (.inr rfl), h.symm⟩
  · rw [if_neg h]
    cases q : aG id ts n with
    | none =>
      rw [aG_none] at q ⊢
      intro hm
      obtain ⟨x, hx, rfl⟩ := List.mem_map.mp hm
      rcases (mem x).mp hx with ⟨h1, _⟩ | rfl
      · exact q (List.mem_map.mpr ⟨x, h1, rfl⟩)
      · exact h rfl
    | some u =>
      rw [aG_iff hs]
      obtain ⟨h1, h2⟩ := aG_some id q
      exact ⟨(mem u).mpr (.inl ⟨h1, by rw [h2]; exact h⟩), h2⟩
theorem aG_byG {ts : List α} (hn : (ts.map id).Nodup) (n : Int) : aG id (byG id ts) n = aG id ts n := by
  cases q : aG id ts n with
  | none =>
    rw [aG_none] at q ⊢
    intro hm
    obtain ⟨x, hx, rfl⟩ := List.mem_map.mp hm
    exact q (List.mem_map.mpr ⟨x, mem_byG id hx, rfl⟩)
  | some u =>
    obtain ⟨h1, h2⟩ := aG_some id q
    rw [aG_iff (up_nd (byG_up id hn))]
    refine ⟨List.mem_filterMap.mpr ⟨n, ?_, q⟩, h2⟩
    rw [(isort_perm _).mem_iff, ← h2]
    exact List.mem_map.mpr ⟨u, h1, rfl⟩
theorem byG_id {ts : List α} (h : ts.Pairwise fun x y => id x < id y) : byG id ts = ts := ext_A (byG_up id (up_nd h)) h fun n => aG_byG (up_nd h) n
end
/-! changes, one behind the other -/
def pD (cs : List (Int × Int)) : List (Int × Int) := cs.foldl (sG (·.1)) []
def mg (a b : List (Int × Int)) : List (Int × Int) := byG (·.1) (pD (a ++ b))
def fC (cs : List (Int × Int)) (i : Int) : Option Int := (aG (·.1) cs i).map (·.2)
theorem foldl_sG : ∀ {cs : List (Int × Int)} {acc : List (Int × Int)}, (acc.map (·.1)).Nodup → ((cs.foldl (sG (·.1)) acc).map (·.1)).Nodup ∧ ∀ n, aG (·.1) (cs.foldl (sG (·.1)) acc) n = (aG (·.1) cs.reverse n).or (aG (·.1) acc n)
  | [], acc, h => ⟨h, fun n => rfl⟩
  | c :: cs, acc, h => by
    obtain ⟨h1, h2⟩ := foldl_sG (acc := sG (·.1) acc c) (cs := cs) (nd_sG _ h c)
    refine ⟨h1, fun n => ?_⟩
    rw [List.foldl_cons, h2, aG_sG h]
    unfold aG
    rw [List.reverse_cons, List.find?_append, List.find?_cons, List.find?_nil]
    by_cases e : n = c.1
    · rw [if_pos e, decide_eq_true e.symm]
      cases List.find? (fun t => decide (t.1 = n)) cs.reverse <;> rfl
    · rw [if_neg e, decide_eq_false fun z => e z.symm]
      cases List.find? (fun t => decide (t.1 = n)) cs.reverse <;> rfl
theorem aG_rev {cs : List (Int × Int)} (h : (cs.map (·.1)).Nodup) (n : Int) : aG (·.1) cs.reverse n = aG (·.1) cs n := by
  have hr : (cs.reverse.map (·.1)).Nodup := by rw [List.map_reverse]; exact List.pairwise_reverse.mpr (h.imp fun h e => h e.symm)
  cases q : aG (·.1) cs n with
  | none =>
    rw [aG_none] at q ⊢
    rw [List.map_reverse, List.mem_reverse]; exact q
  | some u =>
    obtain ⟨h1, h2⟩ := aG_some _ q
    rw [aG_iff hr]
    exact ⟨List.mem_reverse.mpr h1, h2⟩
theorem mg_up (a b : List (Int × Int)) : (mg a b).Pairwise fun c d => c.1 < d.1 := byG_up _ (foldl_sG (cs := a ++ b) (acc := []) List.Pairwise.nil).1
theorem aG_mg {a b : List (Int × Int)} (ha : a.Pairwise fun c d => c.1 < d.1) (hb : b.Pairwise fun c d => c.1 < d.1) (n : Int) : aG (·.1) (mg a b) n = (aG (·.1) b n).or (aG (·.1) a n) := by
  have h := foldl_sG (cs := a ++ b) (acc := []) List.Pairwise.nil
  unfold mg
  rw [aG_byG (ts := pD (a ++ b)) h.1]
  show aG (·.1) ((a ++ b).foldl (sG (·.1)) []) n = _
  rw [h.2, List.reverse_append]
  show (aG (·.1) (b.reverse ++ a.reverse) n).or none = _
  rw [Option.or_none]
  unfold aG
  rw [List.find?_append]
  have e1 := aG_rev (up_nd (id := fun c : Int × Int => c.1) ha) n
  have e2 := aG_rev (up_nd (id := fun c : Int × Int => c.1) hb) n
  unfold aG at e1 e2
  rw [e1, e2]
theorem mem_mg {a b : List (Int × Int)} {c : Int × Int} (h : c ∈ mg a b) : c ∈ a ∨ c ∈ b := by
  have h1 := mem_byG _ h
  have key : ∀ (cs acc : List (Int × Int)), c ∈ cs.foldl (sG (·.1)) acc → c ∈ acc ∨ c ∈ cs := by
    intro cs
    induction cs with
    | nil => exact fun acc h => .inl h
    | cons d cs ih =>
      intro acc h
      rcases ih _ h with h | h
      · rcases mem_sG _ h with h | rfl
        · exact .inl h
        · exact .inr List.mem_cons_self
      · exact .inr (List.mem_cons_of_mem _ h)
  rcases key _ _ h1 with h | h
  · exact absurd h List.not_mem_nil
  · exact List.mem_append.mp h
theorem mg_ok {a b : List (Int × Int)} (ha : CsOk a) (hb : CsOk b) : CsOk (mg a b) := by
  refine ⟨fun e => ?_, fun c hc => ?_, mg_up a b⟩
  · cases q : b with
    | nil => exact hb.ne q
    | cons d r =>
      have h1 : d ∈ b := by rw [q]; exact List.mem_cons_self
      have h2 := aG_mg ha.up hb.up d.1
      rw [e, aG_nd (up_nd (id := fun c : Int × Int => c.1) hb.up) h1] at h2
      cases h2
  · rcases mem_mg hc with h | h
    · exact ha.b c h
    · exact hb.b c h
theorem mg_assoc {a b c : List (Int × Int)} (ha : a.Pairwise fun c d => c.1 < d.1) (hb : b.Pairwise fun c d => c.1 < d.1) (hc : c.Pairwise fun c d => c.1 < d.1) : mg (mg a b) c = mg a (mg b c) := by
  refine ext_A (id := (·.1)) (mg_up _ _) (mg_up _ _) fun n => ?_
  rw [aG_mg (mg_up a b) hc, aG_mg ha hb, aG_mg ha (mg_up b c), aG_mg hb hc]
  cases aG (·.1) c n <;> rfl
theorem mg_self {a : List (Int × Int)} (ha : a.Pairwise fun c d => c.1 < d.1) : mg a a = a := by
  refine ext_A (id := (·.1)) (mg_up _ _) ha fun n => ?_
  rw [aG_mg ha ha]
  cases aG (·.1) a n <;> rfl
theorem chf_iff : ∀ {cs : List (Int × Int)} {f : List Int}, (chf f cs).isSome = true ↔ ∀ c ∈ cs, c.1 < f.length
  | [], f => ⟨fun _ c h => absurd h List.not_mem_nil, fun _ => rfl⟩
  | c :: cs, f => by
    rw [chf_cons]
    split
    · rename_i h
      refine ⟨fun h => (by cases h), fun h2 => ?_⟩
      have := h2 c List.mem_cons_self
      omega
    · rename_i h
      rw [chf_iff (cs := cs), List.length_set]
      refine ⟨fun h2 d hd => ?_, fun h2 d hd => h2 d (List.mem_cons_of_mem _ hd)⟩
      rcases List.mem_cons.mp hd with rfl | hd
      · omega
      · exact h2 d hd
theorem chf_mg {a b : List (Int × Int)} (ha : CsOk a) (hb : CsOk b) {f g : List Int} (e : chf f a = some g) : chf f (mg a b) = chf g b := by
  have hl := chf_len e
  have h1 := (chf_iff (cs := a) (f := f)).mp (by rw [e]; rfl)
  cases q : chf g b with
  | none =>
    cases q2 : chf f (mg a b) with
    | none => rfl
    | some u =>
      exfalso
      have h2 := (chf_iff (cs := mg a b) (f := f)).mp (by rw [q2]; rfl)
      have h3 : (chf g b).isSome = true := chf_iff.mpr fun c hc => by
        have h4 := aG_mg ha.up hb.up c.1
        rw [aG_nd (up_nd (id := fun c : Int × Int => c.1) hb.up) hc] at h4
        have h5 := h2 _ (aG_some _ h4).1
        rw [hl]; exact h5
      rw [q] at h3; cases h3
  | some u =>
    have h2 := (chf_iff (cs := b) (f := g)).mp (by rw [q]; rfl)
    have h3 : (chf f (mg a b)).isSome = true := chf_iff.mpr fun c hc => by
      rcases mem_mg hc with h | h
      · exact h1 c h
      · have := h2 c h; rw [hl] at this; exact this
    obtain ⟨v, hv⟩ := Option.isSome_iff_exists.mp h3
    rw [hv]
    congr 1
    refine List.ext_getElem? fun i => ?_
    rw [chf_get (fun c hc => ((mg_ok ha hb).b c hc).1) (mg_up a b) hv, chf_get (fun c hc => (hb.b c hc).1) hb.up q, chf_get (fun c hc => (ha.b c hc).1) ha.up e]
    have h4 := aG_mg ha.up hb.up (i : Int)
    unfold aG at h4
    rw [h4]
    cases f[i]? with
    | none => rfl
    | some x =>
      cases List.find? (fun t => decide (t.1 = (i : Int))) b <;> rfl
/-! two rows of one thing -/
def tr : Ro → Ro → Option Ro
  | _, .gone i => some (.gone i)
  | _, .new t => some (.new t)
  | .gone _, .chg _ _ => none
  | .new t, .chg _ cs => (chf t.fs cs).map fun f => .new ⟨t.id, t.kd, f⟩
  | .chg i c1, .chg _ c2 => some (.chg i (mg c1 c2))
theorem tr_new (t : Th) (i : Int) (cs : List (Int × Int)) : tr (.new t) (.chg i cs) = (chf t.fs cs).map fun f => .new ⟨t.id, t.kd, f⟩ := rfl
theorem tr_id {q r x : Ro} (h : tr q r = some x) (e : Wp.idR q = Wp.idR r) : Wp.idR x = Wp.idR r := by
  cases r with
  | gone i => cases q <;> (cases h; rfl)
  | new t => cases q <;> (cases h; rfl)
  | chg i cs =>
    cases q with
    | gone j => cases h
    | new t =>
      rw [tr_new] at h
      cases q2 : chf t.fs cs with
      | none => rw [q2] at h; cases h
      | some f => rw [q2] at h; cases h; exact e
    | chg j c1 => cases h; exact e
/-- it leads where both lead -/
theorem tr_eff {ks : List Int} {q r : Ro} {o m p : Option Th} (hq : RoG ks q) (hr : RoG ks r) (h1 : eff o q = some m) (h2 : eff m r = some p) : ∃ x, tr q r = some x ∧ eff o x = some p ∧ RoG ks x := by
  cases r with
  | gone i => exact ⟨.gone i, by cases q <;> rfl, h2, hr⟩
  | new t => exact ⟨.new t, by cases q <;> rfl, h2, hr⟩
  | chg i cs =>
    cases q with
    | gone j => cases h1; cases h2
    | new t =>
      cases h1
      rw [eff_chg] at h2
      have h2 : (chf t.fs cs).map (fun f => some (⟨t.id, t.kd, f⟩ : Th)) = some p := h2
      rw [tr_new]
      cases q2 : chf t.fs cs with
      | none => rw [q2] at h2; cases h2
      | some f =>
        rw [q2] at h2
        cases h2
        refine ⟨_, rfl, rfl, ?_⟩
        have ht : ThOk ks t := hq
        refine ⟨ht.i0, ht.i1, ht.k0, ht.k1, by rw [chf_len q2]; exact ht.fl, fun v hv => ?_⟩
        obtain ⟨n, hn⟩ := List.getElem?_of_mem hv
        rw [chf_get (fun c hc => (hr.2.2.b c hc).1) hr.2.2.up q2] at hn
        cases q3 : t.fs[n]? with
        | none => rw [q3] at hn; cases hn
        | some y =>
          rw [q3] at hn
          have hn : ((cs.find? fun c => decide (c.1 = (n : Int))).map (·.2)).getD y = v := Option.some.inj hn
          cases q4 : cs.find? fun c => decide (c.1 = (n : Int)) with
          | none => rw [q4] at hn; rw [← hn]; exact ht.fb y (List.mem_of_getElem? q3)
          | some c => rw [q4] at hn; rw [← hn]; have := hr.2.2.b c (List.mem_of_find?_eq_some q4); exact ⟨this.2.2.1, this.2.2.2⟩
    | chg j c1 =>
      refine ⟨.chg j (mg c1 cs), rfl, ?_, hq.1, hq.2.1, mg_ok hq.2.2 hr.2.2⟩
      rw [eff_chg] at h1 h2 ⊢
      cases o with
      | none => cases h1
      | some t =>
        have h1 : (chf t.fs c1).map (fun f => some (⟨t.id, t.kd, f⟩ : Th)) = some m := h1
        cases q2 : chf t.fs c1 with
        | none => rw [q2] at h1; cases h1
        | some f =>
          rw [q2] at h1
          cases h1
          show (chf t.fs (mg c1 cs)).map (fun f => some (⟨t.id, t.kd, f⟩ : Th)) = some p
          rw [chf_mg hq.2.2 hr.2.2 q2]
          exact h2
theorem tr_assoc {ks : List Int} {a b c x y : Ro} (ha : RoG ks a) (hb : RoG ks b) (hc : RoG ks c) (h1 : tr a b = some x) (h2 : tr b c = some y) : tr x c = tr a y := by
  cases c with
  | gone i => cases b <;> (cases h2; cases x <;> cases a <;> rfl)
  | new t => cases b <;> (cases h2; cases x <;> cases a <;> rfl)
  | chg i cs =>
    cases b with
    | gone j => cases h2
    | new t =>
      have e : x = .new t := by cases a <;> (cases h1; rfl)
      subst e
      rw [h2]
      rw [tr_new] at h2
      cases q2 : chf t.fs cs with
      | none => rw [q2] at h2; cases h2
      | some f => rw [q2] at h2; cases h2; cases a <;> rfl
    | chg j cb =>
      cases h2
      cases a with
      | gone j => cases h1
      | new t =>
        rw [tr_new] at h1
        cases q2 : chf t.fs cb with
        | none => rw [q2] at h1; cases h1
        | some f =>
          rw [q2] at h1
          cases h1
          show (chf f cs).map _ = (chf t.fs (mg cb cs)).map _
          rw [chf_mg hb.2.2 hc.2.2 q2]
      | chg k ca =>
        cases h1
        show some (Ro.chg k (mg (mg ca cb) cs)) = some (Ro.chg k (mg ca (mg cb cs)))
        rw [mg_assoc ha.2.2.up hb.2.2.up hc.2.2.up]
end Pv

set_option Elab.async false
set_option linter.all false
set_option maxRecDepth 100000
set_option maxHeartbeats 4000000
namespace Pv
open PySem L2 Wp
def tgo : List Ro → List Ro → Option (List Ro)
  | acc, [] => some acc
  | acc, r :: rs => match rFind acc (Wp.idR r) with
    | none => tgo (sG Wp.idR acc r) rs
    | some q => (tr q r).bind fun x => tgo (sG Wp.idR acc x) rs
theorem tgo_new {acc : List Ro} {r : Ro} {rs : List Ro} (h : rFind acc (Wp.idR r) = none) : tgo acc (r :: rs) = tgo (sG Wp.idR acc r) rs := by
  rw [tgo, h]
theorem tgo_old {acc : List Ro} {r q : Ro} {rs : List Ro} (h : rFind acc (Wp.idR r) = some q) : tgo acc (r :: rs) = (tr q r).bind fun x => tgo (sG Wp.idR acc x) rs := by
  rw [tgo, h]
def tog (a b : List Ro) : Option (List Ro) := (tgo [] (a ++ b)).map (byG Wp.idR)
def cmb (x y : Option Ro) : Option Ro := match y with
  | none => x
  | some r => match x with
    | none => some r
    | some q => tr q r
theorem tgo_app : ∀ (a b acc : List Ro), tgo acc (a ++ b) = (tgo acc a).bind fun g => tgo g b
  | [], b, acc => rfl
  | r :: a, b, acc => by
    rw [List.cons_append]
    cases q : rFind acc (Wp.idR r) with
    | none => rw [tgo_new q, tgo_new q]; exact tgo_app a b _
    | some x =>
      rw [tgo_old q, tgo_old q]
      cases tr x r with
      | none => rfl
      | some y => exact tgo_app a b _
theorem tgo_all : ∀ (a acc : List Ro), ((acc ++ a).map Wp.idR).Nodup → tgo acc a = some (acc ++ a)
  | [], acc, _ => by rw [List.append_nil]; rfl
  | r :: a, acc, h => by
    have h0 : rFind acc (Wp.idR r) = none := by
      refine rFind_none.mpr fun hm => ?_
      rw [List.map_append, List.nodup_append] at h
      exact h.2.2 _ hm _ (List.mem_map.mpr ⟨r, List.mem_cons_self, rfl⟩) rfl
    have h1 : sG Wp.idR acc r = acc ++ [r] := by
      unfold sG
      rw [if_neg]
      intro hm
      obtain ⟨u, hu, e⟩ := List.any_eq_true.mp hm
      exact rFind_none.mp h0 (by rw [← of_decide_eq_true e]; exact List.mem_map.mpr ⟨u, hu, rfl⟩)
    rw [tgo_new h0, h1, tgo_all a (acc ++ [r]) (by rw [List.append_assoc]; exact h), List.append_assoc]; rfl
theorem tgo_ok : ∀ {b acc : List Ro}, (acc.map Wp.idR).Nodup → (b.map Wp.idR).Nodup → (∀ r ∈ b, ∀ q, rFind acc (Wp.idR r) = some q → (tr q r).isSome = true) → ∃ g, tgo acc b = some g ∧ (g.map Wp.idR).Nodup ∧ ∀ n, rFind g n = cmb (rFind acc n) (rFind b n)
  | [], acc, ha, _, _ => ⟨acc, rfl, ha, fun n => rfl⟩
  | r :: b, acc, ha, hb, hf => by
    rw [List.map_cons, List.nodup_cons] at hb
    have go : ∀ x : Ro, Wp.idR x = Wp.idR r → cmb (rFind acc (Wp.idR r)) (some r) = some x → ∃ g, tgo (sG Wp.idR acc x) b = some g ∧ (g.map Wp.idR).Nodup ∧ ∀ n, rFind g n = cmb (rFind acc n) (rFind (r :: b) n) := by
      intro x hx hc
      obtain ⟨g, h1, h2, h3⟩ := tgo_ok (acc := sG Wp.idR acc x) (b := b) (nd_sG _ ha x) hb.2 fun r' hr' q hq => by
        have e := aG_sG (id := Wp.idR) ha x (Wp.idR r')
        rw [if_neg (fun z : Wp.idR r' = Wp.idR x => hb.1 (by rw [← hx, ← z]; exact List.mem_map.mpr ⟨r', hr', rfl⟩))] at e
        have e : rFind (sG Wp.idR acc x) (Wp.idR r') = rFind acc (Wp.idR r') := e
        rw [e] at hq
        exact hf r' (List.mem_cons_of_mem _ hr') q hq
      refine ⟨g, h1, h2, fun n => ?_⟩
      rw [h3, rFind_cons]
      have e : rFind (sG Wp.idR acc x) n = if n = Wp.idR x then some x else rFind acc n := aG_sG (id := Wp.idR) ha x n
      rw [e]
      by_cases hn : Wp.idR r = n
      · subst hn
        rw [if_pos rfl, if_pos hx.symm, rFind_none.mpr hb.1]
        exact hc.symm
      · rw [if_neg hn, if_neg (fun z : n = Wp.idR x => hn (by rw [z, hx]))]
    cases q : rFind acc (Wp.idR r) with
    | none =>
      rw [tgo_new q]
      exact go r rfl (by rw [q]; rfl)
    | some u =>
      obtain ⟨x, hx⟩ := Option.isSome_iff_exists.mp (hf r List.mem_cons_self u q)
      rw [tgo_old q, hx]
      exact go x (tr_id hx (rFind_some q).2) (by rw [q]; exact hx)
def Up (a : List Ro) : Prop := a.Pairwise fun r q => Wp.idR r < Wp.idR q
theorem tog_ok {a b : List Ro} (ha : Up a) (hb : Up b) (hf : ∀ r ∈ b, ∀ q, rFind a (Wp.idR r) = some q → (tr q r).isSome = true) : ∃ g, tog a b = some g ∧ Up g ∧ ∀ n, rFind g n = cmb (rFind a n) (rFind b n) := by
  obtain ⟨g, h1, h2, h3⟩ := tgo_ok (up_nd ha) (up_nd hb) hf
  refine ⟨byG Wp.idR g, ?_, byG_up _ h2, fun n => ?_⟩
  · unfold tog
    rw [tgo_app, tgo_all a [] (up_nd ha)]
    show (tgo a b).map _ = _
    rw [h1]; rfl
  · rw [← h3]; exact aG_byG h2 n
theorem tog_nil {a : List Ro} (ha : Up a) : tog [] a = some a ∧ tog a [] = some a := by
  constructor
  · unfold tog
    rw [List.nil_append, tgo_all a [] (up_nd ha)]
    exact congrArg some (byG_id ha)
  · unfold tog
    rw [List.append_nil, tgo_all a [] (up_nd ha)]
    exact congrArg some (byG_id ha)
structure Lead (ks : List Int) (s : List Th) (A : List Ro) (t : List Th) : Prop where
  ss : Srt s
  st : Srt t
  up : Up A
  ok : ∀ r ∈ A, RoG ks r
  on : ∀ n r, rFind A n = some r → eff (ats s n) r = some (ats t n)
  off : ∀ n, rFind A n = none → ats s n = ats t n
theorem Lead.of {ks : List Int} {s t : List Th} {A : List Ro} (hs : Srt s) (up : Up A) (ok : ∀ r ∈ A, RoG ks r) (e : apl s A = some t) : Lead ks s A t := by
  obtain ⟨h1, h2⟩ := apl_at hs (up_nd up) e
  have h3 := apl_is hs (up_nd up)
  rw [e] at h3
  have h4 := List.all_eq_true.mp h3.symm
  refine ⟨hs, h1, up, ok, fun n r hr => ?_, fun n hn => ?_⟩
  · have h5 := rFind_some hr
    have h6 := h4 r h5.1
    rw [h5.2] at h6
    obtain ⟨o, ho⟩ := Option.isSome_iff_exists.mp h6
    rw [h2]
    unfold after
    rw [hr]
    show _ = some ((eff (ats s n) r).getD none)
    rw [ho]; rfl
  · rw [h2]; unfold after; rw [hn]
theorem Lead.apl {ks : List Int} {s t : List Th} {A : List Ro} (h : Lead ks s A t) : apl s A = some t := by
  have h3 := apl_is h.ss (up_nd h.up)
  have h4 : (A.all fun r => (eff (ats s (Wp.idR r)) r).isSome) = true := List.all_eq_true.mpr fun r hr => by
    rw [h.on _ r (rFind_mem (up_nd h.up) hr)]; rfl
  rw [h4] at h3
  obtain ⟨g, hg⟩ := Option.isSome_iff_exists.mp h3
  obtain ⟨h5, h6⟩ := apl_at h.ss (up_nd h.up) hg
  rw [hg]
  congr 1
  refine ext_ats h5 h.st fun n => ?_
  rw [h6]
  unfold after
  cases q : rFind A n with
  | none => exact h.off n q
  | some r => show (eff (ats s n) r).getD none = _; rw [h.on n r q]; rfl
theorem Lead.comb {ks : List Int} {s t u : List Th} {A B : List Ro} (hA : Lead ks s A t) (hB : Lead ks t B u) : ∃ g, tog A B = some g ∧ Lead ks s g u ∧ (∀ n, rFind g n = cmb (rFind A n) (rFind B n)) ∧ ∀ n, rFind g n = none ↔ rFind A n = none ∧ rFind B n = none := by
  have key : ∀ n q r, rFind A n = some q → rFind B n = some r → ∃ x, tr q r = some x ∧ eff (ats s n) x = some (ats u n) ∧ RoG ks x := fun n q r hq hr =>
    tr_eff (hA.ok q (rFind_some hq).1) (hB.ok r (rFind_some hr).1) (hA.on n q hq) (hB.on n r hr)
  obtain ⟨g, h1, h2, h3⟩ := tog_ok hA.up hB.up fun r hr q hq => by
    obtain ⟨x, hx, _⟩ := key _ q r hq (rFind_mem (up_nd hB.up) hr)
    rw [hx]; rfl
  have all : ∀ n, (∀ r, rFind g n = some r → eff (ats s n) r = some (ats u n) ∧ RoG ks r) ∧ (rFind g n = none → ats s n = ats u n) ∧ (rFind g n = none ↔ rFind A n = none ∧ rFind B n = none) := by
    intro n
    rw [h3]
    cases q1 : rFind B n with
    | none =>
      show (∀ r, rFind A n = some r → _) ∧ _
      refine ⟨fun r hr => ⟨by rw [← hB.off n q1]; exact hA.on n r hr, hA.ok r (rFind_some hr).1⟩, fun hr => by rw [← hB.off n q1]; exact hA.off n hr, fun h => ⟨h, rfl⟩, fun h => h.1⟩
    | some r =>
      cases q2 : rFind A n with
      | none =>
        refine ⟨fun r' hr => ?_, fun h => (by cases h), fun h => (by cases h), fun h => (by cases h.2)⟩
        obtain rfl : r = r' := Option.some.inj hr
        rw [hA.off n q2]
        exact ⟨hB.on n r q1, hB.ok r (rFind_some q1).1⟩
      | some q =>
        obtain ⟨x, hx, h5, h6⟩ := key n q r q2 q1
        have e : cmb (some q) (some r) = some x := hx
        rw [e]
        refine ⟨fun r' hr => ?_, fun h => (by cases h), fun h => (by cases h), fun h => (by cases h.2)⟩
        obtain rfl : x = r' := Option.some.inj hr
        exact ⟨h5, h6⟩
  refine ⟨g, h1, ⟨hA.ss, hB.st, h2, fun r hr => ?_, fun n r hr => ((all n).1 r hr).1, fun n hn => (all n).2.1 hn⟩, h3, fun n => (all n).2.2⟩
  exact ((all (Wp.idR r)).1 r (rFind_mem (up_nd h2) hr)).2
def tg (a b : List Ro) : List Ro := (tog a b).getD []
theorem Lead.tg {ks : List Int} {s t u : List Th} {A B : List Ro} (hA : Lead ks s A t) (hB : Lead ks t B u) : tog A B = some (tg A B) ∧ Lead ks s (tg A B) u ∧ (∀ n, rFind (Pv.tg A B) n = cmb (rFind A n) (rFind B n)) ∧ ∀ n, rFind (Pv.tg A B) n = none ↔ rFind A n = none ∧ rFind B n = none := by
  obtain ⟨g, h1, h2, h3, h4⟩ := hA.comb hB
  have e : Pv.tg A B = g := by unfold Pv.tg; rw [h1]; rfl
  rw [e]; exact ⟨h1, h2, h3, h4⟩
theorem Lead.assoc {ks : List Int} {s t u v : List Th} {A B C : List Ro} (hA : Lead ks s A t) (hB : Lead ks t B u) (hC : Lead ks u C v) : Pv.tg (Pv.tg A B) C = Pv.tg A (Pv.tg B C) := by
  obtain ⟨_, hAB, a1, _⟩ := hA.tg hB
  obtain ⟨_, hBC, b1, _⟩ := hB.tg hC
  obtain ⟨_, l1, c1, _⟩ := hAB.tg hC
  obtain ⟨_, l2, d1, _⟩ := hA.tg hBC
  refine ext_A (id := Wp.idR) l1.up l2.up fun n => ?_
  show rFind _ n = rFind _ n
  rw [c1, d1, a1, b1]
  cases qc : rFind C n with
  | none => rfl
  | some c =>
    cases qb : rFind B n with
    | none => cases rFind A n <;> rfl
    | some b =>
      cases qa : rFind A n with
      | none =>
        show cmb (some b) (some c) = cmb none (cmb (some b) (some c))
        cases cmb (some b) (some c) <;> rfl
      | some a =>
        obtain ⟨x, hx, _⟩ := tr_eff (hA.ok a (rFind_some qa).1) (hB.ok b (rFind_some qb).1) (hA.on n a qa) (hB.on n b qb)
        obtain ⟨y, hy, _⟩ := tr_eff (hB.ok b (rFind_some qb).1) (hC.ok c (rFind_some qc).1) (hB.on n b qb) (hC.on n c qc)
        show cmb (tr a b) (some c) = cmb (some a) (tr b c)
        rw [hx, hy]
        exact tr_assoc (hA.ok a (rFind_some qa).1) (hB.ok b (rFind_some qb).1) (hC.ok c (rFind_some qc).1) hx hy
theorem Lead.self {ks : List Int} {s t : List Th} {A : List Ro} (hA : Lead ks s A t) : tog A A = some A := by
  have key : ∀ r ∈ A, tr r r = some r := fun r hr => by
    have := hA.ok r hr
    cases r with
    | gone i => rfl
    | new t => rfl
    | chg i cs => show some (Ro.chg i (mg cs cs)) = _; rw [mg_self this.2.2.up]
  obtain ⟨g, h1, h2, h3⟩ := tog_ok hA.up hA.up fun r hr q hq => by
    rw [rFind_mem (up_nd hA.up) hr] at hq
    obtain rfl : r = q := Option.some.inj hq
    rw [key r hr]; rfl
  rw [h1]
  congr 1
  refine ext_A (id := Wp.idR) h2 hA.up fun n => ?_
  show rFind g n = rFind A n
  rw [h3]
  cases q : rFind A n with
  | none => rfl
  | some r => exact key r (rFind_some q).1
theorem Lead.nil {ks : List Int} {s : List Th} (hs : Srt s) : Lead ks s [] s := ⟨hs, hs, List.Pairwise.nil, fun _ h => absurd h List.not_mem_nil, fun _ _ h => (by cases h), fun _ _ => rfl⟩
theorem Lead.diff {ks : List Int} {a b : List Th} (hk : Shp ks) (ha : StOk ks a) (hb : StOk ks b) : Lead ks a (Pv.diff a b) b := Lead.of ha.so (diff_up a b) (diff_ok hk ha hb) (apl_diff ha hb)
/-! chains -/
inductive Ch (ks : List Int) : List Th → List (List Ro) → List Th → Prop
  | nil {s : List Th} : Srt s → Ch ks s [] s
  | cons {s t u : List Th} {D : List Ro} {Ds : List (List Ro)} : Lead ks s D t → Ch ks t Ds u → Ch ks s (D :: Ds) u
def bk : List (List Ro) → List Ro
  | [] => []
  | D :: Ds => Pv.tg D (bk Ds)
def fw (F : List Ro) (Ds : List (List Ro)) : List Ro := Ds.foldl Pv.tg F
theorem Ch.bk {ks : List Int} : ∀ {Ds : List (List Ro)} {s u : List Th}, Ch ks s Ds u → Lead ks s (Pv.bk Ds) u
  | _, _, _, .nil h => Lead.nil h
  | _, _, _, .cons h c => (h.tg c.bk).2.1
theorem Ch.fw {ks : List Int} : ∀ {Ds : List (List Ro)} {F : List Ro} {r s u : List Th}, Lead ks r F s → Ch ks s Ds u → Pv.fw F Ds = Pv.tg F (Pv.bk Ds)
  | _, F, _, _, _, hF, .nil _ => by
    show F = (tog F []).getD []
    rw [(tog_nil hF.up).2]; rfl
  | _, F, _, _, _, hF, .cons (D := D) (Ds := Ds) h c => by
    show Pv.fw (Pv.tg F D) Ds = _
    rw [Ch.fw (hF.tg h).2.1 c, hF.assoc h c.bk]; rfl
theorem Ch.all {ks : List Int} {Ds : List (List Ro)} {s u : List Th} (c : Ch ks s Ds u) : Pv.fw [] Ds = Pv.bk Ds := by
  have hs : Srt s := by cases c with
    | nil h => exact h
    | cons h _ => exact h.ss
  rw [Ch.fw (Lead.nil hs) c]
  show (tog [] _).getD [] = _
  rw [(tog_nil c.bk.up).1]; rfl
theorem Ch.ids {ks : List Int} {n : Int} : ∀ {Ds : List (List Ro)} {s u : List Th}, Ch ks s Ds u → (rFind (Pv.bk Ds) n = none ↔ ∀ D ∈ Ds, rFind D n = none)
  | _, _, _, .nil h => ⟨fun _ D h => absurd h List.not_mem_nil, fun _ => rfl⟩
  | _, _, _, .cons (D := D) (Ds := Ds) h c => by
    show rFind (Pv.tg D (Pv.bk Ds)) n = none ↔ _
    rw [(h.tg c.bk).2.2.2, c.ids]
    simp
theorem Ch.drop {ks : List Int} : ∀ {Ds : List (List Ro)} {s u : List Th}, Ch ks s Ds u → ∀ i, i ≤ Ds.length → ∃ t, Ch ks s (Ds.take i) t ∧ Ch ks t (Ds.drop i) u
  | _, s, _, .nil h, i, _ => ⟨s, by rw [List.take_nil]; exact .nil h, by rw [List.drop_nil]; exact .nil h⟩
  | _, s, _, .cons (D := D) (Ds := Ds) h c, 0, _ => ⟨s, .nil h.ss, .cons h c⟩
  | _, s, _, .cons (D := D) (Ds := Ds) h c, i + 1, hi => by
    obtain ⟨t, h1, h2⟩ := c.drop i (by simpa using hi)
    exact ⟨t, .cons h h1, h2⟩
end Pv

set_option Elab.async false
set_option linter.all false
set_option maxRecDepth 100000
set_option maxHeartbeats 4000000
namespace Pv
open PySem L2 Wp
/-! ### any plain thing -/
def Sm : Nat → D → Prop
  | _, .non => True
  | _, .bl _ => True
  | _, .int _ => True
  | _, .str x => okStr x = true
  | n + 1, .tup ds => ds.length ≤ 200 ∧ ∀ d ∈ ds, Sm n d
  | n + 1, .lst ds => ds.length ≤ 200 ∧ ∀ d ∈ ds, Sm n d
  | _, _ => False
inductive SmV (n : Nat) : D → Prop
  | non : SmV n .non
  | bl (b : Bool) : SmV n (.bl b)
  | int (i : Int) : SmV n (.int i)
  | str (x : Str) : okStr x = true → SmV n (.str x)
  | tup (m : Nat) (ds : List D) : n = m + 1 → ds.length ≤ 200 → (∀ d ∈ ds, Sm m d) → SmV n (.tup ds)
  | lst (m : Nat) (ds : List D) : n = m + 1 → ds.length ≤ 200 → (∀ d ∈ ds, Sm m d) → SmV n (.lst ds)
theorem Sm.v {n : Nat} {d : D} (h : Sm n d) : SmV n d := by
  cases d with
  | non => exact .non
  | bl b => exact .bl b
  | int i => exact .int i
  | str x => exact .str x (by cases n <;> exact h)
  | tup ds => cases n with
    | zero => exact h.elim
    | succ m => exact .tup m ds rfl h.1 h.2
  | lst ds => cases n with
    | zero => exact h.elim
    | succ m => exact .lst m ds rfl h.1 h.2
  | scr ds => cases n <;> exact h.elim
  | dic kvs => cases n <;> exact h.elim
  | hnd k => cases n <;> exact h.elim
  | obj c fs => cases n <;> exact h.elim
  | lck kvs => cases n <;> exact h.elim
def whD (lo hi : Int) : D → Bool
  | .int i => decide (lo ≤ i) && decide (i ≤ hi)
  | _ => false
def f0 : D → Int
  | .tup (.int i :: _) => i
  | _ => 0
def f1 : D → Int
  | .tup (_ :: .int i :: _) => i
  | _ => 0
def thD (ks : List Int) : D → Bool
  | .tup [a, b, .tup fs] => whD 0 99 a && (whD 0 (ks.length - 1) b && (decide ((fs.length : Int) = match b with
    | .int i => ks.getD i.toNat 0
    | _ => 0) && fs.all (whD 0 255)))
  | _ => false
def adj : List Int → Bool
  | a :: b :: r => decide (a < b) && adj (b :: r)
  | _ => true
theorem adj_zip : ∀ l : List Int, (l.dropLast.zip l.tail).all (fun p => decide (p.1 < p.2)) = adj l
  | [] => rfl
  | [a] => rfl
  | a :: b :: r => by
    have ih := adj_zip (b :: r)
    show (decide (a < b) && ((b :: r).dropLast.zip r).all _) = (decide (a < b) && adj (b :: r))
    rw [← ih]; rfl
theorem adj_at : ∀ {l : List Int}, adj l = true ↔ ∀ i (h : i + 1 < l.length), l[i] < l[i + 1]
  | [] => ⟨fun _ i h => absurd h (by simp), fun _ => rfl⟩
  | [a] => ⟨fun _ i h => absurd h (by simp), fun _ => rfl⟩
  | a :: b :: r => by
    show (decide (a < b) && adj (b :: r)) = true ↔ _
    rw [Bool.and_eq_true, decide_eq_true_eq, adj_at]
    constructor
    · rintro ⟨h1, h2⟩ i h
      cases i with
      | zero => exact h1
      | succ i => exact h2 i (by simpa using h)
    · intro h
      exact ⟨h 0 (by simp), fun i hi => h (i + 1) (by simpa using hi)⟩
theorem thD_first {ks : List Int} {d : D} (h : thD ks d = true) : ∃ i r, d = .tup (.int i :: r) := by
  unfold thD at h
  split at h
  · rename_i a b fs
    cases a <;> first | (simp [whD] at h; done) | exact ⟨_, _, rfl⟩
  · cases h
theorem whD_int {lo hi : Int} {d : D} (h : whD lo hi d = true) : ∃ i, d = .int i ∧ lo ≤ i ∧ i ≤ hi := by
  cases d <;> first | (cases h; done) | skip
  rename_i i
  have h : (decide (lo ≤ i) && decide (i ≤ hi)) = true := h
  rw [Bool.and_eq_true, decide_eq_true_eq, decide_eq_true_eq] at h
  exact ⟨i, rfl, h⟩
theorem comp_bad {f : D → Store → Res (Option D)} {M : Store} {ds : List D} {QL : List D → Store → Prop} {X : Nat → Store → Prop} (p : D → Bool)
    (hs : ∀ d ∈ ds, RW (f d M) (fun r M' => r = (if p d = true then none else some (.int 1)) ∧ M' = M) fun _ _ => False) (h : ∀ r : List D, r.isEmpty = ds.all p → QL r M) : RW (compL f ds M) QL X := by
  have key := comp_map (QL := QL) (X := X) (f := f) (M := M) (fun d : D => d) (fun _ : Unit => D.int 1) (fun d => if p d = true then none else some ()) (xs := ds) (fun d hd => (hs d hd).mono (fun r M' e => ⟨e.1.trans (by split <;> rfl), e.2⟩) fun _ _ h => h)
  rw [List.map_id'] at key
  refine key (h _ ?_)
  rw [Bool.eq_iff_iff, List.isEmpty_iff, List.all_eq_true, List.map_eq_nil_iff, List.filterMap_eq_nil_iff]
  refine ⟨fun h d hd => ?_, fun h d hd => by rw [if_pos (h d hd)]⟩
  have := h d hd
  split at this
  · assumption
  · cases this
theorem comp_bls {f : D → Store → Res (Option D)} {M : Store} {ds : List D} {QL : List D → Store → Prop} {X : Nat → Store → Prop} (p : D → Bool)
    (hs : ∀ d ∈ ds, RW (f d M) (fun r M' => r = some (.bl (p d)) ∧ M' = M) fun _ _ => False) (h : QL (ds.map fun d => .bl (p d)) M) : RW (compL f ds M) QL X := by
  have key := comp_all (QL := QL) (X := X) (f := f) (M := M) (fun d : D => d) D.bl p (xs := ds) hs
  rw [List.map_id', List.map_map] at key
  exact key h
theorem comp_ints {f : D → Store → Res (Option D)} {M : Store} {ds : List D} {QL : List D → Store → Prop} {X : Nat → Store → Prop} (g : D → Int)
    (hs : ∀ d ∈ ds, RW (f d M) (fun r M' => r = some (.int (g d)) ∧ M' = M) fun _ _ => False) (h : QL ((ds.map g).map .int) M) : RW (compL f ds M) QL X := by
  have key := comp_all (QL := QL) (X := X) (f := f) (M := M) (fun d : D => d) D.int g (xs := ds) hs
  rw [List.map_id'] at key
  exact key h
def shD : D → Bool
  | .tup ds => decide ((1 : Int) ≤ ds.length) && (decide ((ds.length : Int) ≤ 4) && ds.all (whD 0 5))
  | _ => false
theorem thD_len {ks : List Int} {ds : List D} (h : ds.length ≠ 3) : thD ks (.tup ds) = false := by
  unfold thD
  split
  · rename_i e
    cases e
    exact absurd rfl h
  · rfl
def kdD (ks : List Int) : D → Int
  | .int i => ks.getD i.toNat 0
  | _ => 0
theorem thD_eq (ks : List Int) (a b : D) (fs : List D) : thD ks (.tup [a, b, .tup fs]) = (whD 0 99 a && (whD 0 (ks.length - 1) b && (decide ((fs.length : Int) = kdD ks b) && fs.all (whD 0 255)))) := by
  cases b <;> rfl
theorem thD_a {ks : List Int} {a b c : D} (h : whD 0 99 a = false) : thD ks (.tup [a, b, c]) = false := by
  cases c <;> first | rfl | (rw [thD_eq, h]; rfl)
theorem thD_b {ks : List Int} {a b c : D} (h : whD 0 (ks.length - 1) b = false) : thD ks (.tup [a, b, c]) = false := by
  cases c <;> first | rfl | (rw [thD_eq, h, Bool.false_and, Bool.and_false])
theorem thD_c {ks : List Int} {a : D} {i : Int} {fs : List D} (h1 : whD 0 99 a = true) (h2 : whD 0 (ks.length - 1) (.int i) = true) : thD ks (.tup [a, .int i, .tup fs]) = (decide ((fs.length : Int) = ks.getD i.toNat 0) && fs.all (whD 0 255)) := by
  rw [thD_eq, h1, h2]; rfl
def stD (ks : List Int) : D → Bool
  | .tup ds => ds.all (thD ks) && adj (ds.map f0)
  | _ => false
def chD : D → Bool
  | .tup [a, b] => whD 0 4 a && whD 0 255 b
  | _ => false
def csD : D → Bool
  | .tup cs => !cs.isEmpty && (cs.all chD && adj (cs.map f0))
  | _ => false
def rwD (ks : List Int) : D → Bool
  | .tup (.str x :: r) => if (x == "gone") = true then (match r with
      | [a] => whD 0 99 a
      | _ => false) else if (x == "new") = true then thD ks (.tup r) else if (x == "changed") = true then (match r with
      | [a, c] => whD 0 99 a && csD c
      | _ => false) else false
  | _ => false
def rsD (ks : List Int) : D → Bool
  | .tup ds => ds.all (rwD ks) && adj (ds.map f1)
  | _ => false
theorem chD_len {ds : List D} (h : ds.length ≠ 2) : chD (.tup ds) = false := by
  match ds, h with
  | [], _ => rfl
  | [a], _ => rfl
  | [a, b], h => exact absurd rfl h
  | a :: b :: c :: r, _ => rfl
theorem chD_first {d : D} (h : chD d = true) : ∃ i r, d = .tup (.int i :: r) := by
  match d, h with
  | .tup [a, b], h =>
    have h : (whD 0 4 a && whD 0 255 b) = true := h
    rw [Bool.and_eq_true] at h
    obtain ⟨i, rfl, _⟩ := whD_int h.1
    exact ⟨i, _, rfl⟩
theorem zip_adj {ds : List D} (f : D → Int) : (ds.dropLast.zip ds.tail).all (fun p => decide (f p.1 < f p.2)) = adj (ds.map f) := by
  rw [← adj_zip, ← List.map_dropLast, ← List.map_tail, List.zip_map, List.all_map]; rfl
theorem sl_iT {ds : List D} {kk : D → Prop} (h : kk (.tup ds.dropLast)) : PW (sliceD (.tup ds) none (some (-1))) kk := by
  show PW (some (D.tup (cutL ds none (some (-1))))) kk
  rw [cut_init]; exact h
theorem sl_tT {ds : List D} {kk : D → Prop} (h : kk (.tup ds.tail)) : PW (sliceD (.tup ds) (some 1) none) kk := by
  show PW (some (D.tup (cutL ds (some ((1 : Nat) : Int)) none))) kk
  rw [cut_from, List.drop_one]; exact h
theorem zip_TT {a b : List D} {kl : List D → Prop} (h : kl ((a.zip b).map fun p => .tup [p.1, p.2])) : PW (zipO (.tup a) (.tup b)) kl := h
theorem zip_LL {a b : List D} {kl : List D → Prop} (h : kl ((a.zip b).map fun p => .tup [p.1, p.2])) : PW (zipO (.lst a) (.lst b)) kl := h
theorem c_eqStr {x y : Str} {M : Store} {kb : Bool → Prop} (hx : okStr x = true) (hy : okStr y = true) (h : kb (x == y)) : PW (cmpD .eq (.str x) (dr M (.str y))) kb := c_eqG hx hy rfl h
theorem c_neStr {x y : Str} {M : Store} {kb : Bool → Prop} (hx : okStr x = true) (hy : okStr y = true) (h : kb (!(x == y))) : PW (cmpD .ne (.str x) (dr M (.str y))) kb := c_neG hx hy rfl h
theorem okds_of : ∀ (n : Nat) (ds : List D), (∀ d ∈ ds, Pv.okd n d = true) → okds n ds = true
  | n, [], _ => by cases n <;> rfl
  | n, a :: r, h => by
    have h1 := h a List.mem_cons_self
    have h2 := okds_of n r fun d hd => h d (List.mem_cons_of_mem _ hd)
    cases n <;> (show (Pv.okd _ a && okds _ r) = true; rw [h1, h2]; rfl)
theorem Sm.okd : ∀ (n : Nat) {d : D}, Sm n d → Pv.okd n d = true
  | n, .non, _ => by cases n <;> rfl
  | n, .bl _, _ => by cases n <;> rfl
  | n, .int _, _ => by cases n <;> rfl
  | n, .str x, h => by
    have : okStr x = true := by cases n <;> exact h
    cases n <;> exact this
  | n + 1, .tup ds, h => okds_of n ds fun d hd => Sm.okd n (h.2 d hd)
  | n + 1, .lst ds, h => okds_of n ds fun d hd => Sm.okd n (h.2 d hd)
  | 0, .tup _, h => h.elim
  | 0, .lst _, h => h.elim
  | 0, .scr _, h => h.elim
  | _ + 1, .scr _, h => h.elim
  | 0, .dic _, h => h.elim
  | _ + 1, .dic _, h => h.elim
  | 0, .hnd _, h => h.elim
  | _ + 1, .hnd _, h => h.elim
  | 0, .obj _ _, h => h.elim
  | _ + 1, .obj _ _, h => h.elim
  | 0, .lck _, h => h.elim
  | _ + 1, .lck _, h => h.elim
theorem Sm.up : ∀ (n : Nat) {m : Nat} {d : D}, n ≤ m → Sm n d → Sm m d
  | n, m, .non, _, _ => by cases m <;> trivial
  | n, m, .bl _, _, _ => by cases m <;> trivial
  | n, m, .int _, _, _ => by cases m <;> trivial
  | n, m, .str x, _, h => by
    have : okStr x = true := by cases n <;> exact h
    cases m <;> exact this
  | n + 1, 0, .tup ds, hl, h => absurd hl (by omega)
  | n + 1, 0, .lst ds, hl, h => absurd hl (by omega)
  | n + 1, m + 1, .tup ds, hl, h => ⟨h.1, fun d hd => Sm.up n (by omega) (h.2 d hd)⟩
  | n + 1, m + 1, .lst ds, hl, h => ⟨h.1, fun d hd => Sm.up n (by omega) (h.2 d hd)⟩
  | 0, _, .tup _, _, h => h.elim
  | 0, _, .lst _, _, h => h.elim
  | 0, _, .scr _, _, h => h.elim
  | _ + 1, _, .scr _, _, h => h.elim
  | 0, _, .dic _, _, h => h.elim
  | _ + 1, _, .dic _, _, h => h.elim
  | 0, _, .hnd _, _, h => h.elim
  | _ + 1, _, .hnd _, _, h => h.elim
  | 0, _, .obj _ _, _, h => h.elim
  | _ + 1, _, .obj _ _, _, h => h.elim
  | 0, _, .lck _, _, h => h.elim
  | _ + 1, _, .lck _, _, h => h.elim
theorem c_eq0T {n : Nat} {ds : List D} {M : Store} {kb : Bool → Prop} (hd : Sm n (.tup ds)) (hn : n ≤ 60) (h : kb ds.isEmpty) : PW (cmpD .eq (.tup ds) (dr M (.tup []))) kb := by
  refine c_eqG (Sm.okd 60 (hd.up n hn)) rfl rfl ?_
  have e : eqD (.tup ds) (.tup []) = ds.isEmpty := by cases ds <;> rfl
  rw [e]; exact h
/-- as Sm, of fewer -/
def Sn : Nat → D → Prop
  | _, .non => True
  | _, .bl _ => True
  | _, .int _ => True
  | _, .str x => okStr x = true
  | n + 1, .tup ds => ds.length ≤ 60 ∧ ∀ d ∈ ds, Sn n d
  | _, _ => False
theorem Sn.sm : ∀ (n : Nat) {d : D}, Sn n d → Sm n d
  | n, .non, _ => by cases n <;> trivial
  | n, .bl _, _ => by cases n <;> trivial
  | n, .int _, _ => by cases n <;> trivial
  | n, .str x, h => by
    have : okStr x = true := by cases n <;> exact h
    cases n <;> exact this
  | n + 1, .tup ds, h => ⟨Nat.le_trans h.1 (by omega), fun d hd => Sn.sm n (h.2 d hd)⟩
  | 0, .tup _, h => h.elim
  | 0, .lst _, h => h.elim
  | _ + 1, .lst _, h => h.elim
  | 0, .scr _, h => h.elim
  | _ + 1, .scr _, h => h.elim
  | 0, .dic _, h => h.elim
  | _ + 1, .dic _, h => h.elim
  | 0, .hnd _, h => h.elim
  | _ + 1, .hnd _, h => h.elim
  | 0, .obj _ _, h => h.elim
  | _ + 1, .obj _ _, h => h.elim
  | 0, .lck _, h => h.elim
  | _ + 1, .lck _, h => h.elim
theorem sn_I (n : Nat) {l : List Int} (h : l.length ≤ 60) : Sn (n + 1) (dI l) := ⟨by rw [List.length_map]; exact h, fun d hd => by
  obtain ⟨i, _, rfl⟩ := List.mem_map.mp hd
  cases n <;> trivial⟩
theorem sn_T (n : Nat) {t : Th} (h : t.fs.length ≤ 60) : Sn (n + 2) (dT t) := ⟨by simp, fun d hd => by
  simp only [List.mem_cons, List.not_mem_nil, or_false] at hd
  rcases hd with rfl | rfl | rfl
  · trivial
  · trivial
  · exact sn_I n h⟩
theorem sn_S (n : Nat) {s : List Th} (hl : s.length ≤ 60) (h : ∀ t ∈ s, t.fs.length ≤ 60) : Sn (n + 3) (dS s) := ⟨by rw [List.length_map]; exact hl, fun d hd => by
  obtain ⟨t, ht, rfl⟩ := List.mem_map.mp hd
  exact sn_T n (h t ht)⟩
theorem sn_R (n : Nat) {r : Ro} (h1 : ∀ t, r = .new t → t.fs.length ≤ 60) (h2 : ∀ i cs, r = .chg i cs → cs.length ≤ 60) : Sn (n + 3) (dR r) := by
  cases r with
  | gone i =>
    refine ⟨by simp, fun d hd => ?_⟩
    simp only [List.mem_cons, List.not_mem_nil, or_false] at hd
    rcases hd with rfl | rfl
    · exact (by decide +kernel : okStr "gone" = true)
    · trivial
  | new t =>
    refine ⟨by simp, fun d hd => ?_⟩
    simp only [List.mem_cons, List.not_mem_nil, or_false] at hd
    rcases hd with rfl | rfl | rfl | rfl
    · exact (by decide +kernel : okStr "new" = true)
    · trivial
    · trivial
    · exact sn_I (n + 1) (h1 t rfl)
  | chg i cs =>
    refine ⟨by simp, fun d hd => ?_⟩
    simp only [List.mem_cons, List.not_mem_nil, or_false] at hd
    rcases hd with rfl | rfl | rfl
    · exact (by decide +kernel : okStr "changed" = true)
    · trivial
    · refine ⟨by rw [List.length_map]; exact h2 i cs rfl, fun d hd => ?_⟩
      obtain ⟨c, _, rfl⟩ := List.mem_map.mp hd
      refine ⟨by simp, fun d hd => ?_⟩
      simp only [List.mem_cons, List.not_mem_nil, or_false] at hd
      rcases hd with rfl | rfl <;> (cases n <;> trivial)
theorem cutL_mem {α : Type} {l : List α} {lo hi : Option Int} {x : α} (h : x ∈ cutL l lo hi) : x ∈ l := List.mem_of_mem_drop (List.mem_of_mem_take h)
theorem cutL_le {α : Type} (l : List α) (lo hi : Option Int) : (cutL l lo hi).length ≤ l.length := by
  unfold cutL
  rw [List.length_take, List.length_drop]; omega
theorem sl_any {ds : List D} {lo hi : Option Int} {kk : D → Prop} (h : kk (.tup (cutL ds lo hi))) : PW (sliceD (.tup ds) lo hi) kk := h
end Pv

set_option Elab.async false
set_option linter.all false
set_option maxRecDepth 100000
set_option maxHeartbeats 4000000
namespace Pv
open PySem L2 Wp
/-! ### drawing -/
theorem pw_cell {ns : List Int} {i : Int} {k : D → Prop} (h0 : 0 ≤ i) (h1 : i < ns.length) (h : ∀ y, k (.int y)) : PW (atI (ns.map D.int) i) k := by
  rw [atI_map]
  obtain ⟨h2, e⟩ := atI_get h0 h1
  rw [e]
  exact h _
/-- a comprehension of draws -/
theorem comp_draws {f : D → Store → Res (Option D)} {ds : List D} {n : Nat} {R : Store} {m : Int} {QL : List D → Store → Prop} {X : Nat → Store → Prop}
    (hs : ∀ d ∈ ds, ∀ j : Nat, j < ds.length → RW (f d (tw (n + j) R)) (fun r M => ∃ x : Int, 0 ≤ x ∧ x < m ∧ r = some (.int x) ∧ M = tw (n + j + 1) R) fun _ _ => False)
    (h : ∀ xs : List Int, xs.length = ds.length → (∀ x ∈ xs, 0 ≤ x ∧ x < m) → QL (xs.map .int) (tw (n + ds.length) R)) : RW (compL f ds (tw n R)) QL X := by
  refine Wp.compL_inv (fun j r M => ∃ xs : List Int, r = xs.map .int ∧ xs.length = j ∧ (∀ x ∈ xs, 0 ≤ x ∧ x < m) ∧ M = tw (n + j) R) _ ⟨[], rfl, rfl, fun _ h => absurd h List.not_mem_nil, rfl⟩ ?_ ?_
  · rintro j hj r M ⟨xs, rfl, hl, hx, rfl⟩
    refine (hs _ (List.getElem_mem hj) j hj).mono (fun r M e => ?_) fun _ _ h => h
    obtain ⟨x, h0, h1, rfl, rfl⟩ := e
    refine ⟨xs ++ [x], by simp [Wp.addO], by simp [hl], fun z hz => ?_, rfl⟩
    rcases List.mem_append.mp hz with q | q
    · exact hx z q
    · rw [List.mem_singleton.mp q]; exact ⟨h0, h1⟩
  · rintro r M ⟨xs, rfl, hl, hx, rfl⟩
    exact h xs hl hx
/-- a comprehension of anything drawn: I says what is drawn, c how many draws each -/
theorem comp_anys {α : Type} {f : D → Store → Res (Option D)} {ds : List D} {n c : Nat} {R : Store} (dec : α → D) (I : α → Prop) {QL : List D → Store → Prop} {X : Nat → Store → Prop}
    (hs : ∀ d ∈ ds, ∀ m R, m ≤ n + c * (ds.length - 1) → RW (f d (tw m R)) (fun r M => ∃ x m' R', I x ∧ r = some (dec x) ∧ m' ≤ m + c ∧ M = tw m' R') fun _ _ => False)
    (h : ∀ (xs : List α) m R, xs.length = ds.length → (∀ x ∈ xs, I x) → m ≤ n + c * ds.length → QL (xs.map dec) (tw m R)) : RW (compL f ds (tw n R)) QL X := by
  refine Wp.compL_inv (fun j r M => ∃ (xs : List α) (m : Nat) (R : Store), r = xs.map dec ∧ xs.length = j ∧ (∀ x ∈ xs, I x) ∧ m ≤ n + c * j ∧ M = tw m R) _ ⟨[], n, R, rfl, rfl, fun _ h => absurd h List.not_mem_nil, by omega, rfl⟩ ?_ ?_
  · rintro j hj r M ⟨xs, m, R, rfl, hl, hx, hm, rfl⟩
    refine (hs _ (List.getElem_mem hj) m R ?_).mono (fun r M e => ?_) fun _ _ h => h
    · have := Nat.mul_le_mul_left c (show j ≤ ds.length - 1 by omega)
      omega
    obtain ⟨x, m', R', h0, rfl, h1, rfl⟩ := e
    refine ⟨xs ++ [x], m', R', by simp [Wp.addO], by simp [hl], fun z hz => ?_, by rw [Nat.mul_add]; omega, rfl⟩
    rcases List.mem_append.mp hz with q | q
    · exact hx z q
    · rw [List.mem_singleton.mp q]; exact h0
  · rintro r M ⟨xs, m, R, rfl, hl, hx, hm, rfl⟩
    exact h xs m R hl hx hm
section
variable {k n : Nat} {R : Store} {ns : List Int} {Q : D → Store → Prop} {X : Nat → Store → Prop}
theorem r_draw {m : Int} (hm : 0 < m) (hn : n < 16777216) (h : ∀ x : Int, 0 ≤ x → x < m → Q (.int x) (tw (n + 1) R)) : RW (run prg (k + 1) i__law_draw [.scr (ns.map .int), .hnd 0, .int m] (tw n R)) Q X := by
  rw [tw_succ] at h
  refine Wp.run_w (fn := g__law_draw) rfl rfl ?_
  show OW (ex _ _ [.sh (.scr (ns.map .int)), .sh (.hnd 0), .sh (.int m), .no, .no, .no, .no] _) _
  dsimp only [g__law_draw]
  refine Wp.s_seq (Wp.s_happ (n := 0) ?_)
  walk_at "WP!"
  refine ⟨rfl, ⟨_, rfl⟩, ?_⟩
  walk_at "WP!"
  refine ⟨_, rfl, ?_, ?_⟩
  · rw [List.length_replicate]; exact hn
  dsimp only [tw, List.set]
  walk_at "WP!"
  · cases ns with
    | nil => cases hb
    | cons x r => simp
  · have hl : 0 < ((ns.map D.int).length : Int) := by
      cases ns with
      | nil => cases hb
      | cons x r => simp
    refine pw_cell (Int.emod_nonneg _ (by omega)) (by simpa using Int.emod_lt_of_pos _ hl) fun y => ?_
    walk_at "WP!"
    exact h _ (Int.emod_nonneg _ (by omega)) (Int.emod_lt_of_pos _ hm)
  all_goals first | exact h _ (Int.emod_nonneg _ (by omega)) (Int.emod_lt_of_pos _ hm) | skip
theorem r_pick {ds : List D} (hm : 0 < ds.length) (hn : n < 16777216) (h : ∀ d ∈ ds, Q d (tw (n + 1) R)) : RW (run prg (k + 2) i__law_pick [.scr (ns.map .int), .hnd 0, .lst ds] (tw n R)) Q X := by
  refine Wp.run_w (fn := g__law_pick) rfl rfl ?_
  show OW (ex _ _ [.sh (.scr (ns.map .int)), .sh (.hnd 0), .sh (.lst ds)] _) _
  dsimp only [g__law_pick]
  walk_at "WP!"
  refine r_draw (m := (ds.length : Int)) (by omega) hn fun x h0 h1 => ?_
  walk_at "WP!"
  obtain ⟨hx, e⟩ := atI_get (l := ds) h0 h1
  refine Wp.pw_eq e ?_
  walk_at "WP!"
  exact h _ (List.getElem_mem hx)
theorem r_pick3 {a b c : Int} (hn : n < 16777216) (h : ∀ y : Int, (y = a ∨ y = b ∨ y = c) → Q (.int y) (tw (n + 1) R)) : RW (run prg (k + 2) i__law_pick [.scr (ns.map .int), .hnd 0, .lst [.int a, .int b, .int c]] (tw n R)) Q X := by
  refine r_pick (of_decide_eq_true rfl) hn fun d hd => ?_
  rcases List.mem_cons.mp hd with rfl | hd
  · exact h _ (.inl rfl)
  rcases List.mem_cons.mp hd with rfl | hd
  · exact h _ (.inr (.inl rfl))
  rw [List.mem_singleton.mp hd]
  exact h _ (.inr (.inr rfl))
theorem r_pick2 {a b : Int} (hn : n < 16777216) (h : ∀ y : Int, (y = a ∨ y = b) → Q (.int y) (tw (n + 1) R)) : RW (run prg (k + 2) i__law_pick [.scr (ns.map .int), .hnd 0, .lst [.int a, .int b]] (tw n R)) Q X := by
  refine r_pick (of_decide_eq_true rfl) hn fun d hd => ?_
  rcases List.mem_cons.mp hd with rfl | hd
  · exact h _ (.inl rfl)
  rw [List.mem_singleton.mp hd]
  exact h _ (.inr rfl)
theorem r_shapes (hn : n + 5 ≤ 16777216) (h : ∀ ks n', Shp ks → n' ≤ n + 5 → Q (dI ks) (tw n' R)) : RW (run prg (k + 2) i__law_shapes [.scr (ns.map .int), .hnd 0] (tw n R)) Q X := by
  refine Wp.run_w (fn := g__law_shapes) rfl rfl ?_
  show OW (ex _ _ [.sh (.scr (ns.map .int)), .sh (.hnd 0), .no] _) _
  dsimp only [g__law_shapes]
  walk_at "WP!"
  refine r_draw (m := 4) (by omega) (by omega) fun x h0 h1 => ?_
  walk_at "WP!"
  refine comp_draws (m := 6) ?_ ?_
  · intro d hd j hj
    rw [Wp.rangeL_len] at hj
    refine Wp.step_all rfl ?_
    dsimp only [wipeR, List.set]
    walk_at "WP!"
    refine r_draw (m := 6) (by omega) (by omega) fun y g0 g1 => ?_
    exact ⟨y, g0, g1, rfl, rfl⟩
  · intro xs hl hx
    rw [Wp.rangeL_len] at hl
    rw [Wp.rangeL_len]
    walk_at "WP!"
    refine h xs _ ⟨by omega, by omega, fun z hz => ?_⟩ (by omega)
    have := hx z hz
    omega
theorem r_thing {ks : List Int} {i : Int} (hk : Shp ks) (i0 : 0 ≤ i) (i1 : i ≤ 99) (hn : n + 7 ≤ 16777216) (h : ∀ t n', ThOk ks t → t.id = i → n' ≤ n + 7 → Q (dT t) (tw n' R)) :
    RW (run prg (k + 3) i__law_thing [.scr (ns.map .int), .hnd 0, dI ks, .int i] (tw n R)) Q X := by
  obtain ⟨k1, k4, k5⟩ := hk
  refine Wp.run_w (fn := g__law_thing) rfl rfl ?_
  show OW (ex _ _ [.sh (.scr (ns.map .int)), .sh (.hnd 0), .sh (dI ks), .sh (.int i), .no, .no, .no] _) _
  dsimp only [g__law_thing]
  walk_at "WP!"
  refine r_draw (by omega) (by omega) fun kd h0 h1 => ?_
  walk_at "WP!"
  refine r_pick3 (by omega) fun tp ht => ?_
  walk_at "WP!"
  obtain ⟨hx, e⟩ := atI_get (l := ks) h0 h1
  have hf := k5 _ (List.getElem_mem hx)
  refine Wp.i_I e ?_
  generalize ks[kd.toNat] = f at e hf
  walk_at "WP!"
  refine comp_draws (m := tp) ?_ ?_
  · intro d hd j hj
    rw [Wp.rangeL_len] at hj
    refine Wp.step_all rfl ?_
    dsimp only [wipeR, List.set]
    walk_at "WP!"
    refine r_draw (by omega) (by omega) fun y g0 g1 => ?_
    exact ⟨y, g0, g1, rfl, rfl⟩
  · intro xs hl hx
    rw [Wp.rangeL_len] at hl
    rw [Wp.rangeL_len]
    walk_at "WP!"
    refine h ⟨i, kd, xs⟩ _ ⟨i0, i1, h0, h1, ?_, fun z hz => ?_⟩ rfl (by omega)
    · show atI ks kd = some (xs.length : Int)
      rw [e]; congr 1; omega
    · have := hx z hz
      omega
theorem r_stand {ks : List Int} {m : Int} (hk : Shp ks) (m0 : 0 ≤ m) (m9 : m ≤ 9) (hn : n + 80 ≤ 16777216) (h : ∀ s n', StOk ks s → (s.length : Int) ≤ m → n' ≤ n + 80 → Q (dS s) (tw n' R)) :
    RW (run prg (k + 4) i__law_stand [.scr (ns.map .int), .hnd 0, dI ks, .int m] (tw n R)) Q X := by
  refine Wp.run_w (fn := g__law_stand) rfl rfl ?_
  show OW (ex _ _ [.sh (.scr (ns.map .int)), .sh (.hnd 0), .sh (dI ks), .sh (.int m), .no, .no, .no, .no] _) _
  dsimp only [g__law_stand]
  refine Wp.s_seq (Wp.s_own ?_)
  walk_at "WP!"
  refine r_pick2 (by omega) fun tp ht => ?_
  walk_at "WP!"
  refine r_draw (m := m + 1) (by omega) (by omega) fun c c0 c1 => ?_
  walk_at "WP!"
  refine Wp.forL_inv (fun j ρ M => ∃ (s6 s7 : Slot) (ts : List Th) (n' : Nat), ρ = [.sh (.scr (ns.map .int)), .sh (.hnd 0), .sh (dI ks), .sh (.int m), .ow (.dic (kvT ts)), .sh (.int tp), s6, s7] ∧ (ts.map (·.id)).Nodup ∧ ts.length ≤ j ∧ (∀ t ∈ ts, ThOk ks t) ∧ n' ≤ n + 2 + 8 * j ∧ M = tw n' R) _ ⟨_, _, [], _, rfl, List.Pairwise.nil, by simp, by simp, by omega, rfl⟩ ?_ ?_
  · rintro j hj ρ M ⟨s6, s7, ts, n', rfl, hd, hl, hok, hn', rfl⟩
    rw [Wp.rangeL_len] at hj
    rw [Wp.rangeL_get]
    refine Wp.s_step (ρ1 := [.sh (.scr (ns.map .int)), .sh (.hnd 0), .sh (dI ks), .sh (.int m), .ow (.dic (kvT ts)), .sh (.int tp), .sh (.int (0 + (j : Int))), s7]) rfl ?_
    walk_at "WP!"
    refine r_draw (by omega) (by omega) fun i i0 i1 => ?_
    walk_at "WP!"
    refine Wp.s_setiD rfl ?_
    walk_at "WP!"
    refine r_thing hk (by omega) (by omega) (by omega) fun t n2 h1 h2 h3 => ?_
    walk_at "WP!"
    refine ⟨?_, ?_⟩
    · unfold kvT; rw [List.length_map]; have : LIM = 16777216 := rfl; omega
    subst h2
    rw [setK_T]
    refine Wp.s_skip ⟨_, _, setT ts t, n2, rfl, nd_setT hd t, ?_, fun u hu => ?_, by omega, rfl⟩
    · have := len_setT ts t; omega
    · rcases (mem_setT hd).mp hu with ⟨h4, _⟩ | rfl
      · exact hok u h4
      · exact h1
  · rintro ρ M ⟨s6, s7, ts, n', rfl, hd, hl, hok, hn', rfl⟩
    rw [Wp.rangeL_len] at hl hn'
    walk_at "WP!"
    refine Wp.f_sortD (by omega) ?_
    walk_at "WP!"
    refine comp_map D.int dT (ats ts) ?_ ?_
    · intro x hx
      rw [(isort_perm _).mem_iff] at hx
      obtain ⟨t, ht, rfl⟩ := List.mem_map.mp hx
      refine Wp.step_all rfl ?_
      dsimp only [wipeR, List.set]
      walk_at "WP!"
      show PW (lookK (kvT ts) (.inl t.id)) _
      rw [lookK_T]
      cases q : ats ts t.id with
      | none => exact absurd rfl (ats_none.mp q t ht)
      | some u => exact ⟨rfl, rfl⟩
    · rw [by_ids hd]
      walk_at "WP!"
      refine h _ _ ⟨srt_bys hd, fun t ht => hok t (mem_bys.mp ht)⟩ ?_ (by omega)
      rw [(bys_perm ts).length_eq]
      omega
end
def dCh (c : Int × Int) : D := .tup [.int c.1, .int c.2]
theorem nd_le : ∀ {l U : List Int}, l.Nodup → (∀ x ∈ l, x ∈ U) → l.length ≤ U.length
  | [], _, _, _ => Nat.zero_le _
  | a :: l, U, hn, h => by
    rw [List.nodup_cons] at hn
    have ha := h a List.mem_cons_self
    have := nd_le (l := l) (U := U.erase a) hn.2 fun x hx => (List.mem_erase_of_ne (fun e : x = a => hn.1 (e ▸ hx))).mpr (h x (List.mem_cons_of_mem _ hx))
    rw [List.length_erase_of_mem ha] at this
    have := List.length_pos_of_mem ha
    rw [List.length_cons]; omega
theorem csl {cs : List (Int × Int)} (h : CsOk cs) : cs.length ≤ 5 := by
  have := nd_le (l := cs.map (·.1)) (U := [0, 1, 2, 3, 4]) (up_nd (id := fun c : Int × Int => c.1) h.up) fun x hx => by
    obtain ⟨c, hc, rfl⟩ := List.mem_map.mp hx
    have := h.b c hc
    have : c.1 = 0 ∨ c.1 = 1 ∨ c.1 = 2 ∨ c.1 = 3 ∨ c.1 = 4 := by omega
    simp only [List.mem_cons, List.not_mem_nil, or_false]
    exact this
  rw [List.length_map] at this
  exact this
theorem setK_R {ts : List Ro} {i : Int} {d : D} (r : Ro) (e1 : Wp.idR r = i) (e2 : dR r = d) : setK (kvG Wp.idR dR ts) (.inl i) d = kvG Wp.idR dR (sG Wp.idR ts r) := by
  subst e1; subst e2; exact setK_G _ _ _ _
section
variable {k n : Nat} {R : Store} {ns : List Int} {Q : D → Store → Prop} {X : Nat → Store → Prop}
theorem r_rows {ks : List Int} {m : Int} (hk : Shp ks) (m0 : 0 ≤ m) (m9 : m ≤ 9) (hn : n + 200 ≤ 16777216) (h : ∀ rs n', (∀ r ∈ rs, RoG ks r) → (∀ r ∈ rs, 0 ≤ Wp.idR r ∧ Wp.idR r ≤ 8) → rs.Pairwise (fun r q => Wp.idR r < Wp.idR q) → (rs.length : Int) ≤ m → n' ≤ n + 200 → Q (dRs rs) (tw n' R)) :
    RW (run prg (k + 4) i__law_rows [.scr (ns.map .int), .hnd 0, dI ks, .int m] (tw n R)) Q X := by
  refine Wp.run_w (fn := g__law_rows) rfl rfl ?_
  show OW (ex _ _ [.sh (.scr (ns.map .int)), .sh (.hnd 0), .sh (dI ks), .sh (.int m), .no, .no, .no, .no, .no, .no] _) _
  dsimp only [g__law_rows]
  refine Wp.s_seq (Wp.s_own ?_)
  walk_at "WP!"
  refine r_draw (m := m + 1) (by omega) (by omega) fun c c0 c1 => ?_
  walk_at "WP!"
  have e2 : LIM = 16777216 := rfl
  refine Wp.forL_inv (fun j ρ M => ∃ (s5 s6 s7 s8 s9 : Slot) (ts : List Ro) (n' : Nat), ρ = [.sh (.scr (ns.map .int)), .sh (.hnd 0), .sh (dI ks), .sh (.int m), .ow (.dic (kvG Wp.idR dR ts)), s5, s6, s7, s8, s9] ∧ (ts.map Wp.idR).Nodup ∧ ts.length ≤ j ∧ (∀ r ∈ ts, RoG ks r ∧ 0 ≤ Wp.idR r ∧ Wp.idR r ≤ 8) ∧ n' ≤ n + 1 + 14 * j ∧ M = tw n' R) _ ⟨_, _, _, _, _, [], _, rfl, List.Pairwise.nil, by simp, by simp, by omega, rfl⟩ ?_ ?_
  · rintro j hj ρ M ⟨s5, s6, s7, s8, s9, ts, n', rfl, hd, hl, hok, hn', rfl⟩
    rw [Wp.rangeL_len] at hj
    rw [Wp.rangeL_get]
    refine Wp.s_step (ρ1 := [.sh (.scr (ns.map .int)), .sh (.hnd 0), .sh (dI ks), .sh (.int m), .ow (.dic (kvG Wp.idR dR ts)), .sh (.int (0 + (j : Int))), s6, s7, s8, s9]) rfl ?_
    have hkv : (kvG Wp.idR dR ts).length < LIM := by unfold kvG; rw [List.length_map]; omega
    have put : ∀ (r : Ro), RoG ks r → 0 ≤ Wp.idR r → Wp.idR r ≤ 8 → ((sG Wp.idR ts r).map Wp.idR).Nodup ∧ (sG Wp.idR ts r).length ≤ j + 1 ∧ (∀ q ∈ sG Wp.idR ts r, RoG ks q ∧ 0 ≤ Wp.idR q ∧ Wp.idR q ≤ 8) := by
      intro r h1 h2 h3
      refine ⟨nd_sG _ hd r, by have := len_sG Wp.idR ts r; omega, fun q hq => ?_⟩
      rcases mem_sG _ hq with hq | rfl
      · exact hok q hq
      · exact ⟨h1, h2, h3⟩
    walk_at "WPM!"
    refine Wp.s_seq ?_
    walk_at "WPM!"
    refine r_draw (m := 9) (by omega) (by omega) fun i i0 i1 => ?_
    walk_at "WPM!"
    refine Wp.s_seq ?_
    walk_at "WPM!"
    refine r_draw (m := 3) (by omega) (by omega) fun kd kd0 kd1 => ?_
    walk_at "WPM!"
    refine Wp.s_seq ?_
    walk_at "WPM!"
    refine Wp.p_eq ?_
    walk_at "WPM!"
    · refine Wp.s_seq ?_
      refine Wp.s_setiD rfl ?_
      walk_at "WP!"
      refine ⟨hkv, ?_⟩
      rw [setK_R (i := i) (d := .tup [.str "gone", .int i]) (.gone i) rfl rfl]
      obtain ⟨p1, p2, p3⟩ := put (.gone i) ⟨i0, by omega⟩ i0 (show i ≤ 8 by omega)
      walk_at "WP!"
      exact ⟨_, _, _, _, _, sG Wp.idR ts (.gone i), _, rfl, p1, p2, p3, by omega, rfl⟩
    · refine Wp.s_seq ?_
      walk_at "WPM!"
      refine Wp.p_eq ?_
      walk_at "WPM!"
      · refine Wp.s_seq ?_
        refine Wp.s_setiD rfl ?_
        walk_at "WP!"
        refine r_thing hk i0 (by omega) (by omega) fun t n2 h1 h2 h3 => ?_
        walk_at "WP!"
        refine Wp.p_addNew ?_
        walk_at "WP!"
        refine ⟨hkv, ?_⟩
        rw [setK_R (.new t) h2 rfl]
        obtain ⟨p1, p2, p3⟩ := put (.new t) h1 (show 0 ≤ t.id by omega) (show t.id ≤ 8 by omega)
        walk_at "WP!"
        exact ⟨_, _, _, _, _, sG Wp.idR ts (.new t), _, rfl, p1, p2, p3, by omega, rfl⟩
      · refine Wp.s_cut (fun ρ M => ∃ (s9 : Slot) (xs : List Int) (n2 : Nat), ρ = [.sh (.scr (ns.map .int)), .sh (.hnd 0), .sh (dI ks), .sh (.int m), .ow (.dic (kvG Wp.idR dR ts)), .sh (.int (0 + (j : Int))), .sh (.int i), .sh (.int kd), .sh (.lst (xs.map .int)), s9] ∧ xs ≠ [] ∧ xs.Pairwise (· < ·) ∧ (∀ x ∈ xs, 0 ≤ x ∧ x ≤ 4) ∧ xs.length ≤ 5 ∧ n2 ≤ n' + 8 ∧ M = tw n2 R) ?_ ?_
        · walk_at "WPM!"
          refine Wp.compL_inv (fun j r M => ∃ xs : List Int, r = xs.map .int ∧ xs.Pairwise (· < ·) ∧ (∀ x ∈ xs, 0 ≤ x ∧ x < j) ∧ xs.length ≤ j ∧ M = tw (n' + 1 + 1 + j) R) _ ⟨[], rfl, List.Pairwise.nil, by simp, by simp, rfl⟩ ?_ ?_
          · rintro j hj r M ⟨xs, rfl, up, hx, hxl, rfl⟩
            rw [Wp.rangeL_len] at hj
            rw [Wp.rangeL_get]
            refine Wp.step_if rfl ?_
            dsimp only [wipeR, List.set]
            walk_at "WP!"
            refine r_draw (m := 3) (by omega) (by omega) fun y y0 y1 => ?_
            walk_at "WP!"
            · refine ⟨xs ++ [(j : Int)], by rw [List.map_append]; simp [Wp.addO], ?_, ?_, by simp; omega, rfl⟩
              · rw [List.pairwise_append]
                refine ⟨up, List.pairwise_singleton _ _, fun a ha b hb' => ?_⟩
                rw [List.mem_singleton.mp hb']
                exact (hx a ha).2
              · intro x hx'
                rcases List.mem_append.mp hx' with q | q
                · have := hx x q; omega
                · rw [List.mem_singleton.mp q]; omega
            · exact ⟨xs, rfl, up, fun x hx' => by have := hx x hx'; omega, by omega, rfl⟩
          · rintro r M ⟨xs, rfl, up, hx, hxl, rfl⟩
            rw [Wp.rangeL_len] at hx hxl
            rw [Wp.rangeL_len]
            walk_at "WPM!"
            · refine r_draw (m := 5) (by omega) (by omega) fun y y0 y1 => ?_
              walk_at "WPM!"
              exact ⟨_, [y], _, rfl, by simp, List.pairwise_singleton _ _, fun x hx' => by rw [List.mem_singleton.mp hx']; omega, by simp, by omega, rfl⟩
            · refine ⟨_, xs, _, rfl, ?_, up, fun x hx' => by have := hx x hx'; omega, by omega, by omega, rfl⟩
              rintro rfl
              cases hb
        · rintro ρ M ⟨s9, xs, n2, rfl, hne, up, hx, hxl, hn2, rfl⟩
          walk_at "WP!"
          refine Wp.s_setiD rfl ?_
          walk_at "WP!"
          refine Wp.compL_inv (fun j r M => ∃ cs : List (Int × Int), r = cs.map dCh ∧ cs.map (·.1) = xs.take j ∧ (∀ c ∈ cs, 0 ≤ c.2 ∧ c.2 ≤ 255) ∧ M = tw (n2 + j) R) _ ⟨[], rfl, by simp, by simp, rfl⟩ ?_ ?_
          · rintro j hj r M ⟨cs, rfl, hc, hb2, rfl⟩
            rw [List.length_map] at hj
            rw [List.getElem_map]
            refine Wp.step_all rfl ?_
            dsimp only [wipeR, List.set]
            walk_at "WP!"
            refine r_draw (m := 256) (by omega) (by omega) fun y y0 y1 => ?_
            walk_at "WP!"
            refine ⟨cs ++ [(xs[j], y)], by rw [List.map_append]; simp [Wp.addO, dCh], ?_, ?_, rfl⟩
            · rw [List.map_append, hc, List.take_add_one, List.getElem?_eq_getElem hj]; rfl
            · intro c hc'
              rcases List.mem_append.mp hc' with q | q
              · exact hb2 c q
              · rw [List.mem_singleton.mp q]; exact ⟨y0, show y ≤ 255 by omega⟩
          · rintro r M ⟨cs, rfl, hc, hb2, rfl⟩
            rw [List.length_map, List.take_length] at hc
            rw [List.length_map]
            walk_at "WP!"
            refine ⟨hkv, ?_⟩
            have hcs : CsOk cs := by
              refine ⟨?_, fun c hc' => ?_, ?_⟩
              · rintro rfl; exact hne hc.symm
              · have h1 := hx c.1 (by rw [← hc]; exact List.mem_map.mpr ⟨c, hc', rfl⟩)
                have h2 := hb2 c hc'
                exact ⟨h1.1, h1.2, h2.1, h2.2⟩
              · rw [← hc] at up
                exact List.pairwise_map.mp up
            rw [setK_R (i := i) (d := .tup [.str "changed", .int i, .tup (cs.map dCh)]) (.chg i cs) rfl rfl]
            obtain ⟨p1, p2, p3⟩ := put (.chg i cs) ⟨i0, by omega, hcs⟩ i0 (show i ≤ 8 by omega)
            walk_at "WP!"
            exact ⟨_, _, _, _, _, sG Wp.idR ts (.chg i cs), _, rfl, p1, p2, p3, by omega, rfl⟩
  · rintro ρ M ⟨s5, s6, s7, s8, s9, ts, n', rfl, hd, hl, hok, hn', rfl⟩
    rw [Wp.rangeL_len] at hl hn'
    walk_at "WP!"
    refine Wp.f_sortG (by omega) ?_
    walk_at "WP!"
    refine comp_map D.int dR (aG Wp.idR ts) ?_ ?_
    · intro x hx
      rw [(isort_perm _).mem_iff] at hx
      obtain ⟨t, ht⟩ := aG_has _ hx
      refine Wp.step_all rfl ?_
      dsimp only [wipeR, List.set]
      walk_at "WP!"
      show PW (lookK (kvG Wp.idR dR ts) (.inl x)) _
      rw [lookK_G, ht]
      exact ⟨rfl, rfl⟩
    · walk_at "WP!"
      have hbl := byG_len Wp.idR ts
      exact h (byG Wp.idR ts) _ (fun r hr => (hok r (mem_byG _ hr)).1) (fun r hr => (hok r (mem_byG _ hr)).2) (byG_up _ hd) (by omega) (by omega)
end
theorem x_same : ∀ (n : Nat) {k : Nat} {d : D} {M : Store} {Q : D → Store → Prop} {X : Nat → Store → Prop}, pl n d = true → Q (.bl true) M → RW (run prg (k + n + 1) i__law_same [d, d] M) Q X
  | n, k, .non, M, Q, X, hp, h => by
    refine Wp.run_w (fn := g__law_same) rfl rfl ?_
    show OW (ex _ _ [.sh .non, .sh .non, .no, .no] _) _
    dsimp only [g__law_same]
    walk_at "WP!"
    exact h
  | n, k, .bl b, M, Q, X, hp, h => by
    refine Wp.run_w (fn := g__law_same) rfl rfl ?_
    show OW (ex _ _ [.sh (.bl b), .sh (.bl b), .no, .no] _) _
    dsimp only [g__law_same]
    walk_at "WP!"
    rw [beq_self_eq_true]
    exact h
  | n, k, .int i, M, Q, X, hp, h => by
    refine Wp.run_w (fn := g__law_same) rfl rfl ?_
    show OW (ex _ _ [.sh (.int i), .sh (.int i), .no, .no] _) _
    dsimp only [g__law_same]
    walk_at "WP!"
    rw [show decide (i = i) = true from decide_eq_true rfl]
    exact h
  | n, k, .str x, M, Q, X, hp, h => by
    refine Wp.run_w (fn := g__law_same) rfl rfl ?_
    show OW (ex _ _ [.sh (.str x), .sh (.str x), .no, .no] _) _
    dsimp only [g__law_same]
    walk_at "WP!"
    have hp : okStr x = true := by cases n <;> exact hp
    refine c_eqG hp hp rfl ?_
    rw [show eqD (.str x) (.str x) = true from by simp [eqD]]
    exact h
  | 0, k, .tup ds, M, Q, X, hp, h => nomatch hp
  | n + 1, k, .tup ds, M, Q, X, hp, h => by
    refine Wp.run_w (fn := g__law_same) rfl rfl ?_
    show OW (ex _ _ [.sh (.tup ds), .sh (.tup ds), .no, .no] _) _
    dsimp only [g__law_same]
    walk_at "WP!"
    · exfalso; simp at hb
    show RW (compL _ ((ds.zip ds).map fun p => .tup [p.1, p.2]) M) _ _
    rw [zip_self]
    have hp : ds.all (pl n) = true := hp
    refine comp_all (fun d : D => .tup [d, d]) (fun b => .bl b) (fun _ => true) (fun d hd => ?_) ?_
    · refine Wp.step_all (ρ1 := [.sh (.tup ds), .sh (.tup ds), .sh d, .sh d]) rfl ?_
      walk_at "WP!"
      refine x_same n (List.all_eq_true.mp hp d hd) ?_
      exact ⟨rfl, rfl⟩
    rw [List.map_map]
    refine Wp.all_t (f := fun _ : D => true) (fun _ _ => rfl) ?_
    exact h
  | n, k, .lst _, M, Q, X, hp, h => by cases n <;> cases hp
  | n, k, .scr _, M, Q, X, hp, h => by cases n <;> cases hp
  | n, k, .dic _, M, Q, X, hp, h => by cases n <;> cases hp
  | n, k, .hnd _, M, Q, X, hp, h => by cases n <;> cases hp
  | n, k, .obj _ _, M, Q, X, hp, h => by cases n <;> cases hp
  | n, k, .lck _, M, Q, X, hp, h => by cases n <;> cases hp
section
variable {k : Nat} {M : Store} {Q : D → Store → Prop} {X : Nat → Store → Prop}
theorem a_whole {n : Nat} {d : D} {lo hi : Int} (hd : Sm n d) (h : Q (.bl (whD lo hi d)) M) : RW (run prg (k + 1) i_is_whole [d, .int lo, .int hi] M) Q X := by
  refine Wp.run_w (fn := g_is_whole) rfl rfl ?_
  show OW (ex _ _ [.sh d, .sh (.int lo), .sh (.int hi)] _) _
  dsimp only [g_is_whole]
  cases hd.v with
  | int i =>
    walk_at "WPN!"
    refine Wp.p_le ?_
    walk_at "WPN!"
    · refine Wp.p_le ?_
      have e : whD lo hi (.int i) = decide (i ≤ hi) := by show (decide (lo ≤ i) && _) = _; rw [hb]; rfl
      rw [← e]; exact h
    · have e : whD lo hi (.int i) = false := by show (decide (lo ≤ i) && _) = _; rw [hb]; rfl
      rw [← e]; exact h
  | _ =>
    walk_at "WPN!"
    exact h
theorem a_lwhole {n : Nat} {d : D} {hi : Int} (hd : Sm n d) (h : Q (.bl (whD 0 hi d)) M) : RW (run prg (k + 1) i__law_whole [d, .int hi] M) Q X := by
  refine Wp.run_w (fn := g__law_whole) rfl rfl ?_
  show OW (ex _ _ [.sh d, .sh (.int hi)] _) _
  dsimp only [g__law_whole]
  cases hd.v with
  | int i =>
    walk_at "WPN!"
    refine Wp.p_le ?_
    walk_at "WPN!"
    · refine Wp.p_le ?_
      have e : whD 0 hi (.int i) = decide (i ≤ hi) := by show (decide (0 ≤ i) && _) = _; rw [hb]; rfl
      rw [← e]; exact h
    · have e : whD 0 hi (.int i) = false := by show (decide (0 ≤ i) && _) = _; rw [hb]; rfl
      rw [← e]; exact h
  | _ =>
    walk_at "WPN!"
    exact h
end
section
variable {k : Nat} {M : Store} {Q : D → Store → Prop} {X : Nat → Store → Prop}
theorem a_shapes {n : Nat} {d : D} (hd : Sm n d) (h : Q (.bl (shD d)) M) : RW (run prg (k + 2) i_are_shapes [d] M) Q X := by
  refine Wp.run_w (fn := g_are_shapes) rfl rfl ?_
  show OW (ex _ _ [.sh d, .no] _) _
  dsimp only [g_are_shapes]
  cases hd.v with
  | tup m ds _ hl hm =>
    walk_at "WPN!"
    refine Wp.p_le ?_
    walk_at "WPN!"
    · refine Wp.p_le ?_
      walk_at "WPN!"
      · have e : shD (.tup ds) = false := by
          have h1 : ¬ (ds.length : Int) ≤ 4 := by simpa using hb
          show (decide ((1 : Int) ≤ ds.length) && (decide ((ds.length : Int) ≤ 4) && _)) = _
          rw [decide_eq_false h1, Bool.false_and, Bool.and_false]
        rw [← e]; exact h
      · refine comp_bls (whD 0 5) (fun d hd => ?_) ?_
        · refine Wp.step_all rfl ?_
          dsimp only [wipeR, List.set]
          walk_at "WPN!"
          exact a_whole (hm d hd) ⟨rfl, rfl⟩
        walk_at "WPN!"
        refine Wp.all_f ?_
        have e : shD (.tup ds) = ds.all (whD 0 5) := by show (decide ((1 : Int) ≤ ds.length) && (decide ((ds.length : Int) ≤ 4) && _)) = _; simp_all
        rw [← e]; exact h
    · have e : shD (.tup ds) = false := by
        show (decide ((1 : Int) ≤ ds.length) && (decide ((ds.length : Int) ≤ 4) && _)) = _
        rw [hb, Bool.false_and]
      rw [← e]; exact h
  | _ =>
    walk_at "WPN!"
    exact h
theorem a_lshapes {n : Nat} {d : D} (hd : Sm n d) (h : Q (.bl (shD d)) M) : RW (run prg (k + 2) i__law_are_shapes [d] M) Q X := by
  refine Wp.run_w (fn := g__law_are_shapes) rfl rfl ?_
  show OW (ex _ _ [.sh d, .no] _) _
  dsimp only [g__law_are_shapes]
  cases hd.v with
  | tup m ds _ hl hm =>
    walk_at "WPN!"
    refine Wp.p_lt ?_
    walk_at "WPN!"
    · refine Wp.p_lt ?_
      walk_at "WPN!"
      · have e : shD (.tup ds) = false := by
          have h1 : ¬ (ds.length : Int) < 5 := by simpa using hb
          show (decide ((1 : Int) ≤ ds.length) && (decide ((ds.length : Int) ≤ 4) && _)) = _
          rw [decide_eq_false (show ¬ (ds.length : Int) ≤ 4 by omega), Bool.false_and, Bool.and_false]
        rw [← e]; exact h
      · refine comp_bad (whD 0 5) (fun d hd => ?_) fun r hr => ?_
        · refine Wp.step_if rfl ?_
          dsimp only [wipeR, List.set]
          walk_at "WPN!"
          refine a_lwhole (hm d hd) ?_
          walk_at "WPN!"
          · exact ⟨by rw [if_neg (by simpa using hb)], rfl⟩
          · exact ⟨by rw [if_pos (by simpa using hb)], rfl⟩
        walk_at "WPN!"
        have e : shD (.tup ds) = !(!r.isEmpty) := by
          rename_i h0
          have h1 : (ds.length : Int) < 5 := by simpa using hb
          have h2 : (0 : Int) < ds.length := by simpa using h0
          show (decide ((1 : Int) ≤ ds.length) && (decide ((ds.length : Int) ≤ 4) && _)) = _
          rw [decide_eq_true (show (1 : Int) ≤ ds.length by omega), decide_eq_true (show (ds.length : Int) ≤ 4 by omega), Bool.not_not, hr]; rfl
        rw [← e]; exact h
    · have e : shD (.tup ds) = false := by
        have h1 : ¬ (0 : Int) < ds.length := by simpa using hb
        show (decide ((1 : Int) ≤ ds.length) && (decide ((ds.length : Int) ≤ 4) && _)) = _
        rw [decide_eq_false (show ¬ (1 : Int) ≤ ds.length by omega), Bool.false_and]
      rw [← e]; exact h
  | _ =>
    walk_at "WPN!"
    exact h
theorem a_thing {n : Nat} {ks : List Int} {d : D} (hd : Sm n d) (h : Q (.bl (thD ks d)) M) : RW (run prg (k + 2) i_is_thing [dI ks, d] M) Q X := by
  refine Wp.run_w (fn := g_is_thing) rfl rfl ?_
  show OW (ex _ _ [.sh (dI ks), .sh d, .no] _) _
  dsimp only [g_is_thing]
  cases hd.v with
  | tup m ds _ hl hm =>
    by_cases h3 : ds.length = 3
    · obtain ⟨a, b, c, rfl⟩ : ∃ a b c, ds = [a, b, c] := by
        match ds, h3 with
        | [a, b, c], _ => exact ⟨a, b, c, rfl⟩
      have ha := hm a (by simp)
      have hbm := hm b (by simp)
      have hc := hm c (by simp)
      walk_at "WPN!"
      refine Wp.x_ne rfl ?_
      walk_at "WPN!"
      refine Wp.pw_eq (a := a) rfl ?_
      walk_at "WPN!"
      refine a_whole ha ?_
      walk_at "WPN!"
      · rw [← thD_a (ks := ks) (b := b) (c := c) (show whD 0 99 a = false by simpa using hb)]; exact h
      have h1 : whD 0 99 a = true := by simpa using hb
      refine Wp.pw_eq (a := b) rfl ?_
      walk_at "WPN!"
      refine a_whole hbm ?_
      walk_at "WPN!"
      · rw [← thD_b (ks := ks) (a := a) (b := b) (c := c) (by simpa using hb)]; exact h
      have h2 : whD 0 (ks.length - 1) b = true := by simpa using hb
      obtain ⟨i, rfl, i0, i1⟩ := whD_int h2
      refine Wp.pw_eq (a := c) rfl ?_
      cases hc.v with
      | tup m2 fs _ hl2 hfs =>
        have hi : i.toNat < ks.length := by omega
        walk_at "WPN!"
        refine Wp.pw_eq (a := .tup fs) rfl ?_
        walk_at "WPN!"
        refine Wp.pw_eq (a := .int i) rfl ?_
        refine Wp.i_I (v := ks.getD i.toNat 0) ?_ ?_
        · obtain ⟨_, e⟩ := atI_get (l := ks) i0 (by omega)
          rw [e, List.getD_eq_getElem?_getD, List.getElem?_eq_getElem hi]; rfl
        refine Wp.p_eq ?_
        walk_at "WPN!"
        rotate_left 1
        · have e : thD ks (.tup [a, .int i, .tup fs]) = false := by rw [thD_c h1 h2, hb]; rfl
          rw [hb, ← e]; exact h
        refine Wp.pw_eq (a := .tup fs) rfl ?_
        walk_at "WPN!"
        refine comp_bls (whD 0 255) (fun d hd => ?_) ?_
        · refine Wp.step_all rfl ?_
          dsimp only [wipeR, List.set]
          walk_at "WPN!"
          exact a_whole (hfs d hd) ⟨rfl, rfl⟩
        walk_at "WPN!"
        refine Wp.all_f ?_
        have e : thD ks (.tup [a, .int i, .tup fs]) = fs.all (whD 0 255) := by rw [thD_c h1 h2, hb]; rfl
        rw [← e]; exact h
      | _ =>
        walk_at "WPN!"
        exact h
    · walk_at "WPN!"
      refine Wp.p_ne ?_
      rw [decide_eq_false (show ¬ ((ds.length : Int) = 3) by omega)]
      walk_at "WPN!"
      rw [← thD_len (ks := ks) h3]; exact h
  | _ =>
    walk_at "WPN!"
    exact h
theorem a_lthing {n : Nat} {ks : List Int} {d : D} (hd : Sm n d) (h : Q (.bl (thD ks d)) M) : RW (run prg (k + 2) i__law_is_thing [dI ks, d] M) Q X := by
  refine Wp.run_w (fn := g__law_is_thing) rfl rfl ?_
  show OW (ex _ _ [.sh (dI ks), .sh d, .no] _) _
  dsimp only [g__law_is_thing]
  cases hd.v with
  | tup m ds _ hl hm =>
    by_cases h3 : ds.length = 3
    · obtain ⟨a, b, c, rfl⟩ : ∃ a b c, ds = [a, b, c] := by
        match ds, h3 with
        | [a, b, c], _ => exact ⟨a, b, c, rfl⟩
      have ha := hm a (by simp)
      have hbm := hm b (by simp)
      have hc := hm c (by simp)
      walk_at "WPN!"
      refine Wp.x_ne rfl ?_
      walk_at "WPN!"
      refine Wp.pw_eq (a := a) rfl ?_
      walk_at "WPN!"
      refine a_lwhole ha ?_
      walk_at "WPN!"
      · rw [← thD_a (ks := ks) (b := b) (c := c) (show whD 0 99 a = false by simpa using hb)]; exact h
      have h1 : whD 0 99 a = true := by simpa using hb
      refine Wp.pw_eq (a := b) rfl ?_
      walk_at "WPN!"
      refine a_lwhole hbm ?_
      walk_at "WPN!"
      · rw [← thD_b (ks := ks) (a := a) (b := b) (c := c) (by simpa using hb)]; exact h
      have h2 : whD 0 (ks.length - 1) b = true := by simpa using hb
      obtain ⟨i, rfl, i0, i1⟩ := whD_int h2
      refine Wp.pw_eq (a := c) rfl ?_
      cases hc.v with
      | tup m2 fs _ hl2 hfs =>
        have hi : i.toNat < ks.length := by omega
        walk_at "WPN!"
        refine Wp.pw_eq (a := .tup fs) rfl ?_
        walk_at "WPN!"
        refine Wp.pw_eq (a := .int i) rfl ?_
        refine Wp.i_I (v := ks.getD i.toNat 0) ?_ ?_
        · obtain ⟨_, e⟩ := atI_get (l := ks) i0 (by omega)
          rw [e, List.getD_eq_getElem?_getD, List.getElem?_eq_getElem hi]; rfl
        refine Wp.p_eq ?_
        walk_at "WPN!"
        rotate_left 1
        · have e : thD ks (.tup [a, .int i, .tup fs]) = false := by rw [thD_c h1 h2, hb]; rfl
          rw [hb, ← e]; exact h
        refine Wp.pw_eq (a := .tup fs) rfl ?_
        walk_at "WPN!"
        refine comp_bad (whD 0 255) (fun d hd => ?_) fun r hr => ?_
        · refine Wp.step_if rfl ?_
          dsimp only [wipeR, List.set]
          walk_at "WPN!"
          refine a_lwhole (hfs d hd) ?_
          walk_at "WPN!"
          · exact ⟨by rw [if_neg (by simpa using hb)], rfl⟩
          · exact ⟨by rw [if_pos (by simpa using hb)], rfl⟩
        walk_at "WPN!"
        have e : thD ks (.tup [a, .int i, .tup fs]) = !(!r.isEmpty) := by rw [thD_c h1 h2, hb, Bool.not_not, hr]; rfl
        rw [← e]; exact h
      | _ =>
        walk_at "WPN!"
        exact h
    · walk_at "WPN!"
      refine Wp.p_ne ?_
      rw [decide_eq_false (show ¬ ((ds.length : Int) = 3) by omega)]
      walk_at "WPN!"
      rw [← thD_len (ks := ks) h3]; exact h
  | _ =>
    walk_at "WPN!"
    exact h
end
section
variable {k : Nat} {M : Store} {Q : D → Store → Prop} {X : Nat → Store → Prop}
theorem idx_f0 {i : Int} {r : List D} {kk : D → Prop} (h : kk (.int i)) : PW (idxD (.tup (.int i :: r)) (.int 0)) kk := by
  show PW (atI (D.int i :: r) 0) kk
  rw [at_0]; exact h
theorem lrise_eq (l : List Int) : adj l = !(!(((List.range ((l.length : Int) - 1).toNat).filterMap fun (i : Nat) => if l.getD i 0 ≥ l.getD (i + 1) 0 then some (1 + (i : Int)) else none).map D.int).isEmpty) := by
  rw [Bool.not_not, Bool.eq_iff_iff, adj_at, List.isEmpty_iff, List.map_eq_nil_iff, List.filterMap_eq_nil_iff]
  constructor
  · intro h i hi
    have hi := List.mem_range.mp hi
    have g1 : i < l.length := by omega
    have g2 : i + 1 < l.length := by omega
    have := h i g2
    rw [show l.getD i 0 = l[i] from by rw [List.getD_eq_getElem?_getD, List.getElem?_eq_getElem g1]; rfl, show l.getD (i + 1) 0 = l[i + 1] from by rw [List.getD_eq_getElem?_getD, List.getElem?_eq_getElem g2]; rfl, if_neg (by omega)]
  · intro h i g2
    have g1 : i < l.length := by omega
    have := h i (List.mem_range.mpr (by omega))
    rw [show l.getD i 0 = l[i] from by rw [List.getD_eq_getElem?_getD, List.getElem?_eq_getElem g1]; rfl, show l.getD (i + 1) 0 = l[i + 1] from by rw [List.getD_eq_getElem?_getD, List.getElem?_eq_getElem g2]; rfl] at this
    by_cases q : l[i] ≥ l[i + 1]
    · rw [if_pos q] at this; cases this
    · omega
theorem a_rise {l : List Int} (hl : l.length ≤ 200) (h : Q (.bl (adj l)) M) : RW (run prg (k + 1) i__law_rise [.lst (l.map .int)] M) Q X := by
  have h1 : prg[i__law_rise]? = some g__law_rise := rfl
  have h2 : ([.lst (l.map D.int)] : List D).length = g__law_rise.np := rfl
  with_reducible refine Wp.run_w h1 h2 ?_
  clear h1 h2
  show OW (ex _ _ [.sh (.lst (l.map .int)), .no] _) _
  dsimp only [g__law_rise]
  walk_at "WPN!"
  show RW (compL _ ((List.range ((l.length : Int) - 1).toNat).map fun (i : Nat) => D.int (1 + (i : Int))) _) _ _
  refine comp_map (fun (i : Nat) => D.int (1 + (i : Int))) D.int (fun (i : Nat) => if l.getD i 0 ≥ l.getD (i + 1) 0 then some (1 + (i : Int)) else none) (fun i hi => ?_) ?_
  · have hi := List.mem_range.mp hi
    have g1 : i < l.length := by omega
    have g2 : i + 1 < l.length := by omega
    refine Wp.step_if rfl ?_
    dsimp only [wipeR, List.set]
    walk_at "WPN!"
    rw [show (1 + (i : Int) - 1) = (i : Int) from by omega, atI_map, at_nat00 g1]
    refine Wp.pw_eq (a := .int l[i]) rfl ?_
    walk_at "WPN!"
    rw [show (1 + (i : Int)) = ((i + 1 : Nat) : Int) from by omega, atI_map, at_nat00 g2]
    refine Wp.pw_eq (a := .int l[i + 1]) rfl ?_
    refine Wp.p_ge ?_
    rw [show l.getD i 0 = l[i] from by rw [List.getD_eq_getElem?_getD, List.getElem?_eq_getElem g1]; rfl, show l.getD (i + 1) 0 = l[i + 1] from by rw [List.getD_eq_getElem?_getD, List.getElem?_eq_getElem g2]; rfl]
    walk_at "WPN!"
    · exact ⟨by rw [if_pos (of_decide_eq_true hb)]; rfl, rfl⟩
    · exact ⟨by rw [if_neg (of_decide_eq_false hb)]; rfl, rfl⟩
  walk_at "WPN!"
  rw [← lrise_eq]; exact h
theorem a_stand {n : Nat} {ks : List Int} {d : D} (hd : Sm n d) (h : Q (.bl (stD ks d)) M) : RW (run prg (k + 3) i_is_stand [dI ks, d] M) Q X := by
  refine Wp.run_w (fn := g_is_stand) rfl rfl ?_
  show OW (ex _ _ [.sh (dI ks), .sh d, .no, .no] _) _
  dsimp only [g_is_stand]
  cases hd.v with
  | tup m ds _ hl hm =>
    walk_at "WPN!"
    refine comp_bls (thD ks) (fun d hd => ?_) ?_
    · refine Wp.step_all rfl ?_
      dsimp only [wipeR, List.set]
      walk_at "WPN!"
      exact a_thing (hm d hd) ⟨rfl, rfl⟩
    walk_at "WPN!"
    refine Wp.all_f ?_
    walk_at "WPN!"
    · have e : stD ks (.tup ds) = false := by show (ds.all (thD ks) && _) = _; rw [show ds.all (thD ks) = false by simpa using hb]; rfl
      rw [← e]; exact h
    have hall : ds.all (thD ks) = true := by simpa using hb
    have hgood := List.all_eq_true.mp hall
    refine sl_iT ?_
    walk_at "WPN!"
    refine sl_tT ?_
    walk_at "WPN!"
    refine zip_TT ?_
    refine comp_all (fun p : D × D => D.tup [p.1, p.2]) D.bl (fun p => decide (f0 p.1 < f0 p.2)) (fun p hp => ?_) ?_
    · obtain ⟨i, r, e1⟩ := thD_first (hgood p.1 ((List.dropLast_sublist _).subset (List.of_mem_zip hp).1))
      obtain ⟨i2, r2, e2⟩ := thD_first (hgood p.2 (List.mem_of_mem_tail (List.of_mem_zip hp).2))
      rw [e1, e2]
      refine Wp.step_all rfl ?_
      dsimp only [wipeR, List.set]
      walk_at "WPN!"
      refine idx_f0 ?_
      walk_at "WPN!"
      refine idx_f0 ?_
      refine Wp.p_lt ?_
      exact ⟨rfl, rfl⟩
    rw [List.map_map]
    walk_at "WPN!"
    refine Wp.all_f (f := fun p : D × D => decide (f0 p.1 < f0 p.2)) ?_
    rw [zip_adj]
    have e : stD ks (.tup ds) = adj (ds.map f0) := by show (ds.all (thD ks) && _) = _; rw [hall]; rfl
    rw [← e]; exact h
  | _ =>
    walk_at "WPN!"
    exact h
theorem a_lstand {n : Nat} {ks : List Int} {d : D} (hd : Sm n d) (h : Q (.bl (stD ks d)) M) : RW (run prg (k + 3) i__law_is_stand [dI ks, d] M) Q X := by
  refine Wp.run_w (fn := g__law_is_stand) rfl rfl ?_
  show OW (ex _ _ [.sh (dI ks), .sh d, .no] _) _
  dsimp only [g__law_is_stand]
  cases hd.v with
  | tup m ds _ hl hm =>
    walk_at "WPN!"
    refine comp_bad (thD ks) (fun d hd => ?_) fun r hr => ?_
    · refine Wp.step_if rfl ?_
      dsimp only [wipeR, List.set]
      walk_at "WPN!"
      refine a_lthing (hm d hd) ?_
      walk_at "WPN!"
      · exact ⟨by rw [if_neg (by simpa using hb)], rfl⟩
      · exact ⟨by rw [if_pos (by simpa using hb)], rfl⟩
    walk_at "WPN!"
    · have e : stD ks (.tup ds) = false := by show (ds.all (thD ks) && _) = _; rw [← hr, show r.isEmpty = false by simpa using hb]; rfl
      rw [← e]; exact h
    have hall : ds.all (thD ks) = true := by rw [← hr]; simpa using hb
    have hgood := List.all_eq_true.mp hall
    refine comp_ints f0 (fun d hd => ?_) ?_
    · obtain ⟨i, r, e1⟩ := thD_first (hgood d hd)
      rw [e1]
      refine Wp.step_all rfl ?_
      dsimp only [wipeR, List.set]
      walk_at "WPN!"
      refine idx_f0 ?_
      exact ⟨rfl, rfl⟩
    walk_at "WPN!"
    with_reducible refine a_rise (l := ds.map f0) (by rw [List.length_map]; omega) ?_
    have e : stD ks (.tup ds) = adj (ds.map f0) := by show (ds.all (thD ks) && _) = _; rw [hall]; rfl
    rw [← e]; exact h
  | _ =>
    walk_at "WPN!"
    exact h
theorem a_change {n : Nat} {d : D} (hd : Sm n d) (h : Q (.bl (chD d)) M) : RW (run prg (k + 2) i_is_change [d] M) Q X := by
  refine Wp.run_w (fn := g_is_change) rfl rfl ?_
  show OW (ex _ _ [.sh d] _) _
  dsimp only [g_is_change]
  cases hd.v with
  | tup m ds _ hl hm =>
    by_cases h2 : ds.length = 2
    · obtain ⟨a, b, rfl⟩ : ∃ a b, ds = [a, b] := by
        match ds, h2 with
        | [a, b], _ => exact ⟨a, b, rfl⟩
      walk_at "WPN!"
      refine Wp.x_ne rfl ?_
      walk_at "WPN!"
      refine Wp.pw_eq (a := a) rfl ?_
      walk_at "WPN!"
      refine a_whole (hm a (by simp)) ?_
      walk_at "WPN!"
      · refine Wp.pw_eq (a := b) rfl ?_
        walk_at "WPN!"
        refine a_whole (hm b (by simp)) ?_
        have e : chD (.tup [a, b]) = whD 0 255 b := by show (whD 0 (5 - 1) a && _) = _; rw [hb]; rfl
        rw [← e]; exact h
      · have e : chD (.tup [a, b]) = false := by show (whD 0 (5 - 1) a && _) = _; rw [hb]; rfl
        rw [hb, ← e]; exact h
    · walk_at "WPN!"
      refine Wp.p_ne ?_
      rw [decide_eq_false (show ¬ ((ds.length : Int) = 2) by omega)]
      walk_at "WPN!"
      rw [← chD_len h2]; exact h
  | _ =>
    walk_at "WPN!"
    exact h
end
theorem zip_LI {a b : List Int} {kl : List D → Prop} (h : kl ((a.zip b).map fun p => .tup [.int p.1, .int p.2])) : PW (zipO (.lst (a.map .int)) (.lst (b.map .int))) kl := by
  show kl ((List.zip (a.map D.int) (b.map D.int)).map fun p => .tup [p.1, p.2])
  rw [List.zip_map, List.map_map]; exact h
theorem okS1 : okStr "gone" = true := by decide +kernel
theorem okS2 : okStr "new" = true := by decide +kernel
theorem okS3 : okStr "changed" = true := by decide +kernel
theorem rw_str (ks : List Int) (x : Str) (r : List D) : rwD ks (.tup (.str x :: r)) = if (x == "gone") = true then (match r with
      | [a] => whD 0 99 a
      | _ => false) else if (x == "new") = true then thD ks (.tup r) else if (x == "changed") = true then (match r with
      | [a, c] => whD 0 99 a && csD c
      | _ => false) else false := rfl
theorem idx_1 {a b : D} {r : List D} {kk : D → Prop} (h : kk b) : PW (idxD (.tup (a :: b :: r)) (.int 1)) kk := by
  show PW (atI (a :: b :: r) ((1 : Nat) : Int)) kk
  rw [at_nat00 (by simp)]; exact h
theorem idx_0 {a : D} {r : List D} {kk : D → Prop} (h : kk a) : PW (idxD (.tup (a :: r)) (.int 0)) kk := by
  show PW (atI (a :: r) 0) kk
  rw [at_0]; exact h
theorem idx_2 {a b c : D} {r : List D} {kk : D → Prop} (h : kk c) : PW (idxD (.tup (a :: b :: c :: r)) (.int 2)) kk := by
  show PW (atI (a :: b :: c :: r) ((2 : Nat) : Int)) kk
  rw [at_nat00 (by simp)]; exact h
theorem rw_short (ks : List Int) {ds : List D} (h : ds.length < 2) : rwD ks (.tup ds) = false := by
  match ds, h with
  | [], _ => rfl
  | [a], _ =>
    cases a <;> first | rfl | skip
    rename_i x
    rw [rw_str]
    have : thD ks (.tup []) = false := rfl
    split
    · rfl
    · split
      · rfl
      · split <;> rfl
theorem rw_nostr (ks : List Int) {a : D} {r : List D} (h : isiD a .str = some false) : rwD ks (.tup (a :: r)) = false := by
  cases a <;> first | rfl | (cases h; done)
theorem nin_2 {x : Str} {M : Store} {kb : Bool → Prop} (hx : okStr x = true) (h : kb (!((x == "gone") || (x == "changed")))) : PW (cmpD .notin (.str x) (dr M (.tup [.str "gone", .str "changed"]))) kb := by
  show kb (!inD (.str x) [.str "gone", .str "changed"])
  have e : inD (.str x) [.str "gone", .str "changed"] = ((x == "gone") || (x == "changed")) := by
    show ((("gone" : Str) == x) || ((("changed" : Str) == x) || false)) = _
    rw [Bool.or_false, Bool.eq_iff_iff]
    simp only [Bool.or_eq_true, beq_iff_eq]
    exact ⟨fun h => h.imp Eq.symm Eq.symm, fun h => h.imp Eq.symm Eq.symm⟩
  rw [e]; exact h
section
variable {k : Nat} {M : Store} {Q : D → Store → Prop} {X : Nat → Store → Prop}
theorem a_row {n : Nat} {ks : List Int} {d : D} (hn : n ≤ 50) (hd : Sm n d) (h : Q (.bl (rwD ks d)) M) : RW (run prg (k + 3) i_is_row [dI ks, d] M) Q X := by
  have h1 : prg[i_is_row]? = some g_is_row := rfl
  have h2 : ([dI ks, d] : List D).length = g_is_row.np := rfl
  with_reducible refine Wp.run_w h1 h2 ?_
  clear h1 h2
  show OW (ex _ _ [.sh (dI ks), .sh d, .no, .no, .no] _) _
  dsimp only [g_is_row]
  cases hd.v with
  | tup m ds _ hl hm =>
    walk_at "WPN!"
    refine Wp.p_lt ?_
    by_cases h2 : ds.length < 2
    · rw [decide_eq_true (show (ds.length : Int) < 2 by omega)]
      walk_at "WPN!"
      rw [← rw_short ks h2]; exact h
    rw [decide_eq_false (show ¬ (ds.length : Int) < 2 by omega)]
    obtain ⟨a, b, r, rfl⟩ : ∃ a b r, ds = a :: b :: r := by
      match ds, h2 with
      | [], h => exact absurd (by simp) h
      | [a], h => exact absurd (by simp) h
      | a :: b :: r, _ => exact ⟨a, b, r, rfl⟩
    have ha := hm a (by simp)
    have hbm := hm b (by simp)
    walk_at "WPN!"
    refine idx_0 ?_
    cases ha.v with
    | str x hx =>
      walk_at "WPN!"
      refine idx_0 ?_
      walk_at "WPN!"
      refine c_eqStr hx okS1 ?_
      walk_at "WPN!"
      · have hb1 : (x == "gone") = true := hb
        refine Wp.p_eq ?_
        walk_at "WPN!"
        · have hr : r = [] := by
            have : (((.str x :: b :: r : List D).length : Int)) = 2 := of_decide_eq_true hb
            cases r with
            | nil => rfl
            | cons c r => simp at this; omega
          subst hr
          refine idx_1 ?_
          walk_at "WPN!"
          refine a_whole hbm ?_
          have e : rwD ks (.tup [.str x, b]) = whD 0 99 b := by rw [rw_str, if_pos hb1]
          rw [← e]; exact h
        · have e : rwD ks (.tup (.str x :: b :: r)) = false := by
            rw [rw_str, if_pos hb1]
            cases r with
            | nil => exact absurd hb (by simp)
            | cons c r => rfl
          rw [hb, ← e]; exact h
      have hb1 : ¬ (x == "gone") = true := by rw [hb]; simp
      refine idx_0 ?_
      walk_at "WPN!"
      refine c_eqStr hx okS2 ?_
      walk_at "WPN!"
      · have hb2 : (x == "new") = true := hb
        refine sl_tT ?_
        walk_at "WPN!"
        refine a_thing (n := m + 1) ⟨by simp at hl ⊢; omega, fun d hd => hm d (List.mem_cons_of_mem _ hd)⟩ ?_
        have e : rwD ks (.tup (.str x :: b :: r)) = thD ks (.tup (b :: r)) := by rw [rw_str, if_neg hb1, if_pos hb2]
        show Q (.bl (thD ks (.tup (b :: r)))) M
        rw [← e]; exact h
      have hb2 : ¬ (x == "new") = true := by rw [hb]; simp
      refine idx_0 ?_
      walk_at "WPN!"
      refine c_neStr hx okS3 ?_
      walk_at "WPN!"
      · have e : rwD ks (.tup (.str x :: b :: r)) = false := by rw [rw_str, if_neg hb1, if_neg hb2, if_neg (by simpa using hb)]
        rw [← e]; exact h
      have hb3 : (x == "changed") = true := by simpa using hb
      refine Wp.p_ne ?_
      walk_at "WPN!"
      · have e : rwD ks (.tup (.str x :: b :: r)) = false := by
          rw [rw_str, if_neg hb1, if_neg hb2, if_pos hb3]
          match r, hb with
          | [], _ => rfl
          | [c], hb => exact absurd hb (by simp)
          | c :: c2 :: r, _ => rfl
        rw [← e]; exact h
      obtain ⟨c, rfl⟩ : ∃ c, r = [c] := by
        match r, hb with
        | [], hb => exact absurd hb (by simp)
        | [c], _ => exact ⟨c, rfl⟩
        | c :: c2 :: r, hb => exact absurd hb (by simp; omega)
      have hc := hm c (by simp)
      have e0 : rwD ks (.tup [.str x, b, c]) = (whD 0 99 b && csD c) := by rw [rw_str, if_neg hb1, if_neg hb2, if_pos hb3]
      refine idx_1 ?_
      walk_at "WPN!"
      refine a_whole hbm ?_
      walk_at "WPN!"
      · have e : rwD ks (.tup [.str x, b, c]) = false := by rw [e0, show whD 0 99 b = false by simpa using hb]; rfl
        rw [← e]; exact h
      have hw : whD 0 99 b = true := by simpa using hb
      rw [hw, Bool.true_and] at e0
      rw [e0] at h
      refine idx_2 ?_
      cases hc.v with
      | tup m2 cs hm2 hl2 hm2' =>
        walk_at "WPN!"
        refine idx_2 ?_
        walk_at "WPN!"
        refine c_eq0T hc (by omega) ?_
        walk_at "WPN!"
        · have e : csD (.tup cs) = false := by show (!cs.isEmpty && _) = _; rw [hb]; rfl
          rw [← e]; exact h
        have hne : cs.isEmpty = false := hb
        refine idx_2 ?_
        walk_at "WPN!"
        refine comp_bls chD (fun d hd => ?_) ?_
        · refine Wp.step_all rfl ?_
          dsimp only [wipeR, List.set]
          walk_at "WPN!"
          exact a_change (hm2' d hd) ⟨rfl, rfl⟩
        walk_at "WPN!"
        refine Wp.all_f ?_
        walk_at "WPN!"
        · have e : csD (.tup cs) = false := by show (!cs.isEmpty && (cs.all chD && _)) = _; rw [show cs.all chD = false by simpa using hb, Bool.false_and, Bool.and_false]
          rw [← e]; exact h
        have hall : cs.all chD = true := by simpa using hb
        have hgood := List.all_eq_true.mp hall
        refine idx_2 ?_
        walk_at "WPN!"
        refine comp_ints f0 (fun d hd => ?_) ?_
        · obtain ⟨i, r, e1⟩ := chD_first (hgood d hd)
          rw [e1]
          refine Wp.step_all rfl ?_
          dsimp only [wipeR, List.set]
          walk_at "WPN!"
          refine idx_f0 ?_
          exact ⟨rfl, rfl⟩
        walk_at "WPN!"
        refine Wp.sl_genL ?_
        walk_at "WPN!"
        refine Wp.sl_genL1 ?_
        walk_at "WPN!"
        refine zip_LI ?_
        refine comp_all (fun p : Int × Int => D.tup [.int p.1, .int p.2]) D.bl (fun p => decide (p.1 < p.2)) (fun p hp => ?_) ?_
        · refine Wp.step_all rfl ?_
          dsimp only [wipeR, List.set]
          walk_at "WPN!"
          refine Wp.p_lt ?_
          exact ⟨rfl, rfl⟩
        rw [List.map_map]
        walk_at "WPN!"
        refine Wp.all_f (f := fun p : Int × Int => decide (p.1 < p.2)) ?_
        rw [adj_zip]
        have e : csD (.tup cs) = adj (cs.map f0) := by show (!cs.isEmpty && (cs.all chD && _)) = _; rw [hne, hall]; rfl
        rw [← e]; exact h
      | _ =>
        walk_at "WPN!"
        exact h
    | _ =>
      walk_at "WPN!"
      exact h
  | _ =>
    walk_at "WPN!"
    exact h
theorem a_lrow {n : Nat} {ks : List Int} {d : D} (hn : n ≤ 50) (hd : Sm n d) (h : Q (.bl (rwD ks d)) M) : RW (run prg (k + 3) i__law_is_row [dI ks, d] M) Q X := by
  have h1 : prg[i__law_is_row]? = some g__law_is_row := rfl
  have h2 : ([dI ks, d] : List D).length = g__law_is_row.np := rfl
  with_reducible refine Wp.run_w h1 h2 ?_
  clear h1 h2
  show OW (ex _ _ [.sh (dI ks), .sh d, .no] _) _
  dsimp only [g__law_is_row]
  cases hd.v with
  | tup m ds _ hl hm =>
    walk_at "WPN!"
    refine Wp.p_lt ?_
    by_cases h2 : ds.length < 2
    · rw [decide_eq_true (show (ds.length : Int) < 2 by omega)]
      walk_at "WPN!"
      rw [← rw_short ks h2]; exact h
    rw [decide_eq_false (show ¬ (ds.length : Int) < 2 by omega)]
    obtain ⟨a, b, r, rfl⟩ : ∃ a b r, ds = a :: b :: r := by
      match ds, h2 with
      | [], h => exact absurd (by simp) h
      | [a], h => exact absurd (by simp) h
      | a :: b :: r, _ => exact ⟨a, b, r, rfl⟩
    have ha := hm a (by simp)
    have hbm := hm b (by simp)
    walk_at "WPN!"
    refine idx_0 ?_
    cases ha.v with
    | str x hx =>
      walk_at "WPN!"
      refine idx_0 ?_
      walk_at "WPN!"
      refine c_eqStr hx okS2 ?_
      walk_at "WPN!"
      · have hb2 : (x == "new") = true := hb
        have hb1 : ¬ (x == "gone") = true := by rw [eq_of_beq hb2]; decide +kernel
        refine sl_tT ?_
        walk_at "WPN!"
        refine a_lthing (n := m + 1) ⟨by simp at hl ⊢; omega, fun d hd => hm d (List.mem_cons_of_mem _ hd)⟩ ?_
        have e : rwD ks (.tup (.str x :: b :: r)) = thD ks (.tup (b :: r)) := by rw [rw_str, if_neg hb1, if_pos hb2]
        show Q (.bl (thD ks (.tup (b :: r)))) M
        rw [← e]; exact h
      have hb2 : ¬ (x == "new") = true := by rw [hb]; simp
      refine idx_1 ?_
      walk_at "WPN!"
      refine a_lwhole hbm ?_
      walk_at "WPN!"
      · have hw : whD 0 99 b = false := by simpa using hb
        have e : rwD ks (.tup (.str x :: b :: r)) = false := by
          rw [rw_str, if_neg hb2]
          split
          · match r with
            | [] => exact hw
            | c :: r => rfl
          · split
            · match r with
              | [] => rfl
              | [c] => show (whD 0 99 b && _) = _; rw [hw]; rfl
              | c :: c2 :: r => rfl
            · rfl
        rw [← e]; exact h
      have hw : whD 0 99 b = true := by simpa using hb
      refine idx_0 ?_
      walk_at "WPN!"
      refine nin_2 hx ?_
      walk_at "WPN!"
      · have h3 : ¬ (x == "gone") = true ∧ ¬ (x == "changed") = true := by
          have : (!((x == "gone") || (x == "changed"))) = true := hb
          simpa using this
        have e : rwD ks (.tup (.str x :: b :: r)) = false := by rw [rw_str, if_neg h3.1, if_neg hb2, if_neg h3.2]
        rw [← e]; exact h
      have hin : (x == "gone") = true ∨ (x == "changed") = true := by
        have : (!((x == "gone") || (x == "changed"))) = false := hb
        rw [Bool.not_eq_false', Bool.or_eq_true] at this
        exact this
      refine idx_0 ?_
      walk_at "WPN!"
      refine c_eqStr hx okS1 ?_
      walk_at "WPN!"
      · have hb1 : (x == "gone") = true := hb
        refine Wp.p_eq ?_
        have e : rwD ks (.tup (.str x :: b :: r)) = decide (((.str x :: b :: r : List D).length : Int) = 2) := by
          rw [rw_str, if_pos hb1]
          match r with
          | [] => exact hw
          | c :: r => exact (decide_eq_false (by simp; omega)).symm
        rw [← e]; exact h
      have hb1 : ¬ (x == "gone") = true := by rw [hb]; simp
      have hb3 : (x == "changed") = true := hin.elim (fun h => absurd h hb1) id
      refine Wp.p_ne ?_
      walk_at "WPN!"
      · have e : rwD ks (.tup (.str x :: b :: r)) = false := by
          rw [rw_str, if_neg hb1, if_neg hb2, if_pos hb3]
          match r, hb with
          | [], _ => rfl
          | [c], hb => exact absurd hb (by simp)
          | c :: c2 :: r, _ => rfl
        rw [← e]; exact h
      obtain ⟨c, rfl⟩ : ∃ c, r = [c] := by
        match r, hb with
        | [], hb => exact absurd hb (by simp)
        | [c], _ => exact ⟨c, rfl⟩
        | c :: c2 :: r, hb => exact absurd hb (by simp; omega)
      have hc := hm c (by simp)
      have e0 : rwD ks (.tup [.str x, b, c]) = csD c := by rw [rw_str, if_neg hb1, if_neg hb2, if_pos hb3]; show (whD 0 99 b && csD c) = _; rw [hw]; rfl
      rw [e0] at h
      refine idx_2 ?_
      cases hc.v with
      | tup m2 cs hm2 hl2 hm2' =>
        walk_at "WPN!"
        refine idx_2 ?_
        walk_at "WPN!"
        refine c_eq0T hc (by omega) ?_
        walk_at "WPN!"
        · have e : csD (.tup cs) = false := by show (!cs.isEmpty && _) = _; rw [hb]; rfl
          rw [← e]; exact h
        have hne : cs.isEmpty = false := hb
        refine idx_2 ?_
        walk_at "WPN!"
        have bad : ∀ d ∈ cs, chD d = false → Q (.bl false) M := fun d hd hf => by
          have e1 : cs.all chD = false := by
            rw [Bool.eq_false_iff]
            intro h
            rw [List.all_eq_true.mp h d hd] at hf
            cases hf
          have e : csD (.tup cs) = false := by
            show (!cs.isEmpty && (cs.all chD && _)) = _
            rw [e1, Bool.false_and, Bool.and_false]
          rw [← e]; exact h
        refine Wp.forL_inv (fun i ρ M2 => ∃ s2 : Slot, ρ = [.sh (dI ks), .sh (.tup [.str x, b, .tup cs]), s2] ∧ (∀ j (h : j < cs.length), j < i → chD cs[j] = true) ∧ M = M2) _ ⟨_, rfl, fun j _ h => absurd h (by omega), rfl⟩ ?_ ?_
        · rintro i hi ρ M2 ⟨s2, rfl, hpre, rfl⟩
          have hdm := List.getElem_mem hi
          have hds := hm2' _ hdm
          have nxt : chD cs[i] = true → ∀ j (h : j < cs.length), j < i + 1 → chD cs[j] = true := fun h1 j hj hl => by
            by_cases e : j = i
            · subst e; exact h1
            · exact hpre j hj (by omega)
          have bd := bad _ hdm
          generalize cs[i] = d at hds nxt bd
          refine Wp.s_step (ρ1 := [.sh (dI ks), .sh (.tup [.str x, b, .tup cs]), .sh d]) rfl ?_
          cases hds.v with
          | tup m3 ds3 _ hl3 hm3 =>
            by_cases h2 : ds3.length = 2
            · obtain ⟨a1, b1, rfl⟩ : ∃ a b, ds3 = [a, b] := by
                match ds3, h2 with
                | [a, b], _ => exact ⟨a, b, rfl⟩
              walk_at "WPN!"
              refine Wp.x_ne rfl ?_
              walk_at "WPN!"
              refine idx_0 ?_
              walk_at "WPN!"
              refine a_lwhole (hm3 a1 (by simp)) ?_
              walk_at "WPN!"
              · exact bd (by show (whD 0 4 a1 && _) = _; rw [show whD 0 4 a1 = false by simpa using hb]; rfl)
              have hw1 : whD 0 4 a1 = true := by simpa using hb
              refine idx_1 ?_
              walk_at "WPN!"
              refine a_lwhole (hm3 b1 (by simp)) ?_
              walk_at "WPN!"
              · exact bd (by show (whD 0 4 a1 && whD 0 255 b1) = _; rw [show whD 0 255 b1 = false by simpa using hb, Bool.and_false])
              have hw2 : whD 0 255 b1 = true := by simpa using hb
              exact ⟨_, rfl, nxt (by show (whD 0 4 a1 && whD 0 255 b1) = _; rw [hw1, hw2]; rfl), rfl⟩
            · walk_at "WPN!"
              refine Wp.p_ne ?_
              rw [decide_eq_false (show ¬ ((ds3.length : Int) = 2) by omega)]
              walk_at "WPN!"
              exact bd (chD_len h2)
          | _ =>
            walk_at "WPN!"
            exact bd rfl
        · rintro ρ M2 ⟨s2, rfl, hpre, rfl⟩
          have hall : cs.all chD = true := List.all_eq_true.mpr fun d hd => by
            obtain ⟨j, hj, rfl⟩ := List.getElem_of_mem hd
            exact hpre j hj hj
          have hgood := List.all_eq_true.mp hall
          walk_at "WPN!"
          refine idx_2 ?_
          walk_at "WPN!"
          refine comp_ints f0 (fun d hd => ?_) ?_
          · obtain ⟨i, r, e1⟩ := chD_first (hgood d hd)
            rw [e1]
            refine Wp.step_all rfl ?_
            dsimp only [wipeR, List.set]
            walk_at "WPN!"
            refine idx_f0 ?_
            exact ⟨rfl, rfl⟩
          walk_at "WPN!"
          with_reducible refine a_rise (l := cs.map f0) (by rw [List.length_map]; omega) ?_
          have e : csD (.tup cs) = adj (cs.map f0) := by show (!cs.isEmpty && (cs.all chD && _)) = _; rw [hne, hall]; rfl
          rw [← e]; exact h
      | _ =>
        walk_at "WPN!"
        exact h
    | _ =>
      walk_at "WPN!"
      exact h
  | _ =>
    walk_at "WPN!"
    exact h
end
theorem rw_second {ks : List Int} {d : D} (h : rwD ks d = true) : ∃ a i r, d = .tup (a :: .int i :: r) := by
  match d, h with
  | .tup (.str x :: r), h =>
    rw [rw_str] at h
    split at h
    · split at h
      · obtain ⟨i, rfl, _⟩ := whD_int h
        exact ⟨_, i, _, rfl⟩
      · cases h
    · split at h
      · obtain ⟨i, r', e⟩ := thD_first h
        cases e
        exact ⟨_, i, _, rfl⟩
      · split at h
        · split at h
          · rw [Bool.and_eq_true] at h
            obtain ⟨i, rfl, _⟩ := whD_int h.1
            exact ⟨_, i, _, rfl⟩
          · cases h
        · cases h
section
variable {k : Nat} {M : Store} {Q : D → Store → Prop} {X : Nat → Store → Prop}
theorem a_rows {n : Nat} {ks : List Int} {d : D} (hn : n ≤ 50) (hd : Sm n d) (h : Q (.bl (rsD ks d)) M) : RW (run prg (k + 4) i_are_rows [dI ks, d] M) Q X := by
  have h1 : prg[i_are_rows]? = some g_are_rows := rfl
  have h2 : ([dI ks, d] : List D).length = g_are_rows.np := rfl
  with_reducible refine Wp.run_w h1 h2 ?_
  clear h1 h2
  show OW (ex _ _ [.sh (dI ks), .sh d, .no, .no] _) _
  dsimp only [g_are_rows]
  cases hd.v with
  | tup m ds hm0 hl hm =>
    walk_at "WPN!"
    refine comp_bls (rwD ks) (fun d hd => ?_) ?_
    · refine Wp.step_all rfl ?_
      dsimp only [wipeR, List.set]
      walk_at "WPN!"
      exact a_row (by omega) (hm d hd) ⟨rfl, rfl⟩
    walk_at "WPN!"
    refine Wp.all_f ?_
    walk_at "WPN!"
    · have e : rsD ks (.tup ds) = false := by show (ds.all (rwD ks) && _) = _; rw [show ds.all (rwD ks) = false by simpa using hb]; rfl
      rw [← e]; exact h
    have hall : ds.all (rwD ks) = true := by simpa using hb
    have hgood := List.all_eq_true.mp hall
    refine sl_iT ?_
    walk_at "WPN!"
    refine sl_tT ?_
    walk_at "WPN!"
    refine zip_TT ?_
    refine comp_all (fun p : D × D => D.tup [p.1, p.2]) D.bl (fun p => decide (f1 p.1 < f1 p.2)) (fun p hp => ?_) ?_
    · obtain ⟨a, i, r, e1⟩ := rw_second (hgood p.1 ((List.dropLast_sublist _).subset (List.of_mem_zip hp).1))
      obtain ⟨a2, i2, r2, e2⟩ := rw_second (hgood p.2 (List.mem_of_mem_tail (List.of_mem_zip hp).2))
      rw [e1, e2]
      refine Wp.step_all rfl ?_
      dsimp only [wipeR, List.set]
      walk_at "WPN!"
      refine idx_1 ?_
      walk_at "WPN!"
      refine idx_1 ?_
      refine Wp.p_lt ?_
      exact ⟨rfl, rfl⟩
    rw [List.map_map]
    walk_at "WPN!"
    refine Wp.all_f (f := fun p : D × D => decide (f1 p.1 < f1 p.2)) ?_
    rw [zip_adj]
    have e : rsD ks (.tup ds) = adj (ds.map f1) := by show (ds.all (rwD ks) && _) = _; rw [hall]; rfl
    rw [← e]; exact h
  | _ =>
    walk_at "WPN!"
    exact h
theorem a_lrows {n : Nat} {ks : List Int} {d : D} (hn : n ≤ 50) (hd : Sm n d) (h : Q (.bl (rsD ks d)) M) : RW (run prg (k + 4) i__law_are_rows [dI ks, d] M) Q X := by
  have h1 : prg[i__law_are_rows]? = some g__law_are_rows := rfl
  have h2 : ([dI ks, d] : List D).length = g__law_are_rows.np := rfl
  with_reducible refine Wp.run_w h1 h2 ?_
  clear h1 h2
  show OW (ex _ _ [.sh (dI ks), .sh d, .no] _) _
  dsimp only [g__law_are_rows]
  cases hd.v with
  | tup m ds hm0 hl hm =>
    walk_at "WPN!"
    refine comp_bad (rwD ks) (fun d hd => ?_) fun r hr => ?_
    · refine Wp.step_if rfl ?_
      dsimp only [wipeR, List.set]
      walk_at "WPN!"
      refine a_lrow (by omega) (hm d hd) ?_
      walk_at "WPN!"
      · exact ⟨by rw [if_neg (by simpa using hb)], rfl⟩
      · exact ⟨by rw [if_pos (by simpa using hb)], rfl⟩
    walk_at "WPN!"
    · have e : rsD ks (.tup ds) = false := by show (ds.all (rwD ks) && _) = _; rw [← hr, show r.isEmpty = false by simpa using hb]; rfl
      rw [← e]; exact h
    have hall : ds.all (rwD ks) = true := by rw [← hr]; simpa using hb
    have hgood := List.all_eq_true.mp hall
    refine comp_ints f1 (fun d hd => ?_) ?_
    · obtain ⟨a, i, r, e1⟩ := rw_second (hgood d hd)
      rw [e1]
      refine Wp.step_all rfl ?_
      dsimp only [wipeR, List.set]
      walk_at "WPN!"
      refine idx_1 ?_
      exact ⟨rfl, rfl⟩
    walk_at "WPN!"
    with_reducible refine a_rise (l := ds.map f1) (by rw [List.length_map]; omega) ?_
    have e : rsD ks (.tup ds) = adj (ds.map f1) := by show (ds.all (rwD ks) && _) = _; rw [hall]; rfl
    rw [← e]; exact h
  | _ =>
    walk_at "WPN!"
    exact h
end
def odds : List D := [.non, .bl true, .bl false, .int 0, .int 1, .int 4, .int 5, .int 6, .int 99, .int 100, .int 255, .int 256, .int (-1), .str "gone", .str "new", .str "changed", .str "", .tup [], .tup [.int 0, .int 0], .tup [.tup [.int 0, .int 0]]]
theorem odds_ok : ∀ d ∈ odds, Sm 3 d := by
  unfold odds
  have h2 : Sm 2 (.tup [.int 0, .int 0]) := ⟨by simp, fun d hd => by
    simp only [List.mem_cons, List.not_mem_nil, or_false] at hd
    rcases hd with rfl | rfl <;> trivial⟩
  have h4 : okStr "" = true := by decide +kernel
  repeat' (first | exact fun _ h => absurd h List.not_mem_nil | refine List.forall_mem_cons.mpr ⟨?_, ?_⟩)
  all_goals first | trivial | exact okS1 | exact okS2 | exact okS3 | exact h4 | exact h2.up 2 (by omega) | skip
  · exact ⟨by simp, fun d hd => absurd hd List.not_mem_nil⟩
  · refine ⟨by simp, fun d hd => ?_⟩
    rw [List.mem_singleton.mp hd]; exact h2
section
variable {k N : Nat} {R : Store} {ns : List Int} {Q : D → Store → Prop} {X : Nat → Store → Prop}
theorem a_bent : ∀ (n : Nat) {d : D} {k N : Nat} {R : Store} {Q : D → Store → Prop} {X : Nat → Store → Prop}, n ≤ 40 → Sn n d → N + 5 * (n + 1) ≤ 16777216 → (∀ d' N', Sm (n + 3) d' → N' ≤ N + 5 * (n + 1) → Q d' (tw N' R)) →
    RW (run prg (k + n + 4) i__law_bent [.scr (ns.map .int), .hnd 0, d] (tw N R)) Q X := by
  intro n
  induction n with
  | zero =>
    intro d k N R Q X hn hd hN h
    have h1 : prg[i__law_bent]? = some g__law_bent := rfl
    have h2 : ([.scr (ns.map .int), .hnd 0, d] : List D).length = g__law_bent.np := rfl
    with_reducible refine Wp.run_w h1 h2 ?_
    clear h1 h2
    show OW (ex _ _ [.sh (.scr (ns.map .int)), .sh (.hnd 0), .sh d, .no, .no, .no, .no] _) _
    dsimp only [g__law_bent]
    walk_at "WPN!"
    refine Wp.p_addL (by decide +kernel) ?_
    show OW (ex _ _ [.sh (.scr (ns.map .int)), .sh (.hnd 0), .sh d, .sh (.lst odds), .no, .no, .no] _) _
    cases hd.sm.v with
    | tup m ds e => cases e
    | lst m ds e => cases e
    | _ =>
      walk_at "WPN!"
      refine r_pick (by decide +kernel) (by omega) fun d hd => ?_
      exact h d _ ((odds_ok d hd).up 3 (by omega)) (by omega)
  | succ n ih =>
    intro d k N R Q X hn hd hN h
    have h1 : prg[i__law_bent]? = some g__law_bent := rfl
    have h2 : ([.scr (ns.map .int), .hnd 0, d] : List D).length = g__law_bent.np := rfl
    with_reducible refine Wp.run_w h1 h2 ?_
    clear h1 h2
    show OW (ex _ _ [.sh (.scr (ns.map .int)), .sh (.hnd 0), .sh d, .no, .no, .no, .no] _) _
    dsimp only [g__law_bent]
    walk_at "WPN!"
    refine Wp.p_addL (by decide +kernel) ?_
    show OW (ex _ _ [.sh (.scr (ns.map .int)), .sh (.hnd 0), .sh d, .sh (.lst odds), .no, .no, .no] _) _
    have e2 : LIM = 16777216 := rfl
    cases d with
    | tup ds =>
      obtain ⟨hl, hm⟩ := hd
      have hsm : ∀ lo hi, ∀ x ∈ cutL ds lo hi, Sm (n + 3) x := fun lo hi x hx => ((hm x (cutL_mem hx)).sm).up n (by omega)
      have hsl : ∀ lo hi, (cutL ds lo hi).length ≤ 60 := fun lo hi => Nat.le_trans (cutL_le ds lo hi) hl
      have sub : Sm (n + 1) (.tup ds) := ⟨by omega, fun d hd => (hm d hd).sm⟩
      walk_at "WPN!"
      refine c_eq0T sub (by omega) ?_
      walk_at "WPN!"
      · refine r_pick (by decide +kernel) (by omega) fun d hd => ?_
        exact h d _ ((odds_ok d hd).up 3 (by omega)) (by omega)
      have hpos : 0 < ds.length := by
        cases ds with
        | nil => cases hb
        | cons a r => simp
      refine r_draw (m := 6) (by omega) (by omega) fun z z0 z1 => ?_
      walk_at "WPN!"
      refine Wp.p_eq ?_
      walk_at "WPN!"
      · refine r_pick (by decide +kernel) (by omega) fun d hd => ?_
        exact h d _ ((odds_ok d hd).up 3 (by omega)) (by omega)
      refine r_draw (m := (ds.length : Int)) (by omega) (by omega) fun at0 a0 a1 => ?_
      walk_at "WPN!"
      refine Wp.s_own ?_
      walk_at "WPN!"
      refine sl_any ?_
      walk_at "WPN!"
      refine sl_any ?_
      walk_at "WPN!"
      have hs1 := hsl none (some at0)
      have hs2 := hsl (some (at0 + 1)) none
      have hs3 := hsl (some at0) (some (at0 + 1))
      have hs4 := hsl (some at0) none
      have hs5 := hsl (some at0) (some (at0 + 2))
      have hs6 := hsl (some (at0 + 2)) none
      refine Wp.p_addT (by omega) ?_
      walk_at "WPN!"
      refine sl_any ?_
      walk_at "WPN!"
      refine sl_any ?_
      walk_at "WPN!"
      refine Wp.p_addT (by omega) ?_
      walk_at "WPN!"
      refine sl_any ?_
      walk_at "WPN!"
      refine Wp.p_addT (by rw [List.length_append]; omega) ?_
      walk_at "WPN!"
      refine Wp.pw_eq (a := .lst ds) rfl ?_
      walk_at "WPN!"
      refine sl_any ?_
      walk_at "WPN!"
      refine Wp.pw_eq (a := .tup (cutL ds (some at0) (some (at0 + 2))).reverse) rfl ?_
      walk_at "WPN!"
      refine Wp.s_app rfl ?_
      walk_at "WPN!"
      refine sl_any ?_
      walk_at "WPN!"
      refine Wp.p_addT (by rw [List.length_reverse]; omega) ?_
      walk_at "WPN!"
      refine sl_any ?_
      walk_at "WPN!"
      refine Wp.p_addT (by rw [List.length_append, List.length_reverse]; omega) ?_
      walk_at "WPN!"
      refine ⟨by show 3 < 16777216; omega, ?_⟩
      dsimp only [List.set]
      walk_at "WPN!"
      refine r_draw (m := 4) (by omega) (by omega) fun y y0 y1 => ?_
      walk_at "WPN!"
      refine Wp.p_eq ?_
      walk_at "WPN!"
      · refine Wp.s_frz rfl ?_
        dsimp only [List.set]
        walk_at "WPN!"
        refine r_pick (by simp) (by omega) fun d hd => ?_
        refine h d _ ?_ (by omega)
        simp only [List.mem_append, List.mem_cons, List.not_mem_nil, or_false] at hd
        rcases hd with (rfl | rfl | rfl) | rfl
        · refine ⟨by rw [List.length_append]; omega, fun x hx => ?_⟩
          rcases List.mem_append.mp hx with hx | hx
          · exact hsm _ _ x hx
          · exact hsm _ _ x hx
        · refine ⟨by rw [List.length_append, List.length_append]; omega, fun x hx => ?_⟩
          rcases List.mem_append.mp hx with hx | hx
          · rcases List.mem_append.mp hx with hx | hx
            · exact hsm _ _ x hx
            · exact hsm _ _ x hx
          · exact hsm _ _ x hx
        · exact ⟨by omega, fun x hx => ((hm x hx).sm).up n (by omega)⟩
        · refine ⟨by rw [List.length_append, List.length_append, List.length_reverse]; omega, fun x hx => ?_⟩
          rcases List.mem_append.mp hx with hx | hx
          · rcases List.mem_append.mp hx with hx | hx
            · exact hsm _ _ x hx
            · exact hsm _ _ x (List.mem_reverse.mp hx)
          · exact hsm _ _ x hx
      refine sl_any ?_
      walk_at "WPN!"
      obtain ⟨hx, e⟩ := atI_get (l := ds) a0 a1
      refine Wp.pw_eq (a := ds[at0.toNat]) e ?_
      walk_at "WPN!"
      refine ih (k := k) (by omega) (hm _ (List.getElem_mem hx)) (by omega) fun d' N' hd' hN' => ?_
      walk_at "WPN!"
      refine Wp.p_addT (by show _ + 1 ≤ LIM; omega) ?_
      walk_at "WPN!"
      refine sl_any ?_
      walk_at "WPN!"
      refine Wp.p_addT (by rw [List.length_append, List.length_singleton]; omega) ?_
      refine h _ _ ⟨by rw [List.length_append, List.length_append, List.length_singleton]; omega, fun x hx => ?_⟩ (by omega)
      rcases List.mem_append.mp hx with hx | hx
      · rcases List.mem_append.mp hx with hx | hx
        · exact hsm _ _ x hx
        · rw [List.mem_singleton.mp hx]; exact hd'
      · exact hsm _ _ x hx
    | _ =>
      first
        | exact False.elim hd
        | (walk_at "WPN!"; refine r_pick (by decide +kernel) (by omega) fun d hd => ?_; exact h d _ ((odds_ok d hd).up 3 (by omega)) (by omega))
end
theorem hrunW (ns : List Int) : RW (run prg 16 i_law [.scr (ns.map .int)] []) (fun d _ => d = .bl true) fun _ _ => False := by
  refine Wp.run_w (fn := g_law) rfl rfl ?_
  show OW (ex _ _ [.sh (.scr (ns.map .int)), .no, .no, .no, .no, .no, .no, .no, .no, .no, .no] _) _
  dsimp only [g_law]
  refine Wp.s_seq (Wp.s_hnew ?_)
  walk_at "WP!"
  show OW (forL _ _ _ (tw 0 [])) _
  refine Wp.forL_inv (fun j ρ M => ∃ (s2 s3 s4 s5 s6 s7 s8 s9 s10 : Slot) (n : Nat) (R : Store), ρ = [.sh (.scr (ns.map .int)), .sh (.hnd 0), s2, s3, s4, s5, s6, s7, s8, s9, s10] ∧ n ≤ 5000 * j ∧ M = tw n R) _ ⟨_, _, _, _, _, _, _, _, _, _, _, rfl, by omega, rfl⟩ ?_ ?_
  · rintro j hj ρ M ⟨s2, s3, s4, s5, s6, s7, s8, s9, s10, n, R, rfl, hn, rfl⟩
    have hj : j < 6 := by rw [Wp.rangeL_len] at hj; exact hj
    rw [Wp.rangeL_get]
    refine Wp.s_step (ρ1 := [.sh (.scr (ns.map .int)), .sh (.hnd 0), .sh (.int (0 + (j : Int))), s3, s4, s5, s6, s7, s8, s9, s10]) rfl ?_
    have e2 : LIM = 16777216 := rfl
    walk_at "WPN!"
    refine r_shapes (by omega) fun ks n1 hk h1 => ?_
    walk_at "WPN!"
    refine r_stand hk (by omega) (by omega) (by omega) fun a n2 ha la h2 => ?_
    walk_at "WPN!"
    refine r_rows hk (by omega) (by omega) (by omega) fun rs n3 hr hrb hup hrl h3 => ?_
    have fs5 : ∀ t ∈ a, t.fs.length ≤ 60 := fun t ht => by have := (ha.ok t ht).len hk; omega
    have nI : Sn 4 (dI ks) := sn_I 3 (by have := hk.2.1; omega)
    have nS : Sn 4 (dS a) := sn_S 1 (by omega) fs5
    have nR1 : ∀ r ∈ rs, Sn 3 (dR r) := fun r hr1 => sn_R 0 (fun t e => by
        have h0 : ThOk ks t := by have := hr r hr1; rw [e] at this; exact this
        have := h0.len hk; omega) fun i cs e => by
        have h0 := hr r hr1
        rw [e] at h0
        have := csl h0.2.2; omega
    have nR : Sn 4 (dRs rs) := ⟨by rw [List.length_map]; omega, fun d hd => by
      obtain ⟨r, hr1, rfl⟩ := List.mem_map.mp hd
      exact nR1 r hr1⟩
    have sT : ∀ t ∈ a, Sm 9 (dT t) := fun t ht => ((sn_T 0 (fs5 t ht)).sm).up 2 (by decide)
    have sR1 : ∀ r ∈ rs, Sm 9 (dR r) := fun r hr1 => ((nR1 r hr1).sm).up 3 (by decide)
    walk_at "WPN!"
    refine Wp.pw_eq (show setSs _ [4, 5] [dS a, dRs rs] = some [.sh (.scr (ns.map .int)), .sh (.hnd 0), .sh (.int (0 + (j : Int))), .sh (dI ks), .sh (dS a), .sh (dRs rs), s6, s7, s8, s9, s10] from rfl) ?_
    walk_at "WPN!"
    refine Wp.pw_eq (a := D.lst (rs.map dR)) rfl ?_
    walk_at "WPN!"
    refine Wp.pw_eq (a := D.tup (a.map dT).reverse) rfl ?_
    walk_at "WPN!"
    refine Wp.pw_eq (a := D.tup (rs.map dR).reverse) rfl ?_
    walk_at "WPN!"
    refine Wp.pw_eq (show binD .mul (.tup [.int 0]) (.int 4) = some (.tup [.int 0, .int 0, .int 0, .int 0]) from ?_) ?_
    · show (if [D.int 0] ≠ [] ∧ (2 : Int) ≤ 4 ∧ (4 : Int) ≤ 1000 ∧ [D.int 0].length ≤ 1000 then some (D.tup (List.replicate (4 : Int).toNat [D.int 0]).flatten) else none) = _
      rw [if_pos ⟨by simp, by omega, by omega, by simp⟩]; rfl
    walk_at "WPN!"
    refine Wp.pw_eq (show binD .mul (.tup [.int 0]) (.int 5) = some (.tup [.int 0, .int 0, .int 0, .int 0, .int 0]) from ?_) ?_
    · show (if [D.int 0] ≠ [] ∧ (2 : Int) ≤ 5 ∧ (5 : Int) ≤ 1000 ∧ [D.int 0].length ≤ 1000 then some (D.tup (List.replicate (5 : Int).toNat [D.int 0]).flatten) else none) = _
      rw [if_pos ⟨by simp, by omega, by omega, by simp⟩]; rfl
    walk_at "WPN!"
    refine Wp.p_addL (by show 12 + 4 ≤ LIM; omega) ?_
    have zz : ∀ (m : Nat) (l : List Int), l.length ≤ 200 → Sm (m + 1) (.tup (l.map D.int)) := fun m l h => ⟨by rw [List.length_map]; exact h, fun d hd => by
      obtain ⟨i, _, rfl⟩ := List.mem_map.mp hd
      cases m <;> trivial⟩
    have hT : ∀ x ∈ ([dI ks, dS a, dRs rs, .lst (a.map dT), .lst (rs.map dR), .tup (a.map dT).reverse, .tup (rs.map dR).reverse, .tup [dS a], .non, .int 7, .str "", .tup []] ++ [.tup [.tup [.str "changed", .int 1, .tup []]], .tup [.tup [.str "gone", .int 1], .tup [.str "gone", .int 1]], .tup [.int 0, .int 0, .int 0, .int 0], .tup [.int 0, .int 0, .int 0, .int 0, .int 0]] : List D), Sm 10 x := by
      have g1 : Sm 8 (.tup [.str "gone", .int 1]) := ⟨by simp, fun d hd => by
        simp only [List.mem_cons, List.not_mem_nil, or_false] at hd
        rcases hd with rfl | rfl
        · exact okS1
        · trivial⟩
      have g2 : Sm 8 (.tup [.str "changed", .int 1, .tup []]) := ⟨by simp, fun d hd => by
        simp only [List.mem_cons, List.not_mem_nil, or_false] at hd
        rcases hd with rfl | rfl | rfl
        · exact okS3
        · trivial
        · exact ⟨by simp, fun d hd => absurd hd List.not_mem_nil⟩⟩
      rw [List.forall_mem_append]
      constructor
      · repeat' (first | exact fun _ h => absurd h List.not_mem_nil | refine List.forall_mem_cons.mpr ⟨?_, ?_⟩)
        · exact (nI.sm).up 4 (by decide)
        · exact (nS.sm).up 4 (by decide)
        · exact (nR.sm).up 4 (by decide)
        · exact ⟨by rw [List.length_map]; omega, fun d hd => by
            obtain ⟨t, ht, rfl⟩ := List.mem_map.mp hd
            exact sT t ht⟩
        · exact ⟨by rw [List.length_map]; omega, fun d hd => by
            obtain ⟨t, ht, rfl⟩ := List.mem_map.mp hd
            exact sR1 t ht⟩
        · exact ⟨by rw [List.length_reverse, List.length_map]; omega, fun d hd => by
            obtain ⟨t, ht, rfl⟩ := List.mem_map.mp (List.mem_reverse.mp hd)
            exact sT t ht⟩
        · exact ⟨by rw [List.length_reverse, List.length_map]; omega, fun d hd => by
            obtain ⟨t, ht, rfl⟩ := List.mem_map.mp (List.mem_reverse.mp hd)
            exact sR1 t ht⟩
        · exact ⟨by simp, fun d hd => by rw [List.mem_singleton.mp hd]; exact (nS.sm).up 4 (by decide)⟩
        · trivial
        · trivial
        · exact (by decide +kernel : okStr "" = true)
        · exact ⟨by simp, fun d hd => absurd hd List.not_mem_nil⟩
      · repeat' (first | exact fun _ h => absurd h List.not_mem_nil | refine List.forall_mem_cons.mpr ⟨?_, ?_⟩)
        · exact ⟨by simp, fun d hd => by rw [List.mem_singleton.mp hd]; exact g2.up 8 (by decide)⟩
        · exact ⟨by simp, fun d hd => by
            simp only [List.mem_cons, List.not_mem_nil, or_false] at hd
            rcases hd with rfl | rfl <;> exact g1.up 8 (by decide)⟩
        · exact zz 9 [0, 0, 0, 0] (by simp)
        · exact zz 9 [0, 0, 0, 0, 0] (by simp)
    have hTl : ([dI ks, dS a, dRs rs, .lst (a.map dT), .lst (rs.map dR), .tup (a.map dT).reverse, .tup (rs.map dR).reverse, .tup [dS a], .non, .int 7, .str "", .tup []] ++ [.tup [.tup [.str "changed", .int 1, .tup []]], .tup [.tup [.str "gone", .int 1], .tup [.str "gone", .int 1]], .tup [.int 0, .int 0, .int 0, .int 0], .tup [.int 0, .int 0, .int 0, .int 0, .int 0]] : List D).length = 16 := rfl
    generalize ([dI ks, dS a, dRs rs, .lst (a.map dT), .lst (rs.map dR), .tup (a.map dT).reverse, .tup (rs.map dR).reverse, .tup [dS a], .non, .int 7, .str "", .tup []] ++ [.tup [.tup [.str "changed", .int 1, .tup []]], .tup [.tup [.str "gone", .int 1], .tup [.str "gone", .int 1]], .tup [.int 0, .int 0, .int 0, .int 0], .tup [.int 0, .int 0, .int 0, .int 0, .int 0]] : List D) = T at hT hTl ⊢
    walk_at "WPN!"
    refine Wp.forL_inv (fun i ρ M => ∃ (s7 s8 : Slot) (T : List D) (n' : Nat) (R' : Store), ρ = [.sh (.scr (ns.map .int)), .sh (.hnd 0), .sh (.int (0 + (j : Int))), .sh (dI ks), .sh (dS a), .sh (dRs rs), .sh (.lst T), s7, s8, s9, s10] ∧ (∀ x ∈ T, Sm 10 x) ∧ T.length ≤ 16 + 8 * i ∧ n' ≤ n3 + 200 * i ∧ M = tw n' R') _ ⟨_, _, T, _, _, rfl, hT, by omega, by omega, rfl⟩ ?_ ?_
    · rintro i hi ρ M ⟨s7, s8, T, n', R', rfl, hT, hTl, hn', rfl⟩
      have hi4 : i < 4 := hi
      have hg : Sn 4 ([dI ks, dS a, dRs rs, dRs rs] : List D)[i] := by
        have := List.getElem_mem hi
        generalize ([dI ks, dS a, dRs rs, dRs rs] : List D)[i] = d at this ⊢
        simp only [List.mem_cons, List.not_mem_nil, or_false] at this
        rcases this with rfl | rfl | rfl | rfl
        · exact nI
        · exact nS
        · exact nR
        · exact nR
      generalize ([dI ks, dS a, dRs rs, dRs rs] : List D)[i] = d at hg ⊢
      refine Wp.s_step (ρ1 := [.sh (.scr (ns.map .int)), .sh (.hnd 0), .sh (.int (0 + (j : Int))), .sh (dI ks), .sh (dS a), .sh (dRs rs), .sh (.lst T), .sh d, s8, s9, s10]) rfl ?_
      walk_at "WPN!"
      refine comp_anys (c := 25) (fun d : D => d) (Sm 10) (fun x hx m R hm => ?_) fun xs m R hxl hxs hm => ?_
      · rw [Wp.rangeL_len] at hm
        obtain ⟨v, _, rfl⟩ := List.mem_map.mp hx
        refine Wp.step_all rfl ?_
        dsimp only [wipeR, List.set]
        walk_at "WPN!"
        refine a_bent (k := 7) 4 (by omega) hg (by omega) fun d' N' hd' hN' => ?_
        exact ⟨d', N', R, hd'.up 7 (by decide), rfl, by omega, rfl⟩
      rw [Wp.rangeL_len] at hxl hm
      rw [List.map_id']
      walk_at "WPN!"
      refine Wp.p_addL (by show _ ≤ 16777216; omega) ?_
      walk_at "WPN!"
      refine ⟨_, _, T ++ xs, _, _, rfl, fun x hx => ?_, by rw [List.length_append]; omega, by omega, rfl⟩
      rcases List.mem_append.mp hx with hx | hx
      · exact hT x hx
      · exact hxs x hx
    · rintro ρ M ⟨s7, s8, T, n', R', rfl, hT, hTl, hn', rfl⟩
      have hn' : n' ≤ n3 + 200 * 4 := hn'
      walk_at "WPN!"
      refine Wp.forL_inv (fun i ρ M => ∃ (s9 s10 : Slot), ρ = [.sh (.scr (ns.map .int)), .sh (.hnd 0), .sh (.int (0 + (j : Int))), .sh (dI ks), .sh (dS a), .sh (dRs rs), .sh (.lst T), s7, s8, s9, s10] ∧ M = tw n' R') _ ⟨_, _, rfl, rfl⟩ ?_ ?_
      · rintro i hi ρ M ⟨s9, s10, rfl, rfl⟩
        have hd := hT _ (List.getElem_mem hi)
        generalize T[i] = d at hd ⊢
        refine Wp.s_step (ρ1 := [.sh (.scr (ns.map .int)), .sh (.hnd 0), .sh (.int (0 + (j : Int))), .sh (dI ks), .sh (dS a), .sh (dRs rs), .sh (.lst T), s7, s8, .sh d, s10]) rfl ?_
        walk_at "WPN!"
        refine a_lshapes hd ?_
        walk_at "WPN!"
        refine a_lstand hd ?_
        walk_at "WPN!"
        refine a_lrows (by omega) hd ?_
        walk_at "WPN!"
        refine a_shapes hd ?_
        walk_at "WPN!"
        refine a_stand hd ?_
        walk_at "WPN!"
        refine a_rows (by omega) hd ?_
        walk_at "WPN!"
        refine x_same 1 rfl ?_
        walk_at "WPN!"
        exact ⟨_, _, rfl, rfl⟩
      · rintro ρ M ⟨s9, s10, rfl, rfl⟩
        walk_at "WPN!"
        exact ⟨_, _, _, _, _, _, _, _, _, _, _, rfl, by omega, rfl⟩
  · rintro ρ M ⟨s2, s3, s4, s5, s6, s7, s8, s9, s10, n, R, rfl, hn, rfl⟩
    walk_at "WP!"
end Pv

set_option Elab.async false
set_option linter.all false
set_option maxRecDepth 100000
set_option maxHeartbeats 0
namespace Pv
open PySem L2
theorem hrun (ns : List Int) (h : ns.length ≤ 63) : ∃ M', run (its.map (·.fn)) 16 i_law [.scr (ns.map .int)] [] = .ok (.bl true) M' := by
  obtain ⟨d, M, e, q⟩ := Wp.ok_ex (hrunW ns)
  subst q
  exact ⟨M, e⟩
end Pv
namespace Pv
open PySem PySem.Spec PyProof.Rows L2
abbrev Rw : PySem.W.OpenRow := PySem.W.OpenLaw.row PySem.Challenge.rw_standsend_k01_whole_things_as_stands
abbrev hk : PySem.W.Hook := hookW 4 (fas its gis xns) (dds its) gis
def ob (s : PySem.W.SharedT) : AlW := obsWG 4 (fas its gis xns) (dds its) gis (HandSHeadRun.getT s)
theorem ob_eq (s : PySem.W.SharedT) : ob s = hk.obs s.abs := obsWG_eq (HandSHeadRun.getT_eq s)
theorem hd_run (w : World) : HandSHeadRun.RunEq Rw (PySem.W.view Rw.prog [33]) hk ob 2500 ["__name__", "KINDS_MOST", "FIELDS_MOST", "ID_MOST", "NUMBER_MOST", "is_whole", "are_shapes", "is_thing", "is_stand", "is_change", "is_row", "are_rows", "_law_same", "_law_draw", "_law_pick", "_law_shapes", "_law_thing", "_law_stand", "_law_next", "_law_has", "_law_difference", "_law_applied", "_law_rows", "_law_whole", "_law_are_shapes", "_law_is_thing", "_law_rise", "_law_is_stand", "_law_is_row", "_law_are_rows", "_law_bent"] w := by
  intro os
  kernel_rfl
end Pv
open PySem PySem.W PySem.Calls PyProof.Rows
theorem PySem.Challenge.cw_standsend_k01_whole_things_as_stands_holds : PySem.Challenge.rw_standsend_k01_whole_things_as_stands.Holds := by
  w_on; o_law
  refine HandSHeadRun.head_any (r := OpenLaw.row PySem.Challenge.rw_standsend_k01_whole_things_as_stands) (q := view (OpenLaw.row PySem.Challenge.rw_standsend_k01_whole_things_as_stands).prog [33]) (H := Pv.hk) (ob := Pv.ob) (M := 2500) (loose := ["__name__", "KINDS_MOST", "FIELDS_MOST", "ID_MOST", "NUMBER_MOST", "is_whole", "are_shapes", "is_thing", "is_stand", "is_change", "is_row", "are_rows", "_law_same", "_law_draw", "_law_pick", "_law_shapes", "_law_thing", "_law_stand", "_law_next", "_law_has", "_law_difference", "_law_applied", "_law_rows", "_law_whole", "_law_are_shapes", "_law_is_thing", "_law_rise", "_law_is_stand", "_law_is_row", "_law_are_rows", "_law_bent"]) (d := HandSHeadRun.topDef (OpenLaw.row PySem.Challenge.rw_standsend_k01_whole_things_as_stands).prog 33) (kwd := []) Pv.ob_eq
    (by kernel_rfl) (fun s => by kernel_rfl) Pv.hd_run (by kernel_rfl) (by kernel_rfl) (by kernel_rfl) (by rfl) (by first | assumption | decide +kernel) (by decide +kernel) ⟨rfl, rfl, rfl, rfl, rfl, by decide +kernel⟩ ?hw ?hc
  case hw => w_witness2
  case hc =>
    exact Pv.walkF (lw := PySem.Challenge.rw_standsend_k01_whole_things_as_stands) (n := 63) Pv.its Pv.gis Pv.xns Pv.cns (by decide) Pv.its_ok (by decide +kernel) 22 ⟨Pv.g_law, Pv.top 33, ["_law_script"]⟩ "_law_script" 16 rfl rfl rfl rfl (by kernel_rfl) rfl (by decide) (by kernel_rfl) ⟨rfl, by decide, by decide⟩ (fun _ _ h => h) Pv.hrun


