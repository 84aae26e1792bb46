import PyProof.Rows.All
import Wide.All
import OpenK.AllK
import Wide.FinOn
import KE.DataEq
import KE.DataCmp
import KE.DataAny
import KE.DataMinMax
import KE.SortData
import KE.DataFind
import HandS.ForExc
import HandS.Comp
import HandS.Iter
import HandS.Walk
import HandS.Wide
import HandS.TupAny
import HandS.TupMul
import HandS.IsInst
import HandS.CallSlots
import HandS.Zip
import HandS.Style
import HandS.HeadHook1
import PyProof.Rows.IntBool
import PyProof.IsRules
import HandS.Flow
import HandS.Dict
import KE.KDictPairs
import PyProof.SumAny
import PyProof.Claim2Refuses
import PyProof.Rows.SumGenD
import HandS.TupSets
import HandS.ExcOwn
import KE.GoesMore
import PyProof.EnumMake
import HandS.TryOnly
import HandS.WordsExc
import HandS.Defaults
import PyProof.ExcBaseAll.ValueError
import HandS.HeadEnd
import HandS.Star
import HandS.HeadHook2
import HandS.Ends
import KE.KStateDown
import HandS.Head0
import HandS.Head1
import HandS.Head2
import PySem.Challenge.RW_bulgesheld_k07_rows_that_bulge_with_pape
import PyProof.Rows.ReprOcc
import PyProof.ReprLen
set_option Elab.async false
set_option linter.all false
set_option maxRecDepth 100000
set_option maxHeartbeats 1000000
/-! Plain semantics of a small part of Python, over data (PyData): what an expression, a statement, a def is worth. -/
namespace L2.BH
open PySem
abbrev D := PyData
/-- an equation that is used as a rule, not worked out anew -/
theorem nr {α : Type} {a b : α} (h : a = b) : a = b := h
/-- what stands in a slot: nothing; a value; a list or dict that this def alone holds; the draw that the caller handed in -/
inductive Cell where
  | no | val (d : D) | own (d : D) | drw
structure Sg where
  cs : List Cell
  dr : List D
inductive Out (α : Type) where
  | ok (a : α) (s : Sg) | exc (c : Str) (s : Sg) | bad
inductive SOut where
  | nx (s : Sg) | ret (d : D) (s : Sg) | brk (s : Sg) | ct (s : Sg) | exc (c : Str) (s : Sg) | bad
/-- a def's worth: its value or its error, the draw behind it -/
inductive FR where
  | ret (d : D) (dr : List D) | exc (c : Str) (dr : List D) | bad
/-- a def, by its worth -/
structure FEnt where
  name : Str
  n : Nat
  sem : List D → List D → FR
namespace Out
def bind {α β : Type} (o : Out α) (k : α → Sg → Out β) : Out β := match o with
  | ok a s => k a s
  | exc c s => exc c s
  | bad => bad
@[simp] theorem bind_ok {α β : Type} (a : α) (s : Sg) (k : α → Sg → Out β) : bind (ok a s) k = k a s := nr rfl
@[simp] theorem bind_exc {α β : Type} (c : Str) (s : Sg) (k : α → Sg → Out β) : bind (exc c s) k = exc c s := nr rfl
@[simp] theorem bind_bad {α β : Type} (k : α → Sg → Out β) : bind bad k = bad := nr rfl
end Out
/-- a value's truth (a dict's is not asked) -/
def noX {α : Type} (o : Out α) : Out α := match o with
  | .ok a s => .ok a s
  | _ => .bad
@[simp] theorem noX_ok {α : Type} (a : α) (s : Sg) : noX (.ok a s) = .ok a s := nr rfl
@[simp] theorem noX_bad {α : Type} : noX (.bad : Out α) = .bad := nr rfl
@[simp] theorem noX_exc {α : Type} (c : Str) (s : Sg) : noX (.exc c s : Out α) = .bad := nr rfl
def ofO {α : Type} (o : Option α) (s : Sg) : Out α := match o with
  | some a => .ok a s
  | none => .bad
@[simp] theorem ofO_some {α : Type} (a : α) (s : Sg) : ofO (some a) s = .ok a s := nr rfl
@[simp] theorem ofO_none {α : Type} (s : Sg) : ofO (none : Option α) s = .bad := nr rfl
/-! ### values -/
def tru : D → Bool
  | .none => false
  | .bool b => b
  | .int i => i != 0
  | .str x => (x.length : Int) != 0
  | .list xs => !xs.isEmpty
  | .tuple xs => !xs.isEmpty
  | .dict kvs => !kvs.isEmpty
def isD : D → Bool
  | .dict _ => true
  | _ => false
/-- a value's truth (a dict's is not asked) -/
def tst (o : Out D) : Out Bool := o.bind fun x s => if isD x then .bad else .ok (tru x) s
/-- not nested deeper than n -/
def shal (d : D) : Bool := decide (d.depth ≤ 60)
def noD : D → Option D
  | .dict _ => none
  | d => some d
def noDs (ds : List D) : Bool := ds.all fun d => !isD d
@[simp] def b2 (b : Bool) : Int := if b then 1 else 0
inductive Op2 where
  | add | sub | mul | mod | fdiv
def mulOk (i j : Int) : Bool := decide (i.natAbs.log2 + j.natAbs.log2 < 1000000)
def divOk (j : Int) : Bool := decide (0 < j) && decide (j.natAbs.log2 < 9000)
def repL (xs : List D) (n : Int) : Option (List D) :=
  if decide (-1000 ≤ n) && (decide (n ≤ 1000) && decide (xs.length ≤ 1000)) then some (List.replicate n.toNat xs).flatten else none
@[simp] def bin2 : Op2 → D → D → Option D
  | .add, .int i, .int j => some (.int (i + j))
  | .add, .int i, .bool b => some (.int (i + b2 b))
  | .add, .tuple xs, .tuple ys => if xs.length + ys.length ≤ sizeLine then some (.tuple (xs ++ ys)) else none
  | .add, .list xs, .list ys => if xs.length + ys.length ≤ sizeLine then some (.list (xs ++ ys)) else none
  | .sub, .int i, .int j => some (.int (i - j))
  | .sub, .int i, .bool b => some (.int (i - b2 b))
  | .mul, .int i, .int j => if mulOk i j then some (.int (i * j)) else none
  | .mul, .tuple xs, .int n => (repL xs n).map .tuple
  | .mul, .list xs, .int n => (repL xs n).map .list
  | .mod, .int i, .int j => if decide (0 < j) then some (.int (i % j)) else none
  | .fdiv, .int i, .int j => if divOk j then some (.int (i / j)) else none
  | _, _, _ => none
inductive Cm where
  | eq | ne | lt | le | gt | ge | inn | nin | is | isn
  deriving DecidableEq
def cmpOk (a b : D) : Bool := (shal a || shal b) && (!isD a && !isD b)
def alk (a b : D) : Bool := (PySem.W.alike a b && (shal a || shal b)) && (match a with | .none => false | _ => true)
@[simp] def isS : D → D → Option Bool
  | .none, .none => some true
  | .bool _, .none => some false
  | .int _, .none => some false
  | .str _, .none => some false
  | .list _, .none => some false
  | .tuple _, .none => some false
  | .bool a, .bool b => some (a == b)
  | .none, .bool _ => some false
  | .str _, .bool _ => some false
  | _, _ => none
@[simp] def inS (a : D) : D → Option Bool
  | .list xs => if shal a && !isD a then some (xs.any fun x => PyData.eqv x a) else none
  | .tuple xs => if shal a && !isD a then some (xs.any fun x => PyData.eqv x a) else none
  | _ => none
@[simp] def ordI : Cm → Int → Int → Bool
  | .lt, i, j => decide (i < j)
  | .le, i, j => decide (i ≤ j)
  | .gt, i, j => decide (j < i)
  | .ge, i, j => decide (j ≤ i)
  | _, _, _ => false
def ordD : Cm → D → D → Bool
  | .lt, a, b => PySem.W.dataLt a b
  | .le, a, b => !PySem.W.dataLt b a
  | .gt, a, b => PySem.W.dataLt b a
  | .ge, a, b => !PySem.W.dataLt a b
  | _, _, _ => false
@[simp] def ordS (o : Cm) : D → D → Option Bool
  | .int i, .int j => some (ordI o i j)
  | a, b => if alk a b then some (ordD o a b) else none
@[simp] def eqS (a b : D) : Option Bool := if cmpOk a b then some (PyData.eqv a b) else none
@[simp] def cmp2 : Cm → D → D → Option Bool
  | .eq, a, b => eqS a b
  | .ne, a, b => (eqS a b).map (!·)
  | .lt, a, b => ordS .lt a b
  | .le, a, b => ordS .le a b
  | .gt, a, b => ordS .gt a b
  | .ge, a, b => ordS .ge a b
  | .inn, a, b => inS a b
  | .nin, a, b => (inS a b).map (!·)
  | .is, a, b => isS a b
  | .isn, a, b => (isS a b).map (!·)
/-! ### operations by name -/
@[simp] def ixD : D → D → Option D
  | .list xs, .int i => atI xs i
  | .tuple xs, .int i => atI xs i
  | _, _ => none
def cutL (xs : List D) (lo hi : Option Int) : List D := (xs.drop (HT.sIx xs.length 0 lo)).take (HT.sIx xs.length xs.length hi - HT.sIx xs.length 0 lo)
def cutD : D → Option Int → Option Int → Option D
  | .list xs, lo, hi => some (.list (cutL xs lo hi))
  | .tuple xs, lo, hi => some (.tuple (cutL xs lo hi))
  | _, _, _ => none
def revD : D → Option D
  | .list xs => some (.list xs.reverse)
  | .tuple xs => some (.tuple xs.reverse)
  | _ => none
inductive Ty where
  | int | bool | str | tuple | list
  deriving DecidableEq
@[simp] def isi : D → Ty → Option Bool
  | .none, _ => some false
  | .bool _, t => some (t == .bool || t == .int)
  | .int _, t => some (t == .int)
  | .str _, t => some (t == .str)
  | .list _, t => some (t == .list)
  | .tuple _, t => some (t == .tuple)
  | .dict _, _ => none
def intL : List D → Option (List Int)
  | [] => some []
  | .int i :: r => (intL r).map (i :: ·)
  | _ => none
inductive Bi where
  | len | sum | abs | int | tuple | list | max | min | all | any | sorted | dict
  deriving DecidableEq
def noNone (d : D) : Bool := match d with | .none => false | _ => true
def alkL (xs : List D) : Bool := decide (PyData.depthAll xs ≤ 60) && (xs.all noNone && xs.all fun a => xs.all fun b => PySem.W.alike a b)
def tupNE (d : D) : Bool := match d with | .tuple (_ :: _) => true | _ => false
def noTup (d : D) : Bool := match d with | .tuple _ => false | _ => true
def srtOk (xs : List D) : Bool := alkL xs && (xs.all tupNE || xs.all noTup)
def srt (xs : List D) : List D := xs.mergeSort (PySem.W.dataLe false fun d => d)
@[simp] def itemsOf : D → Option (List D)
  | .list xs => some xs
  | .tuple xs => some xs
  | _ => none
/-- the script (a list of ints that only is walked) -/
def scrD (ns : List Int) : D := .dict [(.none, .list (ns.map .int))]
@[simp] def itemsW : D → Option (List D)
  | .dict [(.none, .list xs)] => some xs
  | d => itemsOf d
/-! ### dicts: keys are ints, or tuples of ints -/
def isI : D → Bool
  | .int _ => true
  | _ => false
def isT : D → Bool
  | .tuple ds => ds.all isI
  | _ => false
def getKV (ks : List (D × D)) (k : D) : Option D := (ks.find? fun q => PyData.eqv q.1 k).map (·.2)
def putKV (ks : List (D × D)) (k v : D) : List (D × D) :=
  if ks.any (fun q => PyData.eqv q.1 k) then ks.map (fun q => if PyData.eqv q.1 k then (q.1, v) else q) else ks ++ [(k, v)]
/-- keys of one kind -/
def kok (ks : List (D × D)) (k : D) : Bool := (isI k && ks.all fun q => isI q.1) || (isT k && ks.all fun q => isT q.1)
def pairsOf : List D → Option (List (D × D))
  | [] => some []
  | .tuple [k, v] :: r => (pairsOf r).map ((k, v) :: ·)
  | _ => none
def dictOf (ps : List (D × D)) : List (D × D) := ps.foldl (fun a q => putKV a q.1 q.2) []
/-- dict(pairs): keys that are tuples of ints -/
def dictD (d : D) : Option D := (itemsOf d).bind fun xs => (pairsOf xs).bind fun ps => if (ps.all fun q => isT q.1) && (ps.all fun q => !isD q.2) then some (.dict (dictOf ps)) else none
/-- a dict with keys of one kind -/
def isDk : D → Bool
  | .dict ks => (ks.all fun q => isI q.1) || (ks.all fun q => isT q.1)
  | _ => false
@[simp] def dixD : D → D → Option D
  | .dict ks, k => if kok ks k then getKV ks k else none
  | _, _ => none
@[simp] def dinD : D → D → Option Bool
  | .dict ks, k => if kok ks k then some (getKV ks k).isSome else none
  | _, _ => none
@[simp] def dgtD : D → D → D → Option D
  | .dict ks, k, x => if kok ks k then some ((getKV ks k).getD x) else none
  | _, _, _ => none
/-- str(tuple) -/
def strD : D → Option D
  | .tuple xs => if (PyData.tuple xs).showable && (decide ((PyData.tuple xs).hasDict = false) && (decide ((PyData.tuple xs).depth ≤ 60) && decide ((PyData.tuple xs).shown.length ≤ sizeLine))) then some (.str (PyData.tuple xs).shown) else none
  | _ => none
/-- a dict of two texts -/
def isSD : D → Bool
  | .dict [(.str _, _), (.str _, _)] => true
  | _ => false
def sgtD : D → D → D → Option D
  | .dict [(.str a, x), (.str b, y)], .str k, z => some (if a = k then x else if b = k then y else z)
  | _, _, _ => none
@[simp] def bi1 : Bi → D → Option D
  | .len, .list xs => some (.int xs.length)
  | .len, .tuple xs => some (.int xs.length)
  | .len, .str x => if x.length ≤ sizeLine then some (.int x.length) else none
  | .sum, d => ((itemsOf d).bind intL).map fun ns => .int ns.sum
  | .abs, .int i => some (.int (if i < 0 then -i else i))
  | .int, .int i => some (.int i)
  | .tuple, d => (itemsOf d).map .tuple
  | .list, d => (itemsOf d).map .list
  | .max, .list (x :: xs) => if alkL (x :: xs) then some (PySem.W.maxD x xs) else none
  | .min, .list (x :: xs) => if alkL (x :: xs) then some (PySem.W.minD x xs) else none
  | .all, .list xs => if noDs xs then some (.bool (xs.all tru)) else none
  | .any, .list xs => if noDs xs then some (.bool (xs.any tru)) else none
  | .sorted, .list xs => if srtOk xs then some (.list (srt xs)) else none
  | .dict, d => dictD d
  | _, _ => none
@[simp] def biS : Bi → List D → Option D
  | b, [d] => bi1 b d
  | .max, [.int i, .int j] => some (.int (if j > i then j else i))
  | .min, [.int i, .int j] => some (.int (if j < i then j else i))
  | _, _ => none
/-! ### states -/
def Sg.put (s : Sg) (i : Nat) (c : Cell) : Sg := { s with cs := s.cs.set i c }
def Sg.getV (s : Sg) (i : Nat) : Out D := match s.cs[i]? with
  | some (.val d) => .ok d s
  | some (.own d) => .ok d (s.put i (.val d))
  | _ => .bad
@[simp] def wipeC (cs : List Cell) : List Nat → List Cell
  | [] => cs
  | v :: vs => (wipeC cs vs).set v .no
@[simp] def Sg.wipe (s : Sg) (vs : List Nat) : Sg := { s with cs := wipeC s.cs vs }
/-- held alone, or the draw -/
@[simp] def isO : Option Cell → Bool
  | some (.own _) => true
  | some .drw => true
  | _ => false
@[simp] def isOL : Option Cell → Bool
  | some (.own (.list _)) => true
  | _ => false
@[simp] def keepC : Option Cell → Cell
  | some (.val d) => .val d
  | _ => .no
/-- behind a comprehension: its own names are as they were -/
@[simp] def backC (old cs : List Cell) : List Nat → List Cell
  | [] => cs
  | v :: vs => (backC old cs vs).set v (keepC old[v]?)
@[simp] def Sg.back (s old : Sg) (vs : List Nat) : Sg := { s with cs := backC old.cs s.cs vs }
/-- what is lent: slot i alone is to be read, and what is a value anyway -/
def lendC (i : Nat) (d : D) : Nat → List Cell → List Cell
  | _, [] => []
  | j, c :: cs => (if j = i then .val d else match c with | .val e => .val e | _ => .no) :: lendC i d (j + 1) cs
def scal : D → Bool
  | .none => true
  | .bool _ => true
  | .int _ => true
  | .str _ => true
  | _ => false
/-! ### targets -/
inductive QP where
  | nm (i : Nat) | tp (a b : QP) | tp3 (a b c : QP)
@[simp] def QP.slots : QP → List Nat
  | .nm i => [i]
  | .tp a b => a.slots ++ b.slots
  | .tp3 a b c => a.slots ++ (b.slots ++ c.slots)
def QP.asg : QP → D → Sg → Option Sg
  | .nm i, d, s => some (s.put i (.val d))
  | .tp a b, .tuple [x, y], s => (a.asg x s).bind fun s => b.asg y s
  | .tp a b, .dict [(.bool true, .tuple [x, y])], s => (a.asg x s).bind fun s => b.asg y s
  | .tp3 a b c, .tuple [x, y, z], s => (a.asg x s).bind fun s => (b.asg y s).bind fun s => c.asg z s
  | _, _, _ => none
/-! ### expressions -/
mutual
inductive QE where
  | var (i : Nat)
  | lit (d : D)
  | con (x : Str) (d : D)
  | tup (es : QEs) | lst (es : QEs)
  | bin (o : Op2) (a b : QE) | neg (a : QE) | not (a : QE)
  | cmp (o : Cm) (a b : QE) | chn (o p : Cm) (a b c : QE)
  | and (a b : QE) | or (a b : QE) | ifx (c a b : QE)
  | ix (a b : QE) | oix (i : Nat) (b : QE) | slc (a : QE) (lo hi : QO) | rev (a : QE)
  | call (f : FEnt) (es : QEs) | calld (f : FEnt) (i : Nat) (es : QEs)
  | bi (b : Bi) (es : QEs)
  | isi (a : QE) (t : Ty)
  | lenset (a : QE)
  | comp (elt : QE) (t : QP) (it : QI) (cs : QEs)
  | comp2 (elt : QE) (t : QP) (it : QI) (cs : QEs) (t2 : QP) (it2 : QI) (cs2 : QEs)
  | lend (i : Nat) (e : QE)
  | dix (a b : QE) | din (n : Bool) (a b : QE) | get1 (a b : QE) | get2 (a b c : QE) | dnew
  | oget2 (i : Nat) (b c : QE) | odix (i : Nat) (b : QE) | olen (i : Nat)
  | strf (a : QE) | sdsp (k1 : Str) (a : QE) (k2 : Str) (b : QE) | sget (a b c : QE)
inductive QEs where
  | nil | cons (e : QE) (es : QEs)
inductive QO where
  | none | some (e : QE)
inductive QI where
  | e (a : QE) | rng (a : QE) | rng2 (a b : QE) | enm (a : QE) | zip (a b : QE)
end
/-- a pair that a walk hands over, to be taken apart at once -/
def pairC (x y : D) : D := .dict [(.bool true, .tuple [x, y])]
/-- turn by turn, what each turn makes put together -/
def compL (f : D → Sg → Out (List D)) : List D → Sg → Out (List D)
  | [], s => .ok [] s
  | d :: ds, s => (f d s).bind fun ys s => (compL f ds s).bind fun zs s => .ok (ys ++ zs) s
def enumL : Nat → List D → List D
  | _, [] => []
  | i, d :: ds => pairC (.int i) d :: enumL (i + 1) ds
def zipL : List D → List D → List D
  | x :: xs, y :: ys => pairC x y :: zipL xs ys
  | _, _ => []
def rngL (lo hi : Int) : List D := (List.range (hi - lo).toNat).map fun (k : Nat) => .int (lo + k)
def rngOk (lo hi : Int) : Bool := decide (-(2 ^ 62) ≤ lo) && (decide (lo < 2 ^ 62) && (decide (-(2 ^ 62) ≤ hi) && (decide (hi < 2 ^ 62) && decide ((hi - lo).toNat ≤ sizeLine))))
@[simp] def callP (f : FEnt) (ds : List D) (s : Sg) : Out D := match f.sem ds [] with
  | .ret d _ => .ok d s
  | .exc c _ => .exc c s
  | .bad => .bad
@[simp] def callD (f : FEnt) (ds : List D) (s : Sg) : Out D := match f.sem ds s.dr with
  | .ret d dr => .ok d { s with dr := dr }
  | .exc c dr => .exc c { s with dr := dr }
  | .bad => .bad
@[simp] def callO (f : FEnt) (i : Nat) (ds dr : List D) (s : Sg) : Out D := match f.sem ds dr with
  | .ret d dr' => .ok d (s.put i (.own (.list dr')))
  | .exc c dr' => .exc c (s.put i (.own (.list dr')))
  | .bad => .bad
/-- tuples of ints -/
def tupIs : List D → Option (List (List Int))
  | [] => some []
  | .tuple xs :: r => (intL xs).bind fun ns => (tupIs r).map (ns :: ·)
  | _ => none
def nubI : List (List Int) → List (List Int)
  | [] => []
  | x :: xs => if x ∈ nubI xs then nubI xs else x :: nubI xs
mutual
def ev : QE → Sg → Out D
  | .var i, s => s.getV i
  | .lit d, s => .ok d s
  | .con _ d, s => .ok d s
  | .tup es, s => (evs es s).bind fun ds s => if noDs ds then .ok (.tuple ds) s else .bad
  | .lst es, s => (evs es s).bind fun ds s => if noDs ds then .ok (.list ds) s else .bad
  | .bin o a b, s => (ev a s).bind fun x s => (ev b s).bind fun y s => ofO (bin2 o x y) s
  | .neg a, s => (ev a s).bind fun x s => match x with | .int i => .ok (.int (-i)) s | _ => .bad
  | .not a, s => (tst (ev a s)).bind fun b s => .ok (.bool (!b)) s
  | .cmp o a b, s => (ev a s).bind fun x s => (ev b s).bind fun y s => ofO ((cmp2 o x y).map .bool) s
  | .chn o p a b c, s => (ev a s).bind fun x s => (ev b s).bind fun y s => match cmp2 o x y with
    | some true => (ev c s).bind fun z s => ofO ((cmp2 p y z).map .bool) s
    | some false => .ok (.bool false) s
    | none => .bad
  | .and a b, s => (ev a s).bind fun x s => if isD x then .bad else if tru x then ev b s else .ok x s
  | .or a b, s => (ev a s).bind fun x s => if isD x then .bad else if tru x then .ok x s else ev b s
  | .ifx c a b, s => (tst (ev c s)).bind fun x s => if x then ev a s else ev b s
  | .ix a b, s => (ev a s).bind fun x s => (ev b s).bind fun y s => ofO (ixD x y) s
  | .oix i b, s => if isO s.cs[i]? then (ev b s).bind fun y s => (match s.cs[i]? with
    | some (.own d) => ofO (ixD d y) s
    | some .drw => ofO (ixD (.list s.dr) y) s
    | _ => .bad) else .bad
  | .olen i, s => match s.cs[i]? with
    | some (.own (.list xs)) => .ok (.int xs.length) s
    | some (.val (.list xs)) => .ok (.int xs.length) s
    | some (.val (.tuple xs)) => .ok (.int xs.length) s
    | _ => .bad
  | .strf a, s => (ev a s).bind fun x s => ofO (strD x) s
  | .sdsp k1 a k2 b, s => (ev a s).bind fun x s => (ev b s).bind fun y s => if isD x || (isD y || decide (k1 = k2)) then .bad else .ok (.dict [(.str k1, x), (.str k2, y)]) s
  | .sget a b c, s => (ev a s).bind fun x s => if isSD x then (ev b s).bind fun y s => (ev c s).bind fun z s => if isD z then .bad else ofO (sgtD x y z) s else .bad
  | .slc a lo hi, s => (ev a s).bind fun x s => (evo lo s).bind fun l s => (evo hi s).bind fun h s => ofO (cutD x l h) s
  | .rev a, s => (ev a s).bind fun x s => ofO (revD x) s
  | .call f es, s => (evs es s).bind fun ds s => callP f ds s
  | .calld f i es, s => match s.cs[i]? with
    | some .drw => (evs es s).bind fun ds s => (match s.cs[i]? with | some .drw => callD f ds s | _ => .bad)
    | some (.own _) => (evs es s).bind fun ds s => (match s.cs[i]? with | some (.own (.list dr)) => callO f i ds dr s | _ => .bad)
    | _ => .bad
  | .bi b es, s => (evs es s).bind fun ds s => ofO (biS b ds) s
  | .isi a t, s => (ev a s).bind fun x s => ofO ((isi x t).map .bool) s
  | .lenset a, s => (ev a s).bind fun x s => match x with
    | .list xs => (match tupIs xs with | some nss => if decide (xs.length < 64) then .ok (.int (nubI nss).length) s else .bad | none => .bad)
    | _ => .bad
  | .comp elt t it cs, s => (evi it s).bind fun ds s1 =>
      (noX (compL (fun d s2 => match t.asg d s2 with
        | none => .bad
        | some s3 => (evc cs s3).bind fun b s4 => (if b then (ev elt s4).bind fun y s5 => if isD y then .bad else .ok [y] s5 else .ok [] s4).bind fun ys s6 => .ok ys (s6.wipe t.slots)) ds (s1.wipe t.slots))).bind fun ys s7 => .ok (.list ys) (s7.back s1 t.slots)
  | .comp2 elt t it cs t2 it2 cs2, s => (evi it s).bind fun ds s1 =>
      (noX (compL (fun d s2 => match t.asg d s2 with
        | none => .bad
        | some s3 => (evc cs s3).bind fun b s4 => (if b then (evi it2 s4).bind fun ds2 s5 =>
            compL (fun d s6 => match t2.asg d s6 with
              | none => .bad
              | some s7 => (evc cs2 s7).bind fun b s8 => (if b then (ev elt s8).bind fun y s9 => if isD y then .bad else .ok [y] s9 else .ok [] s8).bind fun ys s10 => .ok ys (s10.wipe t2.slots)) ds2 (s5.wipe t2.slots)
            else .ok [] s4).bind fun ys s6 => .ok ys (s6.wipe (t.slots ++ t2.slots))) ds (s1.wipe (t.slots ++ t2.slots)))).bind fun ys s7 => if ys.length ≤ sizeLine then .ok (.list ys) (s7.back s1 (t.slots ++ t2.slots)) else .bad
  | .lend i e, s => match s.cs[i]? with
    | some (.own d) => (match ev e ⟨lendC i d 0 s.cs, []⟩ with
      | .ok r _ => if scal r then .ok r s else .bad
      | _ => .bad)
    | _ => .bad
  | .dix a b, s => (ev a s).bind fun x s => (ev b s).bind fun y s => ofO (dixD x y) s
  | .din n a b, s => (ev a s).bind fun x s => (ev b s).bind fun y s => ofO ((dinD y x).map fun r => .bool (r != n)) s
  | .get1 a b, s => (ev a s).bind fun x s => if isDk x then (ev b s).bind fun y s => ofO (dgtD x y .none) s else .bad
  | .get2 a b c, s => (ev a s).bind fun x s => if isDk x then (ev b s).bind fun y s => (ev c s).bind fun z s => if isD z then .bad else ofO (dgtD x y z) s else .bad
  | .dnew, s => .ok (.dict []) s
  | .oget2 i b c, s => (match s.cs[i]? with
    | some (.own _) => (ev b s).bind fun y s => (ev c s).bind fun z s => (match s.cs[i]? with
      | some (.own d) => if isD z then .bad else ofO (dgtD d y z) s
      | _ => .bad)
    | _ => .bad)
  | .odix i b, s => (match s.cs[i]? with
    | some (.own _) => (ev b s).bind fun y s => (match s.cs[i]? with
      | some (.own d) => ofO (dixD d y) s
      | _ => .bad)
    | _ => .bad)
def evs : QEs → Sg → Out (List D)
  | .nil, s => .ok [] s
  | .cons e es, s => (ev e s).bind fun x s => (evs es s).bind fun xs s => .ok (x :: xs) s
def evo : QO → Sg → Out (Option Int)
  | .none, s => .ok none s
  | .some e, s => (ev e s).bind fun x s => match x with | .int i => .ok (some i) s | _ => .bad
/-- a clause's tests: none or one -/
def evc : QEs → Sg → Out Bool
  | .nil, s => .ok true s
  | .cons e .nil, s => tst (ev e s)
  | .cons _ (.cons _ _), _ => .bad
def evi : QI → Sg → Out (List D)
  | .e a, s => (ev a s).bind fun x s => ofO (itemsW x) s
  | .rng a, s => (ev a s).bind fun x s => match x with | .int j => if rngOk 0 j then .ok (rngL 0 j) s else .bad | _ => .bad
  | .rng2 a b, s => (ev a s).bind fun x s => (ev b s).bind fun y s => match x, y with | .int i, .int j => if rngOk i j then .ok (rngL i j) s else .bad | _, _ => .bad
  | .enm a, s => (ev a s).bind fun x s => ofO ((itemsOf x).map (enumL 0)) s
  | .zip a b, s => (ev a s).bind fun x s => (ev b s).bind fun y s => match x, y with
    | .list xs, .list ys => .ok (zipL xs ys) s
    | .tuple xs, .tuple ys => .ok (zipL xs ys) s
    | _, _ => .bad
end
/-! ### statements -/
mutual
inductive QS where
  | set (i : Nat) (e : QE) | own (i : Nat) (e : QE)
  | par (i j : Nat) (a b : QE) | parO (i j : Nat) (a b : QE) | par3 (i j k : Nat) (a b c : QE) | unp (t : QP) (e : QE) | unpP (t u : QP) (a b : QE)
  | ret (e : QE) | retN | retF (e : QE)
  | ite (c : QE) (a b : QSs)
  | fr (t : QP) (it : QI) (b : QSs)
  | whl (c : QE) (b : QSs)
  | dput (i : Nat) (k e : QE)
  | app (i : Nat) (e : QE) | ext (i : Nat) (e : QE) | put (i : Nat) (k e : QE) | aug (i : Nat) (o : Op2) (e : QE)
  | xpr (e : QE) | rse (c : Str) | tri (b : QSs) (c : Str) (kn : List Str) (r : QE)
  | brk | cnt | pass
inductive QSs where
  | nil | cons (s : QS) (r : QSs)
end
def frL (f : D → Sg → SOut) : List D → Sg → SOut
  | [], s => .nx s
  | d :: ds, s => match f d s with
    | .nx s => frL f ds s
    | .ct s => frL f ds s
    | .brk s => .nx s
    | .ret d s => .ret d s
    | .exc c s => .exc c s
    | .bad => .bad
/-- a while, at most n turns -/
def whN (c : Sg → Out Bool) (f : Sg → SOut) : Nat → Sg → SOut
  | 0, _ => .bad
  | n + 1, s => match c s with
    | .bad => .bad
    | .exc c s => .exc c s
    | .ok d s => if d then (match f s with
      | .nx s => whN c f n s
      | .ct s => whN c f n s
      | .brk s => .nx s
      | .ret d s => .ret d s
      | .exc c s => .exc c s
      | .bad => .bad) else .nx s
open Classical in
noncomputable def wh (c : Sg → Out Bool) (f : Sg → SOut) (s : Sg) : SOut := if h : ∃ n, whN c f n s ≠ .bad then whN c f (Classical.choose h) s else .bad
def SOut.of {α : Type} (o : Out α) (k : α → Sg → SOut) : SOut := match o with
  | .ok d s => k d s
  | .exc c s => .exc c s
  | .bad => .bad
@[simp] theorem SOut.of_ok {α : Type} (d : α) (s : Sg) (k : α → Sg → SOut) : SOut.of (.ok d s) k = k d s := nr rfl
@[simp] theorem SOut.of_exc {α : Type} (c : Str) (s : Sg) (k : α → Sg → SOut) : SOut.of (.exc c s : Out α) k = .exc c s := nr rfl
@[simp] theorem SOut.of_bad {α : Type} (k : α → Sg → SOut) : SOut.of (.bad : Out α) k = .bad := nr rfl
mutual
noncomputable def run : QS → Sg → SOut
  | .set i e, s => SOut.of (ev e s) fun d s => .nx (s.put i (.val d))
  | .own i e, s => SOut.of (ev e s) fun d s => (match d with | .list _ => .nx (s.put i (.own d)) | .dict _ => .nx (s.put i (.own d)) | _ => .bad)
  | .par i j a b, s => SOut.of (ev a s) fun x s => SOut.of (ev b s) fun y s => .nx ((s.put i (.val x)).put j (.val y))
  | .parO i j a b, s => SOut.of (ev a s) fun x s => SOut.of (ev b s) fun y s => (match y with | .list _ => .nx ((s.put i (.val x)).put j (.own y)) | _ => .bad)
  | .par3 i j k a b c, s => SOut.of (ev a s) fun x s => SOut.of (ev b s) fun y s => SOut.of (ev c s) fun z s => .nx (((s.put i (.val x)).put j (.val y)).put k (.val z))
  | .unp t e, s => SOut.of (ev e s) fun d s => (match t.asg d s with | some s => .nx s | none => .bad)
  | .unpP t u a b, s => SOut.of (evs (.cons a (.cons b .nil)) s) fun ds s => (match ds with
    | [x, y] => (match ((t.asg x s).bind fun s => u.asg y s) with | some s => .nx s | none => .bad)
    | _ => .bad)
  | .ret e, s => SOut.of (ev e s) fun d s => .ret d s
  | .retN, s => .ret .none s
  | .retF e, s => SOut.of (ev e s) fun d s => .ret d s
  | .ite c a b, s => SOut.of (tst (ev c s)) fun d s => if d then runs a s else runs b s
  | .fr t it b, s => (match evi it s with
    | .ok ds s => frL (fun d s => match t.asg d s with | some s => runs b s | none => .bad) ds s
    | .exc c s => .exc c s
    | .bad => .bad)
  | .whl c b, s => wh (fun s => tst (ev c s)) (fun s => runs b s) s
  | .app i e, s => if isOL s.cs[i]? then SOut.of (ev e s) fun d s => (match s.cs[i]? with
    | some (.own (.list xs)) => if !isD d && decide (xs.length < sizeLine) then .nx (s.put i (.own (.list (xs ++ [d])))) else .bad
    | _ => .bad) else .bad
  | .ext i e, s => if isOL s.cs[i]? then SOut.of (ev e s) fun d s => (match s.cs[i]?, d with
    | some (.own (.list xs)), .list ys => if xs.length + ys.length ≤ sizeLine then .nx (s.put i (.own (.list (xs ++ ys)))) else .bad
    | _, _ => .bad) else .bad
  | .put i k e, s => SOut.of (ev e s) fun d s => if isO s.cs[i]? then SOut.of (ev k s) fun j s => (match s.cs[i]?, j with
    | some (.own (.list xs)), .int j => (match isD d, ixN xs.length j with | false, some n => .nx (s.put i (.own (.list (xs.set n d)))) | _, _ => .bad)
    | some .drw, .int j => (match isD d, ixN s.dr.length j with | false, some n => .nx { s with dr := s.dr.set n d } | _, _ => .bad)
    | _, _ => .bad) else .bad
  | .dput i k e, s => SOut.of (ev e s) fun d s => (match s.cs[i]? with
    | some (.own (.dict _)) => SOut.of (ev k s) fun j s => (match s.cs[i]? with
      | some (.own (.dict ks)) => if !isD d && (kok ks j && decide (ks.length < sizeLine)) then .nx (s.put i (.own (.dict (putKV ks j d)))) else .bad
      | _ => .bad)
    | _ => .bad)
  | .aug i o e, s => (match s.cs[i]? with
    | some (.val (.int x)) => SOut.of (ev e s) fun d s => (match o, d with
      | .add, .int y => .nx (s.put i (.val (.int (x + y))))
      | .sub, .int y => .nx (s.put i (.val (.int (x - y))))
      | .mul, .int y => if mulOk x y then .nx (s.put i (.val (.int (x * y)))) else .bad
      | _, _ => .bad)
    | _ => .bad)
  | .xpr e, s => SOut.of (ev e s) fun _ s => .nx s
  | .rse c, s => .exc c s
  | .tri b c kn r, s => (match runs b s with
    | .exc c' s => if c' ∈ kn then (if c' = c then SOut.of (ev r s) fun d s => .ret d s else .exc c' s) else .bad
    | o => o)
  | .brk, s => .brk s
  | .cnt, s => .ct s
  | .pass, s => .nx s
noncomputable def runs : QSs → Sg → SOut
  | .nil, s => .nx s
  | .cons st r, s => (match run st s with
    | .nx s => runs r s
    | o => o)
end
/-- a def without the draw, one that is handed it first; m: how many slots -/
noncomputable def frOf (o : SOut) : FR := match o with
  | .nx s => .ret .none s.dr
  | .ret d s => .ret d s.dr
  | .exc c s => .exc c s.dr
  | _ => .bad
@[simp] noncomputable def semP (b : QSs) (m : Nat) (ds : List D) : FR := frOf (runs b ⟨ds.map .val ++ List.replicate (m - ds.length) .no, []⟩)
@[simp] noncomputable def semD (b : QSs) (m : Nat) (ds dr : List D) : FR := frOf (runs b ⟨.drw :: (ds.map .val ++ List.replicate (m - 1 - ds.length) .no), dr⟩)
end L2.BH
set_option maxHeartbeats 1000000
/-! The abstract heap bears the plain state. -/
namespace L2.BH
open PySem PySem.Spec PyProof.Rows
abbrev Le (H H' : Hp) : Prop := ∀ b o, H b = some o → H' b = some o
theorem Le.refl (H : Hp) : Le H H := fun _ _ h => h
theorem Le.trans {H H1 H2 : Hp} (a : Le H H1) (b : Le H1 H2) : Le H H2 := fun c o h => b c o (a c o h)
theorem Le.new {H : Hp} {q : Addr} {o : HO} (h : H q = none) : Le H (upd H q o) := fun b u e => by
  rw [upd_ne (ne_of_none e h)]; exact e
theorem Le.rd {H H' : Hp} {a : Addr} {u : HO} (l : Le H H') (r : Rd H a u) : Rd H' a u := by
  rcases r with r | ⟨o, r⟩
  · exact .inl (l _ _ r)
  · exact .inr ⟨o, l _ _ r⟩
section
variable {K : PySem.W.Frag} {F F' H H' : Hp}
theorem Le.sqL {a : Addr} {xs : List V} (l : Le F F') (h : SqL K F a xs) : SqL K F' a xs := h.elim (fun r => .inl (l.rd r)) .inr
theorem Le.sqT0 {a : Addr} {xs : List V} (l : Le F F') (h : SqT K F a xs) : SqT K F' a xs := h.elim (fun r => .inl (l.rd r)) .inr
/-- a tuple that has no attributes of its own -/
def PlT (K : PySem.W.Frag) (H : Hp) (a : Addr) (xs : List V) : Prop :=
  (∃ o, H a = some (.frz o (.tup xs)) ∧ o.dict = none) ∨
    ∃ (o : Obj) (its : Array Value) (n : Nat), K.lookup a = some o ∧ o.cls = .type "tuple" ∧ o.dict = none ∧ o.data = .seq its n ∧ its.size ≤ sizeLine ∧ Vals xs its.toList
theorem PlT.sq {H : Hp} {a : Addr} {xs : List V} (h : PlT K H a xs) : SqT K H a xs := by
  rcases h with ⟨o, h, _⟩ | ⟨o, its, n, h1, h2, _, h3⟩
  · exact .inl (.inr ⟨o, h⟩)
  · exact .inr ⟨o, its, n, h1, h2, h3⟩
theorem Le.plT {a : Addr} {xs : List V} (l : Le F F') (h : PlT K F a xs) : PlT K F' a xs := h.elim (fun ⟨o, r, d⟩ => .inl ⟨o, l _ _ r, d⟩) .inr
theorem Le.sqT {a : Addr} {xs : List V} (l : Le F F') (h : PlT K F a xs) : SqT K F' a xs := (l.plT h).sq
theorem PlT.of {a : Addr} {o : Obj} {xs : List V} (h : F a = some (.frz o (.tup xs))) (d : o.dict = none) : PlT K F a xs := .inl ⟨o, h, d⟩
mutual
/-- a value and its data: lists that are tracked, tuples that are tracked or written -/
inductive Rp (K : PySem.W.Frag) (H : Hp) : V → D → Prop
  | non : Rp K H .non .none
  | bl (b : Bool) : Rp K H (.bl b) (.bool b)
  | int (i : Int) : Rp K H (.int i) (.int i)
  | str (x : Str) : x.length ≤ sizeLine → Rp K H (.str x) (.str x)
  | lst {a : Addr} {xs : List V} {ds : List D} : Rd H a (.lst xs) → RpAll K H xs ds → Rp K H (.ref a) (.list ds)
  | tup {a : Addr} {xs : List V} {ds : List D} : PlT K H a xs → RpAll K H xs ds → Rp K H (.ref a) (.tuple ds)
inductive RpAll (K : PySem.W.Frag) (H : Hp) : List V → List D → Prop
  | nil : RpAll K H [] []
  | cons {v : V} {vs : List V} {d : D} {ds : List D} : Rp K H v d → RpAll K H vs ds → RpAll K H (v :: vs) (d :: ds)
end
mutual
theorem Rp.toD : ∀ (d : D) (v : V), Rp K H v d → Dp K H v d
  | .none, _, h => by cases h; exact .non
  | .bool b, _, h => by cases h; exact .bl b
  | .int i, _, h => by cases h; exact .int i
  | .str x, _, h => by cases h; exact Dp.str x
  | .list ds, _, h => by
    cases h with
    | lst hs ha => exact .lst (.inl hs) (RpAll.toD ds _ ha)
  | .tuple ds, _, h => by
    cases h with
    | tup hs ha => exact .tup hs.sq (RpAll.toD ds _ ha)
  | .dict _, _, h => by cases h
theorem RpAll.toD : ∀ (ds : List D) (vs : List V), RpAll K H vs ds → DpAll K H vs ds
  | [], _, h => by cases h; exact .nil
  | d :: ds, _, h => by
    cases h with
    | cons h1 h2 => exact .cons (Rp.toD d _ h1) (RpAll.toD ds _ h2)
end
mutual
theorem dp_mono (l : Le F F') : ∀ (d : D) (v : V), Rp K F v d → Rp K F' v d
  | .none, _, h => by cases h; exact .non
  | .bool b, _, h => by cases h; exact .bl b
  | .int i, _, h => by cases h; exact .int i
  | .str x, _, h => by
    cases h with
    | str _ h => exact .str x h
  | .list ds, _, h => by
    cases h with
    | lst hs ha => exact .lst (l.rd hs) (dpAll_mono l ds _ ha)
  | .tuple ds, _, h => by
    cases h with
    | tup hs ha => exact .tup (l.plT hs) (dpAll_mono l ds _ ha)
  | .dict _, _, h => by cases h
theorem dpAll_mono (l : Le F F') : ∀ (ds : List D) (vs : List V), RpAll K F vs ds → RpAll K F' vs ds
  | [], _, h => by cases h; exact .nil
  | d :: ds, _, h => by
    cases h with
    | cons h1 h2 => exact .cons (dp_mono l d _ h1) (dpAll_mono l ds _ h2)
end
theorem dpAll_len : ∀ {vs : List V} {ds : List D}, RpAll K F vs ds → vs.length = ds.length
  | _, _, .nil => rfl
  | _, _, .cons _ h => by rw [List.length_cons, List.length_cons, dpAll_len h]
theorem dpAll_app : ∀ {vs ws : List V} {ds es : List D}, RpAll K F vs ds → RpAll K F ws es → RpAll K F (vs ++ ws) (ds ++ es)
  | _, _, _, _, .nil, h => h
  | _, _, _, _, .cons a t, h => .cons a (dpAll_app t h)
theorem dpAll_get : ∀ {vs : List V} {ds : List D} {i : Nat} {d : D}, RpAll K F vs ds → ds[i]? = some d → ∃ v, vs[i]? = some v ∧ Rp K F v d
  | _, _, _, _, .nil, h => by simp at h
  | _, _, 0, _, .cons a _, h => by simp at h; subst h; exact ⟨_, rfl, a⟩
  | _, _, i + 1, _, .cons _ t, h => by
    obtain ⟨v, h1, h2⟩ := dpAll_get (i := i) t (by simpa using h)
    exact ⟨v, by simpa using h1, h2⟩
theorem dpAll_getV : ∀ {vs : List V} {ds : List D} {i : Nat} {v : V}, RpAll K F vs ds → vs[i]? = some v → ∃ d, ds[i]? = some d ∧ Rp K F v d
  | _, _, _, _, .nil, h => by simp at h
  | _, _, 0, _, .cons a _, h => by simp at h; subst h; exact ⟨_, rfl, a⟩
  | _, _, i + 1, _, .cons _ t, h => by
    obtain ⟨v, h1, h2⟩ := dpAll_getV (i := i) t (by simpa using h)
    exact ⟨v, by simpa using h1, h2⟩
theorem dpAll_take : ∀ {vs : List V} {ds : List D} (n : Nat), RpAll K F vs ds → RpAll K F (vs.take n) (ds.take n)
  | _, _, 0, _ => .nil
  | _, _, _ + 1, .nil => .nil
  | _, _, n + 1, .cons a t => .cons a (dpAll_take n t)
theorem dpAll_drop : ∀ {vs : List V} {ds : List D} (n : Nat), RpAll K F vs ds → RpAll K F (vs.drop n) (ds.drop n)
  | _, _, 0, h => h
  | _, _, _ + 1, .nil => .nil
  | _, _, n + 1, .cons _ t => dpAll_drop n t
theorem dpAll_set {v : V} {d : D} (h : Rp K F v d) : ∀ {vs : List V} {ds : List D} (n : Nat), RpAll K F vs ds → RpAll K F (vs.set n v) (ds.set n d)
  | _, _, _, .nil => .nil
  | _, _, 0, .cons _ t => .cons h t
  | _, _, n + 1, .cons a t => .cons a (dpAll_set h n t)
theorem dpAll_rev : ∀ {vs : List V} {ds : List D}, RpAll K F vs ds → RpAll K F vs.reverse ds.reverse
  | _, _, .nil => .nil
  | _, _, .cons a t => by
    rw [List.reverse_cons, List.reverse_cons]
    exact dpAll_app (dpAll_rev t) (.cons a .nil)
theorem dpAll_rep {vs : List V} {ds : List D} (h : RpAll K F vs ds) : ∀ k : Nat, RpAll K F (List.replicate k vs).flatten (List.replicate k ds).flatten
  | 0 => .nil
  | k + 1 => by
    rw [List.replicate_succ, List.flatten_cons, List.replicate_succ, List.flatten_cons]
    exact dpAll_app h (dpAll_rep h k)
theorem dpAll_ints : ∀ {vs : List V} {ns : List Int}, RpAll K F vs (ns.map PyData.int) → vs = ns.map V.int
  | _, [], h => by cases h; rfl
  | _, n :: ns, h => by
    have h' : RpAll K F _ (PyData.int n :: ns.map PyData.int) := h
    cases h' with
    | cons a t =>
      cases a
      rw [dpAll_ints t]
      rfl
theorem ints_dpAll : ∀ ns : List Int, RpAll K F (ns.map V.int) (ns.map PyData.int)
  | [] => .nil
  | n :: ns => .cons (.int n) (ints_dpAll ns)
theorem intL_eq : ∀ {ds : List D} {ns : List Int}, intL ds = some ns → ds = ns.map PyData.int
  | [], _, h => by cases h; rfl
  | .int i :: r, ns, h => by
    unfold intL at h
    cases e : intL r with
    | none => rw [e] at h; cases h
    | some ms =>
      rw [e] at h
      cases h
      rw [intL_eq e]
      rfl
  | .none :: _, _, h => by cases h
  | .bool _ :: _, _, h => by cases h
  | .str _ :: _, _, h => by cases h
  | .list _ :: _, _, h => by cases h
  | .tuple _ :: _, _, h => by cases h
  | .dict _ :: _, _, h => by cases h
end
/-- a dict's entries, raw -/
def RawD (a : Addr) (es0 : List DictEntry) : Heap → Prop := fun h => ∃ o es ep, h.get? a = some o ∧ o.ExactDict ∧ o.data = .dict es ep ∧ es.toList = es0
def dRaw (a : Addr) (es0 : List DictEntry) : HO := .ext (RawD a es0)
theorem dRaw_ok {P : Program} {w : World} {H : Hp} {h : Heap} {a : Addr} {es0 : List DictEntry} (x : RawD a es0 h) : ObjOk P w H h a (dRaw a es0) := by
  obtain ⟨o, es, ep, h1, h2, h3, h4⟩ := x
  exact ⟨⟨o, es, ep, h1, h2, h3, h4⟩, ⟨o, h1⟩, fun a b ⟨o, es, ep, g1, g2⟩ k => ⟨o, es, ep, k _ g1, g2⟩⟩
theorem dRaw_at {P : Program} {w : World} {H : Hp} {h : Heap} {a : Addr} {es0 : List DictEntry} (x : ObjOk P w H h a (dRaw a es0)) : RawD a es0 h := x.1
/-- the hash of a tuple of ints -/
def tkH (ns : List Int) : Int := reduceHash (Builtin.Tuple.tupleHashOf (ns.map hashInt))
inductive EntK (K : PySem.W.Frag) (F : Hp) : DictEntry → D → Prop
  | int {i : Int} {t : Tok} {u : Value} : EntK K F ⟨hashInt i, .int i t, u⟩ (.int i)
  | tup {ns : List Int} {b : Addr} {u : Value} : SqT K F b (ns.map V.int) → EntK K F ⟨tkH ns, .ref b, u⟩ (.tuple (ns.map .int))
def EntR (K : PySem.W.Frag) (F : Hp) : List DictEntry → List (D × D) → Prop := Paired fun e q => EntK K F e q.1 ∧ ∃ v, RelV v e.val ∧ Rp K F v q.2
/-- a dict: where it stands, what the values lean on -/
def DicR (K : PySem.W.Frag) (F H : Hp) (a : Addr) (ks : List (D × D)) : Prop := ∃ es0, H a = some (dRaw a es0) ∧ EntR K F es0 ks ∧ (ks.map (·.1)).Nodup ∧ ks.length ≤ sizeLine ∧ (a == sysModules) = false
/-- a value that the frozen part bears -/
inductive RepV (K : PySem.W.Frag) (F : Hp) : V → D → Prop
  | dp {v : V} {d : D} : Rp K F v d → RepV K F v d
  | dic {a : Addr} {ks : List (D × D)} : DicR K F F a ks → RepV K F (.ref a) (.dict ks)
  | scr {a : Addr} {ns : List Int} : SqL K F a (ns.map V.int) → RepV K F (.ref a) (scrD ns)
  | prs {a : Addr} {x y : V} {d e : D} : SqT K F a [x, y] → Rp K F x d → Rp K F y e → RepV K F (.ref a) (pairC d e)
  | sdi {a : Addr} {k1 k2 : Str} {x y : V} {d e : D} : F a = some (.dK [(.inr k1, x), (.inr k2, y)]) → Rp K F x d → Rp K F y e → RepV K F (.ref a) (.dict [(.str k1, d), (.str k2, e)])
inductive RepA (K : PySem.W.Frag) (F : Hp) : List V → List D → Prop
  | nil : RepA K F [] []
  | cons {v : V} {vs : List V} {d : D} {ds : List D} : RepV K F v d → RepA K F vs ds → RepA K F (v :: vs) (d :: ds)
section
variable {K : PySem.W.Frag} {F F' H H' : Hp}
theorem EntK.mono (l : Le F F') {e : DictEntry} {k : D} (h : EntK K F e k) : EntK K F' e k := by
  cases h with
  | int => exact .int
  | tup h => exact .tup (l.sqT0 h)
theorem EntR.mono (l : Le F F') {es : List DictEntry} {ks : List (D × D)} (h : EntR K F es ks) : EntR K F' es ks :=
  Paired.mapP h fun _ _ ⟨z1, v, z2, z3⟩ => ⟨z1.mono l, v, z2, dp_mono l _ _ z3⟩
theorem DicR.mono (l : Le F F') {a : Addr} {ks : List (D × D)} (h : DicR K F H a ks) (k : ∀ o, H a = some o → H' a = some o) : DicR K F' H' a ks := by
  obtain ⟨es, h1, h2, h3⟩ := h
  exact ⟨es, k _ h1, h2.mono l, h3⟩
theorem RepV.mono (l : Le F F') {v : V} {d : D} (h : RepV K F v d) : RepV K F' v d := by
  cases h with
  | dp h => exact .dp (dp_mono l _ _ h)
  | dic h => exact .dic (h.mono l fun o e => l _ _ e)
  | scr h => exact .scr (l.sqL h)
  | prs h h1 h2 => exact .prs (l.sqT0 h) (dp_mono l _ _ h1) (dp_mono l _ _ h2)
  | sdi h h1 h2 => exact .sdi (l _ _ h) (dp_mono l _ _ h1) (dp_mono l _ _ h2)
theorem RepA.mono (l : Le F F') : ∀ {vs : List V} {ds : List D}, RepA K F vs ds → RepA K F' vs ds
  | _, _, .nil => .nil
  | _, _, .cons a t => .cons (a.mono l) (RepA.mono l t)
theorem RepV.toDp {v : V} {d : D} (h : RepV K F v d) (n : isD d = false) : Rp K F v d := by
  cases h with
  | dp h => exact h
  | dic _ => cases n
  | scr _ => cases n
  | prs _ _ _ => cases n
  | sdi _ _ _ => cases n
theorem RepA.toDp : ∀ {vs : List V} {ds : List D}, RepA K F vs ds → noDs ds = true → RpAll K F vs ds
  | _, _, .nil, _ => .nil
  | _, _, .cons a t, n => by
    unfold noDs at n
    rw [List.all_cons, Bool.and_eq_true] at n
    exact .cons (a.toDp (by simpa using n.1)) (RepA.toDp t n.2)
theorem RepA.len : ∀ {vs : List V} {ds : List D}, RepA K F vs ds → vs.length = ds.length
  | _, _, .nil => rfl
  | _, _, .cons _ h => by rw [List.length_cons, List.length_cons, RepA.len h]
theorem scal_any {v : V} {d : D} (h : RepV K F v d) (c : scal d = true) : RepV K F' v d := by
  cases h with
  | dp h => cases h <;> first | exact .dp .non | exact .dp (.bl _) | exact .dp (.int _) | exact .dp (.str _ (by assumption)) | cases c
  | dic _ => cases c
  | scr _ => cases c
  | prs _ _ _ => cases c
  | sdi _ _ _ => cases c
end
/-- lists and tuples that are tracked are no longer than the line -/
def Sz (H : Hp) : Prop := ∀ a xs, (Rd H a (.lst xs) ∨ Rd H a (.tup xs)) → xs.length ≤ sizeLine
theorem Sz.of {P : Program} {w : World} {H : Hp} {h : Heap} (x : HOk P w H h) : Sz H := fun a xs r => by
  rcases r with r | r
  · exact (show xs.length ≤ sizeLine ∧ _ from r.ok x).1
  · exact (show xs.length ≤ sizeLine ∧ _ from r.ok x).1
theorem Sz.lst {K : PySem.W.Frag} {H : Hp} (z : Sz H) {a : Addr} {xs : List V} (h : SqL K H a xs) : xs.length ≤ sizeLine := by
  rcases h with h | ⟨o, its, n, _, _, _, _, hz, r⟩
  · exact z a xs (.inl h)
  · have e := r.length
    simp only [Array.length_toList] at e
    omega
theorem Sz.tup {K : PySem.W.Frag} {H : Hp} (z : Sz H) {a : Addr} {xs : List V} (h : SqT K H a xs) : xs.length ≤ sizeLine := by
  rcases h with h | ⟨o, its, n, _, _, _, hz, r⟩
  · exact z a xs (.inr h)
  · have e := r.length
    simp only [Array.length_toList] at e
    omega
/-- what a list or dict held alone looks like -/
def OwnAt (K : PySem.W.Frag) (F H : Hp) (a : Addr) : D → Prop
  | .list xs => ∃ vs, H a = some (.lst vs) ∧ RpAll K F vs xs
  | .dict ks => DicR K F H a ks
  | _ => False
theorem OwnAt.mono {K : PySem.W.Frag} {F F' H H' : Hp} {a : Addr} {d : D} (h : OwnAt K F H a d) (l : Le F F') (e : ∀ o, H a = some o → H' a = some o) : OwnAt K F' H' a d := by
  cases d with
  | list xs => obtain ⟨vs, h1, h2⟩ := h; exact ⟨vs, e _ h1, dpAll_mono l _ _ h2⟩
  | dict ks => exact DicR.mono l h e
  | _ => exact h.elim
theorem OwnAt.some {K : PySem.W.Frag} {F H : Hp} {a : Addr} {d : D} (h : OwnAt K F H a d) : H a ≠ none := by
  cases d with
  | list xs => obtain ⟨vs, h1, _⟩ := h; rw [h1]; simp
  | dict ks => obtain ⟨vs, h1, _⟩ := h; rw [h1]; simp
  | _ => exact h.elim
def CellOk (K : PySem.W.Frag) (B : Hp) (p : Option Addr) (F : Hp) (σ : St) (H : Hp) (ρ : Nat → Option Addr) (i : Nat) : Cell → Prop
  | .no => True
  | .val d => ∃ v, σ[i]? = some (some v) ∧ RepV K F v d
  | .own d => ∃ a, ρ i = some a ∧ σ[i]? = some (some (.ref a)) ∧ B a = none ∧ F a = none ∧ p ≠ some a ∧ OwnAt K F H a d
  | .drw => ∃ a, p = some a ∧ σ[i]? = some (some (.ref a))
/-- B: the heap at the def's entry; F₀: what was frozen there; p: where the draw stands; F: what is frozen now -/
structure Gd (K : PySem.W.Frag) (B F0 : Hp) (p : Option Addr) (F : Hp) (s : Sg) (σ : St) (H : Hp) : Prop where
  le : Le F0 F
  fh : Le F H
  bh : ∀ a o, B a = some o → p ≠ some a → H a = some o
  bf : ∀ a, B a ≠ none → F0 a = none → F a = none
  cs : ∃ ρ : Nat → Option Addr, (∀ i c, s.cs[i]? = some c → CellOk K B p F σ H ρ i c) ∧ ∀ i j a, ρ i = some a → ρ j = some a → i = j
  dr : ∀ a, p = some a → F a = none ∧ ∃ xs, H a = some (.lst xs) ∧ RpAll K F xs s.dr
  len : s.cs.length ≤ σ.length
/-- a step: the frozen part grows, the rest stays but for the draw -/
structure Stp (p : Option Addr) (F H F' H' : Hp) : Prop where
  ff : Le F F'
  fh : Le F' H'
  hh : ∀ b o, H b = some o → p ≠ some b → H' b = some o
  no : ∀ b, H b ≠ none → F b = none → F' b = none
section
variable {K : PySem.W.Frag} {B F0 F F' F2 H H' H2 : Hp} {p : Option Addr} {s s' : Sg} {σ : St} {q : Addr} {o : HO}
theorem Stp.refl (l : Le F H) : Stp p F H F H := ⟨Le.refl _, l, fun _ _ h _ => h, fun _ _ h => h⟩
theorem Stp.trans (a : Stp p F H F' H') (b : Stp p F' H' F2 H2) (hp : ∀ c, p = some c → H c ≠ none → H' c ≠ none) : Stp p F H F2 H2 :=
  ⟨a.ff.trans b.ff, b.fh, fun c o h n => b.hh c o (a.hh c o h n) n, fun c h n => b.no c (by
    by_cases e : p = some c
    · exact hp c e h
    · cases q : H c with
      | none => exact absurd q h
      | some o => rw [a.hh c o q e]; simp) (a.no c h n)⟩
/-- a new object, frozen -/
theorem Stp.new (l : Le F H) (hq : H q = none) : Stp p F H (upd F q o) (upd H q o) := by
  have fq : F q = none := by
    cases e : F q with
    | none => rfl
    | some u => rw [l _ _ e] at hq; cases hq
  refine ⟨Le.new fq, fun b u e => ?_, fun b u e _ => Le.new hq b u e, fun b h n => ?_⟩
  · by_cases hb : b = q
    · subst hb; rw [upd_same] at e ⊢; exact e
    · rw [upd_ne hb] at e ⊢; exact l _ _ e
  · rw [upd_ne (fun z => h (by rw [z]; exact hq))]; exact n
/-- a new object, not frozen -/
theorem Stp.newO (l : Le F H) (hq : H q = none) : Stp p F H F (upd H q o) :=
  ⟨Le.refl _, fun b u e => Le.new hq b u (l _ _ e), fun b u e _ => Le.new hq b u e, fun _ _ h => h⟩
theorem Gd.step (g : Gd K B F0 p F s σ H) (t : Stp p F H F' H') {dr' : List D} (hd : ∀ a, p = some a → ∃ xs, H' a = some (.lst xs) ∧ RpAll K F' xs dr') : Gd K B F0 p F' { s with dr := dr' } σ H' := by
  obtain ⟨ρ, h1, h2⟩ := g.cs
  refine ⟨g.le.trans t.ff, t.fh, fun a o e n => t.hh a o (g.bh a o e n) n, fun a e n => ?_, ⟨ρ, fun i c e => ?_, h2⟩, fun a e => ?_, g.len⟩
  · refine t.no a ?_ (g.bf a e n)
    by_cases ep : p = some a
    · obtain ⟨_, xs, h, _⟩ := g.dr a ep
      rw [h]; simp
    · cases q : B a with
      | none => exact absurd q e
      | some u => rw [g.bh a u q ep]; simp
  · have z := h1 i c e
    cases c with
    | no => trivial
    | val d => obtain ⟨v, e1, r⟩ := z; exact ⟨v, e1, r.mono t.ff⟩
    | own d =>
      obtain ⟨a, e1, e2, e3, e4, e5, e6⟩ := z
      exact ⟨a, e1, e2, e3, t.no a e6.some e4, e5, e6.mono t.ff fun o h => t.hh a o h e5⟩
    | drw => exact z
  · obtain ⟨hf, xs, h, _⟩ := g.dr a e
    exact ⟨t.no a (by rw [h]; simp) hf, hd a e⟩
/-- .. where the draw stays too -/
theorem Gd.stepK (g : Gd K B F0 p F s σ H) (t : Stp none F H F' H') : Gd K B F0 p F' s σ H' :=
  g.step (dr' := s.dr) ⟨t.ff, t.fh, fun b o h _ => t.hh b o h (fun z => nomatch z), t.no⟩ fun a e => by
    obtain ⟨_, xs, h, r⟩ := g.dr a e
    exact ⟨xs, t.hh a _ h (fun z => nomatch z), dpAll_mono t.ff _ _ r⟩
theorem Gd.newFree (g : Gd K B F0 p F s σ H) (hq : H q = none) : B q = none ∧ F q = none ∧ p ≠ some q := by
  have hp : p ≠ some q := fun e => by
    obtain ⟨_, xs, h, _⟩ := g.dr q e
    rw [hq] at h; cases h
  refine ⟨?_, ?_, hp⟩
  · cases e : B q with
    | none => rfl
    | some u => rw [g.bh q u e hp] at hq; cases hq
  · cases e : F q with
    | none => rfl
    | some u => rw [g.fh q u e] at hq; cases hq
theorem set_at {α : Type} {l : List α} {i j : Nat} {a b : α} (h : (l.set i a)[j]? = some b) : (i = j ∧ b = a ∧ i < l.length) ∨ (i ≠ j ∧ l[j]? = some b) := by
  by_cases e : i = j
  · subst e
    by_cases hl : i < l.length
    · rw [List.getElem?_set_self hl] at h; cases h; exact .inl ⟨rfl, rfl, hl⟩
    · rw [List.getElem?_eq_none (by simpa using hl)] at h; cases h
  · rw [List.getElem?_set_ne e] at h; exact .inr ⟨e, h⟩
/-- a slot takes a value -/
theorem Gd.setV {i : Nat} {v : V} {d : D} (g : Gd K B F0 p F s σ H) (r : RepV K F v d) : Gd K B F0 p F (s.put i (.val d)) (σ.set i (some v)) H := by
  obtain ⟨ρ, h1, h2⟩ := g.cs
  refine ⟨g.le, g.fh, g.bh, g.bf, ⟨ρ, fun j c e => ?_, h2⟩, g.dr, by show (s.cs.set i _).length ≤ _; simp only [List.length_set]; exact g.len⟩
  rcases set_at e with ⟨rfl, rfl, hl⟩ | ⟨ne, e⟩
  · exact ⟨v, by rw [List.getElem?_set_self (Nat.lt_of_lt_of_le hl g.len)], r⟩
  · have z := h1 j c e
    have k : (σ.set i (some v))[j]? = σ[j]? := List.getElem?_set_ne ne
    cases c <;> (unfold CellOk at z ⊢; first | trivial | (rw [k]; exact z))
/-- a slot takes a new list that is held alone -/
theorem Gd.setO {i : Nat} {d : D} (g : Gd K B F0 p F s σ H) (hb : B q = none) (hf : F q = none) (hp : p ≠ some q) (hn : ∀ j e, s.cs[j]? = some (.own e) → j ≠ i → σ[j]? ≠ some (some (.ref q))) (o : OwnAt K F H q d) : Gd K B F0 p F (s.put i (.own d)) (σ.set i (some (.ref q))) H := by
  obtain ⟨ρ, h1, h2⟩ := g.cs
  refine ⟨g.le, g.fh, g.bh, g.bf, ⟨fun j => if j = i then some q else (match s.cs[j]? with | some (.own _) => ρ j | _ => none), fun j c e => ?_, fun j k a e1 e2 => ?_⟩, g.dr, by show (s.cs.set i _).length ≤ _; simp only [List.length_set]; exact g.len⟩
  · rcases set_at e with ⟨rfl, rfl, hl⟩ | ⟨ne, e⟩
    · exact ⟨q, if_pos rfl, by rw [List.getElem?_set_self (Nat.lt_of_lt_of_le hl g.len)], hb, hf, hp, o⟩
    · have z := h1 j c e
      have k : (σ.set i (some (.ref q)))[j]? = σ[j]? := List.getElem?_set_ne ne
      cases c with
      | no => trivial
      | val d => unfold CellOk at z ⊢; rw [k]; exact z
      | drw => unfold CellOk at z ⊢; rw [k]; exact z
      | own d =>
        obtain ⟨a, e1, e2⟩ := z
        refine ⟨a, ?_, by rw [k]; exact e2.1, e2.2⟩
        show (if j = i then some q else _) = _
        rw [if_neg (Ne.symm ne), e]
        exact e1
  · have own_of : ∀ {j : Nat} {a : Addr}, (if j = i then some q else (match s.cs[j]? with | some (.own _) => ρ j | _ => none)) = some a → (j = i ∧ a = q) ∨ (j ≠ i ∧ a ≠ q ∧ ρ j = some a) := fun {j a} e => by
      by_cases hj : j = i
      · rw [if_pos hj] at e; cases e; exact .inl ⟨hj, rfl⟩
      · rw [if_neg hj] at e
        split at e
        · rename_i d' hd'
          refine .inr ⟨hj, ?_, e⟩
          rintro rfl
          obtain ⟨a', r1, r2, _⟩ := h1 j _ hd'
          rw [e] at r1; cases r1
          exact hn j d' hd' hj r2
        · cases e
    rcases own_of e1 with ⟨j1, a1⟩ | ⟨j1, a1, r1⟩
    · rcases own_of e2 with ⟨k1, _⟩ | ⟨_, b1, _⟩
      · rw [j1, k1]
      · exact absurd a1 b1
    · rcases own_of e2 with ⟨_, b1⟩ | ⟨_, _, r2⟩
      · exact absurd b1 a1
      · exact h2 j k a r1 r2
/-- a list that is held alone is frozen -/
theorem Gd.freeze {i : Nat} {d : D} (g : Gd K B F0 p F s σ H) (e : s.cs[i]? = some (.own d)) : ∃ F' a, Le F F' ∧ σ[i]? = some (some (.ref a)) ∧ RepV K F' (.ref a) d ∧ Gd K B F0 p F' (s.put i (.val d)) σ H := by
  obtain ⟨ρ, h1, h2⟩ := g.cs
  obtain ⟨a, r1, r2, r3, r4, r5, r6⟩ := h1 i _ e
  obtain ⟨u, hu, rep⟩ : ∃ u, H a = some u ∧ RepV K (upd F a u) (.ref a) d := by
    cases d with
    | list xs =>
      obtain ⟨vs, e1, e2⟩ := r6
      exact ⟨_, e1, .dp (.lst (.inl upd_same) (dpAll_mono (Le.new r4) _ _ e2))⟩
    | dict ks =>
      obtain ⟨vs, e1, e2, e3⟩ := r6
      exact ⟨_, e1, .dic ⟨vs, upd_same, e2.mono (Le.new r4), e3⟩⟩
    | _ => exact r6.elim
  have l : Le F (upd F a u) := Le.new r4
  have off : ∀ {b : Addr}, b ≠ a → upd F a u b = F b := fun h => upd_ne h
  refine ⟨upd F a u, a, l, r2, rep, ⟨g.le.trans l, fun b o h => ?_, g.bh, fun b h n => ?_, ⟨fun j => if j = i then none else ρ j, fun j c e' => ?_, fun j k b e1 e2 => ?_⟩, fun b e' => ?_, by show (s.cs.set i _).length ≤ _; simp only [List.length_set]; exact g.len⟩⟩
  · by_cases hb : b = a
    · subst hb; rw [upd_same] at h; cases h; exact hu
    · rw [off hb] at h; exact g.fh b o h
  · rw [off (fun z => h (by rw [z]; exact r3))]; exact g.bf b h n
  · rcases set_at e' with ⟨rfl, rfl, _⟩ | ⟨ne, e'⟩
    · exact ⟨_, r2, rep⟩
    · have z := h1 j c e'
      cases c with
      | no => trivial
      | val d => obtain ⟨v, q1, q2⟩ := z; exact ⟨v, q1, q2.mono l⟩
      | drw => exact z
      | own d' =>
        obtain ⟨a', q1, q2, q3, q4, q5, q6⟩ := z
        refine ⟨a', by show (if j = i then none else ρ j) = _; rw [if_neg (Ne.symm ne)]; exact q1, q2, q3, ?_, q5, q6.mono l fun _ h => h⟩
        rw [off (fun z => ne (h2 i j a r1 (z ▸ q1)))]; exact q4
  · dsimp only at e1 e2
    by_cases h3 : j = i
    · rw [if_pos h3] at e1; cases e1
    · by_cases h4 : k = i
      · rw [if_pos h4] at e2; cases e2
      · rw [if_neg h3] at e1; rw [if_neg h4] at e2; exact h2 j k b e1 e2
  · obtain ⟨q1, xs, q2, q3⟩ := g.dr b e'
    exact ⟨by rw [off (fun z => r5 (z ▸ e'))]; exact q1, xs, q2, dpAll_mono l _ _ q3⟩
theorem wipeC_len : ∀ (cs : List Cell) (vs : List Nat), (wipeC cs vs).length = cs.length
  | _, [] => rfl
  | cs, v :: vs => by unfold wipeC; rw [List.length_set, wipeC_len cs vs]
theorem wipeC_at {cs : List Cell} {j : Nat} {c : Cell} : ∀ {vs : List Nat}, (wipeC cs vs)[j]? = some c → c = .no ∨ (cs[j]? = some c ∧ j ∉ vs)
  | [], h => .inr ⟨h, by simp⟩
  | v :: vs, h => by
    unfold wipeC at h
    rcases set_at h with ⟨_, rfl, _⟩ | ⟨ne, h⟩
    · exact .inl rfl
    · rcases wipeC_at h with z | ⟨z, n⟩
      · exact .inl z
      · exact .inr ⟨z, by simp only [List.mem_cons, not_or]; exact ⟨fun e => ne e.symm, n⟩⟩
/-- names forgotten -/
theorem Gd.wipe {vs : List Nat} (g : Gd K B F0 p F s σ H) : Gd K B F0 p F (s.wipe vs) (wipe σ vs) H := by
  obtain ⟨ρ, h1, h2⟩ := g.cs
  refine ⟨g.le, g.fh, g.bh, g.bf, ⟨ρ, fun j c e => ?_, h2⟩, g.dr, by show (wipeC s.cs vs).length ≤ _; rw [wipeC_len, wipe_length]; exact g.len⟩
  rcases wipeC_at e with rfl | ⟨e, n⟩
  · trivial
  · have z := h1 j c e
    have k : (L2.wipe σ vs)[j]? = σ[j]? := wipe_out n
    cases c <;> (unfold CellOk at z ⊢; first | trivial | (rw [k]; exact z))
/-- .. in the plain state alone -/
theorem Gd.wipeS {vs : List Nat} (g : Gd K B F0 p F s σ H) : Gd K B F0 p F (s.wipe vs) σ H := by
  obtain ⟨ρ, h1, h2⟩ := g.cs
  refine ⟨g.le, g.fh, g.bh, g.bf, ⟨ρ, fun j c e => ?_, h2⟩, g.dr, by show (wipeC s.cs vs).length ≤ _; rw [wipeC_len]; exact g.len⟩
  rcases wipeC_at e with rfl | ⟨e, n⟩
  · trivial
  · exact h1 j c e
theorem backC_len : ∀ (old cs : List Cell) (vs : List Nat), (backC old cs vs).length = cs.length
  | _, _, [] => rfl
  | old, cs, v :: vs => by unfold backC; rw [List.length_set, backC_len old cs vs]
theorem backC_at {old cs : List Cell} {j : Nat} {c : Cell} : ∀ {vs : List Nat}, (backC old cs vs)[j]? = some c → (c = keepC old[j]? ∧ j ∈ vs) ∨ (cs[j]? = some c ∧ j ∉ vs)
  | [], h => .inr ⟨h, by simp⟩
  | v :: vs, h => by
    unfold backC at h
    rcases set_at h with ⟨e, rfl, _⟩ | ⟨ne, h⟩
    · exact .inl ⟨by rw [e], by simp [e]⟩
    · rcases backC_at h with ⟨z, n⟩ | ⟨z, n⟩
      · exact .inl ⟨z, by simp [n]⟩
      · exact .inr ⟨z, by simp only [List.mem_cons, not_or]; exact ⟨fun e => ne e.symm, n⟩⟩
/-- behind a block: g as it was ahead of it, g' as it is in the block at its end -/
theorem Gd.back {vs : List Nat} {s1 s7 : Sg} {H1 : Hp} (g : Gd K B F0 p F s1 σ H1) (l : Le F F') (g' : Gd K B F0 p F' s7 (L2.wipe σ vs) H') : Gd K B F0 p F' (s7.back s1 vs) σ H' := by
  obtain ⟨ρ, h1, h2⟩ := g'.cs
  obtain ⟨_, k1, _⟩ := g.cs
  refine ⟨g'.le, g'.fh, g'.bh, g'.bf, ⟨ρ, fun j c e => ?_, h2⟩, g'.dr, by show (backC s1.cs s7.cs vs).length ≤ _; rw [backC_len]; have := g'.len; rw [wipe_length] at this; exact this⟩
  rcases backC_at e with ⟨ec, n⟩ | ⟨e, n⟩
  · unfold keepC at ec
    split at ec
    · rename_i d hd
      subst ec
      obtain ⟨v, e1, r⟩ := k1 j _ hd
      exact ⟨v, e1, r.mono l⟩
    · subst ec; trivial
  · have z := h1 j c e
    have k : (L2.wipe σ vs)[j]? = σ[j]? := wipe_out n
    cases c <;> (unfold CellOk at z ⊢; first | trivial | (rw [k] at z; exact z))
theorem lendC_at {i : Nat} {d : D} : ∀ {cs : List Cell} {k j : Nat} {c : Cell}, (lendC i d k cs)[j]? = some c → (k + j = i ∧ c = .val d ∧ ∃ c', cs[j]? = some c') ∨ (∃ e, c = .val e ∧ cs[j]? = some (.val e)) ∨ c = .no
  | [], _, _, _, h => by simp [lendC] at h
  | c' :: cs, k, 0, c, h => by
    unfold lendC at h
    simp only [List.getElem?_cons_zero, Option.some.injEq] at h
    by_cases e : k = i
    · rw [if_pos e] at h; exact .inl ⟨by omega, h.symm, _, rfl⟩
    · rw [if_neg e] at h
      cases c' with
      | val x => exact .inr (.inl ⟨x, h.symm, rfl⟩)
      | no => exact .inr (.inr h.symm)
      | own _ => exact .inr (.inr h.symm)
      | drw => exact .inr (.inr h.symm)
  | c' :: cs, k, j + 1, c, h => by
    unfold lendC at h
    simp only [List.getElem?_cons_succ] at h ⊢
    rcases lendC_at h with ⟨a, b, z⟩ | z | z
    · exact .inl ⟨by omega, b, z⟩
    · exact .inr (.inl z)
    · exact .inr (.inr z)
theorem lendC_len {i : Nat} {d : D} : ∀ (cs : List Cell) (k : Nat), (lendC i d k cs).length = cs.length
  | [], _ => rfl
  | _ :: cs, k => by unfold lendC; rw [List.length_cons, List.length_cons, lendC_len cs]
/-- a list that is held alone, lent: what is done meanwhile leaves everything as it stands -/
theorem Gd.lend {i : Nat} {d : D} (g : Gd K B F0 p F s σ H) (e : s.cs[i]? = some (.own d)) : ∃ F', Gd K H F' none F' ⟨lendC i d 0 s.cs, []⟩ σ H := by
  obtain ⟨F', a, l, ea, r, g'⟩ := g.freeze e
  obtain ⟨_, k1, _⟩ := g'.cs
  refine ⟨F', Le.refl _, g'.fh, fun _ _ h _ => h, fun _ _ h => h, ⟨fun _ => none, fun j c h => ?_, fun _ _ _ h => by cases h⟩, fun _ h => (nomatch h), by show (lendC i d 0 s.cs).length ≤ _; rw [lendC_len]; exact g.len⟩
  have h' : (lendC i d 0 s.cs)[j]? = some c := h
  rcases lendC_at h' with ⟨z, rfl, _⟩ | ⟨x, rfl, z⟩ | rfl
  · have ej : j = i := by omega
    subst ej
    exact ⟨_, ea, r⟩
  · have ne : i ≠ j := fun q => by subst q; rw [e] at z; cases z
    exact k1 j (.val x) (by show (s.cs.set i _)[j]? = _; rw [List.getElem?_set_ne ne]; exact z)
  · trivial
/-- .. and back -/
theorem Gd.unlend {F1 F2 : Hp} {s2 : Sg} (g : Gd K B F0 p F s σ H) (g2 : Gd K H F1 none F2 s2 σ H') : Gd K B F0 p F s σ H' :=
  g.stepK ⟨Le.refl _, fun b o h => g2.bh b o (g.fh b o h) (fun z => nomatch z), fun b o h _ => g2.bh b o h (fun z => nomatch z), fun _ _ h => h⟩
end
end L2.BH
set_option maxHeartbeats 1000000
/-! Operations on values, by their data. -/
namespace L2.BH
open PySem PySem.Spec PyProof.Rows
/-! ### reading -/
mutual
theorem rp_plain {K : PySem.W.Frag} {H : Hp} : ∀ (d : D) (v : V), Rp K H v d → d.plain = true
  | .none, _, _ => by simp [PyData.plain]
  | .bool _, _, _ => by simp [PyData.plain]
  | .int _, _, _ => by simp [PyData.plain]
  | .str _, _, _ => by simp [PyData.plain]
  | .list ds, _, h => by
    cases h with
    | lst _ ha => simp only [PyData.plain]; exact rpAll_plain ds _ ha
  | .tuple ds, _, h => by
    cases h with
    | tup _ ha => simp only [PyData.plain]; exact rpAll_plain ds _ ha
  | .dict _, _, h => by cases h
theorem rpAll_plain {K : PySem.W.Frag} {H : Hp} : ∀ (ds : List D) (vs : List V), RpAll K H vs ds → PyData.plainAll ds = true
  | [], _, _ => by simp [PyData.plainAll]
  | d :: ds, _, h => by
    cases h with
    | cons h1 h2 => simp only [PyData.plainAll, rp_plain d _ h1, rpAll_plain ds _ h2, Bool.and_self]
end
section
variable {X : Cx} {pins : List (Addr × Obj)} {σ : St} {H F : Hp} {s : Shared}
theorem rp_reads (I : Inv X pins σ H s) (l : Le F H) {d : D} {v : V} {u : Value} (h : Rp X.K F v d) (r : RelV v u) : ∃ as, Reads s.heap u d as :=
  Dp.reads I d v u (Rp.toD d v (dp_mono l d v h)) r
theorem rpAll_reads (I : Inv X pins σ H s) (l : Le F H) {ds : List D} {vs : List V} {us : List Value} (h : RpAll X.K F vs ds) (r : Vals vs us) : ∃ as, ReadsAll s.heap us ds as :=
  Dp.readsAll I ds vs us (RpAll.toD ds vs (dpAll_mono l ds vs h)) r
end
theorem rp_fits {K : PySem.W.Frag} {F H : Hp} (l : Le F H) (z : Sz H) {v : V} {d : D} (h : Rp K F v d) : d.fits63 := by
  have hl : (sizeLine : Int) < 2 ^ 63 := by rw [sizeLine_eq]; decide
  cases h with
  | non => trivial
  | bl _ => trivial
  | int _ => trivial
  | str x hx => show (x.length : Int) < 2 ^ 63; omega
  | lst hs ha =>
    have h1 := z _ _ (.inl (l.rd hs))
    rw [dpAll_len ha] at h1
    show ((_ : Nat) : Int) < 2 ^ 63; omega
  | tup hs ha =>
    have h1 := z.tup (l.sqT hs)
    rw [dpAll_len ha] at h1
    show ((_ : Nat) : Int) < 2 ^ 63; omega
theorem tru_eq (d : D) : tru d = d.truthy := by cases d <;> rfl
theorem minDepth {a b : D} (h : (shal a || shal b) = true) : min a.depth b.depth ≤ 60 := by
  unfold shal at h
  rw [Bool.or_eq_true, decide_eq_true_eq, decide_eq_true_eq] at h
  omega
/-! ### an operation of two values -/
/-- what is wanted behind an operation -/
def Wd (K : PySem.W.Frag) (F H : Hp) (d : D) (Q : VK) : Prop := ∀ F' H' v, Stp none F H F' H' → RepV K F' v d → Q v H'
theorem Wd.here {K : PySem.W.Frag} {F H : Hp} {d : D} {Q : VK} (w : Wd K F H d Q) (l : Le F H) {v : V} (r : RepV K F v d) : Q v H := w F H v (Stp.refl l) r
theorem Wd.newT {K : PySem.W.Frag} {F H : Hp} {ds : List D} {Q : VK} (w : Wd K F H (.tuple ds) Q) (l : Le F H) {vs : List V} (r : RpAll K F vs ds) {q : Addr} {o : Obj} (hq : H q = none) (ho : o.dict = none) : Q (.ref q) (upd H q (.frz o (.tup vs))) := by
  have t : Stp none F H (upd F q (.frz o (.tup vs))) (upd H q (.frz o (.tup vs))) := Stp.new l hq
  exact w _ _ _ t (.dp (.tup (PlT.of upd_same ho) (dpAll_mono t.ff _ _ r)))
/-- a new tuple -/
abbrev tpO (its : List Value) : Obj := { cls := .type "tuple", data := .seq its.toArray }
theorem layT {X : Cx} {pins : List (Addr × Obj)} {σ : St} {H : Hp} {s : Shared} (I : Inv X pins σ H s) {xs : List V} {its : List Value} (r : Vals xs its) (hz : xs.length ≤ sizeLine) : Inv X pins σ (upd H s.heap.objs.size (.frz (tpO its) (.tup xs))) { s with heap := s.heap.push (tpO its) } :=
  I.laid (t' := s.toks) (fun b ob q => Heap.get?_push_of_some _ q) (Nat.le_refl _) ⟨Heap.get?_push_size _ rfl, hz, its, r, IsTup.new _ _⟩
theorem freshT {X : Cx} {pins : List (Addr × Obj)} {σ : St} {H : Hp} {s : Shared} (I : Inv X pins σ H s) : H s.heap.objs.size = none := I.hok.fresh (Nat.le_refl _)
theorem Wd.newL {K : PySem.W.Frag} {F H : Hp} {ds : List D} {Q : VK} (w : Wd K F H (.list ds) Q) (l : Le F H) {vs : List V} (r : RpAll K F vs ds) {q : Addr} (hq : H q = none) : Q (.ref q) (upd H q (.lst vs)) := by
  have t : Stp none F H (upd F q (.lst vs)) (upd H q (.lst vs)) := Stp.new l hq
  exact w _ _ _ t (.dp (.lst (.inl upd_same) (dpAll_mono t.ff _ _ r)))
def r2 (K : PySem.W.Frag) (g : D → D → Option D) : R2 := fun x y H Q => ∃ F d1 d2 d, Sz H ∧ Le F H ∧ RepV K F x d1 ∧ RepV K F y d2 ∧ g d1 d2 = some d ∧ Wd K F H d Q
abbrev Pr2 (X : Cx) (f : Value → Value → Sem Value) (g : D → D → Option D) : Prop := OpR X f (r2 X.K g)
theorem rep_int {K : PySem.W.Frag} {F : Hp} {v : V} {i : Int} (h : RepV K F v (.int i)) : v = .int i := by
  cases h with
  | dp h => cases h; rfl
theorem rep_bl {K : PySem.W.Frag} {F : Hp} {v : V} {i : Bool} (h : RepV K F v (.bool i)) : v = .bl i := by
  cases h with
  | dp h => cases h; rfl
theorem rep_non {K : PySem.W.Frag} {F : Hp} {v : V} (h : RepV K F v .none) : v = .non := by
  cases h with
  | dp h => cases h; rfl
theorem rep_str {K : PySem.W.Frag} {F : Hp} {v : V} {x : Str} (h : RepV K F v (.str x)) : v = .str x ∧ x.length ≤ sizeLine := by
  cases h with
  | dp h => cases h; exact ⟨rfl, by assumption⟩
theorem rep_lst {K : PySem.W.Frag} {F : Hp} {v : V} {ds : List D} (h : RepV K F v (.list ds)) : ∃ a vs, v = .ref a ∧ Rd F a (.lst vs) ∧ RpAll K F vs ds := by
  cases h with
  | dp h => cases h; exact ⟨_, _, rfl, by assumption, by assumption⟩
theorem rep_tup {K : PySem.W.Frag} {F : Hp} {v : V} {ds : List D} (h : RepV K F v (.tuple ds)) : ∃ a vs, v = .ref a ∧ PlT K F a vs ∧ RpAll K F vs ds := by
  cases h with
  | dp h => cases h; exact ⟨_, _, rfl, by assumption, by assumption⟩
section
variable {X : Cx}
/-- a list that may be read, as its object -/
theorem rd_lst {pins : List (Addr × Obj)} {σ : St} {H : Hp} {s : Shared} (I : Inv X pins σ H s) {a : Addr} {xs : List V} (h : Rd H a (.lst xs)) :
    xs.length ≤ sizeLine ∧ ∃ (its : List Value) (n : Nat), Vals xs its ∧ xs.length = its.length ∧ s.heap.get? a = some { cls := .type "list", data := .seq its.toArray n } := by
  obtain ⟨z, its, n, r, e⟩ := (show _ ∧ _ from h.ok I.hok)
  exact ⟨z, its, n, r, r.length, e⟩
def rCatR : R2 := fun x y H Q => ∃ l b xs zs, x = .ref l ∧ y = .ref b ∧ Rd H l (.lst xs) ∧ Rd H b (.lst zs) ∧ xs.length + zs.length ≤ sizeLine ∧ ∀ p, H p = none → Q (.ref p) (upd H p (.lst (xs ++ zs)))
theorem op_catR : OpR X (binaryOp .Add) rCatR := by
  intro pins s σ H x y v u Q I rx ry h
  obtain ⟨l, b, xs, zs, rfl, rfl, hH, hB, hz, q⟩ := h
  cases rx
  cases ry
  obtain ⟨z, its, n, r, hl, e⟩ := rd_lst I hH
  obtain ⟨z2, its2, n2, r2, hl2, e2⟩ := rd_lst I hB
  refine PySem.P.add_list e e2 ?_ (by rw [List.size_toArray, List.size_toArray]; omega)
  have ea : its.toArray ++ its2.toArray = (its ++ its2).toArray := by simp
  rw [ea]
  exact ⟨.ref _, _, I.lnew (t' := s.toks) (r.append r2) (by rw [List.length_append]; omega), rfl, q _ I.fresh⟩
/-- a list times an int -/
def rRepR : R2 := fun x y H Q => ∃ l k xs, x = .ref l ∧ y = .int k ∧ Rd H l (.lst xs) ∧ -(2 ^ 63) ≤ k ∧ k < 2 ^ 63 ∧ xs.length * k.toNat ≤ sizeLine ∧
  ∀ p, H p = none → Q (.ref p) (upd H p (.lst (List.replicate k.toNat xs).flatten))
theorem op_repR : OpR X (binaryOp .Mult) rRepR := by
  intro pins s σ H x y v u Q I rx ry h
  obtain ⟨l, k, xs, rfl, rfl, hH, h1, h2, hz, q⟩ := h
  cases rx
  obtain ⟨t, rfl⟩ := ry
  obtain ⟨z, its, n, r, hl, e⟩ := rd_lst I hH
  have hlen : its.toArray.size * k.toNat ≤ sizeLine := by rw [List.size_toArray, ← hl]; exact hz
  have hcap : ¬ its.toArray.size * k.toNat > (2 ^ 63 - 1) / 8 := by
    have : (sizeLine : Nat) ≤ (2 ^ 63 - 1) / 8 := by decide
    omega
  have hfit : ¬ (!Builtin.List.listFitsIndex k) = true := by
    rw [fitsIndex_both h1 h2]
    exact Bool.false_ne_true
  have hlong : ¬ Builtin.List.listTooLong (its.toArray.size * k.toNat) = true := by
    rw [notLongL hlen]
    exact Bool.false_ne_true
  have hnew : List.foldl (fun x1 x2 => x1 ++ x2) #[] (List.replicate (if its.toArray.isEmpty = true then 0 else k.toNat) its.toArray) = (List.replicate k.toNat its).flatten.toArray := by
    have f0 : ∀ m : Nat, List.foldl (fun x1 x2 => x1 ++ x2) #[] (List.replicate m its.toArray) = (List.replicate m its).flatten.toArray := fun m => by
      have := foldl_rep its m []
      rw [List.nil_append] at this
      exact this
    rw [f0]
    cases its with
    | nil => simp
    | cons a r' => rw [if_neg (by simp)]
  refine wpAny_binaryOp_repeat_ref (T := "list") (U := "int") (by decide) ⟨_, e, rfl⟩ (fun s' => typeIs_int s' k t) noFill_list_mul F.fills_int_mul F.slot_int_rmul repeat_list F.slot_int_index.lookup
    (call_meets F.slot_int_rmul (typeIs_int s k t) F.entry_int_rmul (F.args_int_rmul_2 _ _) (int___rmul___int_list k t l its.toArray n)
      ⟨e, rfl, ⟨_, e, rfl⟩, call_meets F.slot_list_mul ⟨_, e, rfl⟩ F.entry_list_mul (F.args_list_mul_2 _ _) (AutoListH.list___mul___list_int_3 l its.toArray n k t hfit hcap hlong) ⟨e, ?_⟩⟩)
  rw [hnew]
  exact ⟨.ref _, _, I.lnew (t' := s.toks) (r.rep k.toNat) (by rw [PyProof.Rows.lm_len_rep_flat, Nat.mul_comm]; exact hz), rfl, q _ I.fresh⟩
/-- tuple + tuple -/
theorem cat_new {pins : List (Addr × Obj)} {σ : St} {H : Hp} {s : Shared} (I : Inv X pins σ H s) {a b : Addr} {xs ys : List V} (ha : SqT X.K H a xs) (hb : SqT X.K H b ys) (hz : xs.length + ys.length ≤ sizeLine) {Q : VK} (q0 : xs = [] → Q (.ref b) H) (q1 : ys = [] → Q (.ref a) H)
    (q2 : ∀ p o, H p = none → o.dict = none → Q (.ref p) (upd H p (.frz o (.tup (xs ++ ys))))) : wpAny (model X.prog X.w) X.A (binaryOp .Add (.ref a) (.ref b)) (EP X pins σ Q) X.xe s := by
  obtain ⟨u1, r1, p1, _⟩ := I.tuple ha
  obtain ⟨u2, r2, p2, _⟩ := I.tuple hb
  by_cases hx : xs = []
  · subst hx
    cases r1
    exact cat_tup0 p1 p2 ⟨.ref b, H, I, rfl, q0 rfl⟩
  · have l1 := r1.length
    have l2 := r2.length
    refine HT.cat_tup p1 p2 (fun z => hx (r1.nil_iff.mp z)) (fun z => ⟨.ref a, H, I, rfl, q1 (r2.nil_iff.mp z)⟩) (fun z => ?_) (by omega)
    exact ⟨.ref s.heap.objs.size, _, layT I (r1.append r2) (by rw [List.length_append]; exact hz), rfl, q2 _ _ (freshT I) rfl⟩
theorem pr_add : Pr2 X (binaryOp .Add) (bin2 .add) := by
  intro pins s σ H x y v u Q I rx ry h
  obtain ⟨F, d1, d2, d, sz, l, h1, h2, e, w⟩ := h
  unfold bin2 at e
  split at e <;> (first | contradiction | skip)
  · cases e
    cases rep_int h1; cases rep_int h2
    exact op_add pins s σ H _ _ v u Q I rx ry ⟨_, _, rfl, rfl, w.here l (.dp (.int _))⟩
  · cases e
    cases rep_int h1; cases rep_bl h2
    exact op_add_ib pins s σ H _ _ v u Q I rx ry ⟨_, _, rfl, rfl, w.here l (.dp (.int _))⟩
  · rename_i xs ys
    split at e
    · rename_i hz
      cases e
      obtain ⟨a, vs, rfl, ha, ra⟩ := rep_tup h1
      obtain ⟨b, ws, rfl, hb, rb⟩ := rep_tup h2
      have la := dpAll_len ra
      have lb := dpAll_len rb
      cases rx
      cases ry
      refine cat_new I (l.sqT ha) (l.sqT hb) (by omega) (fun z => ?_) (fun z2 => ?_) fun p o hp ho => w.newT l (dpAll_app ra rb) hp ho
      · subst z; cases ra; exact w.here l (.dp (.tup hb rb))
      · subst z2; cases rb; exact w.here l (.dp (.tup ha (by rw [List.append_nil]; exact ra)))
    · cases e
  · rename_i xs ys
    split at e
    · rename_i hz
      cases e
      obtain ⟨a, vs, rfl, ha, ra⟩ := rep_lst h1
      obtain ⟨b, ws, rfl, hb, rb⟩ := rep_lst h2
      have la := dpAll_len ra
      have lb := dpAll_len rb
      exact op_catR pins s σ H _ _ v u Q I rx ry ⟨a, b, vs, ws, rfl, rfl, l.rd ha, l.rd hb, by omega, fun p hp => w.newL l (dpAll_app ra rb) hp⟩
    · cases e
  all_goals (rename_i z _ _ _; first | (cases z) | skip)
theorem pr_sub : Pr2 X (binaryOp .Sub) (bin2 .sub) := by
  intro pins s σ H x y v u Q I rx ry h
  obtain ⟨F, d1, d2, d, sz, l, h1, h2, e, w⟩ := h
  unfold bin2 at e
  split at e <;> (first | contradiction | skip)
  · cases e
    cases rep_int h1; cases rep_int h2
    exact op_sub pins s σ H _ _ v u Q I rx ry ⟨_, _, rfl, rfl, w.here l (.dp (.int _))⟩
  · cases e
    cases rep_int h1; cases rep_bl h2
    obtain ⟨t, rfl⟩ := rx
    cases ry
    exact PySem.IntBool.sub_int_bool ⟨.int _, H, I.tok _, ⟨_, rfl⟩, w.here l (.dp (.int _))⟩
  all_goals (rename_i z _ _ _; first | (cases z) | skip)
theorem mulOk_ok {i j : Int} (h : mulOk i j = true) : IntMulOk i j := CMulW.ok (show i.natAbs.log2 + j.natAbs.log2 < 1000000 from of_decide_eq_true h)
/-- a tuple once, or the empty one: itself -/
theorem tuple_mul1 (l : Addr) (items : Array Value) (n : Nat) (dd : Option Addr) (sl : Array (Option Value)) (x : Int) (u : Tok) (c0 : (decide (x < -(2 ^ 63)) || decide (x ≥ 2 ^ 63)) = false) (c1 : (items.isEmpty || x == 1) = true) :
    Meets (Builtin.«tuple.__mul__» ⟨[.ref l, .int x u], []⟩) (fun _ R s => s.heap.get? l = some { cls := .type "tuple", dict := dd, data := .seq items n, slots := sl } ∧ R (.ok (.ret (Value.ref l))) s) :=
  .of_wp fun prog w A R s h => by
    obtain ⟨hp, g, d, tk, os⟩ := s
    obtain ⟨hl, h⟩ := h
    have f1 := AutoSeq1.idx_int
    wp_walk using wpAny_loadPart' hl
    repeat (first
      | (refine wpAny_ite_false (decide_eq_false (by rw [c0]; exact Bool.false_ne_true)) ?_; wp_walk using wpAny_loadPart' hl)
      | (refine wpAny_ite_true (decide_eq_true c1) ?_; wp_walk using wpAny_loadPart' hl))
    exact ⟨_, rfl, h⟩
/-- a tuple no times: empty -/
theorem tuple_mul0 (l : Addr) (items : Array Value) (n : Nat) (dd : Option Addr) (sl : Array (Option Value)) (x : Int) (u : Tok) (c0 : (decide (x < -(2 ^ 63)) || decide (x ≥ 2 ^ 63)) = false) (c1 : (items.isEmpty || x == 1) = false) (c2 : (decide (x ≤ 0) || items.isEmpty) = true) :
    Meets (Builtin.«tuple.__mul__» ⟨[.ref l, .int x u], []⟩) (fun _ R s => s.heap.get? l = some { cls := .type "tuple", dict := dd, data := .seq items n, slots := sl } ∧
      R (.ok (.ret (Value.ref s.heap.objs.size))) { s with heap := s.heap.push { cls := Value.type "tuple", data := Data.seq #[] } }) :=
  .of_wp fun prog w A R s h => by
    obtain ⟨hp, g, d, tk, os⟩ := s
    obtain ⟨hl, h⟩ := h
    have f1 := AutoSeq1.idx_int
    wp_walk using wpAny_loadPart' hl
    repeat (first
      | (refine wpAny_ite_false (decide_eq_false (by rw [c0]; exact Bool.false_ne_true)) ?_; wp_walk using wpAny_loadPart' hl)
      | (refine wpAny_ite_false (decide_eq_false (by rw [c1]; exact Bool.false_ne_true)) ?_; wp_walk using wpAny_loadPart' hl)
      | (refine wpAny_ite_true (decide_eq_true c2) ?_; wp_walk using wpAny_loadPart' hl))
    exact ⟨_, rfl, h⟩
theorem call_mulT {pins : List (Addr × Obj)} {σ : St} {H : Hp} {s : Shared} {l : Addr} {k : Int} {t : Tok} {Q : Value → Shared → Prop} {E : Value → Shared → Prop} {items : Array Value} {n : Nat} {dd : Option Addr} {sl : Array (Option Value)} 
    (ho : s.heap.get? l = some { cls := .type "tuple", dict := dd, data := .seq items n, slots := sl })
    (hm : wpAny (model X.prog X.w) X.A (call (.builtin "tuple.__mul__") [.ref l, .int k t]) Q E s) :
    wpAny (model X.prog X.w) X.A (binaryOp .Mult (.ref l) (.int k t)) Q E s :=
  wpAny_binaryOp_repeat_ref (T := "tuple") (U := "int") (by decide) ⟨_, ho, rfl⟩ (fun s' => typeIs_int s' k t) noFill_tuple_mul F.fills_int_mul F.slot_int_rmul repeat_tuple F.slot_int_index.lookup
    (call_meets F.slot_int_rmul (typeIs_int s k t) F.entry_int_rmul (F.args_int_rmul_2 _ _) (int_rmul_tuple k t l items n dd sl) ⟨ho, rfl, ⟨_, ho, rfl⟩, hm⟩)
theorem rep_flat1 {α : Type} (xs : List α) : (List.replicate 1 xs).flatten = xs := by
  show (xs :: []).flatten = xs
  simp
theorem rep_flatE {α : Type} (k : Nat) : (List.replicate k ([] : List α)).flatten = [] := by
  induction k with
  | zero => rfl
  | succ k ih => rw [List.replicate_succ, List.flatten_cons, ih]; rfl
/-- a tuple twice or more -/
theorem rep_new {pins : List (Addr × Obj)} {σ : St} {H : Hp} {s : Shared} (I : Inv X pins σ H s) {a : Addr} {vs : List V} (hT : SqT X.K H a vs) (hv : vs ≠ []) {k : Int} {t : Tok} (h2 : 2 ≤ k) (h3 : k ≤ 1000) (hz : vs.length ≤ 1000) {Q : VK}
    (q : ∀ p o, H p = none → o.dict = none → Q (.ref p) (upd H p (.frz o (.tup (List.replicate k.toNat vs).flatten)))) : wpAny (model X.prog X.w) X.A (binaryOp .Mult (.ref a) (.int k t)) (EP X pins σ Q) X.xe s := by
  obtain ⟨its, r, ⟨⟨cls, dd, data, sl⟩, ho, hc, n, hd⟩, hs⟩ := I.tuple hT
  simp only at hc hd
  subst hc hd
  have hl := r.length
  have hi : its.toArray.isEmpty = false := by
    cases its with
    | nil => cases r; exact absurd rfl hv
    | cons a b => rfl
  have hsz : its.toArray.size = vs.length := by rw [List.size_toArray, hl]
  have hcap : k.toNat * vs.length ≤ 1000 * 1000 := Nat.mul_le_mul (by omega) hz
  have hprod : ((its.toArray.size : Nat) : Int) * k ≤ 1000000 := by
    rw [hsz]
    have : ((vs.length : Nat) : Int) * k ≤ 1000 * k := Int.mul_le_mul_of_nonneg_right (by omega) (by omega)
    omega
  have e0 : (decide (k < -(2 ^ 63)) || decide (k ≥ 2 ^ 63)) = false := by
    rw [decide_eq_false (by omega), decide_eq_false (by omega)] <;> rfl
  have e1 : (its.toArray.isEmpty || k == 1) = false := by
    rw [hi, Bool.false_or]; exact beq_eq_false_iff_ne.mpr (by omega)
  have e2 : (decide (k ≤ 0) || its.toArray.isEmpty) = false := by
    rw [hi, Bool.or_false]; exact decide_eq_false (by omega)
  have e4 : Builtin.Tuple.tupleTooMany (((its.toArray.size : Nat) : Int) * k) = false := by
    unfold Builtin.Tuple.tupleTooMany; rw [sizeLine_eq]; exact decide_eq_false (by omega)
  have elen : (List.replicate k.toNat its).flatten.length ≤ sizeLine := by
    rw [PyProof.Rows.lm_len_rep_flat, ← hl, sizeLine_eq]; omega
  refine call_mulT (X := X) (pins := pins) (σ := σ) (H := H) ho (call_meets PySem.F.slot_tuple_mul ⟨_, ho, rfl⟩ PySem.F.entry_tuple_mul (PySem.F.args_tuple_mul_2 _ _) (tuple_mulW a its.toArray n dd sl k t e0 e1 e2 (by omega) e4 (by rw [size_rep, List.size_toArray]; exact elen)) ⟨ho, ?_⟩)
  rw [size_rep]
  exact ⟨.ref s.heap.objs.size, _, layT I (r.rep k.toNat) (by rw [PyProof.Rows.lm_len_rep_flat, sizeLine_eq]; omega), rfl, q _ _ (freshT I) rfl⟩
theorem pr_mul : Pr2 X (binaryOp .Mult) (bin2 .mul) := by
  intro pins s σ H x y v u Q I rx ry h
  obtain ⟨F, d1, d2, d, sz, l, h1, h2, e, w⟩ := h
  unfold bin2 at e
  split at e <;> (first | contradiction | skip)
  · rename_i i j
    split at e
    · rename_i hm
      cases e
      cases rep_int h1; cases rep_int h2
      obtain ⟨t, rfl⟩ := rx
      obtain ⟨t', rfl⟩ := ry
      exact mul_int ⟨.int _, H, I.tok _, ⟨_, rfl⟩, w.here l (.dp (.int _))⟩ (mulOk_ok hm)
    · cases e
  · rename_i xs k _
    unfold repL at e
    split at e
    · rename_i hz
      cases e
      simp only [Bool.and_eq_true, decide_eq_true_eq] at hz
      obtain ⟨z1, z2, z3⟩ := hz
      obtain ⟨a, vs, rfl, ha, ra⟩ := rep_tup h1
      cases rep_int h2
      have la := dpAll_len ra
      have hT : SqT X.K H a vs := l.sqT ha
      have c0 : (decide (k < -(2 ^ 63)) || decide (k ≥ 2 ^ 63)) = false := by
        rw [decide_eq_false (by omega), decide_eq_false (by omega)] <;> rfl
      by_cases hk : 2 ≤ k ∧ vs ≠ []
      · cases rx
        obtain ⟨t, rfl⟩ := ry
        exact rep_new I hT hk.2 hk.1 z2 (by omega) fun p o hp ho => w.newT l (dpAll_rep ra _) hp ho
      · cases rx
        obtain ⟨t, rfl⟩ := ry
        obtain ⟨its, r, ⟨⟨cls, dd, data, sl⟩, ho, hc, n, hd⟩, hs⟩ := I.tuple hT
        simp only at hc hd
        subst hc hd
        by_cases h01 : vs = [] ∨ k = 1
        · have c1 : (its.toArray.isEmpty || k == 1) = true := by
            rcases h01 with z | z
            · subst z; cases r; rfl
            · subst z; simp
          refine call_mulT (X := X) (pins := pins) (σ := σ) (H := H) ho (call_meets PySem.F.slot_tuple_mul ⟨_, ho, rfl⟩ PySem.F.entry_tuple_mul (PySem.F.args_tuple_mul_2 _ _) (tuple_mul1 a its.toArray n dd sl k t c0 c1) ⟨ho, ?_⟩)
          refine ⟨.ref a, H, I, rfl, w.here l (.dp (.tup ha ?_))⟩
          rcases h01 with z | z
          · subst z; cases ra; rw [rep_flatE]; exact .nil
          · subst z
            show RpAll X.K F vs (List.replicate 1 xs).flatten
            rw [rep_flat1]; exact ra
        · have hv : vs ≠ [] := fun z => h01 (.inl z)
          have hk1 : k ≠ 1 := fun z => h01 (.inr z)
          have hk0 : k ≤ 0 := by
            by_cases z : 2 ≤ k
            · exact absurd ⟨z, hv⟩ hk
            · omega
          have hi : its.toArray.isEmpty = false := by
            cases its with
            | nil => cases r; exact absurd rfl hv
            | cons a b => rfl
          have c1 : (its.toArray.isEmpty || k == 1) = false := by
            rw [hi, Bool.false_or]
            exact beq_eq_false_iff_ne.mpr hk1
          have c2 : (decide (k ≤ 0) || its.toArray.isEmpty) = true := by rw [decide_eq_true hk0]; rfl
          refine call_mulT (X := X) (pins := pins) (σ := σ) (H := H) ho (call_meets PySem.F.slot_tuple_mul ⟨_, ho, rfl⟩ PySem.F.entry_tuple_mul (PySem.F.args_tuple_mul_2 _ _) (tuple_mul0 a its.toArray n dd sl k t c0 c1 c2) ⟨ho, ?_⟩)
          have e0 : k.toNat = 0 := by omega
          refine ⟨.ref s.heap.objs.size, _, layT I (xs := []) .nil (Nat.zero_le _), rfl, w.newT l ?_ (freshT I) rfl⟩
          rw [e0]
          exact .nil
    · cases e
  · rename_i xs k _
    unfold repL at e
    split at e
    · rename_i hz
      cases e
      simp only [Bool.and_eq_true, decide_eq_true_eq] at hz
      obtain ⟨z1, z2, z3⟩ := hz
      obtain ⟨a, vs, rfl, ha, ra⟩ := rep_lst h1
      cases rep_int h2
      have la := dpAll_len ra
      have ha' : Rd H a (.lst vs) := l.rd ha
      have hz : vs.length * k.toNat ≤ sizeLine := by
        rw [sizeLine_eq]
        have a1 : vs.length * k.toNat ≤ 1000 * 1000 := Nat.mul_le_mul (by omega) (by omega)
        omega
      exact op_repR pins s σ H _ _ v u Q I rx ry ⟨a, k, vs, rfl, rfl, ha', by omega, by omega, hz, fun p hp => w.newL l (dpAll_rep ra _) hp⟩
    · cases e
  all_goals (rename_i z _ _ _; first | (cases z) | skip)
theorem pr_mod : Pr2 X (binaryOp .Mod) (bin2 .mod) := by
  intro pins s σ H x y v u Q I rx ry h
  obtain ⟨F, d1, d2, d, sz, l, h1, h2, e, w⟩ := h
  unfold bin2 at e
  split at e <;> (first | contradiction | skip)
  · split at e
    · rename_i hm
      cases e
      cases rep_int h1; cases rep_int h2
      exact op_mod pins s σ H _ _ v u Q I rx ry ⟨_, _, rfl, rfl, of_decide_eq_true hm, w.here l (.dp (.int _))⟩
    · cases e
  all_goals (rename_i z _ _ _; first | (cases z) | skip)
theorem pr_fdiv : Pr2 X (binaryOp .FloorDiv) (bin2 .fdiv) := by
  intro pins s σ H x y v u Q I rx ry h
  obtain ⟨F, d1, d2, d, sz, l, h1, h2, e, w⟩ := h
  unfold bin2 at e
  split at e <;> (first | contradiction | skip)
  · split at e
    · rename_i hm
      cases e
      cases rep_int h1; cases rep_int h2
      unfold divOk at hm
      rw [Bool.and_eq_true, decide_eq_true_eq, decide_eq_true_eq] at hm
      exact op_fdivW pins s σ H _ _ v u Q I rx ry ⟨_, _, rfl, rfl, hm, w.here l (.dp (.int _))⟩
    · cases e
  all_goals (rename_i z _ _ _; first | (cases z) | skip)
/-- .. by the operator's name -/
def op2 : Op2 → Operator
  | .add => .Add
  | .sub => .Sub
  | .mul => .Mult
  | .mod => .Mod
  | .fdiv => .FloorDiv
theorem pr_bin (o : Op2) : Pr2 X (binaryOp (op2 o)) (bin2 o) := by
  cases o
  · exact pr_add
  · exact pr_sub
  · exact pr_mul
  · exact pr_mod
  · exact pr_fdiv
/-! ### comparisons -/
def cmO : Cm → CmpOp
  | .eq => .Eq
  | .ne => .NotEq
  | .lt => .Lt
  | .le => .LtE
  | .gt => .Gt
  | .ge => .GtE
  | .inn => .In
  | .nin => .NotIn
  | .is => .Is
  | .isn => .IsNot
theorem cmpOk_of {a b : D} (h : cmpOk a b = true) : min a.depth b.depth ≤ 60 ∧ isD a = false ∧ isD b = false := by
  unfold cmpOk at h
  rw [Bool.and_eq_true, Bool.and_eq_true] at h
  exact ⟨minDepth h.1, by simpa using h.2.1, by simpa using h.2.2⟩
theorem alk_of {a b : D} (h : alk a b = true) : PySem.W.alike a b = true ∧ min a.depth b.depth ≤ 60 ∧ a ≠ .none ∧ isD a = false ∧ isD b = false := by
  unfold alk at h
  rw [Bool.and_eq_true, Bool.and_eq_true] at h
  obtain ⟨⟨h1, h2⟩, h3⟩ := h
  refine ⟨h1, minDepth h2, (fun z => by subst z; cases h3), ?_, ?_⟩
  · cases a <;> first | rfl | (simp [PySem.W.alike] at h1)
  · cases b <;> first | rfl | (cases a <;> simp [PySem.W.alike] at h1)
theorem eqS_of {a b : D} {k : Bool} (h : eqS a b = some k) : min a.depth b.depth ≤ 60 ∧ isD a = false ∧ isD b = false ∧ k = PyData.eqv a b := by
  unfold eqS at h
  split at h
  · rename_i c
    obtain ⟨c1, c2, c3⟩ := cmpOk_of c
    exact ⟨c1, c2, c3, (Option.some.inj h).symm⟩
  · cases h
theorem map_some {α β : Type} {o : Option α} {f : α → β} {b : β} (h : o.map f = some b) : ∃ a, o = some a ∧ b = f a := by
  cases o with
  | none => cases h
  | some a => exact ⟨a, rfl, (Option.some.inj h).symm⟩
theorem pr_eq (hu : X.A.units + 100 < cLine) : Pr2 X (compareOp .Eq) (fun a b => (cmp2 .eq a b).map PyData.bool) := by
  intro pins s σ H x y v u Q I rx ry h
  obtain ⟨F, d1, d2, d, sz, l, h1, h2, e, w⟩ := h
  obtain ⟨k, e1, rfl⟩ := map_some e
  obtain ⟨c1, c2, c3, rfl⟩ := eqS_of e1
  have p1 := h1.toDp c2
  have p2 := h2.toDp c3
  obtain ⟨as, ra⟩ := rp_reads I l p1 rx
  obtain ⟨bs, rb⟩ := rp_reads I l p2 ry
  exact SeqAt.eq_plain ra rb (rp_plain _ _ p1) (rp_plain _ _ p2) (by omega) ⟨.bl _, H, I, rfl, w.here l (.dp (.bl _))⟩
theorem pr_ne (hu : X.A.units + 100 < cLine) : Pr2 X (compareOp .NotEq) (fun a b => (cmp2 .ne a b).map PyData.bool) := by
  intro pins s σ H x y v u Q I rx ry h
  obtain ⟨F, d1, d2, d, sz, l, h1, h2, e, w⟩ := h
  obtain ⟨k0, e0, rfl⟩ := map_some e
  obtain ⟨k, e1, rfl⟩ := map_some e0
  obtain ⟨c1, c2, c3, rfl⟩ := eqS_of e1
  have p1 := h1.toDp c2
  have p2 := h2.toDp c3
  obtain ⟨as, ra⟩ := rp_reads I l p1 rx
  obtain ⟨bs, rb⟩ := rp_reads I l p2 ry
  exact SeqAt.ne_plain ra rb (rp_plain _ _ p1) (rp_plain _ _ p2) (by omega) ⟨.bl _, H, I, rfl, w.here l (.dp (.bl _))⟩
theorem ordS_of {o : Cm} {a b : D} {k : Bool} (h : ordS o a b = some k) : (∃ i j, a = .int i ∧ b = .int j ∧ k = ordI o i j) ∨ (alk a b = true ∧ k = ordD o a b) := by
  unfold ordS at h
  split at h
  · exact .inl ⟨_, _, rfl, rfl, (Option.some.inj h).symm⟩
  · split at h
    · rename_i c
      exact .inr ⟨c, (Option.some.inj h).symm⟩
    · cases h
/-- an ordering: of two ints, or of data that are alike -/
theorem pr_ord (o : Cm) (hi : OpR X (compareOp (cmO o)) (rI0 fun i j => .bl (ordI o i j)))
    (hd : ∀ (A : Around) (E : Value → Shared → Prop) (s : Shared) (a b : Value) (da db : D) (as bs : List Addr) (Q : Value → Shared → Prop), Reads s.heap a da as → Reads s.heap b db bs → PySem.W.alike da db = true → da ≠ .none → A.units + min da.depth db.depth < cLine → Q (.bool (ordD o da db)) s →
      wpAny (model X.prog X.w) A (compareOp (cmO o) a b) Q E s)
    (hu : X.A.units + 100 < cLine) : Pr2 X (compareOp (cmO o)) (fun a b => (ordS o a b).map PyData.bool) := by
  intro pins s σ H x y v u Q I rx ry h
  obtain ⟨F, d1, d2, d, sz, l, h1, h2, e, w⟩ := h
  obtain ⟨k, e1, rfl⟩ := map_some e
  rcases ordS_of e1 with ⟨i, j, rfl, rfl, rfl⟩ | ⟨c, rfl⟩
  · cases rep_int h1; cases rep_int h2
    exact hi pins s σ H _ _ v u Q I rx ry ⟨_, _, rfl, rfl, w.here l (.dp (.bl _))⟩
  · obtain ⟨c0, c1, cn, c2, c3⟩ := alk_of c
    have p1 := h1.toDp c2
    have p2 := h2.toDp c3
    obtain ⟨as, ra⟩ := rp_reads I l p1 rx
    obtain ⟨bs, rb⟩ := rp_reads I l p2 ry
    exact hd _ _ _ _ _ _ _ _ _ _ ra rb c0 cn (by omega) ⟨.bl _, H, I, rfl, w.here l (.dp (.bl _))⟩
theorem inS_of {a b : D} {k : Bool} (h : inS a b = some k) : a.depth ≤ 60 ∧ isD a = false ∧ ((∃ xs, b = .list xs ∧ k = xs.any fun x => PyData.eqv x a) ∨ ∃ xs, b = .tuple xs ∧ k = xs.any fun x => PyData.eqv x a) := by
  unfold inS at h
  split at h <;> (first | (cases h; done) | skip)
  all_goals
    split at h
    · rename_i c
      rw [Bool.and_eq_true] at c
      have c1 : a.depth ≤ 60 := by
        have := c.1
        unfold shal at this
        exact of_decide_eq_true this
      refine ⟨c1, by simpa using c.2, ?_⟩
      first
        | exact .inl ⟨_, rfl, (Option.some.inj h).symm⟩
        | exact .inr ⟨_, rfl, (Option.some.inj h).symm⟩
    · cases h
theorem pr_in (hu : X.A.units + 100 < cLine) : Pr2 X (compareOp .In) (fun a b => (cmp2 .inn a b).map PyData.bool) := by
  intro pins s σ H x y v u Q I rx ry h
  obtain ⟨F, d1, d2, d, sz, l, h1, h2, e, w⟩ := h
  obtain ⟨k, e1, rfl⟩ := map_some e
  obtain ⟨c1, c2, c3⟩ := inS_of e1
  have p1 := h1.toDp c2
  obtain ⟨as, ra⟩ := rp_reads I l p1 rx
  rcases c3 with ⟨xs, rfl, rfl⟩ | ⟨xs, rfl, rfl⟩
  · have p2 := h2.toDp rfl
    obtain ⟨bs, rb⟩ := rp_reads I l p2 ry
    have pl := rp_plain _ _ p2
    simp only [PyData.plain] at pl
    exact SeqAt.in_list_data rb ra pl (rp_plain _ _ p1) (by omega) ⟨.bl _, H, I, rfl, w.here l (.dp (.bl _))⟩
  · have p2 := h2.toDp rfl
    obtain ⟨bs, rb⟩ := rp_reads I l p2 ry
    have pl := rp_plain _ _ p2
    simp only [PyData.plain] at pl
    exact SeqAt.in_tuple_data rb ra pl (rp_plain _ _ p1) (by omega) ⟨.bl _, H, I, rfl, w.here l (.dp (.bl _))⟩
theorem pr_nin (hu : X.A.units + 100 < cLine) : Pr2 X (compareOp .NotIn) (fun a b => (cmp2 .nin a b).map PyData.bool) := by
  intro pins s σ H x y v u Q I rx ry h
  obtain ⟨F, d1, d2, d, sz, l, h1, h2, e, w⟩ := h
  obtain ⟨k0, e0, rfl⟩ := map_some e
  obtain ⟨k, e1, rfl⟩ := map_some e0
  obtain ⟨c1, c2, c3⟩ := inS_of e1
  have p1 := h1.toDp c2
  obtain ⟨as, ra⟩ := rp_reads I l p1 rx
  rcases c3 with ⟨xs, rfl, rfl⟩ | ⟨xs, rfl, rfl⟩
  · have p2 := h2.toDp rfl
    obtain ⟨bs, rb⟩ := rp_reads I l p2 ry
    have pl := rp_plain _ _ p2
    simp only [PyData.plain] at pl
    exact SeqAt.notIn_list_data rb ra pl (rp_plain _ _ p1) (by omega) ⟨.bl _, H, I, rfl, w.here l (.dp (.bl _))⟩
  · have p2 := h2.toDp rfl
    obtain ⟨bs, rb⟩ := rp_reads I l p2 ry
    have pl := rp_plain _ _ p2
    simp only [PyData.plain] at pl
    exact SeqAt.notIn_tuple_data rb ra pl (rp_plain _ _ p1) (by omega) ⟨.bl _, H, I, rfl, w.here l (.dp (.bl _))⟩
theorem pr_is : Pr2 X (compareOp .Is) (fun a b => (cmp2 .is a b).map PyData.bool) := by
  intro pins s σ H x y v u Q I rx ry h
  obtain ⟨F, d1, d2, d, sz, l, h1, h2, e, w⟩ := h
  obtain ⟨k, e1, rfl⟩ := map_some e
  have e' : isS d1 d2 = some k := e1
  have fin : ∀ k : Bool, Wd X.K F H (.bool k) Q → EP X pins σ Q (.bool k) s := fun k w => ⟨.bl k, H, I, rfl, w.here l (.dp (.bl k))⟩
  cases d2 with
  | none =>
    have z := rep_non h2
    subst z
    cases (show u = Value.none from ry)
    have e2 : k = decide (x = .non) := by
      cases h1 with
      | dp h1 => cases h1 <;> (cases e'; rfl)
      | dic _ => cases e'
      | prs _ _ _ => cases e'
      | sdi _ _ _ => cases e'
      | scr _ => cases e'
    refine is_none_gen ?_
    rw [rx.none_iff, ← e2]
    exact fin _ w
  | bool b =>
    have z := rep_bl h2
    subst z
    cases (show u = Value.bool _ from ry)
    cases d1 with
    | none =>
      have z1 := rep_non h1; subst z1; cases (show v = Value.none from rx); cases e'
      exact wpAny_is_other rfl (fun z => nomatch z) (fin _ w)
    | bool c =>
      have z1 := rep_bl h1; subst z1; cases (show v = Value.bool _ from rx); cases e'
      exact op_isBl pins s σ H (.bl c) (.bl b) _ _ Q I rfl rfl ⟨_, _, rfl, rfl, by rw [← Bool.beq_eq_decide_eq]; exact w.here l (.dp (.bl _))⟩
    | str c =>
      have z1 := (rep_str h1).1; subst z1; obtain ⟨t, rfl⟩ := rx; cases e'
      exact wpAny_is_other rfl (fun z => nomatch z) (fin _ w)
    | _ => cases e'
  | _ => cases d1 <;> cases e'
theorem pr_isn : Pr2 X (compareOp .IsNot) (fun a b => (cmp2 .isn a b).map PyData.bool) := by
  intro pins s σ H x y v u Q I rx ry h
  obtain ⟨F, d1, d2, d, sz, l, h1, h2, e, w⟩ := h
  obtain ⟨k0, e0, rfl⟩ := map_some e
  obtain ⟨k, e1, rfl⟩ := map_some e0
  have e' : isS d1 d2 = some k := e1
  have fin : ∀ k : Bool, Wd X.K F H (.bool k) Q → EP X pins σ Q (.bool k) s := fun k w => ⟨.bl k, H, I, rfl, w.here l (.dp (.bl k))⟩
  cases d2 with
  | none =>
    have z := rep_non h2
    subst z
    cases (show u = Value.none from ry)
    have e2 : k = decide (x = .non) := by
      cases h1 with
      | dp h1 => cases h1 <;> (cases e'; rfl)
      | dic _ => cases e'
      | prs _ _ _ => cases e'
      | sdi _ _ _ => cases e'
      | scr _ => cases e'
    refine isnot_none_gen ?_
    rw [rx.none_iff, ← e2]
    exact fin _ w
  | bool b =>
    have z := rep_bl h2
    subst z
    cases (show u = Value.bool _ from ry)
    cases d1 with
    | none =>
      have z1 := rep_non h1; subst z1; cases (show v = Value.none from rx); cases e'
      exact wpAny_isNot_other rfl (fun z => nomatch z) (fin _ w)
    | bool c =>
      have z1 := rep_bl h1; subst z1; cases (show v = Value.bool _ from rx); cases e'
      exact op_notBl pins s σ H (.bl c) (.bl b) _ _ Q I rfl rfl ⟨_, _, rfl, rfl, by rw [← Bool.beq_eq_decide_eq]; exact w.here l (.dp (.bl _))⟩
    | str c =>
      have z1 := (rep_str h1).1; subst z1; obtain ⟨t, rfl⟩ := rx; cases e'
      exact wpAny_isNot_other rfl (fun z => nomatch z) (fin _ w)
    | _ => cases e'
  | _ => cases d1 <;> cases e'
/-- .. by the operator's name -/
theorem pr_cmp (hu : X.A.units + 100 < cLine) (o : Cm) : Pr2 X (compareOp (cmO o)) (fun a b => (cmp2 o a b).map PyData.bool) := by
  cases o
  · exact pr_eq hu
  · exact pr_ne hu
  · exact pr_ord .lt op_lt (fun _ _ _ _ _ _ _ _ _ _ r1 r2 h hn hu q => PySem.W.lt_data r1 r2 h hn hu q) hu
  · exact pr_ord .le op_le (fun _ _ _ _ _ _ _ _ _ _ r1 r2 h hn hu q => PySem.W.le_data r1 r2 h hn hu q) hu
  · exact pr_ord .gt op_gt (fun _ _ _ _ _ _ _ _ _ _ r1 r2 h hn hu q => PySem.W.gt_data r1 r2 h hn hu q) hu
  · exact pr_ord .ge op_ge (fun _ _ _ _ _ _ _ _ _ _ r1 r2 h hn hu q => PySem.W.ge_data r1 r2 h hn hu q) hu
  · exact pr_in hu
  · exact pr_nin hu
  · exact pr_is
  · exact pr_isn
end
end L2.BH
set_option maxHeartbeats 1000000
/-! Rules: an expression's reading by its plain meaning. -/
namespace L2.BH
open PySem PySem.Spec PyProof.Rows
/-- a def's run: the heap at its entry, what was frozen there, the draw's place, what is wished of an exception -/
structure Wc where
  B : Hp
  F0 : Hp
  p : Option Addr
  E : WX
  fr : Bool
section
variable {K : PySem.W.Frag} {W : Wc}
/-- what is wanted behind code that is worth o -/
def PostG {α β : Type} (K : PySem.W.Frag) (W : Wc) (F : Hp) (σ : St) (o : Out α) (R : Hp → β → α → Prop) (Q : β → Hp → Prop) : Prop := match o with
  | .ok a s => ∀ F' H' b, Sz H' → Le F F' → Gd K W.B W.F0 W.p F' s σ H' → R F' b a → Q b H'
  | .exc c s => ∀ F' H' x, Le F F' → Gd K W.B W.F0 W.p F' s σ H' → W.E (.ref (He.ga K c)) x σ H'
  | .bad => False
def tG {α β : Type} (K : PySem.W.Frag) (W : Wc) (R : Hp → β → α → Prop) (f : Sg → Out α) : St → Hp → (β → Hp → Prop) → Prop :=
  fun σ H Q => Sz H → ∃ s F, Gd K W.B W.F0 W.p F s σ H ∧ PostG K W F σ (f s) R Q
theorem PostG.mono {α β : Type} {F : Hp} {σ : St} {o : Out α} {R : Hp → β → α → Prop} {Q Q' : β → Hp → Prop} (h : PostG K W F σ o R Q) (k : ∀ b H, Q b H → Q' b H) : PostG K W F σ o R Q' := by
  cases o with
  | ok a s => exact fun F' H' b z l g r => k _ _ (h F' H' b z l g r)
  | exc c s => exact h
  | bad => exact h
theorem PostG.le {α β : Type} {F F1 : Hp} {σ : St} {o : Out α} {R : Hp → β → α → Prop} {Q : β → Hp → Prop} (h : PostG K W F σ o R Q) (l : Le F F1) : PostG K W F1 σ o R Q := by
  cases o with
  | ok a s => exact fun F' H' b z l' g r => h F' H' b z (l.trans l') g r
  | exc c s => exact fun F' H' x l' g => h F' H' x (l.trans l') g
  | bad => exact h
/-- what stands behind the first of two -/
def Mid {α β γ δ : Type} (K : PySem.W.Frag) (W : Wc) (F : Hp) (σ : St) (R : Hp → β → α → Prop) (k : α → Sg → Out γ) (R' : Hp → δ → γ → Prop) (Q' : δ → Hp → Prop) (b : β) (H1 : Hp) : Prop :=
  ∃ a s1 F1, Sz H1 ∧ Le F F1 ∧ Gd K W.B W.F0 W.p F1 s1 σ H1 ∧ R F1 b a ∧ PostG K W F1 σ (k a s1) R' Q'
theorem PostG.bind {α β γ δ : Type} {F : Hp} {σ : St} {o : Out α} {k : α → Sg → Out γ} {R : Hp → β → α → Prop} {R' : Hp → δ → γ → Prop} {Q' : δ → Hp → Prop} (h : PostG K W F σ (o.bind k) R' Q') : PostG K W F σ o R (Mid K W F σ R k R' Q') := by
  cases o with
  | ok a s => exact fun F' H' b z l g r => ⟨a, s, F', z, l, g, r, PostG.le h l⟩
  | exc c s => exact h
  | bad => exact h
/-- a value at once -/
theorem PostG.here {α β : Type} {F H : Hp} {σ : St} {a : α} {s : Sg} {R : Hp → β → α → Prop} {Q : β → Hp → Prop} (h : PostG K W F σ (.ok a s) R Q) (z : Sz H) (g : Gd K W.B W.F0 W.p F s σ H) {b : β} (r : R F b a) : Q b H := h F H b z (Le.refl _) g r
abbrev tX (K : PySem.W.Frag) (W : Wc) (f : Sg → Out D) : TE := tG K W (RepV K) f
abbrev rT : Hp → Bool → Bool → Prop := fun _ b d => b = d
abbrev tXT (K : PySem.W.Frag) (W : Wc) (f : Sg → Out Bool) : TT := tG K W rT f
abbrev tXA (K : PySem.W.Frag) (W : Wc) (f : Sg → Out (List D)) : TA := tG K W (RepA K) f
/-- two values, one after another -/
theorem tG_two {α β γ δ : Type} {R : Hp → β → α → Prop} {R' : Hp → δ → γ → Prop} {f : Sg → Out α} {k : α → Sg → Out γ} {σ : St} {H : Hp} {Q : δ → Hp → Prop}
    (h : tG K W R' (fun s => (f s).bind k) σ H Q) (z : Sz H) : tG K W R f σ H (fun b H1 => ∃ F, Mid K W F σ R k R' Q b H1) := fun _ => by
  obtain ⟨s, F, g, h⟩ := h z
  exact ⟨s, F, g, h.bind.mono fun b H1 m => ⟨F, m⟩⟩
end
section
variable {X : Cx} {W : Wc}
theorem PE.szw {e : Expr} {t t' : TE} (h : PE X e t) (k : ∀ σ H Q, Sz H → t' σ H Q → t σ H (fun v H' => Sz H' → Q v H')) : PE X e t' :=
  ⟨fun pins s σ H Q I q => wpAny_mono (h.run pins s σ H _ I (k σ H Q (Sz.of I.hok) q)) (fun u s' ⟨v, H', I', r, q'⟩ => ⟨v, H', I', r, q' (Sz.of I'.hok)⟩) fun _ _ z => z⟩
theorem PT.szw {e : Expr} {t t' : TT} (h : PT X e t) (k : ∀ σ H Q, Sz H → t' σ H Q → t σ H (fun v H' => Sz H' → Q v H')) : PT X e t' :=
  ⟨fun pins s σ H Q I q => wpAny_mono (h.run pins s σ H _ I (k σ H Q (Sz.of I.hok) q)) (fun u s' ⟨H', I', q'⟩ => ⟨H', I', q' (Sz.of I'.hok)⟩) fun _ _ z => z⟩
theorem PW.szw {e : Expr} {t t' : TT} (h : PW X e t) (k : ∀ σ H Q, Sz H → t' σ H Q → t σ H (fun v H' => Sz H' → Q v H')) : PW X e t' :=
  ⟨fun w pins s σ H Q I q => wpAny_mono (h.run w pins s σ H _ I (k σ H Q (Sz.of I.hok) q)) (fun u s' ⟨H', I', q'⟩ => ⟨H', I', q' (Sz.of I'.hok)⟩) fun _ _ z => z⟩
theorem PA.szw {e : List Expr} {t t' : TA} (h : PA X e t) (k : ∀ σ H Q, Sz H → t' σ H Q → t σ H (fun v H' => Sz H' → Q v H')) : PA X e t' :=
  ⟨fun p pins s σ H Q I q => wpAny_mono (h.run p pins s σ H _ I (k σ H Q (Sz.of I.hok) q)) (fun u s' ⟨v, H', I', r, q'⟩ => ⟨v, H', I', r, q' (Sz.of I'.hok)⟩) fun _ _ z => z⟩
/-- an expression's, a test's, a list's rule -/
abbrev PX (X : Cx) (W : Wc) (q : QE) (e : Expr) : Prop := PE X e (tX X.K W (ev q))
abbrev PB (X : Cx) (W : Wc) (q : QE) (e : Expr) : Prop := PT X e (tXT X.K W fun s => tst (ev q s))
abbrev PBW (X : Cx) (W : Wc) (q : QE) (e : Expr) : Prop := PW X e (tXT X.K W fun s => tst (ev q s))
abbrev PXA (X : Cx) (W : Wc) (q : QEs) (es : List Expr) : Prop := PA X es (tXA X.K W (evs q))
/-! ### atoms -/
theorem x_var {i : Nat} {x : Str} {pos : Pos} (hN : X.N[i]? = some x := by rfl) (hv : Vis X.env.scope x := by first | exact Or.inl rfl | exact Or.inr (Or.inl rfl) | exact Or.inr (Or.inr rfl)) (hd : (x == ("__debug__" : Str)) = false := by decide)
    (hcd : (x == ("__classdict__" : Str)) = false := by decide) : PX X W (.var i) (.Name x pos) := by
  refine PE.szw (pe_var hN hv hd hcd) fun σ H Q z h => ?_
  obtain ⟨s, F, g, h⟩ := h z
  have h' : PostG X.K W F σ (s.getV i) (RepV X.K) Q := h
  unfold Sg.getV at h'
  split at h'
  · rename_i d e
    obtain ⟨ρ, h1, _⟩ := g.cs
    obtain ⟨v, e1, r⟩ := h1 i _ e
    exact ⟨v, e1, fun z' => h'.here z' g r⟩
  · rename_i d e
    obtain ⟨F', a, l, e1, r, g'⟩ := g.freeze e
    exact ⟨_, e1, fun z' => h' F' H _ z' l g' r⟩
  · exact h'.elim
theorem x_const {e : Expr} {v : V} {d : D} (he : PE X e (tC v)) (r : ∀ F, RepV X.K F v d) : PX X W (.lit d) e :=
  PE.szw he fun σ H Q z h z' => by
    obtain ⟨s, F, g, h⟩ := h z
    exact PostG.here h z' g (r F)
theorem x_int {i : Int} {j pos} : PX X W (.lit (.int i)) (.Constant (.int i) j pos) := x_const pe_int fun _ => .dp (.int i)
theorem x_bl {i : Bool} {j pos} : PX X W (.lit (.bool i)) (.Constant (.bool i) j pos) := x_const pe_bl fun _ => .dp (.bl i)
theorem x_non {j pos} : PX X W (.lit .none) (.Constant .none j pos) := x_const pe_non fun _ => .dp .non
theorem x_str {x : Str} {j pos} (h : x.length ≤ sizeLine := by decide) : PX X W (.lit (.str x)) (.Constant (.str x) j pos) := x_const pe_str fun _ => .dp (.str x h)
theorem x_conI {x : Str} {i : Int} {pos : Pos} (hg : Gl X x := by rfl) (hm : ∃ t, X.mg x = some (.int i t)) (hd : (x == ("__debug__" : Str)) = false := by decide) : PX X W (.con x (.int i)) (.Name x pos) := by
  obtain ⟨t, hm⟩ := hm
  exact PE.szw (pe_glob hg hm (show RelV (.int i) (.int i t) from ⟨t, rfl⟩) hd) fun σ H Q z h z' => by
    obtain ⟨s, F, g, h⟩ := h z
    exact PostG.here h z' g (.dp (.int i))
/-! ### lists of expressions -/
theorem xa_nil : PXA X W .nil [] := PA.szw pa_nil fun σ H Q z h z' => by
  obtain ⟨s, F, g, h⟩ := h z
  exact PostG.here h z' g .nil
theorem xa_cons {q : QE} {qs : QEs} {e : Expr} {es : List Expr} (h1 : PX X W q e) (h2 : PXA X W qs es) (hs : starEach (e :: es) X.env = (false, eval e X.env) :: starEach es X.env := by rfl) : PXA X W (.cons q qs) (e :: es) :=
  PA.szw (pa_cons h1 h2 hs) fun σ H Q z h => by
    refine fun z => ?_
    obtain ⟨s, F, g, h⟩ := h z
    have h' : PostG X.K W F σ ((ev q s).bind fun x s => (evs qs s).bind fun xs s => .ok (x :: xs) s) (RepA X.K) Q := h
    refine ⟨s, F, g, h'.bind.mono fun x H1 m => ?_⟩
    obtain ⟨a, s1, F1, z1, l1, g1, r1, h1⟩ := m
    refine fun _ => ⟨s1, F1, g1, h1.bind.mono fun xs H2 m2 => ?_⟩
    obtain ⟨b, s2, F2, z2, l2, g2, r2, h2⟩ := m2
    exact fun z3 => PostG.here h2 z3 g2 (.cons (r1.mono l2) r2)
theorem RepA.lenS {K : PySem.W.Frag} {F : Hp} {vs : List V} {ds : List D} (h : RepA K F vs ds) : vs.length = ds.length := h.len
/-- a written list or tuple: its number of items is small -/
def QEs.n : QEs → Nat
  | .nil => 0
  | .cons _ es => es.n + 1
theorem evs_len : ∀ (es : QEs) (s s' : Sg) (ds : List D), evs es s = .ok ds s' → ds.length = es.n
  | .nil, s, s', ds, h => by
    have h' : Out.ok [] s = .ok ds s' := h
    cases h'; rfl
  | .cons e es, s, s', ds, h => by
    have h' : ((ev e s).bind fun x s => (evs es s).bind fun xs s => .ok (x :: xs) s) = .ok ds s' := h
    cases q : ev e s with
    | ok x s1 =>
      rw [q, Out.bind_ok] at h'
      cases q2 : evs es s1 with
      | ok xs s2 =>
        rw [q2, Out.bind_ok] at h'
        cases h'
        rw [List.length_cons, evs_len es _ _ _ q2]; rfl
      | exc c s2 => rw [q2] at h'; cases h'
      | bad => rw [q2] at h'; cases h'
    | exc c s1 => rw [q] at h'; cases h'
    | bad => rw [q] at h'; cases h'
theorem pe_tupF {X : Cx} {t : TA} {es : List Expr} {x1 : Nat} {pos : Pos} (h : PA X es t) : PE X (.Tuple es x1 pos) (fun σ H Q => t σ H fun xs H1 => xs.length ≤ sizeLine ∧ ∀ p o, H1 p = none → o.dict = none → Q (.ref p) (upd H1 p (.frz o (.tup xs)))) :=
  ⟨fun pins s σ H Q I hq => wpAny_Tuple_spliced (thn (h.run pos pins s σ H _ I hq) fun us s1 ⟨xs, H1, I1, r, z, q⟩ => ⟨by rw [← r.length]; exact z, ⟨.ref s1.heap.objs.size, _, layT I1 r z, rfl, q _ _ (freshT I1) rfl⟩⟩)⟩
theorem x_tup {es : List Expr} {qs : QEs} {k pos} (h : PXA X W qs es) (hn : qs.n ≤ sizeLine := by decide) : PX X W (.tup qs) (.Tuple es k pos) :=
  PE.szw (pe_tupF h) fun σ H Q z h => by
    refine fun z => ?_
    obtain ⟨s, F, g, h⟩ := h z
    have h' : PostG X.K W F σ ((evs qs s).bind fun ds s => if noDs ds then .ok (.tuple ds) s else .bad) (RepV X.K) Q := h
    cases q : evs qs s with
    | exc c s1 => refine ⟨s, F, g, ?_⟩; rw [q] at h' ⊢; exact h'
    | bad => refine ⟨s, F, g, ?_⟩; rw [q] at h' ⊢; exact h'
    | ok ds s1 =>
      have hl := evs_len _ _ _ _ q
      rw [q] at h'
      refine ⟨s, F, g, ?_⟩
      rw [q]
      intro F1 H1 vs z1 l1 g1 r1
      refine ⟨by rw [r1.len, hl]; exact hn, fun p o hp ho z2 => ?_⟩
      rw [Out.bind_ok] at h'
      split at h'
      · rename_i hd
        have t : Stp none F1 H1 (upd F1 p (.frz o (.tup vs))) (upd H1 p (.frz o (.tup vs))) := Stp.new g1.fh hp
        exact h' _ _ _ z2 (l1.trans t.ff) (g1.stepK t) (.dp (.tup (PlT.of upd_same ho) (dpAll_mono t.ff _ _ (r1.toDp hd))))
      · exact h'.elim
theorem x_lst {es : List Expr} {qs : QEs} {pos} (h : PXA X W qs es) (hn : qs.n ≤ sizeLine := by decide) : PX X W (.lst qs) (.List es pos) :=
  PE.szw (pe_lst h) fun σ H Q z h => by
    refine fun z => ?_
    obtain ⟨s, F, g, h⟩ := h z
    have h' : PostG X.K W F σ ((evs qs s).bind fun ds s => if noDs ds then .ok (.list ds) s else .bad) (RepV X.K) Q := h
    cases q : evs qs s with
    | exc c s1 => refine ⟨s, F, g, ?_⟩; rw [q] at h' ⊢; exact h'
    | bad => refine ⟨s, F, g, ?_⟩; rw [q] at h' ⊢; exact h'
    | ok ds s1 =>
      have hl := evs_len _ _ _ _ q
      rw [q] at h'
      refine ⟨s, F, g, ?_⟩
      rw [q]
      intro F1 H1 vs z1 l1 g1 r1
      refine ⟨by rw [r1.len, hl]; exact hn, fun p hp z2 => ?_⟩
      rw [Out.bind_ok] at h'
      split at h'
      · rename_i hd
        have t : Stp none F1 H1 (upd F1 p (.lst vs)) (upd H1 p (.lst vs)) := Stp.new g1.fh hp
        exact h' _ _ _ z2 (l1.trans t.ff) (g1.stepK t) (.dp (.lst (.inl upd_same) (dpAll_mono t.ff _ _ (r1.toDp hd))))
      · exact h'.elim
/-! ### operations -/
/-- the second of two values, an operation behind -/
theorem two_op {F : Hp} {σ : St} {f : Sg → Out D} {k : D → D → Option D} {Q : VK} {x : V} {H1 : Hp} (m : Mid X.K W F σ (RepV X.K) (fun x s => (f s).bind fun y s => ofO (k x y) s) (RepV X.K) Q x H1) :
    tX X.K W f σ H1 (fun y H2 => r2 X.K k x y H2 fun v H' => Sz H' → Q v H') := by
  obtain ⟨a, s1, F1, z1, l1, g1, r1, h1⟩ := m
  refine fun _ => ⟨s1, F1, g1, h1.bind.mono fun y H2 m2 => ?_⟩
  obtain ⟨b, s2, F2, z2, l2, g2, r2, h2⟩ := m2
  have h2' : PostG X.K W F2 σ (ofO (k a b) s2) (RepV X.K) Q := h2
  cases e : k a b with
  | none => rw [e] at h2'; exact h2'.elim
  | some d =>
    rw [e] at h2'
    exact ⟨F2, a, b, d, z2, g2.fh, r1.mono l2, r2, e, fun F' H' v t r z3 => h2' F' H' v z3 t.ff (g2.stepK t) r⟩
theorem x_bin {o : Op2} {qa qb : QE} {a b : Expr} {pos : Pos} (ha : PX X W qa a) (hb : PX X W qb b) : PX X W (.bin o qa qb) (.BinOp a (op2 o) b pos) :=
  PE.szw (pe_op (pr_bin o) ha hb) fun σ H Q z h z => by
    obtain ⟨s, F, g, h⟩ := h z
    have h' : PostG X.K W F σ ((ev qa s).bind fun x s => (ev qb s).bind fun y s => ofO (bin2 o x y) s) (RepV X.K) Q := h
    exact ⟨s, F, g, h'.bind.mono fun x H1 m => two_op m⟩
theorem x_cmp {o : Cm} {qa qb : QE} {a b : Expr} {pos : Pos} (hu : X.A.units + 100 < cLine) (ha : PX X W qa a) (hb : PX X W qb b) (hm : behindInMarks (cmO o) b = false := by with_unfolding_all rfl) : PX X W (.cmp o qa qb) (.Compare a [cmO o] [b] pos) :=
  PE.szw (pe_cmpR (pr_cmp hu o) ha hb hm) fun σ H Q z h z => by
    obtain ⟨s, F, g, h⟩ := h z
    have h' : PostG X.K W F σ ((ev qa s).bind fun x s => (ev qb s).bind fun y s => ofO ((cmp2 o x y).map .bool) s) (RepV X.K) Q := h
    exact ⟨s, F, g, h'.bind.mono fun x H1 m => two_op m⟩
theorem x_neg {qa : QE} {a : Expr} {pos : Pos} (ha : PX X W qa a) : PX X W (.neg qa) (.UnaryOp .USub a pos) :=
  PE.szw (pe_un un_neg ha) fun σ H Q z h z => by
    obtain ⟨s, F, g, h⟩ := h z
    have h' : PostG X.K W F σ ((ev qa s).bind fun x s => match x with | .int i => .ok (.int (-i)) s | _ => .bad) (RepV X.K) Q := h
    refine ⟨s, F, g, h'.bind.mono fun x H1 m => ?_⟩
    obtain ⟨d, s1, F1, z1, l1, g1, r1, h1⟩ := m
    cases d with
    | int i => cases rep_int r1; exact ⟨i, rfl, fun z' => PostG.here h1 z' g1 (.dp (.int _))⟩
    | _ => exact False.elim h1
end
end L2.BH
set_option maxHeartbeats 1000000
/-! Rules: tests, subscripts, slices. -/
namespace L2.BH
open PySem PySem.Spec PyProof.Rows
theorem RpAll.emp {K : PySem.W.Frag} {F : Hp} {vs : List V} {ds : List D} (h : RpAll K F vs ds) : vs.isEmpty = ds.isEmpty := by
  cases h <;> rfl
theorem truV {K : PySem.W.Frag} {F H : Hp} {v : V} {d : D} (h : RepV K F v d) (n : isD d = false) (l : Le F H) : TruV K v H (tru d) := by
  have h' := h.toDp n
  cases h' with
  | non => rfl
  | bl b => rfl
  | int i => rfl
  | str x hx => exact ⟨hx, rfl⟩
  | lst hs ha => exact .inl ⟨_, .inl (l.rd hs), by rw [ha.emp]; rfl⟩
  | tup hs ha => exact .inr (.inl ⟨_, l.sqT hs, by rw [ha.emp]; rfl⟩)
/-! ### how tests read -/
theorem tst_ok {d : D} {s : Sg} (n : isD d = false) : tst (.ok d s) = .ok (tru d) s := by
  unfold tst; rw [Out.bind_ok, n]; rfl
theorem tst_dic {d : D} {s : Sg} (n : isD d = true) : tst (.ok d s) = .bad := by
  unfold tst; rw [Out.bind_ok, n]; rfl
theorem tst_exc {c : Str} {s : Sg} : tst (.exc c s) = .exc c s := rfl
theorem tst_bad : tst (.bad) = .bad := rfl
theorem tst_bl {b : Bool} {s : Sg} : tst (.ok (.bool b) s) = .ok b s := rfl
theorem tst_and (a b : QE) (s : Sg) : tst (ev (.and a b) s) = (tst (ev a s)).bind fun c s => if c then tst (ev b s) else .ok false s := by
  have e : ev (.and a b) s = (ev a s).bind fun x s => if isD x then .bad else if tru x then ev b s else .ok x s := rfl
  rw [e]
  cases ev a s with
  | ok x s1 =>
    rw [Out.bind_ok]
    cases hd : isD x with
    | true => rw [tst_dic hd]; rfl
    | false =>
      rw [tst_ok hd, Out.bind_ok, if_neg Bool.false_ne_true]
      cases ht : tru x with
      | true => rfl
      | false => rw [if_neg Bool.false_ne_true, if_neg Bool.false_ne_true, tst_ok hd, ht]
  | exc c s1 => rfl
  | bad => rfl
theorem tst_or (a b : QE) (s : Sg) : tst (ev (.or a b) s) = (tst (ev a s)).bind fun c s => if c then .ok true s else tst (ev b s) := by
  have e : ev (.or a b) s = (ev a s).bind fun x s => if isD x then .bad else if tru x then .ok x s else ev b s := rfl
  rw [e]
  cases ev a s with
  | ok x s1 =>
    rw [Out.bind_ok]
    cases hd : isD x with
    | true => rw [tst_dic hd]; rfl
    | false =>
      rw [tst_ok hd, Out.bind_ok, if_neg Bool.false_ne_true]
      cases ht : tru x with
      | true => rw [if_pos rfl, if_pos rfl, tst_ok hd, ht]
      | false => rfl
  | exc c s1 => rfl
  | bad => rfl
theorem tst_not (a : QE) (s : Sg) : tst (ev (.not a) s) = (tst (ev a s)).bind fun b s => .ok (!b) s := by
  have e : ev (.not a) s = (tst (ev a s)).bind fun b s => .ok (.bool (!b)) s := rfl
  rw [e]
  cases tst (ev a s) with
  | ok x s1 => rfl
  | exc c s1 => rfl
  | bad => rfl
theorem tst_cmp (o : Cm) (a b : QE) (s : Sg) : tst (ev (.cmp o a b) s) = (ev a s).bind fun x s => (ev b s).bind fun y s => ofO (cmp2 o x y) s := by
  have e : ev (.cmp o a b) s = (ev a s).bind fun x s => (ev b s).bind fun y s => ofO ((cmp2 o x y).map .bool) s := rfl
  rw [e]
  cases ev a s with
  | ok x s1 =>
    rw [Out.bind_ok, Out.bind_ok]
    cases ev b s1 with
    | ok y s2 =>
      rw [Out.bind_ok, Out.bind_ok]
      cases cmp2 o x y <;> rfl
    | exc c s2 => rfl
    | bad => rfl
  | exc c s1 => rfl
  | bad => rfl
theorem tst_chn (o p : Cm) (a b c : QE) (s : Sg) : tst (ev (.chn o p a b c) s) = (ev a s).bind fun x s => (ev b s).bind fun y s => match cmp2 o x y with
    | some true => (ev c s).bind fun z s => ofO (cmp2 p y z) s
    | some false => .ok false s
    | none => .bad := by
  have e : ev (.chn o p a b c) s = (ev a s).bind fun x s => (ev b s).bind fun y s => match cmp2 o x y with
    | some true => (ev c s).bind fun z s => ofO ((cmp2 p y z).map .bool) s
    | some false => .ok (.bool false) s
    | none => .bad := rfl
  rw [e]
  cases ev a s with
  | ok x s1 =>
    rw [Out.bind_ok, Out.bind_ok]
    cases ev b s1 with
    | ok y s2 =>
      rw [Out.bind_ok, Out.bind_ok]
      cases cmp2 o x y with
      | none => rfl
      | some k =>
        cases k with
        | false => rfl
        | true =>
          dsimp only
          cases ev c s2 with
          | ok z s3 =>
            rw [Out.bind_ok, Out.bind_ok]
            cases cmp2 p y z <;> rfl
          | exc c s2 => rfl
          | bad => rfl
    | exc c s2 => rfl
    | bad => rfl
  | exc c s1 => rfl
  | bad => rfl
section
variable {X : Cx} {W : Wc}
/-- a reading, by an equal meaning -/
theorem tG_eq {α β : Type} {K : PySem.W.Frag} {R : Hp → β → α → Prop} {f f' : Sg → Out α} (e : ∀ s, f s = f' s) : tG K W R f = tG K W R f' := by
  have : f = f' := funext e
  rw [this]
/-! ### tests -/
theorem b_val {q : QE} {e : Expr} (h : PX X W q e) (he : ∀ whole, isTrue e X.env whole = (do let v ← whole; standAt e.pos; holding [v] (truthy v)) := by intro _; rfl) : PB X W q e :=
  PT.szw (pt_truth h he) fun σ H Q z h z => by
    obtain ⟨s, F, g, h⟩ := h z
    have h' : PostG X.K W F σ ((ev q s).bind fun x s => if isD x then .bad else .ok (tru x) s) rT Q := h
    refine ⟨s, F, g, h'.bind.mono fun x H1 m => ?_⟩
    obtain ⟨d, s1, F1, z1, l1, g1, r1, h1⟩ := m
    try dsimp only at h1
    cases hd : isD d with
    | true => rw [hd] at h1; exact False.elim h1
    | false =>
      rw [hd] at h1
      exact ⟨tru d, truV r1 hd g1.fh, fun z' => PostG.here h1 z' g1 rfl⟩
theorem b_not {q : QE} {e : Expr} {pos : Pos} (h : PB X W q e) : PB X W (.not q) (.UnaryOp .Not e pos) :=
  PT.szw (pt_not h) fun σ H Q z h z => by
    obtain ⟨s, F, g, h⟩ := h z
    try dsimp only at h
    rw [tst_not] at h
    refine ⟨s, F, g, (PostG.bind (R := rT) h).mono fun x H1 m => ?_⟩
    obtain ⟨d, s1, F1, z1, l1, g1, rfl, h1⟩ := m
    try dsimp only at h1
    exact fun z' => PostG.here h1 z' g1 rfl
theorem bw_and1 {q : QE} {e : Expr} {pos : Pos} (h : PB X W q e) : PBW X W q (.BoolOp .And [e] pos) := pw_and1 h
theorem bw_or1 {q : QE} {e : Expr} {pos : Pos} (h : PB X W q e) : PBW X W q (.BoolOp .Or [e] pos) := pw_or1 h
theorem bw_and {q r : QE} {a b : Expr} {rest : List Expr} {pos : Pos} (ha : PB X W q a) (hb : PBW X W r (.BoolOp .And (b :: rest) pos)) : PBW X W (.and q r) (.BoolOp .And (a :: b :: rest) pos) :=
  PW.szw (pw_and ha hb) fun σ H Q z h z => by
    obtain ⟨s, F, g, h⟩ := h z
    try dsimp only at h
    rw [tst_and] at h
    refine ⟨s, F, g, (PostG.bind (R := rT) h).mono fun x H1 m => ?_⟩
    obtain ⟨d, s1, F1, z1, l1, g1, rfl, h1⟩ := m
    try dsimp only at h1
    cases x with
    | true => exact fun _ => ⟨s1, F1, g1, (show PostG X.K W F1 σ (tst (ev r s1)) rT Q from h1).mono fun _ _ q _ => q⟩
    | false => exact fun z' => PostG.here h1 z' g1 rfl
theorem bw_or {q r : QE} {a b : Expr} {rest : List Expr} {pos : Pos} (ha : PB X W q a) (hb : PBW X W r (.BoolOp .Or (b :: rest) pos)) : PBW X W (.or q r) (.BoolOp .Or (a :: b :: rest) pos) :=
  PW.szw (pw_or ha hb) fun σ H Q z h z => by
    obtain ⟨s, F, g, h⟩ := h z
    try dsimp only at h
    rw [tst_or] at h
    refine ⟨s, F, g, (PostG.bind (R := rT) h).mono fun x H1 m => ?_⟩
    obtain ⟨d, s1, F1, z1, l1, g1, rfl, h1⟩ := m
    try dsimp only at h1
    cases x with
    | false => exact fun _ => ⟨s1, F1, g1, (show PostG X.K W F1 σ (tst (ev r s1)) rT Q from h1).mono fun _ _ q _ => q⟩
    | true => exact fun z' => PostG.here h1 z' g1 rfl
theorem b_w {q : QE} {e : Expr} (h : PBW X W q e) : PB X W q e := h.pt
theorem b_cmp {o : Cm} {qa qb : QE} {a b : Expr} {pos : Pos} (hu : X.A.units + 100 < cLine) (ha : PX X W qa a) (hb : PX X W qb b) (hm : behindInMarks (cmO o) b = false := by with_unfolding_all rfl) : PB X W (.cmp o qa qb) (.Compare a [cmO o] [b] pos) :=
  PT.szw (pt_cmpR (pr_cmp hu o) ha hb hm) fun σ H Q z h z => by
    obtain ⟨s, F, g, h⟩ := h z
    try dsimp only at h
    rw [tst_cmp] at h
    refine ⟨s, F, g, (PostG.bind (R := RepV X.K) h).mono fun x H1 m => ?_⟩
    obtain ⟨a, s1, F1, z1, l1, g1, r1, h1⟩ := m
    try dsimp only at h1
    refine fun _ => ⟨s1, F1, g1, (PostG.bind (R := RepV X.K) h1).mono fun y H2 m2 => ?_⟩
    obtain ⟨b, s2, F2, z2, l2, g2, r2, h2⟩ := m2
    try dsimp only at h2
    cases e : cmp2 o a b with
    | none => rw [e] at h2; exact False.elim h2
    | some k =>
      rw [e] at h2
      refine ⟨F2, a, b, .bool k, z2, g2.fh, r1.mono l2, r2, by dsimp only; rw [e]; rfl, fun F' H' v t r => ⟨k, rep_bl r, fun z3 => ?_⟩⟩
      exact h2 F' H' k z3 t.ff (g2.stepK t) rfl
theorem b_chn {o p : Cm} {qa qb qc : QE} {a b c : Expr} {pos : Pos} (hu : X.A.units + 100 < cLine) (ha : PX X W qa a) (hb : PX X W qb b) (hc : PX X W qc c) (hm : lastMarks [cmO o, cmO p] [b, c] = false := by with_unfolding_all rfl) :
    PB X W (.chn o p qa qb qc) (.Compare a [cmO o, cmO p] [b, c] pos) :=
  PT.szw (pt_chain (pr_cmp hu o) (pr_cmp hu p) ha hb hc hm) fun σ H Q z h z => by
    obtain ⟨s, F, g, h⟩ := h z
    try dsimp only at h
    rw [tst_chn] at h
    refine ⟨s, F, g, (PostG.bind (R := RepV X.K) h).mono fun x H1 m => ?_⟩
    obtain ⟨a, s1, F1, z1, l1, g1, r1, h1⟩ := m
    try dsimp only at h1
    refine fun _ => ⟨s1, F1, g1, (PostG.bind (R := RepV X.K) h1).mono fun y H2 m2 => ?_⟩
    obtain ⟨b, s2, F2, z2, l2, g2, r2, h2⟩ := m2
    try dsimp only at h2
    cases e : cmp2 o a b with
    | none => rw [e] at h2; exact False.elim h2
    | some k =>
      rw [e] at h2
      refine ⟨F2, a, b, .bool k, z2, g2.fh, r1.mono l2, r2, by dsimp only; rw [e]; rfl, fun F' H' v t r => ⟨k, rep_bl r, ?_⟩⟩
      cases k with
      | false => exact ⟨false, rfl, fun z3 => h2 F' H' false z3 t.ff (g2.stepK t) rfl⟩
      | true =>
        rw [if_pos rfl]
        refine fun z3 => ⟨s2, F', g2.stepK t, ?_⟩
        have h3 : PostG X.K W F2 σ ((ev qc s2).bind fun z s => ofO (cmp2 p b z) s) rT Q := h2
        refine (PostG.le (PostG.bind (R := RepV X.K) h3) t.ff).mono fun w H4 m4 => ?_
        obtain ⟨dz, s4, F4, z4, l4, g4, r4, h4⟩ := m4
        try dsimp only at h4
        cases e4 : cmp2 p b dz with
        | none => rw [e4] at h4; exact False.elim h4
        | some k4 =>
          rw [e4] at h4
          exact ⟨F4, b, dz, .bool k4, z4, g4.fh, r2.mono l4, r4, by dsimp only; rw [e4]; rfl, fun F5 H5 v5 t5 r5 => ⟨k4, rep_bl r5, fun z5 => h4 F5 H5 k4 z5 t5.ff (g4.stepK t5) rfl⟩⟩
theorem x_chn {o p : Cm} {qa qb qc : QE} {a b c : Expr} {pos : Pos} (hu : X.A.units + 100 < cLine) (ha : PX X W qa a) (hb : PX X W qb b) (hc : PX X W qc c) (hm : lastMarks [cmO o, cmO p] [b, c] = false := by with_unfolding_all rfl) :
    PX X W (.chn o p qa qb qc) (.Compare a [cmO o, cmO p] [b, c] pos) :=
  PE.szw (pe_chain (pr_cmp hu o) (pr_cmp hu p) ha hb hc hm) fun σ H Q z h z => by
    obtain ⟨s, F, g, h⟩ := h z
    have h' : PostG X.K W F σ ((ev qa s).bind fun x s => (ev qb s).bind fun y s => match cmp2 o x y with
      | some true => (ev qc s).bind fun z s => ofO ((cmp2 p y z).map .bool) s
      | some false => .ok (.bool false) s
      | none => .bad) (RepV X.K) Q := h
    refine ⟨s, F, g, h'.bind.mono fun x H1 m => ?_⟩
    obtain ⟨a, s1, F1, z1, l1, g1, r1, h1⟩ := m
    try dsimp only at h1
    refine fun _ => ⟨s1, F1, g1, h1.bind.mono fun y H2 m2 => ?_⟩
    obtain ⟨b, s2, F2, z2, l2, g2, r2, h2⟩ := m2
    try dsimp only at h2
    cases e : cmp2 o a b with
    | none => rw [e] at h2; exact False.elim h2
    | some k =>
      rw [e] at h2
      refine ⟨F2, a, b, .bool k, z2, g2.fh, r1.mono l2, r2, by dsimp only; rw [e]; rfl, fun F' H' v t r => ⟨k, rep_bl r, ?_⟩⟩
      cases k with
      | false => exact fun z3 => h2 F' H' _ z3 t.ff (g2.stepK t) (.dp (.bl false))
      | true =>
        rw [if_pos rfl]
        refine fun z3 => ⟨s2, F', g2.stepK t, ?_⟩
        have h3 : PostG X.K W F2 σ ((ev qc s2).bind fun z s => ofO ((cmp2 p b z).map .bool) s) (RepV X.K) Q := h2
        refine (PostG.le h3.bind t.ff).mono fun w H4 m4 => ?_
        obtain ⟨dz, s4, F4, z4, l4, g4, r4, h4⟩ := m4
        try dsimp only at h4
        cases e4 : cmp2 p b dz with
        | none => rw [e4] at h4; exact False.elim h4
        | some k4 =>
          rw [e4] at h4
          exact ⟨F4, b, dz, .bool k4, z4, g4.fh, r2.mono l4, r4, by dsimp only; rw [e4]; rfl, fun F5 H5 v5 t5 r5 z5 => h4 F5 H5 v5 z5 t5.ff (g4.stepK t5) r5⟩
/-! ### and, or, not, if as values -/
theorem x_one {q : QE} {e : Expr} {op : BoolOp} {pos : Pos} (h : PX X W q e) : PX X W q (.BoolOp op [e] pos) := pe_one h
theorem x_and {q r : QE} {a b : Expr} {rest : List Expr} {pos : Pos} (ha : PX X W q a) (hb : PX X W r (.BoolOp .And (b :: rest) pos)) : PX X W (.and q r) (.BoolOp .And (a :: b :: rest) pos) :=
  PE.szw (pe_andT ha hb) fun σ H Q z h z => by
    obtain ⟨s, F, g, h⟩ := h z
    have h' : PostG X.K W F σ ((ev q s).bind fun x s => if isD x then .bad else if tru x then ev r s else .ok x s) (RepV X.K) Q := h
    refine ⟨s, F, g, h'.bind.mono fun x H1 m => ?_⟩
    obtain ⟨d, s1, F1, z1, l1, g1, r1, h1⟩ := m
    try dsimp only at h1
    cases hd : isD d with
    | true => rw [hd] at h1; exact False.elim h1
    | false =>
      rw [hd, if_neg Bool.false_ne_true] at h1
      refine ⟨tru d, truV r1 hd g1.fh, ?_⟩
      cases ht : tru d with
      | true =>
        rw [ht] at h1
        exact fun _ => ⟨s1, F1, g1, (show PostG X.K W F1 σ (ev r s1) (RepV X.K) Q from h1).mono fun _ _ q _ => q⟩
      | false =>
        rw [ht] at h1
        exact fun z' => PostG.here h1 z' g1 r1
theorem x_or {q r : QE} {a b : Expr} {rest : List Expr} {pos : Pos} (ha : PX X W q a) (hb : PX X W r (.BoolOp .Or (b :: rest) pos)) : PX X W (.or q r) (.BoolOp .Or (a :: b :: rest) pos) :=
  PE.szw (pe_orT ha hb) fun σ H Q z h z => by
    obtain ⟨s, F, g, h⟩ := h z
    have h' : PostG X.K W F σ ((ev q s).bind fun x s => if isD x then .bad else if tru x then .ok x s else ev r s) (RepV X.K) Q := h
    refine ⟨s, F, g, h'.bind.mono fun x H1 m => ?_⟩
    obtain ⟨d, s1, F1, z1, l1, g1, r1, h1⟩ := m
    try dsimp only at h1
    cases hd : isD d with
    | true => rw [hd] at h1; exact False.elim h1
    | false =>
      rw [hd, if_neg Bool.false_ne_true] at h1
      refine ⟨tru d, truV r1 hd g1.fh, ?_⟩
      cases ht : tru d with
      | false =>
        rw [ht] at h1
        exact fun _ => ⟨s1, F1, g1, (show PostG X.K W F1 σ (ev r s1) (RepV X.K) Q from h1).mono fun _ _ q _ => q⟩
      | true =>
        rw [ht] at h1
        exact fun z' => PostG.here h1 z' g1 r1
theorem x_not {q : QE} {a : Expr} {pos : Pos} (ha : PX X W q a) : PX X W (.not q) (.UnaryOp .Not a pos) :=
  PE.szw (pe_notT ha) fun σ H Q z h z => by
    obtain ⟨s, F, g, h⟩ := h z
    have h' : PostG X.K W F σ ((tst (ev q s)).bind fun b s => .ok (.bool (!b)) s) (RepV X.K) Q := h
    cases e : ev q s with
    | bad => rw [e] at h'; exact False.elim h'
    | exc c s1 => rw [e] at h'; exact ⟨s, F, g, by rw [e]; exact h'⟩
    | ok d s1 =>
      rw [e] at h'
      cases hd : isD d with
      | true => rw [tst_dic hd] at h'; exact False.elim h'
      | false =>
        rw [tst_ok hd, Out.bind_ok] at h'
        refine ⟨s, F, g, ?_⟩
        rw [e]
        intro F1 H1 v z1 l1 g1 r1
        exact ⟨tru d, truV r1 hd g1.fh, fun z' => h' F1 H1 _ z' l1 g1 (.dp (.bl _))⟩
theorem x_ifx {qc qa qb : QE} {c a b : Expr} {pos : Pos} (hc : PB X W qc c) (ha : PX X W qa a) (hb : PX X W qb b) : PX X W (.ifx qc qa qb) (.IfExp c a b pos) :=
  PE.szw (pe_ifExp hc ha hb) fun σ H Q z h z => by
    obtain ⟨s, F, g, h⟩ := h z
    have h' : PostG X.K W F σ ((tst (ev qc s)).bind fun x s => if x then ev qa s else ev qb s) (RepV X.K) Q := h
    refine ⟨s, F, g, (PostG.bind (R := rT) h').mono fun x H1 m => ?_⟩
    obtain ⟨d, s1, F1, z1, l1, g1, rfl, h1⟩ := m
    try dsimp only at h1
    cases x with
    | true => exact fun _ => ⟨s1, F1, g1, (show PostG X.K W F1 σ (ev qa s1) (RepV X.K) Q from h1).mono fun _ _ q _ => q⟩
    | false => exact fun _ => ⟨s1, F1, g1, (show PostG X.K W F1 σ (ev qb s1) (RepV X.K) Q from h1).mono fun _ _ q _ => q⟩
theorem b_ifx {qc qa qb : QE} {c a b : Expr} {pos : Pos} (hc : PB X W qc c) (ha : PX X W qa a) (hb : PX X W qb b) (he : ∀ whole, isTrue (.IfExp c a b pos) X.env whole = (do let v ← whole; standAt (Expr.IfExp c a b pos).pos; holding [v] (truthy v)) := by intro _; rfl) : PB X W (.ifx qc qa qb) (.IfExp c a b pos) :=
  b_val (x_ifx hc ha hb) he
/-! ### subscripts -/
theorem rpAll_atI {K : PySem.W.Frag} {F : Hp} {vs : List V} {ds : List D} (h : RpAll K F vs ds) {i : Int} {d : D} (e : atI ds i = some d) : ∃ v, atI vs i = some v ∧ Rp K F v d := by
  unfold atI at e ⊢
  rw [dpAll_len h]
  cases q : ixN ds.length i with
  | none => rw [q] at e; cases e
  | some j =>
    rw [q] at e
    exact dpAll_get h e
theorem ix_any : IxR X (r2 X.K ixD) := by
  intro a b pins s σ H x y v u Q I rx ry h
  obtain ⟨F, d1, d2, d, z, l, h1, h2, e, w⟩ := h
  unfold ixD at e
  split at e
  · rename_i xs i
    obtain ⟨p, vs, rfl, ha, ra⟩ := rep_lst h1
    cases rep_int h2
    obtain ⟨v', e1, r1⟩ := rpAll_atI ra e
    exact ix_list a b pins s σ H _ _ v u Q I rx ry ⟨p, vs, i, v', rfl, rfl, .inl (l.rd ha), e1, w.here l (.dp r1)⟩
  · rename_i xs i
    obtain ⟨p, vs, rfl, ha, ra⟩ := rep_tup h1
    cases rep_int h2
    obtain ⟨v', e1, r1⟩ := rpAll_atI ra e
    exact ix_tup a b pins s σ H _ _ v u Q I rx ry ⟨p, vs, i, v', rfl, rfl, l.sqT ha, e1, w.here l (.dp r1)⟩
  · cases e
theorem x_ix {qa qb : QE} {a b : Expr} {pos : Pos} (ha : PX X W qa a) (hb : PX X W qb b) (hs : PlainIx b := by intro _ _; with_unfolding_all rfl) : PX X W (.ix qa qb) (.Subscript a b pos) :=
  PE.szw (pe_ix ix_any ha hb hs) fun σ H Q z h z => by
    obtain ⟨s, F, g, h⟩ := h z
    have h' : PostG X.K W F σ ((ev qa s).bind fun x s => (ev qb s).bind fun y s => ofO (ixD x y) s) (RepV X.K) Q := h
    exact ⟨s, F, g, h'.bind.mono fun x H1 m => two_op m⟩
/-- a slice's part -/
abbrev rO : Hp → Option Int → Option Int → Prop := fun _ b d => b = d
abbrev PXO (X : Cx) (W : Wc) (q : QO) (e : Option Expr) : Prop := PO X e (tG X.K W rO (evo q))
theorem PO.szw {e : Option Expr} {t t' : TO} (h : PO X e t) (k : ∀ σ H Q, Sz H → t' σ H Q → t σ H (fun v H' => Sz H' → Q v H')) : PO X e t' :=
  ⟨fun pins s σ H Q I q => wpAny_mono (h.run pins s σ H _ I (k σ H Q (Sz.of I.hok) q)) (fun u s' ⟨v, H', I', r, q'⟩ => ⟨v, H', I', r, q' (Sz.of I'.hok)⟩) fun _ _ z => z⟩
theorem xo_none : PXO X W .none none := PO.szw po_none fun σ H Q z h z' => by
  obtain ⟨s, F, g, h⟩ := h z
  exact PostG.here h z' g rfl
theorem xo_some {q : QE} {e : Expr} (h : PX X W q e) : PXO X W (.some q) (some e) := PO.szw (po_some h) fun σ H Q z h z => by
  obtain ⟨s, F, g, h⟩ := h z
  have h' : PostG X.K W F σ ((ev q s).bind fun x s => match x with | .int i => .ok (some i) s | _ => .bad) rO Q := h
  refine ⟨s, F, g, h'.bind.mono fun x H1 m => ?_⟩
  obtain ⟨d, s1, F1, z1, l1, g1, r1, h1⟩ := m
  try dsimp only at h1
  cases d with
  | int i => cases rep_int r1; exact ⟨i, rfl, fun z' => PostG.here h1 z' g1 rfl⟩
  | _ => exact False.elim h1
def rSl (K : PySem.W.Frag) : V → Option Int → Option Int → Hp → VK → Prop := fun x lo hi H Q => ∃ F d1 d, Le F H ∧ RepV K F x d1 ∧ cutD d1 lo hi = some d ∧ Wd K F H d Q
theorem dpAll_cut {K : PySem.W.Frag} {F : Hp} {vs : List V} {ds : List D} (h : RpAll K F vs ds) (lo hi : Option Int) : RpAll K F (cutV vs lo hi) (cutL ds lo hi) := by
  unfold cutV cutL
  rw [dpAll_len h]
  exact dpAll_take _ (dpAll_drop _ h)
/-- a tuple's part -/
theorem slT_new {pins : List (Addr × Obj)} {σ : St} {H : Hp} {s : Shared} (I : Inv X pins σ H s) {a sl : Addr} {xs : List V} {lo hi : Option Int} {vl vu : Value} (hx : SqT X.K H a xs) (hs : s.heap.IsSliceOf sl vl vu .none) (pl : IsPart vl lo) (pu : IsPart vu hi) {Q : VK}
    (q1 : HT.sIx xs.length 0 lo = 0 ∧ HT.sIx xs.length xs.length hi = xs.length → Q (.ref a) H) (q2 : ∀ p o, H p = none → o.dict = none → Q (.ref p) (upd H p (.frz o (.tup (cutV xs lo hi))))) : wpAny (model X.prog X.w) X.A (getItem (.ref a) (.ref sl)) (EP X pins σ Q) X.xe s := by
  obtain ⟨its, r, ht, hz⟩ := I.tuple hx
  have hlen : its.toArray.size = xs.length := by rw [List.size_toArray]; exact r.length.symm
  by_cases hw : HT.sIx xs.length 0 lo = 0 ∧ HT.sIx xs.length xs.length hi = xs.length
  · exact getItem_tuple_whole ht hs pl pu (by rw [hlen]; exact hw) ⟨.ref a, H, I, rfl, q1 hw⟩
  · refine HT.getItem_tuple_cut ht hs pl pu (by rw [hlen]; exact hw) ?_ (by rw [hlen]; exact hz)
    rw [hlen]
    exact ⟨.ref s.heap.objs.size, _, layT I ((r.drop (HT.sIx xs.length 0 lo)).take (HT.sIx xs.length xs.length hi - HT.sIx xs.length 0 lo)) (Nat.le_trans (cutV_length xs lo hi) hz), rfl, q2 _ _ (freshT I) rfl⟩
theorem sl_any : SlR X (rSl X.K) := by
  intro pins s σ H x v vl vu lo hi sl Q I rx hs pl pu h
  obtain ⟨F, d1, d, l, h1, e, w⟩ := h
  unfold cutD at e
  split at e
  · cases e
    obtain ⟨p, vs, rfl, ha, ra⟩ := rep_lst h1
    exact sl_list pins s σ H _ v vl vu lo hi sl Q I rx hs pl pu ⟨p, vs, rfl, .inl (l.rd ha), fun p hp => w.newL l (dpAll_cut ra lo hi) hp⟩
  · cases e
    obtain ⟨p, vs, rfl, ha, ra⟩ := rep_tup h1
    cases rx
    refine ⟨"tuple", _, PyProof.Rows.slot_tuple_getitem.lookup, ?_, slT_new I (l.sqT ha) hs pl pu (fun q => ?_) fun p o hp ho => w.newT l (dpAll_cut ra lo hi) hp ho⟩
    · obtain ⟨_, _, ht, _⟩ := I.tuple (l.sqT ha)
      exact ht.typeIs
    refine w.here l (.dp (.tup ha ?_))
    have e2 : cutV vs lo hi = vs := by
      unfold cutV
      rw [q.1, q.2]
      simp
    have := dpAll_cut ra lo hi
    rw [e2] at this
    exact this
  · cases e
theorem x_slc {qa : QE} {ql qh : QO} {a : Expr} {lo hi : Option Expr} {p2 pos : Pos} (ha : PX X W qa a) (hl : PXO X W ql lo) (hh : PXO X W qh hi) : PX X W (.slc qa ql qh) (.Subscript a (.Slice lo hi none p2) pos) :=
  PE.szw (pe_slice sl_any ha hl hh) fun σ H Q z h z => by
    obtain ⟨s, F, g, h⟩ := h z
    have h' : PostG X.K W F σ ((ev qa s).bind fun x s => (evo ql s).bind fun l s => (evo qh s).bind fun h s => ofO (cutD x l h) s) (RepV X.K) Q := h
    refine ⟨s, F, g, h'.bind.mono fun x H1 m => ?_⟩
    obtain ⟨d, s1, F1, z1, l1, g1, r1, h1⟩ := m
    try dsimp only at h1
    refine fun _ => ⟨s1, F1, g1, (PostG.bind (R := rO) h1).mono fun y H2 m2 => ?_⟩
    obtain ⟨b, s2, F2, z2, l2, g2, rfl, h2⟩ := m2
    try dsimp only at h2
    refine fun _ => ⟨s2, F2, g2, (PostG.bind (R := rO) h2).mono fun y3 H3 m3 => ?_⟩
    obtain ⟨b3, s3, F3, z3, l3, g3, rfl, h3⟩ := m3
    try dsimp only at h3
    cases e : cutD d y y3 with
    | none => rw [e] at h3; exact False.elim h3
    | some d' =>
      rw [e] at h3
      exact ⟨F3, d, d', g3.fh, (r1.mono l2).mono l3, e, fun F' H' v t r z4 => h3 F' H' v z4 t.ff (g3.stepK t) r⟩
end
end L2.BH
set_option maxHeartbeats 1000000
/-! Dicts whose keys are ints, or tuples of ints. -/
namespace L2.BH
open PySem PySem.Spec PyProof.Rows
theorem eqvI (i j : Int) : PyData.eqv (.int i) (.int j) = decide (i = j) := by
  simp only [PyData.eqv]
  by_cases h : i = j <;> simp [h]
theorem eqvIs : ∀ (a b : List Int), PyData.eqvAll (a.map .int) (b.map .int) = decide (a = b)
  | [], [] => by simp [PyData.eqvAll]
  | [], _ :: _ => by simp [PyData.eqvAll]
  | _ :: _, [] => by simp [PyData.eqvAll]
  | x :: a, y :: b => by
    simp only [List.map_cons, PyData.eqvAll, PyData.eqv, eqvIs a b]
    by_cases h : x = y <;> simp [h]
theorem eqvT (a b : List Int) : PyData.eqv (.tuple (a.map .int)) (.tuple (b.map .int)) = decide (a = b) := by
  simp only [PyData.eqv]
  exact eqvIs a b
theorem getKV_nil (k : D) : getKV [] k = none := rfl
theorem getKV_cons (q : D × D) (ks : List (D × D)) (k : D) : getKV (q :: ks) k = if PyData.eqv q.1 k then some q.2 else getKV ks k := by
  unfold getKV
  rw [List.find?_cons]
  cases PyData.eqv q.1 k <;> rfl
theorem isT_ints {ds : List D} (h : isT (.tuple ds) = true) : ∃ ns : List Int, ds = ns.map .int := by
  have h' : ds.all isI = true := h
  clear h
  induction ds with
  | nil => exact ⟨[], rfl⟩
  | cons d ds ih =>
    rw [List.all_cons, Bool.and_eq_true] at h'
    obtain ⟨ns, rfl⟩ := ih h'.2
    cases d with
    | int i => exact ⟨i :: ns, rfl⟩
    | _ => cases h'.1
section
variable {K : PySem.W.Frag} {F F' : Hp} {P : Program} {w : World}
abbrev Vr (K : PySem.W.Frag) (F : Hp) (u : Value) (d : D) : Prop := ∃ v, RelV v u ∧ Rp K F v d
def IvR (K : PySem.W.Frag) (F : Hp) : List (Int × Value) → List (D × D) → Prop := Paired fun p q => q.1 = .int p.1 ∧ Vr K F p.2 q.2
def TvR (K : PySem.W.Frag) (F : Hp) : List (List Int × Addr × Value) → List (D × D) → Prop := Paired fun p q => q.1 = .tuple (p.1.map .int) ∧ SqT K F p.2.1 (p.1.map V.int) ∧ Vr K F p.2.2 q.2
theorem iv_find : ∀ {vs : List (Int × Value)} {ks : List (D × D)}, IvR K F vs ks → ∀ i : Int, (getKV ks (.int i) = none ∧ valueAt vs i = none) ∨ ∃ d u, getKV ks (.int i) = some d ∧ valueAt vs i = some u ∧ Vr K F u d
  | _, _, .nil, i => .inl ⟨rfl, rfl⟩
  | _, _, .cons (a := p) (b := q) (l₁ := vs) (l₂ := ks) h t, i => by
    obtain ⟨h1, h2⟩ := h
    rw [getKV_cons, h1, eqvI]
    unfold valueAt
    rw [List.find?_cons]
    by_cases e : p.1 = i
    · rw [decide_eq_true e]
      exact .inr ⟨q.2, p.2, rfl, rfl, h2⟩
    · rw [decide_eq_false e]
      exact iv_find t i
theorem tv_find : ∀ {xs : List (List Int × Addr × Value)} {ks : List (D × D)}, TvR K F xs ks → ∀ ns : List Int, (getKV ks (.tuple (ns.map .int)) = none ∧ atKey xs ns = none) ∨ ∃ d b u, getKV ks (.tuple (ns.map .int)) = some d ∧ atKey xs ns = some (b, u) ∧ Vr K F u d
  | _, _, .nil, ns => .inl ⟨rfl, rfl⟩
  | _, _, .cons (a := p) (b := q) (l₁ := xs) (l₂ := ks) h t, ns => by
    obtain ⟨h1, _, h2⟩ := h
    rw [getKV_cons, h1, eqvT]
    unfold atKey
    rw [List.find?_cons]
    by_cases e : p.1 = ns
    · rw [decide_eq_true e]
      exact .inr ⟨q.2, p.2.1, p.2.2, rfl, rfl, h2⟩
    · rw [decide_eq_false e]
      exact tv_find t ns
theorem int_fwd : ∀ {es0 : List DictEntry} {ks : List (D × D)}, EntR K F es0 ks → (ks.all fun q => isI q.1) = true → ∃ vs : List (Int × Value), IvR K F vs ks ∧ Pairs (intKind P w) es0 vs ∧ ∀ e ∈ es0, ∃ k, (intKind P w).is k e.key = true ∧ e.hash = (intKind P w).hash k
  | _, _, .nil, _ => ⟨[], .nil, .nil, fun _ h => by cases h⟩
  | _, _, .cons (a := e) (b := q) h t, hk => by
    rw [List.all_cons, Bool.and_eq_true] at hk
    obtain ⟨vs, r, p, a⟩ := int_fwd t hk.2
    obtain ⟨h1, h2⟩ := h
    obtain ⟨q1, q2⟩ := q
    have h1' : EntK K F e q1 := h1
    cases h1' with
    | @int i t u =>
      exact ⟨(i, u) :: vs, .cons ⟨rfl, h2⟩ r, .cons (by show Value.isInt i (.int i t) = true; simp [Value.isInt]) rfl p, fun e he => by
        rcases List.mem_cons.mp he with rfl | he
        · exact ⟨i, by show Value.isInt i (.int i t) = true; simp [Value.isInt], rfl⟩
        · exact a e he⟩
    | tup _ => exact absurd hk.1 (by simp [isI])
theorem tup_fwd : ∀ {es0 : List DictEntry} {ks : List (D × D)}, EntR K F es0 ks → (ks.all fun q => isT q.1) = true → ∃ xs : List (List Int × Addr × Value), TvR K F xs ks ∧ es0 = xs.map (entryOfKey (tupleKind (intKind P w)))
  | _, _, .nil, _ => ⟨[], .nil, rfl⟩
  | _, _, .cons (a := e) (b := q) h t, hk => by
    rw [List.all_cons, Bool.and_eq_true] at hk
    obtain ⟨xs, r, p⟩ := tup_fwd t hk.2
    obtain ⟨h1, h2⟩ := h
    obtain ⟨q1, q2⟩ := q
    have h1' : EntK K F e q1 := h1
    cases h1' with
    | int => exact absurd hk.1 (by simp [isT])
    | @tup ns b u hs =>
      refine ⟨(ns, b, u) :: xs, .cons ⟨rfl, hs, h2⟩ r, ?_⟩
      rw [p]; rfl
theorem iv_keys : ∀ {vs : List (Int × Value)} {ks : List (D × D)}, IvR K F vs ks → ks.map (·.1) = (vs.map (·.1)).map PyData.int
  | _, _, .nil => rfl
  | _, _, .cons h t => by
    rw [List.map_cons, List.map_cons, List.map_cons, h.1, iv_keys t]
theorem tv_keys : ∀ {xs : List (List Int × Addr × Value)} {ks : List (D × D)}, TvR K F xs ks → ks.map (·.1) = (xs.map (·.1)).map fun ns => PyData.tuple (ns.map .int)
  | _, _, .nil => rfl
  | _, _, .cons h t => by
    rw [List.map_cons, List.map_cons, List.map_cons, h.1, tv_keys t]
theorem nodup_of_map {α β : Type} (f : α → β) {l : List α} (h : (l.map f).Nodup) : l.Nodup := by
  unfold List.Nodup at h ⊢
  rw [List.pairwise_map] at h
  exact h.imp fun z e => z (by rw [e])
theorem nodup_map {α β : Type} (f : α → β) (inj : ∀ a b, f a = f b → a = b) {l : List α} (h : l.Nodup) : (l.map f).Nodup := by
  unfold List.Nodup at h ⊢
  rw [List.pairwise_map]
  exact h.imp fun z e => z (inj _ _ e)
theorem dT_inj (a b : List Int) (h : PyData.tuple (a.map .int) = .tuple (b.map .int)) : a = b := by
  have h1 := eqvT a b
  rw [h] at h1
  have h2 := eqvT b b
  rw [h2] at h1
  simpa using h1.symm
theorem iv_back : ∀ {es0 : List DictEntry} {vs : List (Int × Value)} {ks : List (D × D)}, IvR K F vs ks → Pairs (intKind P w) es0 vs → (∀ e ∈ es0, ∃ k, (intKind P w).is k e.key = true ∧ e.hash = (intKind P w).hash k) → EntR K F es0 ks
  | _, _, _, .nil, .nil, _ => .nil
  | _, _, _, .cons (b := q) h t, .cons (e := e) h1 h2 h3, hk => by
    have ih := iv_back t h3 fun e he => hk e (List.mem_cons_of_mem _ he)
    refine .cons ?_ ih
    obtain ⟨g1, g2⟩ := h
    obtain ⟨k, k1, k2⟩ := hk e List.mem_cons_self
    obtain ⟨eh, ek, ev⟩ := e
    have h2' : ev = _ := h2
    subst h2'
    obtain ⟨t1, e1⟩ := Value.isInt_shape (show Value.isInt _ ek = true from h1)
    obtain ⟨t2, e2⟩ := Value.isInt_shape (show Value.isInt k ek = true from k1)
    subst e1
    injection e2 with e3 _
    have k2' : eh = hashInt k := k2
    subst k2'
    rw [← e3]
    obtain ⟨q1, q2⟩ := q
    have g1' : q1 = _ := g1
    subst g1'
    exact ⟨.int, g2⟩
theorem tv_back : ∀ {xs : List (List Int × Addr × Value)} {ks : List (D × D)}, TvR K F xs ks → EntR K F (xs.map (entryOfKey (tupleKind (intKind P w)))) ks
  | _, _, .nil => .nil
  | _, _, .cons (b := q) h t => by
    refine .cons ?_ (tv_back t)
    obtain ⟨g1, g2, g3⟩ := h
    obtain ⟨q1, q2⟩ := q
    have g1' : q1 = _ := g1
    subst g1'
    exact ⟨.tup g2, g3⟩
/-! stores -/
theorem iv_any : ∀ {vs : List (Int × Value)} {ks : List (D × D)}, IvR K F vs ks → ∀ i : Int, (ks.any fun q => PyData.eqv q.1 (.int i)) = vs.any fun kv => decide (kv.1 = i)
  | _, _, .nil, _ => rfl
  | _, _, .cons h t, i => by rw [List.any_cons, List.any_cons, iv_any t i, h.1, eqvI]
theorem iv_put {vs : List (Int × Value)} {ks : List (D × D)} (r : IvR K F vs ks) (i : Int) {u : Value} {d : D} (h : Vr K F u d) : IvR K F (stored vs i u) (putKV ks (.int i) d) := by
  unfold stored putKV
  rw [iv_any r i]
  split
  · have go : ∀ {vs : List (Int × Value)} {ks : List (D × D)}, IvR K F vs ks → IvR K F (vs.map fun kv => if kv.1 = i then (kv.1, u) else kv) (ks.map fun q => if PyData.eqv q.1 (.int i) then (q.1, d) else q) := fun {vs ks} r => by
      unfold IvR at r
      induction r with
      | nil => exact .nil
      | cons a b ih =>
        refine .cons ?_ ih
        rename_i p q _ _
        obtain ⟨a1, a2⟩ := a
        have e0 : PyData.eqv q.1 (.int i) = decide (p.1 = i) := by rw [a1, eqvI]
        dsimp only
        rw [e0]
        by_cases e : p.1 = i
        · rw [decide_eq_true e, if_pos rfl, if_pos e]; exact ⟨a1, h⟩
        · rw [decide_eq_false e, if_neg Bool.false_ne_true, if_neg e]; exact ⟨a1, a2⟩
    exact go r
  · have go : ∀ {vs : List (Int × Value)} {ks : List (D × D)}, IvR K F vs ks → IvR K F (vs ++ [(i, u)]) (ks ++ [(.int i, d)]) := fun {vs ks} r => by
      unfold IvR at r
      induction r with
      | nil => exact .cons ⟨rfl, h⟩ .nil
      | cons a b ih => exact .cons a ih
    exact go r
theorem tv_any : ∀ {xs : List (List Int × Addr × Value)} {ks : List (D × D)}, TvR K F xs ks → ∀ ns : List Int, (ks.any fun q => PyData.eqv q.1 (.tuple (ns.map .int))) = (atKey xs ns).isSome
  | _, _, .nil, _ => rfl
  | _, _, .cons (a := p) (l₁ := xs) h t, ns => by
    rw [List.any_cons, tv_any t ns, h.1, eqvT]
    unfold atKey
    rw [List.find?_cons]
    by_cases e : p.1 = ns
    · rw [decide_eq_true e]; rfl
    · rw [decide_eq_false e]; rfl
theorem tv_put {xs : List (List Int × Addr × Value)} {ks : List (D × D)} (r : TvR K F xs ks) {ns : List Int} {b : Addr} (hb : SqT K F b (ns.map V.int)) {u : Value} {d : D} (h : Vr K F u d) : TvR K F (storedH xs ns b u) (putKV ks (.tuple (ns.map .int)) d) := by
  unfold storedH putKV
  rw [tv_any r ns]
  split
  · have go : ∀ {xs : List (List Int × Addr × Value)} {ks : List (D × D)}, TvR K F xs ks → TvR K F (xs.map (putAt ns u)) (ks.map fun q => if PyData.eqv q.1 (.tuple (ns.map .int)) then (q.1, d) else q) := fun {xs ks} r => by
      unfold TvR at r
      induction r with
      | nil => exact .nil
      | cons a b ih =>
        refine .cons ?_ ih
        rename_i p q _ _
        obtain ⟨a1, a2, a3⟩ := a
        have e0 : PyData.eqv q.1 (.tuple (ns.map .int)) = decide (p.1 = ns) := by rw [a1, eqvT]
        unfold putAt
        dsimp only
        rw [e0]
        by_cases e : p.1 = ns
        · rw [decide_eq_true e, if_pos rfl, if_pos e]; exact ⟨a1, a2, h⟩
        · rw [decide_eq_false e, if_neg Bool.false_ne_true, if_neg e]; exact ⟨a1, a2, a3⟩
    exact go r
  · have go : ∀ {xs : List (List Int × Addr × Value)} {ks : List (D × D)}, TvR K F xs ks → TvR K F (xs ++ [(ns, b, u)]) (ks ++ [(.tuple (ns.map .int), d)]) := fun {xs ks} r => by
      unfold TvR at r
      induction r with
      | nil => exact .cons ⟨rfl, hb, h⟩ .nil
      | cons a b ih => exact .cons a ih
    exact go r
theorem putKV_len (ks : List (D × D)) (k v : D) : (putKV ks k v).length ≤ ks.length + 1 := by
  unfold putKV
  split
  · rw [List.length_map]; omega
  · rw [List.length_append, List.length_singleton]; omega
end
section
variable {X : Cx} {pins : List (Addr × Obj)} {σ : St} {H F : Hp} {s : Shared} {a : Addr} {ks : List (D × D)}
theorem items_ints {P : Program} {w : World} : ∀ {ns : List Int} {us : List Value}, Vals (ns.map V.int) us → ItemsAre (intKind P w) ns us
  | [], _, r => by rw [List.map_nil] at r; cases r; exact .nil
  | n :: ns, _, r => by
    rw [List.map_cons] at r
    cases r with
    | cons h t =>
      obtain ⟨t1, rfl⟩ := h
      exact .cons (by show Value.isInt n (.int n t1) = true; simp [Value.isInt]) (items_ints t)
theorem key_ints (I : Inv X pins σ H s) {b : Addr} {ns : List Int} (h : SqT X.K H b (ns.map V.int)) : (tupleKind (intKind X.prog X.w)).is s.heap ns b := by
  obtain ⟨its, r, ⟨⟨cls, dd, data, sl⟩, ho, hc, n, hd⟩, hs⟩ := I.tuple h
  exact ⟨_, its.toArray, n, ho, hc, hd, by simpa using items_ints r⟩
/-- what a key is, and how the dict reads by it -/
inductive Kd (X : Cx) (F : Hp) (s : Shared) (a : Addr) (ks : List (D × D)) (u : Value) : D → Prop
  | int {i : Int} {t : Tok} {vs : List (Int × Value)} : u = .int i t → IvR X.K F vs ks → s.heap.DictOf (intKind X.prog X.w) a vs → Kd X F s a ks u (.int i)
  | tup {ns : List Int} {b : Addr} {xs : List (List Int × Addr × Value)} : u = .ref b → SqT X.K F b (ns.map V.int) → (tupleKind (intKind X.prog X.w)).is s.heap ns b → TvR X.K F xs ks → s.heap.DictOfH (tupleKind (intKind X.prog X.w)) a xs → Kd X F s a ks u (.tuple (ns.map .int))
theorem kd_of (I : Inv X pins σ H s) (l : Le F H) (r : DicR X.K F H a ks) {k : D} (hk : kok ks k = true) {y : V} {u : Value} (ry : RelV y u) (rk : RepV X.K F y k) : Kd X F s a ks u k := by
  obtain ⟨es0, e0, er, nd, sz, hm⟩ := r
  obtain ⟨o, es, ep, h1, h2, h3, h4⟩ := dRaw_at (I.hok a _ e0)
  unfold kok at hk
  rw [Bool.or_eq_true, Bool.and_eq_true, Bool.and_eq_true] at hk
  rcases hk with ⟨k1, k2⟩ | ⟨k1, k2⟩
  · cases k with
    | int i =>
      obtain ⟨vs, r1, r2, r3⟩ := int_fwd (P := X.prog) (w := X.w) er k2
      have nd' : (vs.map (·.1)).Nodup := nodup_of_map PyData.int (by rw [← iv_keys r1]; exact nd)
      cases rep_int rk
      obtain ⟨t, rfl⟩ := ry
      refine .int rfl r1 ⟨o, es, ep, h1, h2, h3, fun e he => ?_, by rw [h4]; exact r2, nd'⟩
      exact r3 e (by rw [← h4]; exact Array.mem_toList_iff.mpr he)
    | _ => cases k1
  · cases k with
    | tuple ds =>
      obtain ⟨ns, rfl⟩ := isT_ints k1
      obtain ⟨b, vs, rfl, q1, q2⟩ := rep_tup rk
      have := dpAll_ints q2
      subst this
      obtain ⟨xs, r1, r2⟩ := tup_fwd (P := X.prog) (w := X.w) er k2
      have nd' : (xs.map (·.1)).Nodup := nodup_of_map (fun ns : List Int => PyData.tuple (ns.map .int)) (by rw [← tv_keys r1]; exact nd)
      have ry' : u = .ref b := ry
      refine .tup ry' q1.sq (key_ints I (l.sqT q1)) r1 ⟨o, es, ep, h1, h2, h3, by rw [h4]; exact r2, fun x hx => ?_, nd'⟩
      have all : ∀ {xs : List (List Int × Addr × Value)} {ks : List (D × D)}, TvR X.K F xs ks → ∀ x ∈ xs, SqT X.K F x.2.1 (x.1.map V.int) := fun {xs ks} r => by
        unfold TvR at r
        induction r with
        | nil => intro x hx; cases hx
        | cons p q ih =>
          intro x hx
          rcases List.mem_cons.mp hx with rfl | hx
          · exact p.2.1
          · exact ih x hx
      exact key_ints I (l.sqT0 (all r1 x hx))
    | _ => cases k1
theorem dic_isD (I : Inv X pins σ H s) (r : DicR X.K F H a ks) : s.TypeIs (.ref a) "dict" ∧ (∀ b, Value.ref a = .ref b → ∃ ob, s.heap.get? b = some ob ∧ ob.dict = none) ∧ (a == sysModules) = false := by
  obtain ⟨es0, e0, er, nd, sz, hm⟩ := r
  obtain ⟨o, es, ep, h1, h2, h3, h4⟩ := dRaw_at (I.hok a _ e0)
  refine ⟨⟨o, h1, h2.1⟩, fun b q => ?_, hm⟩
  cases q
  exact ⟨o, h1, h2.2.1⟩
variable {A : Around} {E : Value → Shared → Prop} {y : V} {u : Value} {k d : D}
/-- d[k] -/
theorem dic_getItem {Q : Value → Shared → Prop} (hu : A.units + 1 < cLine) (I : Inv X pins σ H s) (l : Le F H) (r : DicR X.K F H a ks) (hk : kok ks k = true) (ry : RelV y u) (rk : RepV X.K F y k) (hg : getKV ks k = some d)
    (h : ∀ v w' s', Inv X pins σ H s' → RelV v w' → Rp X.K F v d → Q w' s') : wpAny (model X.prog X.w) A (getItem (.ref a) u) Q E s := by
  cases kd_of I l r hk ry rk with
  | @int i t vs e rv dd =>
    subst e
    rcases iv_find rv i with ⟨g1, _⟩ | ⟨d', u', g1, g2, v, g3, g4⟩
    · rw [hg] at g1; cases g1
    · rw [hg] at g1; cases g1
      exact wpAny_getItem_of (knd := intKind X.prog X.w) (k := i) (by show Value.isInt i (.int i t) = true; simp [Value.isInt]) dd.mapOf g2 (h v u' _ (I.tok _) g3 g4)
  | @tup ns b xs e _ hi rv dd =>
    subst e
    rcases tv_find rv ns with ⟨g1, _⟩ | ⟨d', b', u', g1, g2, v, g3, g4⟩
    · rw [hg] at g1; cases g1
    · rw [hg] at g1; cases g1
      exact wpAny_getItem_heap (tupleKind_room_in1 hu) hi dd g2 (h v u' _ (I.tok _) g3 g4)
/-- k in d -/
theorem dic_in {Q : Value → Shared → Prop} (hu : A.units + 1 < cLine) (I : Inv X pins σ H s) (l : Le F H) (r : DicR X.K F H a ks) (hk : kok ks k = true) (ry : RelV y u) (rk : RepV X.K F y k)
    (h : ∀ s', Inv X pins σ H s' → Q (.bool (getKV ks k).isSome) s') : wpAny (model X.prog X.w) A (compareOp .In u (.ref a)) Q E s := by
  have hm := (dic_isD I r).2.2
  cases kd_of I l r hk ry rk with
  | @int i t vs e rv dd =>
    subst e
    refine wpAny_in_of (knd := intKind X.prog X.w) (k := i) (by show Value.isInt i (.int i t) = true; simp [Value.isInt]) hm dd.mapOf ?_
    have e : (valueAt vs i).isSome = (getKV ks (.int i)).isSome := by
      rcases iv_find rv i with ⟨g1, g2⟩ | ⟨d', u', g1, g2, _⟩ <;> simp [g1, g2]
    rw [e]
    exact h _ (I.tok _)
  | @tup ns b xs e _ hi rv dd =>
    subst e
    refine wpAny_in_heap (tupleKind_room_in1 hu) hi hm dd ?_
    have e : (atKey xs ns).isSome = (getKV ks (.tuple (ns.map .int))).isSome := by
      rcases tv_find rv ns with ⟨g1, g2⟩ | ⟨d', b', u', g1, g2, _⟩ <;> simp [g1, g2]
    rw [e]
    exact h _ (I.tok _)
theorem dic_notIn {Q : Value → Shared → Prop} (hu : A.units + 1 < cLine) (I : Inv X pins σ H s) (l : Le F H) (r : DicR X.K F H a ks) (hk : kok ks k = true) (ry : RelV y u) (rk : RepV X.K F y k)
    (h : ∀ s', Inv X pins σ H s' → Q (.bool (!(getKV ks k).isSome)) s') : wpAny (model X.prog X.w) A (compareOp .NotIn u (.ref a)) Q E s := by
  have hm := (dic_isD I r).2.2
  cases kd_of I l r hk ry rk with
  | @int i t vs e rv dd =>
    subst e
    refine wpAny_notIn_of (knd := intKind X.prog X.w) (k := i) (by show Value.isInt i (.int i t) = true; simp [Value.isInt]) hm dd.mapOf ?_
    have e : (valueAt vs i).isSome = (getKV ks (.int i)).isSome := by
      rcases iv_find rv i with ⟨g1, g2⟩ | ⟨d', u', g1, g2, _⟩ <;> simp [g1, g2]
    rw [e]
    exact h _ (I.tok _)
  | @tup ns b xs e _ hi rv dd =>
    subst e
    refine wpAny_notIn_heap (tupleKind_room_in1 hu) hi hm dd ?_
    have e : (atKey xs ns).isSome = (getKV ks (.tuple (ns.map .int))).isSome := by
      rcases tv_find rv ns with ⟨g1, g2⟩ | ⟨d', b', u', g1, g2, _⟩ <;> simp [g1, g2]
    rw [e]
    exact h _ (I.tok _)
/-- d.get(k) -/
theorem dic_get1 {Q : Value → Shared → Prop} (hu : A.units + 1 < cLine) (I : Inv X pins σ H s) (l : Le F H) (r : DicR X.K F H a ks) (hk : kok ks k = true) (ry : RelV y u) (rk : RepV X.K F y k)
    (h : ∀ v w' s', Inv X pins σ H s' → RelV v w' → Rp X.K F v ((getKV ks k).getD .none) → Q w' s') : wpAny (model X.prog X.w) A (call (.builtin "dict.get") [.ref a, u]) Q E s := by
  have hm := (dic_isD I r).2.2
  cases kd_of I l r hk ry rk with
  | @int i t vs e rv dd =>
    subst e
    refine call_meetsIn PySem.F.slot_dict_get dd.typeIs PySem.F.entry_dict_get (PySem.F.args_dict_get_2 _ _) (meets_dict_get (intKind X.prog X.w) a (show (intKind X.prog X.w).is i (.int i t) = true by show Value.isInt i (.int i t) = true; simp [Value.isInt]) hm) ⟨_, dd.mapOf, ?_⟩
    rcases iv_find rv i with ⟨g1, g2⟩ | ⟨d', u', g1, g2, v, g3, g4⟩
    · rw [g2]; rw [g1] at h; exact h .non _ _ (I.tok _) rfl .non
    · rw [g2]; rw [g1] at h; exact h v _ _ (I.tok _) g3 g4
  | @tup ns b xs e _ hi rv dd =>
    subst e
    refine call_meetsIn PySem.F.slot_dict_get dd.typeIs PySem.F.entry_dict_get (PySem.F.args_dict_get_2 _ _) (meetsH_dict_get (tupleKind (intKind X.prog X.w)) a b hm) ⟨tupleKind_room_in1 hu, ns, xs, hi, dd, ?_⟩
    rcases tv_find rv ns with ⟨g1, g2⟩ | ⟨d', b', u', g1, g2, v, g3, g4⟩
    · rw [g2]; rw [g1] at h; exact h .non _ _ (I.tok _) rfl .non
    · rw [g2]; rw [g1] at h; exact h v _ _ (I.tok _) g3 g4
/-- d.get(k, x) -/
theorem dic_get2 {x : V} {r' : Value} {dx : D} {Q : Value → Shared → Prop} (hu : A.units + 1 < cLine) (I : Inv X pins σ H s) (l : Le F H) (r : DicR X.K F H a ks) (hk : kok ks k = true) (ry : RelV y u) (rk : RepV X.K F y k) (rx : RelV x r') (rd : Rp X.K F x dx)
    (h : ∀ v w' s', Inv X pins σ H s' → RelV v w' → Rp X.K F v ((getKV ks k).getD dx) → Q w' s') : wpAny (model X.prog X.w) A (call (.builtin "dict.get") [.ref a, u, r']) Q E s := by
  have hm := (dic_isD I r).2.2
  cases kd_of I l r hk ry rk with
  | @int i t vs e rv dd =>
    subst e
    refine call_meetsIn PySem.F.slot_dict_get dd.typeIs PySem.F.entry_dict_get (PySem.F.args_dict_get_3 _ _ _) (meets_dict_get_default (intKind X.prog X.w) a (show (intKind X.prog X.w).is i (.int i t) = true by show Value.isInt i (.int i t) = true; simp [Value.isInt]) hm r') ⟨_, dd.mapOf, ?_⟩
    rcases iv_find rv i with ⟨g1, g2⟩ | ⟨d', u', g1, g2, v, g3, g4⟩
    · rw [g2]; rw [g1] at h; exact h x _ _ (I.tok _) rx rd
    · rw [g2]; rw [g1] at h; exact h v _ _ (I.tok _) g3 g4
  | @tup ns b xs e _ hi rv dd =>
    subst e
    refine call_meetsIn PySem.F.slot_dict_get dd.typeIs PySem.F.entry_dict_get (PySem.F.args_dict_get_3 _ _ _) (meetsH_dict_get_default (tupleKind (intKind X.prog X.w)) a b hm r') ⟨tupleKind_room_in1 hu, ns, xs, hi, dd, ?_⟩
    rcases tv_find rv ns with ⟨g1, g2⟩ | ⟨d', b', u', g1, g2, v, g3, g4⟩
    · rw [g2]; rw [g1] at h; exact h x _ _ (I.tok _) rx rd
    · rw [g2]; rw [g1] at h; exact h v _ _ (I.tok _) g3 g4
/-- d[k] = v -/
theorem dic_setItem {x : V} {r' : Value} {dx : D} {Q : Unit → Shared → Prop} (hu : A.units + 1 < cLine) (I : Inv X pins σ H s) (l : Le F H) (r : DicR X.K F H a ks) (hz : ks.length < sizeLine) (hk : kok ks k = true) (ry : RelV y u) (rk : RepV X.K F y k) (rx : RelV x r') (rd : Rp X.K F x dx)
    (h : ∀ o s', Inv X pins σ (upd H a o) s' → DicR X.K F (upd H a o) a (putKV ks k dx) → Q () s') : wpAny (model X.prog X.w) A (setItem (.ref a) u r') Q E s := by
  have hm := (dic_isD I r).2.2
  have kd := kd_of I l r hk ry rk
  obtain ⟨es0, e0, er, nd, sz, _⟩ := r
  cases kd with
  | @int i t vs e rv dd =>
    subst e
    have hl : vs.length ≤ sizeLine := by rw [Paired.length rv]; omega
    refine wpAny_setItem_pairs (knd := intKind X.prog X.w) (k := i) (hsz := hl) (by show Value.isInt i (.int i t) = true; simp [Value.isInt]) dd fun h' dd' hs => ?_
    obtain ⟨o, es, ep, h1, h2, h3, h4, h5, h6⟩ := dd'
    have rv' := iv_put rv i (u := r') (d := dx) ⟨x, rx, rd⟩
    refine h (dRaw a es.toList) _ (d_write I (by rw [e0]; exact True.intro) hs ⟨o, h1⟩ (dRaw_ok ⟨o, es, ep, h1, h2, h3, rfl⟩)) ⟨es.toList, upd_same, iv_back (P := X.prog) (w := X.w) rv' h5 (fun e he => h4 e (Array.mem_toList_iff.mp he)), ?_, ?_, hm⟩
    · rw [iv_keys rv']; exact nodup_map _ (fun a b e => by injection e) h6
    · have := putKV_len ks (.int i) dx; omega
  | @tup ns b xs e hb hi rv dd =>
    subst e
    have hl : xs.length ≤ sizeLine := by rw [Paired.length rv]; omega
    refine wpAny_setItem_heap (hsz := hl) (tupleKind_room_in1 hu) hi dd fun h' dd' hs => ?_
    obtain ⟨o, es, ep, h1, h2, h3, h4, _, h6⟩ := dd'
    have rv' := tv_put rv hb (u := r') (d := dx) ⟨x, rx, rd⟩
    refine h (dRaw a es.toList) _ (d_write I (by rw [e0]; exact True.intro) hs ⟨o, h1⟩ (dRaw_ok ⟨o, es, ep, h1, h2, h3, rfl⟩)) ⟨es.toList, upd_same, by rw [h4]; exact tv_back (P := X.prog) (w := X.w) rv', ?_, ?_, hm⟩
    · rw [tv_keys rv']; exact nodup_map _ dT_inj h6
    · have := putKV_len ks (.tuple (ns.map .int)) dx; omega
end
/-! ### dict(pairs) -/
section
variable {X : Cx} {pins : List (Addr × Obj)} {σ : St} {H F : Hp} {s : Shared}
theorem plT_seq (I : Inv X pins σ H s) {a : Addr} {xs : List V} (h : PlT X.K H a xs) : ∃ its : List Value, Vals xs its ∧ PlainSeq "tuple" s.heap a its.toArray ∧ xs.length ≤ sizeLine := by
  rcases h with ⟨o, h, hd⟩ | ⟨o, its, n, h1, h2, h3, h4, h5, h6⟩
  · obtain ⟨ho, hz, its, r, o', e1, e2, n, e3⟩ := (show _ ∧ _ ∧ _ from I.hok a _ h)
    rw [ho] at e1
    cases e1
    exact ⟨its, r, ⟨o, n, ho, e2, hd, e3⟩, hz⟩
  · refine ⟨its.toList, h6, ⟨o, n, I.kIn a o h1, h2, h3, by simpa using h4⟩, ?_⟩
    have h7 := h6.length
    have h8 : its.toList.length = its.size := Array.length_toList
    omega
/-- the pairs, one by one: their places, keys, values -/
theorem pairs_at (I : Inv X pins σ H s) (l : Le F H) : ∀ {ws : List V} {xs : List D} {ps : List (D × D)}, RpAll X.K F ws xs → BH.pairsOf xs = some ps → (ps.all fun q => isT q.1) = true →
    ∃ ts : List (Addr × List Int × Addr × Value), ws = ts.map (fun t => V.ref t.1) ∧ TvR X.K F (ts.map (·.2)) ps ∧ ∀ t ∈ ts, s.heap.IsTuple t.1 #[.ref t.2.2.1, t.2.2.2]
  | _, [], _, .nil, e, _ => by
    cases e
    exact ⟨[], rfl, .nil, fun _ h => by cases h⟩
  | _, x :: xs, ps, .cons (v := w) (vs := ws) h t, e, hk => by
    match x, h, e with
    | .tuple [k, v], h, e =>
      have e' : (BH.pairsOf xs).map ((k, v) :: ·) = some ps := e
      cases e1 : BH.pairsOf xs with
      | none => rw [e1] at e'; cases e'
      | some ps' =>
        rw [e1] at e'
        cases e'
        rw [List.all_cons, Bool.and_eq_true] at hk
        obtain ⟨ts, r1, r2, r3⟩ := pairs_at I l t e1 hk.2
        cases h with
        | @tup b vs _ hb hp =>
          cases hp with
          | cons hk1 hv1 => cases hv1 with
            | cons hv1 hn =>
              cases hn
              obtain ⟨its, rv, ht, _⟩ := I.tuple (l.sqT hb)
              obtain ⟨u1, u2, ei, q1, q2⟩ := vals2 rv
              subst ei
              match k, hk.1, hk1 with
              | .tuple ds, hk0, hk1 =>
                obtain ⟨ns, rfl⟩ := isT_ints hk0
                cases hk1 with
                | @tup kb vs2 _ hkb hkp =>
                  have := dpAll_ints hkp
                  subst this
                  cases q1
                  refine ⟨(b, ns, kb, u2) :: ts, by rw [r1]; rfl, .cons ⟨rfl, hkb.sq, _, q2, hv1⟩ r2, fun t ht' => ?_⟩
                  rcases List.mem_cons.mp ht' with rfl | h
                  · exact ht
                  · exact r3 t h
theorem tv_all {xs : List (List Int × Addr × Value)} {ks : List (D × D)} (r : TvR X.K F xs ks) : ∀ x ∈ xs, SqT X.K F x.2.1 (x.1.map V.int) := by
  unfold TvR at r
  induction r with
  | nil => intro x hx; cases hx
  | cons p q ih =>
    intro x hx
    rcases List.mem_cons.mp hx with rfl | hx
    · exact p.2.1
    · exact ih x hx
theorem tv_storeAll : ∀ {ps : List (List Int × Addr × Value)} {qs : List (D × D)}, TvR X.K F ps qs → ∀ {xs : List (List Int × Addr × Value)} {ks : List (D × D)}, TvR X.K F xs ks → TvR X.K F (storedAllH xs ps) (qs.foldl (fun a q => putKV a q.1 q.2) ks)
  | _, _, .nil, _, _, r => r
  | _, _, .cons (a := p) (b := q) h t, xs, ks, r => by
    obtain ⟨h1, h2, h3⟩ := h
    have := tv_storeAll t (tv_put r h2 h3)
    rw [← h1] at this
    exact this
theorem put_foldLen : ∀ (qs ks : List (D × D)), (qs.foldl (fun a q => putKV a q.1 q.2) ks).length ≤ ks.length + qs.length
  | [], ks => Nat.le_refl _
  | q :: qs, ks => by
    have h1 := put_foldLen qs (putKV ks q.1 q.2)
    have h2 := putKV_len ks q.1 q.2
    show (qs.foldl (fun a q => putKV a q.1 q.2) (putKV ks q.1 q.2)).length ≤ _
    rw [List.length_cons]; omega
theorem dict_new (hc : X.calm = true) (hu : X.A.units + 100 < cLine) (I : Inv X pins σ H s) (l : Le F H) {a : Addr} {ws : List V} {xs : List D} {ps : List (D × D)} (hq : SqL X.K H a ws ∨ PlT X.K H a ws) (r : RpAll X.K F ws xs) (hp : BH.pairsOf xs = some ps) (hk : (ps.all fun q => isT q.1) = true) {Q : VK}
    (q : ∀ p es0, H p = none → EntR X.K F es0 (dictOf ps) → ((dictOf ps).map (·.1)).Nodup → (dictOf ps).length ≤ sizeLine → (p == sysModules) = false → Q (.ref p) (upd H p (dRaw p es0))) : wpAny (model X.prog X.w) X.A (call (.type "dict") [.ref a]) (EP X pins σ Q) X.xe s := by
  obtain ⟨ts, e1, tv, at_⟩ := pairs_at I l r hp hk
  have hn : ts.length = ps.length := by rw [← Paired.length tv, List.length_map]
  obtain ⟨its, rv, hz, big⟩ : ∃ its : List Value, Vals ws its ∧ ws.length ≤ sizeLine ∧ (PlainSeq "list" s.heap a its.toArray ∨ PlainSeq "tuple" s.heap a its.toArray) := by
    rcases hq with hq | hq
    · obtain ⟨its, rv, ⟨o, n, ho, hc, hd, hdat⟩, hz⟩ := I.list hq
      exact ⟨its, rv, hz, .inl ⟨o, n, ho, hc, hd, hdat⟩⟩
    · obtain ⟨its, rv, h, hz⟩ := plT_seq I hq
      exact ⟨its, rv, hz, .inr h⟩
  have ei : its = ts.map fun t => Value.ref t.1 := by
    have go : ∀ {ts : List (Addr × List Int × Addr × Value)} {us : List Value}, Vals (ts.map fun t => V.ref t.1) us → us = ts.map fun t => Value.ref t.1 := fun {ts} => by
      induction ts with
      | nil => intro us r; rw [List.map_nil] at r; cases r; rfl
      | cons t ts ih =>
        intro us r
        rw [List.map_cons] at r
        cases r with
        | cons h t' => cases h; rw [List.map_cons, ← ih t']
    exact go (by rw [← e1]; exact rv)
  have hlw : ws.length = ts.length := by rw [e1, List.length_map]
  have items : PairItems s.heap its.toArray (fun j => (ts[j]?.map (·.1)).getD 0) (ts.map fun t => (Value.ref t.2.2.1, t.2.2.2)) := by
    refine ⟨by rw [List.size_toArray, ei, List.length_map, List.length_map], fun j k v hj => ?_⟩
    rw [List.getElem?_map] at hj
    cases hts : ts[j]? with
    | none => rw [hts] at hj; cases hj
    | some t =>
      rw [hts] at hj
      cases hj
      have ej : (fun j => (ts[j]?.map (·.1)).getD 0) j = t.1 := by show (ts[j]?.map (·.1)).getD 0 = _; rw [hts]; rfl
      rw [ej]
      refine ⟨by rw [ei, List.getElem?_toArray, List.getElem?_map, hts]; rfl, .inl ?_⟩
      exact at_ t (List.mem_of_getElem? hts)
  have have_ : PairsHaveH (tupleKind (intKind X.prog X.w)) (ts.map fun t => (Value.ref t.2.2.1, t.2.2.2)).length (PairRel (ts.map fun t => (Value.ref t.2.2.1, t.2.2.2))) (ts.map (·.2)) := by
    refine ⟨by rw [List.length_map, List.length_map], fun i key v hi => ?_⟩
    have hi' : (ts.map fun t => (Value.ref t.2.2.1, t.2.2.2))[i]? = some (key, v) := hi
    rw [List.getElem?_map] at hi'
    cases hts : ts[i]? with
    | none => rw [hts] at hi'; cases hi'
    | some t =>
      rw [hts] at hi'
      cases hi'
      exact ⟨t.2.1, t.2.2.1, by rw [List.getElem?_map, hts]; rfl, rfl⟩
  have stay : KeysStay (tupleKind (intKind X.prog X.w)) s.heap s.heap.objs.size [] (ts.map (·.2)) := fun h' hk' x hx => by
    obtain ⟨o, its, n, ho, hc, hd, hi⟩ := key_ints I (l.sqT0 (tv_all tv x hx))
    exact ⟨o, its, n, hk' _ o (Nat.ne_of_lt (Heap.lt_size ho)) (by simp) ho, hc, hd, hi⟩
  have hm : (s.heap.objs.size == sysModules) = false := beq_eq_false_iff_ne.mpr (Nat.ne_of_gt I.big)
  have fin : ∀ h' tk, h'.DictOfH (tupleKind (intKind X.prog X.w)) s.heap.objs.size (storedAllH [] (ts.map (·.2))) → (∀ b o, b ∉ ([] : List Addr) → s.heap.get? b = some o → h'.get? b = some o) → EP X pins σ Q (.ref s.heap.objs.size) { s with heap := h', toks := tk } := fun h' tk hd hk' => by
    obtain ⟨o, es, ep, h1, h2, h3, h4, h5, h6⟩ := hd
    have tv' := tv_storeAll tv (xs := []) (ks := []) .nil
    refine ⟨.ref s.heap.objs.size, upd H s.heap.objs.size (dRaw s.heap.objs.size es.toList), I.laid (t' := tk) (fun b o e => hk' b o (by simp) e) (Nat.le_refl _) (dRaw_ok ⟨o, es, ep, h1, h2, h3, rfl⟩), rfl, q _ _ (freshT I) ?_ ?_ ?_ hm⟩
    · rw [h4]; exact tv_back (P := X.prog) (w := X.w) tv'
    · have e : dictOf ps = ps.foldl (fun a q => putKV a q.1 q.2) [] := rfl
      rw [e, tv_keys tv']; exact nodup_map _ dT_inj h6
    · have := put_foldLen ps []
      rw [List.length_nil] at this
      show (ps.foldl (fun a q => putKV a q.1 q.2) []).length ≤ _
      omega
  have hsz : (ts.map fun t => (Value.ref t.2.2.1, t.2.2.2)).length ≤ sizeLine := by rw [List.length_map]; omega
  have hroom : (tupleKind (intKind X.prog X.w)).room X.A.in1.in1 := by
    show X.A.units + 1 + 1 < cLine
    omega
  rcases big with b | b
  · exact call_dict_pairsH (PairArg.list a its.toArray (fun j => (ts[j]?.map (·.1)).getD 0) (ts.map fun t => (Value.ref t.2.2.1, t.2.2.2))) (I.ok.hd hc) hroom ⟨b, items⟩ have_ stay hsz fin
  · exact call_dict_pairsH (PairArg.tuple a its.toArray (fun j => (ts[j]?.map (·.1)).getD 0) (ts.map fun t => (Value.ref t.2.2.1, t.2.2.2))) (I.ok.hd hc) hroom ⟨b, items⟩ have_ stay hsz fin
end
end L2.BH
set_option maxHeartbeats 1000000
/-! Built-in functions, by data. -/
namespace L2.BH
open PySem PySem.Spec PyProof.Rows
def biN : Bi → Str
  | .len => "len" | .sum => "sum" | .abs => "abs" | .int => "int" | .tuple => "tuple" | .list => "list" | .max => "max" | .min => "min" | .all => "all" | .any => "any" | .sorted => "sorted" | .dict => "dict"
def biF : Bi → Value
  | .len => .builtin "len" | .sum => .builtin "sum" | .abs => .builtin "abs" | .int => .type "int" | .tuple => .type "tuple" | .list => .type "list" | .max => .builtin "max" | .min => .builtin "min" | .all => .builtin "all" | .any => .builtin "any" | .sorted => .builtin "sorted" | .dict => .type "dict"
def rBi (K : PySem.W.Frag) (b : Bi) : List V → Hp → VK → Prop := fun vs H Q => ∃ F ds d, Sz H ∧ Le F H ∧ RepA K F vs ds ∧ biS b ds = some d ∧ Wd K F H d Q
theorem repA1 {K : PySem.W.Frag} {F : Hp} {vs : List V} {d : D} (h : RepA K F vs [d]) : ∃ v, vs = [v] ∧ RepV K F v d := by
  cases h with
  | cons a t => cases t; exact ⟨_, rfl, a⟩
theorem repA2 {K : PySem.W.Frag} {F : Hp} {vs : List V} {d e : D} (h : RepA K F vs [d, e]) : ∃ v u, vs = [v, u] ∧ RepV K F v d ∧ RepV K F u e := by
  cases h with
  | cons a t => cases t with
    | cons b t => cases t; exact ⟨_, _, rfl, a, b⟩
/-- a built-in of one value -/
def R1 (K : PySem.W.Frag) (g : D → Option D) : List V → Hp → VK → Prop := fun vs H Q => ∃ F v d1 d, vs = [v] ∧ Sz H ∧ Le F H ∧ RepV K F v d1 ∧ g d1 = some d ∧ Wd K F H d Q
theorem seq_of {K : PySem.W.Frag} {F H : Hp} (l : Le F H) {v : V} {d : D} {xs : List D} (r : RepV K F v d) (e : itemsOf d = some xs) : ∃ a vs, v = .ref a ∧ RpAll K F vs xs ∧ ((SqL K H a vs ∧ d = .list xs) ∨ (SqT K H a vs ∧ d = .tuple xs ∧ PlT K F a vs)) := by
  cases d with
  | list ys =>
    cases e
    obtain ⟨a, vs, rfl, h1, h2⟩ := rep_lst r
    exact ⟨a, vs, rfl, h2, .inl ⟨.inl (l.rd h1), rfl⟩⟩
  | tuple ys =>
    cases e
    obtain ⟨a, vs, rfl, h1, h2⟩ := rep_tup r
    exact ⟨a, vs, rfl, h2, .inr ⟨l.sqT h1, rfl, h1⟩⟩
  | _ => cases e
section
variable {X : Cx}
theorem c_len : CallR X (.builtin "len") (R1 X.K (bi1 .len)) := by
  intro pins s σ H vs us Q I r h
  obtain ⟨F, v, d1, d, rfl, z, l, r1, e, w⟩ := h
  cases d1 with
  | list xs =>
    cases e
    obtain ⟨a, ws, rfl, h1, h2⟩ := rep_lst r1
    exact call_len_seq pins s σ H _ us Q I r ⟨a, ws, rfl, .inl (.inl (l.rd h1)), by rw [dpAll_len h2]; exact w.here l (.dp (.int _))⟩
  | tuple xs =>
    cases e
    obtain ⟨a, ws, rfl, h1, h2⟩ := rep_tup r1
    exact call_len_seq pins s σ H _ us Q I r ⟨a, ws, rfl, .inr (l.sqT h1), by rw [dpAll_len h2]; exact w.here l (.dp (.int _))⟩
  | str x =>
    obtain ⟨rfl, hx⟩ := rep_str r1
    have e' : (if x.length ≤ sizeLine then some (PyData.int x.length) else none) = some d := e
    rw [if_pos hx] at e'
    cases e'
    exact call_len_str pins s σ H _ us Q I r ⟨x, rfl, hx, w.here l (.dp (.int _))⟩
  | _ => cases e
theorem vals_of_ds {K : PySem.W.Frag} {F : Hp} {vs : List V} {xs : List D} {ns : List Int} (h : RpAll K F vs xs) (e : intL xs = some ns) : vs = ns.map V.int := by
  rw [intL_eq e] at h
  exact dpAll_ints h
theorem c_sum (hc : X.calm = true) : CallR X (.builtin "sum") (R1 X.K (bi1 .sum)) := by
  intro pins s σ H vs us Q I r h
  obtain ⟨F, v, d1, d, rfl, z, l, r1, e, w⟩ := h
  have e' : (((itemsOf d1).bind intL).map fun ns => PyData.int ns.sum) = some d := e
  cases e1 : itemsOf d1 with
  | none => rw [e1] at e'; cases e'
  | some xs =>
    rw [e1] at e'
    cases e2 : intL xs with
    | none =>
      have : ((some xs).bind intL) = none := e2
      rw [this] at e'; cases e'
    | some ns =>
      have : ((some xs).bind intL) = some ns := e2
      rw [this] at e'
      cases e'
      obtain ⟨a, ws, rfl, h2, h3⟩ := seq_of l r1 e1
      have hv := vals_of_ds h2 e2
      subst hv
      rcases h3 with ⟨hl, rfl⟩ | ⟨hl, rfl, _⟩
      · exact cr_sum hc pins s σ H _ us Q I r ⟨a, ns, rfl, hl, w.here l (.dp (.int _))⟩
      · obtain ⟨its, rv, ht, _⟩ := I.tuple hl
        rw [Vals.ref1 r]
        have hi := rv.ints
        have hn : its.toArray.size = ns.length := by rw [List.size_toArray, ← rv.length, List.length_map]
        refine call_sum_walkAnyS (PySem.W.iter_tupleW (A := X.A.in1) (I.ok.hd hc) (show s.heap.IsTuple a its.toArray from ht) fun s2 e2 W st hfp hw hk => ?_)
        refine ⟨_, _, _, _, _, _, _, fun i => ns.getD i 0, rfl, W, st, hfp, fun i v hiv => ?_, fun s' t' m => ?_⟩
        · have q : its[i]? = some v := by simpa using hiv
          obtain ⟨x, hx1, hx2⟩ := (show ∃ x, (ns.map V.int)[i]? = some x ∧ RelV x v from by
            cases hq : (ns.map V.int)[i]? with
            | none =>
              have := rv.none_of hq
              rw [this] at q; cases q
            | some x =>
              obtain ⟨u, hu, ru⟩ := rv.get hq
              rw [q] at hu; cases hu
              exact ⟨x, rfl, ru⟩)
          rw [List.getElem?_map] at hx1
          cases hn2 : ns[i]? with
          | none => rw [hn2] at hx1; cases hx1
          | some k =>
            rw [hn2] at hx1
            cases hx1
            obtain ⟨t, ht⟩ := hx2
            exact ⟨t, by rw [ht]; show Value.int k t = Value.int (ns.getD i 0) t; rw [List.getD_eq_getElem?_getD, hn2]; rfl⟩
        · obtain ⟨h', tk, rfl, hk'⟩ := PySem.W.moved_old e2 rfl m
          rw [hn, preSum_getD, List.take_length]
          exact ⟨.int ns.sum, H, I.kept hk', ⟨_, rfl⟩, w.here l (.dp (.int _))⟩
theorem c_abs : CallR X (.builtin "abs") (R1 X.K (bi1 .abs)) := by
  intro pins s σ H vs us Q I r h
  obtain ⟨F, v, d1, d, rfl, z, l, r1, e, w⟩ := h
  cases d1 with
  | int i =>
    cases e
    cases rep_int r1
    exact call_abs pins s σ H _ us Q I r ⟨i, rfl, w.here l (.dp (.int _))⟩
  | _ => cases e
theorem c_int : CallR X (.type "int") (R1 X.K (bi1 .int)) := by
  intro pins s σ H vs us Q I r h
  obtain ⟨F, v, d1, d, rfl, z, l, r1, e, w⟩ := h
  cases d1 with
  | int i =>
    cases e
    cases rep_int r1
    exact call_int1 pins s σ H _ us Q I r (.inl ⟨i, rfl, w.here l (.dp (.int _))⟩)
  | _ => cases e
/-- tuple(a list) -/
theorem tupL_new {pins : List (Addr × Obj)} {σ : St} {H : Hp} {s : Shared} (I : Inv X pins σ H s) {a : Addr} {ys : List V} (hq : SqL X.K H a ys) {Q : VK} (q : ∀ p o, H p = none → o.dict = none → Q (.ref p) (upd H p (.frz o (.tup ys)))) : wpAny (model X.prog X.w) X.A (call (.type "tuple") [.ref a]) (EP X pins σ Q) X.xe s := by
  obtain ⟨its, r, pl, hz⟩ := I.list hq
  have hl := r.length
  refine call_tuple_list pl.isList (fun h' kp => ?_) (by simp only [List.size_toArray] <;> omega)
  have I1 : Inv X pins σ H { s with heap := h' } := I.kept (t' := s.toks) kp
  exact ⟨.ref h'.objs.size, _, layT I1 r hz, rfl, q _ _ (freshT I1) rfl⟩
theorem c_tuple : CallR X (.type "tuple") (R1 X.K (bi1 .tuple)) := by
  intro pins s σ H vs us Q I r h
  obtain ⟨F, v, d1, d, rfl, z, l, r1, e, w⟩ := h
  obtain ⟨xs, e1, rfl⟩ := map_some (show (itemsOf d1).map .tuple = some d from e)
  obtain ⟨a, ws, rfl, h2, h3⟩ := seq_of l r1 e1
  rcases h3 with ⟨hl, rfl⟩ | ⟨hl, rfl, hf⟩
  · rw [Vals.ref1 r]
    exact tupL_new I hl fun p o hp ho => w.newT l h2 hp ho
  · exact call_tuple_of pins s σ H _ us Q I r ⟨a, ws, rfl, .inr ⟨hl, w.here l r1⟩⟩
theorem c_list : CallR X (.type "list") (R1 X.K (bi1 .list)) := by
  intro pins s σ H vs us Q I r h
  obtain ⟨F, v, d1, d, rfl, z, l, r1, e, w⟩ := h
  obtain ⟨xs, e1, rfl⟩ := map_some (show (itemsOf d1).map .list = some d from e)
  obtain ⟨a, ws, rfl, h2, h3⟩ := seq_of l r1 e1
  refine call_list_of pins s σ H _ us Q I r ⟨a, ws, rfl, ?_, fun q hq => w.newL l h2 hq⟩
  rcases h3 with ⟨hl, _⟩ | ⟨hl, _⟩
  · exact .inl hl
  · exact .inr hl
theorem rpAll_fits {K : PySem.W.Frag} {F H : Hp} (l : Le F H) (z : Sz H) : ∀ {vs : List V} {ds : List D}, RpAll K F vs ds → ∀ x ∈ ds, x.fits63
  | _, _, .nil, x, hx => by cases hx
  | _, _, .cons a t, x, hx => by
    rcases List.mem_cons.mp hx with rfl | hx
    · exact rp_fits l z a
    · exact rpAll_fits l z t x hx
theorem c_all (hc : X.calm = true) : CallR X (.builtin "all") (R1 X.K (bi1 .all)) := by
  intro pins s σ H vs us Q I r h
  obtain ⟨F, v, d1, d, rfl, z, l, r1, e, w⟩ := h
  cases d1 with
  | list xs =>
    have e' : (if noDs xs then some (PyData.bool (xs.all tru)) else none) = some d := e
    split at e'
    · cases e'
      obtain ⟨a, ws, rfl, h1, h2⟩ := rep_lst r1
      obtain ⟨its, rv, pl, hz⟩ := I.list (show SqL X.K H a ws from .inl (l.rd h1))
      obtain ⟨as, ra⟩ := rpAll_reads I l h2 rv
      rw [Vals.ref1 r]
      refine PySem.W.all_list_data (I.ok.hd hc) pl.isList ra (rpAll_plain _ _ h2) (rpAll_fits l z h2) fun h' tk hk => ?_
      have ef : (PyData.truthy) = tru := by funext d; exact (tru_eq d).symm
      rw [ef]
      exact ⟨.bl _, H, I.kept hk, rfl, w.here l (.dp (.bl _))⟩
    · cases e'
  | _ => cases e
theorem c_any (hc : X.calm = true) : CallR X (.builtin "any") (R1 X.K (bi1 .any)) := by
  intro pins s σ H vs us Q I r h
  obtain ⟨F, v, d1, d, rfl, z, l, r1, e, w⟩ := h
  cases d1 with
  | list xs =>
    have e' : (if noDs xs then some (PyData.bool (xs.any tru)) else none) = some d := e
    split at e'
    · cases e'
      obtain ⟨a, ws, rfl, h1, h2⟩ := rep_lst r1
      obtain ⟨its, rv, pl, hz⟩ := I.list (show SqL X.K H a ws from .inl (l.rd h1))
      obtain ⟨as, ra⟩ := rpAll_reads I l h2 rv
      rw [Vals.ref1 r]
      refine PySem.W.any_list_data (I.ok.hd hc) pl.isList ra (rpAll_plain _ _ h2) (rpAll_fits l z h2) fun h' tk hk => ?_
      have ef : (PyData.truthy) = tru := by funext d; exact (tru_eq d).symm
      rw [ef]
      exact ⟨.bl _, H, I.kept hk, rfl, w.here l (.dp (.bl _))⟩
    · cases e'
  | _ => cases e
theorem alkL_of {xs : List D} (h : alkL xs = true) : PyData.depthAll xs ≤ 60 ∧ PySem.W.AlikeAll xs := by
  unfold alkL at h
  simp only [Bool.and_eq_true, decide_eq_true_eq, List.all_eq_true] at h
  obtain ⟨h1, h2, h3⟩ := h
  exact ⟨h1, h3, fun x hx e => by subst e; cases h2 _ hx⟩
theorem c_max (hc : X.calm = true) (hu : X.A.units + 100 < cLine) : CallR X (.builtin "max") (R1 X.K (bi1 .max)) := by
  intro pins s σ H vs us Q I r h
  obtain ⟨F, v, d1, d, rfl, z, l, r1, e, w⟩ := h
  cases d1 with
  | list xs =>
    cases xs with
    | nil => cases e
    | cons x xs =>
      have e' : (if alkL (x :: xs) then some (PySem.W.maxD x xs) else none) = some d := e
      split at e'
      · rename_i ha
        cases e'
        obtain ⟨hd, ha⟩ := alkL_of ha
        obtain ⟨a, ws, rfl, h1, h2⟩ := rep_lst r1
        obtain ⟨its, rv, pl, hz⟩ := I.list (show SqL X.K H a ws from .inl (l.rd h1))
        obtain ⟨as, ra⟩ := rpAll_reads I l h2 rv
        rw [Vals.ref1 r]
        refine PySem.W.max_list_data (I.ok.hd hc) pl.isList ra ha (by omega) fun i v h' tk bs e1 rd hk => ?_
        have I' : Inv X pins σ H { s with heap := h', toks := tk } := I.kept hk
        have q : its[i]? = some v := by simpa using e1
        cases hq : ws[i]? with
        | none => have := rv.none_of hq; rw [this] at q; cases q
        | some vv =>
          obtain ⟨u, hu1, ru⟩ := rv.get hq
          rw [q] at hu1; cases hu1
          obtain ⟨dd, hd1, rd1⟩ := dpAll_getV h2 hq
          obtain ⟨bs', rr⟩ := rp_reads I' l rd1 ru
          have : dd = PySem.W.maxD x xs := (PySem.Reads.unique rr _ _ rd).1
          subst this
          exact ⟨vv, H, I', ru, w.here l (.dp rd1)⟩
      · cases e'
  | _ => cases e
theorem c_min (hc : X.calm = true) (hu : X.A.units + 100 < cLine) : CallR X (.builtin "min") (R1 X.K (bi1 .min)) := by
  intro pins s σ H vs us Q I r h
  obtain ⟨F, v, d1, d, rfl, z, l, r1, e, w⟩ := h
  cases d1 with
  | list xs =>
    cases xs with
    | nil => cases e
    | cons x xs =>
      have e' : (if alkL (x :: xs) then some (PySem.W.minD x xs) else none) = some d := e
      split at e'
      · rename_i ha
        cases e'
        obtain ⟨hd, ha⟩ := alkL_of ha
        obtain ⟨a, ws, rfl, h1, h2⟩ := rep_lst r1
        obtain ⟨its, rv, pl, hz⟩ := I.list (show SqL X.K H a ws from .inl (l.rd h1))
        obtain ⟨as, ra⟩ := rpAll_reads I l h2 rv
        rw [Vals.ref1 r]
        refine PySem.W.min_list_data (I.ok.hd hc) pl.isList ra ha (by omega) fun i v h' tk bs e1 rd hk => ?_
        have I' : Inv X pins σ H { s with heap := h', toks := tk } := I.kept hk
        have q : its[i]? = some v := by simpa using e1
        cases hq : ws[i]? with
        | none => have := rv.none_of hq; rw [this] at q; cases q
        | some vv =>
          obtain ⟨u, hu1, ru⟩ := rv.get hq
          rw [q] at hu1; cases hu1
          obtain ⟨dd, hd1, rd1⟩ := dpAll_getV h2 hq
          obtain ⟨bs', rr⟩ := rp_reads I' l rd1 ru
          have : dd = PySem.W.minD x xs := (PySem.Reads.unique rr _ _ rd).1
          subst this
          exact ⟨vv, H, I', ru, w.here l (.dp rd1)⟩
      · cases e'
  | _ => cases e
theorem depth_mem : ∀ {xs : List D} {x : D}, x ∈ xs → x.depth ≤ PyData.depthAll xs
  | y :: xs, x, h => by
    rcases List.mem_cons.mp h with rfl | h
    · simp only [PyData.depthAll]; omega
    · have := depth_mem h
      simp only [PyData.depthAll]; omega
theorem each_of {K : PySem.W.Frag} {F : Hp} : ∀ {vs : List V} {us : List Value} {ds : List D}, Vals vs us → RpAll K F vs ds → PySem.W.EachIs (fun u d => ∃ v, RelV v u ∧ Rp K F v d) us ds
  | _, _, _, .nil, .nil => .nil
  | _, _, _, .cons a t, .cons b u => .cons ⟨_, a, b⟩ (each_of t u)
theorem of_each {K : PySem.W.Frag} {F : Hp} : ∀ {us : List Value} {ds : List D}, PySem.W.EachIs (fun u d => ∃ v, RelV v u ∧ Rp K F v d) us ds → ∃ vs, Vals vs us ∧ RpAll K F vs ds
  | _, _, .nil => ⟨[], .nil, .nil⟩
  | _, _, .cons ⟨v, a, b⟩ t => by
    obtain ⟨vs, h1, h2⟩ := of_each t
    exact ⟨v :: vs, .cons a h1, .cons b h2⟩
theorem c_sorted (hu : X.A.units + 100 < cLine) : CallR X (.builtin "sorted") (R1 X.K (bi1 .sorted)) := by
  intro pins s σ H vs us Q I r h
  obtain ⟨F, v, d1, d, rfl, z, l, r1, e, w⟩ := h
  cases d1 with
  | list xs =>
    have e' : (if srtOk xs then some (PyData.list (srt xs)) else none) = some d := e
    split at e'
    · rename_i hs
      cases e'
      unfold srtOk at hs
      rw [Bool.and_eq_true, Bool.or_eq_true] at hs
      obtain ⟨ha, hk⟩ := hs
      obtain ⟨hd, ha1, ha2⟩ := alkL_of ha
      obtain ⟨a, ws, rfl, h1, h2⟩ := rep_lst r1
      obtain ⟨its, rv, pl, hz⟩ := I.list (show SqL X.K H a ws from .inl (l.rd h1))
      rw [Vals.ref1 r]
      have em : xs.map (fun d : D => d) = xs := List.map_id' xs
      have ee := each_of rv h2
      refine PySem.W.sorted_data (enc := fun d : D => d) (bs := xs) pl.isList ee (ee.mono fun u d ⟨v, a, b⟩ => rp_reads I l b a) (by rw [em]; exact fun d hd d' hd' => ha1 d hd d' hd') ?_ (by rw [← dpAll_len h2]; exact hz) (fun b hb => ?_) fun out h1' h2' => ?_
      · rw [em]
        rcases hk with hk | hk
        · refine .inl fun d hd => ?_
          have := List.all_eq_true.mp hk d hd
          unfold tupNE at this
          split at this
          · exact ⟨_, _, rfl⟩
          · cases this
        · refine .inr fun d hd => ⟨fun q => ha2 d hd q, fun ys q => ?_⟩
          have := List.all_eq_true.mp hk d hd
          subst q
          cases this
      · have := depth_mem hb
        show X.A.units + 2 + b.depth < cLine
        omega
      · obtain ⟨ep, he'⟩ := PyProof.Rows.sortedAll_at s.heap its out.toArray
        obtain ⟨ws', rv', ra'⟩ := of_each h2'
        have hlen : ws'.length ≤ sizeLine := by rw [rv'.length, h1', ← dpAll_len h2]; exact hz
        exact ⟨.ref _, upd H (s.heap.objs.size + 1) (.lst ws'), I.laid (t' := s.toks) (fun _ _ => PyProof.Rows.sortedAll_old) (Nat.le_succ _) ⟨hlen, out, ep, rv', by simpa using he'⟩, rfl, w.newL l ra' (I.hok.fresh (Nat.le_succ _))⟩
    · cases e'
  | _ => cases e
theorem c_dict (hc : X.calm = true) (hu : X.A.units + 100 < cLine) : CallR X (.type "dict") (R1 X.K (bi1 .dict)) := by
  intro pins s σ H vs us Q I r h
  obtain ⟨F, v, d1, d, rfl, z, l, r1, e, w⟩ := h
  have e' : ((itemsOf d1).bind fun xs => (BH.pairsOf xs).bind fun ps => if (ps.all fun q => isT q.1) && (ps.all fun q => !isD q.2) then some (.dict (dictOf ps)) else none) = some d := e
  cases e1 : itemsOf d1 with
  | none => rw [e1] at e'; cases e'
  | some xs =>
    rw [e1] at e'
    have e2 : ((BH.pairsOf xs).bind fun ps => if (ps.all fun q => isT q.1) && (ps.all fun q => !isD q.2) then some (.dict (dictOf ps)) else none) = some d := e'
    cases e3 : BH.pairsOf xs with
    | none => rw [e3] at e2; cases e2
    | some ps =>
      rw [e3] at e2
      have e4 : (if (ps.all fun q => isT q.1) && (ps.all fun q => !isD q.2) then some (PyData.dict (dictOf ps)) else none) = some d := e2
      split at e4
      · rename_i hk
        rw [Bool.and_eq_true] at hk
        cases e4
        obtain ⟨a, ws, rfl, h2, h3⟩ := seq_of l r1 e1
        rw [Vals.ref1 r]
        refine dict_new hc hu I l (by rcases h3 with ⟨h, _⟩ | ⟨_, _, h⟩; exact .inl h; exact .inr (l.plT h)) h2 e3 hk.1 fun p es0 hp er nd hl hm => ?_
        have t : Stp none F H (upd F p (dRaw p es0)) (upd H p (dRaw p es0)) := Stp.new l hp
        exact w _ _ _ t (.dic ⟨es0, upd_same, er.mono t.ff, nd, hl, hm⟩)
      · cases e4
theorem biS_one {b : Bi} {d1 d : D} (h : biS b [d1] = some d) : bi1 b d1 = some d := by
  cases b <;> exact h
theorem cr_bi (hc : X.calm = true) (hu : X.A.units + 100 < cLine) (b : Bi) : CallR X (biF b) (rBi X.K b) := by
  intro pins s σ H vs us Q I r h
  obtain ⟨F, ds, d, z, l, ra, e, w⟩ := h
  have one : ∀ d1, ds = [d1] → R1 X.K (bi1 b) vs H Q := fun d1 q => by
    subst q
    obtain ⟨v, rfl, rv⟩ := repA1 ra
    exact ⟨F, v, d1, d, rfl, z, l, rv, biS_one e, w⟩
  have done : ∀ d1, ds = [d1] → wpAny (model X.prog X.w) X.A (call (biF b) us) (EP X pins σ Q) X.xe s := fun d1 q => by
    have o := one d1 q
    cases b
    · exact c_len pins s σ H vs us Q I r o
    · exact c_sum hc pins s σ H vs us Q I r o
    · exact c_abs pins s σ H vs us Q I r o
    · exact c_int pins s σ H vs us Q I r o
    · exact c_tuple pins s σ H vs us Q I r o
    · exact c_list pins s σ H vs us Q I r o
    · exact c_max hc hu pins s σ H vs us Q I r o
    · exact c_min hc hu pins s σ H vs us Q I r o
    · exact c_all hc pins s σ H vs us Q I r o
    · exact c_any hc pins s σ H vs us Q I r o
    · exact c_sorted hu pins s σ H vs us Q I r o
    · exact c_dict hc hu pins s σ H vs us Q I r o
  unfold biS at e
  split at e
  · exact done _ rfl
  · cases e
    obtain ⟨v, u, rfl, r1, r2⟩ := repA2 ra
    cases rep_int r1
    cases rep_int r2
    exact call_max2 hc pins s σ H _ us Q I r ⟨_, _, rfl, w.here l (.dp (.int _))⟩
  · cases e
    obtain ⟨v, u, rfl, r1, r2⟩ := repA2 ra
    cases rep_int r1
    cases rep_int r2
    exact call_min2 hc pins s σ H _ us Q I r ⟨_, _, rfl, w.here l (.dp (.int _))⟩
  · cases e
end
end L2.BH
set_option maxHeartbeats 1000000
/-! Rules: calls. -/
namespace L2.BH
open PySem PySem.Spec PyProof.Rows
section
variable {X : Cx} {W : Wc}
theorem bi_road {b : Bi} {qs : QEs} {t : TE} {e : Expr} (h : PE X e (tCB (rBi X.K b) (tXA X.K W (evs qs)))) : PX X W (.bi b qs) e :=
  PE.szw h fun σ H Q z h z => by
    obtain ⟨s, F, g, h⟩ := h z
    have h' : PostG X.K W F σ ((evs qs s).bind fun ds s => ofO (biS b ds) s) (RepV X.K) Q := h
    refine ⟨s, F, g, h'.bind.mono fun vs H1 m => ?_⟩
    obtain ⟨ds, s1, F1, z1, l1, g1, r1, h1⟩ := m
    try dsimp only at h1
    cases e : biS b ds with
    | none => rw [e] at h1; exact False.elim h1
    | some d =>
      rw [e] at h1
      exact ⟨F1, ds, d, z1, g1.fh, r1, e, fun F' H' v t r z3 => h1 F' H' v z3 t.ff (g1.stepK t) r⟩
theorem x_biB (b : Bi) {id : String} (hb : biF b = .builtin id) {qs : QEs} {e : Expr} {es : List Expr} {p pos : Pos} (hc : X.calm = true) (hu : X.A.units + 100 < cLine) (hm : X.mg (biN b) = none) (ha : PXA X W qs (e :: es)) (hv : bootBuiltins (biN b) = some (.builtin id)) (hn : biN b ≠ "__name__") (hdb : (biN b == ("__debug__" : Str)) = false)
    (hg : Gl X (biN b) := by rfl)
    (he : starEach (e :: es) X.env = (false, eval e X.env) :: starEach es X.env := by rfl) (hpl : (backTo pos (starEach es X.env)).any (·.1) = false := by rfl) : PX X W (.bi b qs) (.Call (.Name (biN b) p) (e :: es) [] pos) :=
  bi_road (t := fun _ _ _ => True) (pe_callB (by have := cr_bi hc hu b; rw [hb] at this; exact this) hg hm hv ha hn hdb he hpl)
theorem x_biT (b : Bi) {T : String} (hb : biF b = .type T) {qs : QEs} {e : Expr} {es : List Expr} {p pos : Pos} (hc : X.calm = true) (hu : X.A.units + 100 < cLine) (hm : X.mg (biN b) = none) (ha : PXA X W qs (e :: es)) (hv : bootBuiltins (biN b) = some (.type T)) (hn : biN b ≠ "__name__") (hdb : (biN b == ("__debug__" : Str)) = false)
    (hg : Gl X (biN b) := by rfl)
    (he : starEach (e :: es) X.env = (false, eval e X.env) :: starEach es X.env := by rfl) (hpl : (backTo pos (starEach es X.env)).any (·.1) = false := by rfl) : PX X W (.bi b qs) (.Call (.Name (biN b) p) (e :: es) [] pos) :=
  bi_road (t := fun _ _ _ => True) (pe_callTy (by have := cr_bi hc hu b; rw [hb] at this; exact this) hg hm hv ha hn hdb he hpl)
theorem bt (b : Bi) : (∃ id, biF b = .builtin id ∧ bootBuiltins (biN b) = some (.builtin id)) ∨ ∃ T, biF b = .type T ∧ bootBuiltins (biN b) = some (.type T) := by
  cases b
  · exact .inl ⟨_, rfl, by decide +kernel⟩
  · exact .inl ⟨_, rfl, by decide +kernel⟩
  · exact .inl ⟨_, rfl, by decide +kernel⟩
  · exact .inr ⟨_, rfl, by decide +kernel⟩
  · exact .inr ⟨_, rfl, by decide +kernel⟩
  · exact .inr ⟨_, rfl, by decide +kernel⟩
  · exact .inl ⟨_, rfl, by decide +kernel⟩
  · exact .inl ⟨_, rfl, by decide +kernel⟩
  · exact .inl ⟨_, rfl, by decide +kernel⟩
  · exact .inl ⟨_, rfl, by decide +kernel⟩
  · exact .inl ⟨_, rfl, by decide +kernel⟩
  · exact .inr ⟨_, rfl, by decide +kernel⟩
theorem biN_ok (b : Bi) : biN b ≠ "__name__" ∧ (biN b == ("__debug__" : Str)) = false := by
  cases b <;> exact ⟨by decide, by decide⟩
/-- a built-in function of values -/
theorem x_bi {b : Bi} {qs : QEs} {e : Expr} {es : List Expr} {p pos : Pos} (hc : X.calm = true) (hu : X.A.units + 100 < cLine) (hm : X.mg (biN b) = none) (ha : PXA X W qs (e :: es))
    (hg : Gl X (biN b) := by rfl)
    (he : starEach (e :: es) X.env = (false, eval e X.env) :: starEach es X.env := by rfl) (hpl : (backTo pos (starEach es X.env)).any (·.1) = false := by rfl) : PX X W (.bi b qs) (.Call (.Name (biN b) p) (e :: es) [] pos) := by
  rcases bt b with ⟨id, h1, h2⟩ | ⟨T, h1, h2⟩
  · exact x_biB b h1 hc hu hm ha h2 (biN_ok b).1 (biN_ok b).2 hg he hpl
  · exact x_biT b h1 hc hu hm ha h2 (biN_ok b).1 (biN_ok b).2 hg he hpl
/-! ### isinstance -/
def tyN : Ty → String
  | .int => "int" | .bool => "bool" | .str => "str" | .tuple => "tuple" | .list => "list"
def tyS : Ty → Str
  | .int => "int" | .bool => "bool" | .str => "str" | .tuple => "tuple" | .list => "list"
def dTy : D → String
  | .none => "NoneType" | .bool _ => "bool" | .int _ => "int" | .str _ => "str" | .list _ => "list" | .tuple _ => "tuple" | .dict _ => "dict"
theorem tyX_of {K : PySem.W.Frag} {F H : Hp} (l : Le F H) {v : V} {d : D} (h : RepV K F v d) (n : isD d = false) : TyX K H v (.type (dTy d)) := by
  cases h with
  | dic h => cases n
  | scr _ => cases n
  | prs _ _ _ => cases n
  | sdi _ _ _ => cases n
  | dp h =>
    cases h with
    | non => exact .base .non
    | bl b => exact .base (.bl b)
    | int i => exact .base (.int i)
    | str x _ => exact .base (.str x)
    | lst hs _ =>
      rcases l.rd hs with e | ⟨o, e⟩
      · exact .base (.lst e)
      · exact .base (.frz e)
    | tup hs _ =>
      rcases l.sqT hs with (e | ⟨o, e⟩) | ⟨o, its, n, e, c, _⟩
      · exact .base (.tup e)
      · exact .fTuple e
      · exact .kTuple e c
theorem kt_bool (t : Ty) : kitB "bool" (tyN t) = some (t == .bool || t == .int) := by cases t <;> decide +kernel
theorem kt_int (t : Ty) : kitB "int" (tyN t) = some (t == .int) := by cases t <;> decide +kernel
theorem kt_str (t : Ty) : kitB "str" (tyN t) = some (t == .str) := by cases t <;> decide +kernel
theorem kt_list (t : Ty) : kitB "list" (tyN t) = some (t == .list) := by cases t <;> decide +kernel
theorem kt_tuple (t : Ty) : kitB "tuple" (tyN t) = some (t == .tuple) := by cases t <;> decide +kernel
theorem kt_none (t : Ty) : kitB "NoneType" (tyN t) = some false := by cases t <;> decide +kernel
theorem isi_kit {d : D} {t : Ty} {b : Bool} (h : isi d t = some b) : kitB (dTy d) (tyN t) = some b := by
  cases d with
  | dict _ => cases h
  | none => cases h; exact kt_none t
  | bool _ => cases h; exact kt_bool t
  | int _ => cases h; exact kt_int t
  | str _ => cases h; exact kt_str t
  | list _ => cases h; exact kt_list t
  | tuple _ => cases h; exact kt_tuple t
theorem tyS_boot (t : Ty) : bootBuiltins (tyS t) = some (.type (tyN t)) ∧ tyS t ≠ "__name__" ∧ (tyS t == ("__debug__" : Str)) = false := by
  cases t <;> exact ⟨by decide +kernel, by decide, by decide⟩
theorem x_isi {q : QE} {t : Ty} {a : Expr} {p p2 pos : Pos} (ha : PX X W q a) (hm : X.mg "isinstance" = none) (hm2 : X.mg (tyS t) = none) (hg : Gl X "isinstance" := by rfl) (hg2 : Gl X (tyS t) := by rfl)
    (he : starEach [a, .Name (tyS t) p2] X.env = (false, eval a X.env) :: starEach [.Name (tyS t) p2] X.env := by rfl) (he2 : starEach [.Name (tyS t) p2] X.env = (false, eval (.Name (tyS t) p2) X.env) :: starEach [] X.env := by rfl) (hpl : (backTo pos (starEach [.Name (tyS t) p2] X.env)).any (·.1) = false := by rfl) :
    PX X W (.isi q t) (.Call (.Name "isinstance" p) [a, .Name (tyS t) p2] [] pos) := by
  have h2 : PE X (.Name (tyS t) p2) (tC (.ty (tyN t))) := pe_bltn hg2 hm2 (tyS_boot t).1 (show RelV (.ty (tyN t)) (.type (tyN t)) from rfl) (tyS_boot t).2.1 (tyS_boot t).2.2
  refine PE.szw (pe_callB call_isi hg hm PyProof.Rows.boot_isinstance (pa_cons ha (pa_cons h2 pa_nil he2) he) (by decide) (by decide) he hpl) fun σ H Q z h z => ?_
  obtain ⟨s, F, g, h⟩ := h z
  have h' : PostG X.K W F σ ((ev q s).bind fun x s => ofO ((isi x t).map .bool) s) (RepV X.K) Q := h
  refine ⟨s, F, g, h'.bind.mono fun x H1 m => ?_⟩
  obtain ⟨d, s1, F1, z1, l1, g1, r1, h1⟩ := m
  try dsimp only at h1
  cases e : isi d t with
  | none => rw [e] at h1; exact False.elim h1
  | some b =>
    rw [e] at h1
    exact ⟨x, .ty (tyN t), .type (dTy d), .type (tyN t), b, rfl, .ty _, tyX_of g1.fh r1 (by cases d <;> first | rfl | cases e), kit_ty (isi_kit e), fun z3 => PostG.here h1 z3 g1 (.dp (.bl b))⟩
/-! ### len(set(..)) of tuples of ints -/
theorem c_lenT : CallR X (.builtin "len") (fun vs H Q => ∃ a L, vs = [.ref a] ∧ H a = some (SetTO X.prog X.w a L) ∧ (∀ p ∈ L, SqT X.K H p.1 (p.2.map V.int)) ∧ ((L.map (·.2)).Nodup → Q (.int L.length) H)) := by
  intro pins s σ H vs us Q I r h
  obtain ⟨a, L, rfl, ha, hL, q⟩ := h
  rw [Vals.ref1 r]
  have R0 : SetT0 X.prog X.w s.heap a L := (I.hok a _ ha).1
  obtain ⟨es, ep, t, R⟩ := R0.full fun p hp => I.isT (hL p hp)
  obtain ⟨o, ho, hex, hd⟩ := R.ob
  have hs := R.size
  have hf := R.few
  refine call_len_set ho hex hd R.fits (by omega) ⟨.int L.length, H, I.tok _, ⟨_, by rw [hs]⟩, q R.nd⟩
theorem nubI_mem : ∀ {l : List (List Int)} {x : List Int}, x ∈ nubI l ↔ x ∈ l
  | [], x => Iff.rfl
  | y :: l, x => by
    unfold nubI
    have ih := nubI_mem (l := l) (x := x)
    have ihy := nubI_mem (l := l) (x := y)
    split
    · rename_i h
      rw [ih, List.mem_cons]
      constructor
      · exact .inr
      · rintro (rfl | q)
        · exact ihy.mp h
        · exact q
    · rw [List.mem_cons, List.mem_cons, ih]
theorem nubI_nodup : ∀ (l : List (List Int)), (nubI l).Nodup
  | [] => List.nodup_nil
  | y :: l => by
    unfold nubI
    split
    · exact nubI_nodup l
    · rename_i h
      exact List.nodup_cons.mpr ⟨h, nubI_nodup l⟩
theorem nub_len {ks L : List (Addr × List Int)} (hn : (L.map (·.2)).Nodup) (h1 : ∀ p ∈ L, p ∈ ks) (h2 : ∀ p ∈ ks, p.2 ∈ L.map (·.2)) : L.length = (nubI (ks.map (·.2))).length := by
  have a : (L.map (·.2)).length ≤ (nubI (ks.map (·.2))).length := hn.length_le_of_subset fun x hx => by
    obtain ⟨p, hp, rfl⟩ := List.mem_map.mp hx
    exact nubI_mem.mpr (List.mem_map.mpr ⟨p, h1 p hp, rfl⟩)
  have b : (nubI (ks.map (·.2))).length ≤ (L.map (·.2)).length := (nubI_nodup _).length_le_of_subset fun x hx => by
    obtain ⟨p, hp, rfl⟩ := List.mem_map.mp (nubI_mem.mp hx)
    exact h2 p hp
  rw [List.length_map] at a b
  omega
theorem tupIs_of {K : PySem.W.Frag} {F : Hp} : ∀ {vs : List V} {ds : List D} {nss : List (List Int)}, RpAll K F vs ds → tupIs ds = some nss → ∃ ks : List (Addr × List Int), vs = ks.map (fun p => V.ref p.1) ∧ nss = ks.map (·.2) ∧ ∀ p ∈ ks, SqT K F p.1 (p.2.map V.int)
  | _, _, nss, .nil, e => by
    cases e
    exact ⟨[], rfl, rfl, fun p hp => by cases hp⟩
  | v :: vs, d :: ds, nss, .cons a t, e => by
    cases d with
    | tuple xs =>
      have e' : ((intL xs).bind fun ns => (tupIs ds).map (ns :: ·)) = some nss := e
      cases q : intL xs with
      | none => rw [q] at e'; cases e'
      | some ns =>
        rw [q] at e'
        obtain ⟨r, q2, rfl⟩ := map_some (show (tupIs ds).map (ns :: ·) = some nss from e')
        obtain ⟨ks, h1, h2, h3⟩ := tupIs_of t q2
        cases a with
        | tup hs ha =>
          have := vals_of_ds ha q
          subst this
          refine ⟨(_, ns) :: ks, by rw [h1]; rfl, by rw [h2]; rfl, fun p hp => ?_⟩
          rcases List.mem_cons.mp hp with rfl | hp
          · exact hs.sq
          · exact h3 p hp
    | _ => cases e
theorem x_lenset {q : QE} {a : Expr} {p p2 pos pos2 : Pos} (hc : X.calm = true) (hu : X.A.units + 100 < cLine) (ha : PX X W q a) (hm : X.mg "len" = none) (hm2 : X.mg "set" = none) (hg : Gl X "len" := by rfl) (hg2 : Gl X "set" := by rfl)
    (he : starEach [a] X.env = (false, eval a X.env) :: starEach [] X.env := by rfl) (he2 : starEach [.Call (.Name "set" p2) [a] [] pos2] X.env = (false, eval (.Call (.Name "set" p2) [a] [] pos2) X.env) :: starEach [] X.env := by rfl) :
    PX X W (.lenset q) (.Call (.Name "len" p) [.Call (.Name "set" p2) [a] [] pos2] [] pos) := by
  refine PE.szw (pe_callB c_lenT hg hm PySem.boot_len (pa_cons (pe_callTy (cr_setOfT hc (by omega)) hg2 hm2 PyProof.Rows.boot_set (pa_cons ha pa_nil he) (by decide) (by decide) he rfl) pa_nil he2) (by decide) (by decide) he2 rfl) fun σ H Q z h z => ?_
  obtain ⟨s, F, g, h⟩ := h z
  have h' : PostG X.K W F σ ((ev q s).bind fun x s => match x with
    | .list xs => (match tupIs xs with | some nss => if decide (xs.length < 64) then .ok (.int (nubI nss).length) s else .bad | none => .bad)
    | _ => .bad) (RepV X.K) Q := h
  refine ⟨s, F, g, h'.bind.mono fun x H1 m => ?_⟩
  obtain ⟨d, s1, F1, z1, l1, g1, r1, h1⟩ := m
  try dsimp only at h1
  cases d with
  | list xs =>
    dsimp only at h1
    cases e : tupIs xs with
    | none => rw [e] at h1; exact False.elim h1
    | some nss =>
      rw [e] at h1
      dsimp only at h1
      split at h1
      · rename_i hl
        obtain ⟨b, vs, rfl, k1, k2⟩ := rep_lst r1
        obtain ⟨ks, rfl, rfl, k3⟩ := tupIs_of k2 e
        have hlen := dpAll_len k2
        rw [List.length_map] at hlen
        refine ⟨b, ks, rfl, .inl (g1.fh.rd k1), fun p hp => g1.fh.sqT0 (k3 p hp), by have := of_decide_eq_true hl; omega, fun a L hq s1' s2' => ?_⟩
        have t : Stp none F1 H1 F1 (upd H1 a (SetTO X.prog X.w a L)) := Stp.newO g1.fh hq
        refine ⟨a, L, rfl, upd_same, fun p hp => t.fh.sqT0 (k3 p (s1' p hp)), fun nd z3 => ?_⟩
        rw [nub_len nd s1' s2']
        exact PostG.here h1 z3 (g1.stepK t) (.dp (.int _))
      · exact False.elim h1
  | _ => exact False.elim h1
end
/-! ### defs -/
/-- a def's promise by its worth -/
def spP (K : PySem.W.Frag) (f : FEnt) : Sp := fun vs H Q E => vs.length = f.n ∧ ∃ F ds, Le F H ∧ RepA K F vs ds ∧ (match f.sem ds [] with
  | .ret d _ => ∀ F' H' v, Sz H' → Stp none F H F' H' → RepV K F' v d → Q v H'
  | .exc c _ => ∀ F' H' x, Stp none F H F' H' → E (.ref (He.ga K c)) x H'
  | .bad => False)
/-- .. which gives a new list -/
def spO (K : PySem.W.Frag) (f : FEnt) : Sp := fun vs H Q E => vs.length = f.n ∧ ∃ F ds, Le F H ∧ RepA K F vs ds ∧ (match f.sem ds [] with
  | .ret d _ => ∀ F' H' q, Sz H' → Stp none F H F' H' → H q = none → F' q = none → OwnAt K F' H' q d → Q (.ref q) H'
  | .exc c _ => ∀ F' H' x, Stp none F H F' H' → E (.ref (He.ga K c)) x H'
  | .bad => False)
/-- .. which is handed a draw first -/
def spD (K : PySem.W.Frag) (f : FEnt) : Sp := fun vs H Q E => vs.length = f.n + 1 ∧ ∃ a ws F ds dr xs, vs = .ref a :: ws ∧ Le F H ∧ RepA K F ws ds ∧ H a = some (.lst xs) ∧ F a = none ∧ RpAll K F xs dr ∧ (match f.sem ds dr with
  | .ret d dr' => ∀ F' H' v xs', Sz H' → Stp (some a) F H F' H' → H' a = some (.lst xs') → RpAll K F' xs' dr' → RepV K F' v d → Q v H'
  | .exc c dr' => ∀ F' H' x xs', Stp (some a) F H F' H' → H' a = some (.lst xs') → RpAll K F' xs' dr' → E (.ref (He.ga K c)) x H'
  | .bad => False)
theorem Gd.stepOwnD {K : PySem.W.Frag} {B F0 F F' H H' : Hp} {p : Option Addr} {s : Sg} {σ : St} {i : Nat} {a : Addr} {d0 d' : D} (g : Gd K B F0 p F s σ H) (e : s.cs[i]? = some (.own d0)) (ea : σ[i]? = some (some (.ref a)))
    (t : Stp (some a) F H F' H') (h1 : OwnAt K F' H' a d') : Gd K B F0 p F' (s.put i (.own d')) σ H' := by
  obtain ⟨ρ, c1, c2⟩ := g.cs
  obtain ⟨a', r1, r2, r3, r4, r5, r6⟩ := c1 i _ e
  rw [ea] at r2
  cases r2
  have ha : H a ≠ none := OwnAt.some r6
  have Bne : ∀ b, B b ≠ none → b ≠ a := fun b h q => h (by rw [q]; exact r3)
  have Hne : ∀ b, B b ≠ none → H b ≠ none := fun b h => by
    by_cases ep : p = some b
    · obtain ⟨_, xs, q, _⟩ := g.dr b ep
      rw [q]; simp
    · cases q : B b with
      | none => exact absurd q h
      | some u => rw [g.bh b u q ep]; simp
  refine ⟨g.le.trans t.ff, t.fh, fun b o q n => t.hh b o (g.bh b o q n) (fun z => Bne b (by rw [q]; simp) (Option.some.inj z).symm), fun b q n => t.no b (Hne b q) (g.bf b q n), ⟨ρ, fun j c q => ?_, c2⟩, fun b q => ?_, by show (s.cs.set i _).length ≤ _; simp only [List.length_set]; exact g.len⟩
  · rcases set_at q with ⟨rfl, rfl, hl⟩ | ⟨ne, q⟩
    · exact ⟨a, r1, ea, r3, t.no a ha r4, r5, h1⟩
    · have z := c1 j c q
      cases c with
      | no => trivial
      | val d => obtain ⟨v, e1, r⟩ := z; exact ⟨v, e1, r.mono t.ff⟩
      | drw => exact z
      | own d =>
        obtain ⟨b, e1, e2, e3, e4, e5, e6⟩ := z
        refine ⟨b, e1, e2, e3, t.no b e6.some e4, e5, e6.mono t.ff fun o h => t.hh b o h fun w => ?_⟩
        have : a = b := Option.some.inj w
        subst this
        exact ne (c2 i j a r1 e1)
  · obtain ⟨q1, xs, q2, q3⟩ := g.dr b q
    have nb : a ≠ b := fun w => r5 (by rw [w]; exact q)
    exact ⟨t.no b (by rw [q2]; simp) q1, xs, t.hh b _ q2 (fun w => nb (Option.some.inj w)), dpAll_mono t.ff _ _ q3⟩
theorem Gd.stepOwn {K : PySem.W.Frag} {B F0 F F' H H' : Hp} {p : Option Addr} {s : Sg} {σ : St} {i : Nat} {a : Addr} {dr dr' : List D} {xs' : List V} (g : Gd K B F0 p F s σ H) (e : s.cs[i]? = some (.own (.list dr))) (ea : σ[i]? = some (some (.ref a)))
    (t : Stp (some a) F H F' H') (h1 : H' a = some (.lst xs')) (h2 : RpAll K F' xs' dr') : Gd K B F0 p F' (s.put i (.own (.list dr'))) σ H' := g.stepOwnD e ea t (d' := .list dr') ⟨xs', h1, h2⟩
section
variable {X : Cx} {W : Wc} {k : Nat} {fa : Addr} {fd : FuncData} {ps : List Str} {x : Str} {p pos : Pos}
/-- f(e, ..) -/
theorem x_call {f : FEnt} {qs : QEs} {e : Expr} {es : List Expr} (F : FnOk X.prog X.w X.K X.mg X.base (CX X.prog X.w) k fa fd ps (spP X.K f)) (hk : PySem.W.keepIn X.K (.ref fa) = true) (hb : Binds X.K fd ps []) (hm : X.mg x = some (.ref fa)) (hr : Room k X.A) (tk : Takes X W.E)
    (ha : PXA X W qs (e :: es)) (hn : qs.n = f.n := by rfl) (hg : Gl X x := by rfl) (hdb : (x == ("__debug__" : Str)) = false := by decide) (he : starEach (e :: es) X.env = (false, eval e X.env) :: starEach es X.env := by rfl) (hpl : (backTo pos (starEach es X.env)).any (·.1) = false := by rfl) :
    PX X W (.call f qs) (.Call (.Name x p) (e :: es) [] pos) :=
  PE.szw (pe_callS F hr hg hm hk hb (fun σ => passAt tk σ) ha hdb he hpl) fun σ H Q z h z => by
    obtain ⟨s, F, g, h⟩ := h z
    have h' : PostG X.K W F σ ((evs qs s).bind fun ds s => callP f ds s) (RepV X.K) Q := h
    cases q : evs qs s with
    | exc c s1 => refine ⟨s, F, g, ?_⟩; rw [q] at h' ⊢; exact h'
    | bad => rw [q] at h'; exact False.elim h'
    | ok ds s1 =>
      have hl := evs_len _ _ _ _ q
      rw [q, Out.bind_ok] at h'
      refine ⟨s, F, g, ?_⟩
      rw [q]
      intro F1 H1 vs z1 l1 g1 r1
      refine ⟨by rw [r1.len, hl]; exact hn, F1, ds, g1.fh, r1, ?_⟩
      unfold callP at h'
      cases e : f.sem ds [] with
      | ret d dr => rw [e] at h'; exact fun F' H' v z' t r _ => h' F' H' v z' (l1.trans t.ff) (g1.stepK t) r
      | exc c dr => rw [e] at h'; exact fun F' H' x t => h' F' H' x (l1.trans t.ff) (g1.stepK t)
      | bad => rw [e] at h'; exact False.elim h'
/-- f(draw, e, ..) -/
theorem x_calld {f : FEnt} {i : Nat} {nm : Str} {np : Pos} {qs : QEs} {es : List Expr} (F : FnOk X.prog X.w X.K X.mg X.base (CX X.prog X.w) k fa fd ps (spD X.K f)) (hk : PySem.W.keepIn X.K (.ref fa) = true) (hb : Binds X.K fd ps []) (hm : X.mg x = some (.ref fa)) (hr : Room k X.A) (tk : Takes X W.E)
    (ha : PXA X W qs es) (hn : qs.n = f.n := by rfl) (hN : X.N[i]? = some nm := by rfl) (hv : Vis X.env.scope nm := by first | exact Or.inl rfl | exact Or.inr (Or.inl rfl) | exact Or.inr (Or.inr rfl)) (hg : Gl X x := by rfl) (hdb : (x == ("__debug__" : Str)) = false := by decide)
    (hd : (nm == ("__debug__" : Str)) = false := by decide) (hcd : (nm == ("__classdict__" : Str)) = false := by decide)
    (he : starEach (.Name nm np :: es) X.env = (false, eval (.Name nm np) X.env) :: starEach es X.env := by rfl) (hpl : (backTo pos (starEach es X.env)).any (·.1) = false := by rfl) :
    PX X W (.calld f i qs) (.Call (.Name x p) (.Name nm np :: es) [] pos) :=
  PE.szw (pe_callS F hr hg hm hk hb (fun σ => passAt tk σ) (pa_cons (pe_var hN hv hd hcd) ha he) hdb he hpl) fun σ H Q z h => by
    obtain ⟨s, F, g, h⟩ := h z
    have h' : PostG X.K W F σ (match s.cs[i]? with
      | some .drw => (evs qs s).bind fun ds s => (match s.cs[i]? with | some .drw => callD f ds s | _ => .bad)
      | some (.own _) => (evs qs s).bind fun ds s => (match s.cs[i]? with | some (.own (.list dr)) => callO f i ds dr s | _ => .bad)
      | _ => .bad) (RepV X.K) Q := h
    obtain ⟨ρ, c1, _⟩ := g.cs
    have at_ : ∃ a, σ[i]? = some (some (.ref a)) := by
      cases q : s.cs[i]? with
      | none => rw [q] at h'; exact False.elim h'
      | some c =>
        rw [q] at h'
        cases c with
        | no => exact False.elim h'
        | val d => exact False.elim h'
        | own d => obtain ⟨a, _, e, _⟩ := c1 i _ q; exact ⟨a, e⟩
        | drw => obtain ⟨a, _, e⟩ := c1 i _ q; exact ⟨a, e⟩
    obtain ⟨a, ea⟩ := at_
    refine ⟨.ref a, ea, fun z => ⟨s, F, g, ?_⟩⟩
    cases q0 : s.cs[i]? with
    | none => rw [q0] at h'; exact False.elim h'
    | some c =>
      rw [q0] at h'
      cases c with
      | no => exact False.elim h'
      | val d => exact False.elim h'
      | drw =>
        dsimp only at h'
        cases q : evs qs s with
        | exc c s1 => rw [q] at h' ; exact h'
        | bad => rw [q] at h'; exact False.elim h'
        | ok ds s1 =>
          have hl := evs_len _ _ _ _ q
          rw [q, Out.bind_ok] at h'
          intro F1 H1 vs z1 l1 g1 r1
          cases q1 : s1.cs[i]? with
          | none => rw [q1] at h'; exact False.elim h'
          | some c1' =>
            rw [q1] at h'
            cases c1' with
            | drw =>
              dsimp only at h'
              obtain ⟨ρ1, c2, _⟩ := g1.cs
              obtain ⟨b, pb, eb⟩ := c2 i _ q1
              rw [ea] at eb; cases eb
              obtain ⟨d1, xs, d2, d3⟩ := g1.dr a pb
              refine ⟨by rw [List.length_cons, r1.len, hl, hn], a, vs, F1, ds, s1.dr, xs, rfl, g1.fh, r1, d2, d1, d3, ?_⟩
              unfold callD at h'
              cases e : f.sem ds s1.dr with
              | ret d dr =>
                rw [e] at h'
                intro F' H' v xs' z' t t1 t2 r _
                refine h' F' H' v z' (l1.trans t.ff) (g1.step (by rw [pb]; exact t) fun b pb' => ?_) r
                rw [pb] at pb'; cases pb'
                exact ⟨xs', t1, t2⟩
              | exc c dr =>
                rw [e] at h'
                intro F' H' x xs' t t1 t2
                refine h' F' H' x (l1.trans t.ff) (g1.step (by rw [pb]; exact t) fun b pb' => ?_)
                rw [pb] at pb'; cases pb'
                exact ⟨xs', t1, t2⟩
              | bad => rw [e] at h'; exact False.elim h'
            | no => exact False.elim h'
            | val d => exact False.elim h'
            | own d => exact False.elim h'
      | own d0 =>
        dsimp only at h'
        cases q : evs qs s with
        | exc c s1 => rw [q] at h' ; exact h'
        | bad => rw [q] at h'; exact False.elim h'
        | ok ds s1 =>
          have hl := evs_len _ _ _ _ q
          rw [q, Out.bind_ok] at h'
          intro F1 H1 vs z1 l1 g1 r1
          cases q1 : s1.cs[i]? with
          | none => rw [q1] at h'; exact False.elim h'
          | some c1' =>
            rw [q1] at h'
            cases c1' with
            | own d =>
              cases d with
              | list dr0 =>
                dsimp only at h'
                obtain ⟨ρ1, c2, _⟩ := g1.cs
                obtain ⟨b, rb, eb, b1, b2, b3, xs, b4, b5⟩ := c2 i _ q1
                rw [ea] at eb; cases eb
                refine ⟨by rw [List.length_cons, r1.len, hl, hn], a, vs, F1, ds, dr0, xs, rfl, g1.fh, r1, b4, b2, b5, ?_⟩
                unfold callO at h'
                cases e : f.sem ds dr0 with
                | ret d dr =>
                  rw [e] at h'
                  exact fun F' H' v xs' z' t t1 t2 r _ => h' F' H' v z' (l1.trans t.ff) (g1.stepOwn q1 ea t t1 t2) r
                | exc c dr =>
                  rw [e] at h'
                  exact fun F' H' x xs' t t1 t2 => h' F' H' x (l1.trans t.ff) (g1.stepOwn q1 ea t t1 t2)
                | bad => rw [e] at h'; exact False.elim h'
              | _ => exact False.elim h'
            | no => exact False.elim h'
            | val d => exact False.elim h'
            | drw => exact False.elim h'
/-! ### reading a list that is held alone -/
theorem x_oix {i : Nat} {nm : Str} {np : Pos} {q : QE} {b : Expr} (hb : PX X W q b) (hN : X.N[i]? = some nm := by rfl) (hv : Vis X.env.scope nm := by first | exact Or.inl rfl | exact Or.inr (Or.inl rfl) | exact Or.inr (Or.inr rfl))
    (hd : (nm == ("__debug__" : Str)) = false := by decide) (hcd : (nm == ("__classdict__" : Str)) = false := by decide) (hs : PlainIx b := by intro _ _; with_unfolding_all rfl) : PX X W (.oix i q) (.Subscript (.Name nm np) b pos) :=
  PE.szw (pe_ix (ix_list (X := X)) (pe_var hN hv hd hcd) hb hs) fun σ H Q z h => by
    obtain ⟨s, F, g, h⟩ := h z
    have h' : PostG X.K W F σ (if isO s.cs[i]? then (ev q s).bind fun y s => (match s.cs[i]? with
      | some (.own d) => ofO (ixD d y) s
      | some .drw => ofO (ixD (.list s.dr) y) s
      | _ => .bad) else .bad) (RepV X.K) Q := h
    split at h'
    · rename_i ho
      obtain ⟨ρ, c1, _⟩ := g.cs
      have at_ : ∃ a, σ[i]? = some (some (.ref a)) := by
        cases q0 : s.cs[i]? with
        | none => rw [q0] at ho; cases ho
        | some c =>
          cases c with
          | no => rw [q0] at ho; cases ho
          | val d => rw [q0] at ho; cases ho
          | own d => obtain ⟨a, _, e, _⟩ := c1 i _ q0; exact ⟨a, e⟩
          | drw => obtain ⟨a, _, e⟩ := c1 i _ q0; exact ⟨a, e⟩
      obtain ⟨a, ea⟩ := at_
      refine ⟨.ref a, ea, fun z => ⟨s, F, g, h'.bind.mono fun y H1 m => ?_⟩⟩
      obtain ⟨d, s1, F1, z1, l1, g1, r1, h1⟩ := m
      try dsimp only at h1
      obtain ⟨ρ1, c2, _⟩ := g1.cs
      have fin : ∀ (xs : List D) (vs : List V), H1 a = some (.lst vs) → RpAll X.K F1 vs xs → PostG X.K W F1 σ (ofO (ixD (.list xs) d) s1) (RepV X.K) Q → rIxL X.K (.ref a) y H1 (fun v H' => Sz H' → Q v H') := fun xs vs k1 h2 h3 => by
        cases e : ixD (.list xs) d with
        | none => rw [e] at h3; exact False.elim h3
        | some r =>
          rw [e] at h3
          cases d with
          | int j =>
            cases rep_int r1
            obtain ⟨v, e1, r2⟩ := rpAll_atI h2 (show atI xs j = some r from e)
            exact ⟨a, vs, j, v, rfl, rfl, .inl (.inl k1), e1, fun z3 => PostG.here h3 z3 g1 (.dp r2)⟩
          | _ => cases e
      cases q1 : s1.cs[i]? with
      | none => rw [q1] at h1; exact False.elim h1
      | some c =>
        rw [q1] at h1
        cases c with
        | no => exact False.elim h1
        | val d => exact False.elim h1
        | own od =>
          obtain ⟨b, rb, eb, b1, b2, b3, b4⟩ := c2 i _ q1
          rw [ea] at eb; cases eb
          cases od with
          | list xs =>
            obtain ⟨vs, e1, e2⟩ := b4
            exact fin xs vs e1 e2 h1
          | dict ks => exact False.elim h1
          | _ => exact b4.elim
        | drw =>
          obtain ⟨b, pb, eb⟩ := c2 i _ q1
          rw [ea] at eb; cases eb
          obtain ⟨d1, xs, d2, d3⟩ := g1.dr a pb
          exact fin _ xs d2 d3 h1
    · exact False.elim h'
theorem x_olen {i : Nat} {nm : Str} {np p : Pos} (hm : X.mg "len" = none) (hg : Gl X "len" := by rfl) (hN : X.N[i]? = some nm := by rfl) (hv : Vis X.env.scope nm := by first | exact Or.inl rfl | exact Or.inr (Or.inl rfl) | exact Or.inr (Or.inr rfl))
    (hd : (nm == ("__debug__" : Str)) = false := by decide) (hcd : (nm == ("__classdict__" : Str)) = false := by decide) (he : starEach [.Name nm np] X.env = (false, eval (.Name nm np) X.env) :: starEach [] X.env := by rfl) : PX X W (.olen i) (.Call (.Name "len" p) [.Name nm np] [] pos) := by
  refine PE.szw (pe_callB call_len_seq hg hm PySem.boot_len (pa_cons (pe_var hN hv hd hcd) pa_nil he) (by decide) (by decide) he rfl) fun σ H Q z h => ?_
  obtain ⟨s, F, g, h⟩ := h z
  have h' : PostG X.K W F σ (match s.cs[i]? with
    | some (.own (.list xs)) => .ok (.int xs.length) s
    | some (.val (.list xs)) => .ok (.int xs.length) s
    | some (.val (.tuple xs)) => .ok (.int xs.length) s
    | _ => .bad) (RepV X.K) Q := h
  obtain ⟨ρ, c1, _⟩ := g.cs
  split at h'
  · rename_i xs q0
    obtain ⟨a, rb, ea, b1, b2, b3, b4⟩ := c1 i _ q0
    obtain ⟨vs, e1, e2⟩ := b4
    rw [← dpAll_len e2] at h'
    exact ⟨.ref a, ea, a, vs, rfl, .inl (.inl (.inl e1)), fun z3 => h'.here z3 g (.dp (.int _))⟩
  · rename_i xs q0
    obtain ⟨v, ea, r⟩ := c1 i _ q0
    obtain ⟨a, ws, rfl, h1, h2⟩ := rep_lst r
    rw [← dpAll_len h2] at h'
    exact ⟨.ref a, ea, a, ws, rfl, .inl (.inl (g.fh.rd h1)), fun z3 => h'.here z3 g (.dp (.int _))⟩
  · rename_i xs q0
    obtain ⟨v, ea, r⟩ := c1 i _ q0
    obtain ⟨a, ws, rfl, h1, h2⟩ := rep_tup r
    rw [← dpAll_len h2] at h'
    exact ⟨.ref a, ea, a, ws, rfl, .inr (g.fh.sqT h1), fun z3 => h'.here z3 g (.dp (.int _))⟩
  · exact False.elim h'
end
end L2.BH
set_option maxHeartbeats 1000000
/-! enumerate(tuple) -/
namespace PySem
open Sem (wp)
open AutoSeq1 (wpAny_loadPart')
theorem bh_enumerate_newT (l : Addr) (items : Array Value) (n : Nat) (dct : Option Addr) (sl : Array (Option Value)) :
    Meets (Builtin.«enumerate.__new__» ⟨[.type "enumerate", .ref l], []⟩) (fun _ R s => s.heap.get? l = some { cls := .type "tuple", dict := dct, data := .seq items n, slots := sl } ∧
      R (.ok (.ret (.ref (s.heap.push { cls := .type "tuple_iterator", data := .fields #[.ref l, .int 0 0] }).objs.size)))
        { s with heap := (s.heap.push { cls := .type "tuple_iterator", data := .fields #[.ref l, .int 0 0] }).push { cls := .type "enumerate", data := .fields #[.none, .bool false, .ref s.heap.objs.size, rawInt 0, .none, .none] } }) :=
  .of_wp fun prog w A R s h => by
    obtain ⟨hp, g, d, tk, os⟩ := s; obtain ⟨hl, h⟩ := h
    have hsub := sub_enumerate
    have hL : Heap.IsTuple (Shared.heap ⟨hp, g, d, tk, os⟩) l items := ⟨_, hl, rfl, n, rfl⟩
    wp_walk using wpAny_loadPart' hl
    refine wpAny_stack_any fun st => wpAny_pure ?_
    split
    · rename_i c _ _ _ _ _
      cases (c == Value.type "enumerate")
      · wp_walk using wpAny_loadPart' hl, wpAny_pyIter_tuple hL
        exact ⟨_, rfl, h⟩
      · wp_walk using wpAny_loadPart' hl, wpAny_pyIter_tuple hL
        exact ⟨_, rfl, h⟩
    · wp_walk using wpAny_loadPart' hl, wpAny_pyIter_tuple hL
      exact ⟨_, rfl, h⟩
section
variable {prog : Program} {w : World} {A : Around} {E : Value → Shared → Prop} {s : Shared}
theorem bh_call_enumerate_tuple {l : Addr} {items : Array Value} {Q : Value → Shared → Prop} (hL : s.heap.IsTuple l items)
    (h : ∀ h', IsEnum h' (s.heap.objs.size + 1) s.heap.objs.size 0 .none → h'.IsTupleIter s.heap.objs.size l 0 → h'.objs.size = s.heap.objs.size + 2 →
      (∀ b o, s.heap.get? b = some o → h'.get? b = some o) → Q (.ref (s.heap.objs.size + 1)) { s with heap := h' }) :
    wpAny (model prog w) A (call (.type "enumerate") [.ref l]) Q E s := by
  obtain ⟨⟨c, dct, dt, sl⟩, hl, hc, n, hd⟩ := hL
  replace hc : c = .type "tuple" := hc
  replace hd : dt = .seq items n := hd
  subst hc hd
  refine callType_new F.called_enumerate (by decide) (F.typeCall_enumerate_1 _) (F.newCall_enumerate_1 _) (fun obj => F.args_object_init_2 obj _) F.entry_enumerate_new
    (bh_enumerate_newT l items n dct sl) ⟨hl, ?_⟩
  have hz : (s.heap.push { cls := .type "tuple_iterator", data := .fields #[.ref l, .int 0 0] }).objs.size = s.heap.objs.size + 1 := Heap.size_push ..
  show _ ∧ _
  rw [hz]
  have he : IsEnum ((s.heap.push { cls := .type "tuple_iterator", data := .fields #[.ref l, .int 0 0] }).push
      { cls := .type "enumerate", data := .fields #[.none, .bool false, .ref s.heap.objs.size, rawInt 0, .none, .none] }) (s.heap.objs.size + 1) s.heap.objs.size 0 .none := by
    have := Heap.get?_push_size (s.heap.push { cls := .type "tuple_iterator", data := .fields #[.ref l, .int 0 0] })
      (o := { cls := .type "enumerate", data := .fields #[.none, .bool false, .ref s.heap.objs.size, rawInt 0, .none, .none] }) rfl
    rw [hz] at this; exact this
  refine ⟨⟨_, he, rfl⟩, h _ he ⟨_, Heap.get?_push_of_some _ (Heap.get?_push_size _ rfl), rfl, rfl⟩ (by rw [Heap.size_push, hz]) fun b o x => Heap.get?_push_of_some _ (Heap.get?_push_of_some _ x)⟩
theorem bh_enum_end {e it l : Addr} {i : Nat} {items : Array Value} {old : Value} {Q : Option Value → Shared → Prop} (hh : A.handled = none)
    (he : IsEnum s.heap e it i old) (hit : s.heap.IsTupleIter it l i) (hl : s.heap.IsTuple l items) (hx : items[i]? = none)
    (hQ : ∀ h', Heap.ExtBut it s.heap h' → Q none { s with heap := h' }) : wpAny (model prog w) A (pyNext (.ref e)) Q E s := by
  have hT : s.TypeIs (.ref e) "enumerate" := ⟨_, he, rfl⟩
  unfold pyNext
  refine wpAny_bind (wpAny_attempt (wpAny_callSpecial?_slot (name := Str.ofString "__next__") hT F.slot_enumerate_next
    (wpAny_call_entry F.slot_enumerate_next hT F.entry_enumerate_next ?_ (F.args_enumerate_next_1 _))))
  show wpAny _ _ (field (.ref e) 2 >>= _) _ _ _
  refine wpAny_bind (wpAny_field he rfl (x := .ref it) rfl ?_)
  refine wpAny_bind (wpAny_nextOf_tuple_end (A := A.in1) hh hit hl hx fun h' x he' hx' => ?_)
  obtain ⟨o, ho, hc⟩ := hx'
  refine wpAny_bind (wpAny_isInstance (T := "StopIteration") (b := true) ⟨o, ho, hc⟩ isSubtype_stop ?_)
  exact wpAny_pure (hQ _ he')
end
end PySem
namespace L2.BH
open PySem PySem.Spec PyProof.Rows
/-- the tuple at a, each item in a new pair -/
def IteT (K : PySem.W.Frag) (a : Addr) : It :=
  ⟨fun i H => ∃ (xs : List V) (x : V), SqT K H a xs ∧ xs[i]? = some x, fun i H v H' => ∃ T x, v = .ref T ∧ H T = none ∧ H' = upd H T (.tup [.int (i : Nat), x]) ∧ ∀ xs, SqT K H a xs → xs[i]? = some x, fun i H => ∃ xs : List V, SqT K H a xs ∧ xs.length ≤ i⟩
theorem turn_enumT {P : Program} {w : World} {K : PySem.W.Frag} {elts : List Expr} {kk : Nat} {tpos : Pos} (a e it : Addr) :
    Turn P w K (.Tuple elts kk tpos) (IteT K a) [e, it] e (fun i h => (∃ old, IsEnum h e it ((i : Nat) : Int) old) ∧ h.IsTupleIter it a i ∧ e ≠ it) where
  mem := by simp
  obj := fun i h st b hb => by
    obtain ⟨⟨old, he⟩, ⟨o, ho, hc, hd⟩, _⟩ := st
    have e' : b = e ∨ b = it := by simpa using hb
    rcases e' with z | z
    · rw [z]; exact ⟨_, he, fun v q => nomatch q⟩
    · rw [z]; exact ⟨o, ho, fun v q => by rw [hd] at q; cases q⟩
  keep := fun i h h' st k => let ⟨⟨old, he⟩, hi, hne⟩ := st; ⟨⟨old, k e (by simp) _ he⟩, hi.at fun o q => k it (by simp) o q, hne⟩
  item := by
    intro X hP hw hK hc i pins s σ H E I hf st hg
    subst hP hw hK
    obtain ⟨⟨old, he⟩, hit, hne⟩ := st
    obtain ⟨xs, x, hq, hx⟩ := hg
    obtain ⟨its, rv, p, hz⟩ := I.tuple hq
    obtain ⟨u, hu, ru⟩ := rv.get hx
    have hel : e < s.heap.objs.size := Heap.lt_size he
    have hil : it < s.heap.objs.size := by obtain ⟨_, q, _⟩ := hit; exact Heap.lt_size q
    have hai : a ≠ it := fun q => by
      subst q
      obtain ⟨o1, q1, c1, _⟩ := hit
      obtain ⟨o2, q2, c2, _⟩ := p
      rw [q1] at q2; cases q2; rw [c1] at c2; injection c2 with q; exact absurd q (by decide)
    have hae : a ≠ e := fun q => by
      subst q
      obtain ⟨o2, q2, c2, _⟩ := p
      have he' : s.heap.get? a = some _ := he
      rw [he'] at q2; cases q2; injection c2 with q; exact absurd q (by decide)
    have DD := Draws.tuple (prog := X.prog) (w := X.w) (A := X.A.in1) (I.ok.hd hc) it a hai its.toArray
    have hlt : i < its.toArray.size := by
      have : i < its.length := (List.getElem?_eq_some_iff.mp hu).1
      simpa using this
    refine wpAny_pyNext_enum_itemD DD he ⟨hit, p⟩ hlt hne (by simp; exact ⟨hne, fun q => hae q.symm⟩) fun x' h' tk hPx ho hst hT hsz hk => ?_
    have ex : x' = u := by
      have h1 : its.toArray[i]? = some x' := hPx
      have h2 : its[i]? = some x' := by simpa using h1
      rw [hu] at h2; exact (Option.some.inj h2).symm
    subst ex
    refine ⟨_, rfl, wpAny_letOwnedTupleGo_enum (s := { s with heap := h', toks := tk + 1 }) ho fun h'' he' sb => ?_⟩
    have hT2 : h''.get? s.heap.objs.size = some { cls := .type "tuple", data := .seq #[.int i tk, x'] } := (sb.2 _ (Nat.ne_of_gt hel)).trans hT
    have new : ObjOk X.prog X.w (upd H s.heap.objs.size (.tup [.int (i : Nat), x])) h'' s.heap.objs.size (.tup [.int (i : Nat), x]) :=
      ⟨by show 2 ≤ sizeLine; decide, [.int i tk, x'], .cons ⟨_, rfl⟩ (.cons ru .nil), ⟨_, hT2, rfl, _, rfl⟩⟩
    have I1 : Inv X pins σ (upd H s.heap.objs.size (.tup [.int (i : Nat), x])) { s with heap := h'', toks := tk + 1 } :=
      I.turnedNew (ch := [e, it]) (fun b ob hb q => (sb.2 b (fun z => hb (by simp [z]))).trans (hk b ob (fun z => hb (by simp [z])) (fun z => hb (by simp [z])) q)) hf (Nat.le_refl _) new
    refine ⟨.ref s.heap.objs.size, _, I1, rfl, ⟨_, x, rfl, I.hok.fresh (Nat.le_refl _), rfl, fun ys hy => by rw [I.tuple_inj hy hq]; exact hx⟩, ⟨⟨x', ?_⟩, hst.1.at fun o q => (sb.2 it (Ne.symm hne)).trans q, hne⟩, fun b hb => ?_⟩
    · have e1 : ((i + 1 : Nat) : Int) = (i : Int) + 1 := by omega
      rw [e1]; exact he'
    · have hb' : b < s.heap.objs.size := by
        have e' : b = e ∨ b = it := by simpa using hb
        rcases e' with z | z
        · rw [z]; exact hel
        · rw [z]; exact hil
      rw [upd_ne (Nat.ne_of_lt hb')]
      exact (hf b hb).1
  done := by
    intro X hP hw hK hc i pins s σ H E I hf st hg
    subst hP hw hK
    obtain ⟨⟨old, he⟩, hit, hne⟩ := st
    obtain ⟨xs, hq, hx⟩ := hg
    obtain ⟨its, rv, p, hz⟩ := I.tuple hq
    obtain ⟨f0, f1, f2, f3, f4, f5⟩ := hf it (by simp)
    have hl := rv.length
    exact bh_enum_end (I.ok.hd hc) he hit (show s.heap.IsTuple a its.toArray from p) (by simp; omega) fun h' eb => ⟨rfl, I.turned (t' := s.toks) (fun b o hb q => eb b o hb q) f0 f1 f3 f4 f5⟩
  self := fun A i s Q E st h => let ⟨⟨_, he⟩, _⟩ := st; wpAny_pyIter_enum he h
theorem walk_enumT {K : PySem.W.Frag} {a : Addr} {xs : List V} : Walk (IteT K a) xs.length (fun H => SqT K H a xs) (YPair (fun i => some (.int (i : Nat))) (fun i => xs[i]?)) := by
  refine ⟨fun i _ hi q => ⟨xs, xs[i], q, by simp [hi]⟩, fun _ q => ⟨xs, q, Nat.le_refl _⟩, fun i H v H' _ q y => ?_⟩
  obtain ⟨T, x, h1, h2, h3, h4⟩ := y
  exact ⟨T, .int (i : Nat), x, h1, h2, h3, rfl, h4 xs q⟩
theorem walk_zipT {K : PySem.W.Frag} {a b : Addr} {xs ys : List V} {n : Nat} (hn : n = min xs.length ys.length) : Walk (RZ.ItzT K a b) n (fun H => SqT K H a xs ∧ SqT K H b ys) (YPair (fun i => xs[i]?) (fun i => ys[i]?)) := by
  subst hn
  refine ⟨fun i _ hi q => ?_, fun _ q => ⟨xs, ys, q.1, q.2, by omega⟩, fun i H v H' _ q y => ?_⟩
  · have h1 : i < xs.length := by omega
    have h2 : i < ys.length := by omega
    exact ⟨xs, ys, xs[i], ys[i], q.1, q.2, by simp [h1], by simp [h2]⟩
  · obtain ⟨T, x, z, h1, h2, h3, h4, h5⟩ := y
    exact ⟨T, x, z, h1, h2, h3, h4 xs q.1, h5 ys q.2⟩
/-- enumerate of a list or a tuple -/
def iEnumA (K : PySem.W.Frag) (ta : TA) : TI := fun σ H R => ta σ H fun vs H1 => ∃ a xs, vs = [.ref a] ∧ ((SqL K H1 a xs ∧ R (Ite K a) H1) ∨ (SqT K H1 a xs ∧ R (IteT K a) H1))
theorem pi_enumA {X : Cx} {e : Expr} {ta : TA} {p pos tpos : Pos} {elts : List Expr} {kk : Nat} (hg : Gl X "enumerate") (hm : X.mg "enumerate" = none) (ha : PA X [e] ta) (hs : starEach [e] X.env = [(false, eval e X.env)] := by rfl) :
    PI X (.Tuple elts kk tpos) (.Call (.Name "enumerate" p) [e] [] pos) (iEnumA X.K ta) := by
  refine ⟨fun pins s σ H R I h => ?_⟩
  refine Call_ (ld_blt I hg hm boot_enumerate (PyProof.Rows.callWith_type1 (thn (ha.run pos pins s σ H _ I h) fun us s1 ⟨vs, H1, I1, r1, q1⟩ => ?_) hs rfl))
  obtain ⟨a, xs, ex, q⟩ := q1
  subst ex
  cases r1 with
  | cons r rr =>
    cases rr
    cases r
    have fr : ∀ b, b ∈ [s1.heap.objs.size + 1, s1.heap.objs.size] → FpOk X pins H1 b := fun b hb => by
      have e' : b = s1.heap.objs.size + 1 ∨ b = s1.heap.objs.size := by simpa using hb
      have hle : s1.heap.objs.size ≤ b := by
        rcases e' with z | z
        · rw [z]; exact Nat.le_add_right _ _
        · rw [z]; exact Nat.le_refl _
      exact I1.fpOk hle (I1.hok.fresh hle)
    rcases q with ⟨hq, q⟩ | ⟨hq, q⟩
    · obtain ⟨its, rv, p', hz⟩ := I1.list hq
      refine call_enumerate_list p'.isList fun h' he hit hsz hk => wpAny_pyIter_enum he ?_
      have I2 : Inv X pins σ H1 { s1 with heap := h' } := I1.kept (t' := s1.toks) hk
      exact ⟨s1.heap.objs.size + 1, [s1.heap.objs.size + 1, s1.heap.objs.size], _, _, H1, rfl, I2, turn_enum a (s1.heap.objs.size + 1) s1.heap.objs.size, ⟨⟨.none, he⟩, hit, Nat.succ_ne_self _⟩, fr, q⟩
    · obtain ⟨its, rv, p', hz⟩ := I1.tuple hq
      refine bh_call_enumerate_tuple (show s1.heap.IsTuple a its.toArray from p') fun h' he hit hsz hk => wpAny_pyIter_enum he ?_
      have I2 : Inv X pins σ H1 { s1 with heap := h' } := I1.kept (t' := s1.toks) hk
      exact ⟨s1.heap.objs.size + 1, [s1.heap.objs.size + 1, s1.heap.objs.size], _, _, H1, rfl, I2, turn_enumT a (s1.heap.objs.size + 1) s1.heap.objs.size, ⟨⟨.none, he⟩, hit, Nat.succ_ne_self _⟩, fr, q⟩
/-- a list or a tuple, walked -/
def iSeq (K : PySem.W.Frag) (tl : TE) : TI := fun σ H R => tl σ H fun x H1 => ∃ a xs, x = .ref a ∧ ((SqL K H1 a xs ∧ R (Itl K a) H1) ∨ (SqT K H1 a xs ∧ R (Itt K a) H1))
theorem pi_seq {X : Cx} {tg l : Expr} {tl : TE} (hl : PE X l tl) : PI X tg l (iSeq X.K tl) := by
  refine ⟨fun pins s σ H R I h => ?_⟩
  refine thn (hl.run pins s σ H _ I h) fun v s1 ⟨x, H1, I1, r1, q1⟩ => ?_
  obtain ⟨a, xs, e, q1⟩ := q1
  subst e
  cases r1
  have fr : ∀ b, b ∈ [s1.heap.objs.size] → FpOk X pins H1 b := fun b hb => by
    have e : b = s1.heap.objs.size := by simpa using hb
    subst e
    exact I1.fpOk (Nat.le_refl _) (I1.hok.fresh (Nat.le_refl _))
  rcases q1 with ⟨hq, q⟩ | ⟨hq, q⟩
  · obtain ⟨its, rv, p, hz⟩ := I1.list hq
    refine wpAny_pyIter_list p.isList ?_
    exact ⟨s1.heap.objs.size, [s1.heap.objs.size], _, _, H1, rfl, I1.kept (t' := s1.toks) fun b o e => Heap.get?_push_of_some _ e, turn_list a _, ⟨_, Heap.get?_push_size _ rfl, rfl, rfl⟩, fr, q⟩
  · obtain ⟨its, rv, p, hz⟩ := I1.tuple hq
    refine wpAny_pyIter_tuple (show s1.heap.IsTuple a its.toArray from p) ?_
    exact ⟨s1.heap.objs.size, [s1.heap.objs.size], _, _, H1, rfl, I1.kept (t' := s1.toks) fun b o e => Heap.get?_push_of_some _ e, turn_tuple a _, ⟨_, Heap.get?_push_size _ rfl, rfl, rfl⟩, fr, q⟩
end L2.BH
set_option maxHeartbeats 1000000
/-! Rules: what is walked, targets, comprehensions. -/
namespace L2.BH
open PySem PySem.Spec PyProof.Rows
/-! ### walks -/
structure WkD (K : PySem.W.Frag) (F1 : Hp) (J : It) (ds : List D) : Prop where
  n : ds.length ≤ sizeLine
  w : Walk J ds.length (Le F1) (fun i H x H' => ∀ F, Le F1 F → Le F H → ∃ F' d, Stp none F H F' H' ∧ ds[i]? = some d ∧ RepV K F' x d)
section
variable {K : PySem.W.Frag} {F F' H : Hp}
theorem Walk.cast {J : It} {n m : Nat} {G : Hp → Prop} {Y : Nat → Hp → V → Hp → Prop} (w : Walk J n G Y) (e : n = m) : Walk J m G Y := e ▸ w
theorem enumL_len : ∀ (k : Nat) (ds : List D), (enumL k ds).length = ds.length
  | _, [] => rfl
  | k, d :: ds => by unfold enumL; rw [List.length_cons, List.length_cons, enumL_len]
theorem enumL_at : ∀ {k i : Nat} {ds : List D} {d : D}, ds[i]? = some d → (enumL k ds)[i]? = some (pairC (.int ((k + i : Nat) : Int)) d)
  | k, 0, d :: ds, _, h => by
    simp at h; subst h
    unfold enumL; simp
  | k, i + 1, d :: ds, _, h => by
    have := enumL_at (k := k + 1) (i := i) (ds := ds) (by simpa using h)
    unfold enumL
    rw [List.getElem?_cons_succ, this]
    have e : k + 1 + i = k + (i + 1) := by omega
    rw [e]
  | _, 0, [], _, h => by simp at h
  | _, _ + 1, [], _, h => by simp at h
theorem zipL_len : ∀ (xs ys : List D), (zipL xs ys).length = min xs.length ys.length
  | [], _ => by simp [zipL]
  | _ :: _, [] => by simp [zipL]
  | x :: xs, y :: ys => by
    unfold zipL; rw [List.length_cons, List.length_cons, List.length_cons, zipL_len]; omega
theorem zipL_at : ∀ {i : Nat} {xs ys : List D} {x y : D}, xs[i]? = some x → ys[i]? = some y → (zipL xs ys)[i]? = some (pairC x y)
  | 0, x :: xs, y :: ys, _, _, h, k => by
    simp at h k; subst h k; rfl
  | i + 1, x :: xs, y :: ys, _, _, h, k => by
    unfold zipL
    rw [List.getElem?_cons_succ]
    exact zipL_at (by simpa using h) (by simpa using k)
  | 0, [], _, _, _, h, _ => by simp at h
  | _ + 1, [], _, _, _, h, _ => by simp at h
  | 0, _ :: _, [], _, _, _, k => by simp at k
  | _ + 1, _ :: _, [], _, _, _, k => by simp at k
theorem wk_at {a : Addr} {J : It} {vs : List V} {ds : List D} {G : Hp → Prop} (ra : RpAll K F vs ds) (hz : vs.length ≤ sizeLine) (w : Walk J vs.length G (YAt vs)) (hG : ∀ H, Le F H → G H) : WkD K F J ds :=
  ⟨by rw [← dpAll_len ra]; exact hz, Walk.cast (w.mono hG fun i H x H' hi l y F1 l1 l2 => by
    obtain ⟨rfl, e⟩ := y
    obtain ⟨d, e1, r⟩ := dpAll_getV ra e
    exact ⟨F1, d, Stp.refl l2, e1, .dp (dp_mono l1 _ _ r)⟩) (dpAll_len ra)⟩
theorem wk_list {a : Addr} {vs : List V} {ds : List D} (ra : RpAll K F vs ds) (hz : vs.length ≤ sizeLine) (h : SqL K F a vs) : WkD K F (Itl K a) ds := wk_at (a := a) ra hz walk_list fun H l => l.sqL h
theorem wk_tup {a : Addr} {vs : List V} {ds : List D} (ra : RpAll K F vs ds) (hz : vs.length ≤ sizeLine) (h : PlT K F a vs) : WkD K F (Itt K a) ds := wk_at (a := a) ra hz walk_tup fun H l => l.sqT h
theorem wk_pair {J : It} {n : Nat} {ds es fs : List D} {xs ys : Nat → Option V} {G : Hp → Prop} (w : Walk J n G (YPair xs ys)) (hG : ∀ H, Le F H → G H) (hn : n = ds.length) (hz : n ≤ sizeLine)
    (hx : ∀ i x, i < n → xs i = some x → ∃ d, es[i]? = some d ∧ Rp K F x d) (hy : ∀ i x, i < n → ys i = some x → ∃ d, fs[i]? = some d ∧ Rp K F x d) (hd : ∀ (i : Nat) (d e : D), es[i]? = some d → fs[i]? = some e → ds[i]? = some (pairC d e)) : WkD K F J ds :=
  ⟨by rw [← hn]; exact hz, Walk.cast (w.mono hG fun i H v H' hi l y F1 l1 l2 => by
    obtain ⟨T, x, y, rfl, hT, rfl, e1, e2⟩ := y
    obtain ⟨d, q1, r1⟩ := hx i x hi e1
    obtain ⟨e, q2, r2⟩ := hy i y hi e2
    have t : Stp none F1 H (upd F1 T (.tup [x, y])) (upd H T (.tup [x, y])) := Stp.new l2 hT
    exact ⟨_, _, t, hd i d e q1 q2, .prs (SqT.of upd_same) (dp_mono (l1.trans t.ff) _ _ r1) (dp_mono (l1.trans t.ff) _ _ r2)⟩) hn⟩
def intsL (n : Nat) : List D := (List.range n).map fun (i : Nat) => PyData.int i
theorem intsL_at {n i : Nat} (h : i < n) : (intsL n)[i]? = some (.int (i : Nat)) := by
  unfold intsL
  rw [List.getElem?_map, List.getElem?_range h]
  rfl
theorem wk_enum {J : It} {vs : List V} {ds : List D} {G : Hp → Prop} (ra : RpAll K F vs ds) (hz : vs.length ≤ sizeLine) (w : Walk J vs.length G (YPair (fun i => some (.int (i : Nat))) (fun i => vs[i]?))) (hG : ∀ H, Le F H → G H) : WkD K F J (enumL 0 ds) :=
  wk_pair (es := intsL vs.length) (fs := ds) w hG (by rw [enumL_len, dpAll_len ra]) hz (fun i x hi e => by cases e; exact ⟨_, intsL_at hi, .int _⟩) (fun i x hi e => dpAll_getV ra e) fun i d e h1 h2 => by
    have hi : i < vs.length := by
      have := (List.getElem?_eq_some_iff.mp h1).1
      unfold intsL at this
      simpa using this
    rw [intsL_at hi] at h1
    cases h1
    rw [enumL_at h2, Nat.zero_add]
theorem wk_zip {J : It} {vs ws : List V} {ds es : List D} {G : Hp → Prop} (ra : RpAll K F vs ds) (rb : RpAll K F ws es) (hz : vs.length ≤ sizeLine) (w : Walk J (min vs.length ws.length) G (YPair (fun i => vs[i]?) (fun i => ws[i]?))) (hG : ∀ H, Le F H → G H) : WkD K F J (zipL ds es) :=
  wk_pair (es := ds) (fs := es) w hG (by rw [zipL_len, dpAll_len ra, dpAll_len rb]) (by omega) (fun i x hi e => dpAll_getV ra e) (fun i x hi e => dpAll_getV rb e) fun i d e h1 h2 => zipL_at h1 h2
theorem wk_range {lo hi : Int} (h : rngOk lo hi = true) : WkD K F (Itr lo (hi - lo).toNat) (rngL lo hi) := by
  unfold rngOk at h
  simp only [Bool.and_eq_true, decide_eq_true_eq] at h
  have e : (rngL lo hi).length = (hi - lo).toNat := by unfold rngL; rw [List.length_map, List.length_range]
  refine ⟨by rw [e]; exact h.2.2.2.2, Walk.cast (walk_range.mono (fun _ _ => trivial) fun i H x H' hi' l y F1 l1 l2 => ?_) e.symm⟩
  obtain ⟨rfl, rfl⟩ := y
  refine ⟨F1, .int (lo + i), Stp.refl l2, ?_, .dp (.int _)⟩
  unfold rngL
  rw [List.getElem?_map, List.getElem?_range hi']
  rfl
end
abbrev tXI (K : PySem.W.Frag) (W : Wc) (f : Sg → Out (List D)) : TI := tG K W (fun F J ds => WkD K F J ds) f
abbrev PXI (X : Cx) (W : Wc) (q : QI) (tg e : Expr) : Prop := PI X tg e (tXI X.K W (evi q))
section
variable {X : Cx} {W : Wc} {tg : Expr}
theorem PI.szw {e : Expr} {t t' : TI} (h : PI X tg e t) (k : ∀ σ H Q, Sz H → t' σ H Q → t σ H (fun v H' => Sz H' → Q v H')) : PI X tg e t' :=
  ⟨fun pins s σ H Q I q => wpAny_mono (h.run pins s σ H _ I (k σ H Q (Sz.of I.hok) q)) (fun u s' z => wpAny_mono z (fun w s2 ⟨it, fp, tn, J, H', e1, I', T, st, f, r⟩ => ⟨it, fp, tn, J, H', e1, I', T, st, f, r (Sz.of I'.hok)⟩) fun _ _ z => z) fun _ _ z => z⟩
theorem i_e {q : QE} {e : Expr} (h : PX X W q e) : PXI X W (.e q) tg e := PI.szw (pi_seq h) fun σ H Q z h z => by
  obtain ⟨s, F, g, h⟩ := h z
  have h' : PostG X.K W F σ ((ev q s).bind fun x s => ofO (itemsW x) s) (fun F J ds => WkD X.K F J ds) Q := h
  refine ⟨s, F, g, h'.bind.mono fun x H1 m => ?_⟩
  obtain ⟨d, s1, F1, z1, l1, g1, r1, h1⟩ := m
  try dsimp only at h1
  cases e1 : itemsW d with
  | none => rw [e1] at h1; exact False.elim h1
  | some xs =>
    rw [e1] at h1
    cases d with
    | list ys =>
      cases e1
      obtain ⟨a, vs, rfl, k1, k2⟩ := rep_lst r1
      exact ⟨a, vs, rfl, .inl ⟨.inl (g1.fh.rd k1), fun z2 => PostG.here h1 z2 g1 (wk_list k2 (z1 _ _ (.inl (g1.fh.rd k1))) (.inl k1))⟩⟩
    | tuple ys =>
      cases e1
      obtain ⟨a, vs, rfl, k1, k2⟩ := rep_tup r1
      exact ⟨a, vs, rfl, .inr ⟨g1.fh.sqT k1, fun z2 => PostG.here h1 z2 g1 (wk_tup k2 (z1.tup (g1.fh.sqT k1)) k1)⟩⟩
    | dict ks =>
      cases r1 with
      | dp h => cases h
      | scr h =>
        cases e1
        exact ⟨_, _, rfl, .inl ⟨g1.fh.sqL h, fun z2 => PostG.here h1 z2 g1 (wk_list (ints_dpAll _) (z1.lst (g1.fh.sqL h)) h)⟩⟩
      | prs _ _ _ => cases e1
      | sdi _ _ _ => cases e1
      | dic h =>
        unfold itemsW at e1
        split at e1
        · rename_i ys q0
          have q : ks = [(PyData.none, PyData.list ys)] := by injection q0
          subst q
          obtain ⟨_, _, er, _⟩ := h
          cases er with
          | cons a t => cases a.1
        · cases e1
    | _ => cases e1
theorem i_rng {q : QE} {e : Expr} {p pos : Pos} (h : PX X W q e) (hm : X.mg "range" = none) (hg : Gl X "range" := by rfl) (hs : starEach [e] X.env = [(false, eval e X.env)] := by rfl) : PXI X W (.rng q) tg (.Call (.Name "range" p) [e] [] pos) :=
  PI.szw (pi_range1 hg hm (pa_cons h pa_nil hs) hs) fun σ H Q z h z => by
    obtain ⟨s, F, g, h⟩ := h z
    have h' : PostG X.K W F σ ((ev q s).bind fun x s => match x with | .int j => if rngOk 0 j then .ok (rngL 0 j) s else .bad | _ => .bad) (fun F J ds => WkD X.K F J ds) Q := h
    refine ⟨s, F, g, h'.bind.mono fun x H1 m => ?_⟩
    obtain ⟨d, s1, F1, z1, l1, g1, r1, h1⟩ := m
    try dsimp only at h1
    cases d with
    | int j =>
      dsimp only at h1
      split at h1
      · rename_i hr
        cases rep_int r1
        have hr' := hr
        unfold rngOk at hr'
        simp only [Bool.and_eq_true, decide_eq_true_eq] at hr'
        refine ⟨j, rfl, hr'.2.2.1, hr'.2.2.2.1, fun z2 => ?_⟩
        have w := wk_range (K := X.K) (F := F1) hr
        rw [show (j - 0).toNat = j.toNat by rw [Int.sub_zero]] at w
        exact PostG.here h1 z2 g1 w
      · exact False.elim h1
    | _ => exact False.elim h1
theorem i_rng2 {q r : QE} {e f : Expr} {p pos : Pos} (h : PX X W q e) (k : PX X W r f) (hm : X.mg "range" = none) (hg : Gl X "range" := by rfl) (hs : starEach [e, f] X.env = [(false, eval e X.env), (false, eval f X.env)] := by rfl) (hs2 : starEach [f] X.env = [(false, eval f X.env)] := by rfl) : PXI X W (.rng2 q r) tg (.Call (.Name "range" p) [e, f] [] pos) :=
  PI.szw (pi_range2 hg hm (pa_cons h (pa_cons k pa_nil hs2) (by rw [hs, hs2])) hs hs2) fun σ H Q z h z => by
    obtain ⟨s, F, g, h⟩ := h z
    have h' : PostG X.K W F σ ((ev q s).bind fun x s => (ev r s).bind fun y s => match x, y with | .int i, .int j => if rngOk i j then .ok (rngL i j) s else .bad | _, _ => .bad) (fun F J ds => WkD X.K F J ds) Q := h
    refine ⟨s, F, g, h'.bind.mono fun x H1 m => ?_⟩
    obtain ⟨d, s1, F1, z1, l1, g1, r1, h1⟩ := m
    try dsimp only at h1
    refine fun z => ⟨s1, F1, g1, h1.bind.mono fun y H2 m2 => ?_⟩
    obtain ⟨d2, s2, F2, z2, l2, g2, r2, h2⟩ := m2
    try dsimp only at h2
    cases d with
    | int i =>
      cases d2 with
      | int j =>
        dsimp only at h2
        split at h2
        · rename_i hr
          cases rep_int r1
          cases rep_int r2
          have hr' := hr
          unfold rngOk at hr'
          simp only [Bool.and_eq_true, decide_eq_true_eq] at hr'
          exact ⟨i, j, rfl, ⟨hr'.1, hr'.2.1, hr'.2.2.1, hr'.2.2.2.1⟩, fun z2 => PostG.here h2 z2 g2 (wk_range hr)⟩
        · exact False.elim h2
      | _ => exact False.elim h2
    | _ => exact False.elim h2
theorem i_enm {q : QE} {e : Expr} {p pos tpos : Pos} {elts : List Expr} {kk : Nat} (h : PX X W q e) (hm : X.mg "enumerate" = none) (hg : Gl X "enumerate" := by rfl) (hs : starEach [e] X.env = [(false, eval e X.env)] := by rfl) : PXI X W (.enm q) (.Tuple elts kk tpos) (.Call (.Name "enumerate" p) [e] [] pos) :=
  PI.szw (pi_enumA hg hm (pa_cons h pa_nil hs) hs) fun σ H Q z h z => by
    obtain ⟨s, F, g, h⟩ := h z
    have h' : PostG X.K W F σ ((ev q s).bind fun x s => ofO ((itemsOf x).map (enumL 0)) s) (fun F J ds => WkD X.K F J ds) Q := h
    refine ⟨s, F, g, h'.bind.mono fun x H1 m => ?_⟩
    obtain ⟨d, s1, F1, z1, l1, g1, r1, h1⟩ := m
    try dsimp only at h1
    cases e1 : itemsOf d with
    | none => rw [e1] at h1; exact False.elim h1
    | some xs =>
      rw [e1] at h1
      cases d with
      | list ys =>
        cases e1
        obtain ⟨a, vs, rfl, k1, k2⟩ := rep_lst r1
        exact ⟨a, vs, rfl, .inl ⟨.inl (g1.fh.rd k1), fun z2 => PostG.here h1 z2 g1 (wk_enum k2 (z1 _ _ (.inl (g1.fh.rd k1))) walk_enum fun H l => .inl (l.rd k1))⟩⟩
      | tuple ys =>
        cases e1
        obtain ⟨a, vs, rfl, k1, k2⟩ := rep_tup r1
        exact ⟨a, vs, rfl, .inr ⟨g1.fh.sqT k1, fun z2 => PostG.here h1 z2 g1 (wk_enum k2 (z1.tup (g1.fh.sqT k1)) walk_enumT fun H l => l.sqT k1)⟩⟩
      | _ => cases e1
theorem i_zip {q r : QE} {e f : Expr} {p pos tpos : Pos} {elts : List Expr} {kk : Nat} (h : PX X W q e) (k : PX X W r f) (hm : X.mg "zip" = none) (hg : Gl X "zip" := by rfl) (hs : starEach [e, f] X.env = (false, eval e X.env) :: starEach [f] X.env := by rfl) (hs2 : starEach [f] X.env = (false, eval f X.env) :: starEach [] X.env := by rfl) (hpl : (backTo pos (starEach [f] X.env)).any (·.1) = false := by rfl) :
    PXI X W (.zip q r) (.Tuple elts kk tpos) (.Call (.Name "zip" p) [e, f] [] pos) :=
  PI.szw (RZ.pi_zipA hg hm (pa_cons h (pa_cons k pa_nil hs2) hs) hs hpl) fun σ H Q z h z => by
    obtain ⟨s, F, g, h⟩ := h z
    have h' : PostG X.K W F σ ((ev q s).bind fun x s => (ev r s).bind fun y s => match x, y with
      | .list xs, .list ys => .ok (zipL xs ys) s
      | .tuple xs, .tuple ys => .ok (zipL xs ys) s
      | _, _ => .bad) (fun F J ds => WkD X.K F J ds) Q := h
    refine ⟨s, F, g, h'.bind.mono fun x H1 m => ?_⟩
    obtain ⟨d, s1, F1, z1, l1, g1, r1, h1⟩ := m
    try dsimp only at h1
    refine fun z => ⟨s1, F1, g1, h1.bind.mono fun y H2 m2 => ?_⟩
    obtain ⟨d2, s2, F2, z2, l2, g2, r2, h2⟩ := m2
    try dsimp only at h2
    have r1' := r1.mono l2
    cases d with
    | list xs =>
      cases d2 with
      | list ys =>
        obtain ⟨a, vs, rfl, k1, k2⟩ := rep_lst r1'
        obtain ⟨b, ws, rfl, k3, k4⟩ := rep_lst r2
        exact ⟨a, b, vs, ws, rfl, .inl ⟨.inl (g2.fh.rd k1), .inl (g2.fh.rd k3), fun z3 => PostG.here h2 z3 g2 (wk_zip k2 k4 (z2 _ _ (.inl (g2.fh.rd k1))) (walk_zip rfl) fun H l => ⟨.inl (l.rd k1), .inl (l.rd k3)⟩)⟩⟩
      | _ => exact False.elim h2
    | tuple xs =>
      cases d2 with
      | tuple ys =>
        obtain ⟨a, vs, rfl, k1, k2⟩ := rep_tup r1'
        obtain ⟨b, ws, rfl, k3, k4⟩ := rep_tup r2
        exact ⟨a, b, vs, ws, rfl, .inr ⟨g2.fh.sqT k1, g2.fh.sqT k3, fun z3 => PostG.here h2 z3 g2 (wk_zip k2 k4 (z2.tup (g2.fh.sqT k1)) (walk_zipT rfl) fun H l => ⟨l.sqT k1, l.sqT k3⟩)⟩⟩
      | _ => exact False.elim h2
    | _ => exact False.elim h2
end
/-! ### targets -/
def gT (K : PySem.W.Frag) : QP → TG
  | .nm i => gName i
  | .tp a b => gTup K 2 (gCons (gT K a) (gCons (gT K b) gNil))
  | .tp3 a b c => gTup K 3 (gCons (gT K a) (gCons (gT K b) (gCons (gT K c) gNil)))
theorem wipe_get (σ : St) : ∀ (vs : List Nat) (j : Nat), (wipe σ vs)[j]? = if j ∈ vs then σ[j]?.map (fun _ => none) else σ[j]?
  | [], j => by simp [wipe]
  | v :: vs, j => by
    show ((wipe σ vs).set v none)[j]? = _
    by_cases e : v = j
    · subst e
      rw [List.getElem?_set, if_pos rfl, if_pos List.mem_cons_self, wipe_length]
      by_cases h : v < σ.length
      · rw [if_pos h, List.getElem?_eq_getElem h]; rfl
      · rw [if_neg h, List.getElem?_eq_none (by omega)]; rfl
    · rw [List.getElem?_set_ne e, wipe_get σ vs j]
      by_cases h : j ∈ vs
      · rw [if_pos h, if_pos (List.mem_cons_of_mem _ h)]
      · rw [if_neg h, if_neg (by simp only [List.mem_cons, not_or]; exact ⟨fun q => e q.symm, h⟩)]
theorem wipe_set {σ : St} {vs : List Nat} {i : Nat} {x : Option V} (h : i ∈ vs) : wipe (σ.set i x) vs = wipe σ vs := by
  apply List.ext_getElem?
  intro j
  rw [wipe_get, wipe_get]
  by_cases hj : j ∈ vs
  · rw [if_pos hj, if_pos hj, List.getElem?_set]
    split
    · rename_i e
      subst e
      split
      · rename_i hl
        rw [List.getElem?_eq_getElem hl]; rfl
      · rename_i hl
        rw [List.getElem?_eq_none (by omega)]
    · rfl
  · rw [if_neg hj, if_neg hj, List.getElem?_set_ne (fun e => hj (by rw [← e]; exact h))]
theorem wipe_wipe {σ : St} {vs ws : List Nat} (h : ∀ i ∈ ws, i ∈ vs) : wipe (wipe σ ws) vs = wipe σ vs := by
  apply List.ext_getElem?
  intro j
  rw [wipe_get, wipe_get, wipe_get]
  by_cases hj : j ∈ vs
  · rw [if_pos hj, if_pos hj]
    split
    · cases σ[j]? <;> rfl
    · rfl
  · rw [if_neg hj, if_neg hj, if_neg (fun q => hj (h j q))]
theorem gT_ok {K : PySem.W.Frag} {B F0 F H : Hp} {p : Option Addr} : ∀ (t : QP) {v : V} {d : D} {s s' : Sg} {σ : St} {Q : St → Hp → Prop}, RepV K F v d → t.asg d s = some s' → Gd K B F0 p F s σ H →
    (∀ σ', Gd K B F0 p F s' σ' H → (∀ vs, (∀ i ∈ t.slots, i ∈ vs) → wipe σ' vs = wipe σ vs) → Q σ' H) → gT K t v σ H Q
  | .nm i, v, d, s, s', σ, Q, r, e, g, q => by
    cases (show some (s.put i (.val d)) = some s' from e)
    exact q _ (g.setV r) fun vs h => wipe_set (h i (by simp [QP.slots]))
  | .tp a b, v, d, s, s', σ, Q, r, e, g, q => by
    have fin : ∀ (x y : D) (ad : Addr) (v1 v2 : V), v = .ref ad → SqT K H ad [v1, v2] → Rp K F v1 x → Rp K F v2 y → ((a.asg x s).bind fun s => b.asg y s) = some s' → gT K (.tp a b) v σ H Q := fun x y ad v1 v2 ev k1 rx ry e' => by
      subst ev
      cases e1 : a.asg x s with
      | none => rw [e1] at e'; cases e'
      | some s1 =>
        rw [e1] at e'
        refine ⟨ad, _, rfl, k1, rfl, _, _, rfl, gT_ok a (.dp rx) e1 g fun σ1 g1 w1 => ⟨_, _, rfl, gT_ok b (.dp ry) e' g1 fun σ2 g2 w2 => ⟨rfl, q σ2 g2 fun vs h => ?_⟩⟩⟩
        rw [w2 vs fun i hi => h i (by simp [QP.slots, hi]), w1 vs fun i hi => h i (by simp [QP.slots, hi])]
    unfold QP.asg at e
    split at e
    · contradiction
    · rename_i q0
      cases q0
      obtain ⟨ad, vs, ev, k1, k2⟩ := rep_tup r
      cases k2 with
      | cons rx t2 => cases t2 with
        | cons ry t3 =>
          cases t3
          exact fin _ _ ad _ _ ev (g.fh.sqT k1) rx ry e
    · rename_i q0
      cases q0
      cases r with
      | dp h => cases h
      | prs h h1 h2 => exact fin _ _ _ _ _ rfl (g.fh.sqT0 h) h1 h2 e
      | dic h =>
        obtain ⟨_, _, er, _⟩ := h
        cases er with
        | cons a t => cases a.1
    · contradiction
    · cases e
  | .tp3 a b c, v, d, s, s', σ, Q, r, e, g, q => by
    cases d with
    | tuple xs =>
      match xs, e with
      | [x, y, z], e =>
        have e' : ((a.asg x s).bind fun s => (b.asg y s).bind fun s => c.asg z s) = some s' := e
        cases e1 : a.asg x s with
        | none => rw [e1] at e'; cases e'
        | some s1 =>
          rw [e1] at e'
          have e'' : ((b.asg y s1).bind fun s => c.asg z s) = some s' := e'
          cases e2 : b.asg y s1 with
          | none => rw [e2] at e''; cases e''
          | some s2 =>
            rw [e2] at e''
            obtain ⟨ad, vs, rfl, k1, k2⟩ := rep_tup r
            cases k2 with
            | cons rx t2 => cases t2 with
              | cons ry t3 => cases t3 with
                | cons rz t4 =>
                  cases t4
                  refine ⟨ad, _, rfl, g.fh.sqT k1, rfl, _, _, rfl, gT_ok a (.dp rx) e1 g fun σ1 g1 w1 => ⟨_, _, rfl, gT_ok b (.dp ry) e2 g1 fun σ2 g2 w2 => ⟨_, _, rfl, gT_ok c (.dp rz) e'' g2 fun σ3 g3 w3 => ⟨rfl, q σ3 g3 fun vs h => ?_⟩⟩⟩⟩
                  rw [w3 vs fun i hi => h i (by simp [QP.slots, hi]), w2 vs fun i hi => h i (by simp [QP.slots, hi]), w1 vs fun i hi => h i (by simp [QP.slots, hi])]
    | _ => cases e
section
variable {X : Cx}
theorem t_nm {i : Nat} {x : Str} {pos : Pos} (hN : X.N.Nodup) (hi : X.N[i]? = some x := by rfl) (hx : Loc X.env.scope x := by first | exact Or.inl rfl | exact Or.inr rfl) (hf : X.fn x = true ∨ X.env.scope.names.lookup x = some .local := by first | exact .inl rfl | exact .inr rfl) : PG X (.Name x pos) (gT X.K (.nm i)) := pg_name hN hi hx hf
theorem t_tp {a b : QP} {ea eb : Expr} {k : Nat} {pos : Pos} (hc : X.calm = true) (ha : PG X ea (gT X.K a)) (hb : PG X eb (gT X.K b))
    (hs1 : (assignEach [ea, eb] X.env).map (·.2) = assign ea X.env :: (assignEach [eb] X.env).map (·.2) := by rfl) (hs2 : (assignEach [eb] X.env).map (·.2) = assign eb X.env :: (assignEach [] X.env).map (·.2) := by rfl)
    (hn : (assignEach [ea, eb] X.env).length = 2 := by rfl) (hst : (assignEach [ea, eb] X.env).findIdx? (·.1) = none := by rfl) : PG X (.Tuple [ea, eb] k pos) (gT X.K (.tp a b)) := pg_tup hc (pgs_cons ha (pgs_cons hb pgs_nil hs2) hs1) hn hst
theorem t_tp3 {a b c : QP} {ea eb ec : Expr} {k : Nat} {pos : Pos} (hc : X.calm = true) (ha : PG X ea (gT X.K a)) (hb : PG X eb (gT X.K b)) (hd : PG X ec (gT X.K c))
    (hs1 : (assignEach [ea, eb, ec] X.env).map (·.2) = assign ea X.env :: (assignEach [eb, ec] X.env).map (·.2) := by rfl) (hs2 : (assignEach [eb, ec] X.env).map (·.2) = assign eb X.env :: (assignEach [ec] X.env).map (·.2) := by rfl) (hs3 : (assignEach [ec] X.env).map (·.2) = assign ec X.env :: (assignEach [] X.env).map (·.2) := by rfl)
    (hn : (assignEach [ea, eb, ec] X.env).length = 3 := by rfl) (hst : (assignEach [ea, eb, ec] X.env).findIdx? (·.1) = none := by rfl) : PG X (.Tuple [ea, eb, ec] k pos) (gT X.K (.tp3 a b c)) := pg_tup hc (pgs_cons ha (pgs_cons hb (pgs_cons hd pgs_nil hs3) hs2) hs1) hn hst
end
end L2.BH
set_option maxHeartbeats 1000000
/-! Rules: new lists, comprehensions. -/
namespace L2.BH
open PySem PySem.Spec PyProof.Rows
/-- a list that nobody else holds -/
structure NewO (K : PySem.W.Frag) (B F : Hp) (p : Option Addr) (s : Sg) (σ : St) (H : Hp) (q : Addr) (d : D) : Prop where
  b : B q = none
  f : F q = none
  np : p ≠ some q
  o : ∀ (j : Nat) (e : D), s.cs[j]? = some (Cell.own e) → σ[j]? ≠ some (some (V.ref q))
  a : OwnAt K F H q d
section
variable {K : PySem.W.Frag} {B F0 F F' H H' : Hp} {p : Option Addr} {s s' : Sg} {σ : St} {q : Addr}
theorem NewO.mk' {vs : List V} {ds : List D} (g : Gd K B F0 p F s σ H) (hq : H q = none) (r : RpAll K F vs ds) : NewO K B F p s σ (upd H q (.lst vs)) q (.list ds) := by
  obtain ⟨h1, h2, h3⟩ := g.newFree hq
  refine ⟨h1, h2, h3, fun j e he hs => ?_, vs, upd_same, r⟩
  obtain ⟨ρ, c1, _⟩ := g.cs
  obtain ⟨a, _, e2, _, _, _, e3⟩ := c1 j _ he
  rw [e2] at hs
  cases hs
  exact e3.some hq
theorem Gd.adopt {d : D} (g : Gd K B F0 p F s σ H) (n : NewO K B F p s σ H q d) : ∃ F', Le F F' ∧ Gd K B F0 p F' s σ H ∧ RepV K F' (.ref q) d := by
  obtain ⟨u, hu, rep⟩ : ∃ u, H q = some u ∧ RepV K (upd F q u) (.ref q) d := by
    have a := n.a
    cases d with
    | list xs =>
      obtain ⟨vs, e1, e2⟩ := a
      exact ⟨_, e1, .dp (.lst (.inl upd_same) (dpAll_mono (Le.new n.f) _ _ e2))⟩
    | dict ks =>
      obtain ⟨vs, e1, e2, e3⟩ := a
      exact ⟨_, e1, .dic ⟨vs, upd_same, e2.mono (Le.new n.f), e3⟩⟩
    | _ => exact a.elim
  have l : Le F (upd F q u) := Le.new n.f
  have off : ∀ {b : Addr}, b ≠ q → upd F q u b = F b := fun h => upd_ne h
  obtain ⟨ρ, c1, c2⟩ := g.cs
  refine ⟨upd F q u, l, ⟨g.le.trans l, fun b o h => ?_, g.bh, fun b h k => ?_, ⟨ρ, fun j c e => ?_, c2⟩, fun b e => ?_, g.len⟩, rep⟩
  · by_cases hb : b = q
    · subst hb; rw [upd_same] at h; cases h; exact hu
    · rw [off hb] at h; exact g.fh b o h
  · rw [off (fun z => h (by rw [z]; exact n.b))]; exact g.bf b h k
  · have z := c1 j c e
    cases c with
    | no => trivial
    | val d => obtain ⟨v, e1, r⟩ := z; exact ⟨v, e1, r.mono l⟩
    | drw => exact z
    | own d' =>
      obtain ⟨a, e1, e2, e3, e4, e5, e6⟩ := z
      have na : a ≠ q := fun w => n.o j _ e (by rw [e2, w])
      exact ⟨a, e1, e2, e3, by rw [off na]; exact e4, e5, e6.mono l fun _ h => h⟩
  · obtain ⟨h1, xs, h2, h3⟩ := g.dr b e
    exact ⟨by rw [off (fun w => n.np (by rw [← w]; exact e))]; exact h1, xs, h2, dpAll_mono l _ _ h3⟩
/-- the new list at D takes part in what stays -/
theorem Gd.addB {o : HO} (g : Gd K B F0 p F s σ H) (hD : H q = none) : Gd K (upd B q o) F0 p F s σ (upd H q o) := by
  obtain ⟨h1, h2, h3⟩ := g.newFree hD
  obtain ⟨ρ, c1, c2⟩ := g.cs
  have ne : ∀ b u, H b = some u → b ≠ q := fun b u e z => by rw [z, hD] at e; cases e
  refine ⟨g.le, fun b u e => by rw [upd_ne (ne b u (g.fh b u e))]; exact g.fh b u e, fun b u e n => ?_, fun b e n => ?_, ⟨ρ, fun j c e => ?_, c2⟩, fun b e => ?_, g.len⟩
  · by_cases hb : b = q
    · subst hb; rw [upd_same] at e ⊢; exact e
    · rw [upd_ne hb] at e ⊢; exact g.bh b u e n
  · by_cases hb : b = q
    · subst hb; exact h2
    · rw [upd_ne hb] at e; exact g.bf b e n
  · have z := c1 j c e
    cases c with
    | no => trivial
    | val d => exact z
    | drw => exact z
    | own d' =>
      obtain ⟨a, e1, e2, e3, e4, e5, e6⟩ := z
      have na : a ≠ q := fun w => e6.some (by rw [w]; exact hD)
      exact ⟨a, e1, e2, by rw [upd_ne na]; exact e3, e4, e5, e6.mono (Le.refl _) fun o h => by rw [upd_ne na]; exact h⟩
  · obtain ⟨k1, xs, k2, k3⟩ := g.dr b e
    exact ⟨k1, xs, by rw [upd_ne (ne _ _ k2)]; exact k2, k3⟩
theorem Gd.appB {o o' : HO} (g : Gd K (upd B q o) F0 p F s σ H) (h0 : F0 q = none) (hp : p ≠ some q) : Gd K (upd B q o') F0 p F s σ (upd H q o') := by
  have fq : F q = none := g.bf q (by rw [upd_same]; simp) h0
  obtain ⟨ρ, c1, c2⟩ := g.cs
  refine ⟨g.le, fun b u e => ?_, fun b u e n => ?_, fun b e n => ?_, ⟨ρ, fun j c e => ?_, c2⟩, fun b e => ?_, g.len⟩
  · rw [upd_ne (fun z => by rw [z, fq] at e; cases e)]; exact g.fh b u e
  · by_cases hb : b = q
    · subst hb; rw [upd_same] at e ⊢; exact e
    · rw [upd_ne hb] at e ⊢; exact g.bh b u (by rw [upd_ne hb]; exact e) n
  · by_cases hb : b = q
    · subst hb; exact fq
    · exact g.bf b (by rw [upd_ne hb]; rw [upd_ne hb] at e; exact e) n
  · have z := c1 j c e
    cases c with
    | no => trivial
    | val d => exact z
    | drw => exact z
    | own d' =>
      obtain ⟨a, e1, e2, e3, e4, e5, e6⟩ := z
      have na : a ≠ q := fun w => by rw [w, upd_same] at e3; cases e3
      exact ⟨a, e1, e2, by rw [upd_ne na]; rw [upd_ne na] at e3; exact e3, e4, e5, e6.mono (Le.refl _) fun o h => by rw [upd_ne na]; exact h⟩
  · obtain ⟨k1, xs, k2, k3⟩ := g.dr b e
    exact ⟨k1, xs, by rw [upd_ne (fun z => hp (by rw [← z]; exact e))]; exact k2, k3⟩
theorem Gd.unB {o : HO} (g : Gd K (upd B q o) F0 p F s σ H) (hb : B q = none) : Gd K B F0 p F s σ H := by
  obtain ⟨ρ, c1, c2⟩ := g.cs
  have ne : ∀ b u, B b = some u → b ≠ q := fun b u e z => by rw [z, hb] at e; cases e
  refine ⟨g.le, g.fh, fun b u e n => g.bh b u (by rw [upd_ne (ne b u e)]; exact e) n, fun b e n => g.bf b ?_ n, ⟨ρ, fun j c e => ?_, c2⟩, g.dr, g.len⟩
  · cases h : B b with
    | none => exact absurd h e
    | some u => rw [upd_ne (ne b u h), h]; simp
  · have z := c1 j c e
    cases c with
    | no => trivial
    | val d => exact z
    | drw => exact z
    | own d' =>
      obtain ⟨a, e1, e2, e3, e4, e5, e6⟩ := z
      have na : a ≠ q := fun w => by rw [w, upd_same] at e3; cases e3
      exact ⟨a, e1, e2, by rw [upd_ne na] at e3; exact e3, e4, e5, e6⟩
end
def PostO (K : PySem.W.Frag) (W : Wc) (F : Hp) (σ : St) (o : Out D) (Q : VK) : Prop := match o with
  | .ok d s => ∀ F' H' q, Sz H' → Le F F' → Gd K W.B W.F0 W.p F' s σ H' → NewO K W.B F' W.p s σ H' q d → Q (.ref q) H'
  | .exc c s => ∀ F' H' x, Le F F' → Gd K W.B W.F0 W.p F' s σ H' → W.E (.ref (He.ga K c)) x σ H'
  | .bad => False
def tO (K : PySem.W.Frag) (W : Wc) (f : Sg → Out D) : TE := fun σ H Q => Sz H → ∃ s F, Gd K W.B W.F0 W.p F s σ H ∧ PostO K W F σ (f s) Q
section
variable {K : PySem.W.Frag} {W : Wc}
theorem PostO.le {F F1 : Hp} {σ : St} {o : Out D} {Q : VK} (h : PostO K W F σ o Q) (l : Le F F1) : PostO K W F1 σ o Q := by
  cases o with
  | ok a s => exact fun F' H' b z l' g r => h F' H' b z (l.trans l') g r
  | exc c s => exact fun F' H' x l' g => h F' H' x (l.trans l') g
  | bad => exact h
def MidO {α β : Type} (K : PySem.W.Frag) (W : Wc) (F : Hp) (σ : St) (R : Hp → β → α → Prop) (k : α → Sg → Out D) (Q' : VK) (b : β) (H1 : Hp) : Prop :=
  ∃ a s1 F1, Sz H1 ∧ Le F F1 ∧ Gd K W.B W.F0 W.p F1 s1 σ H1 ∧ R F1 b a ∧ PostO K W F1 σ (k a s1) Q'
theorem PostO.bind {α β : Type} {F : Hp} {σ : St} {o : Out α} {k : α → Sg → Out D} {R : Hp → β → α → Prop} {Q' : VK} (h : PostO K W F σ (o.bind k) Q') : PostG K W F σ o R (MidO K W F σ R k Q') := by
  cases o with
  | ok a s => exact fun F' H' b z l g r => ⟨a, s, F', z, l, g, r, PostO.le h l⟩
  | exc c s => exact h
  | bad => exact h
end
section
variable {X : Cx} {W : Wc}
abbrev PN (X : Cx) (W : Wc) (q : QE) (e : Expr) : Prop := PE X e (tO X.K W (ev q))
/-- a new list, as a value -/
theorem o_x {q : QE} {e : Expr} (h : PN X W q e) : PX X W q e := PE.szw h fun σ H Q z h z => by
  obtain ⟨s, F, g, h⟩ := h z
  refine ⟨s, F, g, ?_⟩
  have h' : PostG X.K W F σ (ev q s) (RepV X.K) Q := h
  cases e : ev q s with
  | bad => rw [e] at h'; exact h'.elim
  | exc c s1 => rw [e] at h'; exact h'
  | ok d s1 =>
    rw [e] at h'
    intro F' H' a z1 l g1 n z2
    obtain ⟨F2, l2, g2, r⟩ := g1.adopt n
    exact h' F2 H' _ z1 (l.trans l2) g2 r
theorem o_lst {es : List Expr} {qs : QEs} {pos} (h : PXA X W qs es) (hn : qs.n ≤ sizeLine := by decide) : PN X W (.lst qs) (.List es pos) :=
  PE.szw (pe_lst h) fun σ H Q z h z => by
    obtain ⟨s, F, g, h⟩ := h z
    have h' : PostO X.K W F σ ((evs qs s).bind fun ds s => if noDs ds then .ok (.list ds) s else .bad) Q := h
    cases q : evs qs s with
    | exc c s1 => refine ⟨s, F, g, ?_⟩; rw [q] at h' ⊢; exact h'
    | bad => rw [q] at h'; exact h'.elim
    | ok ds s1 =>
      have hl := evs_len _ _ _ _ q
      rw [q] at h'
      refine ⟨s, F, g, ?_⟩
      rw [q]
      intro F1 H1 vs z1 l1 g1 r1
      refine ⟨by rw [r1.len, hl]; exact hn, fun p hp z2 => ?_⟩
      rw [Out.bind_ok] at h'
      split at h'
      · rename_i hd
        have t : Stp none F1 H1 F1 (upd H1 p (.lst vs)) := Stp.newO g1.fh hp
        exact h' _ _ _ z2 l1 (g1.stepK t) (NewO.mk' g1 hp (r1.toDp hd))
      · exact h'.elim
theorem o_list {q : QE} {e : Expr} {p pos : Pos} (h : PX X W q e) (hm : X.mg "list" = none) (hg : Gl X "list" := by rfl) (he : starEach [e] X.env = (false, eval e X.env) :: starEach [] X.env := by rfl) : PN X W (.bi .list (.cons q .nil)) (.Call (.Name "list" p) [e] [] pos) :=
  PE.szw (pe_callTy call_list_of hg hm (by decide +kernel) (pa_cons h pa_nil he) (by decide) (by decide) he rfl) fun σ H Q z h z => by
    obtain ⟨s, F, g, h⟩ := h z
    have h' : PostO X.K W F σ (((ev q s).bind fun x s => Out.ok [x] s).bind fun ds s => ofO (biS .list ds) s) Q := by
      have e : ev (.bi .list (.cons q .nil)) s = ((ev q s).bind fun x s => Out.ok [x] s).bind fun ds s => ofO (biS .list ds) s := by
        have e1 : ev (.bi .list (.cons q .nil)) s = ((ev q s).bind fun x s => (Out.ok [] s : Out (List D)).bind fun xs s => Out.ok (x :: xs) s).bind fun ds s => ofO (biS .list ds) s := rfl
        rw [e1]
        cases ev q s <;> rfl
      rw [← e]; exact h
    cases e : ev q s with
    | bad => rw [e] at h'; exact h'.elim
    | exc c s1 => refine ⟨s, F, g, ?_⟩; rw [e] at h' ⊢; exact h'
    | ok d s1 =>
      rw [e] at h'
      have h2 : PostO X.K W F σ (ofO (biS .list [d]) s1) Q := h'
      refine ⟨s, F, g, ?_⟩
      rw [e]
      intro F1 H1 v z1 l1 g1 r1
      cases e1 : itemsOf d with
      | none =>
        have : biS .list [d] = none := by show (itemsOf d).map _ = _; rw [e1]; rfl
        rw [this] at h2; exact h2.elim
      | some xs =>
        have : biS .list [d] = some (.list xs) := by show (itemsOf d).map _ = _; rw [e1]; rfl
        rw [this] at h2
        obtain ⟨a, vs, rfl, k1, k2⟩ := seq_of g1.fh r1 e1
        refine ⟨a, vs, rfl, ?_, fun l hl z2 => ?_⟩
        · rcases k2 with ⟨k, _⟩ | ⟨k, _⟩
          · exact .inl k
          · exact .inr k
        · exact h2 _ _ _ z2 l1 (g1.stepK (Stp.newO g1.fh hl)) (NewO.mk' g1 hl k1)
variable {k : Nat} {fa : Addr} {fd : FuncData} {ps : List Str} {x : Str} {p pos : Pos}
theorem o_call {f : FEnt} {qs : QEs} {e : Expr} {es : List Expr} (F : FnOk X.prog X.w X.K X.mg X.base (CX X.prog X.w) k fa fd ps (spO X.K f)) (hk : PySem.W.keepIn X.K (.ref fa) = true) (hb : Binds X.K fd ps []) (hm : X.mg x = some (.ref fa)) (hr : Room k X.A) (tk : Takes X W.E)
    (ha : PXA X W qs (e :: es)) (hn : qs.n = f.n := by rfl) (hg : Gl X x := by rfl) (hdb : (x == ("__debug__" : Str)) = false := by decide) (he : starEach (e :: es) X.env = (false, eval e X.env) :: starEach es X.env := by rfl) (hpl : (backTo pos (starEach es X.env)).any (·.1) = false := by rfl) :
    PN X W (.call f qs) (.Call (.Name x p) (e :: es) [] pos) :=
  PE.szw (pe_callS F hr hg hm hk hb (fun σ => passAt tk σ) ha hdb he hpl) fun σ H Q z h z => by
    obtain ⟨s, F, g, h⟩ := h z
    have h' : PostO X.K W F σ ((evs qs s).bind fun ds s => callP f ds s) Q := h
    cases q : evs qs s with
    | exc c s1 => refine ⟨s, F, g, ?_⟩; rw [q] at h' ⊢; exact h'
    | bad => rw [q] at h'; exact False.elim h'
    | ok ds s1 =>
      have hl := evs_len _ _ _ _ q
      rw [q, Out.bind_ok] at h'
      refine ⟨s, F, g, ?_⟩
      rw [q]
      intro F1 H1 vs z1 l1 g1 r1
      refine ⟨by rw [r1.len, hl]; exact hn, F1, ds, g1.fh, r1, ?_⟩
      unfold callP at h'
      cases e : f.sem ds [] with
      | ret d dr =>
        rw [e] at h'
        intro F' H' q z' t hq fq oq _
        have g2 := g1.stepK t
        obtain ⟨b1, b2, b3⟩ := g1.newFree hq
        refine h' F' H' q z' (l1.trans t.ff) g2 ⟨b1, fq, b3, fun j e he hs => ?_, oq⟩
        obtain ⟨ρ, c1, _⟩ := g1.cs
        obtain ⟨a, _, e2, _, _, _, e3⟩ := c1 j _ he
        rw [e2] at hs
        cases hs
        exact e3.some hq
      | exc c dr => rw [e] at h'; exact fun F' H' x t => h' F' H' x (l1.trans t.ff) (g1.stepK t)
      | bad => rw [e] at h'; exact False.elim h'
end
/-! ### comprehensions -/
abbrev Wn (B F0 : Hp) (p : Option Addr) : Wc := ⟨B, F0, p, fun _ _ _ _ => False, false⟩
theorem takes_n {X : Cx} {B F0 : Hp} {p : Option Addr} : Takes X (Wn B F0 p).E := fun u s' ⟨_, _, _, _, _, _, _, _, _, _, _, _, _, _, _, _, w⟩ => w.elim
def eX (K : PySem.W.Frag) (f : Sg → Out D) : TE := fun σ H Q => ∃ B F0 p, tX K (Wn B F0 p) f σ H Q
def eXT (K : PySem.W.Frag) (f : Sg → Out Bool) : TT := fun σ H Q => ∃ B F0 p, tXT K (Wn B F0 p) f σ H Q
theorem e_x {X : Cx} {q : QE} {e : Expr} (h : ∀ B F0 p, PX X (Wn B F0 p) q e) : PE X e (eX X.K (ev q)) :=
  ⟨fun pins s σ H Q I ⟨B, F0, p, h'⟩ => (h B F0 p).run pins s σ H Q I h'⟩
theorem ts_nil {X : Cx} : PTs X [] (eXT X.K (evc .nil)) := ⟨fun pins s σ H Q I ⟨B, F0, p, h⟩ => by
  obtain ⟨s', F, g, h⟩ := h (Sz.of I.hok)
  exact pts_nil.run pins s σ H Q I (PostG.here h (Sz.of I.hok) g rfl)⟩
theorem ts_one {X : Cx} {q : QE} {e : Expr} (h : ∀ B F0 p, PB X (Wn B F0 p) q e) : PTs X [e] (eXT X.K (evc (.cons q .nil))) :=
  pts_one ⟨fun pins s σ H Q I ⟨B, F0, p, h'⟩ => (h B F0 p).run pins s σ H Q I h'⟩
/-- one turn's worth -/
def turn (elt : QE) (t : QP) (cs : QEs) (d : D) (s2 : Sg) : Out (List D) := match t.asg d s2 with
  | none => .bad
  | some s3 => (evc cs s3).bind fun b s4 => (if b then (ev elt s4).bind fun y s5 => if isD y then .bad else .ok [y] s5 else .ok [] s4).bind fun ys s6 => .ok ys (s6.wipe t.slots)
theorem ev_comp (elt : QE) (t : QP) (it : QI) (cs : QEs) (s : Sg) : ev (.comp elt t it cs) s = (evi it s).bind fun ds s1 => (noX (compL (turn elt t cs) ds (s1.wipe t.slots))).bind fun ys s7 => .ok (.list ys) (s7.back s1 t.slots) := rfl
theorem bind_inv {α β : Type} {o : Out α} {k : α → Sg → Out β} {b : β} {s' : Sg} (h : o.bind k = .ok b s') : ∃ a s, o = .ok a s ∧ k a s = .ok b s' := by
  cases o with
  | ok a s => exact ⟨a, s, rfl, h⟩
  | exc c s => cases h
  | bad => cases h
theorem turn_inv {elt : QE} {t : QP} {cs : QEs} {d : D} {s2 s6 : Sg} {ys : List D} (h : turn elt t cs d s2 = .ok ys s6) :
    ∃ s3 b s4, t.asg d s2 = some s3 ∧ evc cs s3 = .ok b s4 ∧ ((b = true ∧ ∃ y s5, ev elt s4 = .ok y s5 ∧ isD y = false ∧ ys = [y] ∧ s6 = s5.wipe t.slots) ∨ (b = false ∧ ys = [] ∧ s6 = s4.wipe t.slots)) := by
  unfold turn at h
  split at h
  · cases h
  · rename_i s3 e3
    obtain ⟨b, s4, e4, h⟩ := bind_inv h
    obtain ⟨ys', s5, e5, h⟩ := bind_inv h
    cases h
    refine ⟨s3, b, s4, e3, e4, ?_⟩
    cases b with
    | true =>
      rw [if_pos rfl] at e5
      obtain ⟨y, s6, e6, h⟩ := bind_inv e5
      cases hy : isD y with
      | true => rw [hy] at h; cases h
      | false =>
        rw [hy] at h
        cases h
        exact .inl ⟨rfl, y, _, e6, hy, rfl, rfl⟩
    | false =>
      rw [if_neg Bool.false_ne_true] at e5
      cases e5
      exact .inr ⟨rfl, rfl, rfl⟩
theorem lc_road {K : PySem.W.Frag} {W : Wc} {elt : QE} {t : QP} {it : QI} {cs : QEs} {σ : St} {H : Hp} {Q : VK} (h : tO K W (ev (.comp elt t it cs)) σ H Q) :
    tLc (tXI K W (evi it)) (gT K t) (eXT K (evc cs)) (eX K (ev elt)) t.slots σ H (fun v H' => Sz H' → Q v H') := by
  intro z
  obtain ⟨s, F, g, h⟩ := h z
  rw [ev_comp] at h
  refine ⟨s, F, g, (PostO.bind (R := fun F J ds => WkD K F J ds) h).mono fun J H1 m => ?_⟩
  obtain ⟨ds, s1, F1, z1, l1, g1, wk, h1⟩ := m
  try dsimp only at h1
  intro Dd hD
  cases e : compL (turn elt t cs) ds (s1.wipe t.slots) with
  | bad => rw [e] at h1; exact h1.elim
  | exc c s9 => rw [e] at h1; exact h1.elim
  | ok ys s7 =>
    rw [e] at h1
    have h2 : PostO K W F1 σ (.ok (.list ys) (s7.back s1 t.slots)) Q := h1
    obtain ⟨b1, b2, b3⟩ := g1.newFree hD
    have f0 : W.F0 Dd = none := by
      cases q : W.F0 Dd with
      | none => rfl
      | some u => rw [g1.le _ _ q] at b2; cases b2
    let Pv : Nat → Hp → Prop := fun i H => ∃ s F acc zs, Le F1 F ∧ H Dd = some (.lst acc) ∧ acc.length ≤ i ∧ Gd K (upd W.B Dd (.lst acc)) W.F0 W.p F s (wipe σ t.slots) H ∧ RpAll K F acc zs ∧
      ∃ r, compL (turn elt t cs) (ds.drop i) s = .ok r s7 ∧ ys = zs ++ r
    refine lc_it wk.w Pv ⟨s1.wipe t.slots, F1, [], [], Le.refl _, upd_same, Nat.zero_le _, (g1.addB hD).wipe, .nil, ys, by rw [List.drop_zero]; exact e, rfl⟩ (fun i H _ p => ?_) (fun i x H H' hi p y => ?_) fun H p => ?_
    · obtain ⟨s, F, acc, zs, l, _, _, g, _⟩ := p
      exact l.trans g.fh
    · obtain ⟨s, F, acc, zs, l, hacc, hlen, g, ra, r, er, eys⟩ := p
      obtain ⟨F2, d, tt, ed, rd⟩ := y F l g.fh
      have g2 := g.stepK tt
      obtain ⟨hid, ed'⟩ := List.getElem?_eq_some_iff.mp ed
      rw [List.drop_eq_getElem_cons hid, ed'] at er
      have er' : ((turn elt t cs d s).bind fun ys s => (compL (turn elt t cs) (ds.drop (i + 1)) s).bind fun zs s => .ok (ys ++ zs) s) = .ok r s7 := er
      obtain ⟨y1, s8, e1, er2⟩ := bind_inv er'
      obtain ⟨y2, s9, e2, er3⟩ := bind_inv er2
      cases er3
      obtain ⟨s3, b, s4, q1, q2, q3⟩ := turn_inv e1
      refine gT_ok t rd q1 g2 fun σ2 g3 w3 => ?_
      have ew : wipe σ2 t.slots = wipe σ t.slots := (w3 t.slots fun i h => h).trans (wipe_wipe fun i h => h)
      refine ⟨ew, upd W.B Dd (.lst acc), W.F0, W.p, fun _ => ⟨s3, F2, g3, ?_⟩⟩
      rw [q2]
      intro F3 H3 b' z3 l3 g3' eb
      have eb' : b' = b := eb
      subst eb'
      have hn : i < sizeLine := Nat.lt_of_lt_of_le hi wk.n
      rcases q3 with ⟨rfl, y, s5, k1, k2, k3, k4⟩ | ⟨rfl, k3, k4⟩
      · rw [if_pos rfl]
        refine ⟨upd W.B Dd (.lst acc), W.F0, W.p, fun _ => ⟨s4, F3, g3', ?_⟩⟩
        rw [k1]
        intro F4 H4 v z4 l4 g4 r4
        have l24 : Le F F4 := (tt.ff.trans l3).trans l4
        have g5 := (g4.appB (o' := .lst (acc ++ [v])) f0 b3).wipe (vs := t.slots)
        rw [ew] at g5
        subst k3 k4
        exact ⟨acc, g4.bh Dd _ upd_same b3, by omega, s5.wipe t.slots, F4, acc ++ [v], zs ++ [y], l.trans l24, upd_same, by rw [List.length_append]; simp; exact hlen, g5, dpAll_app (dpAll_mono l24 _ _ ra) (.cons (r4.toDp k2) .nil), y2, e2, by rw [eys]; simp⟩
      · rw [if_neg Bool.false_ne_true]
        have g5 := g3'.wipe (vs := t.slots)
        rw [ew] at g5
        have l23 : Le F F3 := tt.ff.trans l3
        subst k3 k4
        exact ⟨s4.wipe t.slots, F3, acc, zs, l.trans l23, g3'.bh Dd _ upd_same b3, by omega, g5, dpAll_mono l23 _ _ ra, y2, e2, by rw [eys]; simp⟩
    · obtain ⟨s, F, acc, zs, l, hacc, hlen, g, ra, r, er, eys⟩ := p
      rw [List.drop_length] at er
      cases er
      rw [List.append_nil] at eys
      subst eys
      have g8 : Gd K W.B W.F0 W.p F (s7.back s1 t.slots) σ H := g1.back l (g.unB b1)
      have fD : F Dd = none := g.bf Dd (by rw [upd_same]; simp) f0
      refine fun z2 => h2 F H Dd z2 l g8 ⟨b1, fD, b3, fun j e' he hs => ?_, acc, hacc, ra⟩
      have he' : (backC s1.cs s7.cs t.slots)[j]? = some (.own e') := he
      rcases backC_at he' with ⟨ec, _⟩ | ⟨ec, nj⟩
      · unfold keepC at ec
        split at ec <;> cases ec
      · obtain ⟨ρ, c1, _⟩ := g.cs
        obtain ⟨a, _, e2, e3, _⟩ := c1 j _ ec
        rw [wipe_out nj, hs] at e2
        cases e2
        rw [upd_same] at e3
        cases e3
section
variable {X : Cx} {W : Wc}
theorem o_comp {elt tg iter : Expr} {ifs : List Expr} {scope : Scope} {pos : Pos} {qe : QE} {t : QP} {qi : QI} {qc : QEs} (own : List (Str × Nat)) (hc : X.calm = true) (hN : X.N.Nodup) (hi : PXI X W qi tg iter) (ok : blkC X.N X.env.scope scope own = true) (ho : own.map (·.2) = t.slots)
    (hg : ∀ (s : Shared) (H : Hp) (C : Addr) (cl : List (Str × Addr)) (fp : List Addr), PG (X.blk s H scope (compEnvC scope cl C X.env) fp) tg (gT X.K t))
    (ht : ∀ (s : Shared) (H : Hp) (C : Addr) (cl : List (Str × Addr)) (fp : List Addr), PTs (X.blk s H scope (compEnvC scope cl C X.env) fp) ifs (eXT X.K (evc qc)))
    (he : ∀ (s : Shared) (H : Hp) (C : Addr) (cl : List (Str × Addr)) (fp : List Addr) (B F0 : Hp) (p : Option Addr), PX (X.blk s H scope (compEnvC scope cl C X.env) fp) (Wn B F0 p) qe elt) (hs : ∀ x, foldedSetIterable iter X.env x = pure x := by intro _; rfl) :
    PN X W (.comp qe t qi qc) (.ListComp elt [⟨tg, iter, ifs, 0⟩] scope pos) :=
  PE.szw (pe_lc hc hN hi (blkOk_by ok) hg ht (fun s H C cl fp => e_x (he s H C cl fp)) hs) fun σ H Q z h => by
    rw [ho]
    exact lc_road h
end
end L2.BH
set_option maxHeartbeats 1000000
/-! Rules: statements. -/
namespace L2.BH
open PySem PySem.Spec PyProof.Rows
def PostS (K : PySem.W.Frag) (W : Wc) (F : Hp) (D : Ends) (o : SOut) : Prop := match o with
  | .nx s => ∀ F' σ' H', Sz H' → Le F F' → Gd K W.B W.F0 W.p F' s σ' H' → D.nx σ' H'
  | .ret d s => (W.fr = false ∧ ∀ F' σ' H' v, Sz H' → Le F F' → Gd K W.B W.F0 W.p F' s σ' H' → RepV K F' v d → D.rt v H') ∨ (W.fr = true ∧ ∀ F' σ' H' q, Sz H' → Le F F' → Gd K W.B W.F0 W.p F' s σ' H' → NewO K W.B F' W.p s σ' H' q d → D.rt (.ref q) H')
  | .brk s => ∀ F' σ' H', Sz H' → Le F F' → Gd K W.B W.F0 W.p F' s σ' H' → D.bk σ' H'
  | .ct s => ∀ F' σ' H', Sz H' → Le F F' → Gd K W.B W.F0 W.p F' s σ' H' → D.ct σ' H'
  | .exc c s => ∀ F' σ' H' x, Le F F' → Gd K W.B W.F0 W.p F' s σ' H' → W.E (.ref (He.ga K c)) x σ' H'
  | .bad => False
def tS (K : PySem.W.Frag) (W : Wc) (f : Sg → SOut) : TS := fun D σ H => Sz H → ∃ s F, Gd K W.B W.F0 W.p F s σ H ∧ PostS K W F D (f s)
section
variable {K : PySem.W.Frag} {W : Wc}
theorem PostS.le {F F1 : Hp} {D : Ends} {o : SOut} (h : PostS K W F D o) (l : Le F F1) : PostS K W F1 D o := by
  cases o with
  | nx s => exact fun F' σ' H' z l' g => h F' σ' H' z (l.trans l') g
  | ret d s => exact h.imp (fun ⟨a, k⟩ => ⟨a, fun F' σ' H' v z l' g r => k F' σ' H' v z (l.trans l') g r⟩) fun ⟨a, k⟩ => ⟨a, fun F' σ' H' v z l' g r => k F' σ' H' v z (l.trans l') g r⟩
  | brk s => exact fun F' σ' H' z l' g => h F' σ' H' z (l.trans l') g
  | ct s => exact fun F' σ' H' z l' g => h F' σ' H' z (l.trans l') g
  | exc c s => exact fun F' σ' H' x l' g => h F' σ' H' x (l.trans l') g
  | bad => exact h
theorem PostS.mono {F : Hp} {D D' : Ends} {o : SOut} (h : PostS K W F D o) (h1 : ∀ σ H, D.nx σ H → D'.nx σ H) (h2 : ∀ v H, D.rt v H → D'.rt v H) (h3 : ∀ σ H, D.bk σ H → D'.bk σ H) (h4 : ∀ σ H, D.ct σ H → D'.ct σ H) : PostS K W F D' o := by
  cases o with
  | nx s => exact fun F' σ' H' z l' g => h1 _ _ (h F' σ' H' z l' g)
  | ret d s => exact h.imp (fun ⟨a, k⟩ => ⟨a, fun F' σ' H' v z l' g r => h2 _ _ (k F' σ' H' v z l' g r)⟩) fun ⟨a, k⟩ => ⟨a, fun F' σ' H' v z l' g r => h2 _ _ (k F' σ' H' v z l' g r)⟩
  | brk s => exact fun F' σ' H' z l' g => h3 _ _ (h F' σ' H' z l' g)
  | ct s => exact fun F' σ' H' z l' g => h4 _ _ (h F' σ' H' z l' g)
  | exc c s => exact h
  | bad => exact h
/-- behind an expression -/
theorem PostS.of {α β : Type} {F : Hp} {D : Ends} {σ : St} {o : Out α} {k : α → Sg → SOut} {R : Hp → β → α → Prop} (h : PostS K W F D (SOut.of o k)) :
    PostG K W F σ o R (fun b H1 => ∃ a s1 F1, Sz H1 ∧ Le F F1 ∧ Gd K W.B W.F0 W.p F1 s1 σ H1 ∧ R F1 b a ∧ PostS K W F1 D (k a s1)) := by
  cases o with
  | ok a s => exact fun F' H' b z l g r => ⟨a, s, F', z, l, g, r, PostS.le h l⟩
  | exc c s => exact fun F' H' x l g => h F' σ H' x l g
  | bad => exact h
theorem PostS.ofO {F : Hp} {D : Ends} {σ : St} {o : Out BH.D} {k : BH.D → Sg → SOut} (h : PostS K W F D (SOut.of o k)) :
    PostO K W F σ o (fun b H1 => ∃ q a s1 F1, b = .ref q ∧ Sz H1 ∧ Le F F1 ∧ Gd K W.B W.F0 W.p F1 s1 σ H1 ∧ NewO K W.B F1 W.p s1 σ H1 q a ∧ PostS K W F1 D (k a s1)) := by
  cases o with
  | ok a s => exact fun F' H' q z l g r => ⟨q, a, s, F', rfl, z, l, g, r, PostS.le h l⟩
  | exc c s => exact fun F' H' x l g => h F' σ H' x l g
  | bad => exact h
end
def Ends.sz (D : Ends) : Ends := { nx := fun σ H => Sz H → D.nx σ H, rt := fun v H => Sz H → D.rt v H, bk := fun σ H => Sz H → D.bk σ H, ct := fun σ H => Sz H → D.ct σ H }
section
variable {X : Cx} {W : Wc}
theorem SP.sz {pins : List (Addr × Obj)} {D : Ends} {f : Flow} {s' : Shared} (h : SP X pins (Ends.sz D) f s') : SP X pins D f s' := by
  cases f with
  | next => obtain ⟨σ, H, I, q⟩ := h; exact ⟨σ, H, I, q (Sz.of I.hok)⟩
  | brk => obtain ⟨σ, H, I, q⟩ := h; exact ⟨σ, H, I, q (Sz.of I.hok)⟩
  | cont => obtain ⟨σ, H, I, q⟩ := h; exact ⟨σ, H, I, q (Sz.of I.hok)⟩
  | ret u => obtain ⟨v, σ, H, I, r, q⟩ := h; exact ⟨v, σ, H, I, r, q (Sz.of I.hok)⟩
theorem PS.szw {st : Stmt} {t t' : TS} (h : PS X st t) (k : ∀ D σ H, Sz H → t' D σ H → t (Ends.sz D) σ H) : PS X st t' :=
  ⟨fun pins s σ H D I q => thn (h.run pins s σ H _ I (k D σ H (Sz.of I.hok) q)) fun f s' z => SP.sz z⟩
theorem PSs.szw {st : List Stmt} {t t' : TS} (h : PSs X st t) (k : ∀ D σ H, Sz H → t' D σ H → t (Ends.sz D) σ H) : PSs X st t' :=
  ⟨fun pins s σ H D I q => thn (h.run pins s σ H _ I (k D σ H (Sz.of I.hok) q)) fun f s' z => SP.sz z⟩
abbrev QSt (X : Cx) (W : Wc) (q : QS) (st : Stmt) : Prop := PS X st (tS X.K W (run q))
abbrev QSts (X : Cx) (W : Wc) (q : QSs) (st : List Stmt) : Prop := PSs X st (tS X.K W (runs q))
theorem PostS.hereN {K : PySem.W.Frag} {F H : Hp} {D : Ends} {s : Sg} {σ : St} (h : PostS K W F D (.nx s)) (z : Sz H) (g : Gd K W.B W.F0 W.p F s σ H) : D.nx σ H := h F σ H z (Le.refl _) g
/-! ### in a row -/
theorem ss_nil : QSts X W .nil [] := PSs.szw pss_nil fun D σ H z h z' => by
  obtain ⟨s, F, g, h⟩ := h z
  exact PostS.hereN h z' g
theorem ss_cons {q : QS} {qs : QSs} {st : Stmt} {rest : List Stmt} (h1 : QSt X W q st) (h2 : QSts X W qs rest) : QSts X W (.cons q qs) (st :: rest) :=
  PSs.szw (pss_cons h1 h2) fun D σ H z h => by
    intro z
    obtain ⟨s, F, g, h⟩ := h z
    refine ⟨s, F, g, ?_⟩
    have h' : PostS X.K W F D (match run q s with
      | .nx s => runs qs s
      | o => o) := h
    cases e : run q s with
    | nx s1 =>
      rw [e] at h'
      exact fun F' σ' H' z' l g' _ => ⟨s1, F', g', (PostS.le h' l).mono (fun _ _ a _ => a) (fun _ _ a _ => a) (fun _ _ a _ => a) fun _ _ a _ => a⟩
    | ret d s1 => rw [e] at h'; exact h'.mono (D' := Ends.sz D) (fun _ _ a _ => a) (fun _ _ a _ => a) (fun _ _ a _ => a) fun _ _ a _ => a
    | brk s1 => rw [e] at h'; exact h'.mono (D' := Ends.sz D) (fun _ _ a _ => a) (fun _ _ a _ => a) (fun _ _ a _ => a) fun _ _ a _ => a
    | ct s1 => rw [e] at h'; exact h'.mono (D' := Ends.sz D) (fun _ _ a _ => a) (fun _ _ a _ => a) (fun _ _ a _ => a) fun _ _ a _ => a
    | exc c s1 => rw [e] at h'; exact h'
    | bad => rw [e] at h'; exact h'
theorem s_brk {pos : Pos} : QSt X W .brk (.Break pos) := PS.szw ps_break fun D σ H z h z' => by
  obtain ⟨s, F, g, h⟩ := h z
  exact h F σ H z' (Le.refl _) g
theorem s_cnt {pos : Pos} : QSt X W .cnt (.Continue pos) := PS.szw ps_continue fun D σ H z h z' => by
  obtain ⟨s, F, g, h⟩ := h z
  exact h F σ H z' (Le.refl _) g
theorem s_pass {pos : Pos} : QSt X W .pass (.Pass pos) := PS.szw ps_pass fun D σ H z h z' => by
  obtain ⟨s, F, g, h⟩ := h z
  exact PostS.hereN h z' g
theorem s_retN {pos : Pos} (hf : W.fr = false) : QSt X W .retN (.Return none pos) := PS.szw ps_retN fun D σ H z h z' => by
  obtain ⟨s, F, g, h⟩ := h z
  have h' : PostS X.K W F D (.ret .none s) := h
  rcases h' with ⟨_, h'⟩ | ⟨e, _⟩
  · exact h' F σ H .non z' (Le.refl _) g (.dp .non)
  · rw [hf] at e; cases e
theorem s_ret {q : QE} {e : Expr} {pos : Pos} (h : PX X W q e) (hf : W.fr = false) : QSt X W (.ret q) (.Return (some e) pos) := PS.szw (ps_ret h) fun D σ H z h z => by
  obtain ⟨s, F, g, h⟩ := h z
  have h' : PostS X.K W F D (SOut.of (ev q s) fun d s => .ret d s) := h
  refine ⟨s, F, g, (h'.of (R := RepV X.K)).mono fun v H1 m z1 => ?_⟩
  obtain ⟨d, s1, F1, z2, l1, g1, r1, h1⟩ := m
  rcases h1 with ⟨_, h1⟩ | ⟨e, _⟩
  · exact h1 F1 σ H1 v z1 (Le.refl _) g1 r1
  · rw [hf] at e; cases e
theorem PostO.mono {K : PySem.W.Frag} {F : Hp} {σ : St} {o : Out D} {Q Q' : VK} (h : PostO K W F σ o Q) (k : ∀ v H, Q v H → Q' v H) : PostO K W F σ o Q' := by
  cases o with
  | ok d s => exact fun F' H' q z l g n => k _ _ (h F' H' q z l g n)
  | exc c s => exact h
  | bad => exact h
theorem s_retF {q : QE} {e : Expr} {pos : Pos} (h : PN X W q e) (hf : W.fr = true) : QSt X W (.retF q) (.Return (some e) pos) := PS.szw (ps_ret h) fun D σ H z h z => by
  obtain ⟨s, F, g, h⟩ := h z
  have h' : PostS X.K W F D (SOut.of (ev q s) fun d s => .ret d s) := h
  refine ⟨s, F, g, h'.ofO.mono fun v H1 m z1 => ?_⟩
  obtain ⟨a, d, s1, F1, rfl, z2, l1, g1, r1, h1⟩ := m
  rcases h1 with ⟨e, _⟩ | ⟨_, h1⟩
  · rw [hf] at e; cases e
  · exact h1 F1 σ H1 a z1 (Le.refl _) g1 r1
theorem s_xpr {q : QE} {e : Expr} {pos : Pos} (h : PX X W q e) (hs : swapsWith e none pos.line X.env = pure false := by rfl) : QSt X W (.xpr q) (.Expr e pos) := PS.szw (ps_expr h hs) fun D σ H z h z => by
  obtain ⟨s, F, g, h⟩ := h z
  have h' : PostS X.K W F D (SOut.of (ev q s) fun _ s => .nx s) := h
  refine ⟨s, F, g, (h'.of (R := RepV X.K)).mono fun v H1 m z1 => ?_⟩
  obtain ⟨d, s1, F1, z2, l1, g1, r1, h1⟩ := m
  exact PostS.hereN h1 z1 g1
theorem s_ite {q : QE} {qa qb : QSs} {c : Expr} {a b : List Stmt} {pos : Pos} (hc : PB X W q c) (ha : QSts X W qa a) (hb : QSts X W qb b) : QSt X W (.ite q qa qb) (.If c a b pos) := PS.szw (ps_if hc ha hb) fun D σ H z h z => by
  obtain ⟨s, F, g, h⟩ := h z
  have h' : PostS X.K W F D (SOut.of (tst (ev q s)) fun d s => if d then runs qa s else runs qb s) := h
  refine ⟨s, F, g, (h'.of (R := rT)).mono fun v H1 m => ?_⟩
  obtain ⟨d, s1, F1, z2, l1, g1, r1, h1⟩ := m
  have r1' : v = d := r1
  subst r1'
  cases v with
  | true => exact fun _ => ⟨s1, F1, g1, PostS.mono (show PostS X.K W F1 D (runs qa s1) from h1) (fun _ _ a _ => a) (fun _ _ a _ => a) (fun _ _ a _ => a) fun _ _ a _ => a⟩
  | false => exact fun _ => ⟨s1, F1, g1, PostS.mono (show PostS X.K W F1 D (runs qb s1) from h1) (fun _ _ a _ => a) (fun _ _ a _ => a) (fun _ _ a _ => a) fun _ _ a _ => a⟩
/-! ### names -/
theorem set_road {i : Nat} {q : QE} {D : Ends} {σ : St} {H : Hp} (h : tS X.K W (run (.set i q)) D σ H) : tX X.K W (ev q) σ H (fun v H1 => Sz H1 → D.nx (σ.set i (some v)) H1) := fun z => by
  obtain ⟨s, F, g, h⟩ := h z
  have h' : PostS X.K W F D (SOut.of (ev q s) fun d s => .nx (s.put i (.val d))) := h
  refine ⟨s, F, g, (h'.of (R := RepV X.K)).mono fun v H1 m z1 => ?_⟩
  obtain ⟨d, s1, F1, z2, l1, g1, r1, h1⟩ := m
  exact PostS.hereN h1 z1 (g1.setV r1)
theorem Gd.setN {K : PySem.W.Frag} {B F0 F H : Hp} {p : Option Addr} {s : Sg} {σ : St} {q : Addr} {i : Nat} {d : D} (g : Gd K B F0 p F s σ H) (n : NewO K B F p s σ H q d) : Gd K B F0 p F (s.put i (.own d)) (σ.set i (some (.ref q))) H :=
  g.setO n.b n.f n.np (fun j e h _ => n.o j e h) n.a
theorem own_road {i : Nat} {q : QE} {D : Ends} {σ : St} {H : Hp} (h : tS X.K W (run (.own i q)) D σ H) : tO X.K W (ev q) σ H (fun v H1 => Sz H1 → D.nx (σ.set i (some v)) H1) := fun z => by
  obtain ⟨s, F, g, h⟩ := h z
  have h' : PostS X.K W F D (SOut.of (ev q s) fun d s => (match d with | .list _ => .nx (s.put i (.own d)) | .dict _ => .nx (s.put i (.own d)) | _ => .bad)) := h
  refine ⟨s, F, g, h'.ofO.mono fun v H1 m z1 => ?_⟩
  obtain ⟨a, d, s1, F1, rfl, z2, l1, g1, r1, h1⟩ := m
  cases d with
  | list xs => exact PostS.hereN h1 z1 (g1.setN r1)
  | dict xs => exact PostS.hereN h1 z1 (g1.setN r1)
  | _ => exact h1.elim
theorem s_set {i : Nat} {x : Str} {q : QE} {e : Expr} {pos pos' : Pos} (hN : X.N.Nodup) (h : PX X W q e) (hi : X.N[i]? = some x := by rfl) (hx : Loc X.env.scope x := by first | exact Or.inl rfl | exact Or.inr rfl) (hs : swapsWith e (some (.Name x pos')) pos.line X.env = pure false := by rfl) (hf : X.fn x = true ∨ X.env.scope.names.lookup x = some .local := by first | exact .inl rfl | exact .inr rfl) :
    QSt X W (.set i q) (.Assign [.Name x pos'] e pos) := PS.szw (ps_set hN hi hx h hs hf) fun D σ H z h => set_road h
theorem s_own {i : Nat} {x : Str} {q : QE} {e : Expr} {pos pos' : Pos} (hN : X.N.Nodup) (h : PN X W q e) (hi : X.N[i]? = some x := by rfl) (hx : Loc X.env.scope x := by first | exact Or.inl rfl | exact Or.inr rfl) (hs : swapsWith e (some (.Name x pos')) pos.line X.env = pure false := by rfl) (hf : X.fn x = true ∨ X.env.scope.names.lookup x = some .local := by first | exact .inl rfl | exact .inr rfl) :
    QSt X W (.own i q) (.Assign [.Name x pos'] e pos) := PS.szw (ps_set hN hi hx h hs hf) fun D σ H z h => own_road h
/-- name = [..], the list bound in the block already -/
theorem s_ownC {i : Nat} {y : Str} {py spos : Pos} {elt tg iter : Expr} {ifs : List Expr} {scope : Scope} {pos : Pos} {qe : QE} {t : QP} {qi : QI} {qc : QEs} (own : List (Str × Nat)) (hc : X.calm = true) (hN : X.N.Nodup) (hi : PXI X W qi tg iter) (ok : blkC X.N X.env.scope scope own = true) (ho : own.map (·.2) = t.slots)
    (hg : ∀ (s : Shared) (H : Hp) (C : Addr) (cl : List (Str × Addr)) (fp : List Addr), PG (X.blk s H scope (compEnvC scope cl C X.env) fp) tg (gT X.K t))
    (ht : ∀ (s : Shared) (H : Hp) (C : Addr) (cl : List (Str × Addr)) (fp : List Addr), PTs (X.blk s H scope (compEnvC scope cl C X.env) fp) ifs (eXT X.K (evc qc)))
    (he : ∀ (s : Shared) (H : Hp) (C : Addr) (cl : List (Str × Addr)) (fp : List Addr) (B F0 : Hp) (p : Option Addr), PX (X.blk s H scope (compEnvC scope cl C X.env) fp) (Wn B F0 p) qe elt)
    (hy : X.N[i]? = some y := by rfl) (hyl : X.env.scope.names.lookup y = some .local := by rfl) (hk : X.env.scope.kind = .function := by rfl) (hl : (py.line == pos.line) = true := by rfl) (hsc : (scope.names.any fun (n, k) => n == y && (k == .local || k == .cell)) = false := by rfl) (hs : ∀ x, foldedSetIterable iter X.env x = pure x := by intro _; rfl) :
    QSt X W (.own i (.comp qe t qi qc)) (.Assign [.Name y py] (.ListComp elt [⟨tg, iter, ifs, 0⟩] scope pos) spos) :=
  PS.szw (ps_setLc hc hN hy hyl (sw_true hk hyl hl hsc) hi (blkOk_by ok) hg ht (fun s H C cl fp => e_x (he s H C cl fp)) hs) fun D σ H z h => by
    rw [ho]
    have := lc_road (own_road h)
    intro z
    obtain ⟨s, F, g, q⟩ := this z
    exact ⟨s, F, g, q.mono fun J H1 k D2 hD => by
      obtain ⟨W2, w1, w2⟩ := k D2 hD
      refine ⟨W2, w1, fun i m H hw => (w2 i m H hw).imp (fun ⟨a, b⟩ => ⟨a, fun z => b z z⟩) fun k => k⟩⟩
theorem s_setC {i : Nat} {y : Str} {py spos : Pos} {elt tg iter : Expr} {ifs : List Expr} {scope : Scope} {pos : Pos} {qe : QE} {t : QP} {qi : QI} {qc : QEs} (own : List (Str × Nat)) (hc : X.calm = true) (hN : X.N.Nodup) (hi : PXI X W qi tg iter) (ok : blkC X.N X.env.scope scope own = true) (ho : own.map (·.2) = t.slots)
    (hg : ∀ (s : Shared) (H : Hp) (C : Addr) (cl : List (Str × Addr)) (fp : List Addr), PG (X.blk s H scope (compEnvC scope cl C X.env) fp) tg (gT X.K t))
    (ht : ∀ (s : Shared) (H : Hp) (C : Addr) (cl : List (Str × Addr)) (fp : List Addr), PTs (X.blk s H scope (compEnvC scope cl C X.env) fp) ifs (eXT X.K (evc qc)))
    (he : ∀ (s : Shared) (H : Hp) (C : Addr) (cl : List (Str × Addr)) (fp : List Addr) (B F0 : Hp) (p : Option Addr), PX (X.blk s H scope (compEnvC scope cl C X.env) fp) (Wn B F0 p) qe elt)
    (hy : X.N[i]? = some y := by rfl) (hyl : X.env.scope.names.lookup y = some .local := by rfl) (hk : X.env.scope.kind = .function := by rfl) (hl : (py.line == pos.line) = true := by rfl) (hsc : (scope.names.any fun (n, k) => n == y && (k == .local || k == .cell)) = false := by rfl) (hs : ∀ x, foldedSetIterable iter X.env x = pure x := by intro _; rfl) :
    QSt X W (.set i (.comp qe t qi qc)) (.Assign [.Name y py] (.ListComp elt [⟨tg, iter, ifs, 0⟩] scope pos) spos) :=
  PS.szw (ps_setLc hc hN hy hyl (sw_true hk hyl hl hsc) hi (blkOk_by ok) hg ht (fun s H C cl fp => e_x (he s H C cl fp)) hs) fun D σ H z h => by
    rw [ho]
    have h1 := set_road h
    have h2 : tO X.K W (ev (.comp qe t qi qc)) σ H (fun v H1 => Sz H1 → D.nx (σ.set i (some v)) H1) := fun z => by
      obtain ⟨s, F, g, q⟩ := h1 z
      refine ⟨s, F, g, ?_⟩
      cases e : ev (.comp qe t qi qc) s with
      | bad => rw [e] at q; exact q.elim
      | exc c s1 => rw [e] at q; exact q
      | ok d s1 =>
        rw [e] at q
        intro F' H' a z1 l g1 n z2
        obtain ⟨F2, l2, g2, r⟩ := g1.adopt n
        exact q F2 H' _ z1 (l.trans l2) g2 r z2
    intro z
    obtain ⟨s, F, g, q⟩ := lc_road h2 z
    exact ⟨s, F, g, q.mono fun J H1 k D2 hD => by
      obtain ⟨W2, w1, w2⟩ := k D2 hD
      refine ⟨W2, w1, fun i m H hw => (w2 i m H hw).imp (fun ⟨a, b⟩ => ⟨a, fun z => b z z⟩) fun k => k⟩⟩
theorem s_unp {t : QP} {tg e : Expr} {q : QE} {pos : Pos} (h : PX X W q e) (hg : PG X tg (gT X.K t)) (hs : swapsWithSole [tg] e pos.line X.env = pure false := by rfl) (hw : swappedStores [tg] e X.env = pure none := by rfl)
    (h1 : (assignEach [tg] X.env).map (·.2) = [assign tg X.env] := by rfl) : QSt X W (.unp t q) (.Assign [tg] e pos) := PS.szw (ps_asg h hg hs hw h1) fun D σ H z h z => by
  obtain ⟨s, F, g, h⟩ := h z
  have h' : PostS X.K W F D (SOut.of (ev q s) fun d s => (match t.asg d s with | some s => .nx s | none => .bad)) := h
  refine ⟨s, F, g, (h'.of (R := RepV X.K)).mono fun v H1 m => ?_⟩
  obtain ⟨d, s1, F1, z2, l1, g1, r1, h1⟩ := m
  cases e : t.asg d s1 with
  | none => rw [e] at h1; exact h1.elim
  | some s2 =>
    rw [e] at h1
    exact gT_ok t r1 e g1 fun σ' g' _ z3 => PostS.hereN h1 z3 g'
theorem s_unpP {t u : QP} {tg ea eb : Expr} {qa qb : QE} {k2 : Nat} {pt2 pos : Pos} (ha : PX X W qa ea) (hb : PX X W qb eb) (hg : PG X tg (gT X.K (.tp t u)))
    (e1 : starEach [ea, eb] X.env = (false, eval ea X.env) :: starEach [eb] X.env := by rfl) (e2 : starEach [eb] X.env = (false, eval eb X.env) :: starEach [] X.env := by rfl)
    (hs : swapsWithSole [tg] (.Tuple [ea, eb] k2 pt2) pos.line X.env = pure false := by rfl) (hw : swappedStores [tg] (.Tuple [ea, eb] k2 pt2) X.env = pure none := by rfl)
    (h1 : (assignEach [tg] X.env).map (·.2) = [assign tg X.env] := by rfl) : QSt X W (.unpP t u qa qb) (.Assign [tg] (.Tuple [ea, eb] k2 pt2) pos) :=
  PS.szw (ps_asg (pe_tupF (xa_cons ha (xa_cons hb xa_nil e2) e1)) hg hs hw h1) fun D σ H z h z => by
    obtain ⟨s, F, g, h⟩ := h z
    have h' : PostS X.K W F D (SOut.of (evs (.cons qa (.cons qb .nil)) s) fun ds s => (match ds with
      | [x, y] => (match ((t.asg x s).bind fun s => u.asg y s) with | some s => .nx s | none => .bad)
      | _ => .bad)) := h
    refine ⟨s, F, g, (h'.of (R := RepA X.K)).mono fun vs H1 m => ?_⟩
    obtain ⟨ds, s1, F1, z2, l1, g1, r1, h1⟩ := m
    match ds, r1, h1 with
    | [x, y], r1, h1 =>
      obtain ⟨v1, v2, rfl, rx, ry⟩ := repA2 r1
      refine ⟨by show 2 ≤ sizeLine; decide, fun p o hp ho => ?_⟩
      have h1' : PostS X.K W F1 D (match ((t.asg x s1).bind fun s => u.asg y s) with | some s => .nx s | none => .bad) := h1
      cases e : ((t.asg x s1).bind fun s => u.asg y s) with
      | none => rw [e] at h1'; exact h1'.elim
      | some s2 =>
        rw [e] at h1'
        have st : Stp none F1 H1 (upd F1 p (.frz o (.tup [v1, v2]))) (upd H1 p (.frz o (.tup [v1, v2]))) := Stp.new g1.fh hp
        have g2 := g1.stepK st
        have h2 := PostS.le h1' st.ff
        cases e3 : t.asg x s1 with
        | none => rw [e3] at e; cases e
        | some s3 =>
          rw [e3] at e
          exact ⟨p, [v1, v2], rfl, .inl (.inr ⟨o, upd_same⟩), rfl, v1, [v2], rfl, gT_ok t (rx.mono st.ff) e3 g2 fun σ1 g3 w1 => ⟨v2, [], rfl, gT_ok u (ry.mono st.ff) e g3 fun σ2 g4 w2 => ⟨rfl, fun z3 => PostS.hereN h2 z3 g4⟩⟩⟩
    | [], _, h1 => exact h1.elim
    | [_], _, h1 => exact h1.elim
    | _ :: _ :: _ :: _, _, h1 => exact h1.elim
theorem s_par {i j : Nat} {x y : Str} {a b : Expr} {qa qb : QE} {px py pt : Pos} {kt k2 : Nat} {pt2 pos : Pos} (hc : X.calm = true) (hN : X.N.Nodup) (ha : PX X W qa a) (hb : PX X W qb b) (hij : i ≠ j) (hi : X.N[i]? = some x := by rfl) (hj : X.N[j]? = some y := by rfl)
    (hx : X.env.scope.names.lookup x = some .local := by rfl) (hy : X.env.scope.names.lookup y = some .local := by rfl)
    (hw : swappedStores [.Tuple [.Name x px, .Name y py] kt pt] (.Tuple [a, b] k2 pt2) X.env = pure (some [x, y]) := by rfl)
    (hs : swapsWithSole [.Tuple [.Name x px, .Name y py] kt pt] (.Tuple [a, b] k2 pt2) pos.line X.env = pure false := by rfl)
    (h1 : starEach [a, b] X.env = (false, eval a X.env) :: starEach [b] X.env := by rfl) (h2 : starEach [b] X.env = (false, eval b X.env) :: starEach [] X.env := by rfl) :
    QSt X W (.par i j qa qb) (.Assign [.Tuple [.Name x px, .Name y py] kt pt] (.Tuple [a, b] k2 pt2) pos) :=
  PS.szw (ps_par hc hN hi hj hij hx hy (pa_cons ha (pa_cons hb pa_nil h2) h1) hw hs) fun D σ H z h z => by
    obtain ⟨s, F, g, h⟩ := h z
    have h' : PostS X.K W F D (SOut.of (ev qa s) fun x s => SOut.of (ev qb s) fun y s => .nx ((s.put i (.val x)).put j (.val y))) := h
    refine ⟨s, F, g, (h'.of (R := RepV X.K)).mono fun v H1 m => ?_⟩
    obtain ⟨d, s1, F1, z2, l1, g1, r1, h1⟩ := m
    refine fun _ => ⟨s1, F1, g1, (h1.of (R := RepV X.K)).mono fun u H2 m2 => ?_⟩
    obtain ⟨d2, s2, F2, z3, l2, g2, r2, h2⟩ := m2
    exact ⟨v, u, rfl, fun z4 => PostS.hereN h2 z4 ((g2.setV (r1.mono l2)).setV r2)⟩
theorem s_parO {i j : Nat} {x y : Str} {a b : Expr} {qa qb : QE} {px py pt : Pos} {kt k2 : Nat} {pt2 pos : Pos} (hc : X.calm = true) (hN : X.N.Nodup) (ha : PX X W qa a) (hb : PN X W qb b) (hij : i ≠ j) (hi : X.N[i]? = some x := by rfl) (hj : X.N[j]? = some y := by rfl)
    (hx : X.env.scope.names.lookup x = some .local := by rfl) (hy : X.env.scope.names.lookup y = some .local := by rfl)
    (hw : swappedStores [.Tuple [.Name x px, .Name y py] kt pt] (.Tuple [a, b] k2 pt2) X.env = pure (some [x, y]) := by rfl)
    (hs : swapsWithSole [.Tuple [.Name x px, .Name y py] kt pt] (.Tuple [a, b] k2 pt2) pos.line X.env = pure false := by rfl)
    (h1 : starEach [a, b] X.env = (false, eval a X.env) :: starEach [b] X.env := by rfl) (h2 : starEach [b] X.env = (false, eval b X.env) :: starEach [] X.env := by rfl) :
    QSt X W (.parO i j qa qb) (.Assign [.Tuple [.Name x px, .Name y py] kt pt] (.Tuple [a, b] k2 pt2) pos) :=
  PS.szw (ps_par hc hN hi hj hij hx hy (pa_cons ha (pa_cons hb pa_nil h2) h1) hw hs) fun D σ H z h z => by
    obtain ⟨s, F, g, h⟩ := h z
    have h' : PostS X.K W F D (SOut.of (ev qa s) fun x s => SOut.of (ev qb s) fun y s => (match y with | .list _ => .nx ((s.put i (.val x)).put j (.own y)) | _ => .bad)) := h
    refine ⟨s, F, g, (h'.of (R := RepV X.K)).mono fun v H1 m => ?_⟩
    obtain ⟨d, s1, F1, z2, l1, g1, r1, h1⟩ := m
    refine fun _ => ⟨s1, F1, g1, h1.ofO.mono fun u H2 m2 => ?_⟩
    obtain ⟨q, d2, s2, F2, rfl, z3, l2, g2, n2, h2⟩ := m2
    refine ⟨v, .ref q, rfl, fun z4 => ?_⟩
    cases d2 with
    | list xs =>
      refine PostS.hereN h2 z4 ((g2.setV (r1.mono l2)).setO n2.b n2.f n2.np (fun k e h nk => ?_) n2.a)
      rcases set_at h with ⟨_, q, _⟩ | ⟨ne, h⟩
      · cases q
      · rw [List.getElem?_set_ne ne]; exact n2.o k e h
    | _ => exact h2.elim
/-! ### for -/
theorem s_fr {t : QP} {qi : QI} {qb : QSs} {tg iter : Expr} {body : List Stmt} {pos : Pos} (hp : PassesOwn (model X.prog X.w) X.A X.env X.xe) (hc : X.calm = true) (hi : PXI X W qi tg iter) (hg : PG X tg (gT X.K t)) (hb : QSts X W qb body) (hs : ∀ x, foldedSetIterable iter X.env x = pure x := by intro _; rfl) :
    QSt X W (.fr t qi qb) (.For tg iter body [] pos) := by
  refine PS.szw (ps_for hp hc hi hg hb hs) fun D σ H z h z => ?_
  obtain ⟨s, F, g, h⟩ := h z
  have h' : PostS X.K W F D (match evi qi s with
    | .ok ds s => frL (fun d s => match t.asg d s with | some s => runs qb s | none => .bad) ds s
    | .exc c s => .exc c s
    | .bad => .bad) := h
  refine ⟨s, F, g, ?_⟩
  cases e : evi qi s with
  | bad => rw [e] at h'; exact h'.elim
  | exc c s1 => rw [e] at h'; exact fun F' H' x l g => h' F' σ H' x l g
  | ok ds s1 =>
    rw [e] at h'
    intro F1 H1 J z1 l1 g1 wk
    let f : BH.D → Sg → SOut := fun d s => match t.asg d s with | some s => runs qb s | none => .bad
    refine for_it wk.w (D := Ends.sz D) (fun i σ H => ∃ s F, Le F1 F ∧ Gd X.K W.B W.F0 W.p F s σ H ∧ PostS X.K W F D (frL f (ds.drop i) s)) ⟨s1, F1, Le.refl _, g1, by rw [List.drop_zero]; exact PostS.le h' l1⟩ (fun i σ H _ p => ?_) (fun i x σ H H' hi p y => ?_) fun σ H p => ?_
    · obtain ⟨s, F, l, g, _⟩ := p
      exact l.trans g.fh
    · obtain ⟨s, F, l, g, p⟩ := p
      obtain ⟨F2, d, tt, ed, rd⟩ := y F l g.fh
      have g2 := g.stepK tt
      obtain ⟨hid, ed'⟩ := List.getElem?_eq_some_iff.mp ed
      rw [List.drop_eq_getElem_cons hid, ed'] at p
      have p' : PostS X.K W F D (match f d s with
        | .nx s => frL f (ds.drop (i + 1)) s
        | .ct s => frL f (ds.drop (i + 1)) s
        | .brk s => .nx s
        | .ret d s => .ret d s
        | .exc c s => .exc c s
        | .bad => .bad) := p
      cases q1 : t.asg d s with
      | none =>
        have : f d s = .bad := by show (match t.asg d s with | some s => runs qb s | none => .bad) = _; rw [q1]
        rw [this] at p'; exact p'.elim
      | some s3 =>
        have ef : f d s = runs qb s3 := by show (match t.asg d s with | some s => runs qb s | none => .bad) = _; rw [q1]
        rw [ef] at p'
        refine gT_ok t rd q1 g2 fun σ2 g3 _ z3 => ⟨s3, F2, g3, ?_⟩
        have p2 := PostS.le p' tt.ff
        have l2 := l.trans tt.ff
        cases e2 : runs qb s3 with
        | nx s4 => rw [e2] at p2; exact fun F' σ' H' z' l' g' => ⟨s4, F', l2.trans l', g', PostS.le p2 l'⟩
        | ct s4 => rw [e2] at p2; exact fun F' σ' H' z' l' g' => ⟨s4, F', l2.trans l', g', PostS.le p2 l'⟩
        | brk s4 => rw [e2] at p2; exact fun F' σ' H' z' l' g' _ => p2 F' σ' H' z' l' g'
        | ret d s4 => rw [e2] at p2; exact PostS.mono (D' := Ends.sz D) (K := X.K) (W := W) (F := F2) (o := .ret d s4) p2 (fun _ _ a _ => a) (fun _ _ a _ => a) (fun _ _ a _ => a) fun _ _ a _ => a
        | exc c s4 => rw [e2] at p2; exact p2
        | bad => rw [e2] at p2; exact p2
    · obtain ⟨s, F, l, g, p⟩ := p
      rw [List.drop_length] at p
      exact fun z3 => PostS.hereN p z3 g
end
end L2.BH
set_option maxHeartbeats 1000000
/-! Rules: statements on lists held alone, exceptions; defs. -/
namespace L2.BH
open PySem PySem.Spec PyProof.Rows
theorem Stp.wr {F H : Hp} {a : Addr} {o : HO} (l : Le F H) (hf : F a = none) : Stp (some a) F H F (upd H a o) :=
  ⟨Le.refl _, fun b u e => by rw [upd_ne (fun z => by rw [z, hf] at e; cases e)]; exact l b u e, fun b u e n => by rw [upd_ne (fun z => n (by rw [z]))]; exact e, fun _ _ h => h⟩
section
variable {X : Cx} {W : Wc}
/-- the argument's list may be known too -/
theorem mt_extendR : MtR X "list.extend" (fun x vs H Q => ∃ l b xs zs, x = .ref l ∧ vs = [.ref b] ∧ H l = some (.lst xs) ∧ Rd H b (.lst zs) ∧ xs.length + zs.length ≤ sizeLine ∧ Q .non (upd H l (.lst (xs ++ zs)))) := by
  intro pins s σ H x vs v us Q I rx rv h
  obtain ⟨l, b, xs, zs, rfl, rfl, hH, hB, hz, q⟩ := h
  cases rx
  obtain ⟨u, rfl, ru⟩ := rv.one
  cases ru
  obtain ⟨z, its, n, r, hl, e⟩ := I.lstM hH
  obtain ⟨z2, its2, n2, r2, hl2, e2⟩ := rd_lst I hB
  have hsz : its.toArray.size + its2.toArray.size ≤ sizeLine := by rw [List.size_toArray, List.size_toArray]; omega
  have hlong : ¬ (!its.toArray.isEmpty && Builtin.List.listTooLong (its.toArray.size + its2.toArray.size)) = true := by
    rw [notLongL hsz, Bool.and_false]
    exact Bool.false_ne_true
  refine call_meets F.slot_list_extend ⟨_, e, rfl⟩ F.entry_list_extend (F.args_list_extend_2 _ _)
    (AutoSeq1.list_extend_list_list_0 l its.toArray n b its2.toArray n2 hlong (by rw [List.size_toArray]; omega) (by omega)) ⟨e, e2, ?_⟩
  refine ⟨.non, _, I.lset (its' := its ++ its2) hH e (by simp) (r.append r2) ?_, rfl, q⟩
  rw [List.length_append]
  omega
theorem own_at {K : PySem.W.Frag} {B F0 F H : Hp} {p : Option Addr} {s : Sg} {σ : St} {i : Nat} {xs : List D} (g : Gd K B F0 p F s σ H) (e : s.cs[i]? = some (.own (.list xs))) : ∃ a vs, σ[i]? = some (some (.ref a)) ∧ H a = some (.lst vs) ∧ F a = none ∧ RpAll K F vs xs := by
  obtain ⟨ρ, c1, _⟩ := g.cs
  obtain ⟨a, _, e2, _, e4, _, vs, h1, h2⟩ := c1 i _ e
  exact ⟨a, vs, e2, h1, e4, h2⟩
theorem isOL_own {c : Option Cell} (h : isOL c = true) : ∃ xs, c = some (.own (.list xs)) := by
  unfold isOL at h
  split at h
  · exact ⟨_, rfl⟩
  · cases h
theorem s_app {i : Nat} {x : Str} {q : QE} {e : Expr} {np apos cpos pos : Pos} (h : PX X W q e) (hN : X.N[i]? = some x := by rfl) (hv : Vis X.env.scope x := by first | exact Or.inl rfl | exact Or.inr (Or.inl rfl) | exact Or.inr (Or.inr rfl)) (hd : (x == ("__debug__" : Str)) = false := by decide) (hcd : (x == ("__classdict__" : Str)) = false := by decide)
    (hs : swapsWith (.Call (.Attribute (.Name x np) "append" apos) [e] [] cpos) none pos.line X.env = pure false := by rfl)
    (hbase : attributeBase (.Name x np) "append" X.env (eval (.Name x np) X.env) = eval (.Name x np) X.env := by rfl)
    (hfew : ((backTo cpos (starEach [e] X.env)).all (fun x => !x.1) && (backToKw cpos (keywordEach [] X.env)).all (fun x => x.1.isSome)
      && decide ([e].length + ([] : List Keyword).length + (if ([] : List Keyword).isEmpty then 0 else 1) < 30)) = true := by rfl)
    (hline : (apos.endLine == cpos.line) = true := by rfl) (hst : starEach [e] X.env = (false, eval e X.env) :: starEach [] X.env := by rfl) :
    QSt X W (.app i q) (.Expr (.Call (.Attribute (.Name x np) "append" apos) [e] [] cpos) pos) :=
  PS.szw (ps_expr (pe_bm F.plainAttrs_list F.slot_list_append F.type_list_append mt_append (pe_var hN hv hd hcd) (pa_cons h pa_nil hst) hbase hfew hline hst rfl) hs) fun D σ H z h => by
    obtain ⟨s, F, g, h⟩ := h z
    have h' : PostS X.K W F D (if isOL s.cs[i]? then SOut.of (ev q s) fun d s => (match s.cs[i]? with
      | some (.own (.list xs)) => if !isD d && decide (xs.length < sizeLine) then .nx (s.put i (.own (.list (xs ++ [d])))) else .bad
      | _ => .bad) else .bad) := h
    split at h'
    · rename_i ho
      obtain ⟨xs0, e0⟩ := isOL_own ho
      obtain ⟨a, vs0, ea, ha0, _, _⟩ := own_at g e0
      refine ⟨.ref a, ea, .inl ⟨rfl, vs0, .inl (.inl ha0)⟩, fun _ => ⟨s, F, g, (h'.of (R := RepV X.K)).mono fun y H1 m => ?_⟩⟩
      obtain ⟨d, s1, F1, z1, l1, g1, r1, h1⟩ := m
      try dsimp only at h1
      split at h1
      · rename_i xs e1
        split at h1
        · rename_i hc
          rw [Bool.and_eq_true, decide_eq_true_eq] at hc
          obtain ⟨a', vs, ea', ha, fa, ra⟩ := own_at g1 e1
          rw [ea] at ea'
          cases ea'
          have hlen := dpAll_len ra
          refine ⟨a, vs, y, rfl, rfl, ha, by omega, fun z3 => ?_⟩
          exact PostS.hereN h1 z3 (g1.stepOwn e1 ea (Stp.wr g1.fh fa) upd_same (dpAll_app ra (.cons (r1.toDp (by simpa using hc.1)) .nil)))
        · exact h1.elim
      · exact h1.elim
    · exact h'.elim
theorem s_ext {i : Nat} {x : Str} {q : QE} {e : Expr} {np apos cpos pos : Pos} (h : PX X W q e) (hN : X.N[i]? = some x := by rfl) (hv : Vis X.env.scope x := by first | exact Or.inl rfl | exact Or.inr (Or.inl rfl) | exact Or.inr (Or.inr rfl)) (hd : (x == ("__debug__" : Str)) = false := by decide) (hcd : (x == ("__classdict__" : Str)) = false := by decide)
    (hs : swapsWith (.Call (.Attribute (.Name x np) "extend" apos) [e] [] cpos) none pos.line X.env = pure false := by rfl)
    (hbase : attributeBase (.Name x np) "extend" X.env (eval (.Name x np) X.env) = eval (.Name x np) X.env := by rfl)
    (hfew : ((backTo cpos (starEach [e] X.env)).all (fun x => !x.1) && (backToKw cpos (keywordEach [] X.env)).all (fun x => x.1.isSome)
      && decide ([e].length + ([] : List Keyword).length + (if ([] : List Keyword).isEmpty then 0 else 1) < 30)) = true := by rfl)
    (hline : (apos.endLine == cpos.line) = true := by rfl) (hst : starEach [e] X.env = (false, eval e X.env) :: starEach [] X.env := by rfl) :
    QSt X W (.ext i q) (.Expr (.Call (.Attribute (.Name x np) "extend" apos) [e] [] cpos) pos) :=
  PS.szw (ps_expr (pe_bm F.plainAttrs_list F.slot_list_extend F.type_list_extend mt_extendR (pe_var hN hv hd hcd) (pa_cons h pa_nil hst) hbase hfew hline hst rfl) hs) fun D σ H z h => by
    obtain ⟨s, F, g, h⟩ := h z
    have h' : PostS X.K W F D (if isOL s.cs[i]? then SOut.of (ev q s) fun d s => (match s.cs[i]?, d with
      | some (.own (.list xs)), .list ys => if xs.length + ys.length ≤ sizeLine then .nx (s.put i (.own (.list (xs ++ ys)))) else .bad
      | _, _ => .bad) else .bad) := h
    split at h'
    · rename_i ho
      obtain ⟨xs0, e0⟩ := isOL_own ho
      obtain ⟨a, vs0, ea, ha0, _, _⟩ := own_at g e0
      refine ⟨.ref a, ea, .inl ⟨rfl, vs0, .inl (.inl ha0)⟩, fun _ => ⟨s, F, g, (h'.of (R := RepV X.K)).mono fun y H1 m => ?_⟩⟩
      obtain ⟨d, s1, F1, z1, l1, g1, r1, h1⟩ := m
      try dsimp only at h1
      split at h1
      · rename_i xs ys e1
        split at h1
        · rename_i hc
          obtain ⟨a', vs, ea', ha, fa, ra⟩ := own_at g1 e1
          rw [ea] at ea'
          cases ea'
          obtain ⟨b, ws, rfl, hb, rb⟩ := rep_lst r1
          have hlen := dpAll_len ra
          have hlen2 := dpAll_len rb
          refine ⟨a, b, vs, ws, rfl, rfl, ha, g1.fh.rd hb, by omega, fun z3 => ?_⟩
          exact PostS.hereN h1 z3 (g1.stepOwn e1 ea (Stp.wr g1.fh fa) upd_same (dpAll_app ra rb))
        · exact h1.elim
      · exact h1.elim
    · exact h'.elim
theorem s_put {i : Nat} {x : Str} {qk q : QE} {ek e : Expr} {np spos pos : Pos} (h : PX X W q e) (hk : PX X W qk ek) (hN : X.N[i]? = some x := by rfl) (hv : Vis X.env.scope x := by first | exact Or.inl rfl | exact Or.inr (Or.inl rfl) | exact Or.inr (Or.inr rfl)) (hd : (x == ("__debug__" : Str)) = false := by decide) (hcd : (x == ("__classdict__" : Str)) = false := by decide)
    (ha : ∀ v, assign (.Subscript (.Name x np) ek spos) X.env v = (do
      let ov ← holding [v] (eval (.Name x np) X.env)
      let iv ← holding [v, ov] (eval ek X.env)
      standAt spos
      holding [v, ov, iv] (setItem ov iv v)
      release [v, ov, iv] []) := by intro _; rfl)
    (hs : swapsWithSole [.Subscript (.Name x np) ek spos] e pos.line X.env = pure false := by rfl) (hw : swappedStores [.Subscript (.Name x np) ek spos] e X.env = pure none := by rfl)
    (h1 : (assignEach [.Subscript (.Name x np) ek spos] X.env).map (·.2) = [assign (.Subscript (.Name x np) ek spos) X.env] := by rfl) :
    QSt X W (.put i qk q) (.Assign [.Subscript (.Name x np) ek spos] e pos) :=
  PS.szw (ps_asg h (pg_sub (pe_var hN hv hd hcd) hk set_list ha) hs hw h1) fun D σ H z h z => by
    obtain ⟨s, F, g, h⟩ := h z
    have h' : PostS X.K W F D (SOut.of (ev q s) fun d s => if isO s.cs[i]? then SOut.of (ev qk s) fun j s => (match s.cs[i]?, j with
      | some (.own (.list xs)), .int j => (match isD d, ixN xs.length j with | false, some n => .nx (s.put i (.own (.list (xs.set n d)))) | _, _ => .bad)
      | some .drw, .int j => (match isD d, ixN s.dr.length j with | false, some n => .nx { s with dr := s.dr.set n d } | _, _ => .bad)
      | _, _ => .bad) else .bad) := h
    refine ⟨s, F, g, (h'.of (R := RepV X.K)).mono fun v H1 m => ?_⟩
    obtain ⟨d, s1, F1, z1, l1, g1, r1, h1⟩ := m
    try dsimp only at h1
    split at h1
    · rename_i ho
      obtain ⟨ρ, c1, _⟩ := g1.cs
      have at_ : ∃ a, σ[i]? = some (some (.ref a)) := by
        cases q0 : s1.cs[i]? with
        | none => rw [q0] at ho; cases ho
        | some c =>
          cases c with
          | no => rw [q0] at ho; cases ho
          | val d => rw [q0] at ho; cases ho
          | own d => obtain ⟨a, _, e, _⟩ := c1 i _ q0; exact ⟨a, e⟩
          | drw => obtain ⟨a, _, e⟩ := c1 i _ q0; exact ⟨a, e⟩
      obtain ⟨a, ea⟩ := at_
      refine ⟨.ref a, ea, fun _ => ⟨s1, F1, g1, (h1.of (R := RepV X.K)).mono fun y H2 m2 => ?_⟩⟩
      obtain ⟨j, s2, F2, z2, l2, g2, r2, h2⟩ := m2
      try dsimp only at h2
      split at h2
      · rename_i xs k e1
        split at h2
        · rename_i n hd hn
          obtain ⟨a', vs, ea', ha, fa, ra⟩ := own_at g2 e1
          rw [ea] at ea'
          cases ea'
          cases rep_int r2
          refine ⟨a, vs, k, n, rfl, rfl, ha, by rw [dpAll_len ra]; exact hn, fun z3 => ?_⟩
          exact PostS.hereN h2 z3 (g2.stepOwn e1 ea (Stp.wr g2.fh fa) upd_same (dpAll_set ((r1.mono l2).toDp hd) n ra))
        · exact h2.elim
      · rename_i k e1
        split at h2
        · rename_i n hd hn
          obtain ⟨ρ2, c2, _⟩ := g2.cs
          obtain ⟨a', pa, ea'⟩ := c2 i _ e1
          rw [ea] at ea'
          cases ea'
          obtain ⟨fa, vs, ha, ra⟩ := g2.dr a pa
          cases rep_int r2
          refine ⟨a, vs, k, n, rfl, rfl, ha, by rw [dpAll_len ra]; exact hn, fun z3 => ?_⟩
          refine PostS.hereN h2 z3 (g2.step (by rw [pa]; exact Stp.wr g2.fh fa) fun b pb => ?_)
          rw [pa] at pb
          cases pb
          exact ⟨_, upd_same, dpAll_set ((r1.mono l2).toDp hd) n ra⟩
        · exact h2.elim
      · exact h2.elim
    · exact h1.elim
def augO : Op2 → Operator := op2
def rAug (o : Op2) : V → V → Hp → VK → Prop := fun x y H Q => ∃ i j, x = .int i ∧ y = .int j ∧ (match o with
  | .add => Q (.int (i + j)) H
  | .sub => Q (.int (i - j)) H
  | .mul => mulOk i j = true ∧ Q (.int (i * j)) H
  | _ => False)
theorem ip_aug (o : Op2) : PIp X (op2 o) (rAug o) := by
  intro pins s σ H x y v u Q I rx ry h
  obtain ⟨i, j, rfl, rfl, h⟩ := h
  cases o with
  | add => exact iop_add pins s σ H _ _ v u Q I rx ry ⟨i, j, rfl, rfl, h⟩
  | sub => exact iop_sub pins s σ H _ _ v u Q I rx ry ⟨i, j, rfl, rfl, h⟩
  | mul =>
    obtain ⟨t, rfl⟩ := rx
    obtain ⟨t', rfl⟩ := ry
    exact imul_int ⟨.int _, H, I.tok _, ⟨_, rfl⟩, h.2⟩ (mulOk_ok h.1)
  | mod => exact h.elim
  | fdiv => exact h.elim
theorem s_aug {i : Nat} {x : Str} {o : Op2} {q : QE} {e : Expr} {np pos : Pos} (hND : X.N.Nodup) (h : PX X W q e) (hN : X.N[i]? = some x := by rfl) (hx : Loc X.env.scope x := by first | exact Or.inl rfl | exact Or.inr rfl) (hf : X.fn x = true ∨ X.env.scope.names.lookup x = some .local := by first | exact .inl rfl | exact .inr rfl) :
    QSt X W (.aug i o q) (.AugAssign (.Name x np) (op2 o) e pos) :=
  PS.szw (ps_aug hND hN hx h (ip_aug o) hf) fun D σ H z h => by
    obtain ⟨s, F, g, h⟩ := h z
    have h' : PostS X.K W F D (match s.cs[i]? with
      | some (.val (.int x)) => SOut.of (ev q s) fun d s => (match (generalizing := false) o, d with
        | .add, .int y => .nx (s.put i (.val (.int (x + y))))
        | .sub, .int y => .nx (s.put i (.val (.int (x - y))))
        | .mul, .int y => if mulOk x y then .nx (s.put i (.val (.int (x * y)))) else .bad
        | _, _ => .bad)
      | _ => .bad) := h
    split at h'
    · rename_i k e0
      obtain ⟨ρ, c1, _⟩ := g.cs
      obtain ⟨v, ev0, r0⟩ := c1 i _ e0
      cases rep_int r0
      refine ⟨.int k, ev0, fun _ => ⟨s, F, g, (h'.of (R := RepV X.K)).mono fun y H1 m => ?_⟩⟩
      obtain ⟨d, s1, F1, z1, l1, g1, r1, h1⟩ := m
      try dsimp only at h1
      split at h1
      · cases rep_int r1
        exact ⟨_, _, rfl, rfl, fun z3 => PostS.hereN h1 z3 (g1.setV (.dp (.int _)))⟩
      · cases rep_int r1
        exact ⟨_, _, rfl, rfl, fun z3 => PostS.hereN h1 z3 (g1.setV (.dp (.int _)))⟩
      · split at h1
        · rename_i hm
          cases rep_int r1
          exact ⟨_, _, rfl, rfl, hm, fun z3 => PostS.hereN h1 z3 (g1.setV (.dp (.int _)))⟩
        · exact h1.elim
      · exact h1.elim
    · exact h'.elim
/-! ### exceptions -/
/-- an exception class of the module -/
def ExC (X : Cx) (c : Str) : Prop := X.mg c = some (.ref (He.ga X.K c)) ∧ (PySem.W.excIn X.K (He.ga X.K c) He.veBase "ValueError.__new__" = true ∧ PySem.W.keepIn X.K (.ref (He.ga X.K c)) = true ∧ PySem.W.subIn X.K (.ref (He.ga X.K c)) (.type "BaseException") = some true ∧ PySem.W.typeIn X.K (.ref (He.ga X.K c)) = some (.type "type"))
theorem s_rse {c m : Str} {j : Nat} {p p2 cpos pos : Pos} (hc : X.calm = true) (tk : Takes X W.E) (ec : ExC X c) (hg : Gl X c := by rfl) (hdb : (c == ("__debug__" : Str)) = false := by decide) : QSt X W (.rse c) (.Raise (some (.Call (.Name c p) [.Constant (.str m) j p2] [] cpos)) none pos) :=
  PS.szw (ps_raise hc tk (pmk_own PySem.F.excBase_ValueError ec.2.1 ec.1 ec.2.2.1 (raises_own ec.2.2.2.1 ec.2.2.2.2) hg hdb)) fun D σ H z h => by
    obtain ⟨s, F, g, h⟩ := h z
    exact h F σ H none (Le.refl _) g
theorem s_tri {qb : QSs} {c : Str} {kn : List Str} {qr : QE} {body : List Stmt} {r : Expr} {np rpos pos pos' : Pos} (hs : X.stack = X.env :: X.outer) (hf : X.env.frame = some X.env.locals) (tk : Takes X W.E) (ec : ExC X c) (hg : Gl X c) (hdb : (c == ("__debug__" : Str)) = false)
    (hkn : ∀ c' ∈ kn, PySem.W.exmOne X.K (.ref (He.ga X.K c')) (.ref (He.ga X.K c)) = some (decide (c' = c)))
    (hb : ∀ (E : WX) (pn : List (Addr × Obj)) (xe : Value → Shared → Prop), Takes (X.tr pn xe) E → PassesOwn (model X.prog X.w) X.A X.env xe → QSts (X.tr pn xe) ⟨W.B, W.F0, W.p, E, W.fr⟩ qb body)
    (hr : ∀ (a : Addr) (pn : List (Addr × Obj)), PX (X.suite a pn) (Wn W.B W.F0 W.p) qr r) (hfr : W.fr = false) (hnx : ∀ s d s', ev qr s = .ok d s' → s' = s) (hnx2 : ∀ s, ∃ d s', ev qr s = .ok d s') :
    QSt X W (.tri qb c kn qr) (.Try body [.ExceptHandler (some (.Name c np)) none [.Return (some r) rpos] pos'] [] [] pos) := by
  refine PS.szw (ps_try_only (tb := fun E => tS X.K ⟨W.B, W.F0, W.p, E, W.fr⟩ (runs qb)) (ts := fun a cls d => tRet (tX X.K (Wn W.B W.F0 W.p) (ev qr))) hs hf ⟨hg, hdb, .inl ec.1⟩ tk hb fun a oe cls d pn hz hv => pss_one (ps_ret (hr a _))) fun D σ H z h z => ?_
  obtain ⟨s, F, g, h⟩ := h z
  have h' : PostS X.K W F D (match runs qb s with
    | .exc c' s => if c' ∈ kn then (if c' = c then SOut.of (ev qr s) fun d s => .ret d s else .exc c' s) else .bad
    | o => o) := h
  refine ⟨s, F, g, ?_⟩
  cases e : runs qb s with
  | nx s1 => rw [e] at h'; exact PostS.mono (K := X.K) (W := W) (F := F) (o := .nx s1) (D' := Ends.sz D) h' (fun _ _ a _ => a) (fun _ _ a _ => a) (fun _ _ a _ => a) fun _ _ a _ => a
  | brk s1 => rw [e] at h'; exact PostS.mono (K := X.K) (W := W) (F := F) (o := .brk s1) (D' := Ends.sz D) h' (fun _ _ a _ => a) (fun _ _ a _ => a) (fun _ _ a _ => a) fun _ _ a _ => a
  | ct s1 => rw [e] at h'; exact PostS.mono (K := X.K) (W := W) (F := F) (o := .ct s1) (D' := Ends.sz D) h' (fun _ _ a _ => a) (fun _ _ a _ => a) (fun _ _ a _ => a) fun _ _ a _ => a
  | ret d s1 => rw [e] at h'; exact PostS.mono (K := X.K) (W := W) (F := F) (o := .ret d s1) (D' := Ends.sz D) h' (fun _ _ a _ => a) (fun _ _ a _ => a) (fun _ _ a _ => a) fun _ _ a _ => a
  | bad => rw [e] at h'; exact h'.elim
  | exc c' s1 =>
    rw [e] at h'
    dsimp only at h'
    split at h'
    · rename_i hm
      intro F1 σ1 H1 x l1 g1
      refine ⟨decide (c' = c), hkn c' hm, fun hb' a ha => ?_, fun hb' => ?_⟩
      · rw [if_pos (of_decide_eq_true hb')] at h'
        intro z1
        obtain ⟨d, s2, e2⟩ := hnx2 s1
        have e3 := hnx _ _ _ e2
        subst e3
        rw [e2] at h'
        refine ⟨s2, F1, g1, ?_⟩
        rw [e2]
        intro F2 H2 v z2 l2 g2 r2 z3
        rcases h' with ⟨_, h'⟩ | ⟨q, _⟩
        · exact h' F2 σ1 H2 v z2 (l1.trans l2) g2 r2
        · rw [hfr] at q; cases q
      · rw [if_neg (of_decide_eq_false hb')] at h'
        exact h' F1 σ1 H1 x l1 g1
    · exact h'.elim
end
/-! ### defs -/
theorem start_at {N : List Str} {vs : List V} {i : Nat} {v : V} (h : vs[i]? = some v) : (start N vs)[i]? = some (some v) := by
  unfold start
  obtain ⟨hl, e⟩ := List.getElem?_eq_some_iff.mp h
  rw [List.getElem?_append_left (by simpa using hl), List.getElem?_map, h]; rfl
theorem repA_at {K : PySem.W.Frag} {F : Hp} : ∀ {vs : List V} {ds : List D} {i : Nat} {d : D}, RepA K F vs ds → ds[i]? = some d → ∃ v, vs[i]? = some v ∧ RepV K F v d
  | _, _, 0, _, .cons a _, h => by simp at h; subst h; exact ⟨_, rfl, a⟩
  | _, _, i + 1, _, .cons _ t, h => by
    obtain ⟨v, h1, h2⟩ := repA_at t (by simpa using h)
    exact ⟨v, by simpa using h1, h2⟩
  | _, _, 0, _, .nil, h => by simp at h
  | _, _, _ + 1, _, .nil, h => by simp at h
theorem cells_at {ds : List D} {k i : Nat} {c : Cell} (h : (ds.map Cell.val ++ List.replicate k .no)[i]? = some c) : c = .no ∨ ∃ d, c = .val d ∧ ds[i]? = some d := by
  by_cases hl : i < ds.length
  · rw [List.getElem?_append_left (by simpa using hl), List.getElem?_map] at h
    cases e : ds[i]? with
    | none => rw [e] at h; cases h
    | some d => rw [e] at h; cases h; exact .inr ⟨d, rfl, rfl⟩
  · rw [List.getElem?_append_right (by simpa using hl)] at h
    have := List.mem_of_getElem? h
    exact .inl (List.eq_of_mem_replicate this)
theorem gd_startP {K : PySem.W.Frag} {N : List Str} {F H : Hp} {vs : List V} {ds : List D} (l : Le F H) (ra : RepA K F vs ds) (hN : vs.length ≤ N.length) : Gd K H F none F ⟨ds.map .val ++ List.replicate (N.length - ds.length) .no, []⟩ (start N vs) H := by
  refine ⟨Le.refl _, l, fun _ _ h _ => h, fun _ _ h => h, ⟨fun _ => none, fun i c h => ?_, fun _ _ _ h => (nomatch h)⟩, fun _ h => (nomatch h), ?_⟩
  · rcases cells_at h with rfl | ⟨d, rfl, hd⟩
    · trivial
    · obtain ⟨v, h1, h2⟩ := repA_at ra hd
      exact ⟨v, start_at h1, h2⟩
  · show (_ ++ _ : List Cell).length ≤ _
    unfold start
    rw [List.length_append, List.length_map, List.length_replicate, List.length_append, List.length_map, List.length_replicate, ra.len]
    exact Nat.le_refl _
theorem gd_startD {K : PySem.W.Frag} {N : List Str} {F H : Hp} {a : Addr} {xs ws : List V} {ds dr : List D} (l : Le F H) (ra : RepA K F ws ds) (ha : H a = some (.lst xs)) (fa : F a = none) (rx : RpAll K F xs dr) (hN : ws.length + 1 ≤ N.length) :
    Gd K H F (some a) F ⟨.drw :: (ds.map .val ++ List.replicate (N.length - 1 - ds.length) .no), dr⟩ (start N (.ref a :: ws)) H := by
  refine ⟨Le.refl _, l, fun _ _ h _ => h, fun _ _ h => h, ⟨fun _ => none, fun i c h => ?_, fun _ _ _ h => by cases h⟩, fun b h => ?_, ?_⟩
  · cases i with
    | zero =>
      have h' : some Cell.drw = some c := h
      cases h'
      exact ⟨a, rfl, start_at rfl⟩
    | succ i =>
      rcases cells_at (show (ds.map Cell.val ++ List.replicate (N.length - 1 - ds.length) .no)[i]? = some c from by simpa using h) with rfl | ⟨d, rfl, hd⟩
      · trivial
      · obtain ⟨v, h1, h2⟩ := repA_at ra hd
        exact ⟨v, start_at (by simpa using h1), h2⟩
  · cases h
    exact ⟨fa, xs, ha, rx⟩
  · show (Cell.drw :: (_ ++ _ : List Cell)).length ≤ _
    unfold start
    rw [List.length_cons, List.length_append, List.length_map, List.length_replicate, List.length_append, List.length_map, List.length_replicate, List.length_cons, ra.len]
    omega
section
variable {P : Program} {w : World} {K : PySem.W.Frag} {mg : Str → Option Value} {base : Heap} {x qual : Str} {params : Arguments} {body : List Stmt} {scope : Scope} {f : Addr} {fd : FuncData} {N ps : List Str} {k : Nat}
/-- what a body's rules may lean on -/
structure Bd (K : PySem.W.Frag) (mg : Str → Option Value) (k : Nat) (N : List Str) (scope : Scope) (X : Cx) (W : Wc) : Prop where
  calm : X.calm = true
  nd : X.N.Nodup
  mg : X.mg = mg
  room : Room k X.A
  tk : Takes X W.E
  pass : PassesOwn (model X.prog X.w) X.A X.env X.xe
  stk : X.stack = X.env :: X.outer
  frm : X.env.frame = some X.env.locals
theorem Bd.hu {X : Cx} {W : Wc} (b : Bd K mg k N scope X W) : X.A.units + 100 < cLine := by
  have := b.room.un; omega
abbrev cx (P : Program) (w : World) (K : PySem.W.Frag) (mg : Str → Option Value) (base : Heap) (N : List Str) (qual : Str) (scope : Scope) (f : Addr) (cdv : Value) (A : Around) (outer : List Env) (s : Shared) (H : Hp) (E : XK) : Cx := cxOf (L2.CX P w) P w K mg base N qual scope f cdv A outer s H E
theorem bd_of {cdv : Value} {A : Around} {outer : List Env} {s : Shared} {H : Hp} {E : XK} {B F0 : Hp} {p : Option Addr} {fr : Bool} (S : FnScope N ps scope) (hr : Room k (A.deeper (envOfC qual scope s.heap.objs.size f cdv))) :
    Bd K mg k N scope (cx P w K mg base N qual scope f cdv A outer s H E) ⟨B, F0, p, fun c d _ H => E c d H, fr⟩ :=
  ⟨rfl, S.nd, rfl, hr, takes_of rfl rfl rfl rfl, passes_of rfl, rfl, rfl⟩
theorem fn_p {e : FEnt} {q : QSs} (F : FunD K x qual params body scope [] [] f fd) (S : FnScope N ps scope) (hps : e.n = ps.length) (hm : N.length = m) (hsem : ∀ ds, e.sem ds [] = semP q m ds) (hpN : ps.length ≤ N.length)
    (hb : ∀ (cdv : Value) (A : Around) (outer : List Env) (s : Shared) (H : Hp) (E : XK) (W : Wc), W.fr = false → Bd K mg k N scope (cx P w K mg base N qual scope f cdv A outer s H E) W → QSts (cx P w K mg base N qual scope f cdv A outer s H E) W q body) :
    FnOk P w K mg base (L2.CX P w) (k + 1) f fd ps (spP K e) := by
  refine FunD.ok F S (fun vs H Q E h => by rw [h.1, hps]) fun cdv A outer s H vs Q E hr hsp => ?_
  obtain ⟨hl, F1, ds, l, ra, h⟩ := hsp
  refine ⟨_, hb cdv A outer s H E ⟨H, F1, none, fun c d _ H => E c d H, false⟩ rfl (bd_of S hr), fun _ => ⟨_, F1, gd_startP l ra (by omega), ?_⟩⟩
  rw [hsem] at h
  unfold semP frOf at h
  rw [hm]
  cases e1 : runs q ⟨ds.map .val ++ List.replicate (m - ds.length) .no, []⟩ with
  | nx s1 => rw [e1] at h; exact fun F' σ' H' z' l' g' => h F' H' _ z' ⟨g'.le, g'.fh, g'.bh, g'.bf⟩ (.dp .non)
  | ret d s1 => rw [e1] at h; exact .inl ⟨rfl, fun F' σ' H' v z' l' g' r => h F' H' v z' ⟨g'.le, g'.fh, g'.bh, g'.bf⟩ r⟩
  | exc c s1 => rw [e1] at h; exact fun F' σ' H' x l' g' => h F' H' x ⟨g'.le, g'.fh, g'.bh, g'.bf⟩
  | brk s1 => rw [e1] at h; exact h.elim
  | ct s1 => rw [e1] at h; exact h.elim
  | bad => rw [e1] at h; exact h.elim
theorem fn_o {e : FEnt} {q : QSs} (F : FunD K x qual params body scope [] [] f fd) (S : FnScope N ps scope) (hps : e.n = ps.length) (hm : N.length = m) (hsem : ∀ ds, e.sem ds [] = semP q m ds) (hpN : ps.length ≤ N.length) (hnn : ∀ (ds : List D) (s : Sg), runs q ⟨ds.map .val ++ List.replicate (m - ds.length) .no, []⟩ ≠ .nx s)
    (hb : ∀ (cdv : Value) (A : Around) (outer : List Env) (s : Shared) (H : Hp) (E : XK) (W : Wc), W.fr = true → Bd K mg k N scope (cx P w K mg base N qual scope f cdv A outer s H E) W → QSts (cx P w K mg base N qual scope f cdv A outer s H E) W q body) :
    FnOk P w K mg base (L2.CX P w) (k + 1) f fd ps (spO K e) := by
  refine FunD.ok F S (fun vs H Q E h => by rw [h.1, hps]) fun cdv A outer s H vs Q E hr hsp => ?_
  obtain ⟨hl, F1, ds, l, ra, h⟩ := hsp
  refine ⟨_, hb cdv A outer s H E ⟨H, F1, none, fun c d _ H => E c d H, true⟩ rfl (bd_of S hr), fun _ => ⟨_, F1, gd_startP l ra (by omega), ?_⟩⟩
  rw [hsem] at h
  unfold semP frOf at h
  rw [hm]
  cases e1 : runs q ⟨ds.map .val ++ List.replicate (m - ds.length) .no, []⟩ with
  | nx s1 => exact (hnn ds s1 e1).elim
  | ret d s1 => rw [e1] at h; exact .inr ⟨rfl, fun F' σ' H' q z' l' g' n => h F' H' q z' ⟨g'.le, g'.fh, g'.bh, g'.bf⟩ n.b n.f n.a⟩
  | exc c s1 => rw [e1] at h; exact fun F' σ' H' x l' g' => h F' H' x ⟨g'.le, g'.fh, g'.bh, g'.bf⟩
  | brk s1 => rw [e1] at h; exact h.elim
  | ct s1 => rw [e1] at h; exact h.elim
  | bad => rw [e1] at h; exact h.elim
theorem fn_d {e : FEnt} {q : QSs} (F : FunD K x qual params body scope [] [] f fd) (S : FnScope N ps scope) (hps : e.n + 1 = ps.length) (hm : N.length = m) (hsem : ∀ ds dr, e.sem ds dr = semD q m ds dr) (hpN : ps.length ≤ N.length)
    (hb : ∀ (cdv : Value) (A : Around) (outer : List Env) (s : Shared) (H : Hp) (E : XK) (W : Wc), W.fr = false → Bd K mg k N scope (cx P w K mg base N qual scope f cdv A outer s H E) W → QSts (cx P w K mg base N qual scope f cdv A outer s H E) W q body) :
    FnOk P w K mg base (L2.CX P w) (k + 1) f fd ps (spD K e) := by
  refine FunD.ok F S (fun vs H Q E h => by rw [h.1, hps]) fun cdv A outer s H vs Q E hr hsp => ?_
  obtain ⟨hl, a, ws, F1, ds, dr, xs, rfl, l, ra, ha, fa, rx, h⟩ := hsp
  rw [List.length_cons] at hl
  refine ⟨_, hb cdv A outer s H E ⟨H, F1, some a, fun c d _ H => E c d H, false⟩ rfl (bd_of S hr), fun _ => ⟨_, F1, gd_startD l ra ha fa rx (by omega), ?_⟩⟩
  rw [hsem] at h
  unfold semD frOf at h
  rw [hm]
  have fin : ∀ {F' H' : Hp} {σ' : St} {s1 : Sg}, Gd K H F1 (some a) F' s1 σ' H' → Stp (some a) F1 H F' H' ∧ ∃ xs', H' a = some (.lst xs') ∧ RpAll K F' xs' s1.dr := fun g' => by
    obtain ⟨_, xs', h1, h2⟩ := g'.dr a rfl
    exact ⟨⟨g'.le, g'.fh, g'.bh, g'.bf⟩, xs', h1, h2⟩
  cases e1 : runs q ⟨.drw :: (ds.map .val ++ List.replicate (m - 1 - ds.length) .no), dr⟩ with
  | nx s1 => rw [e1] at h; exact fun F' σ' H' z' l' g' => by obtain ⟨t, xs', t1, t2⟩ := fin g'; exact h F' H' _ xs' z' t t1 t2 (.dp .non)
  | ret d s1 => rw [e1] at h; exact .inl ⟨rfl, fun F' σ' H' v z' l' g' r => by obtain ⟨t, xs', t1, t2⟩ := fin g'; exact h F' H' v xs' z' t t1 t2 r⟩
  | exc c s1 => rw [e1] at h; exact fun F' σ' H' x l' g' => by obtain ⟨t, xs', t1, t2⟩ := fin g'; exact h F' H' x xs' t t1 t2
  | brk s1 => rw [e1] at h; exact h.elim
  | ct s1 => rw [e1] at h; exact h.elim
  | bad => rw [e1] at h; exact h.elim
end
end L2.BH
set_option maxHeartbeats 1000000
/-! Rules: dicts. -/
namespace L2.BH
open PySem PySem.Spec PyProof.Rows
theorem isDk_kok {ks : List (D × D)} {k : D} (h : kok ks k = true) : isDk (.dict ks) = true := by
  unfold kok at h
  unfold isDk
  rw [Bool.or_eq_true, Bool.and_eq_true, Bool.and_eq_true] at h
  rw [Bool.or_eq_true]
  exact h.imp (·.2) (·.2)
theorem rep_dicK {K : PySem.W.Frag} {F : Hp} {v : V} {ks : List (D × D)} (h : RepV K F v (.dict ks)) (hk : isDk (.dict ks) = true) : ∃ a, v = .ref a ∧ DicR K F F a ks := by
  cases h with
  | dp h => cases h
  | dic h => exact ⟨_, rfl, h⟩
  | scr h => simp [isDk, isI, isT] at hk
  | prs _ _ _ => simp [isDk, isI, isT] at hk
  | sdi _ _ _ => simp [isDk, isI, isT] at hk
theorem isDk_dict {d : D} (h : isDk d = true) : ∃ ks, d = .dict ks := by
  cases d with
  | dict ks => exact ⟨ks, rfl⟩
  | _ => cases h
theorem DicR.inH {K : PySem.W.Frag} {F H : Hp} {a : Addr} {ks : List (D × D)} (l : Le F H) (h : DicR K F F a ks) : DicR K F H a ks := by
  obtain ⟨es, h1, h2⟩ := h
  exact ⟨es, l _ _ h1, h2⟩
section
variable {X : Cx} {W : Wc}
/-- d[k] -/
theorem pe_dixR {o i : Expr} {pos : Pos} {td ty : TE} (hu : X.A.units + 100 < cLine) (ho : PE X o td) (hi : PE X i ty) (hs : PlainIx i) : PE X (.Subscript o i pos) (fun σ H Q => td σ H fun x H1 => ty σ H1 fun y H2 => r2 X.K dixD x y H2 Q) := by
  refine ⟨fun pins s σ H Q I h => ?_⟩
  refine subD_of PySem.F.slot_dict_getitem.lookup hs (thn (ho.run pins s σ H _ I h) fun u s1 ⟨x, H1, I1, rx, q1⟩ => thn (hi.run pins s1 σ H1 _ I1 q1) fun iv s2 ⟨y, H2, I2, ry, F, d1, d2, d, sz, l, h1, h2, e, w⟩ => ?_)
  unfold dixD at e
  split at e
  · split at e
    · rename_i ks k hk
      obtain ⟨a, rfl, r⟩ := rep_dicK h1 (isDk_kok hk)
      cases rx
      exact ⟨(dic_isD I2 (r.inH l)).1, dic_getItem (by omega) I2 l (r.inH l) hk ry h2 e fun v w' s3 I3 rw' rp => ⟨v, H2, I3, rw', w.here l (.dp rp)⟩⟩
    · cases e
  · cases e
theorem x_dix {qa qb : QE} {a b : Expr} {pos : Pos} (hu : X.A.units + 100 < cLine) (ha : PX X W qa a) (hb : PX X W qb b) (hs : PlainIx b := by intro _ _; with_unfolding_all rfl) : PX X W (.dix qa qb) (.Subscript a b pos) :=
  PE.szw (pe_dixR hu ha hb hs) fun σ H Q z h z => by
    obtain ⟨s, F, g, h⟩ := h z
    have h' : PostG X.K W F σ ((ev qa s).bind fun x s => (ev qb s).bind fun y s => ofO (dixD x y) s) (RepV X.K) Q := h
    exact ⟨s, F, g, h'.bind.mono fun x H1 m => two_op m⟩
/-- k in d, k not in d -/
def dinO (n : Bool) : CmpOp := if n then .NotIn else .In
theorem pr_din (hu : X.A.units + 100 < cLine) (n : Bool) : Pr2 X (compareOp (dinO n)) (fun x y => (dinD y x).map fun r => PyData.bool (r != n)) := by
  intro pins s σ H x y v u Q I rx ry h
  obtain ⟨F, d1, d2, d, sz, l, h1, h2, e, w⟩ := h
  obtain ⟨r, e1, rfl⟩ := map_some e
  unfold dinD at e1
  split at e1
  · split at e1
    · rename_i ks hk
      cases e1
      obtain ⟨a, rfl, r⟩ := rep_dicK h2 (isDk_kok hk)
      cases ry
      cases n with
      | false => exact dic_in (by omega) I l (r.inH l) hk rx h1 fun s3 I3 => ⟨.bl _, H, I3, rfl, w.here l (by
          have : ((getKV ks d1).isSome != false) = (getKV ks d1).isSome := by cases (getKV ks d1).isSome <;> rfl
          rw [this]; exact .dp (.bl _))⟩
      | true => exact dic_notIn (by omega) I l (r.inH l) hk rx h1 fun s3 I3 => ⟨.bl _, H, I3, rfl, w.here l (by
          have : ((getKV ks d1).isSome != true) = !(getKV ks d1).isSome := by cases (getKV ks d1).isSome <;> rfl
          rw [this]; exact .dp (.bl _))⟩
    · cases e1
  · cases e1
theorem x_din {n : Bool} {qa qb : QE} {a b : Expr} {pos : Pos} (hu : X.A.units + 100 < cLine) (ha : PX X W qa a) (hb : PX X W qb b) (hm : behindInMarks (dinO n) b = false := by with_unfolding_all rfl) : PX X W (.din n qa qb) (.Compare a [dinO n] [b] pos) :=
  PE.szw (pe_cmpR (pr_din hu n) ha hb hm) fun σ H Q z h z => by
    obtain ⟨s, F, g, h⟩ := h z
    have h' : PostG X.K W F σ ((ev qa s).bind fun x s => (ev qb s).bind fun y s => ofO ((dinD y x).map fun r => PyData.bool (r != n)) s) (RepV X.K) Q := h
    exact ⟨s, F, g, h'.bind.mono fun x H1 m => two_op m⟩
theorem tst_din (n : Bool) (a b : QE) (s : Sg) : tst (ev (.din n a b) s) = (ev a s).bind fun x s => (ev b s).bind fun y s => ofO ((dinD y x).map (· != n)) s := by
  have e : ev (.din n a b) s = (ev a s).bind fun x s => (ev b s).bind fun y s => ofO ((dinD y x).map fun r => .bool (r != n)) s := rfl
  rw [e]
  cases ev a s with
  | ok x s1 =>
    rw [Out.bind_ok, Out.bind_ok]
    cases ev b s1 with
    | ok y s2 =>
      rw [Out.bind_ok, Out.bind_ok]
      cases dinD y x <;> rfl
    | exc c s2 => rfl
    | bad => rfl
  | exc c s1 => rfl
  | bad => rfl
theorem b_din {n : Bool} {qa qb : QE} {a b : Expr} {pos : Pos} (hu : X.A.units + 100 < cLine) (ha : PX X W qa a) (hb : PX X W qb b) (hm : behindInMarks (dinO n) b = false := by with_unfolding_all rfl) : PB X W (.din n qa qb) (.Compare a [dinO n] [b] pos) :=
  PT.szw (pt_cmpR (pr_din hu n) ha hb hm) fun σ H Q z h z => by
    obtain ⟨s, F, g, h⟩ := h z
    try dsimp only at h
    rw [tst_din] at h
    refine ⟨s, F, g, (PostG.bind (R := RepV X.K) h).mono fun x H1 m => ?_⟩
    obtain ⟨a, s1, F1, z1, l1, g1, r1, h1⟩ := m
    try dsimp only at h1
    refine fun _ => ⟨s1, F1, g1, (PostG.bind (R := RepV X.K) h1).mono fun y H2 m2 => ?_⟩
    obtain ⟨b, s2, F2, z2, l2, g2, r2, h2⟩ := m2
    try dsimp only at h2
    cases e : dinD b a with
    | none => rw [e] at h2; exact False.elim h2
    | some k =>
      rw [e] at h2
      refine ⟨F2, a, b, .bool (k != n), z2, g2.fh, r1.mono l2, r2, by dsimp only; rw [e]; rfl, fun F' H' v t r => ⟨k != n, rep_bl r, fun z3 => ?_⟩⟩
      exact h2 F' H' (k != n) z3 t.ff (g2.stepK t) rfl
/-- d.get(k), d.get(k, x) -/
theorem pe_dgR1 {o e : Expr} {apos cpos : Pos} {td ty : TE} (hu : X.A.units + 100 < cLine) (ho : PE X o td) (he : PE X e ty) (m : M1 X o "get" apos e cpos) : PE X (.Call (.Attribute o "get" apos) [e] [] cpos)
    (fun σ H Q => td σ H fun x H1 => ∃ a F ks, x = .ref a ∧ DicR X.K F H1 a ks ∧ ty σ H1 fun y H2 => ∃ F k, Le F H2 ∧ DicR X.K F H2 a ks ∧ kok ks k = true ∧ RepV X.K F y k ∧ ∀ v, Rp X.K F v ((getKV ks k).getD .none) → Q v H2) := by
  refine ⟨fun pins s σ H Q I h => ?_⟩
  refine wpAny_Call_method m.base m.few m.line PySem.F.plainAttrs_dict PySem.F.slot_dict_get PySem.F.type_dict_get (thn (ho.run pins s σ H _ I h) fun u s1 ⟨x, H1, I1, rx, a, F, ks, ex, r, q1⟩ => ?_)
  subst ex
  cases rx
  obtain ⟨t1, t2, _⟩ := dic_isD I1 r
  refine ⟨t1, t2, ?_⟩
  rw [m.trees]
  refine Calls.callWith_builtin rfl (Calls.evalArgs_plain (Calls.spliced_cons (thn (he.run pins s1 σ H1 _ I1 q1) fun iv s2 ⟨y, H2, I2, ry, F2, k, l, r2, hk, rk, q2⟩ => Calls.spliced_nil ?_)))
  exact dic_get1 (by omega) I2 l r2 hk ry rk fun v w' s3 I3 rw' rp => ⟨v, H2, I3, rw', q2 v rp⟩
theorem x_get1 {qa qb : QE} {a b : Expr} {apos cpos : Pos} (hu : X.A.units + 100 < cLine) (ha : PX X W qa a) (hb : PX X W qb b) (hbase : attributeBase a "get" X.env (eval a X.env) = eval a X.env := by rfl)
    (hfew : ((backTo cpos (starEach [b] X.env)).all (fun x => !x.1) && (backToKw cpos (keywordEach [] X.env)).all (fun x => x.1.isSome)
      && decide ([b].length + ([] : List Keyword).length + (if ([] : List Keyword).isEmpty then 0 else 1) < 30)) = true := by rfl)
    (hline : (apos.endLine == cpos.line) = true := by rfl) (ht : backTo cpos (starEach [b] X.env) = [(false, eval b X.env)] := by rfl) : PX X W (.get1 qa qb) (.Call (.Attribute a "get" apos) [b] [] cpos) :=
  PE.szw (pe_dgR1 hu ha hb ⟨hbase, hfew, hline, ht⟩) fun σ H Q z h z => by
    obtain ⟨s, F, g, h⟩ := h z
    have h' : PostG X.K W F σ ((ev qa s).bind fun x s => if isDk x then (ev qb s).bind fun y s => ofO (dgtD x y .none) s else .bad) (RepV X.K) Q := h
    refine ⟨s, F, g, h'.bind.mono fun x H1 m => ?_⟩
    obtain ⟨d1, s1, F1, z1, l1, g1, r1, h1⟩ := m
    try dsimp only at h1
    split at h1
    · rename_i hk
      obtain ⟨ks, rfl⟩ := isDk_dict hk
      obtain ⟨ad, rfl, rd⟩ := rep_dicK r1 hk
      refine ⟨ad, F1, ks, rfl, rd.inH g1.fh, fun _ => ⟨s1, F1, g1, h1.bind.mono fun y H2 m2 => ?_⟩⟩
      obtain ⟨k, s2, F2, z2, l2, g2, r2, h2⟩ := m2
      try dsimp only at h2
      by_cases hk2 : kok ks k = true
      · have e : dgtD (.dict ks) k .none = some ((getKV ks k).getD .none) := by unfold dgtD; exact if_pos hk2
        rw [e] at h2
        exact ⟨F2, k, g2.fh, (rd.mono l2 fun o e => l2 _ _ e).inH g2.fh, hk2, r2, fun v rv z3 => PostG.here h2 z3 g2 (.dp rv)⟩
      · have e : dgtD (.dict ks) k .none = none := by unfold dgtD; exact if_neg hk2
        rw [e] at h2
        exact h2.elim
    · exact h1.elim
theorem pe_dgR2 {o e f : Expr} {apos cpos : Pos} {td ty tx : TE} (hu : X.A.units + 100 < cLine) (ho : PE X o td) (he : PE X e ty) (hf : PE X f tx) (m : M2 X o "get" apos e f cpos) : PE X (.Call (.Attribute o "get" apos) [e, f] [] cpos)
    (fun σ H Q => td σ H fun x H1 => ∃ a F ks, x = .ref a ∧ DicR X.K F H1 a ks ∧ ty σ H1 fun y H2 => tx σ H2 fun z H3 => ∃ F k dx, Le F H3 ∧ DicR X.K F H3 a ks ∧ kok ks k = true ∧ RepV X.K F y k ∧ Rp X.K F z dx ∧ ∀ v, Rp X.K F v ((getKV ks k).getD dx) → Q v H3) := by
  refine ⟨fun pins s σ H Q I h => ?_⟩
  refine wpAny_Call_method m.base m.few m.line PySem.F.plainAttrs_dict PySem.F.slot_dict_get PySem.F.type_dict_get (thn (ho.run pins s σ H _ I h) fun u s1 ⟨x, H1, I1, rx, a, F, ks, ex, r, q1⟩ => ?_)
  subst ex
  cases rx
  obtain ⟨t1, t2, _⟩ := dic_isD I1 r
  refine ⟨t1, t2, ?_⟩
  rw [m.trees]
  refine Calls.callWith_builtin rfl (Calls.evalArgs_plain (Calls.spliced_cons (thn (he.run pins s1 σ H1 _ I1 q1) fun iv s2 ⟨y, H2, I2, ry, q2⟩ =>
    Calls.spliced_cons (thn (hf.run pins s2 σ H2 _ I2 q2) fun fv s3 ⟨z, H3, I3, rz, F3, k, dx, l, r3, hk, rk, rd, q3⟩ => Calls.spliced_nil ?_))))
  exact dic_get2 (by omega) I3 l r3 hk ry rk rz rd fun v w' s4 I4 rw' rp => ⟨v, H3, I4, rw', q3 v rp⟩
theorem x_get2 {qa qb qc : QE} {a b c : Expr} {apos cpos : Pos} (hu : X.A.units + 100 < cLine) (ha : PX X W qa a) (hb : PX X W qb b) (hc : PX X W qc c) (hbase : attributeBase a "get" X.env (eval a X.env) = eval a X.env := by rfl)
    (hfew : ((backTo cpos (starEach [b, c] X.env)).all (fun x => !x.1) && (backToKw cpos (keywordEach [] X.env)).all (fun x => x.1.isSome)
      && decide ([b, c].length + ([] : List Keyword).length + (if ([] : List Keyword).isEmpty then 0 else 1) < 30)) = true := by rfl)
    (hline : (apos.endLine == cpos.line) = true := by rfl) (ht : backTo cpos (starEach [b, c] X.env) = [(false, eval b X.env), (false, eval c X.env)] := by rfl) : PX X W (.get2 qa qb qc) (.Call (.Attribute a "get" apos) [b, c] [] cpos) :=
  PE.szw (pe_dgR2 hu ha hb hc ⟨hbase, hfew, hline, ht⟩) fun σ H Q z h z => by
    obtain ⟨s, F, g, h⟩ := h z
    have h' : PostG X.K W F σ ((ev qa s).bind fun x s => if isDk x then (ev qb s).bind fun y s => (ev qc s).bind fun z s => if isD z then .bad else ofO (dgtD x y z) s else .bad) (RepV X.K) Q := h
    refine ⟨s, F, g, h'.bind.mono fun x H1 m => ?_⟩
    obtain ⟨d1, s1, F1, z1, l1, g1, r1, h1⟩ := m
    try dsimp only at h1
    split at h1
    · rename_i hk
      obtain ⟨ks, rfl⟩ := isDk_dict hk
      obtain ⟨ad, rfl, rd⟩ := rep_dicK r1 hk
      refine ⟨ad, F1, ks, rfl, rd.inH g1.fh, fun _ => ⟨s1, F1, g1, h1.bind.mono fun y H2 m2 => ?_⟩⟩
      obtain ⟨k, s2, F2, z2, l2, g2, r2, h2⟩ := m2
      try dsimp only at h2
      refine fun _ => ⟨s2, F2, g2, h2.bind.mono fun x3 H3 m3 => ?_⟩
      obtain ⟨dx, s3, F3, z3, l3, g3, r3, h3⟩ := m3
      try dsimp only at h3
      split at h3
      · exact h3.elim
      · rename_i hx
        by_cases hk2 : kok ks k = true
        · have e : dgtD (.dict ks) k dx = some ((getKV ks k).getD dx) := by unfold dgtD; exact if_pos hk2
          rw [e] at h3
          exact ⟨F3, k, dx, g3.fh, ((rd.mono l2 fun o e => l2 _ _ e).mono l3 fun o e => l3 _ _ e).inH g3.fh, hk2, r2.mono l3, r3.toDp (by simpa using hx), fun v rv z4 => PostG.here h3 z4 g3 (.dp rv)⟩
        · have e : dgtD (.dict ks) k dx = none := by unfold dgtD; exact if_neg hk2
          rw [e] at h3
          exact h3.elim
    · exact h1.elim
/-- {} -/
theorem pe_dnewR {pos : Pos} : PE X (.Dict [] [] pos) (fun σ H Q => ∀ p, H p = none → (p == sysModules) = false → Q (.ref p) (upd H p (dRaw p []))) := ⟨fun pins s σ H Q I h => by
  have hm : (s.heap.objs.size == sysModules) = false := beq_eq_false_iff_ne.mpr (Nat.ne_of_gt I.big)
  exact wpAny_Dict_empty ⟨.ref s.heap.objs.size, _, I.laid (a := s.heap.objs.size) (o := dRaw s.heap.objs.size []) (t' := s.toks) (fun _ _ q => Heap.get?_push_of_some _ q) (Nat.le_refl _)
    (dRaw_ok ⟨_, #[], 0, Heap.get?_push_size _ rfl, ⟨rfl, rfl, rfl⟩, rfl, rfl⟩), rfl, h _ (freshT I) hm⟩⟩
theorem o_dnew {pos : Pos} : PN X W .dnew (.Dict [] [] pos) :=
  PE.szw pe_dnewR fun σ H Q z h => by
    refine fun p hp hm z2 => ?_
    obtain ⟨s, F, g, h⟩ := h z
    have h' : PostO X.K W F σ (.ok (.dict []) s) Q := h
    obtain ⟨h1, h2, h3⟩ := g.newFree hp
    refine h' F _ p z2 (Le.refl _) (g.stepK (Stp.newO g.fh hp)) ⟨h1, h2, h3, fun j e he hs => ?_, [], upd_same, .nil, List.nodup_nil, Nat.zero_le _, hm⟩
    obtain ⟨ρ, c1, _⟩ := g.cs
    obtain ⟨a, _, e2, _, _, _, e3⟩ := c1 j _ he
    rw [e2] at hs
    cases hs
    exact e3.some hp
/-- a dict held alone -/
theorem ownD_at {K : PySem.W.Frag} {B F0 F H : Hp} {p : Option Addr} {s : Sg} {σ : St} {i : Nat} {ks : List (D × D)} (g : Gd K B F0 p F s σ H) (e : s.cs[i]? = some (.own (.dict ks))) : ∃ a, σ[i]? = some (some (.ref a)) ∧ F a = none ∧ DicR K F H a ks := by
  obtain ⟨ρ, c1, _⟩ := g.cs
  obtain ⟨a, _, e2, _, e4, _, h⟩ := c1 i _ e
  exact ⟨a, e2, e4, h⟩
theorem own_slot {K : PySem.W.Frag} {B F0 F H : Hp} {p : Option Addr} {s : Sg} {σ : St} {i : Nat} {d : D} (g : Gd K B F0 p F s σ H) (e : s.cs[i]? = some (.own d)) : ∃ a, σ[i]? = some (some (.ref a)) := by
  obtain ⟨ρ, c1, _⟩ := g.cs
  obtain ⟨a, _, e2, _⟩ := c1 i _ e
  exact ⟨a, e2⟩
end
end L2.BH
set_option maxHeartbeats 1000000
namespace L2.BH
open PySem PySem.Spec PyProof.Rows L2
/-! ### while -/
theorem whN_more {c : Sg → Out Bool} {f : Sg → SOut} : ∀ {n : Nat} {s : Sg}, whN c f n s ≠ .bad → ∀ k, whN c f (n + k) s = whN c f n s
  | 0, s, h, _ => absurd rfl h
  | n + 1, s, h, k => by
    have e1 : n + 1 + k = (n + k) + 1 := by omega
    rw [e1]
    unfold whN at h ⊢
    cases hc : c s with
    | bad => rfl
    | exc _ _ => rfl
    | ok d s1 =>
      rw [hc] at h
      cases d with
      | false => rfl
      | true =>
        simp only [if_true] at h ⊢
        cases hf : f s1 with
        | nx s2 => rw [hf] at h; exact whN_more h k
        | ct s2 => rw [hf] at h; exact whN_more h k
        | brk s2 => rfl
        | ret d s2 => rfl
        | exc c s2 => rfl
        | bad => rfl
theorem wh_of {c : Sg → Out Bool} {f : Sg → SOut} {n : Nat} {s : Sg} {o : SOut} (h : whN c f n s = o) (ho : o ≠ .bad) : wh c f s = o := by
  subst h
  have hx : ∃ n, whN c f n s ≠ .bad := ⟨n, ho⟩
  unfold wh
  rw [dif_pos hx]
  have h2 := Classical.choose_spec hx
  rcases Nat.le_total n (Classical.choose hx) with l | l
  · have := whN_more ho (Classical.choose hx - n)
    rwa [show n + (Classical.choose hx - n) = Classical.choose hx by omega] at this
  · have := whN_more h2 (n - Classical.choose hx)
    rw [show Classical.choose hx + (n - Classical.choose hx) = n by omega] at this
    exact this.symm
theorem wh_ex {c : Sg → Out Bool} {f : Sg → SOut} {s : Sg} : wh c f s = .bad ∨ ∃ n, wh c f s = whN c f n s := by
  unfold wh
  split
  · exact .inr ⟨_, rfl⟩
  · exact .inl rfl
def whX (k : Sg → SOut) (o : SOut) : SOut := match o with
  | .nx s => k s
  | .ct s => k s
  | .brk s => .nx s
  | .ret d s => .ret d s
  | .exc c s => .exc c s
  | .bad => .bad
theorem whN_succ (c : Sg → Out Bool) (f : Sg → SOut) (n : Nat) (s : Sg) : whN c f (n + 1) s = SOut.of (c s) fun d s => if d then whX (whN c f n) (f s) else .nx s := by
  rw [whN]
  cases hc : c s with
  | bad => rfl
  | exc _ _ => rfl
  | ok d s1 =>
    rw [SOut.of_ok]
    cases d with
    | false => rfl
    | true =>
      simp only [if_true]
      cases f s1 <;> rfl
section
variable {X : Cx} {W : Wc}
theorem s_whl {q : QE} {qb : QSs} {c : Expr} {b : List Stmt} {pos : Pos} (hp : PassesOwn (model X.prog X.w) X.A X.env X.xe) (hc : PB X W q c) (hb : QSts X W qb b) : QSt X W (.whl q qb) (.While c b [] pos) := by
  refine PS.szw (ps_while hp hc hb) fun D σ H z h => ?_
  obtain ⟨s, F, g, h⟩ := h z
  have h' : PostS X.K W F D (wh (fun s => tst (ev q s)) (fun s => runs qb s) s) := h
  obtain ⟨n, e⟩ : ∃ n, wh (fun s => tst (ev q s)) (fun s => runs qb s) s = whN (fun s => tst (ev q s)) (fun s => runs qb s) n s := by
    rcases wh_ex (c := fun s => tst (ev q s)) (f := fun s => runs qb s) (s := s) with e | e
    · rw [e] at h'; exact h'.elim
    · exact e
  rw [e] at h'
  refine ⟨fun m σ H => ∃ s F, Gd X.K W.B W.F0 W.p F s σ H ∧ PostS X.K W F D (whN (fun s => tst (ev q s)) (fun s => runs qb s) m s), ⟨n, s, F, g, h'⟩, fun m σ H w => ?_⟩
  obtain ⟨s, F, g, h⟩ := w
  cases m with
  | zero => exact h.elim
  | succ m =>
    have h2 := h
    rw [whN_succ] at h2
    intro z
    refine ⟨s, F, g, (h2.of (R := rT)).mono fun v H1 k => ?_⟩
    obtain ⟨d, s1, F1, z2, l1, g1, r1, h1⟩ := k
    have r1' : v = d := r1
    subst r1'
    cases v with
    | false => exact fun z3 => PostS.hereN h1 z3 g1
    | true =>
      refine ⟨fun σ' H' => ∃ s F, Gd X.K W.B W.F0 W.p F s σ' H' ∧ PostS X.K W F D (whN (fun s => tst (ev q s)) (fun s => runs qb s) m s), fun σ' H' w => ⟨m, Nat.lt_succ_self m, w⟩, fun _ => ⟨s1, F1, g1, ?_⟩⟩
      simp only [if_true] at h1
      cases e : runs qb s1 with
      | nx s2 => rw [e] at h1; exact fun F' σ' H' z' l g' => ⟨s2, F', g', PostS.le h1 l⟩
      | ct s2 => rw [e] at h1; exact fun F' σ' H' z' l g' => ⟨s2, F', g', PostS.le h1 l⟩
      | brk s2 => rw [e] at h1; exact fun F' σ' H' z' l g' _ => h1 F' σ' H' z' l g'
      | ret d s2 => rw [e] at h1; exact (show PostS X.K W F1 D (.ret d s2) from h1).imp (fun ⟨a, k⟩ => ⟨a, fun F' σ' H' v z l g r _ => k F' σ' H' v z l g r⟩) fun ⟨a, k⟩ => ⟨a, fun F' σ' H' v z l g r _ => k F' σ' H' v z l g r⟩
      | exc c s2 => rw [e] at h1; exact h1
      | bad => rw [e] at h1; exact h1.elim
/-! ### str(tuple), where no text is under way -/
theorem c_str (hG : X.A.guards = some []) (hu : X.A.units + 100 < cLine) : CallR X (.type "str") (R1 X.K strD) := by
  intro pins s σ H vs us Q I r h
  obtain ⟨F, v, d1, d, rfl, z, l, r1, e, w⟩ := h
  cases d1 with
  | tuple xs =>
    have e' : (if (PyData.tuple xs).showable && (decide ((PyData.tuple xs).hasDict = false) && (decide ((PyData.tuple xs).depth ≤ 60) && decide ((PyData.tuple xs).shown.length ≤ sizeLine))) then some (PyData.str (PyData.tuple xs).shown) else none) = some d := e
    split at e'
    · rename_i hc
      simp only [Bool.and_eq_true, decide_eq_true_eq] at hc
      obtain ⟨c1, c2, c3, c4⟩ := hc
      cases e'
      obtain ⟨a, ws, rfl, h1, h2⟩ := rep_tup r1
      rw [Vals.ref1 r]
      obtain ⟨as, rd⟩ := rp_reads I l (r1.toDp rfl) (show RelV (.ref a) (.ref a) from rfl)
      exact str_of_reads rd c1 (fun e => by rw [c2] at e; cases e) hG (by omega) (fun _ _ e => e) (fun h' u tk hk => ⟨.str _, H, I.kept hk, ⟨u, rfl⟩, w.here l (.dp (.str _ c4))⟩) c4
    · cases e'
  | _ => cases e
theorem x_strf {q : QE} {a : Expr} {p pos : Pos} (hG : X.A.guards = some []) (hu : X.A.units + 100 < cLine) (ha : PX X W q a) (hm : X.mg "str" = none) (hg : Gl X "str" := by rfl) (he : starEach [a] X.env = (false, eval a X.env) :: starEach [] X.env := by rfl) : PX X W (.strf q) (.Call (.Name "str" p) [a] [] pos) :=
  PE.szw (pe_callTy (c_str hG hu) hg hm PyProof.Rows.boot_str (pa_cons ha pa_nil he) (by decide) (by decide) he rfl) fun σ H Q z h z => by
    obtain ⟨s, F, g, h⟩ := h z
    have h' : PostG X.K W F σ ((ev q s).bind fun x s => ofO (strD x) s) (RepV X.K) Q := h
    refine ⟨s, F, g, h'.bind.mono fun v H1 m => ?_⟩
    obtain ⟨d1, s1, F1, z1, l1, g1, r1, h1⟩ := m
    try dsimp only at h1
    cases e : strD d1 with
    | none => rw [e] at h1; exact False.elim h1
    | some d =>
      rw [e] at h1
      exact ⟨F1, v, d1, d, rfl, z1, g1.fh, r1, e, fun F' H' v t r z3 => h1 F' H' v z3 t.ff (g1.stepK t) r⟩
/-! ### {'a': x, 'b': y} -/
section
variable {K : PySem.W.Frag} {B F0 F H : Hp} {p : Option Addr} {s : Sg} {σ : St} {q : Addr}
theorem Gd.notP (g : Gd K B F0 p F s σ H) (hq : H q = none) : p ≠ some q := fun e => by
  obtain ⟨_, xs, h, _⟩ := g.dr q e
  rw [hq] at h; cases h
theorem Gd.notF (g : Gd K B F0 p F s σ H) (hq : H q = none) : F q = none := by
  cases e : F q with
  | none => rfl
  | some o => have := g.fh _ _ e; rw [hq] at this; cases this
theorem Gd.notB (g : Gd K B F0 p F s σ H) (hq : H q = none) : B q = none := by
  cases e : B q with
  | none => rfl
  | some o => have := g.bh _ _ e (g.notP hq); rw [hq] at this; cases this
theorem Gd.moreB {o : HO} (g : Gd K B F0 p F s σ H) (hq : H q = none) : Gd K (upd B q o) F0 p F s σ (upd H q o) := by
  obtain ⟨ρ, h1, h2⟩ := g.cs
  have old : ∀ a u, H a = some u → upd H q o a = some u := fun a u e => Le.new hq a u e
  refine ⟨g.le, fun a u e => old a u (g.fh a u e), fun a u e n => ?_, fun a e n => ?_, ⟨ρ, fun i c e => ?_, h2⟩, fun a e => ?_, g.len⟩
  · by_cases ha : a = q
    · subst ha; rw [upd_same] at e ⊢; exact e
    · rw [upd_ne ha] at e ⊢; exact g.bh a u e n
  · by_cases ha : a = q
    · subst ha; exact g.notF hq
    · rw [upd_ne ha] at e; exact g.bf a e n
  · have := h1 i c e
    cases c with
    | no => exact trivial
    | val d => exact this
    | drw => exact this
    | own d =>
      obtain ⟨a, r1, r2, r3, r4, r5, r6⟩ := this
      have ha : a ≠ q := fun e => by subst e; exact r6.some hq
      exact ⟨a, r1, r2, by rw [upd_ne ha]; exact r3, r4, r5, r6.mono (Le.refl _) fun u e => old a u e⟩
  · obtain ⟨k1, xs, k2, k3⟩ := g.dr a e
    exact ⟨k1, xs, old _ _ k2, k3⟩
theorem Gd.lessB {o : HO} (g : Gd K (upd B q o) F0 p F s σ H) (hq : B q = none) : Gd K B F0 p F s σ H := by
  obtain ⟨ρ, h1, h2⟩ := g.cs
  have ne : ∀ a, B a ≠ none → a ≠ q := fun a e h => by subst h; exact e hq
  refine ⟨g.le, g.fh, fun a u e n => g.bh a u (by rw [upd_ne (ne a (by rw [e]; simp))]; exact e) n, fun a e n => g.bf a (by rw [upd_ne (ne a e)]; exact e) n, ⟨ρ, fun i c e => ?_, h2⟩, g.dr, g.len⟩
  have := h1 i c e
  cases c with
  | no => exact trivial
  | val d => exact this
  | drw => exact this
  | own d =>
    obtain ⟨a, r1, r2, r3, r4⟩ := this
    have ha : a ≠ q := fun e => by subst e; rw [upd_same] at r3; cases r3
    rw [upd_ne ha] at r3
    exact ⟨a, r1, r2, r3, r4⟩
theorem Gd.laidB {o o' : HO} (g : Gd K (upd B q o) F0 p F s σ H) (hB : B q = none) (h0 : F0 q = none) (hp : p ≠ some q) : F q = none ∧ H q = some o ∧ Gd K B F0 p (upd F q o') s σ (upd H q o') := by
  have hF : F q = none := g.bf q (by rw [upd_same]; simp) h0
  have hH : H q = some o := g.bh q o upd_same hp
  obtain ⟨ρ, h1, h2⟩ := g.cs
  have lF : Le F (upd F q o') := Le.new hF
  have ne : ∀ a, B a ≠ none → a ≠ q := fun a e h => by subst h; exact e hB
  refine ⟨hF, hH, ⟨g.le.trans lF, fun a u e => ?_, fun a u e n => ?_, fun a e n => ?_, ⟨ρ, fun i c e => ?_, h2⟩, fun a e => ?_, g.len⟩⟩
  · by_cases ha : a = q
    · subst ha; rw [upd_same] at e ⊢; exact e
    · rw [upd_ne ha] at e ⊢; exact g.fh a u e
  · have ha := ne a (by rw [e]; simp)
    rw [upd_ne ha]
    exact g.bh a u (by rw [upd_ne ha]; exact e) n
  · have ha := ne a e
    rw [upd_ne ha]
    exact g.bf a (by rw [upd_ne ha]; exact e) n
  · have := h1 i c e
    cases c with
    | no => exact trivial
    | val d =>
      obtain ⟨v, r1, r2⟩ := this
      exact ⟨v, r1, r2.mono lF⟩
    | drw => exact this
    | own d =>
      obtain ⟨a, r1, r2, r3, r4, r5, r6⟩ := this
      have ha : a ≠ q := fun e => by subst e; rw [upd_same] at r3; cases r3
      rw [upd_ne ha] at r3
      exact ⟨a, r1, r2, r3, by rw [upd_ne ha]; exact r4, r5, r6.mono lF fun u e => by rw [upd_ne ha]; exact e⟩
  · obtain ⟨k1, xs, k2, k3⟩ := g.dr a e
    have ha : a ≠ q := fun z => by subst z; exact hp e
    exact ⟨by rw [upd_ne ha]; exact k1, xs, by rw [upd_ne ha]; exact k2, dpAll_mono lF _ _ k3⟩
end
theorem merge2 {k1 k2 : Str} (h : k1 ≠ k2) (x y : V) : mergeK [] [((.inr k1 : Key), x), (.inr k2, y)] = [(.inr k1, x), (.inr k2, y)] := by
  have e : ¬ ((.inr k1 : Key) = .inr k2) := fun z => h (by injection z)
  show putK (putK [] (.inr k1 : Key) x) (.inr k2 : Key) y = _
  simp [putK, e]
theorem pe_anyB {q : QE} {e : Expr} (h : ∀ B, PX X ⟨B, W.F0, W.p, W.E, W.fr⟩ q e) : PE X e (fun σ H Q => ∃ B, tX X.K ⟨B, W.F0, W.p, W.E, W.fr⟩ (ev q) σ H Q) :=
  ⟨fun pins s σ H Q I ⟨B, k⟩ => (h B).run pins s σ H Q I k⟩
theorem x_sdsp {k1 k2 : Str} {qa qb : QE} {a b : Expr} {j1 j2 p1 p2 pos} (ha : ∀ B, PX X ⟨B, W.F0, W.p, W.E, W.fr⟩ qa a) (hb : ∀ B, PX X ⟨B, W.F0, W.p, W.E, W.fr⟩ qb b) : PX X W (.sdsp k1 qa k2 qb) (.Dict [some (.Constant (.str k1) j1 p1), some (.Constant (.str k2) j2 p2)] [a, b] pos) := by
  refine PE.szw (pe_disp (pps_cons pe_str (pe_anyB ha) (pps_cons pe_str (pe_anyB hb) pps_nil)) rfl rfl (by simp) (by simp)) fun σ H Q z h => ?_
  obtain ⟨s, F, g, h⟩ := h z
  have h' : PostG X.K W F σ ((ev qa s).bind fun x s => (ev qb s).bind fun y s => if isD x || (isD y || decide (k1 = k2)) then .bad else .ok (.dict [(.str k1, x), (.str k2, y)]) s) (RepV X.K) Q := h
  intro q hq
  have hB := g.notB hq
  have hp := g.notP hq
  have hF := g.notF hq
  have h0 : W.F0 q = none := by
    cases e : W.F0 q with
    | none => rfl
    | some o => have := g.le _ _ e; rw [hF] at this; cases this
  refine ⟨upd W.B q (.dK []), fun z1 => ⟨s, F, g.moreB hq, ?_⟩⟩
  cases e1 : ev qa s with
  | bad => rw [e1] at h'; exact h'.elim
  | exc c s1 => rw [e1] at h'; exact fun F' H' x l g' => h' F' H' x l (g'.lessB hB)
  | ok x s1 =>
    rw [e1] at h'
    intro F1 H1 v1 z2 l1 g1 r1
    have h2 : PostG X.K W F σ ((ev qb s1).bind fun y s => if isD x || (isD y || decide (k1 = k2)) then .bad else .ok (.dict [(.str k1, x), (.str k2, y)]) s) (RepV X.K) Q := h'
    refine ⟨upd W.B q (.dK []), fun z3 => ⟨s1, F1, g1, ?_⟩⟩
    cases e2 : ev qb s1 with
    | bad => rw [e2] at h2; exact h2.elim
    | exc c s2 => rw [e2] at h2; exact fun F' H' x l g' => h2 F' H' x (l1.trans l) (g'.lessB hB)
    | ok y s2 =>
      rw [e2] at h2
      intro F2 H2 v2 z4 l2 g2 r2
      have h3 : PostG X.K W F σ (if isD x || (isD y || decide (k1 = k2)) then .bad else .ok (.dict [(.str k1, x), (.str k2, y)]) s2) (RepV X.K) Q := h2
      split at h3
      · exact h3.elim
      · rename_i hc
        simp only [Bool.or_eq_true, decide_eq_true_eq, not_or, Bool.not_eq_true] at hc
        obtain ⟨c1, c2, c3⟩ := hc
        obtain ⟨f1, f2, f3⟩ := g2.laidB (o' := .dK [(.inr k1, v1), (.inr k2, v2)]) hB h0 hp
        refine ⟨f2, [(.inr k1, v1), (.inr k2, v2)], rfl, by simp, ?_⟩
        rw [merge2 c3]
        have lF : Le F2 (upd F2 q (.dK [(.inr k1, v1), (.inr k2, v2)])) := Le.new f1
        exact fun z5 => h3 _ _ _ z5 ((l1.trans l2).trans lF) f3 (.sdi upd_same ((r1.mono (l2.trans lF)).toDp c1) ((r2.mono lF).toDp c2))
/-- d.get(k, x) -/
theorem x_sget {qa qb qc : QE} {a b c : Expr} {apos cpos : Pos} (hu : X.A.units + 100 < cLine) (ha : PX X W qa a) (hb : PX X W qb b) (hc : PX X W qc c) (hbase : attributeBase a "get" X.env (eval a X.env) = eval a X.env := by rfl)
    (hfew : ((backTo cpos (starEach [b, c] X.env)).all (fun x => !x.1) && (backToKw cpos (keywordEach [] X.env)).all (fun x => x.1.isSome)
      && decide ([b, c].length + ([] : List Keyword).length + (if ([] : List Keyword).isEmpty then 0 else 1) < 30)) = true := by rfl)
    (hline : (apos.endLine == cpos.line) = true := by rfl) (ht : backTo cpos (starEach [b, c] X.env) = [(false, eval b X.env), (false, eval c X.env)] := by rfl) : PX X W (.sget qa qb qc) (.Call (.Attribute a "get" apos) [b, c] [] cpos) :=
  PE.szw (pe_dget2 (by omega) ha hb hc ⟨hbase, hfew, hline, ht⟩) fun σ H Q z h z => by
    obtain ⟨s, F, g, h⟩ := h z
    have h' : PostG X.K W F σ ((ev qa s).bind fun x s => if isSD x then (ev qb s).bind fun y s => (ev qc s).bind fun z s => if isD z then .bad else ofO (sgtD x y z) s else .bad) (RepV X.K) Q := h
    refine ⟨s, F, g, h'.bind.mono fun x H1 m => ?_⟩
    obtain ⟨d1, s1, F1, z1, l1, g1, r1, h1⟩ := m
    try dsimp only at h1
    split at h1
    · rename_i hk
      obtain ⟨ad, k1, k2, v1, v2, e1, e2, rfl, rfl, hd, q1, q2⟩ : ∃ (ad : Addr) (k1 k2 : Str) (v1 v2 : V) (e1 e2 : D), d1 = .dict [(.str k1, e1), (.str k2, e2)] ∧ x = .ref ad ∧ F1 ad = some (.dK [(.inr k1, v1), (.inr k2, v2)]) ∧ Rp X.K F1 v1 e1 ∧ Rp X.K F1 v2 e2 := by
        cases r1 with
        | sdi w0 w1 w2 => exact ⟨_, _, _, _, _, _, _, rfl, rfl, w0, w1, w2⟩
        | dp h => cases h <;> cases hk
        | prs _ _ _ => cases hk
        | scr _ => cases hk
        | dic h =>
          obtain ⟨es0, _, er, _⟩ := h
          unfold isSD at hk
          split at hk
          · rename_i q0
            cases q0
            cases er with
            | cons a t => cases a.1
          · cases hk
      refine ⟨ad, rfl, .inl ⟨_, .inl (g1.fh _ _ hd)⟩, fun _ => ⟨s1, F1, g1, h1.bind.mono fun y H2 m2 => ?_⟩⟩
      obtain ⟨k, s2, F2, z2, l2, g2, r2, h2⟩ := m2
      try dsimp only at h2
      refine fun _ => ⟨s2, F2, g2, h2.bind.mono fun x3 H3 m3 => ?_⟩
      obtain ⟨dx, s3, F3, z3, l3, g3, r3, h3⟩ := m3
      try dsimp only at h3
      split at h3
      · exact h3.elim
      · rename_i hx
        cases k with
        | str k =>
          obtain ⟨rfl, _⟩ := rep_str r2
          have hd3 : H3 ad = some (.dK [(.inr k1, v1), (.inr k2, v2)]) := g3.fh _ _ (l3 _ _ (l2 _ _ hd))
          refine ⟨valV [((.inr k1 : Key), v1), (.inr k2, v2)] (.inr k), .inl ⟨_, .inr k, .inl hd3, rfl, rfl⟩, fun z4 => ?_⟩
          have h4 : PostG X.K W F3 σ (.ok (if k1 = k then e1 else if k2 = k then e2 else dx) s3) (RepV X.K) Q := h3
          have hv : RepV X.K F3 ((valV [((.inr k1 : Key), v1), (.inr k2, v2)] (.inr k)).getD x3) (if k1 = k then e1 else if k2 = k then e2 else dx) := by
            by_cases c1 : k1 = k
            · subst c1
              have : valV [((.inr k1 : Key), v1), (.inr k2, v2)] (.inr k1) = some v1 := by simp [valV]
              rw [this, if_pos rfl]
              exact .dp (dp_mono (l2.trans l3) _ _ q1)
            · rw [if_neg c1]
              have n1 : ¬ ((.inr k1 : Key) = .inr k) := fun z => c1 (by injection z)
              by_cases c2 : k2 = k
              · subst c2
                have : valV [((.inr k1 : Key), v1), (.inr k2, v2)] (.inr k2) = some v2 := by simp [valV, n1]
                rw [this, if_pos rfl]
                exact .dp (dp_mono (l2.trans l3) _ _ q2)
              · have n2 : ¬ ((.inr k2 : Key) = .inr k) := fun z => c2 (by injection z)
                have : valV [((.inr k1 : Key), v1), (.inr k2, v2)] (.inr k) = none := by simp [valV, n1, n2]
                rw [this, if_neg c2]
                exact r3
          exact PostG.here h4 z4 g3 hv
        | _ => exact h3.elim
    · exact h1.elim
/-! ### a tuple of ints that the module names -/
theorem x_conT {x : Str} {ns : List Int} {pos : Pos} {a : Addr} (ht : ∀ H, PlT X.K H a (ns.map V.int)) (hm : X.mg x = some (.ref a)) (hg : Gl X x := by rfl) (hd : (x == ("__debug__" : Str)) = false := by decide) : PX X W (.con x (.tuple (ns.map .int))) (.Name x pos) :=
  PE.szw (pe_glob hg hm (show RelV (.ref a) (.ref a) from rfl) hd) fun σ H Q z h z' => by
    obtain ⟨s, F, g, h⟩ := h z
    exact PostG.here h z' g (.dp (.tup (ht F) (ints_dpAll ns)))
end
end L2.BH
set_option maxHeartbeats 1000000
/-! x[::-1] of a list or a tuple. -/
namespace L2.BH
open PySem PySem.Spec PyProof.Rows
section
variable {prog : Program} {w : World} {A : Around} {E : Value → Shared → Prop} {s : Shared}
theorem bh_adjust (n : Nat) : Builtin.Slice.sliceAdjust none none (-1) (n : Int) = ((n : Int) - 1, -1) := by
  unfold Builtin.Slice.sliceAdjust
  simp
theorem bh_places (n : Nat) : Builtin.Slice.slicePlaces ((n : Int) - 1) (-1) (-1) = n := by
  unfold Builtin.Slice.slicePlaces
  simp
  split <;> omega
theorem bh_applied {sl : Addr} {vl vu vk : Value} {n : Nat} {Q : Int × Int × Nat → Shared → Prop} (hs : s.heap.IsSliceOf sl vl vu vk) (pl : IsPart vl none) (pu : IsPart vu none) (pk : IsPart vk (some (-1)))
    (h : Q ((n : Int) - 1, -1, n) s) : wpAny (model prog w) A (Builtin.Slice.sliceApplied (.ref sl) (pure (n : Int))) Q E s := by
  obtain ⟨os, hos, hcs, hds⟩ := id hs
  unfold Builtin.Slice.sliceApplied Builtin.Slice.sliceFields
  refine wpAny_bind (wpAny_bind (wpAny_field hos hds (x := vl) rfl (wpAny_bind (wpAny_field hos hds (x := vu) rfl (wpAny_bind (wpAny_field hos hds (x := vk) rfl (wpAny_pure ?_)))))))
  refine wpAny_bind (HT.slicePart_ pk ?_)
  show wpAny _ _ (if ((-1 : Int) == 0) = true then _ else _) _ _ s
  rw [if_neg (by decide)]
  refine wpAny_bind (HT.slicePart_ pl (wpAny_bind (HT.slicePart_ pu (wpAny_bind (wpAny_pure ?_)))))
  show wpAny _ _ (match Builtin.Slice.sliceAdjust none none (-1) (n : Int) with | (lo, hi) => pure (lo, (-1 : Int), Builtin.Slice.slicePlaces lo hi (-1))) _ _ s
  rw [bh_adjust n]
  show wpAny _ _ (pure ((n : Int) - 1, (-1 : Int), Builtin.Slice.slicePlaces ((n : Int) - 1) (-1) (-1))) _ _ s
  rw [bh_places]
  exact wpAny_pure h
theorem bh_pick (xs : Array Value) : ((List.range xs.size).filterMap fun (m : Nat) => xs[(((xs.size : Int) - 1) + (m : Int) * (-1)).toNat]?).toArray = xs.toList.reverse.toArray := by
  have e : (List.range xs.size).filterMap (fun (m : Nat) => xs[(((xs.size : Int) - 1) + (m : Int) * (-1)).toNat]?) = ((List.range xs.size).map fun k => xs.size - 1 - k).filterMap (xs[·]?) := by
    rw [List.filterMap_map]
    congr 1
    funext m
    show xs[(((xs.size : Int) - 1) + (m : Int) * (-1)).toNat]? = xs[xs.size - 1 - m]?
    have : (((xs.size : Int) - 1) + (m : Int) * (-1)).toNat = xs.size - 1 - m := by omega
    rw [this]
  rw [e, PySem.W.krv_range, List.filterMap_reverse, PySem.W.krv_all]
theorem bh_getItem_tuple_rev {t sl : Addr} {items : Array Value} {vl vu vk : Value} {Q : Value → Shared → Prop} (ht : IsTup s.heap t items) (hs : s.heap.IsSliceOf sl vl vu vk) (pl : IsPart vl none) (pu : IsPart vu none) (pk : IsPart vk (some (-1)))
    (h : Q (.ref s.heap.objs.size) { s with heap := s.heap.push { cls := .type "tuple", data := .seq items.toList.reverse.toArray } })
    (hsz : items.size ≤ sizeLine) : wpAny (model prog w) A (getItem (.ref t) (.ref sl)) Q E s := by
  have htake : sizeOk (.seq items.toList.reverse.toArray) := by
    show items.toList.reverse.toArray.size ≤ sizeLine
    rw [List.size_toArray, List.length_reverse, Array.length_toList]
    exact hsz
  obtain ⟨os, hos, hcs, hds⟩ := id hs
  have hTs : s.TypeIs (.ref sl) "slice" := ⟨os, hos, hcs⟩
  unfold getItem
  try with_reducible refine wpAny_holding ?_
  first | refine wpAny_bind (wpAny_pure ?_) | skip
  refine wpAny_bind (wpAny_sequenceKey ht.typeIs (by decide) ?_)
  refine wpAny_bind (wpAny_callSpecial?_slot (name := Str.ofString "__getitem__") ht.typeIs PyProof.Rows.slot_tuple_getitem
    (wpAny_call_entry PyProof.Rows.slot_tuple_getitem ht.typeIs entry_tuple_getitem ?_ (args_tuple_getitem _ _)))
  show wpAny _ _ (Builtin.Tuple.tupleItemsOf (.ref t) >>= _) _ _ s
  refine wpAny_bind (tupleItemsOf_ ht ?_)
  refine wpAny_bind (wpAny_typeOf hTs ?_)
  rw [if_pos (by decide)]
  refine wpAny_bind (bh_applied hs pl pu pk ?_)
  have hno : ¬ (((((items.size : Nat) : Int) - 1) == 0 && (-1 : Int) == 1 && items.size == items.size) = true) := by simp
  show wpAny _ _ (if ((((items.size : Nat) : Int) - 1) == 0 && (-1 : Int) == 1 && items.size == items.size) = true then _ else _) _ _ s
  rw [if_neg hno, bh_pick]
  first
    | exact wpAny_bind (m := Builtin.Tuple.tupleExact _) (wpAny_newObj_type (wpAny_pure ⟨_, rfl, wpAny_pure h⟩) htake)
    | exact wpAny_bind (m := Builtin.Tuple.tupleExact _) (wpAny_newObj_type (wpAny_bind (wpAny_pure (wpAny_pure ⟨_, rfl, wpAny_pure h⟩))) htake)
    | exact wpAny_bind (wpAny_bind (m := Builtin.Tuple.tupleExact _) (wpAny_newObj_type (wpAny_pure (wpAny_pure ⟨_, rfl, wpAny_pure h⟩)) htake))
    | exact wpAny_bind (wpAny_bind (m := Builtin.Tuple.tupleExact _) (wpAny_newObj_type (wpAny_pure ⟨_, rfl, wpAny_pure h⟩) htake))
end
section
variable {X : Cx} {W : Wc}
def tRevA (K : PySem.W.Frag) (te : TE) : TE := fun σ H Q => te σ H fun x H1 => ∃ a xs, x = .ref a ∧ ((SqL K H1 a xs ∧ ∀ p, H1 p = none → Q (.ref p) (upd H1 p (.lst xs.reverse))) ∨ (SqT K H1 a xs ∧ ∀ p o, H1 p = none → o.dict = none → Q (.ref p) (upd H1 p (.frz o (.tup xs.reverse)))))
theorem pe_revA {e : Expr} {te : TE} {k : Nat} {p1 p2 p3 pos : Pos} (he : PE X e te) : PE X (.Subscript e (.Slice none none (some (.UnaryOp .USub (.Constant (.int 1) k p1) p2)) p3) pos) (tRevA X.K te) := by
  refine ⟨fun pins s σ H Q I h => ?_⟩
  refine Subscript_ (thn (he.run pins s σ H _ I h) fun v s1 ⟨x, H1, I1, r1, q1⟩ => ?_)
  obtain ⟨a, xs, ex, q⟩ := q1
  subst ex
  cases r1
  have hst : PO X (some (.UnaryOp .USub (.Constant (.int 1) k p1) p2)) (tPart (tUn (rU fun i => .int (-i)) (tC (.int 1)))) := po_some (pe_un un_neg pe_int)
  refine wpAny_Slice (thn (po_none.run pins s1 σ H1 (fun o H2 => o = none ∧ H2 = H1) I1 ⟨rfl, rfl⟩) fun vl s2 ⟨l, H2, I2, pl, el, e2⟩ => ?_)
  subst el e2
  refine thn (po_none.run pins s2 σ H2 (fun o H3 => o = none ∧ H3 = H2) I2 ⟨rfl, rfl⟩) fun vu s3 ⟨u, H3, I3, pu, eu, e3⟩ => ?_
  subst eu e3
  refine thn (hst.run pins s3 σ H3 (fun o H4 => o = some (-1) ∧ H4 = H3) I3 ⟨1, rfl, -1, rfl, rfl, rfl⟩) fun vs s4 ⟨o, H4, I4, ps, eo, e4⟩ => ?_
  subst eo e4
  have I5 : Inv X pins σ H4 { s4 with heap := s4.heap.push { cls := .type "slice", data := .fields #[vl, vu, vs] } } := I4.kept (t' := s4.toks) fun b ob q => Heap.get?_push_of_some _ q
  show wpAny (model X.prog X.w) X.A (subscriptTail e (.Slice none none (some (.UnaryOp .USub (.Constant (.int 1) k p1) p2)) p3) (.ref a) (.ref s4.heap.objs.size)) (EP X pins σ Q) X.xe { s4 with heap := s4.heap.push { cls := .type "slice", data := .fields #[vl, vu, vs] } }
  rcases q with ⟨hx, q⟩ | ⟨hx, q⟩
  · obtain ⟨its, r, ht, hz⟩ := I5.list hx
    have hlen := r.length
    refine tail_any (ops := [.ref a, .ref s4.heap.objs.size]) ht.isList.typeIs (PySem.slot_list_getitem.lookup) ?_ (by with_unfolding_all rfl)
    refine wpAny_getItem_list_slice ht.isList (Heap.IsSliceOf.new _ vl vu vs) pl pu ps (by decide) ?_ (by rw [List.size_toArray]; omega)
    rw [PySem.W.krv_pick]
    refine ⟨.ref _, _, I5.laid (t' := s4.toks) (o := .lst xs.reverse) (fun b ob q => Heap.get?_push_of_some _ q) (Nat.le_refl _) ?_, rfl, q _ (I5.hok.fresh (Nat.le_refl _))⟩
    exact ⟨by rw [List.length_reverse]; exact hz, _, 0, r.reverse, Heap.get?_push_size _ rfl⟩
  · obtain ⟨its, r, ht, hz⟩ := I5.tuple hx
    have hlen := r.length
    refine tail_any (ops := [.ref a, .ref s4.heap.objs.size]) ht.typeIs PyProof.Rows.slot_tuple_getitem.lookup ?_ (by with_unfolding_all rfl)
    refine bh_getItem_tuple_rev ht (Heap.IsSliceOf.new _ vl vu vs) pl pu ps ?_ (by rw [List.size_toArray]; omega)
    exact ⟨.ref _, _, layT I5 r.reverse (by rw [List.length_reverse]; exact hz), rfl, q _ _ (freshT I5) rfl⟩
theorem x_rev {q : QE} {e : Expr} {k : Nat} {p1 p2 p3 pos : Pos} (h : PX X W q e) : PX X W (.rev q) (.Subscript e (.Slice none none (some (.UnaryOp .USub (.Constant (.int 1) k p1) p2)) p3) pos) :=
  PE.szw (pe_revA h) fun σ H Q z h z => by
    obtain ⟨s, F, g, h⟩ := h z
    have h' : PostG X.K W F σ ((ev q s).bind fun x s => ofO (revD x) s) (RepV X.K) Q := h
    refine ⟨s, F, g, h'.bind.mono fun x H1 m => ?_⟩
    obtain ⟨d, s1, F1, z1, l1, g1, r1, h1⟩ := m
    try dsimp only at h1
    cases d with
    | list xs =>
      obtain ⟨a, vs, rfl, k1, k2⟩ := rep_lst r1
      refine ⟨a, vs, rfl, .inl ⟨.inl (g1.fh.rd k1), fun p hp z2 => ?_⟩⟩
      have t : Stp none F1 H1 (upd F1 p (.lst vs.reverse)) (upd H1 p (.lst vs.reverse)) := Stp.new g1.fh hp
      exact h1 _ _ _ z2 t.ff (g1.stepK t) (.dp (.lst (.inl upd_same) (dpAll_mono t.ff _ _ (dpAll_rev k2))))
    | tuple xs =>
      obtain ⟨a, vs, rfl, k1, k2⟩ := rep_tup r1
      refine ⟨a, vs, rfl, .inr ⟨g1.fh.sqT k1, fun p o hp ho z2 => ?_⟩⟩
      have t : Stp none F1 H1 (upd F1 p (.frz o (.tup vs.reverse))) (upd H1 p (.frz o (.tup vs.reverse))) := Stp.new g1.fh hp
      exact h1 _ _ _ z2 t.ff (g1.stepK t) (.dp (.tup (PlT.of upd_same ho) (dpAll_mono t.ff _ _ (dpAll_rev k2))))
    | _ => exact False.elim h1
end
end L2.BH
set_option maxHeartbeats 1000000
/-! What the printed texts use: defs by name, ends. -/
namespace L2.BH
open PySem PySem.Spec PyProof.Rows
/-- a def of the module that keeps its promise -/
structure Cal (P : Program) (w : World) (K : PySem.W.Frag) (mg : Str → Option Value) (base : Heap) (x : Str) (k : Nat) (sp : Sp) : Prop where
  ex : ∃ (fa : Addr) (fd : FuncData) (ps : List Str), FnOk P w K mg base (L2.CX P w) k fa fd ps sp ∧ PySem.W.keepIn K (.ref fa) = true ∧ Binds K fd ps [] ∧ mg x = some (.ref fa)
section
variable {X : Cx} {W : Wc} {k k' : Nat} {x : Str} {p pos : Pos}
theorem x_c {f : FEnt} {qs : QEs} {e : Expr} {es : List Expr} (C : Cal X.prog X.w X.K X.mg X.base x k (spP X.K f)) (hr : Room k' X.A) (hk : k ≤ k') (tk : Takes X W.E)
    (ha : PXA X W qs (e :: es)) (hn : qs.n = f.n := by rfl) (hg : Gl X x := by rfl) (hdb : (x == ("__debug__" : Str)) = false := by decide) (he : starEach (e :: es) X.env = (false, eval e X.env) :: starEach es X.env := by rfl) (hpl : (backTo pos (starEach es X.env)).any (·.1) = false := by rfl) :
    PX X W (.call f qs) (.Call (.Name x p) (e :: es) [] pos) := by
  obtain ⟨fa, fd, ps, F, kp, hb, hm⟩ := C.ex
  exact x_call F kp hb hm (hr.mono hk) tk ha hn hg hdb he hpl
theorem o_c {f : FEnt} {qs : QEs} {e : Expr} {es : List Expr} (C : Cal X.prog X.w X.K X.mg X.base x k (spO X.K f)) (hr : Room k' X.A) (hk : k ≤ k') (tk : Takes X W.E)
    (ha : PXA X W qs (e :: es)) (hn : qs.n = f.n := by rfl) (hg : Gl X x := by rfl) (hdb : (x == ("__debug__" : Str)) = false := by decide) (he : starEach (e :: es) X.env = (false, eval e X.env) :: starEach es X.env := by rfl) (hpl : (backTo pos (starEach es X.env)).any (·.1) = false := by rfl) :
    PN X W (.call f qs) (.Call (.Name x p) (e :: es) [] pos) := by
  obtain ⟨fa, fd, ps, F, kp, hb, hm⟩ := C.ex
  exact o_call F kp hb hm (hr.mono hk) tk ha hn hg hdb he hpl
theorem x_cd {f : FEnt} {i : Nat} {nm : Str} {np : Pos} {qs : QEs} {es : List Expr} (C : Cal X.prog X.w X.K X.mg X.base x k (spD X.K f)) (hr : Room k' X.A) (hk : k ≤ k') (tk : Takes X W.E)
    (ha : PXA X W qs es) (hn : qs.n = f.n := by rfl) (hN : X.N[i]? = some nm := by rfl) (hv : Vis X.env.scope nm := by first | exact Or.inl rfl | exact Or.inr (Or.inl rfl) | exact Or.inr (Or.inr rfl)) (hg : Gl X x := by rfl) (hdb : (x == ("__debug__" : Str)) = false := by decide)
    (hd : (nm == ("__debug__" : Str)) = false := by decide) (hcd : (nm == ("__classdict__" : Str)) = false := by decide)
    (he : starEach (.Name nm np :: es) X.env = (false, eval (.Name nm np) X.env) :: starEach es X.env := by rfl) (hpl : (backTo pos (starEach es X.env)).any (·.1) = false := by rfl) :
    PX X W (.calld f i qs) (.Call (.Name x p) (.Name nm np :: es) [] pos) := by
  obtain ⟨fa, fd, ps, F, kp, hb, hm⟩ := C.ex
  exact x_calld F kp hb hm (hr.mono hk) tk ha hn hN hv hg hdb hd hcd he hpl
end
def QSs.endR : QSs → Bool
  | .nil => false
  | .cons (.retF _) .nil => true
  | .cons _ r => r.endR
theorem endR_ok : ∀ (q : QSs), q.endR = true → ∀ s s', runs q s ≠ .nx s'
  | .nil, h, _, _ => by cases h
  | .cons st r, h, s, s' => by
    intro e
    have e' : (match run st s with
      | .nx s => runs r s
      | o => o) = .nx s' := e
    cases q : run st s with
    | nx s1 =>
      rw [q] at e'
      by_cases hr : r.endR = true
      · exact endR_ok r hr s1 s' e'
      · cases r with
        | cons a b =>
          have : (QSs.cons st (.cons a b)).endR = (QSs.cons a b).endR := by
            cases st <;> rfl
          rw [this] at h
          exact hr h
        | nil =>
          cases st with
          | retF x =>
            have q' : SOut.of (ev x s) (fun d s => SOut.ret d s) = .nx s1 := q
            cases w : ev x s with
            | ok d s2 => rw [w] at q'; cases q'
            | exc c s2 => rw [w] at q'; cases q'
            | bad => rw [w] at q'; cases q'
          | _ => cases h
    | ret d s1 => rw [q] at e'; cases e'
    | brk s1 => rw [q] at e'; cases e'
    | ct s1 => rw [q] at e'; cases e'
    | exc c s1 => rw [q] at e'; cases e'
    | bad => rw [q] at e'; cases e'
/-- the def whose body is q, m slots -/
@[simp] noncomputable def entP (x : Str) (n m : Nat) (q : QSs) : FEnt := ⟨x, n, fun ds _ => semP q m ds⟩
@[simp] noncomputable def entD (x : Str) (n m : Nat) (q : QSs) : FEnt := ⟨x, n, fun ds dr => semD q m ds dr⟩
/-- the law's promise, by its worth -/
theorem law_sp {K : PySem.W.Frag} {f : FEnt} (hn : f.n = 1) (h : ∀ ns : List Int, ∃ dr, f.sem [scrD ns] [] = .ret (.bool true) dr) (P : Program) (w : World) (H : Hp) (a : Addr) (ns : List Int) (hS : SqL K H a (ns.map V.int)) : spP K f [.ref a] H (fun v _ => v = .bl true) fun _ _ _ => False := by
  obtain ⟨dr, e⟩ := h ns
  refine ⟨by rw [hn]; rfl, H, [scrD ns], Le.refl _, .cons (.scr hS) .nil, ?_⟩
  rw [e]
  exact fun F' H' v _ _ r => rep_bl r
/-- a law's end: F gives the written part, the function object, the promise over every base -/
theorem walk_ofW {l : PySem.W.OpenLaw} {n k : Nat} {q : Program} {loose : List Str} {XP : (Str → Option Value) → Heap → Prop} {YP : World → Heap → Prop} {d : DefRec} {x : Str} (CX : World → CXT)
    (hn : l.most = some n) (hn2 : n ≤ sizeLine) (hdf : d.params.defaults = []) (hr : Room k callerA)
    (F : ∀ (w : World) (mg : Str → Option Value) (fa : Addr) (h : Heap), YP w h → h.Ns mainGlobals mg → mg d.name = some (.ref fa) →
      ∃ (K : PySem.W.Frag) (fd : FuncData) (sp : Sp), K.In h ∧ (∀ (s : Shared) (u : Value), BindsTo s fd ⟨[u], []⟩ [(x, u)]) ∧
        (∀ (H : Hp) (a : Addr) (ns : List Int), ns.length ≤ n → Only H → SqL K H a (ns.map V.int) → sp [.ref a] H (fun v _ => v = .bl true) fun _ _ _ => False) ∧
        ∀ base : Heap, K.In base → base.Ns mainGlobals mg → FnOk l.prog w K mg base (CX w) k fa fd [x] sp)
    (hCX : ∀ (w : World) (H : Hp) (s : Shared) (e : Value) (s' : Shared), CX w [] H s (fun _ _ _ => False) e s' → False) :
    PySem.W.WalkO q loose XP YP l.row.toRowW d [] (fun f vs => PySem.call f vs) := by
  refine Att.attach_call hn hdf fun w s₀ s₁ mg mb fa o pm cd doc a vs ns G Y ho hd hcd hmg hobj hints hlen hg => ?_
  obtain ⟨K, fd, sp, KX, hb, hsp, hF⟩ := F w mg fa _ Y G.T.g hmg
  exact law_call KX G.T.g G.T.b G.T.builtins G.T.nolimit hg hobj hints (Nat.le_trans hlen hn2) hr hF hb (fun H hO hS => hsp H a ns hlen hO hS) fun H e s' => hCX w H s₁ e s'
end L2.BH
set_option maxHeartbeats 1000000
/-! Defs that show data as text: they are called where no text is under way. -/
namespace L2.BH
open PySem PySem.Spec PyProof.Rows L2
structure FnG (P : Program) (w : World) (K : PySem.W.Frag) (mg : Str → Option Value) (base : Heap) (k : Nat) (f : Addr) (fd : FuncData) (ps : List Str) (sp : Sp) : Prop where
  len : ∀ vs H Q E, sp vs H Q E → vs.length = ps.length
  run : ∀ (A : Around) (outer : List Env) (s : Shared) (H : Hp) (args : Args) (us : List Value) (vs : List V) (Q : VK) (E : XK), A.guards = some [] → Room k A → Env0 P w K mg base A outer s H → BindsTo s fd args (ps.zip us) → Vals vs us → sp vs H Q E →
    codeAny (model P w) A (.call (.ref f) args) (CR (L2.CX P w) outer P w H s Q E) s
section
variable {P : Program} {w : World} {K : PySem.W.Frag} {mg : Str → Option Value} {base : Heap} {x qual : Str} {params : Arguments} {body : List Stmt} {scope : Scope} {f : Addr} {fd : FuncData} {N ps : List Str} {k : Nat} {sp : Sp}
theorem fnG_of (F : FunD K x qual params body scope [] [] f fd) (S : FnScope N ps scope) (len : ∀ vs H Q E, sp vs H Q E → vs.length = ps.length)
    (hbody : ∀ (cdv : Value) (A : Around) (outer : List Env) (s : Shared) (H : Hp) (vs : List V) (Q : VK) (E : XK), A.guards = some [] → Room k (A.deeper (envOfC qual scope s.heap.objs.size f cdv)) → sp vs H Q E →
      ∃ t, PSs (cxOf (L2.CX P w) P w K mg base N qual scope f cdv A outer s H E) body t ∧ t { nx := fun _ H' => Q .non H', rt := Q } (start N vs) H) : FnG P w K mg base (k + 1) f fd ps sp := by
  refine ⟨len, fun A outer s H args us vs Q E hg hr e0 hb r hsp => ?_⟩
  obtain ⟨oc, od, dV, kV, doc, pm, an, cdv, ct, osl, rfl, lk, hcd, _, _⟩ := F.ex
  refine StX.run_bnd lk hcd S hr e0 (G := fun xs H2 => xs = vs ∧ H2 = H) (fun A' Ex Q' h => hb _ _ _ _ (h s H vs us e0 (Un.refl) rfl (fun _ _ z => z) r (len _ _ _ _ hsp) ⟨rfl, rfl⟩)) fun s2 H2 xs q hr' => ?_
  obtain ⟨rfl, rfl⟩ := q
  exact hbody cdv A outer s2 H2 xs Q E hg hr' hsp
theorem fn_pG {e : FEnt} {q : QSs} {m : Nat} (F : FunD K x qual params body scope [] [] f fd) (S : FnScope N ps scope) (hps : e.n = ps.length) (hm : N.length = m) (hsem : ∀ ds, e.sem ds [] = semP q m ds) (hpN : ps.length ≤ N.length)
    (hb : ∀ (cdv : Value) (A : Around) (outer : List Env) (s : Shared) (H : Hp) (E : XK) (W : Wc), W.fr = false → Bd K mg k N scope (cx P w K mg base N qual scope f cdv A outer s H E) W → (cx P w K mg base N qual scope f cdv A outer s H E).A.guards = some [] → QSts (cx P w K mg base N qual scope f cdv A outer s H E) W q body) :
    FnG P w K mg base (k + 1) f fd ps (spP K e) := by
  refine fnG_of F S (fun vs H Q E h => by rw [h.1, hps]) fun cdv A outer s H vs Q E hg hr hsp => ?_
  obtain ⟨hl, F1, ds, l, ra, h⟩ := hsp
  refine ⟨_, hb cdv A outer s H E ⟨H, F1, none, fun c d _ H => E c d H, false⟩ rfl (bd_of S hr) hg, fun _ => ⟨_, F1, gd_startP l ra (by omega), ?_⟩⟩
  rw [hsem] at h
  unfold semP frOf at h
  rw [hm]
  cases e1 : runs q ⟨ds.map .val ++ List.replicate (m - ds.length) .no, []⟩ with
  | nx s1 => rw [e1] at h; exact fun F' σ' H' z' l' g' => h F' H' _ z' ⟨g'.le, g'.fh, g'.bh, g'.bf⟩ (.dp .non)
  | ret d s1 => rw [e1] at h; exact .inl ⟨rfl, fun F' σ' H' v z' l' g' r => h F' H' v z' ⟨g'.le, g'.fh, g'.bh, g'.bf⟩ r⟩
  | exc c s1 => rw [e1] at h; exact fun F' σ' H' x l' g' => h F' H' x ⟨g'.le, g'.fh, g'.bh, g'.bf⟩
  | brk s1 => rw [e1] at h; exact h.elim
  | ct s1 => rw [e1] at h; exact h.elim
  | bad => rw [e1] at h; exact h.elim
structure CalG (P : Program) (w : World) (K : PySem.W.Frag) (mg : Str → Option Value) (base : Heap) (x : Str) (k : Nat) (sp : Sp) : Prop where
  ex : ∃ (fa : Addr) (fd : FuncData) (ps : List Str), FnG P w K mg base k fa fd ps sp ∧ PySem.W.keepIn K (.ref fa) = true ∧ Binds K fd ps [] ∧ mg x = some (.ref fa)
end
section
variable {X : Cx} {W : Wc} {k k' : Nat} {x : Str} {p pos : Pos}
theorem run_fnG {pins : List (Addr × Obj)} {σ : St} {H : Hp} {s : Shared} {Q : VK} {us : List Value} {vs : List V} {f : Addr} {fd : FuncData} {ps : List Str} {sp : Sp} {E : St → XK} (F : FnG X.prog X.w X.K X.mg X.base k f fd ps sp) (hg : X.A.guards = some []) (hr : Room k X.A) (hb : Binds X.K fd ps []) (hx : PassesAt (L2.CX X.prog X.w) X σ (E σ))
    (I : Inv X pins σ H s) (r : Vals vs us) (h : sp vs H Q (E σ)) : wpAny (model X.prog X.w) X.A (call (.ref f) us) (EP X pins σ Q) X.xe s := by
  have b := hb s us I.kIn (by rw [List.append_nil, ← r.length]; exact F.len _ _ _ _ h)
  rw [List.append_nil] at b
  refine wpAny_call (codeAny_mono (F.run X.A X.stack s H ⟨us, []⟩ us vs Q (E σ) hg hr I.env0 b r h) fun o s' hq => ?_)
  cases o with
  | error e => exact hx pins H s e s' I hq
  | ok fl =>
    cases fl with
    | ret u => exact I.after hq
    | _ => exact False.elim hq
theorem x_cG {f : FEnt} {qs : QEs} {e : Expr} {es : List Expr} (C : CalG X.prog X.w X.K X.mg X.base x k (spP X.K f)) (gd : X.A.guards = some []) (hr : Room k' X.A) (hk : k ≤ k') (tk : Takes X W.E)
    (ha : PXA X W qs (e :: es)) (hn : qs.n = f.n := by rfl) (hg : Gl X x := by rfl) (hdb : (x == ("__debug__" : Str)) = false := by decide) (he : starEach (e :: es) X.env = (false, eval e X.env) :: starEach es X.env := by rfl) (hpl : (backTo pos (starEach es X.env)).any (·.1) = false := by rfl) :
    PX X W (.call f qs) (.Call (.Name x p) (e :: es) [] pos) := by
  obtain ⟨fa, fd, ps, F, kp, hb, hm⟩ := C.ex
  have pe : PE X (.Call (.Name x p) (e :: es) [] pos) (tCallS (spP X.K f) (fun σ => WE W.E σ) (tXA X.K W (evs qs))) := by
    refine ⟨fun pins s σ H Q I h => ?_⟩
    refine wpAny_Call_Name_kw (ld_glob I hg hm ?_ hdb)
    refine PySem.W.callWith_K (h₀ := X.base) I.ok.mod.kin kp (thn (ha.run pos pins s σ H _ I h) fun us s1 z => ?_) he hpl
    obtain ⟨vs, H1, I1, r, q⟩ := z
    exact ⟨I1.kIn, run_fnG (E := fun σ => WE W.E σ) F gd (hr.mono hk) hb (passAt tk σ) I1 r q⟩
  refine PE.szw pe fun σ H Q z h z => ?_
  obtain ⟨s, F, g, h⟩ := h z
  have h' : PostG X.K W F σ ((evs qs s).bind fun ds s => callP f ds s) (RepV X.K) Q := h
  cases q : evs qs s with
  | exc c s1 => refine ⟨s, F, g, ?_⟩; rw [q] at h' ⊢; exact h'
  | bad => rw [q] at h'; exact False.elim h'
  | ok ds s1 =>
    have hl := evs_len _ _ _ _ q
    rw [q, Out.bind_ok] at h'
    refine ⟨s, F, g, ?_⟩
    rw [q]
    intro F1 H1 vs z1 l1 g1 r1
    refine ⟨by rw [r1.len, hl]; exact hn, F1, ds, g1.fh, r1, ?_⟩
    unfold callP at h'
    cases e : f.sem ds [] with
    | ret d dr => rw [e] at h'; exact fun F' H' v z' t r _ => h' F' H' v z' (l1.trans t.ff) (g1.stepK t) r
    | exc c dr => rw [e] at h'; exact fun F' H' x t => h' F' H' x (l1.trans t.ff) (g1.stepK t)
    | bad => rw [e] at h'; exact False.elim h'
end
/-! ### a law that shows data as text: its end -/
section
variable {P : Program} {w : World} {K : PySem.W.Frag} {mg mb : Str → Option Value} {k : Nat} {fa a : Addr} {fd : FuncData} {x : Str} {sp : Sp} {s₁ : Shared} {vs : List Value} {ns : List Int}
/-- from a heap in which at most the script is told of -/
theorem law_coreG (KX : K.In s₁.heap) (hns : s₁.heap.Ns mainGlobals mg) (hb : s₁.heap.Ns builtinsNs mb) (hbb : ∀ x : Str, x ≠ "__name__" → mb x = bootBuiltins x) (hlim : s₁.heap.NoLimit) (hg : s₁.gens = #[])
    (ha : s₁.heap.get? a = some { cls := .type "list", data := .seq vs.toArray }) (hr : Room k callerA)
    (F : ∀ base : Heap, K.In base → base.Ns mainGlobals mg → FnG P w K mg base k fa fd [x] sp) (hbind : ∀ (s : Shared) (u : Value), BindsTo s fd ⟨[u], []⟩ [(x, u)])
    (hCX : ∀ H e s', L2.CX P w [] H s₁ (fun _ _ _ => False) e s' → False) (H : Hp) (hO : Only H) (hsp : sp [.ref a] H (fun v _ => v = .bl true) fun _ _ _ => False) (hok : HOk P w H s₁.heap) (hA : ∀ b, H b ≠ none → b = a) (hK : H a ≠ none → K.lookup a = none) :
    codeAny (model P w) callerA (.call (.ref fa) ⟨[.ref a], []⟩) (fun r s' => r = .ok (.ret (.bool true)) ∧ OldK s₁.heap s'.heap ∧ s'.os = s₁.os ∧ AllBare s'.gens) s₁ := by
  have hid : ∀ {b : Addr} {o : Obj}, s₁.heap.get? b = some o → b ≠ a → (hidT s₁.heap H).get? b = some o := fun {b o} e n => hidT_get e (Classical.byContradiction fun q => n (hA b q))
  have nsK : ∀ {b : Addr} {m : Str → Option Value}, s₁.heap.Ns b m → (hidT s₁.heap H).Ns b m := fun {b m} ⟨o, es, ep, e, d, r⟩ => ⟨o, es, ep, hid e (fun q => by
    subst q
    rw [ha] at e
    cases e
    exact nomatch (show Data.seq vs.toArray _ = Data.dict es ep from d)), d, r⟩
  have kin : K.In (hidT s₁.heap H) := fun b o e => by
    by_cases q : H b = none
    · exact hidT_get (KX b o e) q
    · have q2 := hA b q
      subst q2
      rw [hK q] at e
      cases e
  have e0 : Env0 P w K mg (hidT s₁.heap H) callerA [] s₁ H := ⟨rfl, ⟨kin, nsK hns, ⟨mb, nsK hb, hbb⟩, let ⟨mc, h1, h2⟩ := hlim; ⟨mc, nsK h1, h2⟩⟩, fun b o e => of_hidT e, Nat.le_of_eq (hidT_size _ _), trivial, fun b hb => (List.not_mem_nil hb).elim, hok, .of_eq hg⟩
  refine codeAny_mono ((F _ kin (nsK hns)).run callerA [] s₁ H ⟨[.ref a], []⟩ [.ref a] [.ref a] _ _ rfl hr e0 (hbind s₁ (.ref a)) (.cons rfl .nil) hsp) fun r s' h => ?_
  cases r with
  | error e => exact (hCX H e s' h).elim
  | ok fl =>
    cases fl with
    | ret u =>
      obtain ⟨v, H', os, bare, un, hok', r', q⟩ := h
      obtain rfl : v = .bl true := q
      obtain rfl : u = Value.bool true := r'
      refine ⟨rfl, OldK.of_keep fun b o e => ?_, os, bare⟩
      rcases hO b with z | ⟨ob, xs, z⟩
      · exact un.keep b o e z List.not_mem_nil List.not_mem_nil
      · obtain ⟨e1, _⟩ := hok b _ z
        obtain ⟨e2, _⟩ := hok' b _ (un.frzs b ob _ z)
        rw [e] at e1
        cases e1
        exact e2
    | _ => exact False.elim h
theorem law_callG (KX : K.In s₁.heap) (hns : s₁.heap.Ns mainGlobals mg) (hb : s₁.heap.Ns builtinsNs mb) (hbb : ∀ x : Str, x ≠ "__name__" → mb x = bootBuiltins x) (hlim : s₁.heap.NoLimit) (hg : s₁.gens = #[])
    (ha : s₁.heap.get? a = some { cls := .type "list", data := .seq vs.toArray }) (hi : IntsAre vs ns) (hl : ns.length ≤ sizeLine) (hr : Room k callerA)
    (F : ∀ base : Heap, K.In base → base.Ns mainGlobals mg → FnG P w K mg base k fa fd [x] sp) (hbind : ∀ (s : Shared) (u : Value), BindsTo s fd ⟨[u], []⟩ [(x, u)])
    (hsp : ∀ H : Hp, Only H → SqL K H a (ns.map V.int) → sp [.ref a] H (fun v _ => v = .bl true) fun _ _ _ => False)
    (hCX : ∀ H e s', L2.CX P w [] H s₁ (fun _ _ _ => False) e s' → False) :
    codeAny (model P w) callerA (.call (.ref fa) ⟨[.ref a], []⟩) (fun r s' => r = .ok (.ret (.bool true)) ∧ OldK s₁.heap s'.heap ∧ s'.os = s₁.os ∧ AllBare s'.gens) s₁ := by
  have rv := vals_ints hi
  cases hk : K.lookup a with
  | some o =>
    have e := KX a o hk
    rw [ha] at e
    cases e
    have hO : Only (fun _ => none) := fun _ => .inl rfl
    have hS : SqL K (fun _ => none) a (ns.map V.int) := .inr ⟨_, vs.toArray, _, hk, rfl, rfl, rfl, by rw [List.size_toArray, hi.length]; exact hl, by simpa using rv⟩
    exact law_coreG KX hns hb hbb hlim hg ha hr F hbind hCX _ hO (hsp _ hO hS) (fun b u z => nomatch (show (none : Option HO) = some u from z)) (fun b z => absurd rfl z) fun z => absurd rfl z
  | none =>
    have hO : Only (upd (fun _ => none) a (.frz { cls := .type "list", data := .seq vs.toArray } (.lst (ns.map V.int)))) := fun b => by
      by_cases q : b = a
      · subst q; exact .inr ⟨_, _, upd_same⟩
      · exact .inl (upd_ne q)
    have hS : SqL K (upd (fun _ => none) a (.frz { cls := .type "list", data := .seq vs.toArray } (.lst (ns.map V.int)))) a (ns.map V.int) := .inl (.inr ⟨_, upd_same⟩)
    refine law_coreG KX hns hb hbb hlim hg ha hr F hbind hCX _ hO (hsp _ hO hS) (fun b u z => ?_) (fun b z => ?_) fun _ => hk
    · by_cases q : b = a
      · subst q
        rw [upd_same] at z
        cases z
        exact ⟨ha, by rw [List.length_map]; exact hl, vs, _, rv, ha⟩
      · rw [upd_ne q] at z
        cases z
    · by_cases q : b = a
      · exact q
      · exact absurd (upd_ne q) z
end
theorem walk_ofG {l : PySem.W.OpenLaw} {n k : Nat} {q : Program} {loose : List Str} {XP : (Str → Option Value) → Heap → Prop} {YP : World → Heap → Prop} {d : DefRec} {x : Str}
    (hn : l.most = some n) (hn2 : n ≤ sizeLine) (hdf : d.params.defaults = []) (hr : Room k callerA)
    (F : ∀ (w : World) (mg : Str → Option Value) (fa : Addr) (h : Heap), YP w h → h.Ns mainGlobals mg → mg d.name = some (.ref fa) →
      ∃ (K : PySem.W.Frag) (fd : FuncData) (sp : Sp), K.In h ∧ (∀ (s : Shared) (u : Value), BindsTo s fd ⟨[u], []⟩ [(x, u)]) ∧
        (∀ (H : Hp) (a : Addr) (ns : List Int), ns.length ≤ n → Only H → SqL K H a (ns.map V.int) → sp [.ref a] H (fun v _ => v = .bl true) fun _ _ _ => False) ∧
        ∀ base : Heap, K.In base → base.Ns mainGlobals mg → FnG l.prog w K mg base k fa fd [x] sp)
    (hCX : ∀ (w : World) (H : Hp) (s : Shared) (e : Value) (s' : Shared), L2.CX l.prog w [] H s (fun _ _ _ => False) e s' → False) :
    PySem.W.WalkO q loose XP YP l.row.toRowW d [] (fun f vs => PySem.call f vs) := by
  refine Att.attach_call hn hdf fun w s₀ s₁ mg mb fa o pm cd doc a vs ns G Y ho hd hcd hmg hobj hints hlen hg => ?_
  obtain ⟨K, fd, sp, KX, hb, hsp, hF⟩ := F w mg fa _ Y G.T.g hmg
  exact law_callG KX G.T.g G.T.b G.T.builtins G.T.nolimit hg hobj hints (Nat.le_trans hlen hn2) hr hF hb (fun H hO hS => hsp H a ns hlen hO hS) fun H e s' => hCX w H s₁ e s'
/-! ### tuples of ints that the module names -/
def tplB (K : PySem.W.Frag) (t : Str × List Int) : Bool := match K.lookup (He.ga K t.1) with
  | some ⟨.type c, none, .seq its _, _⟩ => decide (c = "tuple") && (decide (its.size ≤ sizeLine) && He.relAll (t.2.map V.int) its.toList)
  | _ => false
theorem tplB_ok {K : PySem.W.Frag} {t : Str × List Int} (h : tplB K t = true) (H : Hp) : PlT K H (He.ga K t.1) (t.2.map V.int) := by
  unfold tplB at h
  split at h
  · rename_i c its n sl e
    simp only [Bool.and_eq_true, decide_eq_true_eq] at h
    exact .inr ⟨_, its, n, e, by rw [h.1], rfl, rfl, h.2.1, He.relAll_ok h.2.2⟩
  · cases h
def obsX (fa : List He.Fa) (fn : List He.DefD) (ts : List (Str × List Int)) (K : PySem.W.Frag) : He.AlD × Bool := (He.obsD fa fn K, ts.all (tplB K))
def obsXG (n : Nat) (fa : List He.Fa) (fn : List He.DefD) (ts : List (Str × List Int)) (g : Addr → Option Obj) : He.AlD × Bool := obsX fa fn ts (He.frG g (He.asD g n))
def SaysX (fa : List He.Fa) (fn : List He.DefD) (ts : List (Str × List Int)) (K : PySem.W.Frag) : Prop := obsX fa fn ts K = (He.valD fn, true)
def hookX (n : Nat) (fa : List He.Fa) (fn : List He.DefD) (ts : List (Str × List Int)) : PySem.W.Hook where
  α := He.AlD × Bool
  obs := fun s => obsXG n fa fn ts s.heap.get?
  val := fun _ => (He.valD fn, true)
  says := fun _ h => ∃ K : PySem.W.Frag, K.In h ∧ SaysX fa fn ts K
  of := fun _ _ e => ⟨_, He.frG_in, e⟩
  keeps := fun _ _ _ ⟨K, hK, c⟩ k => ⟨K, PySem.W.Frag.In.keeps hK k, c⟩
theorem obsXG_eq {n : Nat} {fa : List He.Fa} {fn : List He.DefD} {ts : List (Str × List Int)} {g : Addr → Option Obj} {s : Shared} (h : ∀ a, g a = s.heap.get? a) : obsXG n fa fn ts g = (hookX n fa fn ts).obs s := by
  have e : g = s.heap.get? := funext h
  rw [e] <;> rfl
theorem SaysX.d {fa : List He.Fa} {fn : List He.DefD} {ts : List (Str × List Int)} {K : PySem.W.Frag} (c : SaysX fa fn ts K) : He.SaysD fa fn K := congrArg (fun z : He.AlD × Bool => z.1) c
theorem SaysX.tup {fa : List He.Fa} {fn : List He.DefD} {ts : List (Str × List Int)} {K : PySem.W.Frag} (c : SaysX fa fn ts K) (i : Nat) {t : Str × List Int} (h : ts[i]? = some t := by rfl) (H : Hp) : PlT K H (He.ga K t.1) (t.2.map V.int) := by
  have e : ts.all (tplB K) = true := congrArg (fun z : He.AlD × Bool => z.2) c
  exact tplB_ok (List.all_eq_true.mp e t (List.mem_of_getElem? h)) H
end L2.BH
set_option maxHeartbeats 1000000
/-! The plain meaning, worked out. -/
namespace L2.BH
open PySem
section
variable (s : Sg)
@[simp] theorem ev_var (i : Nat) : ev (.var i) s = s.getV i := nr rfl
@[simp] theorem ev_lit (d : D) : ev (.lit d) s = .ok d s := nr rfl
@[simp] theorem ev_con (x : Str) (d : D) : ev (.con x d) s = .ok d s := nr rfl
@[simp] theorem ev_tup (es : QEs) : ev (.tup es) s = (evs es s).bind fun ds s => if noDs ds then .ok (.tuple ds) s else .bad := nr rfl
@[simp] theorem ev_lst (es : QEs) : ev (.lst es) s = (evs es s).bind fun ds s => if noDs ds then .ok (.list ds) s else .bad := nr rfl
@[simp] theorem ev_bin (o : Op2) (a b : QE) : ev (.bin o a b) s = (ev a s).bind fun x s => (ev b s).bind fun y s => ofO (bin2 o x y) s := nr rfl
def negO (d : D) (s : Sg) : Out D := match d with | .int i => .ok (.int (-i)) s | _ => .bad
@[simp] theorem negO_int (i : Int) : negO (.int i) s = .ok (.int (-i)) s := nr rfl
@[simp] theorem ev_neg (a : QE) : ev (.neg a) s = (ev a s).bind negO := nr rfl
@[simp] theorem ev_not (a : QE) : ev (.not a) s = (tst (ev a s)).bind fun b s => .ok (.bool (!b)) s := nr rfl
@[simp] theorem ev_cmp (o : Cm) (a b : QE) : ev (.cmp o a b) s = (ev a s).bind fun x s => (ev b s).bind fun y s => ofO ((cmp2 o x y).map .bool) s := nr rfl
def chnO (o : Option Bool) (k : Out D) (s : Sg) : Out D := match o with | some true => k | some false => .ok (.bool false) s | none => .bad
@[simp] theorem chnO_t (k : Out D) : chnO (some true) k s = k := nr rfl
@[simp] theorem chnO_f (k : Out D) : chnO (some false) k s = .ok (.bool false) s := nr rfl
@[simp] theorem ev_chn (o p : Cm) (a b c : QE) : ev (.chn o p a b c) s = (ev a s).bind fun x s => (ev b s).bind fun y s => chnO (cmp2 o x y) ((ev c s).bind fun z s => ofO ((cmp2 p y z).map PyData.bool) s) s := by
  have e : ev (.chn o p a b c) s = (ev a s).bind fun x s => (ev b s).bind fun y s => match cmp2 o x y with
    | some true => (ev c s).bind fun z s => ofO ((cmp2 p y z).map PyData.bool) s
    | some false => .ok (PyData.bool false) s
    | none => .bad := rfl
  rw [e]
  cases ev a s with
  | ok x s1 =>
    rw [Out.bind_ok, Out.bind_ok]
    cases ev b s1 with
    | ok y s2 =>
      rw [Out.bind_ok, Out.bind_ok]
      cases cmp2 o x y with
      | none => rfl
      | some k => cases k <;> rfl
    | exc c s2 => rfl
    | bad => rfl
  | exc c s1 => rfl
  | bad => rfl
@[simp] theorem ev_and (a b : QE) : ev (.and a b) s = (ev a s).bind fun x s => if isD x then .bad else if tru x then ev b s else .ok x s := nr rfl
@[simp] theorem ev_or (a b : QE) : ev (.or a b) s = (ev a s).bind fun x s => if isD x then .bad else if tru x then .ok x s else ev b s := nr rfl
@[simp] theorem ev_ifx (c a b : QE) : ev (.ifx c a b) s = (tst (ev c s)).bind fun x s => if x then ev a s else ev b s := nr rfl
@[simp] theorem ev_ix (a b : QE) : ev (.ix a b) s = (ev a s).bind fun x s => (ev b s).bind fun y s => ofO (ixD x y) s := nr rfl
def oixO (c : Option Cell) (dr : List D) (y : D) (s : Sg) : Out D := match c with | some (.own d) => ofO (ixD d y) s | some .drw => ofO (ixD (.list dr) y) s | _ => .bad
@[simp] theorem oixO_own (d y : D) (dr : List D) : oixO (some (.own d)) dr y s = ofO (ixD d y) s := nr rfl
@[simp] theorem oixO_drw (y : D) (dr : List D) : oixO (some .drw) dr y s = ofO (ixD (.list dr) y) s := nr rfl
@[simp] theorem ev_oix (i : Nat) (b : QE) : ev (.oix i b) s = if isO s.cs[i]? then (ev b s).bind fun y s => oixO s.cs[i]? s.dr y s else .bad := nr rfl
def olenO (c : Option Cell) (s : Sg) : Out D := match c with
  | some (.own (.list xs)) => .ok (.int xs.length) s
  | some (.val (.list xs)) => .ok (.int xs.length) s
  | some (.val (.tuple xs)) => .ok (.int xs.length) s
  | _ => .bad
@[simp] theorem olenO_own (xs : List D) : olenO (some (.own (.list xs))) s = .ok (.int xs.length) s := nr rfl
@[simp] theorem olenO_list (xs : List D) : olenO (some (.val (.list xs))) s = .ok (.int xs.length) s := nr rfl
@[simp] theorem olenO_tup (xs : List D) : olenO (some (.val (.tuple xs))) s = .ok (.int xs.length) s := nr rfl
@[simp] theorem ev_olen (i : Nat) : ev (.olen i) s = olenO s.cs[i]? s := nr rfl
@[simp] theorem ev_strf (a : QE) : ev (.strf a) s = (ev a s).bind fun x s => ofO (strD x) s := nr rfl
@[simp] theorem ev_sdsp (k1 k2 : Str) (a b : QE) : ev (.sdsp k1 a k2 b) s = (ev a s).bind fun x s => (ev b s).bind fun y s => if isD x || (isD y || decide (k1 = k2)) then .bad else .ok (.dict [(.str k1, x), (.str k2, y)]) s := nr rfl
@[simp] theorem ev_sget (a b c : QE) : ev (.sget a b c) s = (ev a s).bind fun x s => if isSD x then (ev b s).bind fun y s => (ev c s).bind fun z s => if isD z then .bad else ofO (sgtD x y z) s else .bad := nr rfl
@[simp] theorem ev_slc (a : QE) (lo hi : QO) : ev (.slc a lo hi) s = (ev a s).bind fun x s => (evo lo s).bind fun l s => (evo hi s).bind fun h s => ofO (cutD x l h) s := nr rfl
@[simp] theorem ev_rev (a : QE) : ev (.rev a) s = (ev a s).bind fun x s => ofO (revD x) s := nr rfl
@[simp] theorem ev_call (f : FEnt) (es : QEs) : ev (.call f es) s = (evs es s).bind fun ds s => callP f ds s := nr rfl
def cldO (c : Option Cell) (f : FEnt) (i : Nat) (ds : List D) (s : Sg) : Out D := match c with | some .drw => callD f ds s | some (.own (.list dr)) => callO f i ds dr s | _ => .bad
@[simp] theorem cldO_drw (f : FEnt) (i : Nat) (ds : List D) : cldO (some .drw) f i ds s = callD f ds s := nr rfl
@[simp] theorem cldO_own (f : FEnt) (i : Nat) (ds dr : List D) : cldO (some (.own (.list dr))) f i ds s = callO f i ds dr s := nr rfl
@[simp] theorem ev_bi (b : Bi) (es : QEs) : ev (.bi b es) s = (evs es s).bind fun ds s => ofO (biS b ds) s := nr rfl
@[simp] theorem ev_isi (a : QE) (t : Ty) : ev (.isi a t) s = (ev a s).bind fun x s => ofO ((isi x t).map .bool) s := nr rfl
def lensO (d : D) (s : Sg) : Out D := match d with
    | .list xs => (match tupIs xs with | some nss => if decide (xs.length < 64) then .ok (.int (nubI nss).length) s else .bad | none => .bad)
    | _ => .bad
@[simp] theorem ev_lenset (a : QE) : ev (.lenset a) s = (ev a s).bind lensO := nr rfl
@[simp] theorem ev_dix (a b : QE) : ev (.dix a b) s = (ev a s).bind fun x s => (ev b s).bind fun y s => ofO (dixD x y) s := nr rfl
@[simp] theorem ev_din (n : Bool) (a b : QE) : ev (.din n a b) s = (ev a s).bind fun x s => (ev b s).bind fun y s => ofO ((dinD y x).map fun r => .bool (r != n)) s := nr rfl
@[simp] theorem ev_get1 (a b : QE) : ev (.get1 a b) s = (ev a s).bind fun x s => if isDk x then (ev b s).bind fun y s => ofO (dgtD x y .none) s else .bad := nr rfl
@[simp] theorem ev_get2 (a b c : QE) : ev (.get2 a b c) s = (ev a s).bind fun x s => if isDk x then (ev b s).bind fun y s => (ev c s).bind fun z s => if isD z then .bad else ofO (dgtD x y z) s else .bad := nr rfl
@[simp] theorem ev_dnew : ev .dnew s = .ok (.dict []) s := nr rfl
@[simp] theorem evs_nil : evs .nil s = .ok [] s := nr rfl
@[simp] theorem evs_cons (e : QE) (es : QEs) : evs (.cons e es) s = (ev e s).bind fun x s => (evs es s).bind fun xs s => .ok (x :: xs) s := nr rfl
def intO (d : D) (s : Sg) : Out (Option Int) := match d with | .int i => .ok (some i) s | _ => .bad
@[simp] theorem intO_int (i : Int) : intO (.int i) s = .ok (some i) s := nr rfl
@[simp] theorem evo_none : evo .none s = .ok none s := nr rfl
@[simp] theorem evo_some (e : QE) : evo (.some e) s = (ev e s).bind intO := nr rfl
@[simp] theorem evc_nil : evc .nil s = .ok true s := nr rfl
@[simp] theorem evc_one (e : QE) : evc (.cons e .nil) s = tst (ev e s) := nr rfl
@[simp] theorem evi_e (a : QE) : evi (.e a) s = (ev a s).bind fun x s => ofO (itemsW x) s := nr rfl
def rngO (d : D) (s : Sg) : Out (List D) := match d with | .int j => if rngOk 0 j then .ok (rngL 0 j) s else .bad | _ => .bad
@[simp] theorem rngO_int (j : Int) : rngO (.int j) s = if rngOk 0 j then .ok (rngL 0 j) s else .bad := nr rfl
@[simp] theorem evi_rng (a : QE) : evi (.rng a) s = (ev a s).bind rngO := nr rfl
@[simp] theorem evi_enm (a : QE) : evi (.enm a) s = (ev a s).bind fun x s => ofO ((itemsOf x).map (enumL 0)) s := nr rfl
def zipO (x y : D) (s : Sg) : Out (List D) := match x, y with
    | .list xs, .list ys => .ok (zipL xs ys) s
    | .tuple xs, .tuple ys => .ok (zipL xs ys) s
    | _, _ => .bad
@[simp] theorem zipO_l (xs ys : List D) : zipO (.list xs) (.list ys) s = .ok (zipL xs ys) s := nr rfl
@[simp] theorem zipO_t (xs ys : List D) : zipO (.tuple xs) (.tuple ys) s = .ok (zipL xs ys) s := nr rfl
@[simp] theorem evi_zip (a b : QE) : evi (.zip a b) s = (ev a s).bind fun x s => (ev b s).bind fun y s => zipO x y s := nr rfl
/-! statements -/
@[simp] theorem run_set (i : Nat) (e : QE) : run (.set i e) s = SOut.of (ev e s) fun d s => .nx (s.put i (.val d)) := nr rfl
def ownS (i : Nat) (d : D) (s : Sg) : SOut := match d with | .list _ => .nx (s.put i (.own d)) | .dict _ => .nx (s.put i (.own d)) | _ => .bad
@[simp] theorem ownS_d (i : Nat) (xs : List (D × D)) : ownS i (.dict xs) s = .nx (s.put i (.own (.dict xs))) := nr rfl
@[simp] theorem ownS_l (i : Nat) (xs : List D) : ownS i (.list xs) s = .nx (s.put i (.own (.list xs))) := nr rfl
@[simp] theorem run_own (i : Nat) (e : QE) : run (.own i e) s = SOut.of (ev e s) (ownS i) := nr rfl
@[simp] theorem run_par (i j : Nat) (a b : QE) : run (.par i j a b) s = SOut.of (ev a s) fun x s => SOut.of (ev b s) fun y s => .nx ((s.put i (.val x)).put j (.val y)) := nr rfl
@[simp] theorem run_parO (i j : Nat) (a b : QE) : run (.parO i j a b) s = SOut.of (ev a s) fun x s => SOut.of (ev b s) fun y s => (match y with | .list _ => .nx ((s.put i (.val x)).put j (.own y)) | _ => .bad) := nr rfl
@[simp] def asgS (t : QP) (d : D) (s : Sg) : SOut := match t.asg d s with | some s => .nx s | none => .bad
@[simp] theorem run_unp (t : QP) (e : QE) : run (.unp t e) s = SOut.of (ev e s) (asgS t) := nr rfl
def unpS (t u : QP) (ds : List D) (s : Sg) : SOut := match ds with
    | [x, y] => (match ((t.asg x s).bind fun s => u.asg y s) with | some s => .nx s | none => .bad)
    | _ => .bad
def nxO (o : Option Sg) : SOut := match o with | some s => .nx s | none => .bad
@[simp] theorem nxO_some : nxO (some s) = .nx s := nr rfl
@[simp] theorem unpS_two (t u : QP) (x y : D) : unpS t u [x, y] s = nxO ((t.asg x s).bind fun s => u.asg y s) := nr rfl
@[simp] theorem run_unpP (t u : QP) (a b : QE) : run (.unpP t u a b) s = SOut.of (evs (.cons a (.cons b .nil)) s) fun ds s => unpS t u ds s := nr rfl
@[simp] theorem run_ret (e : QE) : run (.ret e) s = SOut.of (ev e s) fun d s => .ret d s := nr rfl
@[simp] theorem run_retF (e : QE) : run (.retF e) s = SOut.of (ev e s) fun d s => .ret d s := nr rfl
@[simp] theorem run_retN : run .retN s = .ret .none s := nr rfl
@[simp] theorem run_ite (c : QE) (a b : QSs) : run (.ite c a b) s = SOut.of (tst (ev c s)) fun d s => if d then runs a s else runs b s := nr rfl
@[simp] theorem run_xpr (e : QE) : run (.xpr e) s = SOut.of (ev e s) fun _ s => .nx s := nr rfl
@[simp] theorem run_rse (c : Str) : run (.rse c) s = .exc c s := nr rfl
@[simp] theorem run_brk : run .brk s = .brk s := nr rfl
@[simp] theorem run_cnt : run .cnt s = .ct s := nr rfl
def extS (i : Nat) (c : Option Cell) (d : D) (s : Sg) : SOut := match c, d with
    | some (.own (.list xs)), .list ys => if xs.length + ys.length ≤ sizeLine then .nx (s.put i (.own (.list (xs ++ ys)))) else .bad
    | _, _ => .bad
theorem extS_ok (i : Nat) {xs ys : List D} (h : xs.length + ys.length ≤ sizeLine) : extS i (some (.own (.list xs))) (.list ys) s = .nx (s.put i (.own (.list (xs ++ ys)))) := by
  have e : extS i (some (.own (.list xs))) (.list ys) s = if xs.length + ys.length ≤ sizeLine then .nx (s.put i (.own (.list (xs ++ ys)))) else .bad := rfl
  rw [e, if_pos h]
@[simp] theorem run_ext (i : Nat) (e : QE) : run (.ext i e) s = if isOL s.cs[i]? then SOut.of (ev e s) fun d s => extS i s.cs[i]? d s else .bad := nr rfl
def appS (i : Nat) (c : Option Cell) (d : D) (s : Sg) : SOut := match c with
    | some (.own (.list xs)) => if !isD d && decide (xs.length < sizeLine) then .nx (s.put i (.own (.list (xs ++ [d])))) else .bad
    | _ => .bad
theorem appS_ok (i : Nat) {xs : List D} {d : D} (hd : isD d = false) (h : xs.length < sizeLine) : appS i (some (.own (.list xs))) d s = .nx (s.put i (.own (.list (xs ++ [d])))) := by
  have e : appS i (some (.own (.list xs))) d s = if !isD d && decide (xs.length < sizeLine) then .nx (s.put i (.own (.list (xs ++ [d])))) else .bad := rfl
  rw [e, hd, decide_eq_true h]; rfl
@[simp] theorem run_app (i : Nat) (e : QE) : run (.app i e) s = if isOL s.cs[i]? then SOut.of (ev e s) fun d s => appS i s.cs[i]? d s else .bad := nr rfl
def putS (i : Nat) (c : Option Cell) (d j : D) (s : Sg) : SOut := match c, j with
    | some (.own (.list xs)), .int j => (match isD d, ixN xs.length j with | false, some n => .nx (s.put i (.own (.list (xs.set n d)))) | _, _ => .bad)
    | some .drw, .int j => (match isD d, ixN s.dr.length j with | false, some n => .nx { s with dr := s.dr.set n d } | _, _ => .bad)
    | _, _ => .bad
@[simp] theorem run_put (i : Nat) (k e : QE) : run (.put i k e) s = SOut.of (ev e s) fun d s => if isO s.cs[i]? then SOut.of (ev k s) fun j s => putS i s.cs[i]? d j s else .bad := nr rfl
def SOut.thn (o : SOut) (k : Sg → SOut) : SOut := match o with
  | .nx s => k s
  | o => o
@[simp] theorem thn_nx (k : Sg → SOut) : SOut.thn (.nx s) k = k s := nr rfl
@[simp] theorem thn_ret (d : D) (k : Sg → SOut) : SOut.thn (.ret d s) k = .ret d s := nr rfl
@[simp] theorem thn_exc (c : Str) (k : Sg → SOut) : SOut.thn (.exc c s) k = .exc c s := nr rfl
@[simp] theorem thn_brk (k : Sg → SOut) : SOut.thn (.brk s) k = .brk s := nr rfl
@[simp] theorem thn_ct (k : Sg → SOut) : SOut.thn (.ct s) k = .ct s := nr rfl
@[simp] theorem runs_nil : runs .nil s = .nx s := nr rfl
@[simp] theorem runs_cons (st : QS) (r : QSs) : runs (.cons st r) s = (run st s).thn (runs r) := nr rfl
def triS (o : SOut) (c : Str) (kn : List Str) (r : QE) : SOut := match o with
    | .exc c' s => if c' ∈ kn then (if c' = c then SOut.of (ev r s) fun d s => .ret d s else .exc c' s) else .bad
    | o => o
@[simp] theorem triS_ret (d : D) (c : Str) (kn : List Str) (r : QE) : triS (.ret d s) c kn r = .ret d s := nr rfl
@[simp] theorem triS_exc (c' c : Str) (kn : List Str) (r : QE) : triS (.exc c' s) c kn r = if c' ∈ kn then (if c' = c then SOut.of (ev r s) fun d s => .ret d s else .exc c' s) else .bad := nr rfl
@[simp] theorem run_tri (b : QSs) (c : Str) (kn : List Str) (r : QE) : run (.tri b c kn r) s = triS (runs b s) c kn r := nr rfl
@[simp] noncomputable def frS (t : QP) (b : QSs) (d : D) (s : Sg) : SOut := match t.asg d s with | some s => runs b s | none => .bad
theorem run_fr (t : QP) (it : QI) (b : QSs) : run (.fr t it b) s = SOut.of (evi it s) fun ds s => frL (frS t b) ds s := by
  show (match evi it s with
    | .ok ds s => frL (fun d s => match t.asg d s with | some s => runs b s | none => .bad) ds s
    | .exc c s => .exc c s
    | .bad => .bad) = _
  cases evi it s <;> rfl
end
@[simp] theorem tst_ok_bool (b : Bool) (s : Sg) : tst (.ok (.bool b) s) = .ok b s := nr rfl
@[simp] theorem tst_ok_none (s : Sg) : tst (.ok .none s) = .ok false s := nr rfl
@[simp] theorem tst_ok_int (i : Int) (s : Sg) : tst (.ok (.int i) s) = .ok (i != 0) s := nr rfl
@[simp] theorem tst_ok_str (x : Str) (s : Sg) : tst (.ok (.str x) s) = .ok ((x.length : Int) != 0) s := nr rfl
@[simp] theorem tst_ok_list (xs : List D) (s : Sg) : tst (.ok (.list xs) s) = .ok (!xs.isEmpty) s := nr rfl
@[simp] theorem tst_ok_tuple (xs : List D) (s : Sg) : tst (.ok (.tuple xs) s) = .ok (!xs.isEmpty) s := nr rfl
@[simp] theorem tst_bad' : tst .bad = .bad := nr rfl
@[simp] theorem tst_exc' (c : Str) (s : Sg) : tst (.exc c s) = .exc c s := nr rfl
@[simp] theorem frOf_nx (s : Sg) : frOf (.nx s) = .ret .none s.dr := nr rfl
@[simp] theorem frOf_ret (d : D) (s : Sg) : frOf (.ret d s) = .ret d s.dr := nr rfl
@[simp] theorem frOf_exc (c : Str) (s : Sg) : frOf (.exc c s) = .exc c s.dr := nr rfl
@[simp] theorem of_if {α : Type} (c : Prop) [Decidable c] (a b : Out α) (k : α → Sg → SOut) : SOut.of (if c then a else b) k = if c then SOut.of a k else SOut.of b k := by split <;> rfl
@[simp] theorem thn_if (c : Prop) [Decidable c] (a b : SOut) (k : Sg → SOut) : SOut.thn (if c then a else b) k = if c then SOut.thn a k else SOut.thn b k := by split <;> rfl
@[simp] theorem frOf_if (c : Prop) [Decidable c] (a b : SOut) : frOf (if c then a else b) = if c then frOf a else frOf b := by split <;> rfl
@[simp] theorem tst_if (c : Prop) [Decidable c] (a b : Out D) : tst (if c then a else b) = if c then tst a else tst b := by split <;> rfl
@[simp] theorem bind_if {α β : Type} (c : Prop) [Decidable c] (a b : Out α) (k : α → Sg → Out β) : (if c then a else b).bind k = if c then a.bind k else b.bind k := by split <;> rfl
@[simp] theorem isD_none : isD .none = false := nr rfl
@[simp] theorem isD_bool (b : Bool) : isD (.bool b) = false := nr rfl
@[simp] theorem isD_int (b : Int) : isD (.int b) = false := nr rfl
@[simp] theorem isD_str (b : Str) : isD (.str b) = false := nr rfl
@[simp] theorem isD_list (b : List D) : isD (.list b) = false := nr rfl
@[simp] theorem isD_tuple (b : List D) : isD (.tuple b) = false := nr rfl
@[simp] theorem tru_bool (b : Bool) : tru (.bool b) = b := nr rfl
@[simp] theorem noDs_nil : noDs [] = true := nr rfl
@[simp] theorem noDs_cons (x : D) (xs : List D) : noDs (x :: xs) = (!isD x && noDs xs) := nr rfl
/-! states: literal lists of cells -/
@[simp] theorem put_mk (cs : List Cell) (dr : List D) (i : Nat) (c : Cell) : Sg.put ⟨cs, dr⟩ i c = ⟨cs.set i c, dr⟩ := nr rfl
def getC (c : Option Cell) (i : Nat) (s : Sg) : Out D := match c with
  | some (.val d) => .ok d s
  | some (.own d) => .ok d (s.put i (.val d))
  | _ => .bad
@[simp] theorem getC_val (d : D) (i : Nat) (s : Sg) : getC (some (.val d)) i s = .ok d s := nr rfl
@[simp] theorem getC_own (d : D) (i : Nat) (s : Sg) : getC (some (.own d)) i s = .ok d (s.put i (.val d)) := nr rfl
@[simp] theorem getV_mk (cs : List Cell) (dr : List D) (i : Nat) : Sg.getV ⟨cs, dr⟩ i = getC cs[i]? i ⟨cs, dr⟩ := by
  show (match cs[i]? with
    | some (.val d) => Out.ok d ⟨cs, dr⟩
    | some (.own d) => .ok d (Sg.put ⟨cs, dr⟩ i (.val d))
    | _ => .bad) = _
  rfl
@[simp] theorem asg_nm (i : Nat) (d : D) (s : Sg) : QP.asg (.nm i) d s = some (s.put i (.val d)) := nr rfl
@[simp] theorem asg_tp (a b : QP) (x y : D) (s : Sg) : QP.asg (.tp a b) (.tuple [x, y]) s = (a.asg x s).bind fun s => b.asg y s := nr rfl
@[simp] theorem asg_tpC (a b : QP) (x y : D) (s : Sg) : QP.asg (.tp a b) (pairC x y) s = (a.asg x s).bind fun s => b.asg y s := nr rfl
@[simp] theorem asg_tp3 (a b c : QP) (x y z : D) (s : Sg) : QP.asg (.tp3 a b c) (.tuple [x, y, z]) s = (a.asg x s).bind fun s => (b.asg y s).bind fun s => c.asg z s := nr rfl
/-- a comprehension whose turns leave the state as it is -/
theorem comp_pure {elt : QE} {t : QP} {it : QI} {cs : QEs} {s s1 : Sg} {ds : List D} (g : D → List D) (hi : evi it s = .ok ds s1) (h : ∀ d ∈ ds, turn elt t cs d (s1.wipe t.slots) = .ok (g d) (s1.wipe t.slots)) :
    ev (.comp elt t it cs) s = .ok (.list (ds.flatMap g)) ((s1.wipe t.slots).back s1 t.slots) := by
  have hc : ∀ ds : List D, (∀ d ∈ ds, turn elt t cs d (s1.wipe t.slots) = .ok (g d) (s1.wipe t.slots)) → compL (turn elt t cs) ds (s1.wipe t.slots) = .ok (ds.flatMap g) (s1.wipe t.slots) := fun ds => by
    induction ds with
    | nil => intro _; rfl
    | cons d ds ih =>
      intro h
      show ((turn elt t cs d (s1.wipe t.slots)).bind fun ys s => (compL (turn elt t cs) ds s).bind fun zs s => .ok (ys ++ zs) s) = _
      rw [h d List.mem_cons_self, Out.bind_ok, ih fun d hd => h d (List.mem_cons_of_mem _ hd), Out.bind_ok]
      rfl
  rw [ev_comp, hi, Out.bind_ok, hc ds h]
  rfl
/-- .. without a test, with one -/
theorem turn_map {elt : QE} {t : QP} {d y : D} {s s3 s4 : Sg} (ha : t.asg d s = some s3) (he : ev elt s3 = .ok y s4) (hy : isD y = false) : turn elt t .nil d s = .ok [y] (s4.wipe t.slots) := by
  unfold turn
  rw [ha]
  simp [he, hy]
theorem turn_if {elt c : QE} {t : QP} {d : D} {s s3 s4 : Sg} {b : Bool} (ha : t.asg d s = some s3) (hc : tst (ev c s3) = .ok b s4) : turn elt t (.cons c .nil) d s = (if b then (ev elt s4).bind fun y s5 => if isD y then .bad else .ok [y] s5 else .ok [] s4).bind fun ys s6 => .ok ys (s6.wipe t.slots) := by
  unfold turn
  rw [ha]
  simp only [evc_one, hc, Out.bind_ok]
/-- a loop that goes through -/
theorem frL_through {f : D → Sg → SOut} (st : List D → Sg) : ∀ (ds pre : List D), (∀ p d q, pre ++ ds = p ++ d :: q → pre.length ≤ p.length → f d (st p) = .nx (st (p ++ [d]))) → frL f ds (st pre) = .nx (st (pre ++ ds))
  | [], pre, _ => by rw [List.append_nil]; rfl
  | d :: ds, pre, h => by
    have h1 := h pre d ds rfl (Nat.le_refl _)
    show (match f d (st pre) with
      | .nx s => frL f ds s
      | .ct s => frL f ds s
      | .brk s => .nx s
      | .ret d s => .ret d s
      | .exc c s => .exc c s
      | .bad => .bad) = _
    rw [h1]
    have := frL_through st ds (pre ++ [d]) fun p e q hp hl => h p e q (by rw [← hp]; simp) (by rw [List.length_append] at hl; simp at hl; omega)
    rw [List.append_assoc] at this
    exact this
end L2.BH
set_option maxHeartbeats 1000000
/-! Plain data: rows of ints. -/
namespace L2.BH
open PySem
/-- a row of ints; rows -/
def dR (r : List Int) : D := .tuple (r.map .int)
def dK (ks : List (List Int)) : D := .tuple (ks.map dR)
theorem depth_ints (r : List Int) : PyData.depthAll (r.map .int) = 0 := PySem.W.depth_ints r
theorem depth_dR (r : List Int) : (dR r).depth ≤ 1 := by
  unfold dR
  simp only [PyData.depth]
  rw [depth_ints]
  exact Nat.le_refl _
theorem depthAll_le {n : Nat} : ∀ {xs : List D}, (∀ x ∈ xs, x.depth ≤ n) → PyData.depthAll xs ≤ n
  | [], _ => by simp [PyData.depthAll]
  | x :: xs, h => by
    simp only [PyData.depthAll]
    have h1 := h x List.mem_cons_self
    have h2 := depthAll_le fun y hy => h y (List.mem_cons_of_mem _ hy)
    omega
theorem depth_tup {n : Nat} {xs : List D} (h : ∀ x ∈ xs, x.depth ≤ n) : (PyData.tuple xs).depth ≤ n + 1 := by
  simp only [PyData.depth]
  have := depthAll_le h
  omega
theorem depth_lst {n : Nat} {xs : List D} (h : ∀ x ∈ xs, x.depth ≤ n) : (PyData.list xs).depth ≤ n + 1 := by
  simp only [PyData.depth]
  have := depthAll_le h
  omega
theorem depth_dK (ks : List (List Int)) : (dK ks).depth ≤ 2 := depth_tup fun x hx => by
  obtain ⟨r, _, rfl⟩ := List.mem_map.mp hx
  exact depth_dR r
theorem shal_le {d : D} (h : d.depth ≤ 60) : shal d = true := decide_eq_true h
@[simp] theorem shal_none : shal .none = true := by simp [shal, PyData.depth]
@[simp] theorem shal_int (i : Int) : shal (.int i) = true := by simp [shal, PyData.depth]
@[simp] theorem shal_bool (i : Bool) : shal (.bool i) = true := by simp [shal, PyData.depth]
@[simp] theorem shal_str (i : Str) : shal (.str i) = true := by simp [shal, PyData.depth]
@[simp] theorem shal_nil : shal (.tuple []) = true := by simp [shal, PyData.depth, PyData.depthAll]
@[simp] theorem shal_nilL : shal (.list []) = true := by simp [shal, PyData.depth, PyData.depthAll]
@[simp] theorem shal_dR (r : List Int) : shal (dR r) = true := shal_le (Nat.le_trans (depth_dR r) (by omega))
@[simp] theorem shal_dK (r : List (List Int)) : shal (dK r) = true := shal_le (Nat.le_trans (depth_dK r) (by omega))
@[simp] theorem isD_dR (r : List Int) : isD (dR r) = false := rfl
@[simp] theorem isD_dK (r : List (List Int)) : isD (dK r) = false := rfl
theorem eqvAll_ints : ∀ (a b : List Int), PyData.eqvAll (a.map .int) (b.map .int) = decide (a = b)
  | [], [] => by simp [PyData.eqvAll]
  | [], _ :: _ => by simp [PyData.eqvAll]
  | _ :: _, [] => by simp [PyData.eqvAll]
  | x :: a, y :: b => by
    simp only [List.map_cons, PyData.eqvAll, PyData.eqv, eqvAll_ints a b]
    by_cases h : x = y <;> simp [h]
@[simp] theorem eqv_dR (a b : List Int) : PyData.eqv (dR a) (dR b) = decide (a = b) := by
  unfold dR
  simp only [PyData.eqv]
  exact eqvAll_ints a b
theorem eqvAll_dR : ∀ (a b : List (List Int)), PyData.eqvAll (a.map dR) (b.map dR) = decide (a = b)
  | [], [] => by simp [PyData.eqvAll]
  | [], _ :: _ => by simp [PyData.eqvAll]
  | _ :: _, [] => by simp [PyData.eqvAll]
  | x :: a, y :: b => by
    simp only [List.map_cons, PyData.eqvAll, eqv_dR, eqvAll_dR a b]
    by_cases h : x = y <;> simp [h]
@[simp] theorem eqv_dK (a b : List (List Int)) : PyData.eqv (dK a) (dK b) = decide (a = b) := by
  unfold dK
  simp only [PyData.eqv]
  exact eqvAll_dR a b
mutual
theorem eqv_refl : ∀ (d : D), d.plain = true → PyData.eqv d d = true
  | .none, _ => by simp [PyData.eqv]
  | .bool _, _ => by simp [PyData.eqv]
  | .int _, _ => by simp [PyData.eqv]
  | .str _, _ => by simp [PyData.eqv]
  | .list ds, h => by
    simp only [PyData.plain] at h
    simp only [PyData.eqv]
    exact eqvAll_refl ds h
  | .tuple ds, h => by
    simp only [PyData.plain] at h
    simp only [PyData.eqv]
    exact eqvAll_refl ds h
  | .dict _, h => by simp [PyData.plain] at h
theorem eqvAll_refl : ∀ (ds : List D), PyData.plainAll ds = true → PyData.eqvAll ds ds = true
  | [], _ => by simp [PyData.eqvAll]
  | d :: ds, h => by
    simp only [PyData.plainAll, Bool.and_eq_true] at h
    simp only [PyData.eqvAll, eqv_refl d h.1, eqvAll_refl ds h.2, Bool.and_self]
end
theorem eqvAll_len : ∀ {a b : List D}, PyData.eqvAll a b = true → a.length = b.length
  | [], [], _ => rfl
  | [], _ :: _, h => by simp [PyData.eqvAll] at h
  | _ :: _, [], h => by simp [PyData.eqvAll] at h
  | x :: a, y :: b, h => by
    simp only [PyData.eqvAll, Bool.and_eq_true] at h
    rw [List.length_cons, List.length_cons, eqvAll_len h.2]
@[simp] theorem noDs_ints (r : List Int) : noDs (r.map .int) = true := by
  unfold noDs
  rw [List.all_eq_true]
  intro x hx
  obtain ⟨i, _, rfl⟩ := List.mem_map.mp hx
  rfl
@[simp] theorem noDs_dR (r : List (List Int)) : noDs (r.map dR) = true := by
  unfold noDs
  rw [List.all_eq_true]
  intro x hx
  obtain ⟨i, _, rfl⟩ := List.mem_map.mp hx
  rfl
theorem ltR (a b : List Int) : PySem.W.dataLt (dR a) (dR b) = decide (a < b) := by
  unfold dR
  rw [PySem.W.dataLt_tuple]
  exact PySem.W.dataLt_ints a b
theorem alike_dR (a b : List Int) : PySem.W.alike (dR a) (dR b) = true := by
  unfold dR
  simp only [PySem.W.alike]
  exact PySem.W.alike_ints a b
theorem alk_dR (a b : List Int) : alk (dR a) (dR b) = true := by
  unfold alk
  rw [alike_dR, shal_dR]
  rfl
theorem ordS_dR (o : Cm) (a b : List Int) : ordS o (dR a) (dR b) = some (ordD o (dR a) (dR b)) := by
  have h : ordS o (dR a) (dR b) = if alk (dR a) (dR b) then some (ordD o (dR a) (dR b)) else none := rfl
  rw [h, alk_dR]; rfl
theorem sem_of {x : Str} {n m : Nat} {q : QSs} {ds dr : List D} {cs : List Cell} (h : ds.map Cell.val ++ List.replicate (m - ds.length) Cell.no = cs) : (entP x n m q).sem ds dr = frOf (runs q ⟨cs, []⟩) := by
  subst h; rfl
theorem semD_of {x : Str} {n m : Nat} {q : QSs} {ds dr : List D} {cs : List Cell} (h : Cell.drw :: (ds.map Cell.val ++ List.replicate (m - 1 - ds.length) Cell.no) = cs) : (entD x n m q).sem ds dr = frOf (runs q ⟨cs, dr⟩) := by
  subst h; rfl
theorem bin2_addL {xs ys : List D} (h : xs.length + ys.length ≤ sizeLine) : bin2 .add (.list xs) (.list ys) = some (.list (xs ++ ys)) := by
  rw [bin2]; exact if_pos h
theorem bin2_addT {xs ys : List D} (h : xs.length + ys.length ≤ sizeLine) : bin2 .add (.tuple xs) (.tuple ys) = some (.tuple (xs ++ ys)) := by
  rw [bin2]; exact if_pos h
theorem bi1_all {xs : List D} (h : noDs xs = true) : bi1 .all (.list xs) = some (.bool (xs.all tru)) := by
  rw [bi1]; exact if_pos h
theorem bi1_any {xs : List D} (h : noDs xs = true) : bi1 .any (.list xs) = some (.bool (xs.any tru)) := by
  rw [bi1]; exact if_pos h
/-! places -/
theorem atI_map {α : Type} (f : α → D) {r : List α} {k : Nat} {x : α} (h : r[k]? = some x) : atI (r.map f) (k : Int) = some (f x) := by
  apply L2.atI_nat
  rw [List.getElem?_map, h]; rfl
def gD (r : List Int) (k : Nat) : Int := r.getD k 0
theorem gD_get {r : List Int} {k : Nat} (h : k < r.length) : r[k]? = some (gD r k) := by
  unfold gD
  rw [List.getD_eq_getElem?_getD, List.getElem?_eq_getElem h]; rfl
theorem atI_getD {r : List Int} {k : Nat} (h : k < r.length) : atI (r.map PyData.int) (k : Int) = some (.int (gD r k)) := atI_map PyData.int (gD_get h)
theorem ix_dR {r : List Int} {k : Nat} (h : k < r.length) : ixD (dR r) (.int (k : Int)) = some (.int (gD r k)) := atI_getD h
/-- the numbers below n -/
def nats (n : Nat) : List D := (List.range n).map fun (k : Nat) => PyData.int k
theorem rngL_nat (n : Nat) : rngL 0 (n : Int) = nats n := by
  unfold rngL nats
  rw [Int.sub_zero, Int.toNat_natCast]
  apply List.map_congr_left
  intro k _
  rw [Int.zero_add]
theorem rngOk_nat {n : Nat} (h : n ≤ 1000) : rngOk 0 (n : Int) = true := by
  unfold rngOk
  rw [Int.sub_zero, Int.toNat_natCast]
  simp only [Bool.and_eq_true, decide_eq_true_eq]
  have : sizeLine = 16777216 := PySem.sizeLine_eq
  omega
theorem rngO_nat {n : Nat} (s : Sg) (h : n ≤ 1000) : rngO (.int (n : Int)) s = .ok (nats n) s := by
  rw [rngO_int, rngOk_nat h, rngL_nat]; rfl
theorem mem_nats {n : Nat} {d : D} (h : d ∈ nats n) : ∃ k, k < n ∧ d = .int (k : Nat) := by
  obtain ⟨k, hk, rfl⟩ := List.mem_map.mp h
  exact ⟨k, List.mem_range.mp hk, rfl⟩
theorem flatMap_nats {n : Nat} (g : D → List D) (p : Nat → Bool) (f : Nat → D) (h : ∀ k, k < n → g (.int (k : Nat)) = if p k then [f k] else []) : (nats n).flatMap g = ((List.range n).filter p).map f := by
  unfold nats
  rw [List.flatMap_map]
  have : ∀ (l : List Nat), (∀ k ∈ l, k < n) → l.flatMap (fun k => g (PyData.int (k : Nat))) = (l.filter p).map f := fun l => by
    induction l with
    | nil => intro _; rfl
    | cons a l ih =>
      intro hl
      rw [List.flatMap_cons, h a (hl a List.mem_cons_self), ih fun k hk => hl k (List.mem_cons_of_mem _ hk), List.filter_cons]
      by_cases hp : p a = true
      · rw [if_pos hp, if_pos hp]; rfl
      · rw [if_neg hp, if_neg hp]; rfl
  exact this _ fun k hk => List.mem_range.mp hk
theorem flatMap_map {α : Type} {l : List α} (e : α → D) (g : D → List D) (f : α → D) (h : ∀ a ∈ l, g (e a) = [f a]) : (l.map e).flatMap g = l.map f := by
  induction l with
  | nil => rfl
  | cons a l ih =>
    rw [List.map_cons, List.flatMap_cons, h a List.mem_cons_self, ih fun b hb => h b (List.mem_cons_of_mem _ hb)]; rfl
theorem flatMap_flt {α : Type} {l : List α} (e : α → D) (g : D → List D) (p : α → Bool) (f : α → D) (h : ∀ a ∈ l, g (e a) = if p a then [f a] else []) : (l.map e).flatMap g = (l.filter p).map f := by
  induction l with
  | nil => rfl
  | cons a l ih =>
    rw [List.map_cons, List.flatMap_cons, h a List.mem_cons_self, ih fun b hb => h b (List.mem_cons_of_mem _ hb), List.filter_cons]
    by_cases hp : p a = true
    · rw [if_pos hp, if_pos hp]; rfl
    · rw [if_neg hp, if_neg hp]; rfl
/-- .. where the data are given as they are -/
theorem comp_map {α : Type} {elt : QE} {t : QP} {it : QI} {s s1 : Sg} {l : List α} (e : α → D) (f : α → D) (hi : evi it s = .ok (l.map e) s1) (h : ∀ a ∈ l, turn elt t .nil (e a) (s1.wipe t.slots) = .ok [f a] (s1.wipe t.slots)) :
    ev (.comp elt t it .nil) s = .ok (.list (l.map f)) ((s1.wipe t.slots).back s1 t.slots) := by
  have h' : ∀ d ∈ l.map e, ∃ a, a ∈ l ∧ d = e a := fun d hd => by
    obtain ⟨a, ha, rfl⟩ := List.mem_map.mp hd
    exact ⟨a, ha, rfl⟩
  rw [comp_pure (fun d => match turn elt t .nil d (s1.wipe t.slots) with | .ok ys _ => ys | _ => []) hi fun d hd => by
    obtain ⟨a, ha, rfl⟩ := h' d hd
    rw [h a ha]]
  rw [flatMap_map e _ f fun a ha => by rw [h a ha]]
theorem comp_flt {α : Type} {elt c : QE} {t : QP} {it : QI} {s s1 : Sg} {l : List α} (e : α → D) (p : α → Bool) (f : α → D) (hi : evi it s = .ok (l.map e) s1) (h : ∀ a ∈ l, turn elt t (.cons c .nil) (e a) (s1.wipe t.slots) = .ok (if p a then [f a] else []) (s1.wipe t.slots)) :
    ev (.comp elt t it (.cons c .nil)) s = .ok (.list ((l.filter p).map f)) ((s1.wipe t.slots).back s1 t.slots) := by
  have h' : ∀ d ∈ l.map e, ∃ a, a ∈ l ∧ d = e a := fun d hd => by
    obtain ⟨a, ha, rfl⟩ := List.mem_map.mp hd
    exact ⟨a, ha, rfl⟩
  rw [comp_pure (fun d => match turn elt t (.cons c .nil) d (s1.wipe t.slots) with | .ok ys _ => ys | _ => []) hi fun d hd => by
    obtain ⟨a, ha, rfl⟩ := h' d hd
    rw [h a ha]]
  rw [flatMap_flt e _ p f fun a ha => by rw [h a ha]]
@[simp] theorem turn_eq0 (elt : QE) (t : QP) (d : D) (s : Sg) : turn elt t .nil d s = match t.asg d s with
  | none => .bad
  | some s3 => ((ev elt s3).bind fun y s5 => if isD y then .bad else .ok [y] s5).bind fun ys s6 => .ok ys (s6.wipe t.slots) := by
  unfold turn
  cases t.asg d s <;> rfl
theorem turn_eq1 (elt c : QE) (t : QP) (d : D) (s : Sg) : turn elt t (.cons c .nil) d s = match t.asg d s with
  | none => .bad
  | some s3 => (tst (ev c s3)).bind fun b s4 => (if b then (ev elt s4).bind fun y s5 => if isD y then .bad else .ok [y] s5 else .ok [] s4).bind fun ys s6 => .ok ys (s6.wipe t.slots) := by
  unfold turn
  cases t.asg d s <;> rfl
end L2.BH
set_option maxHeartbeats 1000000
/-! The draw: what every law's _law_draw and _law_take do. -/
namespace L2.BH
open PySem
noncomputable def qDraw : QSs := .cons (.set 1 (.lit (.int 7))) (.cons (.fr (.nm 2) (.e (.var 0)) (.cons (.set 1 (.bin .mod (.bi .int (.cons (.bin .add (.bin .add (.bin .mul (.var 1) (.lit (.int 48271))) (.bin .mod (.bi .abs (.cons (.bi .int (.cons (.var 2) (.nil))) (.nil))) (.lit (.int 65521)))) (.lit (.int 1))) (.nil))) (.lit (.int 2147483647)))) (.nil))) (.cons (.retF (.lst (.cons (.comp (.bi .abs (.cons (.bi .int (.cons (.var 2) (.nil))) (.nil))) (.nm 2) (.e (.var 0)) (.nil)) (.cons (.neg (.lit (.int 1))) (.cons (.lit (.int 0)) (.cons (.var 1) (.nil))))))) (.nil)))
noncomputable def qTake : QSs := .cons (.ite (.cmp .eq (.oix 0 (.lit (.int 2))) (.lit (.int 0))) (.cons (.put 0 (.lit (.int 1)) (.bin .add (.oix 0 (.lit (.int 1))) (.lit (.int 1)))) (.cons (.ite (.cmp .lt (.oix 0 (.lit (.int 1))) (.bi .len (.cons (.oix 0 (.lit (.int 0))) (.nil)))) (.cons (.put 0 (.lit (.int 2)) (.ix (.oix 0 (.lit (.int 0))) (.oix 0 (.lit (.int 1))))) (.nil)) (.nil)) (.cons (.ite (.cmp .eq (.oix 0 (.lit (.int 2))) (.lit (.int 0))) (.cons (.put 0 (.lit (.int 3)) (.bin .mod (.bi .int (.cons (.bin .add (.bin .mul (.oix 0 (.lit (.int 3))) (.lit (.int 48271))) (.lit (.int 11))) (.nil))) (.lit (.int 2147483647)))) (.cons (.put 0 (.lit (.int 2)) (.oix 0 (.lit (.int 3)))) (.nil))) (.nil)) (.nil)))) (.nil)) (.cons (.set 2 (.bin .mod (.bi .int (.cons (.oix 0 (.lit (.int 2))) (.nil))) (.var 1))) (.cons (.put 0 (.lit (.int 2)) (.bin .fdiv (.oix 0 (.lit (.int 2))) (.var 1))) (.cons (.ret (.var 2)) (.nil))))
/-- a draw's content -/
def drwD (cells : List Int) (p c sd : Int) : List D := [.list (cells.map .int), .int p, .int c, .int sd]
structure DrOk (dr : List D) : Prop where
  ex : ∃ cells p c sd, dr = drwD cells p c sd ∧ (∀ x ∈ cells, 0 ≤ x) ∧ -1 ≤ p ∧ 0 ≤ c ∧ 0 ≤ sd ∧ sd < 2147483647
theorem dr0 (cells : List Int) (p c sd : Int) : atI (drwD cells p c sd) 0 = some (.list (cells.map .int)) := L2.atI_nat (j := 0) rfl
theorem dr1 (cells : List Int) (p c sd : Int) : atI (drwD cells p c sd) 1 = some (.int p) := L2.atI_nat (j := 1) rfl
theorem dr2 (cells : List Int) (p c sd : Int) : atI (drwD cells p c sd) 2 = some (.int c) := L2.atI_nat (j := 2) rfl
theorem dr3 (cells : List Int) (p c sd : Int) : atI (drwD cells p c sd) 3 = some (.int sd) := L2.atI_nat (j := 3) rfl
theorem put_drw {s : Sg} {n : Nat} {d : D} {j : Int} (hd : isD d = false) (hj : ixN s.dr.length j = some n) (i : Nat) : putS i (some .drw) d (.int j) s = .nx { s with dr := s.dr.set n d } := by
  have e : putS i (some .drw) d (.int j) s = (match isD d, ixN s.dr.length j with | false, some n => SOut.nx { s with dr := s.dr.set n d } | _, _ => .bad) := rfl
  rw [e, hd, hj]
theorem eqS_ints (i j : Int) : eqS (.int i) (.int j) = some (decide (i = j)) := by
  have e : PyData.eqv (.int i) (.int j) = decide (i = j) := by
    simp only [PyData.eqv]
    by_cases h : i = j <;> simp [h]
  simp [cmpOk, e]
theorem log2_31 {n : Nat} (h : n < 2147483648) : n.log2 < 31 := by
  by_cases h0 : n = 0
  · subst h0; decide
  · exact (Nat.log2_lt h0).mpr (by omega)
theorem mulOk_sd {i : Int} (h0 : 0 ≤ i) (h : i < 2147483647) : mulOk i 48271 = true := by
  unfold mulOk
  rw [decide_eq_true_iff]
  have h1 : i.natAbs < 2147483648 := by omega
  have := log2_31 h1
  have h2 : (48271 : Int).natAbs.log2 < 31 := log2_31 (by decide)
  omega
theorem divOk_le {m : Int} (h0 : 0 < m) (h : m ≤ 1000000) : divOk m = true := by
  unfold divOk
  rw [decide_eq_true h0, Bool.true_and, decide_eq_true_iff]
  have := log2_31 (n := m.natAbs) (by omega)
  omega
abbrev sT (m : Int) (c2 : Cell) (cells : List Int) (p c sd : Int) : Sg := ⟨[.drw, .val (.int m), c2], drwD cells p c sd⟩
theorem tk_put1 (m : Int) (c2 : Cell) (cells : List Int) (p c sd : Int) : run (.put 0 (.lit (.int 1)) (.bin .add (.oix 0 (.lit (.int 1))) (.lit (.int 1)))) (sT m c2 cells p c sd) = .nx (sT m c2 cells (p + 1) c sd) := by
  have e := dr1 cells p c sd
  have e2 : ∀ d : D, isD d = false → putS 0 (some .drw) d (.int 1) (sT m c2 cells p c sd) = .nx ⟨[.drw, .val (.int m), c2], (drwD cells p c sd).set 1 d⟩ := fun d hd => put_drw (s := sT m c2 cells p c sd) (n := 1) hd rfl 0
  simp [e, e2]
  rfl
theorem tk_put2 (m : Int) (c2 : Cell) (cells : List Int) (p c sd x : Int) (e : QE) (he : ev e (sT m c2 cells p c sd) = .ok (.int x) (sT m c2 cells p c sd)) : run (.put 0 (.lit (.int 2)) e) (sT m c2 cells p c sd) = .nx (sT m c2 cells p x sd) := by
  have e2 : ∀ d : D, isD d = false → putS 0 (some .drw) d (.int 2) (sT m c2 cells p c sd) = .nx ⟨[.drw, .val (.int m), c2], (drwD cells p c sd).set 2 d⟩ := fun d hd => put_drw (s := sT m c2 cells p c sd) (n := 2) hd rfl 0
  simp [he, e2]
  rfl
theorem tk_put3 (m : Int) (c2 : Cell) (cells : List Int) (p c sd x : Int) (e : QE) (he : ev e (sT m c2 cells p c sd) = .ok (.int x) (sT m c2 cells p c sd)) : run (.put 0 (.lit (.int 3)) e) (sT m c2 cells p c sd) = .nx (sT m c2 cells p c x) := by
  have e2 : ∀ d : D, isD d = false → putS 0 (some .drw) d (.int 3) (sT m c2 cells p c sd) = .nx ⟨[.drw, .val (.int m), c2], (drwD cells p c sd).set 3 d⟩ := fun d hd => put_drw (s := sT m c2 cells p c sd) (n := 3) hd rfl 0
  simp [he, e2]
  rfl
theorem tk_o0 (m : Int) (c2 : Cell) (cells : List Int) (p c sd : Int) : ev (.oix 0 (.lit (.int 0))) (sT m c2 cells p c sd) = .ok (.list (cells.map .int)) (sT m c2 cells p c sd) := by simp [dr0]
theorem tk_o1 (m : Int) (c2 : Cell) (cells : List Int) (p c sd : Int) : ev (.oix 0 (.lit (.int 1))) (sT m c2 cells p c sd) = .ok (.int p) (sT m c2 cells p c sd) := by simp [dr1]
theorem tk_o2 (m : Int) (c2 : Cell) (cells : List Int) (p c sd : Int) : ev (.oix 0 (.lit (.int 2))) (sT m c2 cells p c sd) = .ok (.int c) (sT m c2 cells p c sd) := by simp [dr2]
theorem tk_o3 (m : Int) (c2 : Cell) (cells : List Int) (p c sd : Int) : ev (.oix 0 (.lit (.int 3))) (sT m c2 cells p c sd) = .ok (.int sd) (sT m c2 cells p c sd) := by simp [dr3]
theorem tk_t (m : Int) (c2 : Cell) (cells : List Int) (p c sd : Int) : ev (.cmp .eq (.oix 0 (.lit (.int 2))) (.lit (.int 0))) (sT m c2 cells p c sd) = .ok (.bool (decide (c = 0))) (sT m c2 cells p c sd) := by
  have o2 := tk_o2 m c2 cells p c sd
  simp [o2, eqS_ints, -ev_oix, -eqS]
theorem len_list (l : List Int) : bi1 .len (.list (l.map .int)) = some (.int (l.length : Nat)) := by
  show some (PyData.int ((l.map PyData.int).length : Nat)) = _
  rw [List.length_map]
/-- the first part: another number is got where none is left -/
noncomputable def qT1 : QS := .ite (.cmp .eq (.oix 0 (.lit (.int 2))) (.lit (.int 0))) (.cons (.put 0 (.lit (.int 1)) (.bin .add (.oix 0 (.lit (.int 1))) (.lit (.int 1)))) (.cons (.ite (.cmp .lt (.oix 0 (.lit (.int 1))) (.bi .len (.cons (.oix 0 (.lit (.int 0))) (.nil)))) (.cons (.put 0 (.lit (.int 2)) (.ix (.oix 0 (.lit (.int 0))) (.oix 0 (.lit (.int 1))))) (.nil)) (.nil)) (.cons (.ite (.cmp .eq (.oix 0 (.lit (.int 2))) (.lit (.int 0))) (.cons (.put 0 (.lit (.int 3)) (.bin .mod (.bi .int (.cons (.bin .add (.bin .mul (.oix 0 (.lit (.int 3))) (.lit (.int 48271))) (.lit (.int 11))) (.nil))) (.lit (.int 2147483647)))) (.cons (.put 0 (.lit (.int 2)) (.oix 0 (.lit (.int 3)))) (.nil))) (.nil)) (.nil)))) (.nil)
theorem tk_a (m : Int) (c2 : Cell) (cells : List Int) (p c sd : Int) (hp : 0 ≤ p) (hx : ∀ x ∈ cells, 0 ≤ x) (hc : 0 ≤ c) : ∃ c', 0 ≤ c' ∧ run (.ite (.cmp .lt (.oix 0 (.lit (.int 1))) (.bi .len (.cons (.oix 0 (.lit (.int 0))) (.nil)))) (.cons (.put 0 (.lit (.int 2)) (.ix (.oix 0 (.lit (.int 0))) (.oix 0 (.lit (.int 1))))) (.nil)) (.nil)) (sT m c2 cells p c sd) = .nx (sT m c2 cells p c' sd) := by
  have o0 := tk_o0 m c2 cells p c sd
  have o1 := tk_o1 m c2 cells p c sd
  have hl := len_list cells
  by_cases h : p < cells.length
  · obtain ⟨k, rfl⟩ : ∃ k : Nat, p = (k : Int) := ⟨p.toNat, by omega⟩
    have hk : k < cells.length := by omega
    have e1 : ixD (.list (cells.map .int)) (.int (k : Int)) = some (.int (gD cells k)) := atI_getD hk
    have e2 : ev (.ix (.oix 0 (.lit (.int 0))) (.oix 0 (.lit (.int 1)))) (sT m c2 cells (k : Int) c sd) = .ok (.int (gD cells k)) (sT m c2 cells (k : Int) c sd) := by
      rw [ev_ix, o0, Out.bind_ok, o1, Out.bind_ok, e1]; rfl
    have e3 := tk_put2 m c2 cells (k : Int) c sd _ _ e2
    refine ⟨gD cells k, ?_, ?_⟩
    · have := gD_get hk
      exact hx _ (List.mem_of_getElem? this)
    · have ht : ev (.cmp .lt (.oix 0 (.lit (.int 1))) (.bi .len (.cons (.oix 0 (.lit (.int 0))) (.nil)))) (sT m c2 cells (k : Int) c sd) = .ok (.bool true) (sT m c2 cells (k : Int) c sd) := by
        simp [o0, o1, hl, hk, -ev_oix, -bi1]
      rw [run_ite, ht]
      simp only [tst_ok_bool, SOut.of_ok, if_true, runs_cons, e3, thn_nx, runs_nil]
  · refine ⟨c, hc, ?_⟩
    have ht : ev (.cmp .lt (.oix 0 (.lit (.int 1))) (.bi .len (.cons (.oix 0 (.lit (.int 0))) (.nil)))) (sT m c2 cells p c sd) = .ok (.bool false) (sT m c2 cells p c sd) := by
      simp [o0, o1, hl, h, -ev_oix, -bi1]
    rw [run_ite, ht]
    simp only [tst_ok_bool, SOut.of_ok, if_false, Bool.false_eq_true, runs_nil]
theorem tk_b (m : Int) (c2 : Cell) (cells : List Int) (p c sd : Int) (hc : 0 ≤ c) (h0 : 0 ≤ sd) (h1 : sd < 2147483647) : ∃ c' sd', 0 ≤ c' ∧ 0 ≤ sd' ∧ sd' < 2147483647 ∧ run (.ite (.cmp .eq (.oix 0 (.lit (.int 2))) (.lit (.int 0))) (.cons (.put 0 (.lit (.int 3)) (.bin .mod (.bi .int (.cons (.bin .add (.bin .mul (.oix 0 (.lit (.int 3))) (.lit (.int 48271))) (.lit (.int 11))) (.nil))) (.lit (.int 2147483647)))) (.cons (.put 0 (.lit (.int 2)) (.oix 0 (.lit (.int 3)))) (.nil))) (.nil)) (sT m c2 cells p c sd) = .nx (sT m c2 cells p c' sd') := by
  have o2 := tk_o2 m c2 cells p c sd
  have o3 := tk_o3 m c2 cells p c sd
  by_cases h : c = 0
  · have e1 : ev (.bin .mod (.bi .int (.cons (.bin .add (.bin .mul (.oix 0 (.lit (.int 3))) (.lit (.int 48271))) (.lit (.int 11))) (.nil))) (.lit (.int 2147483647))) (sT m c2 cells p c sd) = .ok (.int ((sd * 48271 + 11) % 2147483647)) (sT m c2 cells p c sd) := by
      simp [o3, mulOk_sd h0 h1, -ev_oix]
    have e2 := tk_put3 m c2 cells p c sd _ _ e1
    have e3 := tk_put2 m c2 cells p c ((sd * 48271 + 11) % 2147483647) _ _ (tk_o3 m c2 cells p c ((sd * 48271 + 11) % 2147483647))
    refine ⟨(sd * 48271 + 11) % 2147483647, (sd * 48271 + 11) % 2147483647, by omega, by omega, by omega, ?_⟩
    have ht : ev (.cmp .eq (.oix 0 (.lit (.int 2))) (.lit (.int 0))) (sT m c2 cells p c sd) = .ok (.bool true) (sT m c2 cells p c sd) := by
      rw [tk_t]; simp [h]
    rw [run_ite, ht]
    simp only [tst_ok_bool, SOut.of_ok, if_true, runs_cons, e2, e3, thn_nx, runs_nil]
  · refine ⟨c, sd, hc, h0, h1, ?_⟩
    have ht : ev (.cmp .eq (.oix 0 (.lit (.int 2))) (.lit (.int 0))) (sT m c2 cells p c sd) = .ok (.bool false) (sT m c2 cells p c sd) := by
      rw [tk_t]; simp [h]
    rw [run_ite, ht]
    simp only [tst_ok_bool, SOut.of_ok, if_false, Bool.false_eq_true, runs_nil]
theorem tk_1 (m : Int) (c2 : Cell) (cells : List Int) (p c sd : Int) (hp : -1 ≤ p) (hx : ∀ x ∈ cells, 0 ≤ x) (hc : 0 ≤ c) (h0 : 0 ≤ sd) (h1 : sd < 2147483647) : ∃ p' c' sd', -1 ≤ p' ∧ 0 ≤ c' ∧ 0 ≤ sd' ∧ sd' < 2147483647 ∧ run qT1 (sT m c2 cells p c sd) = .nx (sT m c2 cells p' c' sd') := by
  have o2 := tk_o2 m c2 cells p c sd
  by_cases h : c = 0
  · obtain ⟨c1, g1, e1⟩ := tk_a m c2 cells (p + 1) c sd (by omega) hx hc
    obtain ⟨c3, sd3, g2, g3, g4, e2⟩ := tk_b m c2 cells (p + 1) c1 sd g1 h0 h1
    refine ⟨p + 1, c3, sd3, by omega, g2, g3, g4, ?_⟩
    have ht : ev (.cmp .eq (.oix 0 (.lit (.int 2))) (.lit (.int 0))) (sT m c2 cells p c sd) = .ok (.bool true) (sT m c2 cells p c sd) := by
      rw [tk_t]; simp [h]
    unfold qT1
    rw [run_ite, ht, tst_ok_bool, SOut.of_ok, if_pos rfl, runs_cons, tk_put1, thn_nx, runs_cons, e1, thn_nx, runs_cons, e2, thn_nx, runs_nil]
  · refine ⟨p, c, sd, hp, hc, h0, h1, ?_⟩
    have ht : ev (.cmp .eq (.oix 0 (.lit (.int 2))) (.lit (.int 0))) (sT m c2 cells p c sd) = .ok (.bool false) (sT m c2 cells p c sd) := by
      rw [tk_t]; simp [h]
    unfold qT1
    rw [run_ite, ht]
    simp only [tst_ok_bool, SOut.of_ok, if_false, Bool.false_eq_true, runs_nil]
theorem qTake_eq : qTake = .cons qT1 (.cons (.set 2 (.bin .mod (.bi .int (.cons (.oix 0 (.lit (.int 2))) (.nil))) (.var 1))) (.cons (.put 0 (.lit (.int 2)) (.bin .fdiv (.oix 0 (.lit (.int 2))) (.var 1))) (.cons (.ret (.var 2)) (.nil)))) := rfl
/-- a number below many, the draw behind it -/
theorem sem_take {m : Int} (h0 : 0 < m) (hm : m ≤ 1000000) {dr : List D} (h : DrOk dr) : ∃ r dr', (entD "_law_take" 1 3 qTake).sem [.int m] dr = .ret (.int r) dr' ∧ 0 ≤ r ∧ r < m ∧ DrOk dr' := by
  obtain ⟨cells, p, c, sd, rfl, hx, hp, hc, g0, g1⟩ := h.ex
  obtain ⟨p', c', sd', b1, b2, b3, b4, e1⟩ := tk_1 m .no cells p c sd hp hx hc g0 g1
  have e0 : (entD "_law_take" 1 3 qTake).sem [.int m] (drwD cells p c sd) = frOf (runs qTake (sT m .no cells p c sd)) := semD_of rfl
  have e2 : run (.set 2 (.bin .mod (.bi .int (.cons (.oix 0 (.lit (.int 2))) (.nil))) (.var 1))) (sT m .no cells p' c' sd') = .nx (sT m (.val (.int (c' % m))) cells p' c' sd') := by
    have o2 := tk_o2 m .no cells p' c' sd'
    simp [o2, h0, -ev_oix]
  have e3 : ev (.bin .fdiv (.oix 0 (.lit (.int 2))) (.var 1)) (sT m (.val (.int (c' % m))) cells p' c' sd') = .ok (.int (c' / m)) (sT m (.val (.int (c' % m))) cells p' c' sd') := by
    have o2 := tk_o2 m (.val (.int (c' % m))) cells p' c' sd'
    simp [o2, divOk_le h0 hm, -ev_oix]
  have e4 := tk_put2 m (.val (.int (c' % m))) cells p' c' sd' _ _ e3
  refine ⟨c' % m, drwD cells p' (c' / m) sd', ?_, Int.emod_nonneg _ (by omega), Int.emod_lt_of_pos _ h0, ⟨cells, p', c' / m, sd', rfl, hx, b1, Int.ediv_nonneg b2 (by omega), b3, b4⟩⟩
  rw [e0, qTake_eq, runs_cons, e1, thn_nx, runs_cons, e2, thn_nx, runs_cons, e4, thn_nx]
  simp
/-! the draw itself -/
theorem draw_step (ns : List Int) (sd x : Int) (c2 : Cell) (h0 : 0 ≤ sd) (h1 : sd < 2147483647) : ∃ sd', 0 ≤ sd' ∧ sd' < 2147483647 ∧ frS (.nm 2) (.cons (.set 1 (.bin .mod (.bi .int (.cons (.bin .add (.bin .add (.bin .mul (.var 1) (.lit (.int 48271))) (.bin .mod (.bi .abs (.cons (.bi .int (.cons (.var 2) (.nil))) (.nil))) (.lit (.int 65521)))) (.lit (.int 1))) (.nil))) (.lit (.int 2147483647)))) (.nil)) (.int x) ⟨[.val (scrD ns), .val (.int sd), c2], []⟩ = .nx ⟨[.val (scrD ns), .val (.int sd'), .val (.int x)], []⟩ := by
  refine ⟨(sd * 48271 + (if x < 0 then -x else x) % 65521 + 1) % 2147483647, by omega, by omega, ?_⟩
  simp [mulOk_sd h0 h1]
theorem draw_loop (ns : List Int) : ∀ (l : List Int) (sd : Int) (c2 : Cell), 0 ≤ sd → sd < 2147483647 → ∃ sd' c2', 0 ≤ sd' ∧ sd' < 2147483647 ∧ frL (frS (.nm 2) (.cons (.set 1 (.bin .mod (.bi .int (.cons (.bin .add (.bin .add (.bin .mul (.var 1) (.lit (.int 48271))) (.bin .mod (.bi .abs (.cons (.bi .int (.cons (.var 2) (.nil))) (.nil))) (.lit (.int 65521)))) (.lit (.int 1))) (.nil))) (.lit (.int 2147483647)))) (.nil))) (l.map .int) ⟨[.val (scrD ns), .val (.int sd), c2], []⟩ = .nx ⟨[.val (scrD ns), .val (.int sd'), c2'], []⟩
  | [], sd, c2, h0, h1 => ⟨sd, c2, h0, h1, rfl⟩
  | x :: l, sd, c2, h0, h1 => by
    obtain ⟨sd1, g0, g1, e⟩ := draw_step ns sd x c2 h0 h1
    obtain ⟨sd2, c2', k0, k1, e2⟩ := draw_loop ns l sd1 (.val (.int x)) g0 g1
    refine ⟨sd2, c2', k0, k1, ?_⟩
    rw [List.map_cons]
    show (match frS (.nm 2) _ (.int x) _ with
      | .nx s => frL _ (l.map .int) s
      | .ct s => frL _ (l.map .int) s
      | .brk s => .nx s
      | .ret d s => .ret d s
      | .exc c s => .exc c s
      | .bad => .bad) = _
    rw [e]
    exact e2
theorem sem_draw (ns : List Int) (dr0 : List D) : ∃ dr, (entP "_law_draw" 1 3 qDraw).sem [scrD ns] dr0 = .ret (.list dr) [] ∧ DrOk dr := by
  obtain ⟨sd, c2, g0, g1, e⟩ := draw_loop ns ns 7 .no (by omega) (by omega)
  refine ⟨drwD (ns.map fun x => if x < 0 then -x else x) (-1) 0 sd, ?_, ⟨_, -1, 0, sd, rfl, fun x hx => ?_, by omega, by omega, g0, g1⟩⟩
  · have e0 : (entP "_law_draw" 1 3 qDraw).sem [scrD ns] dr0 = frOf (runs qDraw ⟨[.val (scrD ns), .no, .no], []⟩) := sem_of rfl
    have hit : evi (.e (.var 0)) ⟨[.val (scrD ns), .val (.int 7), .no], []⟩ = .ok (ns.map .int) ⟨[.val (scrD ns), .val (.int 7), .no], []⟩ := rfl
    have hit2 : evi (.e (.var 0)) ⟨[.val (scrD ns), .val (.int sd), c2], []⟩ = .ok (ns.map .int) ⟨[.val (scrD ns), .val (.int sd), c2], []⟩ := rfl
    have hc := comp_map (elt := .bi .abs (.cons (.bi .int (.cons (.var 2) (.nil))) (.nil))) (t := .nm 2) PyData.int (fun x => PyData.int (if x < 0 then -x else x)) hit2 (fun x hx => by
      simp)
    simp only [QP.slots, Sg.wipe, wipeC, Sg.back, backC, keepC, List.set, List.getElem?_cons_succ, List.getElem?_cons_zero] at hc
    have er : run (.fr (.nm 2) (.e (.var 0)) (.cons (.set 1 (.bin .mod (.bi .int (.cons (.bin .add (.bin .add (.bin .mul (.var 1) (.lit (.int 48271))) (.bin .mod (.bi .abs (.cons (.bi .int (.cons (.var 2) (.nil))) (.nil))) (.lit (.int 65521)))) (.lit (.int 1))) (.nil))) (.lit (.int 2147483647)))) (.nil))) ⟨[.val (scrD ns), .val (.int 7), .no], []⟩ = .nx ⟨[.val (scrD ns), .val (.int sd), c2], []⟩ := by
      rw [run_fr, hit, SOut.of_ok]
      exact e
    rw [e0, qDraw, runs_cons]
    have e1 : run (.set 1 (.lit (.int 7))) ⟨[.val (scrD ns), .no, .no], []⟩ = .nx ⟨[.val (scrD ns), .val (.int 7), .no], []⟩ := by simp
    rw [e1, thn_nx, runs_cons, er, thn_nx]
    simp [hc, drwD]
  · obtain ⟨y, _, rfl⟩ := List.mem_map.mp hx
    split <;> omega
end L2.BH
set_option maxHeartbeats 1000000
/-! Rows of ints in order; what _law_flat and _law_all_keys make. -/
namespace L2.BH
open PySem
/-! ### sorted rows -/
def leR (a b : List Int) : Bool := !decide (b < a)
theorem leR_data (a b : List Int) : leR a b = PySem.W.dataLe false (fun d => d) (dR a) (dR b) := by
  show leR a b = !PySem.W.dataLt (dR b) (dR a)
  rw [ltR]; rfl
theorem srt_dR (rows : List (List Int)) : srt (rows.map dR) = (rows.mergeSort leR).map dR := by
  unfold srt
  rw [List.map_mergeSort fun a _ b _ => leR_data a b]
theorem alkL_dR (rows : List (List Int)) : alkL (rows.map dR) = true := by
  unfold alkL
  have h1 : PyData.depthAll (rows.map dR) ≤ 60 := Nat.le_trans (depthAll_le (n := 1) fun x hx => by
    obtain ⟨r, _, rfl⟩ := List.mem_map.mp hx
    exact depth_dR r) (by omega)
  rw [decide_eq_true h1, Bool.true_and, Bool.and_eq_true, List.all_eq_true, List.all_eq_true]
  refine ⟨fun x hx => ?_, fun x hx => ?_⟩
  · obtain ⟨r, _, rfl⟩ := List.mem_map.mp hx; rfl
  · rw [List.all_eq_true]
    intro y hy
    obtain ⟨r, _, rfl⟩ := List.mem_map.mp hx
    obtain ⟨r', _, rfl⟩ := List.mem_map.mp hy
    exact alike_dR r r'
theorem srtOk_dR {rows : List (List Int)} (h : ∀ r ∈ rows, 0 < r.length) : srtOk (rows.map dR) = true := by
  unfold srtOk
  rw [alkL_dR, Bool.true_and, Bool.or_eq_true]
  refine .inl (List.all_eq_true.mpr fun x hx => ?_)
  obtain ⟨r, hr, rfl⟩ := List.mem_map.mp hx
  have := h r hr
  cases r with
  | nil => simp at this
  | cons _ _ => rfl
theorem sorted_dR {rows : List (List Int)} (h : ∀ r ∈ rows, 0 < r.length) : bi1 .sorted (.list (rows.map dR)) = some (.list ((rows.mergeSort leR).map dR)) := by
  rw [bi1, if_pos (srtOk_dR h), srt_dR]
theorem leR_trans (a b c : List Int) (h1 : leR a b = true) (h2 : leR b c = true) : leR a c = true := by
  simp only [leR, Bool.not_eq_true', decide_eq_false_iff_not] at *
  exact List.le_trans (α := Int) h1 h2
theorem leR_total (a b : List Int) : (leR a b || leR b a) = true := by
  simp only [leR, Bool.or_eq_true, Bool.not_eq_true', decide_eq_false_iff_not]
  exact List.le_total a b
theorem lt_of_leR {a b : List Int} (h : leR a b = true) (hn : a ≠ b) : a < b := by
  simp only [leR, Bool.not_eq_true', decide_eq_false_iff_not] at h
  exact Classical.byContradiction fun hc => hn (List.le_antisymm (as := a) (bs := b) h hc)
/-- sorted, none twice -/
theorem sorted_strict {rows : List (List Int)} (h : rows.Nodup) : (rows.mergeSort leR).Pairwise (· < ·) := by
  have h1 := List.pairwise_mergeSort leR_trans leR_total rows
  have h2 : (rows.mergeSort leR).Nodup := (List.mergeSort_perm rows leR).nodup_iff.mpr h
  exact (h1.and h2).imp fun h => lt_of_leR h.1 h.2
/-! ### flat -/
noncomputable def qFlat : QSs := .cons (.set 1 (.lst (.nil))) (.cons (.fr (.nm 2) (.e (.var 0)) (.cons (.set 1 (.bin .add (.var 1) (.bi .list (.cons (.var 2) (.nil))))) (.nil))) (.cons (.ret (.var 1)) (.nil)))
noncomputable def fFlat : FEnt := entP "_law_flat" 1 3 qFlat
theorem frL_cons' (f : D → Sg → SOut) (d : D) (ds : List D) (s : Sg) : frL f (d :: ds) s = match f d s with
    | .nx s => frL f ds s
    | .ct s => frL f ds s
    | .brk s => .nx s
    | .ret d s => .ret d s
    | .exc c s => .exc c s
    | .bad => .bad := rfl
theorem flat_loop (d0 : D) : ∀ (L : List (List D)) (acc : List D) (c2 : Cell), acc.length + L.flatten.length ≤ sizeLine → ∃ c2', frL (frS (.nm 2) (.cons (.set 1 (.bin .add (.var 1) (.bi .list (.cons (.var 2) (.nil))))) (.nil))) (L.map .list) ⟨[.val d0, .val (.list acc), c2], []⟩ = .nx ⟨[.val d0, .val (.list (acc ++ L.flatten)), c2'], []⟩
  | [], acc, c2, _ => ⟨c2, by simp; rfl⟩
  | x :: L, acc, c2, h => by
    rw [List.flatten_cons, List.length_append] at h
    obtain ⟨c2', e⟩ := flat_loop d0 L (acc ++ x) (.val (.list x)) (by rw [List.length_append]; omega)
    refine ⟨c2', ?_⟩
    have e1 : frS (.nm 2) (.cons (.set 1 (.bin .add (.var 1) (.bi .list (.cons (.var 2) (.nil))))) (.nil)) (.list x) ⟨[.val d0, .val (.list acc), c2], []⟩ = .nx ⟨[.val d0, .val (.list (acc ++ x)), .val (.list x)], []⟩ := by
      have := bin2_addL (xs := acc) (ys := x) (by omega)
      simp [this, -bin2]
    rw [List.map_cons, frL_cons', e1, List.flatten_cons, ← List.append_assoc]
    exact e
theorem sem_flat {L : List (List D)} (h : L.flatten.length ≤ sizeLine) (dr : List D) : fFlat.sem [.list (L.map .list)] dr = .ret (.list L.flatten) [] := by
  obtain ⟨c2, e⟩ := flat_loop (.list (L.map .list)) L [] .no (by simpa using h)
  have e0 : fFlat.sem [.list (L.map .list)] dr = frOf (runs qFlat ⟨[.val (.list (L.map .list)), .no, .no], []⟩) := by rw [fFlat]; exact sem_of rfl
  have e1 : run (.set 1 (.lst (.nil))) ⟨[.val (.list (L.map .list)), .no, .no], []⟩ = .nx ⟨[.val (.list (L.map .list)), .val (.list []), .no], []⟩ := by simp
  have e2 : run (.fr (.nm 2) (.e (.var 0)) (.cons (.set 1 (.bin .add (.var 1) (.bi .list (.cons (.var 2) (.nil))))) (.nil))) ⟨[.val (.list (L.map .list)), .val (.list []), .no], []⟩ = .nx ⟨[.val (.list (L.map .list)), .val (.list ([] ++ L.flatten)), c2], []⟩ := by
    rw [run_fr]
    exact e
  rw [e0, qFlat, runs_cons, e1, thn_nx, runs_cons, e2, thn_nx]
  simp
/-! ### all rows of a length and a sum -/
def grow (deg : Nat) (rows : List (List Int)) : List (List Int) := rows.flatMap fun r => (List.range (deg - r.sum.toNat + 1)).map fun (n : Nat) => r ++ [(n : Int)]
def rowsN (deg : Nat) : Nat → List (List Int)
  | 0 => [[]]
  | k + 1 => grow deg (rowsN deg k)
structure RowOk (deg k : Nat) (r : List Int) : Prop where
  len : r.length = k
  nn : ∀ x ∈ r, 0 ≤ x
  sum0 : 0 ≤ r.sum
  sum : r.sum ≤ deg
theorem rowsN_ok (deg : Nat) : ∀ k, ∀ r ∈ rowsN deg k, RowOk deg k r
  | 0, r, h => by
    have : r = [] := by simpa [rowsN] using h
    subst this
    exact ⟨rfl, by simp, by simp, by simp⟩
  | k + 1, r, h => by
    obtain ⟨q, hq, h⟩ := List.mem_flatMap.mp h
    obtain ⟨n, hn, rfl⟩ := List.mem_map.mp h
    have o := rowsN_ok deg k q hq
    have hn' := List.mem_range.mp hn
    have s0 := o.sum0
    have s1 := o.sum
    refine ⟨by simp [o.len], fun x hx => ?_, ?_, ?_⟩
    · rcases List.mem_append.mp hx with hx | hx
      · exact o.nn x hx
      · have : x = (n : Int) := by simpa using hx
        omega
    · simp; omega
    · simp; omega
theorem rowsN_nodup (deg : Nat) : ∀ k, (rowsN deg k).Nodup
  | 0 => by simp [rowsN]
  | k + 1 => by
    show (grow deg (rowsN deg k)).Nodup
    unfold grow
    rw [List.nodup_iff_pairwise_ne, List.pairwise_flatMap]
    refine ⟨fun r _ => ?_, ?_⟩
    · rw [List.pairwise_map]
      refine (List.nodup_iff_pairwise_ne.mp List.nodup_range).imp fun h e => h ?_
      have := List.append_cancel_left e
      simp only [List.cons.injEq, and_true] at this
      omega
    · refine (List.nodup_iff_pairwise_ne.mp (rowsN_nodup deg k)).imp fun h x hx y hy e => h ?_
      obtain ⟨n, _, rfl⟩ := List.mem_map.mp hx
      obtain ⟨m, _, rfl⟩ := List.mem_map.mp hy
      exact (List.append_inj' e rfl).1
theorem flatMap_len_le {α β : Type} {f : α → List β} {m : Nat} : ∀ {l : List α}, (∀ a ∈ l, (f a).length ≤ m) → (l.flatMap f).length ≤ l.length * m
  | [], _ => by simp
  | a :: l, h => by
    rw [List.flatMap_cons, List.length_append, List.length_cons, Nat.succ_mul]
    have h1 := h a List.mem_cons_self
    have h2 := flatMap_len_le (f := f) fun b hb => h b (List.mem_cons_of_mem _ hb)
    omega
theorem rowsN_len (deg : Nat) : ∀ k, (rowsN deg k).length ≤ (deg + 1) ^ k
  | 0 => by simp [rowsN]
  | k + 1 => by
    have h := flatMap_len_le (f := fun r : List Int => (List.range (deg - r.sum.toNat + 1)).map fun n : Nat => r ++ [(n : Int)]) (m := deg + 1) (l := rowsN deg k) fun a _ => by
      rw [List.length_map, List.length_range]; omega
    have h2 := rowsN_len deg k
    show (grow deg (rowsN deg k)).length ≤ _
    unfold grow
    rw [Nat.pow_succ]
    exact Nat.le_trans h (Nat.mul_le_mul_right _ h2)
noncomputable def eGrow : QE := .comp (.comp (.bin .add (.var 4) (.tup (.cons (.var 5) (.nil)))) (.nm 5) (.rng (.bin .add (.bin .sub (.var 1) (.bi .sum (.cons (.var 4) (.nil)))) (.lit (.int 1)))) (.nil)) (.nm 4) (.e (.var 2)) (.nil)
noncomputable def qKeys : QSs := .cons (.set 2 (.lst (.cons (.tup (.nil)) (.nil)))) (.cons (.fr (.nm 3) (.rng (.var 0)) (.cons (.set 2 (.call fFlat (.cons eGrow (.nil)))) (.nil))) (.cons (.ret (.bi .sorted (.cons (.comp (.var 4) (.nm 4) (.e (.var 2)) (.cons (.cmp .eq (.bi .sum (.cons (.var 4) (.nil))) (.var 1)) .nil)) (.nil)))) (.nil)))
theorem intL_map' : ∀ (r : List Int), intL (r.map PyData.int) = some r
  | [] => rfl
  | x :: r => by
    show (intL (r.map PyData.int)).map (x :: ·) = _
    rw [intL_map' r]; rfl
theorem sum_dR (r : List Int) : bi1 .sum (dR r) = some (.int r.sum) := by
  show ((some (r.map PyData.int)).bind intL).map _ = _
  rw [Option.bind_some, intL_map']; rfl
theorem add_dR {r q : List Int} (h : r.length + q.length ≤ sizeLine) : bin2 .add (dR r) (dR q) = some (dR (r ++ q)) := by
  unfold dR
  rw [bin2_addT (by rw [List.length_map, List.length_map]; exact h), List.map_append]
theorem grow_inner {deg k : Nat} (hd : deg ≤ 900) (hk : k ≤ 900) (m : D) (c3 : Cell) (L : D) {r : List Int} (o : RowOk deg k r) :
    ev (.comp (.bin .add (.var 4) (.tup (.cons (.var 5) (.nil)))) (.nm 5) (.rng (.bin .add (.bin .sub (.var 1) (.bi .sum (.cons (.var 4) (.nil)))) (.lit (.int 1)))) (.nil)) ⟨[.val m, .val (.int (deg : Nat)), .val L, c3, .val (dR r), .no], []⟩ = .ok (.list (((List.range (deg - r.sum.toNat + 1)).map fun (n : Nat) => r ++ [(n : Int)]).map dR)) ⟨[.val m, .val (.int (deg : Nat)), .val L, c3, .val (dR r), .no], []⟩ := by
  have s0 := o.sum0
  have s1 := o.sum
  have hz : sizeLine = 16777216 := PySem.sizeLine_eq
  have hi : evi (.rng (.bin .add (.bin .sub (.var 1) (.bi .sum (.cons (.var 4) (.nil)))) (.lit (.int 1)))) ⟨[.val m, .val (.int (deg : Nat)), .val L, c3, .val (dR r), .no], []⟩ = .ok ((List.range (deg - r.sum.toNat + 1)).map fun (n : Nat) => PyData.int n) ⟨[.val m, .val (.int (deg : Nat)), .val L, c3, .val (dR r), .no], []⟩ := by
    have e : ev (.bin .add (.bin .sub (.var 1) (.bi .sum (.cons (.var 4) (.nil)))) (.lit (.int 1))) ⟨[.val m, .val (.int (deg : Nat)), .val L, c3, .val (dR r), .no], []⟩ = .ok (.int ((deg - r.sum.toNat + 1 : Nat) : Int)) ⟨[.val m, .val (.int (deg : Nat)), .val L, c3, .val (dR r), .no], []⟩ := by
      have : (deg : Int) - r.sum + 1 = ((deg - r.sum.toNat + 1 : Nat) : Int) := by omega
      simp [sum_dR, -bi1]
      omega
    rw [evi_rng, e, Out.bind_ok, rngO_nat _ (by omega), nats]
  have hc := comp_map (elt := .bin .add (.var 4) (.tup (.cons (.var 5) (.nil)))) (t := .nm 5) (fun (n : Nat) => PyData.int n) (fun n => dR (r ++ [(n : Int)])) hi (fun n _ => by
    have := add_dR (r := r) (q := [(n : Int)]) (by rw [o.len, List.length_singleton]; omega)
    have e2 : bin2 .add (dR r) (.tuple [.int (n : Nat)]) = some (dR (r ++ [(n : Int)])) := this
    simp [e2, -bin2])
  simp only [QP.slots, Sg.wipe, wipeC, Sg.back, backC, keepC, List.set, List.getElem?_cons_succ, List.getElem?_cons_zero] at hc
  rw [hc, List.map_map]
  rfl
theorem grow_ev {deg k : Nat} (hd : deg ≤ 900) (hk : k ≤ 900) (m : D) (c3 : Cell) {rows : List (List Int)} (o : ∀ r ∈ rows, RowOk deg k r) :
    ev eGrow ⟨[.val m, .val (.int (deg : Nat)), .val (.list (rows.map dR)), c3, .no, .no], []⟩ = .ok (.list ((rows.map fun r => ((List.range (deg - r.sum.toNat + 1)).map fun (n : Nat) => r ++ [(n : Int)]).map dR).map .list)) ⟨[.val m, .val (.int (deg : Nat)), .val (.list (rows.map dR)), c3, .no, .no], []⟩ := by
  have hi : evi (.e (.var 2)) ⟨[.val m, .val (.int (deg : Nat)), .val (.list (rows.map dR)), c3, .no, .no], []⟩ = .ok (rows.map dR) ⟨[.val m, .val (.int (deg : Nat)), .val (.list (rows.map dR)), c3, .no, .no], []⟩ := by simp
  have hc := comp_map (elt := .comp (.bin .add (.var 4) (.tup (.cons (.var 5) (.nil)))) (.nm 5) (.rng (.bin .add (.bin .sub (.var 1) (.bi .sum (.cons (.var 4) (.nil)))) (.lit (.int 1)))) (.nil)) (t := .nm 4) dR (fun r => PyData.list (((List.range (deg - r.sum.toNat + 1)).map fun (n : Nat) => r ++ [(n : Int)]).map dR)) hi (fun r hr => by
    have e := grow_inner hd hk m c3 (.list (rows.map dR)) (o r hr)
    rw [turn_eq0]
    simp only [asg_nm, put_mk, QP.slots, Sg.wipe, wipeC, List.set, e, Out.bind_ok, isD_list, Bool.false_eq_true, if_false])
  simp only [QP.slots, Sg.wipe, wipeC, Sg.back, backC, keepC, List.set, List.getElem?_cons_succ, List.getElem?_cons_zero] at hc
  unfold eGrow
  rw [hc, List.map_map]
  rfl
theorem grow_flat (deg : Nat) (rows : List (List Int)) : (rows.map fun r => ((List.range (deg - r.sum.toNat + 1)).map fun (n : Nat) => r ++ [(n : Int)]).map dR).flatten = (grow deg rows).map dR := by
  unfold grow
  rw [List.map_flatMap, ← List.flatMap_def]
theorem keys_loop {deg m : Nat} (hd : deg ≤ 900) (hm : m ≤ 900) (hz : (deg + 1) ^ m ≤ sizeLine) : ∀ (j k : Nat) (c3 : Cell) (ds : List D), ds.length = j → k + j = m → ∃ c3', frL (frS (.nm 3) (.cons (.set 2 (.call fFlat (.cons eGrow (.nil)))) (.nil))) ds ⟨[.val (.int (m : Nat)), .val (.int (deg : Nat)), .val (.list ((rowsN deg k).map dR)), c3, .no, .no], []⟩ = .nx ⟨[.val (.int (m : Nat)), .val (.int (deg : Nat)), .val (.list ((rowsN deg m).map dR)), c3', .no, .no], []⟩
  | 0, k, c3, [], _, h => ⟨c3, by rw [Nat.add_zero] at h; subst h; rfl⟩
  | j + 1, k, c3, d :: ds, hl, h => by
    obtain ⟨c3', e⟩ := keys_loop hd hm hz j (k + 1) (.val d) ds (by simpa using hl) (by omega)
    refine ⟨c3', ?_⟩
    have e1 : frS (.nm 3) (.cons (.set 2 (.call fFlat (.cons eGrow (.nil)))) (.nil)) d ⟨[.val (.int (m : Nat)), .val (.int (deg : Nat)), .val (.list ((rowsN deg k).map dR)), c3, .no, .no], []⟩ = .nx ⟨[.val (.int (m : Nat)), .val (.int (deg : Nat)), .val (.list ((rowsN deg (k + 1)).map dR)), .val d, .no, .no], []⟩ := by
      have e2 := grow_ev (k := k) hd (by omega) (.int (m : Nat)) (.val d) (rowsN_ok deg k)
      have hlen : (grow deg (rowsN deg k)).length ≤ sizeLine := by
        have h1 := rowsN_len deg (k + 1)
        have h2 : (deg + 1) ^ (k + 1) ≤ (deg + 1) ^ m := Nat.pow_le_pow_right (by omega) (by omega)
        have h3 : rowsN deg (k + 1) = grow deg (rowsN deg k) := rfl
        rw [h3] at h1
        omega
      have e3 := sem_flat (L := (rowsN deg k).map fun r => ((List.range (deg - r.sum.toNat + 1)).map fun (n : Nat) => r ++ [(n : Int)]).map dR) (by rw [grow_flat, List.length_map]; exact hlen) []
      rw [grow_flat] at e3
      have e4 : rowsN deg (k + 1) = grow deg (rowsN deg k) := rfl
      rw [e4]
      show SOut.thn (run (.set 2 (.call fFlat (.cons eGrow (.nil)))) ⟨[.val (.int (m : Nat)), .val (.int (deg : Nat)), .val (.list ((rowsN deg k).map dR)), .val d, .no, .no], []⟩) (runs .nil) = _
      rw [run_set, ev_call, evs_cons, e2]
      simp only [Out.bind_ok, evs_nil, callP, e3, SOut.of_ok, put_mk, List.set, thn_nx, runs_nil]
    rw [frL_cons', e1]
    exact e
def allK (m deg : Nat) : List (List Int) := ((rowsN deg m).filter fun r => decide (r.sum = (deg : Int))).mergeSort leR
theorem sem_keys {deg m : Nat} (hd : deg ≤ 900) (hm : m ≤ 900) (h1 : 1 ≤ m) (hz : (deg + 1) ^ m ≤ sizeLine) (dr : List D) : (entP "_law_all_keys" 2 6 qKeys).sem [.int (m : Nat), .int (deg : Nat)] dr = .ret (.list ((allK m deg).map dR)) [] := by
  obtain ⟨c3, e⟩ := keys_loop hd hm hz m 0 .no (nats m) (by unfold nats; simp) (by omega)
  have e0 : (entP "_law_all_keys" 2 6 qKeys).sem [.int (m : Nat), .int (deg : Nat)] dr = frOf (runs qKeys ⟨[.val (.int (m : Nat)), .val (.int (deg : Nat)), .no, .no, .no, .no], []⟩) := sem_of rfl
  have e1 : run (.set 2 (.lst (.cons (.tup (.nil)) (.nil)))) ⟨[.val (.int (m : Nat)), .val (.int (deg : Nat)), .no, .no, .no, .no], []⟩ = .nx ⟨[.val (.int (m : Nat)), .val (.int (deg : Nat)), .val (.list ((rowsN deg 0).map dR)), .no, .no, .no], []⟩ := by
    simp
    rfl
  have e2 : run (.fr (.nm 3) (.rng (.var 0)) (.cons (.set 2 (.call fFlat (.cons eGrow (.nil)))) (.nil))) ⟨[.val (.int (m : Nat)), .val (.int (deg : Nat)), .val (.list ((rowsN deg 0).map dR)), .no, .no, .no], []⟩ = .nx ⟨[.val (.int (m : Nat)), .val (.int (deg : Nat)), .val (.list ((rowsN deg m).map dR)), c3, .no, .no], []⟩ := by
    have hi : evi (.rng (.var 0)) ⟨[.val (.int (m : Nat)), .val (.int (deg : Nat)), .val (.list ((rowsN deg 0).map dR)), .no, .no, .no], []⟩ = .ok (nats m) ⟨[.val (.int (m : Nat)), .val (.int (deg : Nat)), .val (.list ((rowsN deg 0).map dR)), .no, .no, .no], []⟩ := by
      rw [evi_rng, ev_var]
      simp only [getV_mk, List.getElem?_cons_zero, getC_val, Out.bind_ok]
      exact rngO_nat _ (by omega)
    rw [run_fr, hi, SOut.of_ok]
    exact e
  have hit : evi (.e (.var 2)) ⟨[.val (.int (m : Nat)), .val (.int (deg : Nat)), .val (.list ((rowsN deg m).map dR)), c3, .no, .no], []⟩ = .ok ((rowsN deg m).map dR) ⟨[.val (.int (m : Nat)), .val (.int (deg : Nat)), .val (.list ((rowsN deg m).map dR)), c3, .no, .no], []⟩ := by simp
  have hc := comp_flt (elt := .var 4) (c := .cmp .eq (.bi .sum (.cons (.var 4) (.nil))) (.var 1)) (t := .nm 4) dR (fun r => decide (r.sum = (deg : Int))) dR hit (fun r hr => by
    rw [turn_eq1]
    by_cases h : r.sum = (deg : Int) <;> simp [sum_dR, eqS_ints, h, -bi1, -eqS])
  simp only [QP.slots, Sg.wipe, wipeC, Sg.back, backC, keepC, List.set, List.getElem?_cons_succ, List.getElem?_cons_zero] at hc
  have e5 := sorted_dR (rows := (rowsN deg m).filter fun r => decide (r.sum = (deg : Int))) (fun r hr => by
    rw [(rowsN_ok deg m r (List.mem_filter.mp hr).1).len]; omega)
  rw [e0, qKeys, runs_cons, e1, thn_nx, runs_cons, e2, thn_nx, runs_cons, run_ret, ev_bi, evs_cons, hc, Out.bind_ok, evs_nil, Out.bind_ok, Out.bind_ok]
  simp only [biS, e5, ofO_some, SOut.of_ok, thn_ret, frOf_ret, allK]
structure KeyOk (m deg : Nat) (r : List Int) : Prop where
  len : r.length = m
  nn : ∀ x ∈ r, 0 ≤ x
  sum : r.sum = deg
theorem allK_ok {m deg : Nat} {r : List Int} (h : r ∈ allK m deg) : KeyOk m deg r := by
  unfold allK at h
  rw [(List.mergeSort_perm _ leR).mem_iff, List.mem_filter] at h
  have := rowsN_ok deg m r h.1
  exact ⟨this.len, this.nn, of_decide_eq_true h.2⟩
theorem allK_lt (m deg : Nat) : (allK m deg).Pairwise (· < ·) := sorted_strict ((rowsN_nodup deg m).filter _)
end L2.BH
set_option maxHeartbeats 1000000
/-! A draw that is held: calls and comprehensions that take from it. -/
namespace L2.BH
open PySem
theorem ev_held {f : FEnt} {i : Nat} {es : QEs} {s : Sg} {ds dr dr' : List D} {d : D} (hc : s.cs[i]? = some (.own (.list dr))) (he : evs es s = .ok ds s) (hf : f.sem ds dr = .ret d dr') : ev (.calld f i es) s = .ok d (s.put i (.own (.list dr'))) := by
  have e : ev (.calld f i es) s = (match s.cs[i]? with
    | some .drw => (evs es s).bind fun ds s => (match s.cs[i]? with | some .drw => callD f ds s | _ => .bad)
    | some (.own _) => (evs es s).bind fun ds s => (match s.cs[i]? with | some (.own (.list dr)) => callO f i ds dr s | _ => .bad)
    | _ => .bad) := rfl
  rw [e, hc]
  simp only [he, Out.bind_ok, hc, callO, hf]
theorem ev_lentd {f : FEnt} {i : Nat} {es : QEs} {s : Sg} {ds dr' : List D} {d : D} (hc : s.cs[i]? = some .drw) (he : evs es s = .ok ds s) (hf : f.sem ds s.dr = .ret d dr') : ev (.calld f i es) s = .ok d { s with dr := dr' } := by
  have e : ev (.calld f i es) s = (match s.cs[i]? with
    | some .drw => (evs es s).bind fun ds s => (match s.cs[i]? with | some .drw => callD f ds s | _ => .bad)
    | some (.own _) => (evs es s).bind fun ds s => (match s.cs[i]? with | some (.own (.list dr)) => callO f i ds dr s | _ => .bad)
    | _ => .bad) := rfl
  rw [e, hc]
  simp only [he, Out.bind_ok, hc, callD, hf]
/-- each turn may take from the draw: some of the items stay -/
theorem comp_draw {α : Type} {elt c : QE} {t : QP} {it : QI} {s s1 : Sg} {l : List α} (e : α → D) (f : α → D) (P : Sg → Prop) (hi : evi it s = .ok (l.map e) s1) (h0 : P (s1.wipe t.slots)) (h : ∀ a ∈ l, ∀ s, P s → ∃ (b : Bool) (s' : Sg), turn elt t (.cons c .nil) (e a) s = .ok (if b then [f a] else []) s' ∧ P s') :
    ∃ (l' : List α) (s' : Sg), l'.Sublist l ∧ P s' ∧ ev (.comp elt t it (.cons c .nil)) s = .ok (.list (l'.map f)) (s'.back s1 t.slots) := by
  have hc : ∀ (l : List α) (s : Sg), P s → (∀ a ∈ l, ∀ s, P s → ∃ (b : Bool) (s' : Sg), turn elt t (.cons c .nil) (e a) s = .ok (if b = true then [f a] else []) s' ∧ P s') → ∃ (l' : List α) (s' : Sg), l'.Sublist l ∧ P s' ∧ compL (turn elt t (.cons c .nil)) (l.map e) s = .ok (l'.map f) s' := fun l => by
    induction l with
    | nil => exact fun s hs _ => ⟨[], s, List.Sublist.refl _, hs, rfl⟩
    | cons a l ih =>
      intro s hs h
      obtain ⟨b, s', h1, h2⟩ := h a List.mem_cons_self s hs
      obtain ⟨l', s2, g1, g2, g3⟩ := ih s' h2 fun x hx => h x (List.mem_cons_of_mem _ hx)
      have e1 : compL (turn elt t (.cons c .nil)) ((a :: l).map e) s = ((turn elt t (.cons c .nil) (e a) s).bind fun ys s => (compL (turn elt t (.cons c .nil)) (l.map e) s).bind fun zs s => .ok (ys ++ zs) s) := rfl
      cases b with
      | true => exact ⟨a :: l', s2, g1.cons₂ _, g2, by rw [e1, h1, Out.bind_ok, g3, Out.bind_ok]; rfl⟩
      | false => exact ⟨l', s2, g1.cons _, g2, by rw [e1, h1, Out.bind_ok, g3, Out.bind_ok]; rfl⟩
  obtain ⟨l', s', g1, g2, g3⟩ := hc l (s1.wipe t.slots) h0 h
  refine ⟨l', s', g1, g2, ?_⟩
  rw [ev_comp, hi, Out.bind_ok, g3]
  rfl
inductive All2 {α β : Type} (R : α → β → Prop) : List α → List β → Prop
  | nil : All2 R [] []
  | cons {a : α} {b : β} {l : List α} {r : List β} : R a b → All2 R l r → All2 R (a :: l) (b :: r)
/-- .. each turn's item is made with the draw's help -/
theorem comp_drawM {α : Type} {elt : QE} {t : QP} {it : QI} {s s1 : Sg} {l : List α} (e : α → D) (P : Sg → Prop) (Q : α → D → Prop) (hi : evi it s = .ok (l.map e) s1) (h0 : P (s1.wipe t.slots)) (h : ∀ a ∈ l, ∀ s, P s → ∃ (d : D) (s' : Sg), turn elt t .nil (e a) s = .ok [d] s' ∧ P s' ∧ Q a d) :
    ∃ (ds : List D) (s' : Sg), P s' ∧ ev (.comp elt t it .nil) s = .ok (.list ds) (s'.back s1 t.slots) ∧ All2 Q l ds := by
  have hc : ∀ (l : List α) (s : Sg), P s → (∀ a ∈ l, ∀ s, P s → ∃ (d : D) (s' : Sg), turn elt t .nil (e a) s = .ok [d] s' ∧ P s' ∧ Q a d) → ∃ (ds : List D) (s' : Sg), P s' ∧ compL (turn elt t .nil) (l.map e) s = .ok ds s' ∧ All2 Q l ds := fun l => by
    induction l with
    | nil => exact fun s hs _ => ⟨[], s, hs, rfl, .nil⟩
    | cons a l ih =>
      intro s hs h
      obtain ⟨d, s', h1, h2, h3⟩ := h a List.mem_cons_self s hs
      obtain ⟨ds, s2, g2, g3, g4⟩ := ih s' h2 fun x hx => h x (List.mem_cons_of_mem _ hx)
      have e1 : compL (turn elt t .nil) ((a :: l).map e) s = ((turn elt t .nil (e a) s).bind fun ys s => (compL (turn elt t .nil) (l.map e) s).bind fun zs s => .ok (ys ++ zs) s) := rfl
      exact ⟨d :: ds, s2, g2, by rw [e1, h1, Out.bind_ok, g3, Out.bind_ok]; rfl, .cons h3 g4⟩
  obtain ⟨ds, s', g2, g3, g4⟩ := hc l (s1.wipe t.slots) h0 h
  refine ⟨ds, s', g2, ?_, g4⟩
  rw [ev_comp, hi, Out.bind_ok, g3]
  rfl
/-! cuts, sums of rows -/
theorem cutL_take (xs : List D) (n : Nat) : cutL xs none (some (n : Int)) = xs.take n := by
  unfold cutL
  have e : HT.sIx xs.length xs.length (some (n : Int)) = min n xs.length := HT.sIx_nat _ _ n
  have e0 : HT.sIx xs.length 0 none = 0 := rfl
  rw [e, e0, List.drop_zero, Nat.sub_zero]
  by_cases h : n ≤ xs.length
  · rw [Nat.min_eq_left h]
  · rw [Nat.min_eq_right (by omega), List.take_of_length_le (by omega), List.take_of_length_le (by omega)]
theorem cutL_drop (xs : List D) (n : Nat) : cutL xs (some (n : Int)) none = xs.drop n := by
  unfold cutL
  have e : HT.sIx xs.length 0 (some (n : Int)) = min n xs.length := HT.sIx_nat _ _ n
  have e0 : HT.sIx xs.length xs.length none = xs.length := rfl
  rw [e, e0]
  by_cases h : n ≤ xs.length
  · rw [Nat.min_eq_left h, List.take_of_length_le (by rw [List.length_drop]; omega)]
  · rw [Nat.min_eq_right (by omega), List.drop_of_length_le (Nat.le_refl _), List.drop_of_length_le (by omega)]; simp
theorem cut_take_t (xs : List D) (n : Nat) : cutD (.tuple xs) none (some (n : Int)) = some (.tuple (xs.take n)) := by
  show some (PyData.tuple (cutL xs none (some (n : Int)))) = _
  rw [cutL_take]
theorem cut_take_l (xs : List D) (n : Nat) : cutD (.list xs) none (some (n : Int)) = some (.list (xs.take n)) := by
  show some (PyData.list (cutL xs none (some (n : Int)))) = _
  rw [cutL_take]
theorem cut_drop_t (xs : List D) (n : Nat) : cutD (.tuple xs) (some (n : Int)) none = some (.tuple (xs.drop n)) := by
  show some (PyData.tuple (cutL xs (some (n : Int)) none)) = _
  rw [cutL_drop]
theorem cut_drop_l (xs : List D) (n : Nat) : cutD (.list xs) (some (n : Int)) none = some (.list (xs.drop n)) := by
  show some (PyData.list (cutL xs (some (n : Int)) none)) = _
  rw [cutL_drop]
theorem cutL_mem {xs : List D} {lo hi : Option Int} {x : D} (h : x ∈ cutL xs lo hi) : x ∈ xs := List.mem_of_mem_drop (List.mem_of_mem_take h)
theorem flat_one (d : D) : ∀ n : Nat, (List.replicate n [d]).flatten = List.replicate n d
  | 0 => rfl
  | n + 1 => by rw [List.replicate_succ, List.flatten_cons, flat_one d n]; rfl
/-- (x,) * n -/
theorem rep1 (d : D) {n : Nat} (h : n ≤ 1000) : bin2 .mul (.tuple [d]) (.int (n : Nat)) = some (.tuple (List.replicate n d)) := by
  have e : bin2 .mul (.tuple [d]) (.int (n : Nat)) = (repL [d] (n : Int)).map .tuple := by rw [bin2]
  rw [e]
  unfold repL
  have h1 : (decide (-1000 ≤ (n : Int)) && (decide ((n : Int) ≤ 1000) && decide ([d].length ≤ 1000))) = true := by
    simp; omega
  rw [if_pos h1, Int.toNat_natCast, Option.map_some]
  rw [flat_one]
theorem rep1m (d : D) {n : Nat} (h0 : 1 ≤ n) (h : n ≤ 1000) : bin2 .mul (.tuple [d]) (.int ((n : Int) - 1)) = some (.tuple (List.replicate (n - 1) d)) := by
  have := rep1 d (n := n - 1) (by omega)
  rw [show ((n - 1 : Nat) : Int) = (n : Int) - 1 by omega] at this
  exact this
end L2.BH
set_option maxHeartbeats 0
namespace L2.BH
open PySem PySem.Spec PyProof.Rows L2
def top (i : Nat) : Stmt := PySem.Challenge.pw_bulgesheld_k07_rows_that_bulge_with_pape.main.body.getD i (.Pass ⟨0, 0, 0, 0⟩)
def fn : List He.DefD := [
  ⟨("is_integer", none), "is_integer", "is_integer", defArgs (top 5), defBody (top 5), defScope (top 5), [], []⟩,
  ⟨("common", none), "common", "common", defArgs (top 8), defBody (top 8), defScope (top 8), [], []⟩,
  ⟨("lowest", none), "lowest", "lowest", defArgs (top 9), defBody (top 9), defScope (top 9), [], []⟩,
  ⟨("minus", none), "minus", "minus", defArgs (top 10), defBody (top 10), defScope (top 10), [], []⟩,
  ⟨("times", none), "times", "times", defArgs (top 11), defBody (top 11), defScope (top 11), [], []⟩,
  ⟨("divided", none), "divided", "divided", defArgs (top 12), defBody (top 12), defScope (top 12), [], []⟩,
  ⟨("less", none), "less", "less", defArgs (top 13), defBody (top 13), defScope (top 13), [], []⟩,
  ⟨("is_ratio", none), "is_ratio", "is_ratio", defArgs (top 14), defBody (top 14), defScope (top 14), [], []⟩,
  ⟨("are_ratios", none), "are_ratios", "are_ratios", defArgs (top 15), defBody (top 15), defScope (top 15), [], []⟩,
  ⟨("is_number_row", none), "is_number_row", "is_number_row", defArgs (top 18), defBody (top 18), defScope (top 18), [], []⟩,
  ⟨("check_number_row", none), "check_number_row", "check_number_row", defArgs (top 19), defBody (top 19), defScope (top 19), [], []⟩,
  ⟨("choices", none), "choices", "choices", defArgs (top 20), defBody (top 20), defScope (top 20), [], []⟩,
  ⟨("binomials", none), "binomials", "binomials", defArgs (top 21), defBody (top 21), defScope (top 21), [], []⟩,
  ⟨("levelled", none), "levelled", "levelled", defArgs (top 22), defBody (top 22), defScope (top 22), [], []⟩,
  ⟨("margins_of", none), "margins_of", "margins_of", defArgs (top 23), defBody (top 23), defScope (top 23), [], []⟩,
  ⟨("row_breaks", none), "row_breaks", "row_breaks", defArgs (top 24), defBody (top 24), defScope (top 24), [], []⟩,
  ⟨("row_gaps", none), "row_gaps", "row_gaps", defArgs (top 25), defBody (top 25), defScope (top 25), [], []⟩,
  ⟨("row_bulges", none), "row_bulges", "row_bulges", defArgs (top 26), defBody (top 26), defScope (top 26), [], []⟩,
  ⟨("check_row_question", none), "check_row_question", "check_row_question", defArgs (top 27), defBody (top 27), defScope (top 27), [], []⟩,
  ⟨("decide_row", none), "decide_row", "decide_row", defArgs (top 28), defBody (top 28), defScope (top 28), [], []⟩,
  ⟨("judge_row", none), "judge_row", "judge_row", defArgs (top 29), defBody (top 29), defScope (top 29), [], []⟩,
  ⟨("_law_draw", none), "_law_draw", "_law_draw", defArgs (top 31), defBody (top 31), defScope (top 31), [], []⟩,
  ⟨("_law_take", none), "_law_take", "_law_take", defArgs (top 32), defBody (top 32), defScope (top 32), [], []⟩,
  ⟨("_law_low", none), "_law_low", "_law_low", defArgs (top 33), defBody (top 33), defScope (top 33), [], []⟩,
  ⟨("_law_plus", none), "_law_plus", "_law_plus", defArgs (top 34), defBody (top 34), defScope (top 34), [], []⟩,
  ⟨("_law_minus", none), "_law_minus", "_law_minus", defArgs (top 35), defBody (top 35), defScope (top 35), [], []⟩,
  ⟨("_law_times", none), "_law_times", "_law_times", defArgs (top 36), defBody (top 36), defScope (top 36), [], []⟩,
  ⟨("_law_one", none), "_law_one", "_law_one", defArgs (top 37), defBody (top 37), defScope (top 37), [], []⟩,
  ⟨("_law_rowed", none), "_law_rowed", "_law_rowed", defArgs (top 38), defBody (top 38), defScope (top 38), [], []⟩,
  ⟨("_law_choices", none), "_law_choices", "_law_choices", defArgs (top 39), defBody (top 39), defScope (top 39), [], []⟩,
  ⟨("_law_margins", none), "_law_margins", "_law_margins", defArgs (top 40), defBody (top 40), defScope (top 40), [], []⟩,
  ⟨("_law_gaps", none), "_law_gaps", "_law_gaps", defArgs (top 41), defBody (top 41), defScope (top 41), [], []⟩,
  ⟨("_law_row_bulges", none), "_law_row_bulges", "_law_row_bulges", defArgs (top 42), defBody (top 42), defScope (top 42), [], []⟩,
  ⟨("_law_refused", none), "_law_refused", "_law_refused", defArgs (top 43), defBody (top 43), defScope (top 43), [], []⟩,
  ⟨("_law_taken", none), "_law_taken", "_law_taken", defArgs (top 44), defBody (top 44), defScope (top 44), [], []⟩,
  ⟨("_law_right", none), "_law_right", "_law_right", defArgs (top 45), defBody (top 45), defScope (top 45), [], []⟩,
  ⟨("law", none), "law", "law", defArgs (top 46), defBody (top 46), defScope (top 46), [], []⟩]
def fa : List He.Fa := [.glo "is_integer", .glo "common", .glo "lowest", .glo "minus", .glo "times", .glo "divided", .glo "less", .glo "is_ratio", .glo "are_ratios", .glo "is_number_row", .glo "check_number_row", .glo "choices", .glo "binomials", .glo "levelled", .glo "margins_of", .glo "row_breaks", .glo "row_gaps", .glo "row_bulges", .glo "check_row_question", .glo "decide_row", .glo "judge_row", .glo "_law_draw", .glo "_law_take", .glo "_law_low", .glo "_law_plus", .glo "_law_minus", .glo "_law_times", .glo "_law_one", .glo "_law_rowed", .glo "_law_choices", .glo "_law_margins", .glo "_law_gaps", .glo "_law_row_bulges", .glo "_law_refused", .glo "_law_taken", .glo "_law_right", .glo "law", .glo "BulgeError", .glo "NotAllowed", .glo "BadPaper", .glo "ZERO", .free "abs", .free "all", .free "any", .free "bool", .free "enumerate", .free "int", .free "isinstance", .free "len", .free "list", .free "range", .free "str", .free "tuple", .free "zip", .exc "NotAllowed", .exm "NotAllowed" "NotAllowed" true, .exm "NotAllowed" "BadPaper" false, .exc "BadPaper", .exm "BadPaper" "NotAllowed" false, .exm "BadPaper" "BadPaper" true, .int "MAX_ROW" 13]
def tp : List (Str × List Int) := [("ZERO", [0, 1])]
structure Ek (K : PySem.W.Frag) (mg : Str → Option Value) (base : Heap) : Prop where
  c : He.SaysD fa fn K
  KX : K.In base
  G : base.Ns mainGlobals mg
  t : SaysX fa fn tp K
end L2.BH
namespace L2.BH
open PySem
noncomputable def q_is_integer : QSs := .cons (.ite (.or (.not (.isi (.var 0) .int)) (.isi (.var 0) .bool)) (.cons (.ret (.lit (.bool false))) (.nil)) (.nil)) (.cons (.ret (.and (.or (.cmp .is (.var 1) (.lit .none)) (.cmp .ge (.var 0) (.var 1))) (.or (.cmp .is (.var 2) (.lit .none)) (.cmp .le (.var 0) (.var 2))))) (.nil))
noncomputable def f_is_integer : FEnt := entP "is_integer" 3 3 q_is_integer
noncomputable def q_common : QSs := .cons (.par 0 1 (.bi .abs (.cons (.var 0) (.nil))) (.bi .abs (.cons (.var 1) (.nil)))) (.cons (.whl (.var 1) (.cons (.par 0 1 (.var 1) (.bin .mod (.var 0) (.var 1))) (.nil))) (.cons (.ret (.var 0)) (.nil)))
noncomputable def f_common : FEnt := entP "common" 2 2 q_common
noncomputable def q_lowest : QSs := .cons (.set 2 (.call f_common (.cons (.var 0) (.cons (.var 1) (.nil))))) (.cons (.set 3 (.ifx (.cmp .gt (.var 1) (.lit (.int 0))) (.lit (.int 1)) (.neg (.lit (.int 1))))) (.cons (.ret (.tup (.cons (.bin .fdiv (.bin .mul (.var 3) (.var 0)) (.var 2)) (.cons (.bin .fdiv (.bin .mul (.var 3) (.var 1)) (.var 2)) (.nil))))) (.nil)))
noncomputable def f_lowest : FEnt := entP "lowest" 2 4 q_lowest
noncomputable def q_minus : QSs := .cons (.ret (.call f_lowest (.cons (.bin .sub (.bin .mul (.ix (.var 0) (.lit (.int 0))) (.ix (.var 1) (.lit (.int 1)))) (.bin .mul (.ix (.var 1) (.lit (.int 0))) (.ix (.var 0) (.lit (.int 1))))) (.cons (.bin .mul (.ix (.var 0) (.lit (.int 1))) (.ix (.var 1) (.lit (.int 1)))) (.nil))))) (.nil)
noncomputable def f_minus : FEnt := entP "minus" 2 2 q_minus
noncomputable def q_times : QSs := .cons (.ret (.call f_lowest (.cons (.bin .mul (.ix (.var 0) (.lit (.int 0))) (.ix (.var 1) (.lit (.int 0)))) (.cons (.bin .mul (.ix (.var 0) (.lit (.int 1))) (.ix (.var 1) (.lit (.int 1)))) (.nil))))) (.nil)
noncomputable def f_times : FEnt := entP "times" 2 2 q_times
noncomputable def q_divided : QSs := .cons (.ret (.call f_lowest (.cons (.bin .mul (.ix (.var 0) (.lit (.int 0))) (.ix (.var 1) (.lit (.int 1)))) (.cons (.bin .mul (.ix (.var 0) (.lit (.int 1))) (.ix (.var 1) (.lit (.int 0)))) (.nil))))) (.nil)
noncomputable def f_divided : FEnt := entP "divided" 2 2 q_divided
noncomputable def q_less : QSs := .cons (.ret (.cmp .lt (.bin .mul (.ix (.var 0) (.lit (.int 0))) (.ix (.var 1) (.lit (.int 1)))) (.bin .mul (.ix (.var 1) (.lit (.int 0))) (.ix (.var 0) (.lit (.int 1)))))) (.nil)
noncomputable def f_less : FEnt := entP "less" 2 2 q_less
noncomputable def q_is_ratio : QSs := .cons (.ite (.or (.not (.isi (.var 0) .tuple)) (.cmp .ne (.bi .len (.cons (.var 0) (.nil))) (.lit (.int 2)))) (.cons (.ret (.lit (.bool false))) (.nil)) (.nil)) (.cons (.ite (.not (.bi .all (.cons (.comp (.and (.isi (.var 1) .int) (.not (.isi (.var 1) .bool))) (.nm 1) (.e (.var 0)) (.nil)) (.nil)))) (.cons (.ret (.lit (.bool false))) (.nil)) (.nil)) (.cons (.ret (.and (.cmp .ge (.ix (.var 0) (.lit (.int 1))) (.lit (.int 1))) (.cmp .eq (.call f_common (.cons (.ix (.var 0) (.lit (.int 0))) (.cons (.ix (.var 0) (.lit (.int 1))) (.nil)))) (.lit (.int 1))))) (.nil)))
noncomputable def f_is_ratio : FEnt := entP "is_ratio" 1 2 q_is_ratio
noncomputable def q_are_ratios : QSs := .cons (.ret (.and (.isi (.var 0) .tuple) (.bi .all (.cons (.comp (.call f_is_ratio (.cons (.var 1) (.nil))) (.nm 1) (.e (.var 0)) (.nil)) (.nil))))) (.nil)
noncomputable def f_are_ratios : FEnt := entP "are_ratios" 1 2 q_are_ratios
noncomputable def q_is_number_row : QSs := .cons (.ite (.or (.not (.call f_are_ratios (.cons (.var 0) (.nil)))) (.or (.not (.chn .le .le (.lit (.int 1)) (.bi .len (.cons (.var 0) (.nil))) (.con "MAX_ROW" (.int 13)))) (.bi .any (.cons (.comp (.call f_less (.cons (.var 1) (.cons (.con "ZERO" (.tuple (([0, 1] : List Int).map .int))) (.nil)))) (.nm 1) (.e (.var 0)) (.nil)) (.nil))))) (.cons (.ret (.lit (.bool false))) (.nil)) (.nil)) (.cons (.ret (.bi .any (.cons (.comp (.cmp .ne (.var 1) (.con "ZERO" (.tuple (([0, 1] : List Int).map .int)))) (.nm 1) (.e (.var 0)) (.nil)) (.nil)))) (.nil))
noncomputable def f_is_number_row : FEnt := entP "is_number_row" 1 2 q_is_number_row
noncomputable def q_check_number_row : QSs := .cons (.ite (.not (.call f_is_number_row (.cons (.var 0) (.nil)))) (.cons (.rse "NotAllowed") (.nil)) (.nil)) (.nil)
noncomputable def f_check_number_row : FEnt := entP "check_number_row" 1 1 q_check_number_row
noncomputable def q_choices : QSs := .cons (.set 2 (.lit (.int 1))) (.cons (.fr (.nm 3) (.rng (.var 1)) (.cons (.set 2 (.bin .fdiv (.bin .mul (.var 2) (.bin .sub (.var 0) (.var 3))) (.bin .add (.var 3) (.lit (.int 1))))) (.nil))) (.cons (.ret (.var 2)) (.nil)))
noncomputable def f_choices : FEnt := entP "choices" 2 4 q_choices
noncomputable def q_binomials : QSs := .cons (.ret (.bi .tuple (.cons (.comp (.tup (.cons (.call f_choices (.cons (.var 0) (.cons (.var 1) (.nil)))) (.cons (.lit (.int 1)) (.nil)))) (.nm 1) (.rng (.bin .add (.var 0) (.lit (.int 1)))) (.nil)) (.nil)))) (.nil)
noncomputable def f_binomials : FEnt := entP "binomials" 1 2 q_binomials
noncomputable def q_levelled : QSs := .cons (.ret (.bi .tuple (.cons (.comp (.call f_divided (.cons (.var 2) (.cons (.tup (.cons (.call f_choices (.cons (.bin .sub (.bi .len (.cons (.var 0) (.nil))) (.lit (.int 1))) (.cons (.var 1) (.nil)))) (.cons (.lit (.int 1)) (.nil)))) (.nil)))) (.tp (.nm 1) (.nm 2)) (.enm (.var 0)) (.nil)) (.nil)))) (.nil)
noncomputable def f_levelled : FEnt := entP "levelled" 1 3 q_levelled
noncomputable def q_margins_of : QSs := .cons (.set 1 (.call f_levelled (.cons (.var 0) (.nil)))) (.cons (.ret (.bi .tuple (.cons (.comp (.call f_minus (.cons (.call f_times (.cons (.ix (.var 1) (.var 2)) (.cons (.ix (.var 1) (.var 2)) (.nil)))) (.cons (.call f_times (.cons (.ix (.var 1) (.bin .sub (.var 2) (.lit (.int 1)))) (.cons (.ix (.var 1) (.bin .add (.var 2) (.lit (.int 1)))) (.nil)))) (.nil)))) (.nm 2) (.rng2 (.lit (.int 1)) (.bin .sub (.bi .len (.cons (.var 0) (.nil))) (.lit (.int 1)))) (.nil)) (.nil)))) (.nil))
noncomputable def f_margins_of : FEnt := entP "margins_of" 1 3 q_margins_of
noncomputable def q_row_breaks : QSs := .cons (.ret (.bi .tuple (.cons (.comp (.bin .add (.var 1) (.lit (.int 1))) (.tp (.nm 1) (.nm 2)) (.enm (.call f_margins_of (.cons (.var 0) (.nil)))) (.cons (.call f_less (.cons (.var 2) (.cons (.con "ZERO" (.tuple (([0, 1] : List Int).map .int))) (.nil)))) .nil)) (.nil)))) (.nil)
noncomputable def f_row_breaks : FEnt := entP "row_breaks" 1 3 q_row_breaks
noncomputable def q_row_gaps : QSs := .cons (.set 1 (.comp (.var 2) (.tp (.nm 2) (.nm 3)) (.enm (.var 0)) (.cons (.cmp .ne (.var 3) (.con "ZERO" (.tuple (([0, 1] : List Int).map .int)))) .nil))) (.cons (.ret (.bi .tuple (.cons (.comp (.var 2) (.tp (.nm 2) (.nm 3)) (.enm (.var 0)) (.cons (.and (.cmp .eq (.var 3) (.con "ZERO" (.tuple (([0, 1] : List Int).map .int)))) (.and (.var 1) (.chn .lt .lt (.ix (.var 1) (.lit (.int 0))) (.var 2) (.ix (.var 1) (.neg (.lit (.int 1))))))) .nil)) (.nil)))) (.nil))
noncomputable def f_row_gaps : FEnt := entP "row_gaps" 1 4 q_row_gaps
noncomputable def q_row_bulges : QSs := .cons (.ret (.and (.cmp .eq (.call f_row_breaks (.cons (.var 0) (.nil))) (.tup (.nil))) (.cmp .eq (.call f_row_gaps (.cons (.var 0) (.nil))) (.tup (.nil))))) (.nil)
noncomputable def f_row_bulges : FEnt := entP "row_bulges" 1 1 q_row_bulges
noncomputable def q_check_row_question : QSs := .cons (.ite (.or (.cmp .ne (.bi .len (.cons (.var 0) (.nil))) (.lit (.int 2))) (.or (.not (.isi (.ix (.var 0) (.lit (.int 0))) .str)) (.cmp .ne (.ix (.var 0) (.lit (.int 0))) (.lit (.str "row"))))) (.cons (.rse "NotAllowed") (.nil)) (.nil)) (.cons (.xpr (.call f_check_number_row (.cons (.ix (.var 0) (.lit (.int 1))) (.nil)))) (.nil))
noncomputable def f_check_row_question : FEnt := entP "check_row_question" 1 1 q_check_row_question
noncomputable def q_decide_row : QSs := .cons (.set 1 (.ix (.var 0) (.lit (.int 1)))) (.cons (.ite (.call f_row_breaks (.cons (.var 1) (.nil))) (.cons (.ret (.tup (.cons (.lit (.str "no")) (.cons (.tup (.cons (.lit (.str "break")) (.cons (.ix (.call f_row_breaks (.cons (.var 1) (.nil))) (.lit (.int 0))) (.nil)))) (.nil))))) (.nil)) (.nil)) (.cons (.ite (.call f_row_gaps (.cons (.var 1) (.nil))) (.cons (.ret (.tup (.cons (.lit (.str "no")) (.cons (.tup (.cons (.lit (.str "gap")) (.cons (.ix (.call f_row_gaps (.cons (.var 1) (.nil))) (.lit (.int 0))) (.nil)))) (.nil))))) (.nil)) (.nil)) (.cons (.ret (.tup (.cons (.lit (.str "yes")) (.cons (.call f_margins_of (.cons (.var 1) (.nil))) (.nil))))) (.nil))))
noncomputable def f_decide_row : FEnt := entP "decide_row" 1 2 q_decide_row
noncomputable def q_judge_row : QSs := .cons (.ite (.or (.not (.isi (.var 1) .str)) (.or (.cmp .nin (.var 1) (.tup (.cons (.lit (.str "yes")) (.cons (.lit (.str "no")) (.nil))))) (.not (.isi (.var 2) .tuple)))) (.cons (.rse "BadPaper") (.nil)) (.nil)) (.cons (.set 3 (.ix (.var 0) (.lit (.int 1)))) (.cons (.ite (.cmp .eq (.var 1) (.lit (.str "yes"))) (.cons (.ite (.or (.cmp .ne (.var 2) (.call f_margins_of (.cons (.var 3) (.nil)))) (.or (.not (.call f_are_ratios (.cons (.var 2) (.nil)))) (.not (.call f_row_bulges (.cons (.var 3) (.nil)))))) (.cons (.rse "BadPaper") (.nil)) (.nil)) (.cons (.retN) (.nil))) (.nil)) (.cons (.ite (.or (.cmp .ne (.bi .len (.cons (.var 2) (.nil))) (.lit (.int 2))) (.or (.not (.isi (.ix (.var 2) (.lit (.int 0))) .str)) (.not (.call f_is_integer (.cons (.ix (.var 2) (.lit (.int 1))) (.cons (.lit (.int 0)) (.cons (.bin .sub (.bi .len (.cons (.var 3) (.nil))) (.lit (.int 1))) (.nil)))))))) (.cons (.rse "BadPaper") (.nil)) (.nil)) (.cons (.set 4 (.sdsp "break" (.call f_row_breaks (.cons (.var 3) (.nil))) "gap" (.call f_row_gaps (.cons (.var 3) (.nil))))) (.cons (.ite (.cmp .nin (.ix (.var 2) (.lit (.int 1))) (.sget (.var 4) (.ix (.var 2) (.lit (.int 0))) (.tup (.nil)))) (.cons (.rse "BadPaper") (.nil)) (.nil)) (.nil))))))
noncomputable def f_judge_row : FEnt := entP "judge_row" 3 5 q_judge_row
noncomputable def q__law_draw : QSs := .cons (.set 1 (.lit (.int 7))) (.cons (.fr (.nm 2) (.e (.var 0)) (.cons (.set 1 (.bin .mod (.bi .int (.cons (.bin .add (.bin .add (.bin .mul (.var 1) (.lit (.int 48271))) (.bin .mod (.bi .abs (.cons (.bi .int (.cons (.var 2) (.nil))) (.nil))) (.lit (.int 65521)))) (.lit (.int 1))) (.nil))) (.lit (.int 2147483647)))) (.nil))) (.cons (.retF (.lst (.cons (.comp (.bi .abs (.cons (.bi .int (.cons (.var 2) (.nil))) (.nil))) (.nm 2) (.e (.var 0)) (.nil)) (.cons (.neg (.lit (.int 1))) (.cons (.lit (.int 0)) (.cons (.var 1) (.nil))))))) (.nil)))
noncomputable def f__law_draw : FEnt := entP "_law_draw" 1 3 q__law_draw
noncomputable def q__law_take : QSs := .cons (.ite (.cmp .eq (.oix 0 (.lit (.int 2))) (.lit (.int 0))) (.cons (.put 0 (.lit (.int 1)) (.bin .add (.oix 0 (.lit (.int 1))) (.lit (.int 1)))) (.cons (.ite (.cmp .lt (.oix 0 (.lit (.int 1))) (.bi .len (.cons (.oix 0 (.lit (.int 0))) (.nil)))) (.cons (.put 0 (.lit (.int 2)) (.ix (.oix 0 (.lit (.int 0))) (.oix 0 (.lit (.int 1))))) (.nil)) (.nil)) (.cons (.ite (.cmp .eq (.oix 0 (.lit (.int 2))) (.lit (.int 0))) (.cons (.put 0 (.lit (.int 3)) (.bin .mod (.bi .int (.cons (.bin .add (.bin .mul (.oix 0 (.lit (.int 3))) (.lit (.int 48271))) (.lit (.int 11))) (.nil))) (.lit (.int 2147483647)))) (.cons (.put 0 (.lit (.int 2)) (.oix 0 (.lit (.int 3)))) (.nil))) (.nil)) (.nil)))) (.nil)) (.cons (.set 2 (.bin .mod (.bi .int (.cons (.oix 0 (.lit (.int 2))) (.nil))) (.var 1))) (.cons (.put 0 (.lit (.int 2)) (.bin .fdiv (.oix 0 (.lit (.int 2))) (.var 1))) (.cons (.ret (.var 2)) (.nil))))
noncomputable def f__law_take : FEnt := entD "_law_take" 1 3 q__law_take
noncomputable def q__law_low : QSs := .cons (.par 2 3 (.bi .abs (.cons (.var 0) (.nil))) (.bi .abs (.cons (.var 1) (.nil)))) (.cons (.whl (.cmp .gt (.var 3) (.lit (.int 0))) (.cons (.par 2 3 (.var 3) (.bin .mod (.var 2) (.var 3))) (.nil))) (.cons (.ret (.ifx (.cmp .gt (.var 1) (.lit (.int 0))) (.tup (.cons (.bin .fdiv (.var 0) (.var 2)) (.cons (.bin .fdiv (.var 1) (.var 2)) (.nil)))) (.tup (.cons (.bin .fdiv (.neg (.var 0)) (.var 2)) (.cons (.bin .fdiv (.neg (.var 1)) (.var 2)) (.nil)))))) (.nil)))
noncomputable def f__law_low : FEnt := entP "_law_low" 2 4 q__law_low
noncomputable def q__law_plus : QSs := .cons (.ret (.call f__law_low (.cons (.bin .add (.bin .mul (.ix (.var 0) (.lit (.int 0))) (.ix (.var 1) (.lit (.int 1)))) (.bin .mul (.ix (.var 1) (.lit (.int 0))) (.ix (.var 0) (.lit (.int 1))))) (.cons (.bin .mul (.ix (.var 0) (.lit (.int 1))) (.ix (.var 1) (.lit (.int 1)))) (.nil))))) (.nil)
noncomputable def f__law_plus : FEnt := entP "_law_plus" 2 2 q__law_plus
noncomputable def q__law_minus : QSs := .cons (.ret (.call f__law_low (.cons (.bin .sub (.bin .mul (.ix (.var 0) (.lit (.int 0))) (.ix (.var 1) (.lit (.int 1)))) (.bin .mul (.ix (.var 1) (.lit (.int 0))) (.ix (.var 0) (.lit (.int 1))))) (.cons (.bin .mul (.ix (.var 0) (.lit (.int 1))) (.ix (.var 1) (.lit (.int 1)))) (.nil))))) (.nil)
noncomputable def f__law_minus : FEnt := entP "_law_minus" 2 2 q__law_minus
noncomputable def q__law_times : QSs := .cons (.ret (.call f__law_low (.cons (.bin .mul (.ix (.var 0) (.lit (.int 0))) (.ix (.var 1) (.lit (.int 0)))) (.cons (.bin .mul (.ix (.var 0) (.lit (.int 1))) (.ix (.var 1) (.lit (.int 1)))) (.nil))))) (.nil)
noncomputable def f__law_times : FEnt := entP "_law_times" 2 2 q__law_times
noncomputable def q__law_one : QSs := .cons (.ret (.ix (.var 1) (.calld f__law_take 0 (.cons (.bi .len (.cons (.var 1) (.nil))) (.nil))))) (.nil)
noncomputable def f__law_one : FEnt := entD "_law_one" 1 2 q__law_one
noncomputable def q__law_rowed : QSs := .cons (.par 2 3 (.calld f__law_take 0 (.cons (.lit (.int 4)) (.nil))) (.bin .add (.lit (.int 1)) (.calld f__law_take 0 (.cons (.var 1) (.nil))))) (.cons (.ite (.cmp .eq (.var 2) (.lit (.int 3))) (.cons (.own 4 (.comp (.calld f__law_one 0 (.cons (.lst (.cons (.tup (.cons (.lit (.int 0)) (.cons (.lit (.int 1)) (.nil)))) (.cons (.tup (.cons (.lit (.int 1)) (.cons (.lit (.int 1)) (.nil)))) (.cons (.tup (.cons (.lit (.int 2)) (.cons (.lit (.int 1)) (.nil)))) (.cons (.tup (.cons (.lit (.int 1)) (.cons (.lit (.int 2)) (.nil)))) (.cons (.tup (.cons (.lit (.int 5)) (.cons (.lit (.int 1)) (.nil)))) (.nil))))))) (.nil))) (.nm 5) (.rng (.var 3)) (.nil))) (.cons (.ret (.ifx (.cmp .ne (.comp (.var 9) (.nm 9) (.e (.var 4)) (.cons (.cmp .ne (.ix (.var 9) (.lit (.int 0))) (.lit (.int 0))) .nil)) (.lst (.nil))) (.bi .tuple (.cons (.var 4) (.nil))) (.tup (.cons (.tup (.cons (.lit (.int 1)) (.cons (.lit (.int 1)) (.nil)))) (.nil))))) (.nil))) (.nil)) (.cons (.own 4 (.lst (.cons (.tup (.cons (.lit (.int 1)) (.cons (.lit (.int 1)) (.nil)))) (.nil)))) (.cons (.fr (.nm 5) (.rng (.bin .sub (.var 3) (.lit (.int 1)))) (.cons (.set 6 (.calld f__law_one 0 (.cons (.lst (.cons (.tup (.cons (.lit (.int 0)) (.cons (.lit (.int 1)) (.nil)))) (.cons (.tup (.cons (.lit (.int 1)) (.cons (.lit (.int 1)) (.nil)))) (.cons (.tup (.cons (.lit (.int 1)) (.cons (.lit (.int 2)) (.nil)))) (.cons (.tup (.cons (.lit (.int 3)) (.cons (.lit (.int 1)) (.nil)))) (.nil)))))) (.nil)))) (.cons (.own 4 (.comp (.call f__law_plus (.cons (.call f__law_times (.cons (.var 7) (.cons (.var 6) (.nil)))) (.cons (.var 8) (.nil)))) (.tp (.nm 7) (.nm 8)) (.zip (.bin .add (.var 4) (.lst (.cons (.tup (.cons (.lit (.int 0)) (.cons (.lit (.int 1)) (.nil)))) (.nil)))) (.bin .add (.lst (.cons (.tup (.cons (.lit (.int 0)) (.cons (.lit (.int 1)) (.nil)))) (.nil))) (.var 4))) (.nil))) (.nil)))) (.cons (.ite (.cmp .eq (.var 2) (.lit (.int 2))) (.cons (.set 5 (.calld f__law_take 0 (.cons (.olen 4) (.nil)))) (.cons (.put 4 (.var 5) (.call f__law_times (.cons (.oix 4 (.var 5)) (.cons (.calld f__law_one 0 (.cons (.lst (.cons (.tup (.cons (.lit (.int 0)) (.cons (.lit (.int 1)) (.nil)))) (.cons (.tup (.cons (.lit (.int 2)) (.cons (.lit (.int 1)) (.nil)))) (.cons (.tup (.cons (.lit (.int 1)) (.cons (.lit (.int 2)) (.nil)))) (.cons (.tup (.cons (.lit (.int 9)) (.cons (.lit (.int 8)) (.nil)))) (.cons (.tup (.cons (.lit (.int 8)) (.cons (.lit (.int 9)) (.nil)))) (.nil))))))) (.nil))) (.nil))))) (.nil))) (.nil)) (.cons (.ret (.ifx (.cmp .ne (.comp (.var 9) (.nm 9) (.e (.var 4)) (.cons (.cmp .ne (.ix (.var 9) (.lit (.int 0))) (.lit (.int 0))) .nil)) (.lst (.nil))) (.bi .tuple (.cons (.var 4) (.nil))) (.tup (.cons (.tup (.cons (.lit (.int 1)) (.cons (.lit (.int 1)) (.nil)))) (.nil))))) (.nil))))))
noncomputable def f__law_rowed : FEnt := entD "_law_rowed" 1 10 q__law_rowed
noncomputable def q__law_choices : QSs := .cons (.set 2 (.lit (.int 1))) (.cons (.fr (.nm 3) (.rng (.var 1)) (.cons (.set 2 (.bin .fdiv (.bin .mul (.var 2) (.bin .sub (.var 0) (.var 3))) (.bin .add (.var 3) (.lit (.int 1))))) (.nil))) (.cons (.ret (.var 2)) (.nil)))
noncomputable def f__law_choices : FEnt := entP "_law_choices" 2 4 q__law_choices
noncomputable def q__law_margins : QSs := .cons (.set 1 (.comp (.call f__law_low (.cons (.ix (.ix (.var 0) (.var 2)) (.lit (.int 0))) (.cons (.bin .mul (.ix (.ix (.var 0) (.var 2)) (.lit (.int 1))) (.call f__law_choices (.cons (.bin .sub (.bi .len (.cons (.var 0) (.nil))) (.lit (.int 1))) (.cons (.var 2) (.nil))))) (.nil)))) (.nm 2) (.rng (.bi .len (.cons (.var 0) (.nil)))) (.nil))) (.cons (.ret (.comp (.call f__law_minus (.cons (.call f__law_times (.cons (.ix (.var 1) (.var 2)) (.cons (.ix (.var 1) (.var 2)) (.nil)))) (.cons (.call f__law_times (.cons (.ix (.var 1) (.bin .sub (.var 2) (.lit (.int 1)))) (.cons (.ix (.var 1) (.bin .add (.var 2) (.lit (.int 1)))) (.nil)))) (.nil)))) (.nm 2) (.rng2 (.lit (.int 1)) (.bin .sub (.bi .len (.cons (.var 0) (.nil))) (.lit (.int 1)))) (.nil))) (.nil))
noncomputable def f__law_margins : FEnt := entP "_law_margins" 1 3 q__law_margins
noncomputable def q__law_gaps : QSs := .cons (.set 1 (.comp (.var 2) (.nm 2) (.rng (.bi .len (.cons (.var 0) (.nil)))) (.cons (.cmp .ne (.ix (.ix (.var 0) (.var 2)) (.lit (.int 0))) (.lit (.int 0))) .nil))) (.cons (.ret (.ifx (.cmp .ne (.var 1) (.lst (.nil))) (.comp (.var 2) (.nm 2) (.rng2 (.ix (.var 1) (.lit (.int 0))) (.ix (.var 1) (.neg (.lit (.int 1))))) (.cons (.cmp .eq (.ix (.ix (.var 0) (.var 2)) (.lit (.int 0))) (.lit (.int 0))) .nil)) (.lst (.nil)))) (.nil))
noncomputable def f__law_gaps : FEnt := entP "_law_gaps" 1 3 q__law_gaps
noncomputable def q__law_row_bulges : QSs := .cons (.ret (.and (.cmp .eq (.comp (.var 1) (.nm 1) (.e (.call f__law_margins (.cons (.var 0) (.nil)))) (.cons (.cmp .lt (.ix (.var 1) (.lit (.int 0))) (.lit (.int 0))) .nil)) (.lst (.nil))) (.cmp .eq (.call f__law_gaps (.cons (.var 0) (.nil))) (.lst (.nil))))) (.nil)
noncomputable def f__law_row_bulges : FEnt := entP "_law_row_bulges" 1 2 q__law_row_bulges
noncomputable def q__law_refused : QSs := .cons (.tri (.cons (.ret (.ifx (.cmp .is (.ifx (.cmp .eq (.var 0) (.lit (.int 0))) (.call f_check_number_row (.cons (.var 1) (.nil))) (.call f_check_row_question (.cons (.var 1) (.nil)))) (.lit .none)) (.lit (.bool false)) (.lit (.str "odd")))) (.nil)) "NotAllowed" ["NotAllowed", "BadPaper"] (.lit (.bool true))) (.nil)
noncomputable def f__law_refused : FEnt := entP "_law_refused" 2 2 q__law_refused
noncomputable def q__law_taken : QSs := .cons (.tri (.cons (.ret (.ifx (.cmp .is (.call f_judge_row (.cons (.var 0) (.cons (.var 1) (.cons (.var 2) (.nil))))) (.lit .none)) (.lit (.bool true)) (.lit (.str "odd")))) (.nil)) "BadPaper" ["NotAllowed", "BadPaper"] (.lit (.bool false))) (.nil)
noncomputable def f__law_taken : FEnt := entP "_law_taken" 3 3 q__law_taken
noncomputable def q__law_right : QSs := .cons (.ite (.not (.isi (.var 2) .tuple)) (.cons (.ret (.lit (.bool false))) (.nil)) (.nil)) (.cons (.ite (.cmp .eq (.var 1) (.lit (.str "yes"))) (.cons (.ret (.and (.call f__law_row_bulges (.cons (.var 0) (.nil))) (.and (.cmp .eq (.var 2) (.bi .tuple (.cons (.call f__law_margins (.cons (.var 0) (.nil))) (.nil)))) (.cmp .eq (.strf (.var 2)) (.strf (.bi .tuple (.cons (.call f__law_margins (.cons (.var 0) (.nil))) (.nil)))))))) (.nil)) (.nil)) (.cons (.ite (.or (.cmp .ne (.bi .len (.cons (.var 2) (.nil))) (.lit (.int 2))) (.or (.isi (.ix (.var 2) (.lit (.int 1))) .bool) (.not (.isi (.ix (.var 2) (.lit (.int 1))) .int)))) (.cons (.ret (.lit (.bool false))) (.nil)) (.nil)) (.cons (.ite (.cmp .eq (.ix (.var 2) (.lit (.int 0))) (.lit (.str "gap"))) (.cons (.ret (.cmp .inn (.ix (.var 2) (.lit (.int 1))) (.call f__law_gaps (.cons (.var 0) (.nil))))) (.nil)) (.nil)) (.cons (.ret (.and (.cmp .eq (.ix (.var 2) (.lit (.int 0))) (.lit (.str "break"))) (.and (.chn .lt .lt (.lit (.int 0)) (.ix (.var 2) (.lit (.int 1))) (.bin .sub (.bi .len (.cons (.var 0) (.nil))) (.lit (.int 1)))) (.cmp .lt (.ix (.ix (.call f__law_margins (.cons (.var 0) (.nil))) (.bin .sub (.ix (.var 2) (.lit (.int 1))) (.lit (.int 1)))) (.lit (.int 0))) (.lit (.int 0)))))) (.nil)))))
noncomputable def f__law_right : FEnt := entP "_law_right" 3 3 q__law_right
noncomputable def q_law : QSs := .cons (.own 1 (.call f__law_draw (.cons (.var 0) (.nil)))) (.cons (.fr (.nm 2) (.rng (.lit (.int 5))) (.cons (.set 3 (.calld f__law_rowed 1 (.cons (.lit (.int 9)) (.nil)))) (.cons (.unp (.tp3 (.nm 4) (.nm 5) (.nm 6)) (.tup (.cons (.bi .len (.cons (.var 3) (.nil))) (.cons (.call f__law_margins (.cons (.var 3) (.nil))) (.cons (.calld f__law_take 1 (.cons (.lit (.int 9)) (.nil))) (.nil)))))) (.cons (.ite (.or (.cmp .isn (.call f_check_number_row (.cons (.var 3) (.nil))) (.lit .none)) (.or (.cmp .ne (.call f_binomials (.cons (.var 6) (.nil))) (.bi .tuple (.cons (.comp (.tup (.cons (.call f__law_choices (.cons (.var 6) (.cons (.var 15) (.nil)))) (.cons (.lit (.int 1)) (.nil)))) (.nm 15) (.rng (.bin .add (.var 6) (.lit (.int 1)))) (.nil)) (.nil)))) (.cmp .lt (.call f_choices (.cons (.var 6) (.cons (.calld f__law_take 1 (.cons (.bin .add (.var 6) (.lit (.int 1))) (.nil))) (.nil)))) (.lit (.int 1))))) (.cons (.ret (.lit (.bool false))) (.nil)) (.nil)) (.cons (.ite (.or (.cmp .ne (.call f_levelled (.cons (.var 3) (.nil))) (.bi .tuple (.cons (.comp (.call f__law_low (.cons (.ix (.ix (.var 3) (.var 15)) (.lit (.int 0))) (.cons (.bin .mul (.ix (.ix (.var 3) (.var 15)) (.lit (.int 1))) (.call f__law_choices (.cons (.bin .sub (.var 4) (.lit (.int 1))) (.cons (.var 15) (.nil))))) (.nil)))) (.nm 15) (.rng (.var 4)) (.nil)) (.nil)))) (.cmp .ne (.call f_margins_of (.cons (.var 3) (.nil))) (.bi .tuple (.cons (.var 5) (.nil))))) (.cons (.ret (.lit (.bool false))) (.nil)) (.nil)) (.cons (.set 7 (.comp (.bin .add (.var 15) (.lit (.int 1))) (.nm 15) (.rng (.bi .len (.cons (.var 5) (.nil)))) (.cons (.cmp .lt (.ix (.ix (.var 5) (.var 15)) (.lit (.int 0))) (.lit (.int 0))) .nil))) (.cons (.ite (.or (.cmp .ne (.call f_row_breaks (.cons (.var 3) (.nil))) (.bi .tuple (.cons (.var 7) (.nil)))) (.or (.cmp .ne (.call f_row_gaps (.cons (.var 3) (.nil))) (.bi .tuple (.cons (.call f__law_gaps (.cons (.var 3) (.nil))) (.nil)))) (.cmp .ne (.call f_row_bulges (.cons (.var 3) (.nil))) (.call f__law_row_bulges (.cons (.var 3) (.nil)))))) (.cons (.ret (.lit (.bool false))) (.nil)) (.nil)) (.cons (.set 8 (.bin .add (.lst (.cons (.lit .none) (.cons (.tup (.nil)) (.cons (.bi .list (.cons (.var 3) (.nil))) (.cons (.bin .mul (.tup (.cons (.tup (.cons (.lit (.int 0)) (.cons (.lit (.int 1)) (.nil)))) (.nil))) (.var 4)) (.cons (.bin .add (.var 3) (.tup (.cons (.tup (.cons (.neg (.lit (.int 1))) (.cons (.lit (.int 2)) (.nil)))) (.nil)))) (.cons (.bin .add (.var 3) (.tup (.cons (.tup (.cons (.lit (.int 2)) (.cons (.lit (.int 4)) (.nil)))) (.nil)))) (.cons (.bin .add (.var 3) (.tup (.cons (.lit (.int 1)) (.nil)))) (.cons (.bin .mul (.tup (.cons (.tup (.cons (.lit (.int 1)) (.cons (.lit (.int 1)) (.nil)))) (.nil))) (.lit (.int 14))) (.cons (.bin .add (.var 3) (.tup (.cons (.tup (.cons (.lit (.bool true)) (.cons (.lit (.int 1)) (.nil)))) (.nil)))) (.nil))))))))))) (.lst (.cons (.lit (.int 5)) (.cons (.lit (.str "row")) (.cons (.tup (.cons (.tup (.cons (.lit (.int 1)) (.cons (.lit (.int 0)) (.nil)))) (.nil))) (.cons (.tup (.cons (.tup (.cons (.lit (.int 1)) (.cons (.neg (.lit (.int 1))) (.nil)))) (.nil))) (.cons (.tup (.cons (.tup (.cons (.lit (.int 1)) (.cons (.lit (.bool true)) (.nil)))) (.nil))) (.cons (.tup (.cons (.tup (.cons (.lit (.int 1)) (.cons (.lit (.int 1)) (.cons (.lit (.int 1)) (.nil))))) (.nil))) (.cons (.tup (.cons (.lst (.cons (.lit (.int 1)) (.cons (.lit (.int 1)) (.nil)))) (.nil))) (.cons (.tup (.cons (.tup (.cons (.lit (.str "1")) (.cons (.lit (.int 1)) (.nil)))) (.nil))) (.cons (.tup (.cons (.lit .none) (.nil))) (.cons (.tup (.cons (.tup (.cons (.lit (.int 1)) (.nil))) (.nil))) (.cons (.bin .add (.var 3) (.tup (.cons (.lit .none) (.nil)))) (.nil))))))))))))))) (.cons (.ite (.or (.cmp .ne (.comp (.var 16) (.nm 16) (.e (.var 8)) (.cons (.or (.cmp .isn (.call f__law_refused (.cons (.lit (.int 0)) (.cons (.var 16) (.nil)))) (.lit (.bool true))) (.cmp .isn (.call f__law_refused (.cons (.lit (.int 1)) (.cons (.tup (.cons (.lit (.str "row")) (.cons (.var 16) (.nil)))) (.nil)))) (.lit (.bool true)))) .nil)) (.lst (.nil))) (.call f__law_refused (.cons (.lit (.int 1)) (.cons (.tup (.cons (.lit (.str "row")) (.cons (.var 3) (.nil)))) (.nil))))) (.cons (.ret (.lit (.bool false))) (.nil)) (.nil)) (.cons (.ite (.cmp .ne (.comp (.var 16) (.nm 16) (.e (.lst (.cons (.tup (.nil)) (.cons (.tup (.cons (.lit (.str "row")) (.nil))) (.cons (.tup (.cons (.lit (.str "row")) (.cons (.var 3) (.cons (.lit (.int 0)) (.nil))))) (.cons (.tup (.cons (.lit (.str "rows")) (.cons (.var 3) (.nil)))) (.cons (.tup (.cons (.lit .none) (.cons (.var 3) (.nil)))) (.nil)))))))) (.cons (.cmp .isn (.call f__law_refused (.cons (.lit (.int 1)) (.cons (.var 16) (.nil)))) (.lit (.bool true))) .nil)) (.lst (.nil))) (.cons (.ret (.lit (.bool false))) (.nil)) (.nil)) (.cons (.set 9 (.tup (.cons (.lit (.str "row")) (.cons (.var 3) (.nil))))) (.cons (.unp (.tp (.nm 10) (.nm 11)) (.call f_decide_row (.cons (.var 9) (.nil)))) (.cons (.ite (.or (.cmp .ne (.var 10) (.ifx (.call f__law_row_bulges (.cons (.var 3) (.nil))) (.lit (.str "yes")) (.lit (.str "no")))) (.or (.not (.call f__law_right (.cons (.var 3) (.cons (.var 10) (.cons (.var 11) (.nil)))))) (.not (.call f__law_taken (.cons (.var 9) (.cons (.var 10) (.cons (.var 11) (.nil)))))))) (.cons (.ret (.lit (.bool false))) (.nil)) (.nil)) (.cons (.set 12 (.lst (.cons (.lit .none) (.cons (.tup (.nil)) (.cons (.var 11) (.cons (.bi .list (.cons (.var 11) (.nil))) (.cons (.bi .tuple (.cons (.var 5) (.nil))) (.cons (.slc (.bi .tuple (.cons (.var 5) (.nil))) .none (.some (.neg (.lit (.int 1))))) (.cons (.bin .add (.bi .tuple (.cons (.var 5) (.nil))) (.tup (.cons (.tup (.cons (.lit (.int 0)) (.cons (.lit (.int 1)) (.nil)))) (.nil)))) (.cons (.rev (.bi .tuple (.cons (.var 5) (.nil)))) (.cons (.bi .tuple (.cons (.comp (.tup (.cons (.ix (.var 16) (.lit (.int 0))) (.cons (.lit (.bool true)) (.nil)))) (.nm 16) (.e (.var 5)) (.nil)) (.nil))) (.nil)))))))))))) (.cons (.set 12 (.bin .add (.bin .add (.var 12) (.comp (.tup (.cons (.ix (.lst (.cons (.lit (.str "break")) (.cons (.lit (.str "gap")) (.cons (.lit (.str "row")) (.nil))))) (.bin .mod (.var 15) (.lit (.int 3)))) (.cons (.bin .sub (.bin .fdiv (.var 15) (.lit (.int 3))) (.lit (.int 1))) (.nil)))) (.nm 15) (.rng (.bin .add (.bin .mul (.lit (.int 3)) (.var 4)) (.lit (.int 6)))) (.nil))) (.lst (.cons (.tup (.cons (.lit (.str "break")) (.cons (.lit (.bool true)) (.nil)))) (.cons (.tup (.cons (.lit (.str "gap")) (.nil))) (.cons (.tup (.cons (.lit (.str "break")) (.cons (.lit .none) (.nil)))) (.cons (.tup (.cons (.lit .none) (.cons (.lit (.int 1)) (.nil)))) (.cons (.tup (.cons (.lit (.str "break")) (.cons (.bin .sub (.var 4) (.lit (.int 1))) (.nil)))) (.cons (.tup (.cons (.lit (.str "gap")) (.cons (.var 4) (.nil)))) (.nil)))))))))) (.cons (.fr (.nm 13) (.e (.var 12)) (.cons (.fr (.nm 14) (.e (.lst (.cons (.lit (.str "yes")) (.cons (.lit (.str "no")) (.nil))))) (.cons (.ite (.cmp .ne (.call f__law_taken (.cons (.var 9) (.cons (.var 14) (.cons (.var 13) (.nil))))) (.call f__law_right (.cons (.var 3) (.cons (.var 14) (.cons (.var 13) (.nil)))))) (.cons (.ret (.lit (.bool false))) (.nil)) (.nil)) (.nil))) (.nil))) (.cons (.ite (.or (.call f__law_taken (.cons (.var 9) (.cons (.lit (.str "maybe")) (.cons (.var 11) (.nil))))) (.call f__law_taken (.cons (.var 9) (.cons (.lit .none) (.cons (.var 11) (.nil)))))) (.cons (.ret (.lit (.bool false))) (.nil)) (.nil)) (.nil)))))))))))))))))) (.cons (.ret (.lit (.bool true))) (.nil)))
noncomputable def f_law : FEnt := entP "law" 1 17 q_law
end L2.BH
set_option maxHeartbeats 1000000
namespace L2.BH
open PySem
/-! ### basics -/
def lowOk (lo : D) (i : Int) : Bool := match lo with | .int l => decide (l ≤ i) | _ => true
def higOk (hi : D) (i : Int) : Bool := match hi with | .int h => decide (i ≤ h) | _ => true
def isInt (v lo hi : D) : Bool := match v with | .int i => lowOk lo i && higOk hi i | _ => false
def bnd (d : D) : Bool := match d with | .none => true | .int _ => true | _ => false
theorem sem_is_integer {v lo hi : D} (hv : isD v = false) (hl : bnd lo = true) (hh : bnd hi = true) (dr : List D) : f_is_integer.sem [v, lo, hi] dr = .ret (.bool (isInt v lo hi)) [] := by
  cases v with
  | dict _ => cases hv
  | int i =>
    cases lo <;> cases hl <;> cases hi <;> cases hh <;> simp [f_is_integer, q_is_integer, isInt, lowOk, higOk]
    all_goals
      split
      all_goals (first | (simp_all; done) | (simp_all; omega))
  | bool b => simp [f_is_integer, q_is_integer, isInt]
  | none => simp [f_is_integer, q_is_integer, isInt]
  | str _ => simp [f_is_integer, q_is_integer, isInt]
  | list _ => simp [f_is_integer, q_is_integer, isInt]
  | tuple _ => simp [f_is_integer, q_is_integer, isInt]
theorem noDs_bools {α : Type} (l : List α) (f : α → Bool) : noDs (l.map fun a => PyData.bool (f a)) = true := by
  unfold noDs
  rw [List.all_eq_true]
  intro x hx
  obtain ⟨i, _, rfl⟩ := List.mem_map.mp hx
  rfl
theorem all_bools {α : Type} (l : List α) (f : α → Bool) : (l.map fun a => PyData.bool (f a)).all tru = l.all f := by
  rw [List.all_map]; rfl
theorem bi_all {α : Type} (l : List α) (f : α → Bool) (s : Sg) : ofO (bi1 .all (.list (l.map fun a => PyData.bool (f a)))) s = .ok (.bool (l.all f)) s := by
  rw [bi1_all (noDs_bools l f), all_bools]; rfl
theorem bi_any {α : Type} (l : List α) (f : α → Bool) (s : Sg) : ofO (bi1 .any (.list (l.map fun a => PyData.bool (f a)))) s = .ok (.bool (l.any f)) s := by
  rw [bi1_any (noDs_bools l f), List.any_map]; rfl
theorem eqv_int (i j : Int) : PyData.eqv (.int i) (.int j) = decide (i = j) := by
  simp only [PyData.eqv]
  by_cases h : i = j <;> simp [h]
theorem cmpOk_int (i j : Int) : cmpOk (.int i) (.int j) = true := by simp [cmpOk]
theorem eqS_int (i j : Int) : eqS (.int i) (.int j) = some (decide (i = j)) := by simp [cmpOk, eqv_int]
/-! ### ratios -/
abbrev Rt := Int × Int
def dP (p : Rt) : D := .tuple [.int p.1, .int p.2]
theorem ix20 (a b : D) : ixD (.tuple [a, b]) (.int 0) = some a := L2.atI_nat (j := 0) rfl
theorem ix21 (a b : D) : ixD (.tuple [a, b]) (.int 1) = some b := L2.atI_nat (j := 1) rfl
theorem ix_p0 (p : Rt) : ixD (dP p) (.int 0) = some (.int p.1) := ix20 _ _
theorem ix_p1 (p : Rt) : ixD (dP p) (.int 1) = some (.int p.2) := ix21 _ _
@[simp] theorem isD_dP (p : Rt) : isD (dP p) = false := rfl
/-- few bits -/
def Sm (n : Nat) (x : Int) : Prop := x.natAbs < 2 ^ n
theorem Sm.mono {m n : Nat} {x : Int} (h : Sm m x) (l : m ≤ n) : Sm n x := Nat.lt_of_lt_of_le h (Nat.pow_le_pow_right (by omega) l)
theorem Sm.log {n : Nat} {x : Int} (h : Sm n x) : x.natAbs.log2 ≤ n := by
  by_cases h0 : x.natAbs = 0
  · rw [h0]; simp [Nat.log2_zero]
  · exact Nat.le_of_lt ((Nat.log2_lt h0).mpr h)
theorem mul_ok {x y : Int} (hx : Sm 4000 x) (hy : Sm 4000 y) : bin2 .mul (.int x) (.int y) = some (.int (x * y)) := by
  have h : mulOk x y = true := by
    have := hx.log
    have := hy.log
    unfold mulOk
    rw [decide_eq_true_iff]
    omega
  show (if mulOk x y then _ else _) = _
  rw [if_pos h]
theorem div_ok {x y : Int} (hy : Sm 4000 y) (h0 : 0 < y) : bin2 .fdiv (.int x) (.int y) = some (.int (x / y)) := by
  have h : divOk y = true := by
    have := hy.log
    unfold divOk
    rw [decide_eq_true h0, Bool.true_and, decide_eq_true_iff]
    omega
  show (if divOk y then _ else _) = _
  rw [if_pos h]
theorem sub_ii (i j : Int) : bin2 .sub (.int i) (.int j) = some (.int (i - j)) := by simp
theorem add_ii (i j : Int) : bin2 .add (.int i) (.int j) = some (.int (i + j)) := by simp
theorem Sm.mul {m n : Nat} {x y : Int} (hx : Sm m x) (hy : Sm n y) : Sm (m + n) (x * y) := by
  unfold Sm at *
  rw [Int.natAbs_mul, Nat.pow_add]
  exact Nat.mul_lt_mul'' hx hy
theorem Sm.add {n : Nat} {x y : Int} (hx : Sm n x) (hy : Sm n y) : Sm (n + 1) (x + y) := by
  unfold Sm at *
  rw [Nat.pow_succ]
  have := Int.natAbs_add_le x y
  omega
theorem Sm.sub {n : Nat} {x y : Int} (hx : Sm n x) (hy : Sm n y) : Sm (n + 1) (x - y) := by
  unfold Sm at *
  rw [Nat.pow_succ]
  have := Int.natAbs_sub_le x y
  omega
/-! ### the greatest common divisor -/
theorem gcd_step (x y : Nat) : Nat.gcd y (x % y) = Nat.gcd x y := by
  rw [Nat.gcd_comm y, ← Nat.gcd_rec, Nat.gcd_comm]
noncomputable def wB : QSs := .cons (.par 0 1 (.var 1) (.bin .mod (.var 0) (.var 1))) (.nil)
theorem wh_common : ∀ (y x : Nat), ∃ n, whN (fun s => tst (ev (.var 1) s)) (fun s => runs wB s) n ⟨[.val (.int (x : Nat)), .val (.int (y : Nat))], []⟩ = .nx ⟨[.val (.int (Nat.gcd x y : Nat)), .val (.int 0)], []⟩ := by
  intro y
  induction y using Nat.strongRecOn with
  | ind y ih =>
    intro x
    by_cases h : y = 0
    · subst h
      refine ⟨1, ?_⟩
      rw [whN_succ]
      simp
    · obtain ⟨n, e⟩ := ih (x % y) (Nat.mod_lt _ (by omega)) y
      refine ⟨n + 1, ?_⟩
      have hy : 0 < y := by omega
      have c1 : tst (ev (.var 1) ⟨[.val (.int (x : Nat)), .val (.int (y : Nat))], []⟩) = .ok true ⟨[.val (.int (x : Nat)), .val (.int (y : Nat))], []⟩ := by
        simp [h]
      have c2 : runs wB ⟨[.val (.int (x : Nat)), .val (.int (y : Nat))], []⟩ = .nx ⟨[.val (.int (y : Nat)), .val (.int ((x % y : Nat) : Int))], []⟩ := by
        unfold wB
        simp [hy]
      rw [whN_succ, c1, SOut.of_ok, if_pos rfl, c2]
      show whN _ _ n _ = _
      rw [e, gcd_step]
theorem abs_nat (a : Int) : bi1 .abs (.int a) = some (.int (a.natAbs : Nat)) := by
  show some (PyData.int (if a < 0 then -a else a)) = _
  split
  · rw [show -a = ((a.natAbs : Nat) : Int) by omega]
  · rw [show a = ((a.natAbs : Nat) : Int) by omega]; simp
theorem sem_common (a b : Int) (dr : List D) : f_common.sem [.int a, .int b] dr = .ret (.int (Int.gcd a b : Nat)) [] := by
  obtain ⟨n, e⟩ := wh_common b.natAbs a.natAbs
  have hw : run (.whl (.var 1) wB) ⟨[.val (.int (a.natAbs : Nat)), .val (.int (b.natAbs : Nat))], []⟩ = .nx ⟨[.val (.int (Nat.gcd a.natAbs b.natAbs : Nat)), .val (.int 0)], []⟩ :=
    wh_of e (fun z => by cases z)
  have q : q_common = .cons (.par 0 1 (.bi .abs (.cons (.var 0) (.nil))) (.bi .abs (.cons (.var 1) (.nil)))) (.cons (.whl (.var 1) wB) (.cons (.ret (.var 0)) (.nil))) := rfl
  have e0 : f_common.sem [.int a, .int b] dr = frOf (runs q_common ⟨[.val (.int a), .val (.int b)], []⟩) := by rw [f_common]; exact sem_of rfl
  have e1 : run (.par 0 1 (.bi .abs (.cons (.var 0) (.nil))) (.bi .abs (.cons (.var 1) (.nil)))) ⟨[.val (.int a), .val (.int b)], []⟩ = .nx ⟨[.val (.int (a.natAbs : Nat)), .val (.int (b.natAbs : Nat))], []⟩ := by
    simp [abs_nat, -bi1]
  rw [e0, q, runs_cons, e1, thn_nx, runs_cons, hw, thn_nx]
  simp [Int.gcd]
noncomputable def wC : QSs := .cons (.par 2 3 (.var 3) (.bin .mod (.var 2) (.var 3))) (.nil)
theorem wh_low (a b : Int) : ∀ (y x : Nat), ∃ n, whN (fun s => tst (ev (.cmp .gt (.var 3) (.lit (.int 0))) s)) (fun s => runs wC s) n ⟨[.val (.int a), .val (.int b), .val (.int (x : Nat)), .val (.int (y : Nat))], []⟩ = .nx ⟨[.val (.int a), .val (.int b), .val (.int (Nat.gcd x y : Nat)), .val (.int 0)], []⟩ := by
  intro y
  induction y using Nat.strongRecOn with
  | ind y ih =>
    intro x
    by_cases h : y = 0
    · subst h
      refine ⟨1, ?_⟩
      rw [whN_succ]
      simp
    · obtain ⟨n, e⟩ := ih (x % y) (Nat.mod_lt _ (by omega)) y
      refine ⟨n + 1, ?_⟩
      have hy : 0 < y := by omega
      have c1 : tst (ev (.cmp .gt (.var 3) (.lit (.int 0))) ⟨[.val (.int a), .val (.int b), .val (.int (x : Nat)), .val (.int (y : Nat))], []⟩) = .ok true ⟨[.val (.int a), .val (.int b), .val (.int (x : Nat)), .val (.int (y : Nat))], []⟩ := by
        simp [hy]
      have c2 : runs wC ⟨[.val (.int a), .val (.int b), .val (.int (x : Nat)), .val (.int (y : Nat))], []⟩ = .nx ⟨[.val (.int a), .val (.int b), .val (.int (y : Nat)), .val (.int ((x % y : Nat) : Int))], []⟩ := by
        unfold wC
        simp [hy]
      rw [whN_succ, c1, SOut.of_ok, if_pos rfl, c2]
      show whN _ _ n _ = _
      rw [e, gcd_step]
def low (a b : Int) : Rt := (a / (Int.gcd a b : Nat), b / (Int.gcd a b : Nat))
theorem gcd_pos' {a b : Int} (hb : 0 < b) : (0 : Int) < (Int.gcd a b : Nat) := by
  have := Int.gcd_pos_of_ne_zero_right a (by omega : b ≠ 0)
  omega
theorem gcd_sm {n : Nat} {a b : Int} (hb : 0 < b) (h : Sm n b) : Sm n (Int.gcd a b : Nat) := by
  have h1 : (Int.gcd a b : Int) ∣ b := Int.gcd_dvd_right ..
  have h2 := Int.le_of_dvd hb h1
  unfold Sm at *
  omega
theorem sem_low {a b : Int} (hb : 0 < b) (h : Sm 4000 b) (dr : List D) : f__law_low.sem [.int a, .int b] dr = .ret (dP (low a b)) [] := by
  obtain ⟨n, e⟩ := wh_low a b b.natAbs a.natAbs
  have hw : run (.whl (.cmp .gt (.var 3) (.lit (.int 0))) wC) ⟨[.val (.int a), .val (.int b), .val (.int (a.natAbs : Nat)), .val (.int (b.natAbs : Nat))], []⟩ = .nx ⟨[.val (.int a), .val (.int b), .val (.int (Nat.gcd a.natAbs b.natAbs : Nat)), .val (.int 0)], []⟩ :=
    wh_of e (fun z => by cases z)
  have q : q__law_low = .cons (.par 2 3 (.bi .abs (.cons (.var 0) (.nil))) (.bi .abs (.cons (.var 1) (.nil)))) (.cons (.whl (.cmp .gt (.var 3) (.lit (.int 0))) wC) (.cons (.ret (.ifx (.cmp .gt (.var 1) (.lit (.int 0))) (.tup (.cons (.bin .fdiv (.var 0) (.var 2)) (.cons (.bin .fdiv (.var 1) (.var 2)) (.nil)))) (.tup (.cons (.bin .fdiv (.neg (.var 0)) (.var 2)) (.cons (.bin .fdiv (.neg (.var 1)) (.var 2)) (.nil)))))) (.nil))) := rfl
  have e0 : f__law_low.sem [.int a, .int b] dr = frOf (runs q__law_low ⟨[.val (.int a), .val (.int b), .no, .no], []⟩) := by rw [f__law_low]; exact sem_of rfl
  have e1 : run (.par 2 3 (.bi .abs (.cons (.var 0) (.nil))) (.bi .abs (.cons (.var 1) (.nil)))) ⟨[.val (.int a), .val (.int b), .no, .no], []⟩ = .nx ⟨[.val (.int a), .val (.int b), .val (.int (a.natAbs : Nat)), .val (.int (b.natAbs : Nat))], []⟩ := by
    simp [abs_nat, -bi1]
  have g0 := gcd_pos' (a := a) hb
  have g1 := gcd_sm (a := a) hb h
  have d1 := div_ok (x := a) g1 g0
  have d2 := div_ok (x := b) g1 g0
  have eg : (Nat.gcd a.natAbs b.natAbs : Nat) = Int.gcd a b := rfl
  rw [e0, q, runs_cons, e1, thn_nx, runs_cons, hw, thn_nx, eg]
  unfold low dP
  generalize (Int.gcd a b) = g at d1 d2 ⊢
  simp [hb, d1, d2, -bin2]
theorem sem_lowest {a b : Int} (hb : 0 < b) (ha : Sm 4000 a) (h : Sm 4000 b) (dr : List D) : f_lowest.sem [.int a, .int b] dr = .ret (dP (low a b)) [] := by
  have e0 : f_lowest.sem [.int a, .int b] dr = frOf (runs q_lowest ⟨[.val (.int a), .val (.int b), .no, .no], []⟩) := by rw [f_lowest]; exact sem_of rfl
  have e1 := sem_common a b []
  have g0 := gcd_pos' (a := a) hb
  have g1 := gcd_sm (a := a) hb h
  have d1 := div_ok (x := 1 * a) g1 g0
  have d2 := div_ok (x := 1 * b) g1 g0
  have s1 : Sm 4000 1 := by unfold Sm; exact Nat.one_lt_two_pow (by omega)
  have m1 := mul_ok s1 ha
  have m2 := mul_ok s1 h
  rw [e0, q_lowest]
  unfold low dP
  rw [Int.one_mul] at d1 d2 m1 m2
  generalize (Int.gcd a b) = g at d1 d2 e1 ⊢
  simp [hb, e1, d1, d2, m1, m2, -bin2]
end L2.BH
set_option maxHeartbeats 1000000
namespace L2.BH
open PySem
/-! ### ratios in lowest terms -/
theorem low_num (a b : Int) : (low a b).1 * (Int.gcd a b : Nat) = a := Int.ediv_mul_cancel (Int.gcd_dvd_left ..)
theorem low_den (a b : Int) : (low a b).2 * (Int.gcd a b : Nat) = b := Int.ediv_mul_cancel (Int.gcd_dvd_right ..)
theorem low_pos {a b : Int} (hb : 0 < b) : 0 < (low a b).2 := by
  have h := low_den a b
  have g := gcd_pos' (a := a) hb
  have h2 : 0 < (low a b).2 * (Int.gcd a b : Nat) := by rw [h]; exact hb
  exact Int.pos_of_mul_pos_left h2 g |> fun x => x
theorem low_gcd {a b : Int} (hb : 0 < b) : Int.gcd (low a b).1 (low a b).2 = 1 := by
  have g := gcd_pos' (a := a) hb
  exact Int.gcd_ediv_gcd_ediv_gcd (by omega)
theorem low_scale {a b c : Int} (hc : 0 < c) : low (a * c) (b * c) = low a b := by
  have e : (Int.gcd (a * c) (b * c) : Int) = (Int.gcd a b : Nat) * c := by
    rw [Int.gcd_mul_right]
    push_cast
    rw [Int.natAbs_of_nonneg (by omega)]
  unfold low
  rw [e]
  refine Prod.ext ?_ ?_
  · exact Int.mul_ediv_mul_of_pos_left _ _ hc
  · exact Int.mul_ediv_mul_of_pos_left _ _ hc
theorem low_zero {b : Int} (hb : 0 < b) : low 0 b = (0, 1) := by
  unfold low
  rw [Int.gcd_zero_left]
  refine Prod.ext (by simp) ?_
  show b / (b.natAbs : Nat) = 1
  rw [Int.natAbs_of_nonneg (by omega)]
  exact Int.ediv_self (by omega)
theorem low_num0 {a b : Int} (hb : 0 < b) : (low a b).1 = 0 ↔ a = 0 := by
  have h := low_num a b
  have g := gcd_pos' (a := a) hb
  constructor
  · intro e; rw [e] at h; omega
  · intro e
    rw [e, low_zero hb]
theorem low_sm1 {n : Nat} {a b : Int} (hb : 0 < b) (h : Sm n a) : Sm n (low a b).1 := by
  have e := low_num a b
  have g := gcd_pos' (a := a) hb
  unfold Sm at *
  have e2 : (low a b).1.natAbs * (Int.gcd a b) = a.natAbs := by
    rw [← e, Int.natAbs_mul, e]; rfl
  have : 1 ≤ Int.gcd a b := by omega
  have := Nat.le_mul_of_pos_right (low a b).1.natAbs this
  omega
theorem low_sm2 {n : Nat} {a b : Int} (hb : 0 < b) (h : Sm n b) : Sm n (low a b).2 := by
  have e := low_den a b
  have g := gcd_pos' (a := a) hb
  unfold Sm at *
  have e2 : (low a b).2.natAbs * (Int.gcd a b) = b.natAbs := by
    rw [← e, Int.natAbs_mul, e]; rfl
  have : 1 ≤ Int.gcd a b := by omega
  have := Nat.le_mul_of_pos_right (low a b).2.natAbs this
  omega
theorem low_nn {a b : Int} (hb : 0 < b) (h : 0 ≤ a) : 0 ≤ (low a b).1 := by
  have g := gcd_pos' (a := a) hb
  exact Int.ediv_nonneg h (by omega)
/-- a ratio with few bits -/
structure Okp (n : Nat) (p : Rt) : Prop where
  pos : 0 < p.2
  num : Sm n p.1
  den : Sm n p.2
theorem Okp.mono {m n : Nat} {p : Rt} (h : Okp m p) (l : m ≤ n) : Okp n p := ⟨h.pos, h.num.mono l, h.den.mono l⟩
theorem low_ok {n : Nat} {a b : Int} (hb : 0 < b) (ha : Sm n a) (h : Sm n b) : Okp n (low a b) := ⟨low_pos hb, low_sm1 hb ha, low_sm2 hb h⟩
def tmP (p q : Rt) : Rt := low (p.1 * q.1) (p.2 * q.2)
def miP (p q : Rt) : Rt := low (p.1 * q.2 - q.1 * p.2) (p.2 * q.2)
def plP (p q : Rt) : Rt := low (p.1 * q.2 + q.1 * p.2) (p.2 * q.2)
section
variable {m n : Nat} {p q : Rt} (hp : Okp m p) (hq : Okp n q)
include hp hq
theorem tm_ok : Okp (m + n) (tmP p q) := low_ok (Int.mul_pos hp.pos hq.pos) (hp.num.mul hq.num) (hp.den.mul hq.den)
theorem mi_ok : Okp (m + n + 1) (miP p q) := by
  refine low_ok (Int.mul_pos hp.pos hq.pos) (Sm.sub (hp.num.mul hq.den) ?_) ((hp.den.mul hq.den).mono (by omega))
  rw [Int.mul_comm]
  exact hp.den.mul hq.num
end
section
variable {p q : Rt} (hp : Okp 2000 p) (hq : Okp 2000 q)
include hp hq
theorem mul_bits {x y : Int} (hx : Sm 2000 x) (hy : Sm 2000 y) : Sm 4000 (x * y) := hx.mul hy
end
theorem ops_ev {p q : Rt} {n : Nat} (hn : n ≤ 1999) (hp : Okp n p) (hq : Okp n q) : Sm 3999 (p.1 * q.1) ∧ Sm 3999 (p.2 * q.2) ∧ Sm 3999 (p.1 * q.2) ∧ Sm 3999 (q.1 * p.2) := by
  have h : n + n ≤ 3999 := by omega
  exact ⟨(hp.num.mul hq.num).mono h, (hp.den.mul hq.den).mono h, (hp.num.mul hq.den).mono h, (hq.num.mul hp.den).mono h⟩
theorem sem_times {p q : Rt} {n : Nat} (hn : n ≤ 1999) (hp : Okp n p) (hq : Okp n q) (dr : List D) : f_times.sem [dP p, dP q] dr = .ret (dP (tmP p q)) [] := by
  obtain ⟨s1, s2, s3, s4⟩ := ops_ev hn hp hq
  have m1 := mul_ok (hp.num.mono (show n ≤ 4000 by omega)) (hq.num.mono (show n ≤ 4000 by omega))
  have m2 := mul_ok (hp.den.mono (show n ≤ 4000 by omega)) (hq.den.mono (show n ≤ 4000 by omega))
  have e1 := sem_lowest (Int.mul_pos hp.pos hq.pos) (s1.mono (by omega)) (s2.mono (by omega)) []
  have e0 : f_times.sem [dP p, dP q] dr = frOf (runs q_times ⟨[.val (dP p), .val (dP q)], []⟩) := by rw [f_times]; exact sem_of rfl
  rw [e0, q_times]
  simp [ix_p0, ix_p1, m1, m2, e1, tmP, -bin2, -ixD]
theorem sem_minus {p q : Rt} {n : Nat} (hn : n ≤ 1999) (hp : Okp n p) (hq : Okp n q) (dr : List D) : f_minus.sem [dP p, dP q] dr = .ret (dP (miP p q)) [] := by
  obtain ⟨s1, s2, s3, s4⟩ := ops_ev hn hp hq
  have m1 := mul_ok (hp.num.mono (show n ≤ 4000 by omega)) (hq.den.mono (show n ≤ 4000 by omega))
  have m2 := mul_ok (hq.num.mono (show n ≤ 4000 by omega)) (hp.den.mono (show n ≤ 4000 by omega))
  have m3 := mul_ok (hp.den.mono (show n ≤ 4000 by omega)) (hq.den.mono (show n ≤ 4000 by omega))
  have e1 := sem_lowest (Int.mul_pos hp.pos hq.pos) (s3.sub s4) (s2.mono (by omega)) []
  have e0 : f_minus.sem [dP p, dP q] dr = frOf (runs q_minus ⟨[.val (dP p), .val (dP q)], []⟩) := by rw [f_minus]; exact sem_of rfl
  rw [e0, q_minus]
  simp [ix_p0, ix_p1, m1, m2, m3, e1, sub_ii, miP, -bin2, -ixD]
theorem sem_divided {p q : Rt} {n : Nat} (hn : n ≤ 1999) (hp : Okp n p) (hq : Okp n q) (h1 : 0 < q.1) (dr : List D) : f_divided.sem [dP p, dP q] dr = .ret (dP (low (p.1 * q.2) (p.2 * q.1))) [] := by
  obtain ⟨s1, s2, s3, s4⟩ := ops_ev hn hp hq
  have m1 := mul_ok (hp.num.mono (show n ≤ 4000 by omega)) (hq.den.mono (show n ≤ 4000 by omega))
  have m2 := mul_ok (hp.den.mono (show n ≤ 4000 by omega)) (hq.num.mono (show n ≤ 4000 by omega))
  rw [Int.mul_comm] at s4
  have e1 := sem_lowest (Int.mul_pos hp.pos h1) (s3.mono (by omega)) (s4.mono (by omega)) []
  have e0 : f_divided.sem [dP p, dP q] dr = frOf (runs q_divided ⟨[.val (dP p), .val (dP q)], []⟩) := by rw [f_divided]; exact sem_of rfl
  rw [e0, q_divided]
  simp [ix_p0, ix_p1, m1, m2, e1, -bin2, -ixD]
theorem sem_less0 {p : Rt} {n : Nat} (hn : n ≤ 1999) (h1 : Sm n p.1) (h2 : Sm n p.2) (dr : List D) : f_less.sem [dP p, dP (0, 1)] dr = .ret (.bool (decide (p.1 < 0))) [] := by
  have s0 : Sm 4000 0 := by unfold Sm; exact Nat.two_pow_pos _
  have s1 : Sm 4000 1 := by unfold Sm; exact Nat.one_lt_two_pow (by omega)
  have m1 := mul_ok (h1.mono (show n ≤ 4000 by omega)) s1
  have m2 := mul_ok s0 (h2.mono (show n ≤ 4000 by omega))
  have i0 : ixD (dP (0, 1)) (.int 0) = some (.int 0) := ix20 _ _
  have i1 : ixD (dP (0, 1)) (.int 1) = some (.int 1) := ix21 _ _
  have e0 : f_less.sem [dP p, dP (0, 1)] dr = frOf (runs q_less ⟨[.val (dP p), .val (dP (0, 1))], []⟩) := by rw [f_less]; exact sem_of rfl
  rw [e0, q_less]
  rw [Int.mul_one] at m1
  rw [Int.zero_mul] at m2
  simp [ix_p0, ix_p1, i0, i1, m1, m2, -bin2, -ixD]
theorem sem_law_times {p q : Rt} {n : Nat} (hn : n ≤ 1999) (hp : Okp n p) (hq : Okp n q) (dr : List D) : f__law_times.sem [dP p, dP q] dr = .ret (dP (tmP p q)) [] := by
  obtain ⟨s1, s2, s3, s4⟩ := ops_ev hn hp hq
  have m1 := mul_ok (hp.num.mono (show n ≤ 4000 by omega)) (hq.num.mono (show n ≤ 4000 by omega))
  have m2 := mul_ok (hp.den.mono (show n ≤ 4000 by omega)) (hq.den.mono (show n ≤ 4000 by omega))
  have e1 := sem_low (a := p.1 * q.1) (Int.mul_pos hp.pos hq.pos) (s2.mono (by omega)) []
  have e0 : f__law_times.sem [dP p, dP q] dr = frOf (runs q__law_times ⟨[.val (dP p), .val (dP q)], []⟩) := by rw [f__law_times]; exact sem_of rfl
  rw [e0, q__law_times]
  simp [ix_p0, ix_p1, m1, m2, e1, tmP, -bin2, -ixD]
theorem sem_law_minus {p q : Rt} {n : Nat} (hn : n ≤ 1999) (hp : Okp n p) (hq : Okp n q) (dr : List D) : f__law_minus.sem [dP p, dP q] dr = .ret (dP (miP p q)) [] := by
  obtain ⟨s1, s2, s3, s4⟩ := ops_ev hn hp hq
  have m1 := mul_ok (hp.num.mono (show n ≤ 4000 by omega)) (hq.den.mono (show n ≤ 4000 by omega))
  have m2 := mul_ok (hq.num.mono (show n ≤ 4000 by omega)) (hp.den.mono (show n ≤ 4000 by omega))
  have m3 := mul_ok (hp.den.mono (show n ≤ 4000 by omega)) (hq.den.mono (show n ≤ 4000 by omega))
  have e1 := sem_low (a := p.1 * q.2 - q.1 * p.2) (Int.mul_pos hp.pos hq.pos) (s2.mono (by omega)) []
  have e0 : f__law_minus.sem [dP p, dP q] dr = frOf (runs q__law_minus ⟨[.val (dP p), .val (dP q)], []⟩) := by rw [f__law_minus]; exact sem_of rfl
  rw [e0, q__law_minus]
  simp [ix_p0, ix_p1, m1, m2, m3, e1, sub_ii, miP, -bin2, -ixD]
theorem sem_law_plus {p q : Rt} {n : Nat} (hn : n ≤ 1999) (hp : Okp n p) (hq : Okp n q) (dr : List D) : f__law_plus.sem [dP p, dP q] dr = .ret (dP (plP p q)) [] := by
  obtain ⟨s1, s2, s3, s4⟩ := ops_ev hn hp hq
  have m1 := mul_ok (hp.num.mono (show n ≤ 4000 by omega)) (hq.den.mono (show n ≤ 4000 by omega))
  have m2 := mul_ok (hq.num.mono (show n ≤ 4000 by omega)) (hp.den.mono (show n ≤ 4000 by omega))
  have m3 := mul_ok (hp.den.mono (show n ≤ 4000 by omega)) (hq.den.mono (show n ≤ 4000 by omega))
  have e1 := sem_low (a := p.1 * q.2 + q.1 * p.2) (Int.mul_pos hp.pos hq.pos) (s2.mono (by omega)) []
  have e0 : f__law_plus.sem [dP p, dP q] dr = frOf (runs q__law_plus ⟨[.val (dP p), .val (dP q)], []⟩) := by rw [f__law_plus]; exact sem_of rfl
  rw [e0, q__law_plus]
  simp [ix_p0, ix_p1, m1, m2, m3, e1, add_ii, plP, -bin2, -ixD]
/-! worths -/
theorem tm_low {a b c d : Int} (hb : 0 < b) (hd : 0 < d) : tmP (low a b) (low c d) = low (a * c) (b * d) := by
  have g := gcd_pos' (a := a) hb
  have h := gcd_pos' (a := c) hd
  have e1 : a * c = ((low a b).1 * (low c d).1) * ((Int.gcd a b : Nat) * (Int.gcd c d : Nat)) := by
    conv => lhs; rw [← low_num a b, ← low_num c d]
    rw [low_num a b, low_num c d]
    have := low_num a b
    have := low_num c d
    rw [show (low a b).1 * (low c d).1 * ((Int.gcd a b : Nat) * (Int.gcd c d : Nat)) = ((low a b).1 * (Int.gcd a b : Nat)) * ((low c d).1 * (Int.gcd c d : Nat)) by
      simp only [Int.mul_assoc, Int.mul_left_comm, Int.mul_comm]]
    rw [low_num, low_num]
  have e2 : b * d = ((low a b).2 * (low c d).2) * ((Int.gcd a b : Nat) * (Int.gcd c d : Nat)) := by
    rw [show (low a b).2 * (low c d).2 * ((Int.gcd a b : Nat) * (Int.gcd c d : Nat)) = ((low a b).2 * (Int.gcd a b : Nat)) * ((low c d).2 * (Int.gcd c d : Nat)) by
      simp only [Int.mul_assoc, Int.mul_left_comm, Int.mul_comm]]
    rw [low_den, low_den]
  rw [e1, e2, low_scale (Int.mul_pos g h)]
  rfl
theorem pl_low {a b c d : Int} (hb : 0 < b) (hd : 0 < d) : plP (low a b) (low c d) = low (a * d + c * b) (b * d) := by
  have g := gcd_pos' (a := a) hb
  have h := gcd_pos' (a := c) hd
  have k1 := low_num a b
  have k2 := low_den a b
  have k3 := low_num c d
  have k4 := low_den c d
  have ac : ∀ x y u v : Int, x * y * (u * v) = (x * u) * (y * v) := fun x y u v => by
    simp only [Int.mul_assoc, Int.mul_left_comm, Int.mul_comm]
  have ac2 : ∀ x y u v : Int, x * y * (u * v) = (x * v) * (y * u) := fun x y u v => by
    rw [Int.mul_comm u v, ac]
  have e1 : a * d + c * b = ((low a b).1 * (low c d).2 + (low c d).1 * (low a b).2) * ((Int.gcd a b : Nat) * (Int.gcd c d : Nat)) := by
    rw [Int.add_mul, ac (low a b).1 (low c d).2, ac2 (low c d).1 (low a b).2, k1, k2, k3, k4]
  have e2 : b * d = ((low a b).2 * (low c d).2) * ((Int.gcd a b : Nat) * (Int.gcd c d : Nat)) := by
    rw [ac, k2, k4]
  rw [e1, e2, low_scale (Int.mul_pos g h)]
  rfl
end L2.BH
set_option maxHeartbeats 1000000
namespace L2.BH
open PySem
theorem frL_cons (f : D → Sg → SOut) (d : D) (ds : List D) (s : Sg) : frL f (d :: ds) s = match f d s with
    | .nx s => frL f ds s
    | .ct s => frL f ds s
    | .brk s => .nx s
    | .ret d s => .ret d s
    | .exc c s => .exc c s
    | .bad => .bad := rfl
theorem frL_map {α : Type} {f : D → Sg → SOut} (e : α → D) (J : List α → Sg → Prop) (l : List α)
    (step : ∀ p a q s, l = p ++ a :: q → J p s → ∃ s', f (e a) s = .nx s' ∧ J (p ++ [a]) s') (s0 : Sg) (h0 : J [] s0) : ∃ s', frL f (l.map e) s0 = .nx s' ∧ J l s' := by
  have go : ∀ (r p : List α) (s : Sg), l = p ++ r → J p s → ∃ s', frL f (r.map e) s = .nx s' ∧ J l s' := fun r => by
    induction r with
    | nil =>
      intro p s hl hj
      rw [List.append_nil] at hl
      subst hl
      exact ⟨s, rfl, hj⟩
    | cons a r ih =>
      intro p s hl hj
      rw [List.map_cons, frL_cons]
      obtain ⟨s', h1, h2⟩ := step p a r s hl hj
      rw [h1]
      exact ih (p ++ [a]) s' (by rw [hl]; simp) h2
  exact go l [] s0 rfl h0
/-- a place in a range -/
theorem range_at {n : Nat} {p q : List Nat} {a : Nat} (h : List.range n = p ++ a :: q) : a = p.length ∧ p.length < n := by
  have h1 : (List.range n)[p.length]? = some a := by rw [h]; simp
  rw [List.getElem?_range] at h1
  · have hl := congrArg List.length h
    rw [List.length_range, List.length_append, List.length_cons] at hl
    exact ⟨(Option.some.inj h1).symm, by omega⟩
  · have hl := congrArg List.length h
    rw [List.length_range, List.length_append, List.length_cons] at hl
    omega
theorem evi_rngV {i n : Nat} {cs : List Cell} {dr : List D} (h : cs[i]? = some (.val (.int (n : Nat)))) (hn : n ≤ 1000) : evi (.rng (.var i)) ⟨cs, dr⟩ = .ok ((List.range n).map fun (k : Nat) => PyData.int k) ⟨cs, dr⟩ := by
  rw [evi_rng, ev_var]
  simp only [getV_mk, h, getC_val, Out.bind_ok]
  exact rngO_nat _ hn
theorem evi_rngE {n : Nat} {e : QE} {s s' : Sg} (h : ev e s = .ok (.int (n : Nat)) s') (hn : n ≤ 1000) : evi (.rng e) s = .ok ((List.range n).map fun (k : Nat) => PyData.int k) s' := by
  rw [evi_rng, h, Out.bind_ok]
  exact rngO_nat _ hn
theorem evi_rng2' (a b : QE) (s : Sg) : evi (.rng2 a b) s = (ev a s).bind fun x s => (ev b s).bind fun y s => match x, y with | .int i, .int j => if rngOk i j then .ok (rngL i j) s else .bad | _, _ => .bad := rfl
theorem evi_rng2E {n : Nat} {lo : Int} {a b : QE} {s : Sg} (h1 : ev a s = .ok (.int lo) s) (h2 : ev b s = .ok (.int (lo + (n : Nat))) s) (hn : n ≤ 1000) (h0 : 0 ≤ lo) (hl : lo ≤ 1000) : evi (.rng2 a b) s = .ok ((List.range n).map fun (k : Nat) => PyData.int (lo + (k : Nat))) s := by
  have hz : sizeLine = 16777216 := PySem.sizeLine_eq
  have e1 : (lo + (n : Int) - lo).toNat = n := by omega
  have e : rngOk lo (lo + (n : Nat)) = true := by
    unfold rngOk
    rw [e1]
    simp only [Bool.and_eq_true, decide_eq_true_eq]
    exact ⟨by omega, by omega, by omega, by omega, by omega⟩
  rw [evi_rng2', h1, Out.bind_ok, h2, Out.bind_ok]
  show (if rngOk lo (lo + (n : Nat)) then Out.ok (rngL lo (lo + (n : Nat))) s else .bad) = _
  rw [if_pos e, rngL, e1]
/-- .. where there is nothing between -/
theorem evi_rng20 {lo hi : Int} {a b : QE} {s : Sg} (h1 : ev a s = .ok (.int lo) s) (h2 : ev b s = .ok (.int hi) s) (hn : hi ≤ lo) (h0 : 0 ≤ lo) (hl : lo ≤ 1000) (h3 : -1000 ≤ hi) : evi (.rng2 a b) s = .ok [] s := by
  have hz : sizeLine = 16777216 := PySem.sizeLine_eq
  have e1 : (hi - lo).toNat = 0 := by omega
  have e : rngOk lo hi = true := by
    unfold rngOk
    rw [e1]
    simp only [Bool.and_eq_true, decide_eq_true_eq]
    exact ⟨by omega, by omega, by omega, by omega, by omega⟩
  rw [evi_rng2', h1, Out.bind_ok, h2, Out.bind_ok]
  show (if rngOk lo hi then Out.ok (rngL lo hi) s else .bad) = _
  rw [if_pos e, rngL, e1]
  rfl
/-! ### choices -/
def chs (n : Nat) : Nat → Int
  | 0 => 1
  | k + 1 => chs n k * ((n : Int) - (k : Nat)) / ((k : Int) + 1)
theorem chs_bd : ∀ n, n ≤ 8 → ∀ j, j ≤ n → 1 ≤ chs n j ∧ chs n j ≤ 70 := by
  have h : ∀ n, n < 9 → ∀ j, j < n + 1 → 1 ≤ chs n j ∧ chs n j ≤ 70 := by decide +kernel
  exact fun n hn j hj => h n (by omega) j (by omega)
theorem sm_le {x : Int} {n : Nat} (h0 : -1000000 ≤ x) (h : x ≤ 1000000) (hn : 20 ≤ n) : Sm n x := by
  have : Sm 20 x := by
    unfold Sm
    have : (2 : Nat) ^ 20 = 1048576 := rfl
    omega
  exact this.mono hn
noncomputable def cB : QSs := .cons (.set 2 (.bin .fdiv (.bin .mul (.var 2) (.bin .sub (.var 0) (.var 3))) (.bin .add (.var 3) (.lit (.int 1))))) (.nil)
theorem cB_of {n k : Nat} (hn : n ≤ 8) (j : Nat) (hj : j < n) (c3 : Cell) : frS (.nm 3) cB (.int (j : Nat)) ⟨[.val (.int (n : Nat)), .val (.int (k : Nat)), .val (.int (chs n j)), c3], []⟩ = .nx ⟨[.val (.int (n : Nat)), .val (.int (k : Nat)), .val (.int (chs n (j + 1))), .val (.int (j : Nat))], []⟩ := by
  obtain ⟨b1, b2⟩ := chs_bd n hn j (by omega)
  have m1 := mul_ok (x := chs n j) (y := (n : Int) - (j : Nat)) (sm_le (by omega) (by omega) (by omega)) (sm_le (by omega) (by omega) (by omega))
  have d1 := div_ok (x := chs n j * ((n : Int) - (j : Nat))) (y := (j : Int) + 1) (sm_le (by omega) (by omega) (by omega)) (by omega)
  have s1 := sub_ii (n : Int) (j : Int)
  have a1 := add_ii (j : Int) 1
  have e : chs n (j + 1) = chs n j * ((n : Int) - (j : Nat)) / ((j : Int) + 1) := rfl
  rw [e]
  generalize chs n j = c at m1 d1
  simp [cB, m1, d1, s1, a1, -bin2]
theorem loop_choices {n k : Nat} (hn : n ≤ 8) (hk : k ≤ n) : frOf (runs q_choices ⟨[.val (.int (n : Nat)), .val (.int (k : Nat)), .no, .no], []⟩) = .ret (.int (chs n k)) [] := by
  have q : q_choices = .cons (.set 2 (.lit (.int 1))) (.cons (.fr (.nm 3) (.rng (.var 1)) cB) (.cons (.ret (.var 2)) (.nil))) := rfl
  obtain ⟨s', h1, c3, h2⟩ := frL_map (f := frS (.nm 3) cB) (fun (k : Nat) => PyData.int k) (fun p s => ∃ c3, s = ⟨[.val (.int (n : Nat)), .val (.int (k : Nat)), .val (.int (chs n p.length)), c3], []⟩) (List.range k) (fun p a r s hl hj => by
      obtain ⟨c3, rfl⟩ := hj
      obtain ⟨rfl, hlt⟩ := range_at hl
      refine ⟨_, cB_of hn _ (by omega) c3, .val (.int (p.length : Nat)), ?_⟩
      rw [List.length_append]
      rfl) ⟨[.val (.int (n : Nat)), .val (.int (k : Nat)), .val (.int 1), .no], []⟩ ⟨.no, rfl⟩
  subst h2
  rw [List.length_range] at h1
  have e1 : run (.set 2 (.lit (.int 1))) ⟨[.val (.int (n : Nat)), .val (.int (k : Nat)), .no, .no], []⟩ = .nx ⟨[.val (.int (n : Nat)), .val (.int (k : Nat)), .val (.int 1), .no], []⟩ := by simp
  have hi : evi (.rng (.var 1)) ⟨[.val (.int (n : Nat)), .val (.int (k : Nat)), .val (.int 1), .no], []⟩ = .ok ((List.range k).map fun (k : Nat) => PyData.int k) ⟨[.val (.int (n : Nat)), .val (.int (k : Nat)), .val (.int 1), .no], []⟩ := evi_rngV rfl (by omega)
  rw [q, runs_cons, e1, thn_nx, runs_cons, run_fr, hi, SOut.of_ok, h1, thn_nx, runs_cons]
  simp
theorem sem_choices {n k : Nat} (hn : n ≤ 8) (hk : k ≤ n) (dr : List D) : f_choices.sem [.int (n : Nat), .int (k : Nat)] dr = .ret (.int (chs n k)) [] := by
  have e0 : f_choices.sem [.int (n : Nat), .int (k : Nat)] dr = frOf (runs q_choices ⟨[.val (.int (n : Nat)), .val (.int (k : Nat)), .no, .no], []⟩) := by rw [f_choices]; exact sem_of rfl
  rw [e0, loop_choices hn hk]
theorem sem_law_choices {n k : Nat} (hn : n ≤ 8) (hk : k ≤ n) (dr : List D) : f__law_choices.sem [.int (n : Nat), .int (k : Nat)] dr = .ret (.int (chs n k)) [] := by
  have e0 : f__law_choices.sem [.int (n : Nat), .int (k : Nat)] dr = frOf (runs q_choices ⟨[.val (.int (n : Nat)), .val (.int (k : Nat)), .no, .no], []⟩) := by rw [f__law_choices]; exact sem_of rfl
  rw [e0, loop_choices hn hk]
/-! ### rows -/
def dRs (rs : List Rt) : D := .tuple (rs.map dP)
@[simp] theorem isD_dRs (rs : List Rt) : isD (dRs rs) = false := rfl
def rg (rs : List Rt) (k : Nat) : Rt := rs.getD k (0, 1)
theorem rg_get {rs : List Rt} {k : Nat} (h : k < rs.length) : rs[k]? = some (rg rs k) := by
  unfold rg
  rw [List.getD_eq_getElem?_getD, List.getElem?_eq_getElem h]; rfl
theorem rg_mem {rs : List Rt} {k : Nat} (h : k < rs.length) : rg rs k ∈ rs := List.mem_of_getElem? (rg_get h)
theorem ix_rs {rs : List Rt} {k : Nat} (h : k < rs.length) : ixD (dRs rs) (.int (k : Nat)) = some (dP (rg rs k)) := atI_map dP (rg_get h)
theorem ix_rsL {rs : List Rt} {k : Nat} (h : k < rs.length) : ixD (.list (rs.map dP)) (.int (k : Nat)) = some (dP (rg rs k)) := atI_map dP (rg_get h)
theorem len_rs (rs : List Rt) : bi1 .len (dRs rs) = some (.int (rs.length : Nat)) := by
  show some (PyData.int ((rs.map dP).length : Nat)) = _
  rw [List.length_map]
theorem enum_rs : ∀ (rs : List Rt) (i : Nat), enumL i (rs.map dP) = (List.range rs.length).map fun (k : Nat) => pairC (.int ((i + k : Nat) : Int)) (dP (rg rs k))
  | [], _ => rfl
  | p :: rs, i => by
    have ih := enum_rs rs (i + 1)
    rw [List.map_cons, List.length_cons, List.range_succ_eq_map, List.map_cons, List.map_map]
    show pairC (.int i) (dP p) :: enumL (i + 1) (rs.map dP) = _
    rw [ih]
    congr 1
    apply List.map_congr_left
    intro k _
    show _ = pairC (.int ((i + (k + 1) : Nat) : Int)) (dP (rg (p :: rs) (k + 1)))
    rw [show i + (k + 1) = i + 1 + k by omega]
    rfl
theorem enum_rs0 (rs : List Rt) : enumL 0 (rs.map dP) = (List.range rs.length).map fun (k : Nat) => pairC (.int (k : Nat)) (dP (rg rs k)) := by
  have := enum_rs rs 0
  simp only [Nat.zero_add] at this
  exact this
/-- rows that are asked of -/
structure Rw (rs : List Rt) : Prop where
  l1 : 1 ≤ rs.length
  l9 : rs.length ≤ 9
  ok : ∀ p ∈ rs, Okp 60 p
  red : ∀ p ∈ rs, Int.gcd p.1 p.2 = 1
  nn : ∀ p ∈ rs, 0 ≤ p.1
  some : ∃ p ∈ rs, p.1 ≠ 0
def lvl (rs : List Rt) (k : Nat) : Rt := low (rg rs k).1 ((rg rs k).2 * chs (rs.length - 1) k)
theorem lvl_ok {rs : List Rt} (R : Rw rs) {k : Nat} (hk : k < rs.length) : Okp 80 (lvl rs k) := by
  have o := R.ok _ (rg_mem hk)
  have l9 := R.l9
  obtain ⟨b1, b2⟩ := chs_bd (rs.length - 1) (by omega) k (by omega)
  exact low_ok (Int.mul_pos o.pos (by omega)) (o.num.mono (by omega)) (o.den.mul (sm_le (n := 20) (by omega) (by omega) (by omega)))
def mrg (rs : List Rt) (k : Nat) : Rt := miP (tmP (lvl rs k) (lvl rs k)) (tmP (lvl rs (k - 1)) (lvl rs (k + 1)))
theorem mrg_ok {rs : List Rt} (R : Rw rs) {k : Nat} (h1 : 1 ≤ k) (hk : k + 1 < rs.length) : Okp 400 (mrg rs k) :=
  (mi_ok (tm_ok (lvl_ok R (by omega)) (lvl_ok R (by omega))) (tm_ok (lvl_ok R (by omega)) (lvl_ok R (by omega)))).mono (by omega)
def mgs (rs : List Rt) : List Rt := (List.range (rs.length - 2)).map fun j => mrg rs (j + 1)
theorem mgs_ok {rs : List Rt} (R : Rw rs) : ∀ p ∈ mgs rs, Okp 400 p := fun p hp => by
  obtain ⟨j, hj, rfl⟩ := List.mem_map.mp hp
  exact mrg_ok R (by omega) (by have := List.mem_range.mp hj; omega)
theorem mgs_red {rs : List Rt} (R : Rw rs) : ∀ p ∈ mgs rs, Int.gcd p.1 p.2 = 1 := fun p hp => by
  obtain ⟨j, hj, rfl⟩ := List.mem_map.mp hp
  have hj' := List.mem_range.mp hj
  exact low_gcd (Int.mul_pos (tm_ok (lvl_ok R (by omega)) (lvl_ok R (by omega))).pos (tm_ok (lvl_ok R (by omega)) (lvl_ok R (by omega))).pos)
end L2.BH
set_option maxHeartbeats 1000000
namespace L2.BH
open PySem
theorem eqv_nilL (xs : List D) : PyData.eqv (.list xs) (.list []) = xs.isEmpty := by
  rw [PyData.eqv]
  cases xs with
  | nil => rw [PyData.eqvAll]; rfl
  | cons a b => simp [PyData.eqvAll]
theorem eqv_nilT (xs : List D) : PyData.eqv (.tuple xs) (.tuple []) = xs.isEmpty := by
  rw [PyData.eqv]
  cases xs with
  | nil => rw [PyData.eqvAll]; rfl
  | cons a b => simp [PyData.eqvAll]
theorem eqS_nilL (xs : List D) : eqS (.list xs) (.list []) = some xs.isEmpty := by simp [cmpOk, eqv_nilL]
theorem eqS_nilT (xs : List D) : eqS (.tuple xs) (.tuple []) = some xs.isEmpty := by simp [cmpOk, eqv_nilT]
theorem eqv_P (p q : Rt) : PyData.eqv (dP p) (dP q) = decide (p = q) := by
  unfold dP
  rw [PyData.eqv, PyData.eqvAll, PyData.eqvAll, PyData.eqvAll, eqv_int, eqv_int, Bool.and_true]
  obtain ⟨a, b⟩ := p
  obtain ⟨c, d⟩ := q
  by_cases h1 : a = c <;> by_cases h2 : b = d <;> simp [h1, h2]
theorem depth_P (p : Rt) : (dP p).depth ≤ 1 := by unfold dP; simp [PyData.depth, PyData.depthAll]
theorem shal_P (p : Rt) : shal (dP p) = true := shal_le (Nat.le_trans (depth_P p) (by omega))
theorem eqS_P (p q : Rt) : eqS (dP p) (dP q) = some (decide (p = q)) := by
  show (if cmpOk (dP p) (dP q) then some (PyData.eqv (dP p) (dP q)) else none) = _
  have : cmpOk (dP p) (dP q) = true := by unfold cmpOk; rw [shal_P]; rfl
  rw [this, eqv_P]; rfl
theorem dRs_eq (rs : List Rt) : dRs rs = .tuple (rs.map dP) := rfl
theorem rg_map {n : Nat} (f : Nat → Rt) {k : Nat} (h : k < n) : rg ((List.range n).map f) k = f k := by
  unfold rg
  rw [List.getD_eq_getElem?_getD, List.getElem?_map, List.getElem?_range h]; rfl
theorem sem_binomials {n : Nat} (hn : n ≤ 8) (dr : List D) : f_binomials.sem [.int (n : Nat)] dr = .ret (dRs ((List.range (n + 1)).map fun k => (chs n k, 1))) [] := by
  have e0 : f_binomials.sem [.int (n : Nat)] dr = frOf (runs q_binomials ⟨[.val (.int (n : Nat)), .no], []⟩) := by rw [f_binomials]; exact sem_of rfl
  have hi : evi (.rng (.bin .add (.var 0) (.lit (.int 1)))) ⟨[.val (.int (n : Nat)), .no], []⟩ = .ok ((List.range (n + 1)).map fun (k : Nat) => PyData.int k) ⟨[.val (.int (n : Nat)), .no], []⟩ := evi_rngE (by simp) (by omega)
  have hc := comp_map (elt := .tup (.cons (.call f_choices (.cons (.var 0) (.cons (.var 1) (.nil)))) (.cons (.lit (.int 1)) (.nil)))) (t := .nm 1) (fun (k : Nat) => PyData.int k) (fun k => dP (chs n k, 1)) hi (fun k hk => by
    have e := sem_choices hn (show k ≤ n by have := List.mem_range.mp hk; omega) []
    simp [e, dP])
  simp only [QP.slots, Sg.wipe, wipeC, Sg.back, backC, keepC, List.set, List.getElem?_cons_succ, List.getElem?_cons_zero] at hc
  rw [e0, q_binomials]
  simp only [runs_cons, run_ret, ev_bi, evs_cons, hc, Out.bind_ok, evs_nil]
  simp [dRs]
theorem len1 {rs : List Rt} (h : 1 ≤ rs.length) : bin2 .sub (.int (rs.length : Nat)) (.int 1) = some (.int ((rs.length - 1 : Nat) : Int)) := by
  rw [sub_ii, show (rs.length : Int) - 1 = ((rs.length - 1 : Nat) : Int) by omega]
theorem sem_levelled {rs : List Rt} (R : Rw rs) (dr : List D) : f_levelled.sem [dRs rs] dr = .ret (dRs ((List.range rs.length).map (lvl rs))) [] := by
  have l1 := R.l1
  have l9 := R.l9
  have e0 : f_levelled.sem [dRs rs] dr = frOf (runs q_levelled ⟨[.val (dRs rs), .no, .no], []⟩) := by rw [f_levelled]; exact sem_of rfl
  have hi : evi (.enm (.var 0)) ⟨[.val (dRs rs), .no, .no], []⟩ = .ok ((List.range rs.length).map fun (k : Nat) => pairC (.int (k : Nat)) (dP (rg rs k))) ⟨[.val (dRs rs), .no, .no], []⟩ := by
    simp [dRs, enum_rs0]
  have hc := comp_map (elt := .call f_divided (.cons (.var 2) (.cons (.tup (.cons (.call f_choices (.cons (.bin .sub (.bi .len (.cons (.var 0) (.nil))) (.lit (.int 1))) (.cons (.var 1) (.nil)))) (.cons (.lit (.int 1)) (.nil)))) (.nil)))) (t := .tp (.nm 1) (.nm 2)) (fun (k : Nat) => pairC (.int (k : Nat)) (dP (rg rs k))) (fun k => dP (lvl rs k)) hi (fun k hk => by
    have hk' : k < rs.length := List.mem_range.mp hk
    have o := R.ok _ (rg_mem hk')
    obtain ⟨b1, b2⟩ := chs_bd (rs.length - 1) (by omega) k (by omega)
    have e1 := sem_choices (n := rs.length - 1) (k := k) (by omega) (by omega) []
    have e2 := sem_divided (n := 60) (p := rg rs k) (q := (chs (rs.length - 1) k, 1)) (by omega) o ⟨by simp, sm_le (by simp; omega) (by simp; omega) (by omega), sm_le (by simp) (by simp) (by omega)⟩ (by simp; omega) []
    simp only [Int.mul_one] at e2
    have e3 : PyData.tuple [.int (chs (rs.length - 1) k), .int 1] = dP (chs (rs.length - 1) k, 1) := rfl
    have e4 := len_rs rs
    have e5 := len1 l1
    simp [e4, e5, e1, e3, e2, lvl, -bi1, -bin2])
  simp only [QP.slots, Sg.wipe, wipeC, Sg.back, backC, keepC, List.set, List.cons_append, List.nil_append, List.getElem?_cons_succ, List.getElem?_cons_zero] at hc
  rw [e0, q_levelled]
  simp only [runs_cons, run_ret, ev_bi, evs_cons, hc, Out.bind_ok, evs_nil]
  simp [dRs]
theorem evi_mid {rs : List Rt} (R : Rw rs) {cs : List Cell} {e : QE} (h : ev e ⟨cs, []⟩ = .ok (.int (rs.length : Nat)) ⟨cs, []⟩) : evi (.rng2 (.lit (.int 1)) (.bin .sub e (.lit (.int 1)))) ⟨cs, []⟩ = .ok ((List.range (rs.length - 2)).map fun (j : Nat) => PyData.int ((j + 1 : Nat) : Int)) ⟨cs, []⟩ := by
  have l1 := R.l1
  have l9 := R.l9
  have h2 : ev (.bin .sub e (.lit (.int 1))) ⟨cs, []⟩ = .ok (.int ((rs.length : Int) - 1)) ⟨cs, []⟩ := by
    simp [h]
  by_cases h3 : rs.length = 1
  · rw [evi_rng20 (lo := 1) (hi := (rs.length : Int) - 1) (by simp) h2 (by omega) (by omega) (by omega) (by omega)]
    rw [h3]; rfl
  · have e : (rs.length : Int) - 1 = 1 + ((rs.length - 2 : Nat) : Int) := by omega
    rw [e] at h2
    rw [evi_rng2E (lo := 1) (n := rs.length - 2) (by simp) h2 (by omega) (by omega) (by omega)]
    congr 1
    apply List.map_congr_left
    intro k _
    rw [show (1 : Int) + (k : Nat) = ((k + 1 : Nat) : Int) by omega]
theorem sem_margins_of {rs : List Rt} (R : Rw rs) (dr : List D) : f_margins_of.sem [dRs rs] dr = .ret (dRs (mgs rs)) [] := by
  have e0 : f_margins_of.sem [dRs rs] dr = frOf (runs q_margins_of ⟨[.val (dRs rs), .no, .no], []⟩) := by rw [f_margins_of]; exact sem_of rfl
  obtain ⟨L, hL⟩ : ∃ L, L = (List.range rs.length).map (lvl rs) := ⟨_, rfl⟩
  have eL := sem_levelled R []
  rw [← hL] at eL
  have lL : L.length = rs.length := by rw [hL]; simp
  have e4 := len_rs rs
  have hi : evi (.rng2 (.lit (.int 1)) (.bin .sub (.bi .len (.cons (.var 0) (.nil))) (.lit (.int 1)))) ⟨[.val (dRs rs), .val (dRs L), .no], []⟩ = .ok ((List.range (rs.length - 2)).map fun (j : Nat) => PyData.int ((j + 1 : Nat) : Int)) ⟨[.val (dRs rs), .val (dRs L), .no], []⟩ := evi_mid R (by simp [e4, -bi1])
  have hc := comp_map (elt := .call f_minus (.cons (.call f_times (.cons (.ix (.var 1) (.var 2)) (.cons (.ix (.var 1) (.var 2)) (.nil)))) (.cons (.call f_times (.cons (.ix (.var 1) (.bin .sub (.var 2) (.lit (.int 1)))) (.cons (.ix (.var 1) (.bin .add (.var 2) (.lit (.int 1)))) (.nil)))) (.nil)))) (t := .nm 2) (fun (j : Nat) => PyData.int ((j + 1 : Nat) : Int)) (fun j => dP (mrg rs (j + 1))) hi (fun j hj => by
    have hj' := List.mem_range.mp hj
    have g0 : rg L j = lvl rs j := by rw [hL]; exact rg_map _ (by omega)
    have g1 : rg L (j + 1) = lvl rs (j + 1) := by rw [hL]; exact rg_map _ (by omega)
    have g2 : rg L (j + 2) = lvl rs (j + 2) := by rw [hL]; exact rg_map _ (by omega)
    have i0 := ix_rs (rs := L) (k := j) (by omega)
    have i1 := ix_rs (rs := L) (k := j + 1) (by omega)
    have i2 := ix_rs (rs := L) (k := j + 2) (by omega)
    rw [g0] at i0
    rw [g1] at i1
    rw [g2] at i2
    have s1 : bin2 .sub (.int ((j + 1 : Nat) : Int)) (.int 1) = some (.int (j : Nat)) := by rw [sub_ii, show ((j + 1 : Nat) : Int) - 1 = (j : Nat) by omega]
    have s2 : bin2 .add (.int ((j + 1 : Nat) : Int)) (.int 1) = some (.int ((j + 2 : Nat) : Int)) := by rw [add_ii, show ((j + 1 : Nat) : Int) + 1 = ((j + 2 : Nat) : Int) by omega]
    have o0 := lvl_ok R (k := j) (by omega)
    have o1 := lvl_ok R (k := j + 1) (by omega)
    have o2 := lvl_ok R (k := j + 2) (by omega)
    have t1 := sem_times (by omega) o1 o1 []
    have t2 := sem_times (by omega) o0 o2 []
    have t3 := sem_minus (n := 160) (by omega) (tm_ok o1 o1) (tm_ok o0 o2) []
    have em : mrg rs (j + 1) = miP (tmP (lvl rs (j + 1)) (lvl rs (j + 1))) (tmP (lvl rs j) (lvl rs (j + 2))) := rfl
    rw [em]
    generalize ((j + 1 : Nat) : Int) = J at *
    generalize ((j + 2 : Nat) : Int) = J2 at *
    simp [i0, i1, i2, s1, s2, t1, t2, t3, -bin2, -ixD])
  simp only [QP.slots, Sg.wipe, wipeC, Sg.back, backC, keepC, List.set, List.getElem?_cons_succ, List.getElem?_cons_zero] at hc
  have em : (List.range (rs.length - 2)).map (fun j => dP (mrg rs (j + 1))) = (mgs rs).map dP := by unfold mgs; rw [List.map_map]; rfl
  rw [em] at hc
  have e1 : run (.set 1 (.call f_levelled (.cons (.var 0) (.nil)))) ⟨[.val (dRs rs), .no, .no], []⟩ = .nx ⟨[.val (dRs rs), .val (dRs L), .no], []⟩ := by simp [eL]
  rw [e0, q_margins_of, runs_cons, e1, thn_nx]
  simp only [runs_cons, run_ret, ev_bi, evs_cons, hc, Out.bind_ok, evs_nil]
  simp [dRs]
end L2.BH
set_option maxHeartbeats 1000000
namespace L2.BH
open PySem
theorem sem_law_margins {rs : List Rt} (R : Rw rs) (dr : List D) : f__law_margins.sem [dRs rs] dr = .ret (.list ((mgs rs).map dP)) [] := by
  have l1 := R.l1
  have l9 := R.l9
  have e0 : f__law_margins.sem [dRs rs] dr = frOf (runs q__law_margins ⟨[.val (dRs rs), .no, .no], []⟩) := by rw [f__law_margins]; exact sem_of rfl
  have e4 := len_rs rs
  have hi0 : evi (.rng (.bi .len (.cons (.var 0) (.nil)))) ⟨[.val (dRs rs), .no, .no], []⟩ = .ok ((List.range rs.length).map fun (k : Nat) => PyData.int k) ⟨[.val (dRs rs), .no, .no], []⟩ := evi_rngE (by simp [e4, -bi1]) (by omega)
  have hc0 := comp_map (elt := .call f__law_low (.cons (.ix (.ix (.var 0) (.var 2)) (.lit (.int 0))) (.cons (.bin .mul (.ix (.ix (.var 0) (.var 2)) (.lit (.int 1))) (.call f__law_choices (.cons (.bin .sub (.bi .len (.cons (.var 0) (.nil))) (.lit (.int 1))) (.cons (.var 2) (.nil))))) (.nil)))) (t := .nm 2) (fun (k : Nat) => PyData.int k) (fun k => dP (lvl rs k)) hi0 (fun k hk => by
    have hk' : k < rs.length := List.mem_range.mp hk
    have o := R.ok _ (rg_mem hk')
    obtain ⟨b1, b2⟩ := chs_bd (rs.length - 1) (by omega) k (by omega)
    have e1 := sem_law_choices (n := rs.length - 1) (k := k) (by omega) (by omega) []
    have i0 := ix_rs (rs := rs) (k := k) hk'
    have e5 := len1 l1
    have sc : Sm 20 (chs (rs.length - 1) k) := sm_le (by omega) (by omega) (by omega)
    have m1 := mul_ok (x := (rg rs k).2) (y := chs (rs.length - 1) k) (o.den.mono (by omega)) (sc.mono (by omega))
    have e2 := sem_low (a := (rg rs k).1) (b := (rg rs k).2 * chs (rs.length - 1) k) (Int.mul_pos o.pos (by omega)) ((o.den.mul sc).mono (by omega)) []
    simp [e4, e5, e1, i0, ix_p0, ix_p1, m1, e2, lvl, -bi1, -bin2, -ixD])
  simp only [QP.slots, Sg.wipe, wipeC, Sg.back, backC, keepC, List.set, List.getElem?_cons_succ, List.getElem?_cons_zero] at hc0
  obtain ⟨L, hL⟩ : ∃ L, L = (List.range rs.length).map (lvl rs) := ⟨_, rfl⟩
  have eL : (List.range rs.length).map (fun k => dP (lvl rs k)) = L.map dP := by rw [hL, List.map_map]; rfl
  rw [eL] at hc0
  have lL : L.length = rs.length := by rw [hL]; simp
  have hi : evi (.rng2 (.lit (.int 1)) (.bin .sub (.bi .len (.cons (.var 0) (.nil))) (.lit (.int 1)))) ⟨[.val (dRs rs), .val (.list (L.map dP)), .no], []⟩ = .ok ((List.range (rs.length - 2)).map fun (j : Nat) => PyData.int ((j + 1 : Nat) : Int)) ⟨[.val (dRs rs), .val (.list (L.map dP)), .no], []⟩ := evi_mid R (by simp [e4, -bi1])
  have hc := comp_map (elt := .call f__law_minus (.cons (.call f__law_times (.cons (.ix (.var 1) (.var 2)) (.cons (.ix (.var 1) (.var 2)) (.nil)))) (.cons (.call f__law_times (.cons (.ix (.var 1) (.bin .sub (.var 2) (.lit (.int 1)))) (.cons (.ix (.var 1) (.bin .add (.var 2) (.lit (.int 1)))) (.nil)))) (.nil)))) (t := .nm 2) (fun (j : Nat) => PyData.int ((j + 1 : Nat) : Int)) (fun j => dP (mrg rs (j + 1))) hi (fun j hj => by
    have hj' := List.mem_range.mp hj
    have g0 : rg L j = lvl rs j := by rw [hL]; exact rg_map _ (by omega)
    have g1 : rg L (j + 1) = lvl rs (j + 1) := by rw [hL]; exact rg_map _ (by omega)
    have g2 : rg L (j + 2) = lvl rs (j + 2) := by rw [hL]; exact rg_map _ (by omega)
    have i0 := ix_rsL (rs := L) (k := j) (by omega)
    have i1 := ix_rsL (rs := L) (k := j + 1) (by omega)
    have i2 := ix_rsL (rs := L) (k := j + 2) (by omega)
    rw [g0] at i0
    rw [g1] at i1
    rw [g2] at i2
    have s1 : bin2 .sub (.int ((j + 1 : Nat) : Int)) (.int 1) = some (.int (j : Nat)) := by rw [sub_ii, show ((j + 1 : Nat) : Int) - 1 = (j : Nat) by omega]
    have s2 : bin2 .add (.int ((j + 1 : Nat) : Int)) (.int 1) = some (.int ((j + 2 : Nat) : Int)) := by rw [add_ii, show ((j + 1 : Nat) : Int) + 1 = ((j + 2 : Nat) : Int) by omega]
    have o0 := lvl_ok R (k := j) (by omega)
    have o1 := lvl_ok R (k := j + 1) (by omega)
    have o2 := lvl_ok R (k := j + 2) (by omega)
    have t1 := sem_law_times (by omega) o1 o1 []
    have t2 := sem_law_times (by omega) o0 o2 []
    have t3 := sem_law_minus (n := 160) (by omega) (tm_ok o1 o1) (tm_ok o0 o2) []
    have em : mrg rs (j + 1) = miP (tmP (lvl rs (j + 1)) (lvl rs (j + 1))) (tmP (lvl rs j) (lvl rs (j + 2))) := rfl
    rw [em]
    generalize ((j + 1 : Nat) : Int) = J at *
    generalize ((j + 2 : Nat) : Int) = J2 at *
    simp [i0, i1, i2, s1, s2, t1, t2, t3, -bin2, -ixD])
  simp only [QP.slots, Sg.wipe, wipeC, Sg.back, backC, keepC, List.set, List.getElem?_cons_succ, List.getElem?_cons_zero] at hc
  have em : (List.range (rs.length - 2)).map (fun j => dP (mrg rs (j + 1))) = (mgs rs).map dP := by unfold mgs; rw [List.map_map]; rfl
  rw [em] at hc
  rw [e0, q__law_margins, runs_cons, run_set, hc0, SOut.of_ok]
  simp only [put_mk, List.set, thn_nx, runs_cons, run_ret, hc, SOut.of_ok, thn_ret, frOf_ret]
/-! breaks and gaps -/
def brk (rs : List Rt) : List Nat := (List.range (rs.length - 2)).filter fun j => decide ((mrg rs (j + 1)).1 < 0)
def dNs (l : List Nat) : D := .tuple (l.map fun (j : Nat) => PyData.int j)
def brs (rs : List Rt) : List Nat := (brk rs).map (· + 1)
theorem mgs_len (rs : List Rt) : (mgs rs).length = rs.length - 2 := by unfold mgs; simp
theorem mgs_at {rs : List Rt} {j : Nat} (h : j < rs.length - 2) : rg (mgs rs) j = mrg rs (j + 1) := rg_map _ h
theorem sem_row_breaks {rs : List Rt} (R : Rw rs) (dr : List D) : f_row_breaks.sem [dRs rs] dr = .ret (dNs (brs rs)) [] := by
  have e0 : f_row_breaks.sem [dRs rs] dr = frOf (runs q_row_breaks ⟨[.val (dRs rs), .no, .no], []⟩) := by rw [f_row_breaks]; exact sem_of rfl
  have e1 := sem_margins_of R []
  have hi : evi (.enm (.call f_margins_of (.cons (.var 0) (.nil)))) ⟨[.val (dRs rs), .no, .no], []⟩ = .ok ((List.range (rs.length - 2)).map fun (k : Nat) => pairC (.int (k : Nat)) (dP (mrg rs (k + 1)))) ⟨[.val (dRs rs), .no, .no], []⟩ := by
    have : (List.range (mgs rs).length).map (fun (k : Nat) => pairC (.int (k : Nat)) (dP (rg (mgs rs) k))) = (List.range (rs.length - 2)).map fun (k : Nat) => pairC (.int (k : Nat)) (dP (mrg rs (k + 1))) := by
      rw [mgs_len]
      apply List.map_congr_left
      intro k hk
      rw [mgs_at (List.mem_range.mp hk)]
    have it : (itemsOf (dRs (mgs rs))).map (enumL 0) = some ((List.range (mgs rs).length).map fun (k : Nat) => pairC (.int (k : Nat)) (dP (rg (mgs rs) k))) := by
      show some (enumL 0 ((mgs rs).map dP)) = _
      rw [enum_rs0]
    rw [← this, evi_enm, ev_call]
    simp [e1, it, -itemsOf, -Option.map_eq_some_iff]
  have hc := comp_flt (elt := .bin .add (.var 1) (.lit (.int 1))) (c := .call f_less (.cons (.var 2) (.cons (.con "ZERO" (.tuple (([0, 1] : List Int).map .int))) (.nil)))) (t := .tp (.nm 1) (.nm 2)) (fun (k : Nat) => pairC (.int (k : Nat)) (dP (mrg rs (k + 1)))) (fun j => decide ((mrg rs (j + 1)).1 < 0)) (fun j => PyData.int ((j + 1 : Nat) : Int)) hi (fun j hj => by
    have hj' := List.mem_range.mp hj
    have o := mrg_ok R (k := j + 1) (by omega) (by omega)
    have e2 := sem_less0 (p := mrg rs (j + 1)) (n := 400) (by omega) o.num o.den []
    have ez : PyData.tuple (([0, 1] : List Int).map .int) = dP (0, 1) := rfl
    have s2 : bin2 .add (.int (j : Nat)) (.int 1) = some (.int ((j + 1 : Nat) : Int)) := by rw [add_ii, show (j : Int) + 1 = ((j + 1 : Nat) : Int) by omega]
    rw [ez, turn_eq1]
    generalize mrg rs (j + 1) = p at *
    generalize ((j + 1 : Nat) : Int) = J at *
    by_cases h : p.1 < 0
    · rw [decide_eq_true h] at e2 ⊢
      simp [e2, s2, -bin2]
    · rw [decide_eq_false h] at e2 ⊢
      simp [e2, s2, -bin2])
  simp only [QP.slots, Sg.wipe, wipeC, Sg.back, backC, keepC, List.set, List.cons_append, List.nil_append, List.getElem?_cons_succ, List.getElem?_cons_zero] at hc
  rw [e0, q_row_breaks]
  simp only [runs_cons, run_ret, ev_bi, evs_cons, hc, Out.bind_ok, evs_nil]
  simp [dNs, brs, brk]
def thr (rs : List Rt) : List Nat := (List.range rs.length).filter fun k => decide ((rg rs k).1 ≠ 0)
theorem zero_iff {rs : List Rt} (R : Rw rs) {k : Nat} (h : k < rs.length) : rg rs k = (0, 1) ↔ (rg rs k).1 = 0 := by
  have o := R.ok _ (rg_mem h)
  have r := R.red _ (rg_mem h)
  constructor
  · intro e; rw [e]
  · intro e
    rw [e, Int.gcd_zero_left] at r
    have := o.pos
    refine Prod.ext e ?_
    show (rg rs k).2 = 1
    omega
theorem thr_ne {rs : List Rt} (R : Rw rs) : thr rs ≠ [] := by
  obtain ⟨p, hp, h⟩ := R.some
  obtain ⟨k, hk, e⟩ := List.mem_iff_getElem.mp hp
  have : k ∈ thr rs := by
    unfold thr
    rw [List.mem_filter]
    refine ⟨List.mem_range.mpr hk, decide_eq_true ?_⟩
    have := rg_get hk
    rw [List.getElem?_eq_getElem hk] at this
    rw [← Option.some.inj this, e]
    exact h
  intro z
  rw [z] at this
  cases this
def fst (l : List Nat) : Nat := l.headD 0
def lst (l : List Nat) : Nat := l.getLastD 0
def gps (rs : List Rt) : List Nat := (List.range rs.length).filter fun k => decide ((rg rs k).1 = 0) && (decide (fst (thr rs) < k) && decide (k < lst (thr rs)))
theorem ix_hd {l : List Nat} (h : l ≠ []) : ixD (.list (l.map fun (j : Nat) => PyData.int j)) (.int 0) = some (.int (fst l : Nat)) := by
  cases l with
  | nil => exact absurd rfl h
  | cons a l => exact L2.atI_nat (j := 0) rfl
theorem ix_lt {l : List Nat} (h : l ≠ []) : ixD (.list (l.map fun (j : Nat) => PyData.int j)) (.int (-1)) = some (.int (lst l : Nat)) := by
  have e := L2.atI_last ((l.dropLast).map fun (j : Nat) => PyData.int j) (PyData.int ((l.getLast h : Nat) : Int))
  have e2 : (l.map fun (j : Nat) => PyData.int j) = ((l.dropLast).map fun (j : Nat) => PyData.int j) ++ [PyData.int ((l.getLast h : Nat) : Int)] := by
    conv => lhs; rw [← List.dropLast_concat_getLast h]
    rw [List.map_append]; rfl
  rw [← e2] at e
  have e3 : lst l = l.getLast h := by
    unfold lst
    rw [List.getLastD_eq_getLast?, List.getLast?_eq_some_getLast h]; rfl
  rw [e3]
  exact e
theorem sem_row_gaps {rs : List Rt} (R : Rw rs) (dr : List D) : f_row_gaps.sem [dRs rs] dr = .ret (dNs (gps rs)) [] := by
  have e0 : f_row_gaps.sem [dRs rs] dr = frOf (runs q_row_gaps ⟨[.val (dRs rs), .no, .no, .no], []⟩) := by rw [f_row_gaps]; exact sem_of rfl
  have ez : PyData.tuple (([0, 1] : List Int).map .int) = dP (0, 1) := rfl
  have hi1 : evi (.enm (.var 0)) ⟨[.val (dRs rs), .no, .no, .no], []⟩ = .ok ((List.range rs.length).map fun (k : Nat) => pairC (.int (k : Nat)) (dP (rg rs k))) ⟨[.val (dRs rs), .no, .no, .no], []⟩ := by
    simp [dRs, enum_rs0]
  have hc1 := comp_flt (elt := .var 2) (c := .cmp .ne (.var 3) (.con "ZERO" (.tuple (([0, 1] : List Int).map .int)))) (t := .tp (.nm 2) (.nm 3)) (fun (k : Nat) => pairC (.int (k : Nat)) (dP (rg rs k))) (fun k => decide ((rg rs k).1 ≠ 0)) (fun (k : Nat) => PyData.int k) hi1 (fun k hk => by
    have z := zero_iff R (List.mem_range.mp hk)
    have e1 := eqS_P (rg rs k) (0, 1)
    rw [ez, turn_eq1]
    generalize rg rs k = p at *
    by_cases h : p.1 = 0
    · rw [decide_eq_true (z.mpr h)] at e1
      simp [e1, h, -eqS]
    · rw [decide_eq_false (fun q => h (z.mp q))] at e1
      simp [e1, h, -eqS])
  simp only [QP.slots, Sg.wipe, wipeC, Sg.back, backC, keepC, List.set, List.cons_append, List.nil_append, List.getElem?_cons_succ, List.getElem?_cons_zero] at hc1
  have ht : ((List.range rs.length).filter fun k => decide ((rg rs k).1 ≠ 0)) = thr rs := rfl
  rw [ht] at hc1
  have hn := thr_ne R
  have i0 := ix_hd hn
  have i1 := ix_lt hn
  obtain ⟨T, hT⟩ : ∃ T, T = (thr rs).map fun (k : Nat) => PyData.int k := ⟨_, rfl⟩
  have hTn : T ≠ [] := by rw [hT]; simpa using hn
  rw [← hT] at hc1 i0 i1
  have hi2 : evi (.enm (.var 0)) ⟨[.val (dRs rs), .val (.list T), .no, .no], []⟩ = .ok ((List.range rs.length).map fun (k : Nat) => pairC (.int (k : Nat)) (dP (rg rs k))) ⟨[.val (dRs rs), .val (.list T), .no, .no], []⟩ := by
    simp [dRs, enum_rs0]
  have hc2 := comp_flt (elt := .var 2) (c := .and (.cmp .eq (.var 3) (.con "ZERO" (.tuple (([0, 1] : List Int).map .int)))) (.and (.var 1) (.chn .lt .lt (.ix (.var 1) (.lit (.int 0))) (.var 2) (.ix (.var 1) (.neg (.lit (.int 1))))))) (t := .tp (.nm 2) (.nm 3)) (fun (k : Nat) => pairC (.int (k : Nat)) (dP (rg rs k))) (fun k => decide ((rg rs k).1 = 0) && (decide (fst (thr rs) < k) && decide (k < lst (thr rs)))) (fun (k : Nat) => PyData.int k) hi2 (fun k hk => by
    have z := zero_iff R (List.mem_range.mp hk)
    have e1 := eqS_P (rg rs k) (0, 1)
    have et : tru (.list T) = true := by
      cases T with
      | nil => exact absurd rfl hTn
      | cons _ _ => rfl
    rw [ez, turn_eq1]
    generalize rg rs k = p at *
    generalize fst (thr rs) = a at *
    generalize lst (thr rs) = b at *
    by_cases h : p.1 = 0
    · rw [decide_eq_true (z.mpr h)] at e1
      by_cases h1 : a < k <;> by_cases h2 : k < b <;> simp [e1, h, h1, h2, et, i0, i1, -eqS, -ixD, -tru]
    · rw [decide_eq_false (fun q => h (z.mp q))] at e1
      simp [e1, h, -eqS])
  simp only [QP.slots, Sg.wipe, wipeC, Sg.back, backC, keepC, List.set, List.cons_append, List.nil_append, List.getElem?_cons_succ, List.getElem?_cons_zero] at hc2
  rw [e0, q_row_gaps, runs_cons, run_set, hc1, SOut.of_ok]
  simp only [put_mk, List.set, thn_nx, runs_cons, run_ret, ev_bi, evs_cons, hc2, Out.bind_ok, evs_nil]
  simp [dNs, gps]
end L2.BH
set_option maxHeartbeats 1000000
namespace L2.BH
open PySem
theorem mid_filter {len a b : Nat} (z : Nat → Bool) (hz : z a = false) (hab : a ≤ b) (hb : b ≤ len) : (List.range len).filter (fun k => z k && (decide (a < k) && decide (k < b))) = ((List.range (b - a)).map (a + ·)).filter z := by
  have e1 : List.range len = List.range' 0 a ++ (List.range' a (b - a) ++ List.range' b (len - b)) := by
    have h1 := List.range'_append_1 (s := a) (m := b - a) (n := len - b)
    rw [show a + (b - a) = b by omega, show b - a + (len - b) = len - a by omega] at h1
    have h2 := List.range'_append_1 (s := 0) (m := a) (n := len - a)
    rw [show 0 + a = a by omega, show a + (len - a) = len by omega] at h2
    rw [h1, h2, List.range_eq_range']
  have e2 : (List.range (b - a)).map (a + ·) = List.range' a (b - a) := List.range'_eq_map_range.symm
  rw [e1, e2, List.filter_append, List.filter_append]
  have f1 : (List.range' 0 a).filter (fun k => z k && (decide (a < k) && decide (k < b))) = [] := by
    rw [List.filter_eq_nil_iff]
    intro k hk
    rw [List.mem_range'_1] at hk
    have : ¬ a < k := by omega
    simp [this]
  have f3 : (List.range' b (len - b)).filter (fun k => z k && (decide (a < k) && decide (k < b))) = [] := by
    rw [List.filter_eq_nil_iff]
    intro k hk
    rw [List.mem_range'_1] at hk
    have : ¬ k < b := by omega
    simp [this]
  rw [f1, f3, List.nil_append, List.append_nil]
  apply List.filter_congr
  intro k hk
  rw [List.mem_range'_1] at hk
  by_cases h : k = a
  · rw [h, hz]; rfl
  · have h1 : a < k := by omega
    have h2 : k < b := by omega
    simp [h1, h2]
theorem thr_ends {rs : List Rt} (R : Rw rs) : fst (thr rs) ≤ lst (thr rs) ∧ lst (thr rs) < rs.length ∧ (rg rs (fst (thr rs))).1 ≠ 0 := by
  have hn := thr_ne R
  have hp : (thr rs).Pairwise (· < ·) := List.Pairwise.filter _ List.pairwise_lt_range
  have hm : ∀ k ∈ thr rs, k < rs.length ∧ (rg rs k).1 ≠ 0 := fun k hk => by
    unfold thr at hk
    rw [List.mem_filter] at hk
    exact ⟨List.mem_range.mp hk.1, of_decide_eq_true hk.2⟩
  have hl : lst (thr rs) = (thr rs).getLast hn := by
    unfold lst
    rw [List.getLastD_eq_getLast?, List.getLast?_eq_some_getLast hn]; rfl
  have h2 := hm _ (List.getLast_mem hn)
  rw [← hl] at h2
  generalize thr rs = l at *
  cases l with
  | nil => exact absurd rfl hn
  | cons a r =>
    refine ⟨?_, h2.1, (hm a List.mem_cons_self).2⟩
    show a ≤ _
    rw [hl]
    rcases List.mem_cons.mp (List.getLast_mem hn) with e | e
    · omega
    · have := (List.pairwise_cons.mp hp).1 _ e
      omega
theorem gps_mid {rs : List Rt} (R : Rw rs) : ((List.range (lst (thr rs) - fst (thr rs))).filter fun k => decide ((rg rs (fst (thr rs) + k)).1 = 0)).map (fun (k : Nat) => PyData.int ((fst (thr rs) + k : Nat) : Int)) = (gps rs).map fun (k : Nat) => PyData.int k := by
  obtain ⟨h1, h2, h3⟩ := thr_ends R
  have e := mid_filter (len := rs.length) (fun k => decide ((rg rs k).1 = 0)) (decide_eq_false h3) h1 (by omega)
  have e2 : gps rs = ((List.range (lst (thr rs) - fst (thr rs))).map (fst (thr rs) + ·)).filter fun k => decide ((rg rs k).1 = 0) := e
  rw [e2, List.filter_map, List.map_map]
  rfl
theorem sem_law_gaps {rs : List Rt} (R : Rw rs) (dr : List D) : f__law_gaps.sem [dRs rs] dr = .ret (.list ((gps rs).map fun (k : Nat) => PyData.int k)) [] := by
  have l9 := R.l9
  have e0 : f__law_gaps.sem [dRs rs] dr = frOf (runs q__law_gaps ⟨[.val (dRs rs), .no, .no], []⟩) := by rw [f__law_gaps]; exact sem_of rfl
  have e4 := len_rs rs
  have hi1 : evi (.rng (.bi .len (.cons (.var 0) (.nil)))) ⟨[.val (dRs rs), .no, .no], []⟩ = .ok ((List.range rs.length).map fun (k : Nat) => PyData.int k) ⟨[.val (dRs rs), .no, .no], []⟩ := evi_rngE (by simp [e4, -bi1]) (by omega)
  have hc1 := comp_flt (elt := .var 2) (c := .cmp .ne (.ix (.ix (.var 0) (.var 2)) (.lit (.int 0))) (.lit (.int 0))) (t := .nm 2) (fun (k : Nat) => PyData.int k) (fun k => decide ((rg rs k).1 ≠ 0)) (fun (k : Nat) => PyData.int k) hi1 (fun k hk => by
    have i0 := ix_rs (rs := rs) (k := k) (List.mem_range.mp hk)
    rw [turn_eq1]
    by_cases h : (rg rs k).1 = 0 <;> simp [i0, ix_p0, h, eqS_int, -eqS, -ixD])
  simp only [QP.slots, Sg.wipe, wipeC, Sg.back, backC, keepC, List.set, List.getElem?_cons_succ, List.getElem?_cons_zero] at hc1
  have ht : ((List.range rs.length).filter fun k => decide ((rg rs k).1 ≠ 0)) = thr rs := rfl
  rw [ht] at hc1
  have hn := thr_ne R
  have i0 := ix_hd hn
  have i1 := ix_lt hn
  obtain ⟨t1, t2, t3⟩ := thr_ends R
  have gm := gps_mid R
  obtain ⟨T, hT⟩ : ∃ T, T = (thr rs).map fun (k : Nat) => PyData.int k := ⟨_, rfl⟩
  have hTn : T ≠ [] := by rw [hT]; simpa using hn
  rw [← hT] at hc1 i0 i1
  generalize fst (thr rs) = a at *
  generalize lst (thr rs) = b at *
  have hi2 : evi (.rng2 (.ix (.var 1) (.lit (.int 0))) (.ix (.var 1) (.neg (.lit (.int 1))))) ⟨[.val (dRs rs), .val (.list T), .no], []⟩ = .ok ((List.range (b - a)).map fun (k : Nat) => PyData.int ((a + k : Nat) : Int)) ⟨[.val (dRs rs), .val (.list T), .no], []⟩ := by
    rw [evi_rng2E (lo := (a : Int)) (n := b - a) (by simp [i0, -ixD]) (by simp [i1, -ixD]; omega) (by omega) (by omega) (by omega)]
    congr 1
  have hc2 := comp_flt (elt := .var 2) (c := .cmp .eq (.ix (.ix (.var 0) (.var 2)) (.lit (.int 0))) (.lit (.int 0))) (t := .nm 2) (fun (k : Nat) => PyData.int ((a + k : Nat) : Int)) (fun k => decide ((rg rs (a + k)).1 = 0)) (fun (k : Nat) => PyData.int ((a + k : Nat) : Int)) hi2 (fun k hk => by
    have i0 := ix_rs (rs := rs) (k := a + k) (by have := List.mem_range.mp hk; omega)
    rw [turn_eq1]
    generalize ((a + k : Nat) : Int) = J at *
    by_cases h : (rg rs (a + k)).1 = 0 <;> simp [i0, ix_p0, h, eqS_int, -eqS, -ixD])
  simp only [QP.slots, Sg.wipe, wipeC, Sg.back, backC, keepC, List.set, List.getElem?_cons_succ, List.getElem?_cons_zero] at hc2
  rw [gm] at hc2
  have en := eqS_nilL T
  have hTe : T.isEmpty = false := by
    cases T with
    | nil => exact absurd rfl hTn
    | cons _ _ => rfl
  rw [hTe] at en
  rw [e0, q__law_gaps, runs_cons, run_set, hc1, SOut.of_ok]
  simp only [put_mk, List.set, thn_nx, runs_cons, run_ret, ev_ifx]
  simp [en, hc2, -eqS]
def bul (rs : List Rt) : Bool := (brs rs).isEmpty && (gps rs).isEmpty
theorem sem_row_bulges {rs : List Rt} (R : Rw rs) (dr : List D) : f_row_bulges.sem [dRs rs] dr = .ret (.bool (bul rs)) [] := by
  have e0 : f_row_bulges.sem [dRs rs] dr = frOf (runs q_row_bulges ⟨[.val (dRs rs)], []⟩) := by rw [f_row_bulges]; exact sem_of rfl
  have e1 := sem_row_breaks R []
  have e2 := sem_row_gaps R []
  have e3 : eqS (dNs (brs rs)) (.tuple []) = some (brs rs).isEmpty := by
    show eqS (.tuple _) (.tuple []) = _
    rw [eqS_nilT, List.isEmpty_map]
  have e4 : eqS (dNs (gps rs)) (.tuple []) = some (gps rs).isEmpty := by
    show eqS (.tuple _) (.tuple []) = _
    rw [eqS_nilT, List.isEmpty_map]
  rw [e0, q_row_bulges]
  unfold bul
  cases h : (brs rs).isEmpty <;> rw [h] at e3 <;> simp [e1, e2, e3, e4, -eqS]
theorem sem_law_row_bulges {rs : List Rt} (R : Rw rs) (dr : List D) : f__law_row_bulges.sem [dRs rs] dr = .ret (.bool (bul rs)) [] := by
  have e0 : f__law_row_bulges.sem [dRs rs] dr = frOf (runs q__law_row_bulges ⟨[.val (dRs rs), .no], []⟩) := by rw [f__law_row_bulges]; exact sem_of rfl
  have e1 := sem_law_margins R []
  have e2 := sem_law_gaps R []
  have hi : evi (.e (.call f__law_margins (.cons (.var 0) (.nil)))) ⟨[.val (dRs rs), .no], []⟩ = .ok ((mgs rs).map dP) ⟨[.val (dRs rs), .no], []⟩ := by simp [e1]
  have hc := comp_flt (elt := .var 1) (c := .cmp .lt (.ix (.var 1) (.lit (.int 0))) (.lit (.int 0))) (t := .nm 1) dP (fun p => decide (p.1 < 0)) dP hi (fun p hp => by
    rw [turn_eq1]
    by_cases h : p.1 < 0 <;> simp [ix_p0, h, -ixD])
  simp only [QP.slots, Sg.wipe, wipeC, Sg.back, backC, keepC, List.set, List.getElem?_cons_succ, List.getElem?_cons_zero] at hc
  have eb : (((mgs rs).filter fun p => decide (p.1 < 0)).map dP).isEmpty = (brs rs).isEmpty := by
    unfold brs brk mgs
    rw [List.isEmpty_map, List.isEmpty_map, List.filter_map, List.isEmpty_map]
    rfl
  have e3 := eqS_nilL (((mgs rs).filter fun p => decide (p.1 < 0)).map dP)
  rw [eb] at e3
  have e4 := eqS_nilL ((gps rs).map fun (k : Nat) => PyData.int k)
  rw [List.isEmpty_map] at e4
  rw [e0, q__law_row_bulges]
  unfold bul
  cases h : (brs rs).isEmpty <;> rw [h] at e3 <;> simp [hc, e2, e3, e4, -eqS]
/-! ### ratios, rows of ratios -/
/-- a value with no dict at its first level -/
def flat1 (v : D) : Bool := match v with | .tuple xs => noDs xs | .list xs => noDs xs | .dict _ => false | _ => true
def isI1 : D → Bool
  | .int _ => true
  | _ => false
def isRat : D → Bool
  | .tuple [.int a, .int b] => decide (1 ≤ b) && decide (Int.gcd a b = 1)
  | _ => false
theorem rt_eq (v : D) : f_is_ratio.sem [v] [] = frOf (runs q_is_ratio ⟨[.val v, .no], []⟩) := by rw [f_is_ratio]; exact sem_of rfl
theorem sem_is_ratio {v : D} (hv : flat1 v = true) : f_is_ratio.sem [v] [] = .ret (.bool (isRat v)) [] := by
  cases v with
  | dict _ => cases hv
  | none => rw [rt_eq, q_is_ratio]; simp [isRat]
  | bool _ => rw [rt_eq, q_is_ratio]; simp [isRat]
  | int _ => rw [rt_eq, q_is_ratio]; simp [isRat]
  | str _ => rw [rt_eq, q_is_ratio]; simp [isRat]
  | list _ => rw [rt_eq, q_is_ratio]; simp [isRat]
  | tuple xs =>
    have hx : ∀ x ∈ xs, isD x = false := fun x hx => by
      have := List.all_eq_true.mp (show xs.all (fun d => !isD d) = true from hv) x hx
      simpa using this
    have hlen : bi1 .len (.tuple xs) = some (.int (xs.length : Nat)) := rfl
    rw [rt_eq, q_is_ratio, runs_cons, run_ite]
    by_cases h : xs.length = 2
    · have e1 : tst (ev (.or (.not (.isi (.var 0) .tuple)) (.cmp .ne (.bi .len (.cons (.var 0) (.nil))) (.lit (.int 2)))) ⟨[.val (.tuple xs), .no], []⟩) = .ok false ⟨[.val (.tuple xs), .no], []⟩ := by
        have h' : (xs.length : Int) = 2 := by omega
        simp [eqS_int, h', -eqS]
      have hc := comp_map (elt := .and (.isi (.var 1) .int) (.not (.isi (.var 1) .bool))) (t := .nm 1) (it := .e (.var 0)) (s := ⟨[.val (.tuple xs), .no], []⟩) (s1 := ⟨[.val (.tuple xs), .no], []⟩) (l := xs) id (fun x => PyData.bool (isI1 x)) (by simp) (fun a ha => by
        have := hx a ha
        cases a <;> first | (cases this; done) | simp [isI1])
      simp only [QP.slots, Sg.wipe, wipeC, Sg.back, backC, keepC, List.set, List.getElem?_cons_succ, List.getElem?_cons_zero] at hc
      have e2 : ev (.bi .all (.cons (.comp (.and (.isi (.var 1) .int) (.not (.isi (.var 1) .bool))) (.nm 1) (.e (.var 0)) (.nil)) (.nil))) ⟨[.val (.tuple xs), .no], []⟩ = .ok (.bool (xs.all isI1)) ⟨[.val (.tuple xs), .no], []⟩ := by
        simp [hc, bi_all, -bi1]
      rw [e1, SOut.of_ok, if_neg Bool.false_ne_true, runs_nil, thn_nx, runs_cons, run_ite, ev_not, e2]
      match xs, h, hx with
      | [x, y], _, hx =>
        by_cases hi : isI1 x = true ∧ isI1 y = true
        · obtain ⟨h1, h2⟩ := hi
          cases x with
          | int a =>
            cases y with
            | int b =>
              have i0 : ixD (.tuple [.int a, .int b]) (.int 0) = some (.int a) := ix20 _ _
              have i1 : ixD (.tuple [.int a, .int b]) (.int 1) = some (.int b) := ix21 _ _
              have e3 := sem_common a b []
              generalize hg : Int.gcd a b = g at e3
              by_cases c : 1 ≤ b
              · by_cases d : (g : Int) = 1
                · have d' : g = 1 := by omega
                  simp [isI1, isRat, i0, i1, e3, c, eqS_int, d, d', -ixD, -eqS]
                  omega
                · simp [isI1, isRat, i0, i1, e3, c, eqS_int, d, -ixD, -eqS]
                  omega
              · simp [isI1, isRat, i0, i1, e3, c, eqS_int, -ixD, -eqS]
            | _ => cases h2
          | _ => cases h1
        · have hf : [x, y].all isI1 = false := by
            rw [List.all_eq_false]
            by_cases h1 : isI1 x = true
            · exact ⟨y, by simp, fun h2 => hi ⟨h1, h2⟩⟩
            · exact ⟨x, by simp, h1⟩
          have hr : isRat (.tuple [x, y]) = false := by
            unfold isRat
            split
            · rename_i a b e
              cases e
              exact absurd ⟨rfl, rfl⟩ hi
            · rfl
          rw [hf, hr]
          simp
    · have h' : ¬ (xs.length : Int) = 2 := by omega
      have e1 : tst (ev (.or (.not (.isi (.var 0) .tuple)) (.cmp .ne (.bi .len (.cons (.var 0) (.nil))) (.lit (.int 2)))) ⟨[.val (.tuple xs), .no], []⟩) = .ok true ⟨[.val (.tuple xs), .no], []⟩ := by
        simp [eqS_int, h', -eqS]
      have hr : isRat (.tuple xs) = false := by
        unfold isRat
        split
        · rename_i a b e
          cases e
          exact absurd rfl h
        · rfl
      rw [e1, hr]
      simp
theorem isRat_dP (p : Rt) : isRat (dP p) = (decide (1 ≤ p.2) && decide (Int.gcd p.1 p.2 = 1)) := rfl
theorem ars_eq (v : D) : f_are_ratios.sem [v] [] = frOf (runs q_are_ratios ⟨[.val v, .no], []⟩) := by rw [f_are_ratios]; exact sem_of rfl
theorem ars_kind {v : D} (hd : isD v = false) (h : isi v .tuple = some false) : f_are_ratios.sem [v] [] = .ret (.bool false) [] := by
  rw [ars_eq, q_are_ratios]
  simp [h, -isi]
theorem sem_are_ratios {xs : List D} (hx : ∀ x ∈ xs, flat1 x = true) : f_are_ratios.sem [.tuple xs] [] = .ret (.bool (xs.all isRat)) [] := by
  have hc := comp_map (elt := .call f_is_ratio (.cons (.var 1) (.nil))) (t := .nm 1) (it := .e (.var 0)) (s := ⟨[.val (.tuple xs), .no], []⟩) (s1 := ⟨[.val (.tuple xs), .no], []⟩) (l := xs) id (fun x => PyData.bool (isRat x)) (by simp) (fun a ha => by
    have e := sem_is_ratio (hx a ha)
    simp [e])
  simp only [QP.slots, Sg.wipe, wipeC, Sg.back, backC, keepC, List.set, List.getElem?_cons_succ, List.getElem?_cons_zero] at hc
  have e2 : ev (.bi .all (.cons (.comp (.call f_is_ratio (.cons (.var 1) (.nil))) (.nm 1) (.e (.var 0)) (.nil)) (.nil))) ⟨[.val (.tuple xs), .no], []⟩ = .ok (.bool (xs.all isRat)) ⟨[.val (.tuple xs), .no], []⟩ := by
    simp [hc, bi_all, -bi1]
  rw [ars_eq, q_are_ratios]
  simp [e2, -ev_bi]
/-! number rows -/
def NotN (v : D) : Prop := f_is_number_row.sem [v] [] = .ret (.bool false) []
def IsN (v : D) : Prop := f_is_number_row.sem [v] [] = .ret (.bool true) []
theorem nr_eq (v : D) : f_is_number_row.sem [v] [] = frOf (runs q_is_number_row ⟨[.val v, .no], []⟩) := by rw [f_is_number_row]; exact sem_of rfl
theorem nr_ratios {v : D} (h : f_are_ratios.sem [v] [] = .ret (.bool false) []) : NotN v := by
  unfold NotN
  rw [nr_eq, q_is_number_row]
  simp [h]
theorem nr_kind {v : D} (hd : isD v = false) (h : isi v .tuple = some false) : NotN v := nr_ratios (ars_kind hd h)
theorem nr_items {xs : List D} (hx : ∀ x ∈ xs, flat1 x = true) (h : xs.all isRat = false) : NotN (.tuple xs) := nr_ratios (by rw [sem_are_ratios hx, h])
theorem flat_P (p : Rt) : flat1 (dP p) = true := rfl
theorem flat_rs (rs : List Rt) : ∀ x ∈ rs.map dP, flat1 x = true := fun x hx => by
  obtain ⟨p, _, rfl⟩ := List.mem_map.mp hx; rfl
theorem sem_number_row {rs : List Rt} (ho : ∀ p ∈ rs, Okp 1000 p) (hr : ∀ p ∈ rs, Int.gcd p.1 p.2 = 1) : f_is_number_row.sem [dRs rs] [] = .ret (.bool ((decide (1 ≤ rs.length) && decide (rs.length ≤ 13)) && (!(rs.any fun p => decide (p.1 < 0)) && rs.any fun p => !decide (p = (0, 1))))) [] := by
  have ez : PyData.tuple (([0, 1] : List Int).map .int) = dP (0, 1) := rfl
  have ha : (rs.map dP).all isRat = true := by
    rw [List.all_map, List.all_eq_true]
    intro p hp
    show isRat (dP p) = true
    have o := (ho p hp).pos
    rw [isRat_dP, decide_eq_true (by omega), decide_eq_true (hr p hp)]
    rfl
  have e1 : f_are_ratios.sem [dRs rs] [] = .ret (.bool true) [] := by
    show f_are_ratios.sem [.tuple _] [] = _
    rw [sem_are_ratios (flat_rs rs), ha]
  have e4 := len_rs rs
  have hi : evi (.e (.var 0)) ⟨[.val (dRs rs), .no], []⟩ = .ok (rs.map dP) ⟨[.val (dRs rs), .no], []⟩ := by simp [dRs]
  have hc1 := comp_map (elt := .call f_less (.cons (.var 1) (.cons (.con "ZERO" (.tuple (([0, 1] : List Int).map .int))) (.nil)))) (t := .nm 1) dP (fun p => PyData.bool (decide (p.1 < 0))) hi (fun p hp => by
    have o := ho p hp
    have e2 := sem_less0 (p := p) (n := 1000) (by omega) o.num o.den []
    rw [ez]
    simp [e2])
  have hc2 := comp_map (elt := .cmp .ne (.var 1) (.con "ZERO" (.tuple (([0, 1] : List Int).map .int)))) (t := .nm 1) dP (fun p => PyData.bool (!decide (p = (0, 1)))) hi (fun p hp => by
    have e2 := eqS_P p (0, 1)
    rw [ez]
    simp [e2, -eqS])
  simp only [QP.slots, Sg.wipe, wipeC, Sg.back, backC, keepC, List.set, List.getElem?_cons_succ, List.getElem?_cons_zero] at hc1 hc2
  have b1 : ev (.bi .any (.cons (.comp (.call f_less (.cons (.var 1) (.cons (.con "ZERO" (.tuple (([0, 1] : List Int).map .int))) (.nil)))) (.nm 1) (.e (.var 0)) (.nil)) (.nil))) ⟨[.val (dRs rs), .no], []⟩ = .ok (.bool (rs.any fun p => decide (p.1 < 0))) ⟨[.val (dRs rs), .no], []⟩ := by
    rw [ev_bi, evs_cons, hc1, Out.bind_ok, evs_nil, Out.bind_ok]
    exact bi_any _ _ _
  have b2 : ev (.bi .any (.cons (.comp (.cmp .ne (.var 1) (.con "ZERO" (.tuple (([0, 1] : List Int).map .int)))) (.nm 1) (.e (.var 0)) (.nil)) (.nil))) ⟨[.val (dRs rs), .no], []⟩ = .ok (.bool (rs.any fun p => !decide (p = (0, 1)))) ⟨[.val (dRs rs), .no], []⟩ := by
    rw [ev_bi, evs_cons, hc2, Out.bind_ok, evs_nil, Out.bind_ok]
    exact bi_any _ _ _
  have b3 : ev (.chn .le .le (.lit (.int 1)) (.bi .len (.cons (.var 0) (.nil))) (.con "MAX_ROW" (.int 13))) ⟨[.val (dRs rs), .no], []⟩ = .ok (.bool (decide (1 ≤ rs.length) && decide (rs.length ≤ 13))) ⟨[.val (dRs rs), .no], []⟩ := by
    by_cases h : 1 ≤ rs.length
    · have h' : (1 : Int) ≤ (rs.length : Nat) := by omega
      by_cases h2 : rs.length ≤ 13
      · have h2' : ((rs.length : Nat) : Int) ≤ 13 := by omega
        simp [e4, h, h', h2, h2', -bi1]
      · have h2' : ¬ ((rs.length : Nat) : Int) ≤ 13 := by omega
        simp [e4, h, h', h2, h2', -bi1]
    · have h' : ¬ (1 : Int) ≤ (rs.length : Nat) := by omega
      simp [e4, h, h', -bi1]
  rw [nr_eq, q_is_number_row, runs_cons, run_ite]
  generalize (decide (1 ≤ rs.length) && decide (rs.length ≤ 13)) = c at *
  generalize (rs.any fun p => decide (p.1 < 0)) = d at *
  generalize (rs.any fun p => !decide (p = (0, 1))) = f at *
  generalize QE.bi .any (.cons (.comp (.call f_less (.cons (.var 1) (.cons (.con "ZERO" (.tuple (([0, 1] : List Int).map .int))) (.nil)))) (.nm 1) (.e (.var 0)) (.nil)) (.nil)) = B1 at b1 ⊢
  generalize QE.bi .any (.cons (.comp (.cmp .ne (.var 1) (.con "ZERO" (.tuple (([0, 1] : List Int).map .int)))) (.nm 1) (.e (.var 0)) (.nil)) (.nil)) = B2 at b2 ⊢
  cases c <;> cases d <;> simp [e1, b1, b2, b3, -ev_bi, -ev_chn]
end L2.BH
set_option maxHeartbeats 1000000
namespace L2.BH
open PySem
theorem Rw.isN {rs : List Rt} (R : Rw rs) : IsN (dRs rs) := by
  unfold IsN
  have l1 := R.l1
  have l9 := R.l9
  rw [sem_number_row (fun p hp => (R.ok p hp).mono (by omega)) R.red]
  have h1 : (rs.any fun p => decide (p.1 < 0)) = false := by
    rw [List.any_eq_false]
    intro p hp
    have := R.nn p hp
    simp; omega
  have h2 : (rs.any fun p => !decide (p = (0, 1))) = true := by
    rw [List.any_eq_true]
    obtain ⟨p, hp, h⟩ := R.some
    refine ⟨p, hp, ?_⟩
    have : p ≠ (0, 1) := fun e => by rw [e] at h; exact h rfl
    simp [this]
  rw [h1, h2, decide_eq_true l1, decide_eq_true (by omega)]
  rfl
theorem eqv_str (x y : Str) : PyData.eqv (.str x) (.str y) = (x == y) := by
  rw [PyData.eqv]
/-! ### refusals -/
theorem check_no {v : D} (h : NotN v) : f_check_number_row.sem [v] [] = .exc "NotAllowed" [] := by
  have e4 : f_check_number_row.sem [v] [] = frOf (runs q_check_number_row ⟨[.val v], []⟩) := by rw [f_check_number_row]; exact sem_of rfl
  have h' : f_is_number_row.sem [v] [] = .ret (.bool false) [] := h
  rw [e4, q_check_number_row]
  simp [h']
theorem check_yes {v : D} (h : IsN v) : f_check_number_row.sem [v] [] = .ret .none [] := by
  have e4 : f_check_number_row.sem [v] [] = frOf (runs q_check_number_row ⟨[.val v], []⟩) := by rw [f_check_number_row]; exact sem_of rfl
  have h' : f_is_number_row.sem [v] [] = .ret (.bool true) [] := h
  rw [e4, q_check_number_row]
  simp [h']
theorem ask_eq (q : D) : f_check_row_question.sem [q] [] = frOf (runs q_check_row_question ⟨[.val q], []⟩) := by rw [f_check_row_question]; exact sem_of rfl
theorem ix0 (a b : D) : atI [a, b] 0 = some a := L2.atI_nat (j := 0) rfl
theorem ix1 (a b : D) : atI [a, b] 1 = some b := L2.atI_nat (j := 1) rfl
theorem ask_pair (v : D) : f_check_row_question.sem [.tuple [.str "row", v]] [] = (match f_check_number_row.sem [v] [] with | .ret _ _ => .ret .none [] | .exc c _ => .exc c [] | .bad => .bad) := by
  have e : (("row" : Str) == "row") = true := by decide
  rw [ask_eq, q_check_row_question]
  cases h : f_check_number_row.sem [v] [] <;> first
    | (simp [ix0, ix1, cmpOk, cmpOk_int, eqv_int, eqv_str, e, h]; done)
    | (simp [ix0, ix1, cmpOk, cmpOk_int, eqv_int, eqv_str, e, h]; rfl)
theorem ref_eq (c v : D) : f__law_refused.sem [c, v] [] = frOf (runs q__law_refused ⟨[.val c, .val v], []⟩) := by rw [f__law_refused]; exact sem_of rfl
theorem ref0_no {v : D} (h : NotN v) : f__law_refused.sem [.int 0, v] [] = .ret (.bool true) [] := by
  rw [ref_eq, q__law_refused]
  simp [cmpOk_int, eqv_int, check_no h]
theorem ref1_exc {q : D} (h : f_check_row_question.sem [q] [] = .exc "NotAllowed" []) : f__law_refused.sem [.int 1, q] [] = .ret (.bool true) [] := by
  rw [ref_eq, q__law_refused]
  simp [cmpOk_int, eqv_int, h]
theorem ref1_ok {q : D} (h : f_check_row_question.sem [q] [] = .ret .none []) : f__law_refused.sem [.int 1, q] [] = .ret (.bool false) [] := by
  rw [ref_eq, q__law_refused]
  simp [cmpOk_int, eqv_int, h]
theorem ref1_no {v : D} (h : NotN v) : f__law_refused.sem [.int 1, .tuple [.str "row", v]] [] = .ret (.bool true) [] :=
  ref1_exc (by rw [ask_pair, check_no h])
theorem ref1_yes {v : D} (h : IsN v) : f__law_refused.sem [.int 1, .tuple [.str "row", v]] [] = .ret (.bool false) [] :=
  ref1_ok (by rw [ask_pair, check_yes h])
theorem ask_len {xs : List D} (h : xs.length ≠ 2) : f_check_row_question.sem [.tuple xs] [] = .exc "NotAllowed" [] := by
  have h' : ¬ ((xs.length : Int) = 2) := by omega
  rw [ask_eq, q_check_row_question]
  simp [cmpOk_int, eqv_int, h']
theorem ask_kind {a v : D} (hd : isD a = false) (h : isi a .str = some false) : f_check_row_question.sem [.tuple [a, v]] [] = .exc "NotAllowed" [] := by
  rw [ask_eq, q_check_row_question]
  simp [cmpOk_int, eqv_int, ix0, h, -isi]
theorem ask_word {x : Str} {v : D} (h : (x == "row") = false) : f_check_row_question.sem [.tuple [.str x, v]] [] = .exc "NotAllowed" [] := by
  rw [ask_eq, q_check_row_question]
  simp [cmpOk, cmpOk_int, eqv_int, ix0, eqv_str, h]
/-! what is no row -/
theorem nn_tail {a : D} {rs : List Rt} (ha : flat1 a = true) (h : isRat a = false) : NotN (.tuple (rs.map dP ++ [a])) := by
  refine nr_items (fun x hx => ?_) ?_
  · rcases List.mem_append.mp hx with hx | hx
    · exact flat_rs rs x hx
    · rw [List.mem_singleton.mp hx]; exact ha
  · rw [List.all_append]
    simp [h]
theorem nn_one {a : D} (ha : flat1 a = true) (h : isRat a = false) : NotN (.tuple [a]) := nn_tail (rs := []) ha h
theorem sm1 (n : Nat) (hn : 1 ≤ n) : Sm n 1 := by unfold Sm; exact Nat.one_lt_two_pow (by omega)
theorem sm0 (n : Nat) : Sm n 0 := by unfold Sm; exact Nat.two_pow_pos n
theorem ok01 : Okp 1000 (0, 1) := ⟨by simp, sm0 _, sm1 _ (by omega)⟩
theorem ok11 : Okp 1000 (1, 1) := ⟨by simp, sm1 _ (by omega), sm1 _ (by omega)⟩
theorem nn_zeros (n : Nat) : NotN (dRs (List.replicate n (0, 1))) := by
  unfold NotN
  rw [sem_number_row (fun p hp => by rw [List.eq_of_mem_replicate hp]; exact ok01) (fun p hp => by rw [List.eq_of_mem_replicate hp]; decide)]
  have : ((List.replicate n ((0, 1) : Rt)).any fun p => !decide (p = (0, 1))) = false := by
    rw [List.any_eq_false]
    intro p hp
    rw [List.eq_of_mem_replicate hp]
    simp
  rw [this, Bool.and_false, Bool.and_false]
theorem nn_empty : NotN (.tuple []) := nn_zeros 0
theorem nn_many {n : Nat} (h : 13 < n) : NotN (dRs (List.replicate n (1, 1))) := by
  unfold NotN
  rw [sem_number_row (fun p hp => by rw [List.eq_of_mem_replicate hp]; exact ok11) (fun p hp => by rw [List.eq_of_mem_replicate hp]; decide)]
  have : decide ((List.replicate n ((1, 1) : Rt)).length ≤ 13) = false := decide_eq_false (by rw [List.length_replicate]; omega)
  rw [this, Bool.and_false, Bool.false_and]
theorem nn_neg {rs : List Rt} (R : Rw rs) : NotN (dRs (rs ++ [(-1, 2)])) := by
  unfold NotN
  rw [sem_number_row (fun p hp => ?_) (fun p hp => ?_)]
  · have : ((rs ++ [((-1, 2) : Rt)]).any fun p => decide (p.1 < 0)) = true := by
      rw [List.any_append]; simp
    rw [this, Bool.not_true, Bool.false_and, Bool.and_false]
  · rcases List.mem_append.mp hp with hp | hp
    · exact (R.ok p hp).mono (by omega)
    · rw [List.mem_singleton.mp hp]
      exact ⟨by simp, (sm_le (n := 20) (by simp) (by simp) (by omega)).mono (by omega), (sm_le (n := 20) (by simp) (by simp) (by omega)).mono (by omega)⟩
  · rcases List.mem_append.mp hp with hp | hp
    · exact R.red p hp
    · rw [List.mem_singleton.mp hp]; decide
/-! ### deciding -/
def qnR (rs : List Rt) : D := .tuple [.str "row", dRs rs]
theorem hd_dNs {l : List Nat} (h : l ≠ []) : ixD (dNs l) (.int 0) = some (.int (fst l : Nat)) := by
  cases l with
  | nil => exact absurd rfl h
  | cons a l => exact L2.atI_nat (j := 0) rfl
@[simp] theorem isD_dNs (l : List Nat) : isD (dNs l) = false := rfl
theorem tru_dNs (l : List Nat) : tru (dNs l) = !l.isEmpty := by
  cases l <;> rfl
theorem tst_dNs (l : List Nat) (s : Sg) : tst (.ok (dNs l) s) = .ok (!l.isEmpty) s := by
  cases l <;> rfl
theorem sem_decide {rs : List Rt} (R : Rw rs) (dr : List D) : f_decide_row.sem [qnR rs] dr = .ret (.tuple (if (brs rs).isEmpty then (if (gps rs).isEmpty then [.str "yes", dRs (mgs rs)] else [.str "no", .tuple [.str "gap", .int (fst (gps rs) : Nat)]]) else [.str "no", .tuple [.str "break", .int (fst (brs rs) : Nat)]])) [] := by
  have e0 : f_decide_row.sem [qnR rs] dr = frOf (runs q_decide_row ⟨[.val (qnR rs), .no], []⟩) := by rw [f_decide_row]; exact sem_of rfl
  have e1 := sem_row_breaks R []
  have e2 := sem_row_gaps R []
  have e3 := sem_margins_of R []
  have i1 : ixD (qnR rs) (.int 1) = some (dRs rs) := ix21 _ _
  have t1 := tst_dNs (brs rs)
  have t2 := tst_dNs (gps rs)
  rw [e0, q_decide_row]
  cases h : (brs rs).isEmpty with
  | false =>
    have hn : brs rs ≠ [] := fun e => by rw [e] at h; cases h
    have i2 := hd_dNs hn
    simp only [h] at t1
    simp [i1, e1, t1, i2, -ixD, -tru]
  | true =>
    simp only [h] at t1
    cases h2 : (gps rs).isEmpty with
    | false =>
      have hn : gps rs ≠ [] := fun e => by rw [e] at h2; cases h2
      have i2 := hd_dNs hn
      simp only [h2] at t2
      simp [i1, e1, e2, t1, t2, i2, -ixD, -tru]
    | true =>
      simp only [h2] at t2
      simp [i1, e1, e2, e3, t1, t2, -ixD, -tru]
end L2.BH
set_option maxHeartbeats 1000000
namespace L2.BH
open PySem PyProof.Rows
/-! ### texts -/
/-- a pair of an int and an int or a truth -/
def pbD (n : Int) (b : Bool) : D := .tuple [.int n, .bool b]
theorem shown_i {n : Int} (h : Sm 400 n) : (PyData.int n).shown.length ≤ 500 := by
  rw [PyData.shown_int]
  have h2 := int_text_length_le (a := n) (k := 401) (by omega) (by have := h.log; omega)
  have e : (Str.ofString (toString n)).length = (toString n).length := PySem.ofString_length _
  omega
theorem shown_P_len {p : Rt} (h : Okp 400 p) : (dP p).shown.length ≤ 1100 := by
  have h1 := shown_i h.num
  have h2 := shown_i h.den
  have e : (dP p).shown = tupleText [(PyData.int p.1).shown, (PyData.int p.2).shown] := by unfold dP; simp only [PyData.shown, PyData.shownAll]
  rw [e]
  have := tupleText_len_le [(PyData.int p.1).shown, (PyData.int p.2).shown]
  simp only [List.map_cons, List.map_nil, List.sum_cons, List.sum_nil, List.length_cons, List.length_nil] at this
  omega
theorem shown_B_len {n : Int} (h : Sm 400 n) (b : Bool) : (pbD n b).shown.length ≤ 1100 := by
  have h1 := shown_i h
  have h2 : (PyData.bool b).shown.length ≤ 5 := by cases b <;> decide
  have e : (pbD n b).shown = tupleText [(PyData.int n).shown, (PyData.bool b).shown] := by unfold pbD; simp only [PyData.shown, PyData.shownAll]
  rw [e]
  have := tupleText_len_le [(PyData.int n).shown, (PyData.bool b).shown]
  simp only [List.map_cons, List.map_nil, List.sum_cons, List.sum_nil, List.length_cons, List.length_nil] at this
  omega
theorem shownAll_map (xs : List D) : PyData.shownAll xs = xs.map PyData.shown := by
  induction xs with
  | nil => rfl
  | cons a l ih => rw [PyData.shownAll_cons, ih]; rfl
theorem sum_le {l : List Nat} {m : Nat} (h : ∀ x ∈ l, x ≤ m) : l.sum ≤ l.length * m := by
  induction l with
  | nil => simp
  | cons a l ih =>
    have h1 := h a List.mem_cons_self
    have h2 := ih fun x hx => h x (List.mem_cons_of_mem _ hx)
    rw [List.sum_cons, List.length_cons, Nat.succ_mul]
    omega
theorem strD_of {xs : List D} (hl : xs.length ≤ 20) (h : ∀ x ∈ xs, x.showable = true ∧ x.hasDict = false ∧ x.depth ≤ 1 ∧ x.shown.length ≤ 1100) : strD (.tuple xs) = some (.str (PyData.tuple xs).shown) := by
  have h1 : (PyData.tuple xs).showable = true := by
    simp only [PyData.showable]
    clear hl
    induction xs with
    | nil => simp only [PyData.showableAll]
    | cons a l ih =>
      simp only [PyData.showableAll, Bool.and_eq_true]
      exact ⟨(h a List.mem_cons_self).1, ih fun x hx => h x (List.mem_cons_of_mem _ hx)⟩
  have h2 : (PyData.tuple xs).hasDict = false := by
    simp only [PyData.hasDict]
    clear hl h1
    induction xs with
    | nil => simp only [PyData.hasDictAll]
    | cons a l ih =>
      simp only [PyData.hasDictAll, Bool.or_eq_false_iff]
      exact ⟨(h a List.mem_cons_self).2.1, ih fun x hx => h x (List.mem_cons_of_mem _ hx)⟩
  have h3 : (PyData.tuple xs).depth ≤ 60 := Nat.le_trans (depth_tup (n := 1) fun x hx => (h x hx).2.2.1) (by omega)
  have h4 : (PyData.tuple xs).shown.length ≤ sizeLine := by
    have hz : sizeLine = 16777216 := PySem.sizeLine_eq
    have e : (PyData.tuple xs).shown = tupleText (PyData.shownAll xs) := by simp only [PyData.shown]
    rw [e, shownAll_map]
    have h5 := tupleText_len_le (xs.map PyData.shown)
    rw [List.map_map, List.length_map] at h5
    have h6 := sum_le (l := xs.map ((fun x : Str => x.length) ∘ PyData.shown)) (m := 1100) (fun x hx => by
      obtain ⟨d, hd, rfl⟩ := List.mem_map.mp hx
      exact (h d hd).2.2.2)
    rw [List.length_map] at h6
    have h7 : xs.length * 1100 ≤ 20 * 1100 := Nat.mul_le_mul_right _ hl
    omega
  show (if _ then _ else _) = _
  rw [h1, h2, decide_eq_true h3, decide_eq_true h4]
  rfl
theorem P_text {p : Rt} (h : Okp 400 p) : (dP p).showable = true ∧ (dP p).hasDict = false ∧ (dP p).depth ≤ 1 ∧ (dP p).shown.length ≤ 1100 := by
  refine ⟨?_, ?_, depth_P p, shown_P_len h⟩
  · have a := h.num.log
    have b := h.den.log
    unfold dP
    simp only [PyData.showable, PyData.showableAll, Bool.and_true, Bool.and_eq_true, decide_eq_true_eq]
    omega
  · unfold dP
    simp only [PyData.hasDict, PyData.hasDictAll, Bool.or_false]
theorem B_text {n : Int} (h : Sm 400 n) (b : Bool) : (pbD n b).showable = true ∧ (pbD n b).hasDict = false ∧ (pbD n b).depth ≤ 1 ∧ (pbD n b).shown.length ≤ 1100 := by
  refine ⟨?_, ?_, ?_, shown_B_len h b⟩
  · have a := h.log
    unfold pbD
    simp only [PyData.showable, PyData.showableAll, Bool.and_true, decide_eq_true_eq]
    omega
  · unfold pbD
    simp only [PyData.hasDict, PyData.hasDictAll, Bool.or_false]
  · unfold pbD; simp [PyData.depth, PyData.depthAll]
theorem str_ms {rs : List Rt} (R : Rw rs) : strD (dRs (mgs rs)) = some (.str (dRs (mgs rs)).shown) := by
  refine strD_of (by rw [List.length_map, mgs_len]; have := R.l9; omega) fun x hx => ?_
  obtain ⟨p, hp, rfl⟩ := List.mem_map.mp hx
  exact P_text (mgs_ok R p hp)
def tB (ms : List Rt) : List D := ms.map fun p => pbD p.1 true
theorem str_tB {rs : List Rt} (R : Rw rs) : strD (.tuple (tB (mgs rs))) = some (.str (PyData.tuple (tB (mgs rs))).shown) := by
  refine strD_of (by unfold tB; rw [List.length_map, mgs_len]; have := R.l9; omega) fun x hx => ?_
  obtain ⟨p, hp, rfl⟩ := List.mem_map.mp hx
  exact B_text (mgs_ok R p hp).num true
/-- the sign T -/
theorem noT_P (p : Rt) : 84 ∉ (dP p).shown.cps.toList := by
  unfold dP
  rw [PyData.shown_tuple, mem_cps_append, mem_cps_append, mem_join]
  rintro ((h | (⟨t, ht, hc⟩ | ⟨_, h⟩)) | h)
  · exact absurd h (by decide)
  · rw [shownAll_map] at ht
    simp only [List.map_cons, List.map_nil, List.mem_cons, List.not_mem_nil, or_false] at ht
    rcases ht with rfl | rfl <;> exact shown_int_free' (by omega) _ hc
  · exact absurd h (by decide)
  · exact absurd (show 84 ∈ (Str.ofString ")").cps.toList from h) (by decide)
theorem noT_rs (ms : List Rt) : 84 ∉ (dRs ms).shown.cps.toList := by
  unfold dRs
  rw [PyData.shown_tuple, mem_cps_append, mem_cps_append, mem_join]
  rintro ((h | (⟨t, ht, hc⟩ | ⟨_, h⟩)) | h)
  · exact absurd h (by decide)
  · rw [shownAll_map, List.map_map] at ht
    obtain ⟨p, _, rfl⟩ := List.mem_map.mp ht
    exact noT_P p hc
  · exact absurd h (by decide)
  · revert h
    cases (List.map dP ms).length == 1 <;> decide
theorem T_pb (n : Int) : 84 ∈ (pbD n true).shown.cps.toList := by
  unfold pbD
  rw [PyData.shown_tuple, mem_cps_append, mem_cps_append, mem_join]
  refine .inl (.inr (.inl ⟨(PyData.bool true).shown, by rw [shownAll_map]; simp, ?_⟩))
  rw [PyData.shown_bool]
  decide
theorem T_tB {ms : List Rt} (h : ms ≠ []) : 84 ∈ (PyData.tuple (tB ms)).shown.cps.toList := by
  rw [PyData.shown_tuple, mem_cps_append, mem_cps_append, mem_join]
  obtain ⟨p, r, rfl⟩ := List.exists_cons_of_ne_nil h
  refine .inl (.inr (.inl ⟨(pbD p.1 true).shown, ?_, T_pb _⟩))
  rw [shownAll_map]
  simp [tB]
theorem text_ne {ms : List Rt} (h : ms ≠ []) : ((PyData.tuple (tB ms)).shown == (dRs ms).shown) = false := by
  rw [beq_eq_false_iff_ne]
  intro e
  have h1 := T_tB h
  rw [e] at h1
  exact noT_rs ms h1
end L2.BH
set_option maxHeartbeats 1000000
namespace L2.BH
open PySem
theorem yy : (("yes" : Str) == "yes") = true := by decide
theorem yn : (("yes" : Str) == "no") = false := by decide
theorem ny : (("no" : Str) == "yes") = false := by decide
theorem nn' : (("no" : Str) == "no") = true := by decide
theorem my : (("maybe" : Str) == "yes") = false := by decide
theorem mn : (("maybe" : Str) == "no") = false := by decide
theorem yn2 : (("yes" : Str) == "yes" || ("no" : Str) == "yes") = true := by decide
theorem isi_str (x : Str) : isi (.str x) .str = some true := rfl
theorem eqS_str (x y : Str) : eqS (.str x) (.str y) = some (x == y) := by simp [cmpOk, eqv_str]
theorem judge_eq (q a v : D) : f_judge_row.sem [q, a, v] [] = frOf (runs q_judge_row ⟨[.val q, .val a, .val v, .no, .no], []⟩) := by rw [f_judge_row]; exact sem_of rfl
theorem judge_none (q v : D) : f_judge_row.sem [q, .none, v] [] = .exc "BadPaper" [] := by
  rw [judge_eq, q_judge_row]
  simp
theorem ymy : (("yes" : Str) == "maybe") = false := by decide
theorem nmy : (("no" : Str) == "maybe") = false := by decide
theorem judge_maybe (q v : D) : f_judge_row.sem [q, .str "maybe", v] [] = .exc "BadPaper" [] := by
  rw [judge_eq, q_judge_row]
  simp [eqv_str, my, mn, ymy, nmy]
theorem judge_nt {q v : D} {x : Str} (hx : x = "yes" ∨ x = "no") (hd : isD v = false) (h : isi v .tuple = some false) : f_judge_row.sem [q, .str x, v] [] = .exc "BadPaper" [] := by
  rw [judge_eq, q_judge_row]
  rcases hx with rfl | rfl
  · simp [eqv_str, h, isi_str, yy, yn, -isi]
  · simp [eqv_str, h, isi_str, ny, nn', yn, -isi]
theorem tak_eq (q a v : D) : f__law_taken.sem [q, a, v] [] = frOf (runs q__law_taken ⟨[.val q, .val a, .val v], []⟩) := by rw [f__law_taken]; exact sem_of rfl
theorem tak_exc {q a v : D} (h : f_judge_row.sem [q, a, v] [] = .exc "BadPaper" []) : f__law_taken.sem [q, a, v] [] = .ret (.bool false) [] := by
  rw [tak_eq, q__law_taken]
  simp [h]
theorem tak_ok {q a v : D} (h : f_judge_row.sem [q, a, v] [] = .ret .none []) : f__law_taken.sem [q, a, v] [] = .ret (.bool true) [] := by
  rw [tak_eq, q__law_taken]
  simp [h]
noncomputable def j1 : QS := .ite (.or (.not (.isi (.var 1) .str)) (.or (.cmp .nin (.var 1) (.tup (.cons (.lit (.str "yes")) (.cons (.lit (.str "no")) (.nil))))) (.not (.isi (.var 2) .tuple)))) (.cons (.rse "BadPaper") (.nil)) (.nil)
noncomputable def jy : QS := .ite (.or (.cmp .ne (.var 2) (.call f_margins_of (.cons (.var 3) (.nil)))) (.or (.not (.call f_are_ratios (.cons (.var 2) (.nil)))) (.not (.call f_row_bulges (.cons (.var 3) (.nil)))))) (.cons (.rse "BadPaper") (.nil)) (.nil)
noncomputable def jn1 : QS := .ite (.or (.cmp .ne (.bi .len (.cons (.var 2) (.nil))) (.lit (.int 2))) (.or (.not (.isi (.ix (.var 2) (.lit (.int 0))) .str)) (.not (.call f_is_integer (.cons (.ix (.var 2) (.lit (.int 1))) (.cons (.lit (.int 0)) (.cons (.bin .sub (.bi .len (.cons (.var 3) (.nil))) (.lit (.int 1))) (.nil)))))))) (.cons (.rse "BadPaper") (.nil)) (.nil)
noncomputable def jn2 : QS := .set 4 (.sdsp "break" (.call f_row_breaks (.cons (.var 3) (.nil))) "gap" (.call f_row_gaps (.cons (.var 3) (.nil))))
noncomputable def jn3 : QS := .ite (.cmp .nin (.ix (.var 2) (.lit (.int 1))) (.sget (.var 4) (.ix (.var 2) (.lit (.int 0))) (.tup (.nil)))) (.cons (.rse "BadPaper") (.nil)) (.nil)
theorem j_eq : q_judge_row = .cons j1 (.cons (.set 3 (.ix (.var 0) (.lit (.int 1)))) (.cons (.ite (.cmp .eq (.var 1) (.lit (.str "yes"))) (.cons jy (.cons .retN .nil)) .nil) (.cons jn1 (.cons jn2 (.cons jn3 .nil))))) := rfl
theorem j_pre {rs : List Rt} {x : Str} (hx : x = "yes" ∨ x = "no") (xs : List D) (k : QSs) : runs (.cons j1 (.cons (.set 3 (.ix (.var 0) (.lit (.int 1)))) k)) ⟨[.val (qnR rs), .val (.str x), .val (.tuple xs), .no, .no], []⟩ = runs k ⟨[.val (qnR rs), .val (.str x), .val (.tuple xs), .val (dRs rs), .no], []⟩ := by
  have e1 : run j1 ⟨[.val (qnR rs), .val (.str x), .val (.tuple xs), .no, .no], []⟩ = .nx ⟨[.val (qnR rs), .val (.str x), .val (.tuple xs), .no, .no], []⟩ := by
    unfold j1
    rcases hx with rfl | rfl
    · simp [eqv_str, isi_str, yy, yn]
    · simp [eqv_str, isi_str, ny, nn', yn]
  have i1 : ixD (qnR rs) (.int 1) = some (dRs rs) := ix21 _ _
  have e2 : run (.set 3 (.ix (.var 0) (.lit (.int 1)))) ⟨[.val (qnR rs), .val (.str x), .val (.tuple xs), .no, .no], []⟩ = .nx ⟨[.val (qnR rs), .val (.str x), .val (.tuple xs), .val (dRs rs), .no], []⟩ := by
    simp [i1, -ixD]
  rw [runs_cons, e1, thn_nx, runs_cons, e2, thn_nx]
theorem jy_of {rs : List Rt} (R : Rw rs) {xs : List D} {b : Bool} (e : eqS (.tuple xs) (dRs (mgs rs)) = some b) (hx : ∀ x ∈ xs, flat1 x = true) : f_judge_row.sem [qnR rs, .str "yes", .tuple xs] [] = if b && (xs.all isRat && bul rs) then .ret .none [] else .exc "BadPaper" [] := by
  have e1 := sem_margins_of R []
  have e2 := sem_are_ratios hx
  have e3 := sem_row_bulges R []
  have e5 : tst (ev (.cmp .eq (.var 1) (.lit (.str "yes"))) ⟨[.val (qnR rs), .val (.str "yes"), .val (.tuple xs), .val (dRs rs), .no], []⟩) = .ok true ⟨[.val (qnR rs), .val (.str "yes"), .val (.tuple xs), .val (dRs rs), .no], []⟩ := by
    simp [eqS_str, yy, -eqS]
  rw [judge_eq, j_eq, j_pre (.inl rfl), runs_cons, run_ite, e5, SOut.of_ok, if_pos rfl, runs_cons]
  unfold jy
  cases b <;> cases h1 : xs.all isRat <;> cases h2 : bul rs <;> rw [h1] at e2 <;> rw [h2] at e3 <;> simp [e1, e, e2, e3, -eqS]
theorem no_pre {rs : List Rt} (xs : List D) : f_judge_row.sem [qnR rs, .str "no", .tuple xs] [] = frOf (runs (.cons jn1 (.cons jn2 (.cons jn3 .nil))) ⟨[.val (qnR rs), .val (.str "no"), .val (.tuple xs), .val (dRs rs), .no], []⟩) := by
  have e5 : tst (ev (.cmp .eq (.var 1) (.lit (.str "yes"))) ⟨[.val (qnR rs), .val (.str "no"), .val (.tuple xs), .val (dRs rs), .no], []⟩) = .ok false ⟨[.val (qnR rs), .val (.str "no"), .val (.tuple xs), .val (dRs rs), .no], []⟩ := by
    simp [eqS_str, ny, -eqS]
  rw [judge_eq, j_eq, j_pre (.inr rfl), runs_cons, run_ite, e5, SOut.of_ok, if_neg Bool.false_ne_true, runs_nil, thn_nx]
theorem jn_len {rs : List Rt} {xs : List D} (h : xs.length ≠ 2) : f_judge_row.sem [qnR rs, .str "no", .tuple xs] [] = .exc "BadPaper" [] := by
  have h' : ¬ (xs.length : Int) = 2 := by omega
  rw [no_pre]
  unfold jn1
  simp [eqS_int, h', -eqS]
theorem jn_kind {rs : List Rt} {a v : D} (hd : isD a = false) (h : isi a .str = some false) : f_judge_row.sem [qnR rs, .str "no", .tuple [a, v]] [] = .exc "BadPaper" [] := by
  rw [no_pre]
  unfold jn1
  simp [eqS_int, ix0, h, -eqS, -isi]
theorem jn_int {rs : List Rt} (R : Rw rs) {w : Str} {v : D} (hd : isD v = false) (h : isInt v (.int 0) (.int ((rs.length - 1 : Nat) : Int)) = false) : f_judge_row.sem [qnR rs, .str "no", .tuple [.str w, v]] [] = .exc "BadPaper" [] := by
  have e1 := sem_is_integer (v := v) (lo := .int 0) (hi := .int ((rs.length - 1 : Nat) : Int)) hd rfl rfl []
  have e4 := len_rs rs
  have e5 := len1 R.l1
  have l2 : bi1 .len (.tuple [.str w, v]) = some (.int 2) := rfl
  rw [h] at e1
  rw [no_pre]
  unfold jn1
  simp [eqS_int, ix0, ix1, isi_str, e4, e5, e1, l2, -eqS, -isi, -bi1, -bin2]
theorem inS_dNs (l : List Nat) (k : Int) : inS (.int k) (dNs l) = some (l.any fun j => decide ((j : Int) = k)) := by
  show (if shal (.int k) && !isD (.int k) then some ((l.map fun (j : Nat) => PyData.int j).any fun x => PyData.eqv x (.int k)) else none) = _
  rw [shal_int, List.any_map]
  have e : ((fun x => PyData.eqv x (.int k)) ∘ fun (j : Nat) => PyData.int j) = fun (j : Nat) => decide ((j : Int) = k) := funext fun j => eqv_int j k
  rw [e]
  rfl
theorem inS_nil (k : Int) : inS (.int k) (.tuple []) = some false := by
  show (if shal (.int k) && !isD (.int k) then some (([] : List D).any fun x => PyData.eqv x (.int k)) else none) = _
  rw [shal_int]
  rfl
theorem bk_gp : ¬ (("break" : Str) = "gap") := by decide
def anyN (l : List Nat) (k : Int) : Bool := l.any fun j => decide ((j : Int) = k)
/-- where the paper's place is one -/
def plc (rs : List Rt) (w : Str) (k : Int) : Bool := if (("break" : Str) = w) then anyN (brs rs) k else if (("gap" : Str) = w) then anyN (gps rs) k else false
theorem jn_main {rs : List Rt} (R : Rw rs) {w : Str} {k : Int} (h0 : 0 ≤ k) (h1 : k ≤ ((rs.length - 1 : Nat) : Int)) : f_judge_row.sem [qnR rs, .str "no", .tuple [.str w, .int k]] [] = if plc rs w k then .ret .none [] else .exc "BadPaper" [] := by
  have e1 := sem_is_integer (v := .int k) (lo := .int 0) (hi := .int ((rs.length - 1 : Nat) : Int)) rfl rfl rfl []
  have e4 := len_rs rs
  have e5 := len1 R.l1
  have l2 : bi1 .len (.tuple [.str w, .int k]) = some (.int 2) := rfl
  have hb : isInt (.int k) (.int 0) (.int ((rs.length - 1 : Nat) : Int)) = true := by
    show (decide (0 ≤ k) && decide (k ≤ ((rs.length - 1 : Nat) : Int))) = true
    rw [decide_eq_true h0, decide_eq_true h1]; rfl
  rw [hb] at e1
  have b1 := sem_row_breaks R []
  have b2 := sem_row_gaps R []
  have f1 : run jn1 ⟨[.val (qnR rs), .val (.str "no"), .val (.tuple [.str w, .int k]), .val (dRs rs), .no], []⟩ = .nx ⟨[.val (qnR rs), .val (.str "no"), .val (.tuple [.str w, .int k]), .val (dRs rs), .no], []⟩ := by
    unfold jn1
    simp [eqS_int, ix0, ix1, isi_str, e4, e5, e1, l2, -eqS, -isi, -bi1, -bin2]
  have f2 : run jn2 ⟨[.val (qnR rs), .val (.str "no"), .val (.tuple [.str w, .int k]), .val (dRs rs), .no], []⟩ = .nx ⟨[.val (qnR rs), .val (.str "no"), .val (.tuple [.str w, .int k]), .val (dRs rs), .val (.dict [(.str "break", dNs (brs rs)), (.str "gap", dNs (gps rs))])], []⟩ := by
    unfold jn2
    simp [b1, b2, bk_gp]
  have sg : ∀ s : Sg, ofO (sgtD (.dict [(.str "break", dNs (brs rs)), (.str "gap", dNs (gps rs))]) (.str w) (.tuple [])) s = .ok (if (("break" : Str) = w) then dNs (brs rs) else if (("gap" : Str) = w) then dNs (gps rs) else .tuple []) s := fun s => rfl
  have sd : isSD (.dict [(.str "break", dNs (brs rs)), (.str "gap", dNs (gps rs))]) = true := rfl
  have ei : inS (.int k) (if (("break" : Str) = w) then dNs (brs rs) else if (("gap" : Str) = w) then dNs (gps rs) else .tuple []) = some (plc rs w k) := by
    unfold plc
    split
    · exact inS_dNs _ _
    · split
      · exact inS_dNs _ _
      · exact inS_nil _
  rw [no_pre, runs_cons, f1, thn_nx, runs_cons, f2, thn_nx]
  unfold jn3
  generalize (if (("break" : Str) = w) then dNs (brs rs) else if (("gap" : Str) = w) then dNs (gps rs) else .tuple []) = Z at sg ei
  cases h : plc rs w k <;> rw [h] at ei <;> simp [ix0, ix1, sd, sg, ei, -inS]
/-! ### the law's look at papers -/
theorem rgt_eq (a b v : D) : f__law_right.sem [a, b, v] [] = frOf (runs q__law_right ⟨[.val a, .val b, .val v], []⟩) := by rw [f__law_right]; exact sem_of rfl
theorem rgt_nt {a b v : D} (hd : isD v = false) (h : isi v .tuple = some false) : f__law_right.sem [a, b, v] [] = .ret (.bool false) [] := by
  rw [rgt_eq, q__law_right]
  simp [h, -isi]
theorem rgt_yes {rs : List Rt} (R : Rw rs) {xs : List D} {b c : Bool} (e : eqS (.tuple xs) (dRs (mgs rs)) = some b) (hs : b = true → ∃ t, strD (.tuple xs) = some (.str t) ∧ (t == (dRs (mgs rs)).shown) = c) : f__law_right.sem [dRs rs, .str "yes", .tuple xs] [] = .ret (.bool (bul rs && (b && c))) [] := by
  have e1 := sem_law_margins R []
  have e2 := sem_law_row_bulges R []
  have e3 : bi1 .tuple (.list ((mgs rs).map dP)) = some (dRs (mgs rs)) := rfl
  have e4 := str_ms R
  rw [rgt_eq, q__law_right]
  cases h2 : bul rs with
  | false => rw [h2] at e2; simp [eqS_str, yy, e2, -eqS]
  | true =>
    rw [h2] at e2
    cases b with
    | false => simp [eqS_str, yy, e2, e1, e3, e, -eqS, -bi1]
    | true =>
      obtain ⟨t, s1, s2⟩ := hs rfl
      have e5 := eqS_str t (dRs (mgs rs)).shown
      rw [s2] at e5
      simp [eqS_str, yy, e2, e1, e3, e, s1, e4, s2, -eqS, -bi1]
theorem rgt_len {rs : List Rt} {xs : List D} (h : xs.length ≠ 2) : f__law_right.sem [dRs rs, .str "no", .tuple xs] [] = .ret (.bool false) [] := by
  have h' : ¬ (xs.length : Int) = 2 := by omega
  rw [rgt_eq, q__law_right]
  simp [eqS_str, ny, eqS_int, h', -eqS]
theorem rgt_kind {rs : List Rt} {a v : D} (hd : isD v = false) (h : isI1 v = false) : f__law_right.sem [dRs rs, .str "no", .tuple [a, v]] [] = .ret (.bool false) [] := by
  have l2 : bi1 .len (.tuple [a, v]) = some (.int 2) := rfl
  rw [rgt_eq, q__law_right]
  cases v <;> first | (cases h; done) | (cases hd; done) | simp [eqS_str, ny, eqS_int, ix1, l2, -eqS, -bi1]
end L2.BH
set_option maxHeartbeats 1000000
namespace L2.BH
open PySem
theorem anyN_iff {l : List Nat} {k : Int} : anyN l k = true ↔ ∃ j ∈ l, (j : Int) = k := by
  unfold anyN
  rw [List.any_eq_true]
  constructor
  · rintro ⟨j, hj, h⟩; exact ⟨j, hj, of_decide_eq_true h⟩
  · rintro ⟨j, hj, h⟩; exact ⟨j, hj, decide_eq_true h⟩
theorem brs_mem {rs : List Rt} {k : Nat} : k ∈ brs rs ↔ ∃ j, k = j + 1 ∧ j < rs.length - 2 ∧ (mrg rs (j + 1)).1 < 0 := by
  unfold brs brk
  rw [List.mem_map]
  constructor
  · rintro ⟨j, hj, rfl⟩
    rw [List.mem_filter, List.mem_range] at hj
    exact ⟨j, rfl, hj.1, of_decide_eq_true hj.2⟩
  · rintro ⟨j, rfl, h1, h2⟩
    exact ⟨j, by rw [List.mem_filter, List.mem_range]; exact ⟨h1, decide_eq_true h2⟩, rfl⟩
theorem plc_in {rs : List Rt} {w : Str} {k : Int} (h : plc rs w k = true) : 0 ≤ k ∧ k ≤ ((rs.length - 1 : Nat) : Int) := by
  unfold plc at h
  split at h
  · obtain ⟨j, hj, rfl⟩ := anyN_iff.mp h
    obtain ⟨i, rfl, h1, _⟩ := brs_mem.mp hj
    omega
  · split at h
    · obtain ⟨j, hj, rfl⟩ := anyN_iff.mp h
      unfold gps at hj
      rw [List.mem_filter, List.mem_range] at hj
      omega
    · cases h
theorem gap_eq (w : Str) : (w == "gap") = decide (("gap" : Str) = w) := by
  by_cases h : ("gap" : Str) = w
  · subst h; simp
  · have : ¬ w = "gap" := fun e => h e.symm
    simp [h, this]
theorem brk_eq (w : Str) : (w == "break") = decide (("break" : Str) = w) := by
  by_cases h : ("break" : Str) = w
  · subst h; simp
  · have : ¬ w = "break" := fun e => h e.symm
    simp [h, this]
theorem rgt_main {rs : List Rt} (R : Rw rs) {w : Str} {k : Int} : f__law_right.sem [dRs rs, .str "no", .tuple [.str w, .int k]] [] = .ret (.bool (plc rs w k)) [] := by
  have l1 := R.l1
  have e1 := sem_law_margins R []
  have e2 := sem_law_gaps R []
  have e4 := len_rs rs
  have e5 := len1 R.l1
  have l2 : bi1 .len (.tuple [.str w, .int k]) = some (.int 2) := rfl
  have g := eqS_str w "gap"
  have b := eqS_str w "break"
  rw [gap_eq] at g
  rw [brk_eq] at b
  rw [rgt_eq, q__law_right]
  unfold plc
  by_cases hb : ("break" : Str) = w
  · have hg : ¬ ("gap" : Str) = w := fun e => bk_gp (hb.trans e.symm)
    rw [decide_eq_false hg] at g
    rw [decide_eq_true hb] at b
    rw [if_pos hb]
    by_cases h1 : 0 < k
    · by_cases h2 : k < ((rs.length - 1 : Nat) : Int)
      · obtain ⟨j, rfl⟩ : ∃ j : Nat, k = ((j + 1 : Nat) : Int) := ⟨(k - 1).toNat, by omega⟩
        have hj : j < rs.length - 2 := by omega
        have i0 := ix_rsL (rs := mgs rs) (k := j) (by rw [mgs_len]; exact hj)
        rw [mgs_at hj] at i0
        have s1 : bin2 .sub (.int ((j + 1 : Nat) : Int)) (.int 1) = some (.int (j : Nat)) := by rw [sub_ii, show ((j + 1 : Nat) : Int) - 1 = (j : Nat) by omega]
        have ea : anyN (brs rs) ((j + 1 : Nat) : Int) = decide ((mrg rs (j + 1)).1 < 0) := by
          by_cases hm : (mrg rs (j + 1)).1 < 0
          · rw [decide_eq_true hm, anyN_iff]
            exact ⟨j + 1, brs_mem.mpr ⟨j, rfl, hj, hm⟩, rfl⟩
          · rw [decide_eq_false hm, Bool.eq_false_iff]
            intro h
            obtain ⟨i, hi, e⟩ := anyN_iff.mp h
            obtain ⟨i', rfl, _, h3⟩ := brs_mem.mp hi
            have : i' = j := by omega
            subst this
            exact hm h3
        rw [ea]
        generalize mrg rs (j + 1) = p at *
        generalize ((j + 1 : Nat) : Int) = J at *
        by_cases hm : p.1 < 0 <;> simp [eqS_str, ny, eqS_int, ix20, ix21, l2, g, b, e4, e5, e1, h1, h2, i0, s1, ix_p0, hm, -eqS, -bi1, -ixD, -bin2]
      · have ea : anyN (brs rs) k = false := by
          rw [Bool.eq_false_iff]
          intro h
          obtain ⟨i, hi, e⟩ := anyN_iff.mp h
          obtain ⟨i', rfl, h4, h3⟩ := brs_mem.mp hi
          omega
        rw [ea]
        simp [eqS_str, ny, eqS_int, ix0, ix1, l2, g, b, e4, e5, h1, h2, -eqS, -bi1, -bin2]
    · have ea : anyN (brs rs) k = false := by
        rw [Bool.eq_false_iff]
        intro h
        obtain ⟨i, hi, e⟩ := anyN_iff.mp h
        obtain ⟨i', rfl, h4, h3⟩ := brs_mem.mp hi
        omega
      rw [ea]
      simp [eqS_str, ny, eqS_int, ix0, ix1, l2, g, b, h1, -eqS, -bi1]
  · rw [if_neg hb]
    rw [decide_eq_false hb] at b
    by_cases hg : ("gap" : Str) = w
    · rw [if_pos hg]
      rw [decide_eq_true hg] at g
      have ei : inS (.int k) (.list ((gps rs).map fun (j : Nat) => PyData.int j)) = some (anyN (gps rs) k) := inS_dNs (gps rs) k
      simp [eqS_str, ny, eqS_int, ix0, ix1, l2, g, e2, ei, -eqS, -bi1, -inS]
    · rw [if_neg hg]
      rw [decide_eq_false hg] at g
      simp [eqS_str, ny, eqS_int, ix0, ix1, l2, g, b, -eqS, -bi1]
theorem rgt_nn {rs : List Rt} (k : Int) : f__law_right.sem [dRs rs, .str "no", .tuple [.none, .int k]] [] = .ret (.bool false) [] := by
  have l2 : bi1 .len (.tuple [.none, .int k]) = some (.int 2) := rfl
  have g : ∀ x : Str, eqS .none (.str x) = some false := fun x => by simp [cmpOk, PyData.eqv]
  rw [rgt_eq, q__law_right]
  simp [eqS_str, ny, eqS_int, ix0, ix1, l2, g, -eqS, -bi1]
/-! ### both alike -/
theorem eqvAll_P : ∀ (ps qs : List Rt), PyData.eqvAll (ps.map dP) (qs.map dP) = decide (ps = qs)
  | [], [] => by rw [List.map_nil, PyData.eqvAll]; rfl
  | [], q :: qs => by rw [List.map_cons, List.map_nil]; simp [PyData.eqvAll]
  | p :: ps, [] => by rw [List.map_cons, List.map_nil]; simp [PyData.eqvAll]
  | p :: ps, q :: qs => by
    rw [List.map_cons, List.map_cons, PyData.eqvAll, eqv_P, eqvAll_P ps qs]
    by_cases h1 : p = q <;> by_cases h2 : ps = qs <;> simp [h1, h2]
theorem depth_Rs (ps : List Rt) : (dRs ps).depth ≤ 60 := Nat.le_trans (depth_tup (n := 1) fun x hx => by
  obtain ⟨p, _, rfl⟩ := List.mem_map.mp hx
  exact depth_P p) (by omega)
theorem eqS_of_sh {a : D} (ha : isD a = false) (ms : List Rt) : eqS a (dRs ms) = some (PyData.eqv a (dRs ms)) := by
  show (if cmpOk a (dRs ms) then some (PyData.eqv a (dRs ms)) else none) = _
  have : cmpOk a (dRs ms) = true := by
    unfold cmpOk
    rw [shal_le (depth_Rs ms), ha, isD_dRs]
    simp
  rw [this]; rfl
theorem eqS_Rs (ps ms : List Rt) : eqS (dRs ps) (dRs ms) = some (decide (ps = ms)) := by
  rw [eqS_of_sh rfl]
  unfold dRs
  rw [PyData.eqv, eqvAll_P]
theorem eqS_odd {a : D} {xs : List D} (ha : ∀ p, PyData.eqv a (dP p) = false) (ms : List Rt) : eqS (.tuple (a :: xs)) (dRs ms) = some false := by
  rw [eqS_of_sh rfl]
  unfold dRs
  rw [PyData.eqv]
  cases ms with
  | nil => rw [List.map_nil]; simp [PyData.eqvAll]
  | cons p r => rw [List.map_cons, PyData.eqvAll, ha, Bool.false_and]
theorem odd_str (w : Str) (p : Rt) : PyData.eqv (.str w) (dP p) = false := by unfold dP; simp [PyData.eqv]
theorem odd_none (p : Rt) : PyData.eqv .none (dP p) = false := by unfold dP; simp [PyData.eqv]
inductive Pv (rs : List Rt) : D → Prop
  | none : Pv rs .none
  | list (xs : List D) : Pv rs (.list xs)
  | rts (ps : List Rt) : Pv rs (dRs ps)
  | tb : Pv rs (.tuple (tB (mgs rs)))
  | pl (w : Str) (k : Int) : Pv rs (.tuple [.str w, .int k])
  | plb (w : Str) (b : Bool) : Pv rs (.tuple [.str w, .bool b])
  | one (w : Str) : Pv rs (.tuple [.str w])
  | pln (w : Str) : Pv rs (.tuple [.str w, .none])
  | nn (k : Int) : Pv rs (.tuple [.none, .int k])
theorem odd_yes {rs : List Rt} (R : Rw rs) {a : D} {xs : List D} (ha : ∀ p, PyData.eqv a (dP p) = false) (hf : ∀ x ∈ a :: xs, flat1 x = true) : f__law_taken.sem [qnR rs, .str "yes", .tuple (a :: xs)] [] = .ret (.bool false) [] ∧ f__law_right.sem [dRs rs, .str "yes", .tuple (a :: xs)] [] = .ret (.bool false) [] := by
  have e := eqS_odd (xs := xs) ha (mgs rs)
  have j := jy_of R e hf
  have r := rgt_yes R (c := true) e (fun h => by cases h)
  refine ⟨tak_exc j, ?_⟩
  rw [r]
  cases bul rs <;> rfl
theorem rat_ms {rs : List Rt} (R : Rw rs) : ((mgs rs).map dP).all isRat = true := by
  rw [List.all_map, List.all_eq_true]
  intro p hp
  show isRat (dP p) = true
  have o := (mgs_ok R p hp).pos
  rw [isRat_dP, decide_eq_true (by omega), decide_eq_true (mgs_red R p hp)]
  rfl
theorem rts_yes {rs : List Rt} (R : Rw rs) (ps : List Rt) : ∃ b, f__law_taken.sem [qnR rs, .str "yes", dRs ps] [] = .ret (.bool b) [] ∧ f__law_right.sem [dRs rs, .str "yes", dRs ps] [] = .ret (.bool b) [] := by
  have e : eqS (.tuple (ps.map dP)) (dRs (mgs rs)) = some (decide (ps = mgs rs)) := eqS_Rs ps (mgs rs)
  have j := jy_of R e (flat_rs ps)
  by_cases h : ps = mgs rs
  · subst h
    rw [decide_eq_true rfl] at e j
    rw [rat_ms R] at j
    have r := rgt_yes R (c := true) e (fun _ => ⟨_, str_ms R, by simp⟩)
    cases hb : bul rs with
    | true => rw [hb] at j r; exact ⟨true, tak_ok j, r⟩
    | false => rw [hb] at j r; exact ⟨false, tak_exc j, r⟩
  · rw [decide_eq_false h] at e j
    have r := rgt_yes R (c := true) e (fun h => by cases h)
    refine ⟨false, tak_exc j, ?_⟩
    show f__law_right.sem [dRs rs, .str "yes", .tuple (ps.map dP)] [] = _
    rw [r]
    cases bul rs <;> rfl
theorem pap_yes {rs : List Rt} (R : Rw rs) {v : D} (hv : Pv rs v) : ∃ b, f__law_taken.sem [qnR rs, .str "yes", v] [] = .ret (.bool b) [] ∧ f__law_right.sem [dRs rs, .str "yes", v] [] = .ret (.bool b) [] := by
  cases hv with
  | none => exact ⟨false, tak_exc (judge_nt (.inl rfl) rfl rfl), rgt_nt rfl rfl⟩
  | list xs => exact ⟨false, tak_exc (judge_nt (.inl rfl) rfl rfl), rgt_nt rfl rfl⟩
  | rts ps => exact rts_yes R ps
  | pl w k => exact ⟨false, odd_yes R (odd_str w) (by intro x hx; simp at hx; rcases hx with rfl | rfl <;> rfl)⟩
  | plb w b => exact ⟨false, odd_yes R (odd_str w) (by intro x hx; simp at hx; rcases hx with rfl | rfl <;> rfl)⟩
  | one w => exact ⟨false, odd_yes R (odd_str w) (by intro x hx; simp at hx; subst hx; rfl)⟩
  | pln w => exact ⟨false, odd_yes R (odd_str w) (by intro x hx; simp at hx; rcases hx with rfl | rfl <;> rfl)⟩
  | nn k => exact ⟨false, odd_yes R odd_none (by intro x hx; simp at hx; rcases hx with rfl | rfl <;> rfl)⟩
  | tb =>
    by_cases hm : mgs rs = []
    · have e : PyData.tuple (tB (mgs rs)) = dRs [] := by rw [hm]; rfl
      rw [e]
      exact rts_yes R []
    · have e : eqS (.tuple (tB (mgs rs))) (dRs (mgs rs)) = some (PyData.eqv (.tuple (tB (mgs rs))) (dRs (mgs rs))) := eqS_of_sh rfl _
      have hf : ∀ x ∈ tB (mgs rs), flat1 x = true := fun x hx => by
        obtain ⟨p, _, rfl⟩ := List.mem_map.mp hx; rfl
      have j := jy_of R e hf
      have hr : (tB (mgs rs)).all isRat = false := by
        obtain ⟨p, r, e⟩ := List.exists_cons_of_ne_nil hm
        rw [e]; rfl
      rw [hr, Bool.false_and, Bool.and_false, if_neg Bool.false_ne_true] at j
      have r := rgt_yes R (c := false) e (fun _ => ⟨_, str_tB R, text_ne hm⟩)
      refine ⟨false, tak_exc j, ?_⟩
      rw [r, Bool.and_false, Bool.and_false]
theorem pap_no {rs : List Rt} (R : Rw rs) {v : D} (hv : Pv rs v) : ∃ b, f__law_taken.sem [qnR rs, .str "no", v] [] = .ret (.bool b) [] ∧ f__law_right.sem [dRs rs, .str "no", v] [] = .ret (.bool b) [] := by
  cases hv with
  | none => exact ⟨false, tak_exc (judge_nt (.inr rfl) rfl rfl), rgt_nt rfl rfl⟩
  | list xs => exact ⟨false, tak_exc (judge_nt (.inr rfl) rfl rfl), rgt_nt rfl rfl⟩
  | rts ps =>
    match ps with
    | [p, q] => exact ⟨false, tak_exc (jn_kind rfl rfl), rgt_kind rfl rfl⟩
    | [] => exact ⟨false, tak_exc (jn_len (by simp)), rgt_len (by simp)⟩
    | [p] => exact ⟨false, tak_exc (jn_len (by simp)), rgt_len (by simp)⟩
    | p :: q :: r :: l => exact ⟨false, tak_exc (jn_len (by simp)), rgt_len (by simp)⟩
  | tb =>
    match hm : mgs rs with
    | [p, q] => exact ⟨false, tak_exc (jn_kind rfl rfl), rgt_kind rfl rfl⟩
    | [] => exact ⟨false, tak_exc (jn_len (by simp [tB])), rgt_len (by simp [tB])⟩
    | [p] => exact ⟨false, tak_exc (jn_len (by simp [tB])), rgt_len (by simp [tB])⟩
    | p :: q :: r :: l => exact ⟨false, tak_exc (jn_len (by simp [tB])), rgt_len (by simp [tB])⟩
  | pl w k =>
    refine ⟨plc rs w k, ?_, rgt_main R⟩
    by_cases h : 0 ≤ k ∧ k ≤ ((rs.length - 1 : Nat) : Int)
    · have j := jn_main R (w := w) h.1 h.2
      cases hp : plc rs w k with
      | true => rw [hp] at j; exact tak_ok j
      | false => rw [hp] at j; exact tak_exc j
    · have hp : plc rs w k = false := by
        rw [Bool.eq_false_iff]
        exact fun e => h (plc_in e)
      rw [hp]
      refine tak_exc (jn_int R rfl ?_)
      show (decide (0 ≤ k) && decide (k ≤ ((rs.length - 1 : Nat) : Int))) = false
      rw [Bool.and_eq_false_iff]
      by_cases h0 : 0 ≤ k
      · exact .inr (decide_eq_false fun e => h ⟨h0, e⟩)
      · exact .inl (decide_eq_false h0)
  | plb w b => exact ⟨false, tak_exc (jn_int R rfl rfl), rgt_kind rfl rfl⟩
  | one w => exact ⟨false, tak_exc (jn_len (by simp)), rgt_len (by simp)⟩
  | pln w => exact ⟨false, tak_exc (jn_int R rfl rfl), rgt_kind rfl rfl⟩
  | nn k => exact ⟨false, tak_exc (jn_kind rfl rfl), rgt_nn k⟩
end L2.BH
set_option maxHeartbeats 1000000
namespace L2.BH
open PySem
/-! ### rows drawn -/
theorem take_law {m : Nat} (h0 : 1 ≤ m) (hm : m ≤ 1000) {dr : List D} (h : DrOk dr) : ∃ (r : Nat) (dr' : List D), f__law_take.sem [.int (m : Nat)] dr = .ret (.int (r : Nat)) dr' ∧ r < m ∧ DrOk dr' := by
  obtain ⟨r, dr', e, r0, r1, h'⟩ := sem_take (m := (m : Int)) (by omega) (by omega) h
  refine ⟨r.toNat, dr', ?_, by omega, h'⟩
  rw [show ((r.toNat : Nat) : Int) = r by omega]
  exact e
theorem ev_takeL {m : Nat} (h0 : 1 ≤ m) (hm : m ≤ 1000) {cs : List Cell} {dr : List D} (hc : cs[0]? = some .drw) (h : DrOk dr) {e : QE} (he : ev e ⟨cs, dr⟩ = .ok (.int (m : Nat)) ⟨cs, dr⟩) : ∃ (r : Nat) (dr' : List D), ev (.calld f__law_take 0 (.cons e .nil)) ⟨cs, dr⟩ = .ok (.int (r : Nat)) ⟨cs, dr'⟩ ∧ r < m ∧ DrOk dr' := by
  obtain ⟨r, dr', e1, r1, h'⟩ := take_law h0 hm h
  refine ⟨r, dr', ?_, r1, h'⟩
  have he2 : evs (.cons e .nil) ⟨cs, dr⟩ = .ok [.int (m : Nat)] ⟨cs, dr⟩ := by
    rw [evs_cons, he]; rfl
  exact ev_lentd (s := ⟨cs, dr⟩) hc he2 e1
theorem sem_one {L : List Rt} (h1 : 1 ≤ L.length) (h2 : L.length ≤ 1000) {dr : List D} (h : DrOk dr) : ∃ (p : Rt) (dr' : List D), f__law_one.sem [.list (L.map dP)] dr = .ret (dP p) dr' ∧ p ∈ L ∧ DrOk dr' := by
  have e0 : f__law_one.sem [.list (L.map dP)] dr = frOf (runs q__law_one ⟨[.drw, .val (.list (L.map dP))], dr⟩) := by rw [f__law_one]; exact semD_of rfl
  have el : bi1 .len (.list (L.map dP)) = some (.int (L.length : Nat)) := by
    show some (PyData.int ((L.map dP).length : Nat)) = _
    rw [List.length_map]
  obtain ⟨r, dr', e1, r1, h'⟩ := ev_takeL h1 h2 (cs := [.drw, .val (.list (L.map dP))]) rfl h (e := .bi .len (.cons (.var 1) (.nil))) (by simp [el, -bi1])
  refine ⟨rg L r, dr', ?_, rg_mem r1, h'⟩
  have i := ix_rsL r1
  rw [e0, q__law_one]
  simp [e1, i, -ixD]
theorem ev_oneL {L : List Rt} (h1 : 1 ≤ L.length) (h2 : L.length ≤ 1000) {cs : List Cell} {dr : List D} (hc : cs[0]? = some .drw) (h : DrOk dr) {e : QE} (he : ev e ⟨cs, dr⟩ = .ok (.list (L.map dP)) ⟨cs, dr⟩) : ∃ (p : Rt) (dr' : List D), ev (.calld f__law_one 0 (.cons e .nil)) ⟨cs, dr⟩ = .ok (dP p) ⟨cs, dr'⟩ ∧ p ∈ L ∧ DrOk dr' := by
  obtain ⟨p, dr', e1, r1, h'⟩ := sem_one h1 h2 h
  refine ⟨p, dr', ?_, r1, h'⟩
  have he2 : evs (.cons e .nil) ⟨cs, dr⟩ = .ok [.list (L.map dP)] ⟨cs, dr⟩ := by
    rw [evs_cons, he]; rfl
  exact ev_lentd (s := ⟨cs, dr⟩) hc he2 e1
/-- a ratio of few bits, not below 0 -/
def Pe (p : Rt) : Prop := ∃ a b : Int, 0 ≤ a ∧ a < 1125899906842624 ∧ 0 < b ∧ b < 1125899906842624 ∧ p = low a b
theorem sm50 {x : Int} (h0 : 0 ≤ x) (h : x < 1125899906842624) : Sm 50 x := by
  unfold Sm
  have : (2 : Nat) ^ 50 = 1125899906842624 := rfl
  omega
theorem Pe.ok {p : Rt} (h : Pe p) : Okp 60 p ∧ Int.gcd p.1 p.2 = 1 ∧ 0 ≤ p.1 := by
  obtain ⟨a, b, h1, h2, h3, h4, rfl⟩ := h
  exact ⟨(low_ok h3 (sm50 h1 h2) (sm50 (by omega) h4)).mono (by omega), low_gcd h3, low_nn h3 h1⟩
def roots : List Rt := [(0, 1), (1, 1), (1, 2), (3, 1)]
def fives : List Rt := [(0, 1), (1, 1), (2, 1), (1, 2), (5, 1)]
def turns : List Rt := [(0, 1), (2, 1), (1, 2), (9, 8), (8, 9)]
theorem roots_low {p : Rt} (h : p ∈ roots) : ∃ r s : Nat, p = low r s ∧ ((s = 1 ∧ r ≤ 3) ∨ (s = 2 ∧ r ≤ 1)) := by
  simp only [roots, List.mem_cons, List.not_mem_nil, or_false] at h
  rcases h with rfl | rfl | rfl | rfl
  · exact ⟨0, 1, by decide, by omega⟩
  · exact ⟨1, 1, by decide, by omega⟩
  · exact ⟨1, 2, by decide, by omega⟩
  · exact ⟨3, 1, by decide, by omega⟩
theorem turns_low {p : Rt} (h : p ∈ turns) : ∃ r s : Nat, p = low r s ∧ r ≤ 9 ∧ 1 ≤ s ∧ s ≤ 9 := by
  simp only [turns, List.mem_cons, List.not_mem_nil, or_false] at h
  rcases h with rfl | rfl | rfl | rfl | rfl
  · exact ⟨0, 1, by decide, by omega⟩
  · exact ⟨2, 1, by decide, by omega⟩
  · exact ⟨1, 2, by decide, by omega⟩
  · exact ⟨9, 8, by decide, by omega⟩
  · exact ⟨8, 9, by decide, by omega⟩
theorem fives_pe {p : Rt} (h : p ∈ fives) : Pe p := by
  simp only [fives, List.mem_cons, List.not_mem_nil, or_false] at h
  rcases h with rfl | rfl | rfl | rfl | rfl
  · exact ⟨0, 1, by omega, by omega, by omega, by omega, by decide⟩
  · exact ⟨1, 1, by omega, by omega, by omega, by omega, by decide⟩
  · exact ⟨2, 1, by omega, by omega, by omega, by omega, by decide⟩
  · exact ⟨1, 2, by omega, by omega, by omega, by omega, by decide⟩
  · exact ⟨5, 1, by omega, by omega, by omega, by omega, by decide⟩
/-- after j roots -/
def Iv (j : Nat) (p : Rt) : Prop := ∃ N : Nat, N ≤ 8 ^ j ∧ p = low (N : Nat) ((2 ^ j : Nat) : Int)
theorem two_pos (j : Nat) : (0 : Int) < ((2 ^ j : Nat) : Int) := by
  have := Nat.two_pow_pos j
  omega
theorem Iv.zero (j : Nat) : Iv j (0, 1) := ⟨0, Nat.zero_le _, (low_zero (two_pos j)).symm⟩
theorem Iv.step {j : Nat} {p q root : Rt} (hp : Iv j p) (hq : Iv j q) (hr : root ∈ roots) : Iv (j + 1) (plP (tmP p root) q) := by
  obtain ⟨N, hN, rfl⟩ := hp
  obtain ⟨M, hM, rfl⟩ := hq
  obtain ⟨r, s, rfl, h⟩ := roots_low hr
  have h2 := two_pos j
  have hs : (0 : Int) < (s : Nat) := by omega
  rw [tm_low h2 hs, pl_low (Int.mul_pos h2 hs) h2]
  have e1 : ((N : Int) * (r : Nat) * ((2 ^ j : Nat) : Int) + (M : Int) * (((2 ^ j : Nat) : Int) * (s : Nat))) = ((N : Int) * (r : Nat) + (M : Int) * (s : Nat)) * ((2 ^ j : Nat) : Int) := by
    rw [Int.add_mul, Int.mul_comm ((2 ^ j : Nat) : Int) (s : Nat), Int.mul_assoc (M : Int)]
  rw [e1, low_scale h2]
  have e8 : 8 ^ (j + 1) = 8 ^ j * 8 := Nat.pow_succ ..
  have e2 : ((2 ^ (j + 1) : Nat) : Int) = ((2 ^ j : Nat) : Int) * 2 := by rw [Nat.pow_succ]; push_cast; rfl
  rcases h with ⟨rfl, h⟩ | ⟨rfl, h⟩
  · refine ⟨(N * r + M) * 2, ?_, ?_⟩
    · have : N * r ≤ 8 ^ j * 3 := Nat.mul_le_mul hN h
      omega
    · rw [e2]
      have e3 : (((N * r + M) * 2 : Nat) : Int) = ((N : Int) * (r : Nat) + (M : Int) * ((1 : Nat) : Int)) * 2 := by push_cast; simp
      rw [e3, low_scale (by omega)]
      congr 1
      simp
  · refine ⟨N * r + M * 2, ?_, ?_⟩
    · have : N * r ≤ 8 ^ j * 1 := Nat.mul_le_mul hN h
      omega
    · rw [e2]
      push_cast
      rfl
theorem Iv.pe {j : Nat} (hj : j ≤ 8) {p : Rt} (h : Iv j p) : Pe p := by
  obtain ⟨N, hN, rfl⟩ := h
  have h1 : 8 ^ j ≤ 8 ^ 8 := Nat.pow_le_pow_right (by omega) hj
  have h2 : 2 ^ j ≤ 2 ^ 8 := Nat.pow_le_pow_right (by omega) hj
  have h3 : (8 : Nat) ^ 8 = 16777216 := rfl
  have h4 : (2 : Nat) ^ 8 = 256 := rfl
  exact ⟨_, _, by omega, by omega, two_pos j, by omega, rfl⟩
theorem Iv.turn {j : Nat} (hj : j ≤ 8) {p t : Rt} (h : Iv j p) (ht : t ∈ turns) : Pe (tmP p t) := by
  obtain ⟨N, hN, rfl⟩ := h
  obtain ⟨r, s, rfl, h5, h6, h7⟩ := turns_low ht
  have h1 : 8 ^ j ≤ 8 ^ 8 := Nat.pow_le_pow_right (by omega) hj
  have h2 : 2 ^ j ≤ 2 ^ 8 := Nat.pow_le_pow_right (by omega) hj
  have h3 : (8 : Nat) ^ 8 = 16777216 := rfl
  have h4 : (2 : Nat) ^ 8 = 256 := rfl
  have hp := Nat.two_pow_pos j
  rw [tm_low (two_pos j) (by omega)]
  have m1 : N * r ≤ 16777216 * 9 := Nat.mul_le_mul (by omega) h5
  have m2 : 2 ^ j * s ≤ 256 * 9 := Nat.mul_le_mul (by omega) h7
  have m3 : 1 ≤ 2 ^ j * s := Nat.mul_pos hp h6
  exact ⟨((N * r : Nat) : Int), ((2 ^ j * s : Nat) : Int), by omega, by omega, by omega, by omega, by push_cast; rfl⟩
theorem turns_ok {t : Rt} (h : t ∈ turns) : Okp 60 t := by
  obtain ⟨r, s, rfl, h5, h6, h7⟩ := turns_low h
  exact low_ok (by omega) (sm_le (by omega) (by omega) (by omega)) (sm_le (by omega) (by omega) (by omega))
theorem roots_ok {t : Rt} (h : t ∈ roots) : Okp 60 t := by
  obtain ⟨r, s, rfl, h5⟩ := roots_low h
  exact low_ok (by omega) (sm_le (by omega) (by omega) (by omega)) (sm_le (by omega) (by omega) (by omega))
end L2.BH
set_option maxHeartbeats 1000000
namespace L2.BH
open PySem
variable {dr : List D} {c1 c2 c3 c4 c5 c6 : Cell}
noncomputable def eFin : QE := .ifx (.cmp .ne (.comp (.var 9) (.nm 9) (.e (.var 4)) (.cons (.cmp .ne (.ix (.var 9) (.lit (.int 0))) (.lit (.int 0))) .nil)) (.lst (.nil))) (.bi .tuple (.cons (.var 4) (.nil))) (.tup (.cons (.tup (.cons (.lit (.int 1)) (.cons (.lit (.int 1)) (.nil)))) (.nil)))
noncomputable def lFive : QE := .lst (.cons (.tup (.cons (.lit (.int 0)) (.cons (.lit (.int 1)) (.nil)))) (.cons (.tup (.cons (.lit (.int 1)) (.cons (.lit (.int 1)) (.nil)))) (.cons (.tup (.cons (.lit (.int 2)) (.cons (.lit (.int 1)) (.nil)))) (.cons (.tup (.cons (.lit (.int 1)) (.cons (.lit (.int 2)) (.nil)))) (.cons (.tup (.cons (.lit (.int 5)) (.cons (.lit (.int 1)) (.nil)))) (.nil))))))
noncomputable def lRoot : QE := .lst (.cons (.tup (.cons (.lit (.int 0)) (.cons (.lit (.int 1)) (.nil)))) (.cons (.tup (.cons (.lit (.int 1)) (.cons (.lit (.int 1)) (.nil)))) (.cons (.tup (.cons (.lit (.int 1)) (.cons (.lit (.int 2)) (.nil)))) (.cons (.tup (.cons (.lit (.int 3)) (.cons (.lit (.int 1)) (.nil)))) (.nil)))))
noncomputable def lTurn : QE := .lst (.cons (.tup (.cons (.lit (.int 0)) (.cons (.lit (.int 1)) (.nil)))) (.cons (.tup (.cons (.lit (.int 2)) (.cons (.lit (.int 1)) (.nil)))) (.cons (.tup (.cons (.lit (.int 1)) (.cons (.lit (.int 2)) (.nil)))) (.cons (.tup (.cons (.lit (.int 9)) (.cons (.lit (.int 8)) (.nil)))) (.cons (.tup (.cons (.lit (.int 8)) (.cons (.lit (.int 9)) (.nil)))) (.nil))))))
theorem ev_five (s : Sg) : ev lFive s = .ok (.list (fives.map dP)) s := by unfold lFive; simp [fives, dP]
theorem ev_root (s : Sg) : ev lRoot s = .ok (.list (roots.map dP)) s := by unfold lRoot; simp [roots, dP]
theorem ev_turn (s : Sg) : ev lTurn s = .ok (.list (turns.map dP)) s := by unfold lTurn; simp [turns, dP]
noncomputable def W1 : QS := .par 2 3 (.calld f__law_take 0 (.cons (.lit (.int 4)) (.nil))) (.bin .add (.lit (.int 1)) (.calld f__law_take 0 (.cons (.var 1) (.nil))))
noncomputable def W2a : QS := .own 4 (.comp (.calld f__law_one 0 (.cons lFive (.nil))) (.nm 5) (.rng (.var 3)) (.nil))
noncomputable def W2 : QS := .ite (.cmp .eq (.var 2) (.lit (.int 3))) (.cons W2a (.cons (.ret eFin) (.nil))) (.nil)
noncomputable def W3 : QS := .own 4 (.lst (.cons (.tup (.cons (.lit (.int 1)) (.cons (.lit (.int 1)) (.nil)))) (.nil)))
noncomputable def W4a : QS := .set 6 (.calld f__law_one 0 (.cons lRoot (.nil)))
noncomputable def eZero : QE := .lst (.cons (.tup (.cons (.lit (.int 0)) (.cons (.lit (.int 1)) (.nil)))) (.nil))
noncomputable def W4b : QS := .own 4 (.comp (.call f__law_plus (.cons (.call f__law_times (.cons (.var 7) (.cons (.var 6) (.nil)))) (.cons (.var 8) (.nil)))) (.tp (.nm 7) (.nm 8)) (.zip (.bin .add (.var 4) eZero) (.bin .add eZero (.var 4))) (.nil))
noncomputable def WB : QSs := .cons W4a (.cons W4b (.nil))
noncomputable def W4 : QS := .fr (.nm 5) (.rng (.bin .sub (.var 3) (.lit (.int 1)))) WB
noncomputable def W5a : QS := .set 5 (.calld f__law_take 0 (.cons (.olen 4) (.nil)))
noncomputable def W5b : QS := .put 4 (.var 5) (.call f__law_times (.cons (.oix 4 (.var 5)) (.cons (.calld f__law_one 0 (.cons lTurn (.nil))) (.nil))))
noncomputable def W5 : QS := .ite (.cmp .eq (.var 2) (.lit (.int 2))) (.cons W5a (.cons W5b (.nil))) (.nil)
theorem rw_q : q__law_rowed = .cons W1 (.cons W2 (.cons W3 (.cons W4 (.cons W5 (.cons (.ret eFin) .nil))))) := rfl
theorem w1_of (h : DrOk dr) : ∃ (kind many : Nat) (dr' : List D), 1 ≤ many ∧ many ≤ 9 ∧ DrOk dr' ∧ run W1 ⟨[.drw, .val (.int 9), c2, c3, c4, c5, c6, .no, .no, .no], dr⟩ = .nx ⟨[.drw, .val (.int 9), .val (.int (kind : Nat)), .val (.int (many : Nat)), c4, c5, c6, .no, .no, .no], dr'⟩ := by
  obtain ⟨r, dr1, e1, r1, h1⟩ := ev_takeL (m := 4) (by omega) (by omega) (cs := [.drw, .val (.int 9), c2, c3, c4, c5, c6, .no, .no, .no]) rfl h (e := .lit (.int 4)) rfl
  obtain ⟨q, dr2, e2, q1, h2⟩ := ev_takeL (m := 9) (by omega) (by omega) (cs := [.drw, .val (.int 9), c2, c3, c4, c5, c6, .no, .no, .no]) rfl h1 (e := .var 1) (by simp)
  refine ⟨r, 1 + q, dr2, by omega, by omega, h2, ?_⟩
  unfold W1
  simp [e1, e2]
def fz (rs : List Rt) : List Rt := if (rs.filter fun p => decide (p.1 ≠ 0)).isEmpty then [(1, 1)] else rs
theorem rw_fz {rs : List Rt} (h1 : 1 ≤ rs.length) (h9 : rs.length ≤ 9) (hp : ∀ p ∈ rs, Pe p) : Rw (fz rs) := by
  unfold fz
  split
  · have h11 : ∀ p ∈ [((1, 1) : Rt)], Pe p := fun p hp => by
      rw [List.mem_singleton.mp hp]
      exact ⟨1, 1, by omega, by omega, by omega, by omega, by decide⟩
    exact ⟨by simp, by simp, fun p hp => (h11 p hp).ok.1, fun p hp => (h11 p hp).ok.2.1, fun p hp => (h11 p hp).ok.2.2, ⟨(1, 1), by simp, by simp⟩⟩
  · rename_i h
    refine ⟨h1, h9, fun p h => (hp p h).ok.1, fun p h => (hp p h).ok.2.1, fun p h => (hp p h).ok.2.2, ?_⟩
    have : (rs.filter fun p => decide (p.1 ≠ 0)) ≠ [] := fun e => h (by rw [e]; rfl)
    obtain ⟨p, hm⟩ := List.exists_mem_of_ne_nil _ this
    rw [List.mem_filter] at hm
    exact ⟨p, hm.1, of_decide_eq_true hm.2⟩
theorem ev_fin {rs : List Rt} : ev eFin ⟨[.drw, c1, c2, c3, .own (.list (rs.map dP)), c5, c6, .no, .no, .no], dr⟩ = .ok (dRs (fz rs)) ⟨[.drw, c1, c2, c3, .val (.list (rs.map dP)), c5, c6, .no, .no, .no], dr⟩ := by
  have hi : evi (.e (.var 4)) ⟨[.drw, c1, c2, c3, .own (.list (rs.map dP)), c5, c6, .no, .no, .no], dr⟩ = .ok (rs.map dP) ⟨[.drw, c1, c2, c3, .val (.list (rs.map dP)), c5, c6, .no, .no, .no], dr⟩ := by simp
  have hc := comp_flt (elt := .var 9) (c := .cmp .ne (.ix (.var 9) (.lit (.int 0))) (.lit (.int 0))) (t := .nm 9) dP (fun p => decide (p.1 ≠ 0)) dP hi (fun p hp => by
    rw [turn_eq1]
    by_cases h : p.1 = 0 <;> simp [ix_p0, h, eqS_int, -eqS, -ixD])
  simp only [QP.slots, Sg.wipe, wipeC, Sg.back, backC, keepC, List.set, List.getElem?_cons_succ, List.getElem?_cons_zero] at hc
  have e := eqS_nilL ((rs.filter fun p => decide (p.1 ≠ 0)).map dP)
  rw [List.isEmpty_map] at e
  have et : bi1 .tuple (.list (rs.map dP)) = some (dRs rs) := rfl
  have e1 : dRs [(1, 1)] = .tuple [.tuple [.int 1, .int 1]] := rfl
  unfold eFin fz
  generalize ((rs.filter fun p => decide (p.1 ≠ 0)).map dP) = F at e hc
  rw [ev_ifx, ev_cmp, hc]
  cases h : (rs.filter fun p => decide (p.1 ≠ 0)).isEmpty <;> rw [h] at e
  · simp [e, et, -eqS, -bi1]
  · rw [if_pos rfl, e1]
    simp [e, -eqS]
theorem all2_pe : ∀ {l : List Nat} {ds : List D}, All2 (fun _ d => ∃ p, Pe p ∧ d = dP p) l ds → ∃ rs : List Rt, rs.length = l.length ∧ (∀ p ∈ rs, Pe p) ∧ ds = rs.map dP
  | _, _, .nil => ⟨[], rfl, fun _ h => (nomatch h), rfl⟩
  | _, _, .cons h t => by
    obtain ⟨p, hp, rfl⟩ := h
    obtain ⟨rs, h1, h2, rfl⟩ := all2_pe t
    refine ⟨p :: rs, by rw [List.length_cons, List.length_cons, h1], fun q hq => ?_, rfl⟩
    rcases List.mem_cons.mp hq with rfl | hq
    · exact hp
    · exact h2 q hq
theorem w2a_of (h : DrOk dr) {many : Nat} (h9 : many ≤ 9) : ∃ (rs : List Rt) (dr' : List D), rs.length = many ∧ (∀ p ∈ rs, Pe p) ∧ DrOk dr' ∧ run W2a ⟨[.drw, c1, c2, .val (.int (many : Nat)), c4, .no, c6, .no, .no, .no], dr⟩ = .nx ⟨[.drw, c1, c2, .val (.int (many : Nat)), .own (.list (rs.map dP)), .no, c6, .no, .no, .no], dr'⟩ := by
  have hi : evi (.rng (.var 3)) ⟨[.drw, c1, c2, .val (.int (many : Nat)), c4, .no, c6, .no, .no, .no], dr⟩ = .ok ((List.range many).map fun (k : Nat) => PyData.int k) ⟨[.drw, c1, c2, .val (.int (many : Nat)), c4, .no, c6, .no, .no, .no], dr⟩ := evi_rngV rfl (by omega)
  obtain ⟨ds, s', ⟨dr', h', rfl⟩, e1, a2⟩ := comp_drawM (elt := .calld f__law_one 0 (.cons lFive (.nil))) (t := .nm 5) (fun (k : Nat) => PyData.int k) (fun s => ∃ dr, DrOk dr ∧ s = ⟨[.drw, c1, c2, .val (.int (many : Nat)), c4, .no, c6, .no, .no, .no], dr⟩) (fun _ d => ∃ p, Pe p ∧ d = dP p) hi ⟨dr, h, rfl⟩ (fun a ha s hs => by
    obtain ⟨dr, hdr, rfl⟩ := hs
    obtain ⟨p, dr2, e1, r1, h2⟩ := ev_oneL (L := fives) (by decide) (by decide) (cs := [.drw, c1, c2, .val (.int (many : Nat)), c4, .val (.int (a : Nat)), c6, .no, .no, .no]) rfl hdr (e := lFive) (ev_five _)
    refine ⟨dP p, ⟨[.drw, c1, c2, .val (.int (many : Nat)), c4, .no, c6, .no, .no, .no], dr2⟩, ?_, ⟨dr2, h2, rfl⟩, p, fives_pe r1, rfl⟩
    rw [turn_eq0]
    simp [e1])
  obtain ⟨rs, hl, hp, rfl⟩ := all2_pe a2
  rw [List.length_range] at hl
  simp only [QP.slots, Sg.back, backC, keepC, List.set, List.getElem?_cons_succ, List.getElem?_cons_zero] at e1
  refine ⟨rs, dr', hl, hp, h', ?_⟩
  unfold W2a
  rw [run_own, e1]
  rfl
/-! the roots, one by one -/
theorem zipL_P : ∀ (xs ys : List Rt), zipL (xs.map dP) (ys.map dP) = (xs.zip ys).map fun q => pairC (dP q.1) (dP q.2)
  | [], ys => by cases ys <;> rfl
  | x :: xs, [] => rfl
  | x :: xs, y :: ys => by
    show pairC (dP x) (dP y) :: zipL (xs.map dP) (ys.map dP) = _
    rw [zipL_P xs ys]; rfl
theorem wb_of (h : DrOk dr) {j : Nat} (hj : j ≤ 7) {rs : List Rt} (hl : rs.length = j + 1) (hp : ∀ p ∈ rs, Iv j p) (k : Int) : ∃ (rs' : List Rt) (c6' : Cell) (dr' : List D), rs'.length = j + 2 ∧ (∀ p ∈ rs', Iv (j + 1) p) ∧ DrOk dr' ∧ frS (.nm 5) WB (.int k) ⟨[.drw, c1, c2, c3, .own (.list (rs.map dP)), c5, c6, .no, .no, .no], dr⟩ = .nx ⟨[.drw, c1, c2, c3, .own (.list (rs'.map dP)), .val (.int k), c6', .no, .no, .no], dr'⟩ := by
  have hz : sizeLine = 16777216 := PySem.sizeLine_eq
  obtain ⟨root, dr1, e1, hr, h1⟩ := ev_oneL (L := roots) (by decide) (by decide) (cs := [.drw, c1, c2, c3, .own (.list (rs.map dP)), .val (.int k), c6, .no, .no, .no]) rfl h (e := lRoot) (ev_root _)
  have s1 : frS (.nm 5) WB (.int k) ⟨[.drw, c1, c2, c3, .own (.list (rs.map dP)), c5, c6, .no, .no, .no], dr⟩ = runs WB ⟨[.drw, c1, c2, c3, .own (.list (rs.map dP)), .val (.int k), c6, .no, .no, .no], dr⟩ := rfl
  have s2 : run W4a ⟨[.drw, c1, c2, c3, .own (.list (rs.map dP)), .val (.int k), c6, .no, .no, .no], dr⟩ = .nx ⟨[.drw, c1, c2, c3, .own (.list (rs.map dP)), .val (.int k), .val (dP root), .no, .no, .no], dr1⟩ := by
    unfold W4a
    rw [run_set, e1]
    rfl
  have z1 : bin2 .add (.list (rs.map dP)) (.list [.tuple [.int 0, .int 1]]) = some (.list ((rs ++ [(0, 1)]).map dP)) := by
    rw [bin2_addL (by rw [List.length_map]; simp; omega), List.map_append]; rfl
  have z2 : bin2 .add (.list [.tuple [.int 0, .int 1]]) (.list (rs.map dP)) = some (.list (((0, 1) :: rs).map dP)) := by
    rw [bin2_addL (by rw [List.length_map]; simp; omega)]; rfl
  have z3 : itemsOf (.list ((rs ++ [(0, 1)]).map dP)) = some ((rs ++ [(0, 1)]).map dP) := rfl
  have z4 : itemsOf (.list (((0, 1) :: rs).map dP)) = some (((0, 1) :: rs).map dP) := rfl
  have hi : evi (.zip (.bin .add (.var 4) eZero) (.bin .add eZero (.var 4))) ⟨[.drw, c1, c2, c3, .own (.list (rs.map dP)), .val (.int k), .val (dP root), .no, .no, .no], dr1⟩ = .ok (((rs ++ [(0, 1)]).zip ((0, 1) :: rs)).map fun q : Rt × Rt => pairC (dP q.1) (dP q.2)) ⟨[.drw, c1, c2, c3, .val (.list (rs.map dP)), .val (.int k), .val (dP root), .no, .no, .no], dr1⟩ := by
    rw [← zipL_P]
    generalize (rs ++ [((0, 1) : Rt)]).map dP = A at z1 z3 ⊢
    generalize (((0, 1) : Rt) :: rs).map dP = B at z2 z4 ⊢
    unfold eZero
    simp [z1, z2, z3, z4, -bin2, -itemsOf]
  have hc := comp_map (elt := .call f__law_plus (.cons (.call f__law_times (.cons (.var 7) (.cons (.var 6) (.nil)))) (.cons (.var 8) (.nil)))) (t := .tp (.nm 7) (.nm 8)) (fun q : Rt × Rt => pairC (dP q.1) (dP q.2)) (fun q => dP (plP (tmP q.1 root) q.2)) hi (fun q hq => by
    obtain ⟨m1, m2⟩ := List.of_mem_zip hq
    have i1 : Iv j q.1 := by
      rcases List.mem_append.mp m1 with m | m
      · exact hp _ m
      · rw [List.mem_singleton.mp m]; exact Iv.zero j
    have i2 : Iv j q.2 := by
      rcases List.mem_cons.mp m2 with m | m
      · rw [m]; exact Iv.zero j
      · exact hp _ m
    have o1 := (i1.pe (by omega)).ok.1
    have o2 := (i2.pe (by omega)).ok.1
    have t1 := sem_law_times (by omega) o1 (roots_ok hr) []
    have t2 := sem_law_plus (n := 120) (by omega) (tm_ok o1 (roots_ok hr)) (o2.mono (by omega)) []
    simp [t1, t2])
  simp only [QP.slots, Sg.wipe, wipeC, Sg.back, backC, keepC, List.set, List.cons_append, List.nil_append, List.getElem?_cons_succ, List.getElem?_cons_zero] at hc
  refine ⟨((rs ++ [(0, 1)]).zip ((0, 1) :: rs)).map fun q : Rt × Rt => plP (tmP q.1 root) q.2, .val (dP root), dr1, ?_, fun p hm => ?_, h1, ?_⟩
  · rw [List.length_map, List.length_zip, List.length_append, List.length_cons, List.length_cons, List.length_nil, hl]
    omega
  · obtain ⟨q, hq, rfl⟩ := List.mem_map.mp hm
    obtain ⟨m1, m2⟩ := List.of_mem_zip hq
    refine Iv.step ?_ ?_ hr
    · rcases List.mem_append.mp m1 with m | m
      · exact hp _ m
      · rw [List.mem_singleton.mp m]; exact Iv.zero j
    · rcases List.mem_cons.mp m2 with m | m
      · rw [m]; exact Iv.zero j
      · exact hp _ m
  · rw [s1, WB, runs_cons, s2, thn_nx, runs_cons, W4b, run_own, hc, List.map_map]
    rfl
theorem w4_of (h : DrOk dr) {many : Nat} (h1 : 1 ≤ many) (h9 : many ≤ 9) : ∃ (rs : List Rt) (c5' c6' : Cell) (dr' : List D), rs.length = many ∧ (∀ p ∈ rs, Iv (many - 1) p) ∧ DrOk dr' ∧ run W4 ⟨[.drw, c1, c2, .val (.int (many : Nat)), .own (.list ([(1, 1)].map dP)), c5, c6, .no, .no, .no], dr⟩ = .nx ⟨[.drw, c1, c2, .val (.int (many : Nat)), .own (.list (rs.map dP)), c5', c6', .no, .no, .no], dr'⟩ := by
  obtain ⟨s', f1, rs, hl, hp, c5', c6', dr', h', f2⟩ := frL_map (f := frS (.nm 5) WB) (fun (k : Nat) => PyData.int k) (fun p s => ∃ rs : List Rt, rs.length = p.length + 1 ∧ (∀ q ∈ rs, Iv p.length q) ∧ ∃ (c5 c6 : Cell) (dr : List D), DrOk dr ∧ s = ⟨[.drw, c1, c2, .val (.int (many : Nat)), .own (.list (rs.map dP)), c5, c6, .no, .no, .no], dr⟩) (List.range (many - 1)) (fun p a r s hl hj => by
      obtain ⟨rs, hrl, hp, c5, c6, dr, hdr, rfl⟩ := hj
      obtain ⟨rfl, hlt⟩ := range_at hl
      obtain ⟨rs', c6', dr', hl', hp', hdr', e⟩ := wb_of (c1 := c1) (c2 := c2) (c3 := .val (.int (many : Nat))) (c5 := c5) (c6 := c6) hdr (j := p.length) (by omega) hrl hp (p.length : Nat)
      refine ⟨_, e, rs', by rw [hl', List.length_append]; rfl, ?_, .val (.int (p.length : Nat)), c6', dr', hdr', rfl⟩
      rw [List.length_append]
      exact hp')
      ⟨[.drw, c1, c2, .val (.int (many : Nat)), .own (.list ([(1, 1)].map dP)), c5, c6, .no, .no, .no], dr⟩ ⟨[(1, 1)], rfl, fun q hq => by rw [List.mem_singleton.mp hq]; exact ⟨1, by decide, by decide⟩, c5, c6, dr, h, rfl⟩
  subst f2
  rw [List.length_range] at hl hp
  have e : bin2 .sub (.int (many : Nat)) (.int 1) = some (.int ((many - 1 : Nat) : Int)) := by rw [sub_ii, show (many : Int) - 1 = ((many - 1 : Nat) : Int) by omega]
  have hi : evi (.rng (.bin .sub (.var 3) (.lit (.int 1)))) ⟨[.drw, c1, c2, .val (.int (many : Nat)), .own (.list ([(1, 1)].map dP)), c5, c6, .no, .no, .no], dr⟩ = .ok ((List.range (many - 1)).map fun (k : Nat) => PyData.int k) ⟨[.drw, c1, c2, .val (.int (many : Nat)), .own (.list ([(1, 1)].map dP)), c5, c6, .no, .no, .no], dr⟩ := evi_rngE (by simp [e, -bin2]) (by omega)
  refine ⟨rs, c5', c6', dr', by omega, hp, h', ?_⟩
  rw [W4, run_fr, hi, SOut.of_ok, f1]
theorem w5_of (h : DrOk dr) {kind j : Nat} (hj : j ≤ 8) {rs : List Rt} (hl : rs.length = j + 1) (hp : ∀ p ∈ rs, Iv j p) : ∃ (rs' : List Rt) (c5' : Cell) (dr' : List D), rs'.length = j + 1 ∧ (∀ p ∈ rs', Pe p) ∧ DrOk dr' ∧ run W5 ⟨[.drw, c1, .val (.int (kind : Nat)), c3, .own (.list (rs.map dP)), c5, c6, .no, .no, .no], dr⟩ = .nx ⟨[.drw, c1, .val (.int (kind : Nat)), c3, .own (.list (rs'.map dP)), c5', c6, .no, .no, .no], dr'⟩ := by
  by_cases hk : (kind : Int) = 2
  · obtain ⟨k, dr1, e1, k1, h1⟩ := ev_takeL (m := rs.length) (by omega) (by omega) (cs := [.drw, c1, .val (.int (kind : Nat)), c3, .own (.list (rs.map dP)), c5, c6, .no, .no, .no]) rfl h (e := .olen 4) (by simp)
    obtain ⟨t, dr2, e2, ht, h2⟩ := ev_oneL (L := turns) (by decide) (by decide) (cs := [.drw, c1, .val (.int (kind : Nat)), c3, .own (.list (rs.map dP)), .val (.int (k : Nat)), c6, .no, .no, .no]) rfl h1 (e := lTurn) (ev_turn _)
    have hm := rg_mem k1
    have i0 := ix_rsL k1
    have o := ((hp _ hm).pe hj).ok.1
    have t1 := sem_law_times (by omega) o (turns_ok ht) []
    have e5 : tst (ev (.cmp .eq (.var 2) (.lit (.int 2))) ⟨[.drw, c1, .val (.int (kind : Nat)), c3, .own (.list (rs.map dP)), c5, c6, .no, .no, .no], dr⟩) = .ok true ⟨[.drw, c1, .val (.int (kind : Nat)), c3, .own (.list (rs.map dP)), c5, c6, .no, .no, .no], dr⟩ := by
      simp [hk, eqS_int, -eqS]
    have e6 : run W5a ⟨[.drw, c1, .val (.int (kind : Nat)), c3, .own (.list (rs.map dP)), c5, c6, .no, .no, .no], dr⟩ = .nx ⟨[.drw, c1, .val (.int (kind : Nat)), c3, .own (.list (rs.map dP)), .val (.int (k : Nat)), c6, .no, .no, .no], dr1⟩ := by
      unfold W5a
      rw [run_set, e1]
      rfl
    have hx : ixN (rs.map dP).length (k : Int) = some k := by
      unfold ixN
      rw [List.length_map]
      simp [k1]
    have e7 : putS 4 (some (.own (.list (rs.map dP)))) (dP (tmP (rg rs k) t)) (.int (k : Nat)) ⟨[.drw, c1, .val (.int (kind : Nat)), c3, .own (.list (rs.map dP)), .val (.int (k : Nat)), c6, .no, .no, .no], dr2⟩ = .nx ⟨[.drw, c1, .val (.int (kind : Nat)), c3, .own (.list ((rs.map dP).set k (dP (tmP (rg rs k) t)))), .val (.int (k : Nat)), c6, .no, .no, .no], dr2⟩ := by
      show (match isD (dP (tmP (rg rs k) t)), ixN (rs.map dP).length (k : Int) with | false, some n => _ | _, _ => _) = _
      rw [isD_dP, hx]
      rfl
    refine ⟨rs.set k (tmP (rg rs k) t), .val (.int (k : Nat)), dr2, by rw [List.length_set]; exact hl, fun p h => ?_, h2, ?_⟩
    · rcases List.mem_or_eq_of_mem_set h with h | rfl
      · exact (hp p h).pe hj
      · exact (hp _ hm).turn hj ht
    · unfold W5
      rw [run_ite, e5, SOut.of_ok, if_pos rfl, runs_cons, e6, thn_nx, runs_cons, List.map_set]
      unfold W5b
      simp [i0, e2, t1, e7, -ixD]
  · refine ⟨rs, c5, dr, hl, fun p h => (hp p h).pe hj, h, ?_⟩
    unfold W5
    simp [hk, eqS_int, -eqS]
theorem sem_rowed {dr : List D} (h : DrOk dr) : ∃ (rs : List Rt) (dr' : List D), f__law_rowed.sem [.int 9] dr = .ret (dRs rs) dr' ∧ DrOk dr' ∧ Rw rs := by
  have e0 : f__law_rowed.sem [.int 9] dr = frOf (runs q__law_rowed ⟨[.drw, .val (.int 9), .no, .no, .no, .no, .no, .no, .no, .no], dr⟩) := by rw [f__law_rowed]; exact semD_of rfl
  obtain ⟨kind, many, dr1, m1, m9, h1, f1⟩ := w1_of (c2 := .no) (c3 := .no) (c4 := .no) (c5 := .no) (c6 := .no) h
  rw [e0, rw_q, runs_cons, f1, thn_nx, runs_cons]
  by_cases hk : (kind : Int) = 3
  · obtain ⟨rs, dr2, hl, hp, h2, f2⟩ := w2a_of (dr := dr1) (c1 := .val (.int 9)) (c2 := .val (.int (kind : Nat))) (c4 := .no) (c6 := .no) h1 m9
    have e5 : tst (ev (.cmp .eq (.var 2) (.lit (.int 3))) ⟨[.drw, .val (.int 9), .val (.int (kind : Nat)), .val (.int (many : Nat)), .no, .no, .no, .no, .no, .no], dr1⟩) = .ok true ⟨[.drw, .val (.int 9), .val (.int (kind : Nat)), .val (.int (many : Nat)), .no, .no, .no, .no, .no, .no], dr1⟩ := by
      simp [hk, eqS_int, -eqS]
    have e6 := ev_fin (rs := rs) (dr := dr2) (c1 := .val (.int 9)) (c2 := .val (.int (kind : Nat))) (c3 := .val (.int (many : Nat))) (c5 := .no) (c6 := .no)
    refine ⟨fz rs, dr2, ?_, h2, rw_fz (by omega) (by omega) hp⟩
    rw [W2, run_ite, e5, SOut.of_ok, if_pos rfl, runs_cons, f2, thn_nx, runs_cons, run_ret, e6, SOut.of_ok, thn_ret, thn_ret, frOf_ret]
  · have e5 : tst (ev (.cmp .eq (.var 2) (.lit (.int 3))) ⟨[.drw, .val (.int 9), .val (.int (kind : Nat)), .val (.int (many : Nat)), .no, .no, .no, .no, .no, .no], dr1⟩) = .ok false ⟨[.drw, .val (.int 9), .val (.int (kind : Nat)), .val (.int (many : Nat)), .no, .no, .no, .no, .no, .no], dr1⟩ := by
      simp [hk, eqS_int, -eqS]
    have f3 : run W3 ⟨[.drw, .val (.int 9), .val (.int (kind : Nat)), .val (.int (many : Nat)), .no, .no, .no, .no, .no, .no], dr1⟩ = .nx ⟨[.drw, .val (.int 9), .val (.int (kind : Nat)), .val (.int (many : Nat)), .own (.list ([((1, 1) : Rt)].map dP)), .no, .no, .no, .no, .no], dr1⟩ := by
      unfold W3
      simp [dP]
    obtain ⟨rs, c5, c6, dr2, hl, hp, h2, f4⟩ := w4_of (dr := dr1) (c1 := .val (.int 9)) (c2 := .val (.int (kind : Nat))) (c5 := .no) (c6 := .no) h1 m1 m9
    obtain ⟨rs', c5', dr3, hl', hp', h3, f5⟩ := w5_of (dr := dr2) (kind := kind) (c1 := .val (.int 9)) (c3 := .val (.int (many : Nat))) (c5 := c5) (c6 := c6) h2 (j := many - 1) (by omega) (by omega) hp
    have e6 := ev_fin (rs := rs') (dr := dr3) (c1 := .val (.int 9)) (c2 := .val (.int (kind : Nat))) (c3 := .val (.int (many : Nat))) (c5 := c5') (c6 := c6)
    refine ⟨fz rs', dr3, ?_, h3, rw_fz (by omega) (by omega) hp'⟩
    rw [W2, run_ite, e5, SOut.of_ok, if_neg Bool.false_ne_true, runs_nil, thn_nx, runs_cons, f3, thn_nx, runs_cons, f4, thn_nx, runs_cons, f5, thn_nx, runs_cons, run_ret, e6, SOut.of_ok, thn_ret, frOf_ret]
end L2.BH
set_option maxHeartbeats 1000000
namespace L2.BH
open PySem
/-! ### the law's body, statement by statement -/
noncomputable def S0 : QS := .own 1 (.call f__law_draw (.cons (.var 0) (.nil)))
noncomputable def T1 : QS := .set 3 (.calld f__law_rowed 1 (.cons (.lit (.int 9)) (.nil)))
noncomputable def T2 : QS := .unp (.tp3 (.nm 4) (.nm 5) (.nm 6)) (.tup (.cons (.bi .len (.cons (.var 3) (.nil))) (.cons (.call f__law_margins (.cons (.var 3) (.nil))) (.cons (.calld f__law_take 1 (.cons (.lit (.int 9)) (.nil))) (.nil)))))
noncomputable def T3 : QS := .ite (.or (.cmp .isn (.call f_check_number_row (.cons (.var 3) (.nil))) (.lit .none)) (.or (.cmp .ne (.call f_binomials (.cons (.var 6) (.nil))) (.bi .tuple (.cons (.comp (.tup (.cons (.call f__law_choices (.cons (.var 6) (.cons (.var 15) (.nil)))) (.cons (.lit (.int 1)) (.nil)))) (.nm 15) (.rng (.bin .add (.var 6) (.lit (.int 1)))) (.nil)) (.nil)))) (.cmp .lt (.call f_choices (.cons (.var 6) (.cons (.calld f__law_take 1 (.cons (.bin .add (.var 6) (.lit (.int 1))) (.nil))) (.nil)))) (.lit (.int 1))))) (.cons (.ret (.lit (.bool false))) (.nil)) (.nil)
noncomputable def T4 : QS := .ite (.or (.cmp .ne (.call f_levelled (.cons (.var 3) (.nil))) (.bi .tuple (.cons (.comp (.call f__law_low (.cons (.ix (.ix (.var 3) (.var 15)) (.lit (.int 0))) (.cons (.bin .mul (.ix (.ix (.var 3) (.var 15)) (.lit (.int 1))) (.call f__law_choices (.cons (.bin .sub (.var 4) (.lit (.int 1))) (.cons (.var 15) (.nil))))) (.nil)))) (.nm 15) (.rng (.var 4)) (.nil)) (.nil)))) (.cmp .ne (.call f_margins_of (.cons (.var 3) (.nil))) (.bi .tuple (.cons (.var 5) (.nil))))) (.cons (.ret (.lit (.bool false))) (.nil)) (.nil)
noncomputable def T5 : QS := .set 7 (.comp (.bin .add (.var 15) (.lit (.int 1))) (.nm 15) (.rng (.bi .len (.cons (.var 5) (.nil)))) (.cons (.cmp .lt (.ix (.ix (.var 5) (.var 15)) (.lit (.int 0))) (.lit (.int 0))) .nil))
noncomputable def T6 : QS := .ite (.or (.cmp .ne (.call f_row_breaks (.cons (.var 3) (.nil))) (.bi .tuple (.cons (.var 7) (.nil)))) (.or (.cmp .ne (.call f_row_gaps (.cons (.var 3) (.nil))) (.bi .tuple (.cons (.call f__law_gaps (.cons (.var 3) (.nil))) (.nil)))) (.cmp .ne (.call f_row_bulges (.cons (.var 3) (.nil))) (.call f__law_row_bulges (.cons (.var 3) (.nil)))))) (.cons (.ret (.lit (.bool false))) (.nil)) (.nil)
noncomputable def T7 : QS := .set 8 (.bin .add (.lst (.cons (.lit .none) (.cons (.tup (.nil)) (.cons (.bi .list (.cons (.var 3) (.nil))) (.cons (.bin .mul (.tup (.cons (.tup (.cons (.lit (.int 0)) (.cons (.lit (.int 1)) (.nil)))) (.nil))) (.var 4)) (.cons (.bin .add (.var 3) (.tup (.cons (.tup (.cons (.neg (.lit (.int 1))) (.cons (.lit (.int 2)) (.nil)))) (.nil)))) (.cons (.bin .add (.var 3) (.tup (.cons (.tup (.cons (.lit (.int 2)) (.cons (.lit (.int 4)) (.nil)))) (.nil)))) (.cons (.bin .add (.var 3) (.tup (.cons (.lit (.int 1)) (.nil)))) (.cons (.bin .mul (.tup (.cons (.tup (.cons (.lit (.int 1)) (.cons (.lit (.int 1)) (.nil)))) (.nil))) (.lit (.int 14))) (.cons (.bin .add (.var 3) (.tup (.cons (.tup (.cons (.lit (.bool true)) (.cons (.lit (.int 1)) (.nil)))) (.nil)))) (.nil))))))))))) (.lst (.cons (.lit (.int 5)) (.cons (.lit (.str "row")) (.cons (.tup (.cons (.tup (.cons (.lit (.int 1)) (.cons (.lit (.int 0)) (.nil)))) (.nil))) (.cons (.tup (.cons (.tup (.cons (.lit (.int 1)) (.cons (.neg (.lit (.int 1))) (.nil)))) (.nil))) (.cons (.tup (.cons (.tup (.cons (.lit (.int 1)) (.cons (.lit (.bool true)) (.nil)))) (.nil))) (.cons (.tup (.cons (.tup (.cons (.lit (.int 1)) (.cons (.lit (.int 1)) (.cons (.lit (.int 1)) (.nil))))) (.nil))) (.cons (.tup (.cons (.lst (.cons (.lit (.int 1)) (.cons (.lit (.int 1)) (.nil)))) (.nil))) (.cons (.tup (.cons (.tup (.cons (.lit (.str "1")) (.cons (.lit (.int 1)) (.nil)))) (.nil))) (.cons (.tup (.cons (.lit .none) (.nil))) (.cons (.tup (.cons (.tup (.cons (.lit (.int 1)) (.nil))) (.nil))) (.cons (.bin .add (.var 3) (.tup (.cons (.lit .none) (.nil)))) (.nil))))))))))))))
noncomputable def T8 : QS := .ite (.or (.cmp .ne (.comp (.var 16) (.nm 16) (.e (.var 8)) (.cons (.or (.cmp .isn (.call f__law_refused (.cons (.lit (.int 0)) (.cons (.var 16) (.nil)))) (.lit (.bool true))) (.cmp .isn (.call f__law_refused (.cons (.lit (.int 1)) (.cons (.tup (.cons (.lit (.str "row")) (.cons (.var 16) (.nil)))) (.nil)))) (.lit (.bool true)))) .nil)) (.lst (.nil))) (.call f__law_refused (.cons (.lit (.int 1)) (.cons (.tup (.cons (.lit (.str "row")) (.cons (.var 3) (.nil)))) (.nil))))) (.cons (.ret (.lit (.bool false))) (.nil)) (.nil)
noncomputable def T9 : QS := .ite (.cmp .ne (.comp (.var 16) (.nm 16) (.e (.lst (.cons (.tup (.nil)) (.cons (.tup (.cons (.lit (.str "row")) (.nil))) (.cons (.tup (.cons (.lit (.str "row")) (.cons (.var 3) (.cons (.lit (.int 0)) (.nil))))) (.cons (.tup (.cons (.lit (.str "rows")) (.cons (.var 3) (.nil)))) (.cons (.tup (.cons (.lit .none) (.cons (.var 3) (.nil)))) (.nil)))))))) (.cons (.cmp .isn (.call f__law_refused (.cons (.lit (.int 1)) (.cons (.var 16) (.nil)))) (.lit (.bool true))) .nil)) (.lst (.nil))) (.cons (.ret (.lit (.bool false))) (.nil)) (.nil)
noncomputable def T10 : QS := .set 9 (.tup (.cons (.lit (.str "row")) (.cons (.var 3) (.nil))))
noncomputable def T11 : QS := .unp (.tp (.nm 10) (.nm 11)) (.call f_decide_row (.cons (.var 9) (.nil)))
noncomputable def T12 : QS := .ite (.or (.cmp .ne (.var 10) (.ifx (.call f__law_row_bulges (.cons (.var 3) (.nil))) (.lit (.str "yes")) (.lit (.str "no")))) (.or (.not (.call f__law_right (.cons (.var 3) (.cons (.var 10) (.cons (.var 11) (.nil)))))) (.not (.call f__law_taken (.cons (.var 9) (.cons (.var 10) (.cons (.var 11) (.nil)))))))) (.cons (.ret (.lit (.bool false))) (.nil)) (.nil)
noncomputable def T13 : QS := .set 12 (.lst (.cons (.lit .none) (.cons (.tup (.nil)) (.cons (.var 11) (.cons (.bi .list (.cons (.var 11) (.nil))) (.cons (.bi .tuple (.cons (.var 5) (.nil))) (.cons (.slc (.bi .tuple (.cons (.var 5) (.nil))) .none (.some (.neg (.lit (.int 1))))) (.cons (.bin .add (.bi .tuple (.cons (.var 5) (.nil))) (.tup (.cons (.tup (.cons (.lit (.int 0)) (.cons (.lit (.int 1)) (.nil)))) (.nil)))) (.cons (.rev (.bi .tuple (.cons (.var 5) (.nil)))) (.cons (.bi .tuple (.cons (.comp (.tup (.cons (.ix (.var 16) (.lit (.int 0))) (.cons (.lit (.bool true)) (.nil)))) (.nm 16) (.e (.var 5)) (.nil)) (.nil))) (.nil)))))))))))
noncomputable def T14 : QS := .set 12 (.bin .add (.bin .add (.var 12) (.comp (.tup (.cons (.ix (.lst (.cons (.lit (.str "break")) (.cons (.lit (.str "gap")) (.cons (.lit (.str "row")) (.nil))))) (.bin .mod (.var 15) (.lit (.int 3)))) (.cons (.bin .sub (.bin .fdiv (.var 15) (.lit (.int 3))) (.lit (.int 1))) (.nil)))) (.nm 15) (.rng (.bin .add (.bin .mul (.lit (.int 3)) (.var 4)) (.lit (.int 6)))) (.nil))) (.lst (.cons (.tup (.cons (.lit (.str "break")) (.cons (.lit (.bool true)) (.nil)))) (.cons (.tup (.cons (.lit (.str "gap")) (.nil))) (.cons (.tup (.cons (.lit (.str "break")) (.cons (.lit .none) (.nil)))) (.cons (.tup (.cons (.lit .none) (.cons (.lit (.int 1)) (.nil)))) (.cons (.tup (.cons (.lit (.str "break")) (.cons (.bin .sub (.var 4) (.lit (.int 1))) (.nil)))) (.cons (.tup (.cons (.lit (.str "gap")) (.cons (.var 4) (.nil)))) (.nil)))))))))
noncomputable def T15 : QS := .fr (.nm 13) (.e (.var 12)) (.cons (.fr (.nm 14) (.e (.lst (.cons (.lit (.str "yes")) (.cons (.lit (.str "no")) (.nil))))) (.cons (.ite (.cmp .ne (.call f__law_taken (.cons (.var 9) (.cons (.var 14) (.cons (.var 13) (.nil))))) (.call f__law_right (.cons (.var 3) (.cons (.var 14) (.cons (.var 13) (.nil)))))) (.cons (.ret (.lit (.bool false))) (.nil)) (.nil)) (.nil))) (.nil))
noncomputable def T16 : QS := .ite (.or (.call f__law_taken (.cons (.var 9) (.cons (.lit (.str "maybe")) (.cons (.var 11) (.nil))))) (.call f__law_taken (.cons (.var 9) (.cons (.lit .none) (.cons (.var 11) (.nil)))))) (.cons (.ret (.lit (.bool false))) (.nil)) (.nil)
noncomputable def TB : QSs := .cons T1 ( .cons T2 ( .cons T3 ( .cons T4 ( .cons T5 ( .cons T6 ( .cons T7 ( .cons T8 ( .cons T9 ( .cons T10 ( .cons T11 ( .cons T12 ( .cons T13 ( .cons T14 ( .cons T15 ( .cons T16 (.nil))))))))))))))))
noncomputable def S1 : QS := .fr (.nm 2) (.rng (.lit (.int 5))) TB
noncomputable def S2 : QS := .ret (.lit (.bool true))
theorem q_law_eq : q_law = .cons S0 ( .cons S1 ( .cons S2 (.nil))) := rfl
variable {ns : List Int} {dr : List D} {c2 c3 c4 c5 c6 c7 c8 c9 c10 c11 c12 c13 c14 : Cell}
theorem ev_take {m : Nat} (h0 : 1 ≤ m) (hm : m ≤ 1000) {cs : List Cell} {dr : List D} (hc : cs[1]? = some (.own (.list dr))) (h : DrOk dr) {e : QE} (he : ev e ⟨cs, []⟩ = .ok (.int (m : Nat)) ⟨cs, []⟩) : ∃ (r : Nat) (dr' : List D), ev (.calld f__law_take 1 (.cons e .nil)) ⟨cs, []⟩ = .ok (.int (r : Nat)) ⟨cs.set 1 (.own (.list dr')), []⟩ ∧ r < m ∧ DrOk dr' := by
  obtain ⟨r, dr', e1, r1, h'⟩ := take_law h0 hm h
  refine ⟨r, dr', ?_, r1, h'⟩
  have he2 : evs (.cons e .nil) ⟨cs, []⟩ = .ok [.int (m : Nat)] ⟨cs, []⟩ := by
    rw [evs_cons, he]; rfl
  exact ev_held (s := ⟨cs, []⟩) hc he2 e1
theorem t1_of (h : DrOk dr) : ∃ (rs : List Rt) (dr' : List D), Rw rs ∧ DrOk dr' ∧ run T1 ⟨[.val (scrD ns), .own (.list dr), c2, c3, c4, c5, c6, c7, c8, c9, c10, c11, c12, c13, c14, .no, .no], []⟩ = .nx ⟨[.val (scrD ns), .own (.list dr'), c2, .val (dRs rs), c4, c5, c6, c7, c8, c9, c10, c11, c12, c13, c14, .no, .no], []⟩ := by
  obtain ⟨rs, dr', e, h', R⟩ := sem_rowed h
  have e1 : ev (.calld f__law_rowed 1 (.cons (.lit (.int 9)) (.nil))) ⟨[.val (scrD ns), .own (.list dr), c2, c3, c4, c5, c6, c7, c8, c9, c10, c11, c12, c13, c14, .no, .no], []⟩ = .ok (dRs rs) ⟨[.val (scrD ns), .own (.list dr'), c2, c3, c4, c5, c6, c7, c8, c9, c10, c11, c12, c13, c14, .no, .no], []⟩ := ev_held (s := ⟨[.val (scrD ns), .own (.list dr), c2, c3, c4, c5, c6, c7, c8, c9, c10, c11, c12, c13, c14, .no, .no], []⟩) rfl rfl e
  refine ⟨rs, dr', R, h', ?_⟩
  unfold T1
  rw [run_set, e1]
  rfl
theorem t2_of (h : DrOk dr) {rs : List Rt} (R : Rw rs) : ∃ (n : Nat) (dr' : List D), n ≤ 8 ∧ DrOk dr' ∧ run T2 ⟨[.val (scrD ns), .own (.list dr), c2, .val (dRs rs), c4, c5, c6, c7, c8, c9, c10, c11, c12, c13, c14, .no, .no], []⟩ = .nx ⟨[.val (scrD ns), .own (.list dr'), c2, .val (dRs rs), .val (.int (rs.length : Nat)), .val (.list ((mgs rs).map dP)), .val (.int (n : Nat)), c7, c8, c9, c10, c11, c12, c13, c14, .no, .no], []⟩ := by
  obtain ⟨r, dr', e1, r1, h'⟩ := ev_take (m := 9) (by omega) (by omega) (cs := [.val (scrD ns), .own (.list dr), c2, .val (dRs rs), c4, c5, c6, c7, c8, c9, c10, c11, c12, c13, c14, .no, .no]) rfl h (e := .lit (.int 9)) rfl
  simp only [List.set] at e1
  have e2 := len_rs rs
  have e3 := sem_law_margins R []
  refine ⟨r, dr', by omega, h', ?_⟩
  unfold T2
  simp [e1, e2, e3, -bi1]
theorem isS_nn : isS .none .none = some true := by simp
theorem t3_of (h : DrOk dr) {rs : List Rt} (R : Rw rs) {n : Nat} (hn : n ≤ 8) : ∃ dr' : List D, DrOk dr' ∧ run T3 ⟨[.val (scrD ns), .own (.list dr), c2, .val (dRs rs), c4, c5, .val (.int (n : Nat)), c7, c8, c9, c10, c11, c12, c13, c14, .no, .no], []⟩ = .nx ⟨[.val (scrD ns), .own (.list dr'), c2, .val (dRs rs), c4, c5, .val (.int (n : Nat)), c7, c8, c9, c10, c11, c12, c13, c14, .no, .no], []⟩ := by
  have a1 : bin2 .add (.int (n : Nat)) (.int 1) = some (.int ((n + 1 : Nat) : Int)) := by rw [add_ii, show (n : Int) + 1 = ((n + 1 : Nat) : Int) by omega]
  obtain ⟨r, dr', e1, r1, h'⟩ := ev_take (m := n + 1) (by omega) (by omega) (cs := [.val (scrD ns), .own (.list dr), c2, .val (dRs rs), c4, c5, .val (.int (n : Nat)), c7, c8, c9, c10, c11, c12, c13, c14, .no, .no]) rfl h (e := .bin .add (.var 6) (.lit (.int 1))) (by simp [a1, -bin2])
  simp only [List.set] at e1
  have c1 := check_yes R.isN
  have b1 := sem_binomials hn []
  have hi : evi (.rng (.bin .add (.var 6) (.lit (.int 1)))) ⟨[.val (scrD ns), .own (.list dr), c2, .val (dRs rs), c4, c5, .val (.int (n : Nat)), c7, c8, c9, c10, c11, c12, c13, c14, .no, .no], []⟩ = .ok ((List.range (n + 1)).map fun (k : Nat) => PyData.int k) ⟨[.val (scrD ns), .own (.list dr), c2, .val (dRs rs), c4, c5, .val (.int (n : Nat)), c7, c8, c9, c10, c11, c12, c13, c14, .no, .no], []⟩ := evi_rngE (by simp [a1, -bin2]) (by omega)
  have hc := comp_map (elt := .tup (.cons (.call f__law_choices (.cons (.var 6) (.cons (.var 15) (.nil)))) (.cons (.lit (.int 1)) (.nil)))) (t := .nm 15) (fun (k : Nat) => PyData.int k) (fun k => dP (chs n k, 1)) hi (fun k hk => by
    have e := sem_law_choices hn (show k ≤ n by have := List.mem_range.mp hk; omega) []
    simp [e, dP])
  simp only [QP.slots, Sg.wipe, wipeC, Sg.back, backC, keepC, List.set, List.getElem?_cons_succ, List.getElem?_cons_zero] at hc
  have et : bi1 .tuple (.list ((List.range (n + 1)).map fun k => dP (chs n k, 1))) = some (dRs ((List.range (n + 1)).map fun k => (chs n k, 1))) := by
    unfold dRs
    rw [List.map_map]; rfl
  have eq := eqS_Rs ((List.range (n + 1)).map fun k => (chs n k, 1)) ((List.range (n + 1)).map fun k => (chs n k, 1))
  rw [decide_eq_true rfl] at eq
  have ch := sem_choices hn (show r ≤ n by omega) []
  have bd := (chs_bd n hn r (by omega)).1
  have hlt : ¬ chs n r < 1 := by omega
  refine ⟨dr', h', ?_⟩
  unfold T3
  generalize (List.range (n + 1)).map (fun k => dP (chs n k, 1)) = A at *
  generalize dRs ((List.range (n + 1)).map fun k => (chs n k, 1)) = B at *
  have dB : isD B = false := by cases B <;> first | rfl | (exfalso; revert et; show some (PyData.tuple _) = _ → _; intro e; cases e)
  simp [c1, b1, hc, et, eq, e1, ch, hlt, dB, -bi1, -eqS]
end L2.BH
set_option maxHeartbeats 1000000
namespace L2.BH
open PySem
variable {ns : List Int} {dr : List D} {c2 c3 c4 c5 c6 c7 c8 c9 c10 c11 c12 c13 c14 : Cell}
theorem eqvAll_N : ∀ (l : List Nat), PyData.eqvAll (l.map fun (j : Nat) => PyData.int j) (l.map fun (j : Nat) => PyData.int j) = true
  | [] => by rw [List.map_nil, PyData.eqvAll]
  | a :: l => by rw [List.map_cons, PyData.eqvAll, eqv_int, eqvAll_N l]; simp
theorem depth_dNs (l : List Nat) : (dNs l).depth ≤ 60 := Nat.le_trans (depth_tup (n := 0) fun x hx => by
  obtain ⟨p, _, rfl⟩ := List.mem_map.mp hx
  simp [PyData.depth]) (by omega)
theorem eqS_N (l : List Nat) : eqS (dNs l) (dNs l) = some true := by
  show (if cmpOk (dNs l) (dNs l) then some (PyData.eqv (dNs l) (dNs l)) else none) = _
  have : cmpOk (dNs l) (dNs l) = true := by
    unfold cmpOk
    rw [shal_le (depth_dNs l)]
    rfl
  rw [this]
  unfold dNs
  rw [PyData.eqv, eqvAll_N]; rfl
theorem eqS_bool (x y : Bool) : eqS (.bool x) (.bool y) = some (x == y) := by
  simp [cmpOk, PyData.eqv]
theorem t4_of {rs : List Rt} (R : Rw rs) : run T4 ⟨[.val (scrD ns), .own (.list dr), c2, .val (dRs rs), .val (.int (rs.length : Nat)), .val (.list ((mgs rs).map dP)), c6, c7, c8, c9, c10, c11, c12, c13, c14, .no, .no], []⟩ = .nx ⟨[.val (scrD ns), .own (.list dr), c2, .val (dRs rs), .val (.int (rs.length : Nat)), .val (.list ((mgs rs).map dP)), c6, c7, c8, c9, c10, c11, c12, c13, c14, .no, .no], []⟩ := by
  have l1 := R.l1
  have l9 := R.l9
  have hi : evi (.rng (.var 4)) ⟨[.val (scrD ns), .own (.list dr), c2, .val (dRs rs), .val (.int (rs.length : Nat)), .val (.list ((mgs rs).map dP)), c6, c7, c8, c9, c10, c11, c12, c13, c14, .no, .no], []⟩ = .ok ((List.range rs.length).map fun (k : Nat) => PyData.int k) ⟨[.val (scrD ns), .own (.list dr), c2, .val (dRs rs), .val (.int (rs.length : Nat)), .val (.list ((mgs rs).map dP)), c6, c7, c8, c9, c10, c11, c12, c13, c14, .no, .no], []⟩ := evi_rngV rfl (by omega)
  have hc := comp_map (elt := .call f__law_low (.cons (.ix (.ix (.var 3) (.var 15)) (.lit (.int 0))) (.cons (.bin .mul (.ix (.ix (.var 3) (.var 15)) (.lit (.int 1))) (.call f__law_choices (.cons (.bin .sub (.var 4) (.lit (.int 1))) (.cons (.var 15) (.nil))))) (.nil)))) (t := .nm 15) (fun (k : Nat) => PyData.int k) (fun k => dP (lvl rs k)) hi (fun k hk => by
    have hk' : k < rs.length := List.mem_range.mp hk
    have o := R.ok _ (rg_mem hk')
    obtain ⟨b1, b2⟩ := chs_bd (rs.length - 1) (by omega) k (by omega)
    have e1 := sem_law_choices (n := rs.length - 1) (k := k) (by omega) (by omega) []
    have i0 := ix_rs (rs := rs) (k := k) hk'
    have e5 := len1 l1
    have sc : Sm 20 (chs (rs.length - 1) k) := sm_le (by omega) (by omega) (by omega)
    have m1 := mul_ok (x := (rg rs k).2) (y := chs (rs.length - 1) k) (o.den.mono (by omega)) (sc.mono (by omega))
    have e2 := sem_low (a := (rg rs k).1) (b := (rg rs k).2 * chs (rs.length - 1) k) (Int.mul_pos o.pos (by omega)) ((o.den.mul sc).mono (by omega)) []
    simp [e5, e1, i0, ix_p0, ix_p1, m1, e2, lvl, -bin2, -ixD])
  simp only [QP.slots, Sg.wipe, wipeC, Sg.back, backC, keepC, List.set, List.getElem?_cons_succ, List.getElem?_cons_zero] at hc
  obtain ⟨L, hL⟩ : ∃ L, L = (List.range rs.length).map (lvl rs) := ⟨_, rfl⟩
  have eL : (List.range rs.length).map (fun k => dP (lvl rs k)) = L.map dP := by rw [hL, List.map_map]; rfl
  have e1 := sem_levelled R []
  rw [← hL] at e1
  rw [eL] at hc
  have et : bi1 .tuple (.list (L.map dP)) = some (dRs L) := rfl
  have q1 := eqS_Rs L L
  rw [decide_eq_true rfl] at q1
  have e2 := sem_margins_of R []
  have et2 : bi1 .tuple (.list ((mgs rs).map dP)) = some (dRs (mgs rs)) := rfl
  have q2 := eqS_Rs (mgs rs) (mgs rs)
  rw [decide_eq_true rfl] at q2
  unfold T4
  simp [hc, e1, et, q1, e2, et2, q2, -bi1, -eqS]
theorem t5_of {rs : List Rt} (R : Rw rs) : run T5 ⟨[.val (scrD ns), .own (.list dr), c2, c3, c4, .val (.list ((mgs rs).map dP)), c6, c7, c8, c9, c10, c11, c12, c13, c14, .no, .no], []⟩ = .nx ⟨[.val (scrD ns), .own (.list dr), c2, c3, c4, .val (.list ((mgs rs).map dP)), c6, .val (.list ((brs rs).map fun (j : Nat) => PyData.int j)), c8, c9, c10, c11, c12, c13, c14, .no, .no], []⟩ := by
  have l9 := R.l9
  have el : bi1 .len (.list ((mgs rs).map dP)) = some (.int ((rs.length - 2 : Nat) : Int)) := by
    show some (PyData.int (((mgs rs).map dP).length : Nat)) = _
    rw [List.length_map, mgs_len]
  have hi : evi (.rng (.bi .len (.cons (.var 5) (.nil)))) ⟨[.val (scrD ns), .own (.list dr), c2, c3, c4, .val (.list ((mgs rs).map dP)), c6, c7, c8, c9, c10, c11, c12, c13, c14, .no, .no], []⟩ = .ok ((List.range (rs.length - 2)).map fun (k : Nat) => PyData.int k) ⟨[.val (scrD ns), .own (.list dr), c2, c3, c4, .val (.list ((mgs rs).map dP)), c6, c7, c8, c9, c10, c11, c12, c13, c14, .no, .no], []⟩ := evi_rngE (by simp [el, -bi1]) (by omega)
  have hc := comp_flt (elt := .bin .add (.var 15) (.lit (.int 1))) (c := .cmp .lt (.ix (.ix (.var 5) (.var 15)) (.lit (.int 0))) (.lit (.int 0))) (t := .nm 15) (fun (k : Nat) => PyData.int k) (fun j => decide ((mrg rs (j + 1)).1 < 0)) (fun j => PyData.int ((j + 1 : Nat) : Int)) hi (fun j hj => by
    have hj' := List.mem_range.mp hj
    have i0 := ix_rsL (rs := mgs rs) (k := j) (by rw [mgs_len]; exact hj')
    rw [mgs_at hj'] at i0
    have s2 : bin2 .add (.int (j : Nat)) (.int 1) = some (.int ((j + 1 : Nat) : Int)) := by rw [add_ii, show (j : Int) + 1 = ((j + 1 : Nat) : Int) by omega]
    rw [turn_eq1]
    generalize mrg rs (j + 1) = p at *
    generalize ((j + 1 : Nat) : Int) = J at *
    by_cases h : p.1 < 0 <;> simp [i0, ix_p0, s2, h, -bin2, -ixD])
  simp only [QP.slots, Sg.wipe, wipeC, Sg.back, backC, keepC, List.set, List.getElem?_cons_succ, List.getElem?_cons_zero] at hc
  have e : (brs rs).map (fun (j : Nat) => PyData.int j) = ((List.range (rs.length - 2)).filter fun j => decide ((mrg rs (j + 1)).1 < 0)).map fun j => PyData.int ((j + 1 : Nat) : Int) := by
    unfold brs brk
    rw [List.map_map]; rfl
  rw [← e] at hc
  unfold T5
  rw [run_set, hc]
  rfl
theorem t6_of {rs : List Rt} (R : Rw rs) : run T6 ⟨[.val (scrD ns), .own (.list dr), c2, .val (dRs rs), c4, c5, c6, .val (.list ((brs rs).map fun (j : Nat) => PyData.int j)), c8, c9, c10, c11, c12, c13, c14, .no, .no], []⟩ = .nx ⟨[.val (scrD ns), .own (.list dr), c2, .val (dRs rs), c4, c5, c6, .val (.list ((brs rs).map fun (j : Nat) => PyData.int j)), c8, c9, c10, c11, c12, c13, c14, .no, .no], []⟩ := by
  have e1 := sem_row_breaks R []
  have e2 := sem_row_gaps R []
  have e3 := sem_law_gaps R []
  have e4 := sem_row_bulges R []
  have e5 := sem_law_row_bulges R []
  have t1 : bi1 .tuple (.list ((brs rs).map fun (j : Nat) => PyData.int j)) = some (dNs (brs rs)) := rfl
  have t2 : bi1 .tuple (.list ((gps rs).map fun (j : Nat) => PyData.int j)) = some (dNs (gps rs)) := rfl
  have q1 := eqS_N (brs rs)
  have q2 := eqS_N (gps rs)
  have q3 := eqS_bool (bul rs) (bul rs)
  simp only [beq_self_eq_true] at q3
  unfold T6
  simp [e1, e2, e3, e4, e5, t1, t2, q1, q2, q3, -bi1, -eqS]
def Bdv (d : D) : Prop := NotN d ∧ isD d = false
theorem t8_of {rs : List Rt} (R : Rw rs) {L : List D} (hb : ∀ d ∈ L, Bdv d) : run T8 ⟨[.val (scrD ns), .own (.list dr), c2, .val (dRs rs), c4, c5, c6, c7, .val (.list L), c9, c10, c11, c12, c13, c14, .no, .no], []⟩ = .nx ⟨[.val (scrD ns), .own (.list dr), c2, .val (dRs rs), c4, c5, c6, c7, .val (.list L), c9, c10, c11, c12, c13, c14, .no, .no], []⟩ := by
  have hi : evi (.e (.var 8)) ⟨[.val (scrD ns), .own (.list dr), c2, .val (dRs rs), c4, c5, c6, c7, .val (.list L), c9, c10, c11, c12, c13, c14, .no, .no], []⟩ = .ok (L.map id) ⟨[.val (scrD ns), .own (.list dr), c2, .val (dRs rs), c4, c5, c6, c7, .val (.list L), c9, c10, c11, c12, c13, c14, .no, .no], []⟩ := by
    simp
  have hc := comp_flt (elt := .var 16) (c := .or (.cmp .isn (.call f__law_refused (.cons (.lit (.int 0)) (.cons (.var 16) (.nil)))) (.lit (.bool true))) (.cmp .isn (.call f__law_refused (.cons (.lit (.int 1)) (.cons (.tup (.cons (.lit (.str "row")) (.cons (.var 16) (.nil)))) (.nil)))) (.lit (.bool true)))) (t := .nm 16) id (fun _ => false) id hi (fun d hd => by
    obtain ⟨h1, h2⟩ := hb d hd
    have e1 := ref0_no h1
    have e2 := ref1_no h1
    rw [turn_eq1]
    simp [e1, e2, h2])
  have hf : L.filter (fun _ => false) = [] := by simp
  rw [hf] at hc
  simp only [QP.slots, Sg.wipe, wipeC, Sg.back, backC, keepC, List.set, List.getElem?_cons_succ, List.getElem?_cons_zero, List.map_nil] at hc
  have e3 := eqS_nilL ([] : List D)
  have e4 := ref1_yes R.isN
  unfold T8
  simp [hc, e3, e4, -eqS]
theorem t9_of {rs : List Rt} : run T9 ⟨[.val (scrD ns), .own (.list dr), c2, .val (dRs rs), c4, c5, c6, c7, c8, c9, c10, c11, c12, c13, c14, .no, .no], []⟩ = .nx ⟨[.val (scrD ns), .own (.list dr), c2, .val (dRs rs), c4, c5, c6, c7, c8, c9, c10, c11, c12, c13, c14, .no, .no], []⟩ := by
  have hi : evi (.e (.lst (.cons (.tup (.nil)) (.cons (.tup (.cons (.lit (.str "row")) (.nil))) (.cons (.tup (.cons (.lit (.str "row")) (.cons (.var 3) (.cons (.lit (.int 0)) (.nil))))) (.cons (.tup (.cons (.lit (.str "rows")) (.cons (.var 3) (.nil)))) (.cons (.tup (.cons (.lit .none) (.cons (.var 3) (.nil)))) (.nil)))))))) ⟨[.val (scrD ns), .own (.list dr), c2, .val (dRs rs), c4, c5, c6, c7, c8, c9, c10, c11, c12, c13, c14, .no, .no], []⟩ = .ok ([.tuple [], .tuple [.str "row"], .tuple [.str "row", dRs rs, .int 0], .tuple [.str "rows", dRs rs], .tuple [.none, dRs rs]].map id) ⟨[.val (scrD ns), .own (.list dr), c2, .val (dRs rs), c4, c5, c6, c7, c8, c9, c10, c11, c12, c13, c14, .no, .no], []⟩ := by
    simp
  have hc := comp_flt (elt := .var 16) (c := .cmp .isn (.call f__law_refused (.cons (.lit (.int 1)) (.cons (.var 16) (.nil)))) (.lit (.bool true))) (t := .nm 16) id (fun _ => false) id hi (fun d hd => by
    have e1 : f__law_refused.sem [.int 1, d] [] = .ret (.bool true) [] := by
      simp only [List.mem_cons, List.not_mem_nil, or_false] at hd
      rcases hd with rfl | rfl | rfl | rfl | rfl
      · exact ref1_exc (ask_len (by simp))
      · exact ref1_exc (ask_len (by simp))
      · exact ref1_exc (ask_len (by simp))
      · exact ref1_exc (ask_word (by decide))
      · exact ref1_exc (ask_kind rfl rfl)
    rw [turn_eq1]
    simp [e1])
  have hf : ([.tuple [], .tuple [.str "row"], .tuple [.str "row", dRs rs, .int 0], .tuple [.str "rows", dRs rs], .tuple [.none, dRs rs]] : List D).filter (fun _ => false) = [] := by simp
  rw [hf] at hc
  simp only [QP.slots, Sg.wipe, wipeC, Sg.back, backC, keepC, List.set, List.getElem?_cons_succ, List.getElem?_cons_zero, List.map_nil] at hc
  have e3 := eqS_nilL ([] : List D)
  unfold T9
  simp [hc, e3, -eqS]
theorem t10_of {rs : List Rt} : run T10 ⟨[.val (scrD ns), .own (.list dr), c2, .val (dRs rs), c4, c5, c6, c7, c8, c9, c10, c11, c12, c13, c14, .no, .no], []⟩ = .nx ⟨[.val (scrD ns), .own (.list dr), c2, .val (dRs rs), c4, c5, c6, c7, c8, .val (qnR rs), c10, c11, c12, c13, c14, .no, .no], []⟩ := by
  unfold T10
  simp [qnR]
end L2.BH
set_option maxHeartbeats 1000000
namespace L2.BH
open PySem
variable {ns : List Int} {dr : List D} {c2 c3 c4 c5 c6 c7 c8 c9 c10 c11 c12 c13 c14 : Cell}
theorem add_anyL {xs ys : List D} (h : xs.length + ys.length ≤ 1000) : bin2 .add (.list xs) (.list ys) = some (.list (xs ++ ys)) := by
  have hz : sizeLine = 16777216 := PySem.sizeLine_eq
  exact bin2_addL (by omega)
theorem add_t {rs : List Rt} (h : rs.length ≤ 100) (a : D) : bin2 .add (dRs rs) (.tuple [a]) = some (.tuple (rs.map dP ++ [a])) := by
  have hz : sizeLine = 16777216 := PySem.sizeLine_eq
  exact bin2_addT (by rw [List.length_map]; simp; omega)
theorem t7_of {rs : List Rt} (R : Rw rs) : ∃ L : List D, (∀ d ∈ L, Bdv d) ∧ run T7 ⟨[.val (scrD ns), .own (.list dr), c2, .val (dRs rs), .val (.int (rs.length : Nat)), c5, c6, c7, c8, c9, c10, c11, c12, c13, c14, .no, .no], []⟩ = .nx ⟨[.val (scrD ns), .own (.list dr), c2, .val (dRs rs), .val (.int (rs.length : Nat)), c5, c6, c7, .val (.list L), c9, c10, c11, c12, c13, c14, .no, .no], []⟩ := by
  have l9 := R.l9
  have a1 := fun a : D => add_t (rs := rs) (by omega) a
  have a2 := rep1 (.tuple [.int 0, .int 1]) (n := rs.length) (by omega)
  have a3 : bin2 .mul (.tuple [.tuple [.int 1, .int 1]]) (.int 14) = some (.tuple (List.replicate 14 (.tuple [.int 1, .int 1]))) := rep1 (.tuple [.int 1, .int 1]) (n := 14) (by omega)
  have a4 : bi1 .list (dRs rs) = some (.list (rs.map dP)) := rfl
  have z1 : PyData.tuple (List.replicate rs.length (.tuple [.int 0, .int 1])) = dRs (List.replicate rs.length (0, 1)) := by unfold dRs; rw [List.map_replicate]; rfl
  have z2 : PyData.tuple (List.replicate 14 (.tuple [.int 1, .int 1])) = dRs (List.replicate 14 (1, 1)) := by unfold dRs; rw [List.map_replicate]; rfl
  have z3 : PyData.tuple (rs.map dP ++ [.tuple [.int (-1), .int 2]]) = dRs (rs ++ [(-1, 2)]) := by unfold dRs; rw [List.map_append]; rfl
  obtain ⟨Z, hZ⟩ : ∃ Z : List D, Z = List.replicate 14 (.tuple [.int 1, .int 1]) := ⟨_, rfl⟩
  rw [← hZ] at a3 z2
  let X : List D := [.none, .tuple [], .list (rs.map dP), .tuple (List.replicate rs.length (.tuple [.int 0, .int 1])), .tuple (rs.map dP ++ [.tuple [.int (-1), .int 2]]), .tuple (rs.map dP ++ [.tuple [.int 2, .int 4]]), .tuple (rs.map dP ++ [.int 1]), .tuple Z, .tuple (rs.map dP ++ [.tuple [.bool true, .int 1]])]
  let Y : List D := [.int 5, .str "row", .tuple [.tuple [.int 1, .int 0]], .tuple [.tuple [.int 1, .int (-1)]], .tuple [.tuple [.int 1, .bool true]], .tuple [.tuple [.int 1, .int 1, .int 1]], .tuple [.list [.int 1, .int 1]], .tuple [.tuple [.str "1", .int 1]], .tuple [.none], .tuple [.tuple [.int 1]], .tuple (rs.map dP ++ [.none])]
  have hX : ∀ d ∈ X, Bdv d := fun d hd => by
    simp only [X, List.mem_cons, List.not_mem_nil, or_false] at hd
    rcases hd with rfl | rfl | rfl | rfl | rfl | rfl | rfl | rfl | rfl
    · exact ⟨nr_kind rfl rfl, rfl⟩
    · exact ⟨nn_empty, rfl⟩
    · exact ⟨nr_kind rfl rfl, rfl⟩
    · rw [z1]; exact ⟨nn_zeros _, rfl⟩
    · rw [z3]; exact ⟨nn_neg R, rfl⟩
    · exact ⟨nn_tail rfl (by decide), rfl⟩
    · exact ⟨nn_tail rfl rfl, rfl⟩
    · rw [z2]; exact ⟨nn_many (by omega), rfl⟩
    · exact ⟨nn_tail rfl rfl, rfl⟩
  have hY : ∀ d ∈ Y, Bdv d := fun d hd => by
    simp only [Y, List.mem_cons, List.not_mem_nil, or_false] at hd
    rcases hd with rfl | rfl | rfl | rfl | rfl | rfl | rfl | rfl | rfl | rfl | rfl
    · exact ⟨nr_kind rfl rfl, rfl⟩
    · exact ⟨nr_kind rfl rfl, rfl⟩
    · exact ⟨nn_one rfl (by decide), rfl⟩
    · exact ⟨nn_one rfl (by decide), rfl⟩
    · exact ⟨nn_one rfl rfl, rfl⟩
    · exact ⟨nn_one rfl rfl, rfl⟩
    · exact ⟨nn_one rfl rfl, rfl⟩
    · exact ⟨nn_one rfl rfl, rfl⟩
    · exact ⟨nn_one rfl rfl, rfl⟩
    · exact ⟨nn_one rfl rfl, rfl⟩
    · exact ⟨nn_tail rfl rfl, rfl⟩
  have e1 : bin2 .add (.list X) (.list Y) = some (.list (X ++ Y)) := add_anyL (by simp [X, Y])
  refine ⟨X ++ Y, fun d hd => ?_, ?_⟩
  · rcases List.mem_append.mp hd with h | h
    · exact hX d h
    · exact hY d h
  · simp only [X, Y] at e1
    unfold T7
    simp only [X, Y]
    simp [a1, a2, a3, a4, e1, -bin2, -bi1, -List.append_assoc, -List.cons_append, -List.replicate]
/-! deciding -/
def dueS (b : Bool) : Str := if b then "yes" else "no"
theorem fst_mem {l : List Nat} (h : l.isEmpty = false) : fst l ∈ l := by
  cases l with
  | nil => cases h
  | cons a l => exact List.mem_cons_self
theorem pl_right {rs : List Rt} (R : Rw rs) {w : Str} {k : Int} (h : plc rs w k = true) : f__law_right.sem [dRs rs, .str "no", .tuple [.str w, .int k]] [] = .ret (.bool true) [] ∧ f__law_taken.sem [qnR rs, .str "no", .tuple [.str w, .int k]] [] = .ret (.bool true) [] := by
  have r := rgt_main R (w := w) (k := k)
  rw [h] at r
  obtain ⟨b, h1, h2⟩ := pap_no R (.pl w k)
  rw [r] at h2
  cases h2
  exact ⟨r, h1⟩
theorem decided {rs : List Rt} (R : Rw rs) : ∃ xs : List D, f_decide_row.sem [qnR rs] [] = .ret (.tuple [.str (dueS (bul rs)), .tuple xs]) [] ∧ Pv rs (.tuple xs) ∧ f__law_right.sem [dRs rs, .str (dueS (bul rs)), .tuple xs] [] = .ret (.bool true) [] ∧ f__law_taken.sem [qnR rs, .str (dueS (bul rs)), .tuple xs] [] = .ret (.bool true) [] := by
  have e := sem_decide R []
  unfold bul
  cases h1 : (brs rs).isEmpty with
  | false =>
    rw [h1] at e
    have hp : plc rs "break" (fst (brs rs) : Nat) = true := by
      unfold plc
      rw [if_pos rfl]
      exact anyN_iff.mpr ⟨_, fst_mem h1, rfl⟩
    obtain ⟨r1, r2⟩ := pl_right R hp
    exact ⟨_, e, .pl _ _, r1, r2⟩
  | true =>
    rw [h1] at e
    cases h2 : (gps rs).isEmpty with
    | false =>
      rw [h2] at e
      have hp : plc rs "gap" (fst (gps rs) : Nat) = true := by
        unfold plc
        rw [if_neg bk_gp, if_pos rfl]
        exact anyN_iff.mpr ⟨_, fst_mem h2, rfl⟩
      obtain ⟨r1, r2⟩ := pl_right R hp
      exact ⟨_, e, .pl _ _, r1, r2⟩
    | true =>
      rw [h2] at e
      have hb : bul rs = true := by unfold bul; rw [h1, h2]; rfl
      have q : eqS (.tuple ((mgs rs).map dP)) (dRs (mgs rs)) = some true := by
        have := eqS_Rs (mgs rs) (mgs rs)
        rw [decide_eq_true rfl] at this
        exact this
      have r := rgt_yes R (c := true) q (fun _ => ⟨_, str_ms R, by simp⟩)
      rw [hb] at r
      obtain ⟨b, g1, g2⟩ := rts_yes R (mgs rs)
      have g2' : f__law_right.sem [dRs rs, .str "yes", .tuple ((mgs rs).map dP)] [] = .ret (.bool b) [] := g2
      rw [r] at g2'
      cases g2'
      exact ⟨_, e, .rts (mgs rs), r, g1⟩
theorem t11_of {rs : List Rt} {x : Str} {p : D} (h : f_decide_row.sem [qnR rs] [] = .ret (.tuple [.str x, p]) []) : run T11 ⟨[.val (scrD ns), .own (.list dr), c2, c3, c4, c5, c6, c7, c8, .val (qnR rs), c10, c11, c12, c13, c14, .no, .no], []⟩ = .nx ⟨[.val (scrD ns), .own (.list dr), c2, c3, c4, c5, c6, c7, c8, .val (qnR rs), .val (.str x), .val p, c12, c13, c14, .no, .no], []⟩ := by
  unfold T11
  simp [h]
theorem t12_of {rs : List Rt} (R : Rw rs) {p : D} (h1 : f__law_right.sem [dRs rs, .str (dueS (bul rs)), p] [] = .ret (.bool true) []) (h2 : f__law_taken.sem [qnR rs, .str (dueS (bul rs)), p] [] = .ret (.bool true) []) : run T12 ⟨[.val (scrD ns), .own (.list dr), c2, .val (dRs rs), c4, c5, c6, c7, c8, .val (qnR rs), .val (.str (dueS (bul rs))), .val p, c12, c13, c14, .no, .no], []⟩ = .nx ⟨[.val (scrD ns), .own (.list dr), c2, .val (dRs rs), c4, c5, c6, c7, c8, .val (qnR rs), .val (.str (dueS (bul rs))), .val p, c12, c13, c14, .no, .no], []⟩ := by
  have e1 := sem_law_row_bulges R []
  unfold T12
  unfold dueS at *
  cases h : bul rs <;> rw [h] at e1 h1 h2 <;> simp at h1 h2 <;> simp [e1, eqS_str, yy, nn', h1, h2, -eqS]
/-! near values -/
theorem cut_rs (ms : List Rt) : ∃ qs : List Rt, cutD (dRs ms) none (some (-1)) = some (dRs qs) := by
  refine ⟨(ms.drop (HT.sIx (ms.map dP).length 0 none)).take (HT.sIx (ms.map dP).length (ms.map dP).length (some (-1)) - HT.sIx (ms.map dP).length 0 none), ?_⟩
  show some (PyData.tuple (cutL (ms.map dP) none (some (-1)))) = _
  unfold dRs cutL
  rw [List.map_take, List.map_drop]
def Nr (rs : List Rt) (L : List D) (n : Nat) : Prop := L.length ≤ n ∧ ∀ d ∈ L, Pv rs d
theorem t13_of {rs : List Rt} (R : Rw rs) {xs : List D} (hp : Pv rs (.tuple xs)) : ∃ L : List D, Nr rs L 9 ∧ run T13 ⟨[.val (scrD ns), .own (.list dr), c2, c3, c4, .val (.list ((mgs rs).map dP)), c6, c7, c8, c9, c10, .val (.tuple xs), c12, c13, c14, .no, .no], []⟩ = .nx ⟨[.val (scrD ns), .own (.list dr), c2, c3, c4, .val (.list ((mgs rs).map dP)), c6, c7, c8, c9, c10, .val (.tuple xs), .val (.list L), c13, c14, .no, .no], []⟩ := by
  have l9 := R.l9
  have ml := mgs_len rs
  obtain ⟨qs, hq⟩ := cut_rs (mgs rs)
  have et : bi1 .tuple (.list ((mgs rs).map dP)) = some (dRs (mgs rs)) := rfl
  have a1 := add_t (rs := mgs rs) (by omega) (.tuple [.int 0, .int 1])
  have z1 : PyData.tuple ((mgs rs).map dP ++ [.tuple [.int 0, .int 1]]) = dRs (mgs rs ++ [(0, 1)]) := by unfold dRs; rw [List.map_append]; rfl
  rw [z1] at a1
  have rv : revD (dRs (mgs rs)) = some (dRs (mgs rs).reverse) := by
    show some (PyData.tuple ((mgs rs).map dP).reverse) = some (.tuple ((mgs rs).reverse.map dP))
    rw [List.map_reverse]
  have hi : evi (.e (.var 5)) ⟨[.val (scrD ns), .own (.list dr), c2, c3, c4, .val (.list ((mgs rs).map dP)), c6, c7, c8, c9, c10, .val (.tuple xs), c12, c13, c14, .no, .no], []⟩ = .ok ((mgs rs).map dP) ⟨[.val (scrD ns), .own (.list dr), c2, c3, c4, .val (.list ((mgs rs).map dP)), c6, c7, c8, c9, c10, .val (.tuple xs), c12, c13, c14, .no, .no], []⟩ := by simp
  have hc := comp_map (elt := .tup (.cons (.ix (.var 16) (.lit (.int 0))) (.cons (.lit (.bool true)) (.nil)))) (t := .nm 16) dP (fun p => pbD p.1 true) hi (fun p hp => by
    simp [ix_p0, pbD, -ixD])
  simp only [QP.slots, Sg.wipe, wipeC, Sg.back, backC, keepC, List.set, List.getElem?_cons_succ, List.getElem?_cons_zero] at hc
  have hc' : (mgs rs).map (fun p => pbD p.1 true) = tB (mgs rs) := rfl
  rw [hc'] at hc
  have e2 : bi1 .tuple (.list (tB (mgs rs))) = some (.tuple (tB (mgs rs))) := rfl
  refine ⟨[.none, .tuple [], .tuple xs, .list xs, dRs (mgs rs), dRs qs, dRs (mgs rs ++ [(0, 1)]), dRs (mgs rs).reverse, .tuple (tB (mgs rs))], ⟨by simp, fun d hd => ?_⟩, ?_⟩
  · simp only [List.mem_cons, List.not_mem_nil, or_false] at hd
    rcases hd with rfl | rfl | rfl | rfl | rfl | rfl | rfl | rfl | rfl
    · exact .none
    · exact .rts []
    · exact hp
    · exact .list _
    · exact .rts _
    · exact .rts _
    · exact .rts _
    · exact .rts _
    · exact .tb
  · have el : bi1 .list (.tuple xs) = some (.list xs) := rfl
    unfold T13
    generalize tB (mgs rs) = TT at *
    have dA : isD (dRs (mgs rs ++ [(0, 1)])) = false := rfl
    generalize dRs (mgs rs ++ [(0, 1)]) = A1 at *
    simp [et, hq, a1, rv, hc, e2, el, dA, -bi1, -bin2]
theorem nr_add {rs : List Rt} {L M : List D} {a b : Nat} (h1 : Nr rs L a) (h2 : Nr rs M b) (h : a + b ≤ 1000) : bin2 .add (.list L) (.list M) = some (.list (L ++ M)) ∧ Nr rs (L ++ M) (a + b) := by
  obtain ⟨l1, p1⟩ := h1
  obtain ⟨l2, p2⟩ := h2
  refine ⟨add_anyL (by omega), by rw [List.length_append]; omega, fun d hd => ?_⟩
  rcases List.mem_append.mp hd with hd | hd
  · exact p1 d hd
  · exact p2 d hd
def wd : Nat → Str
  | 0 => "break"
  | 1 => "gap"
  | _ => "row"
theorem ix_wd (k : Nat) : ixD (.list [.str "break", .str "gap", .str "row"]) (.int ((k % 3 : Nat) : Int)) = some (.str (wd (k % 3))) := by
  have h : k % 3 < 3 := Nat.mod_lt _ (by omega)
  generalize k % 3 = m at *
  match m, h with
  | 0, _ => exact L2.atI_nat (j := 0) rfl
  | 1, _ => exact L2.atI_nat (j := 1) rfl
  | 2, _ => exact L2.atI_nat (j := 2) rfl
theorem t14_of {rs : List Rt} (R : Rw rs) {L : List D} (hL : Nr rs L 9) : ∃ L' : List D, Nr rs L' 100 ∧ run T14 ⟨[.val (scrD ns), .own (.list dr), c2, c3, .val (.int (rs.length : Nat)), c5, c6, c7, c8, c9, c10, c11, .val (.list L), c13, c14, .no, .no], []⟩ = .nx ⟨[.val (scrD ns), .own (.list dr), c2, c3, .val (.int (rs.length : Nat)), c5, c6, c7, c8, c9, c10, c11, .val (.list L'), c13, c14, .no, .no], []⟩ := by
  have l1 := R.l1
  have l9 := R.l9
  have m1 : bin2 .mul (.int 3) (.int (rs.length : Nat)) = some (.int ((3 * rs.length : Nat) : Int)) := by
    rw [mul_ok (sm_le (by omega) (by omega) (by omega)) (sm_le (by omega) (by omega) (by omega))]
    push_cast; rfl
  have a1 : bin2 .add (.int ((3 * rs.length : Nat) : Int)) (.int 6) = some (.int ((3 * rs.length + 6 : Nat) : Int)) := by rw [add_ii]; push_cast; rfl
  have hi : evi (.rng (.bin .add (.bin .mul (.lit (.int 3)) (.var 4)) (.lit (.int 6)))) ⟨[.val (scrD ns), .own (.list dr), c2, c3, .val (.int (rs.length : Nat)), c5, c6, c7, c8, c9, c10, c11, .val (.list L), c13, c14, .no, .no], []⟩ = .ok ((List.range (3 * rs.length + 6)).map fun (k : Nat) => PyData.int k) ⟨[.val (scrD ns), .own (.list dr), c2, c3, .val (.int (rs.length : Nat)), c5, c6, c7, c8, c9, c10, c11, .val (.list L), c13, c14, .no, .no], []⟩ := evi_rngE (by
    generalize ((3 * rs.length : Nat) : Int) = A at m1 a1
    generalize ((3 * rs.length + 6 : Nat) : Int) = B at a1 ⊢
    simp [m1, a1, -bin2]) (by omega)
  have hc := comp_map (elt := .tup (.cons (.ix (.lst (.cons (.lit (.str "break")) (.cons (.lit (.str "gap")) (.cons (.lit (.str "row")) (.nil))))) (.bin .mod (.var 15) (.lit (.int 3)))) (.cons (.bin .sub (.bin .fdiv (.var 15) (.lit (.int 3))) (.lit (.int 1))) (.nil)))) (t := .nm 15) (fun (k : Nat) => PyData.int k) (fun k => PyData.tuple [.str (wd (k % 3)), .int ((k : Int) / 3 - 1)]) hi (fun k hk => by
    have b1 : bin2 .mod (.int (k : Nat)) (.int 3) = some (.int ((k % 3 : Nat) : Int)) := by
      show (if decide ((0 : Int) < 3) then some (PyData.int ((k : Int) % 3)) else none) = _
      rw [decide_eq_true (by omega)]; push_cast; rfl
    have b2 := div_ok (x := (k : Int)) (y := 3) (sm_le (by omega) (by omega) (by omega)) (by omega)
    have b3 := sub_ii ((k : Int) / 3) 1
    have i := ix_wd k
    generalize ((k % 3 : Nat) : Int) = J at b1 i
    simp [b1, b2, b3, i, -bin2, -ixD])
  simp only [QP.slots, Sg.wipe, wipeC, Sg.back, backC, keepC, List.set, List.getElem?_cons_succ, List.getElem?_cons_zero] at hc
  have n0 : Nr rs ((List.range (3 * rs.length + 6)).map fun k => PyData.tuple [.str (wd (k % 3)), .int ((k : Int) / 3 - 1)]) 33 := by
    refine ⟨by rw [List.length_map, List.length_range]; omega, fun d hd => ?_⟩
    obtain ⟨k, _, rfl⟩ := List.mem_map.mp hd
    exact .pl _ _
  have n2 : Nr rs [.tuple [.str "break", .bool true], .tuple [.str "gap"], .tuple [.str "break", .none], .tuple [.none, .int 1], .tuple [.str "break", .int ((rs.length : Int) - 1)], .tuple [.str "gap", .int (rs.length : Nat)]] 6 := by
    refine ⟨by simp, fun d hd => ?_⟩
    simp only [List.mem_cons, List.not_mem_nil, or_false] at hd
    rcases hd with rfl | rfl | rfl | rfl | rfl | rfl
    · exact .plb _ _
    · exact .one _
    · exact .pln _
    · exact .nn _
    · exact .pl _ _
    · exact .pl _ _
  obtain ⟨e1, n1⟩ := nr_add hL n0 (by omega)
  obtain ⟨e2, n3⟩ := nr_add n1 n2 (by omega)
  have s1 := sub_ii (rs.length : Int) 1
  refine ⟨_, ⟨Nat.le_trans n3.1 (by omega), n3.2⟩, ?_⟩
  unfold T14
  generalize ((List.range (3 * rs.length + 6)).map fun k => PyData.tuple [.str (wd (k % 3)), .int ((k : Int) / 3 - 1)]) = Q at *
  rw [run_set, ev_bin, ev_bin, ev_var]
  simp only [getV_mk, List.getElem?_cons_succ, List.getElem?_cons_zero, getC_val, Out.bind_ok, hc, e1, ofO_some]
  simp [s1, e2, -bin2, -List.append_assoc]
noncomputable def BI : QSs := .cons (.ite (.cmp .ne (.call f__law_taken (.cons (.var 9) (.cons (.var 14) (.cons (.var 13) (.nil))))) (.call f__law_right (.cons (.var 3) (.cons (.var 14) (.cons (.var 13) (.nil)))))) (.cons (.ret (.lit (.bool false))) (.nil)) (.nil)) (.nil)
noncomputable def BO : QSs := .cons (.fr (.nm 14) (.e (.lst (.cons (.lit (.str "yes")) (.cons (.lit (.str "no")) (.nil))))) BI) (.nil)
theorem bi_of {rs : List Rt} (R : Rw rs) {v : D} (hv : Pv rs v) {x : Str} (hx : x = "yes" ∨ x = "no") : frS (.nm 14) BI (.str x) ⟨[.val (scrD ns), .own (.list dr), c2, .val (dRs rs), c4, c5, c6, c7, c8, .val (qnR rs), c10, c11, c12, .val v, c14, .no, .no], []⟩ = .nx ⟨[.val (scrD ns), .own (.list dr), c2, .val (dRs rs), c4, c5, c6, c7, c8, .val (qnR rs), c10, c11, c12, .val v, .val (.str x), .no, .no], []⟩ := by
  have h : ∃ b, f__law_taken.sem [qnR rs, .str x, v] [] = .ret (.bool b) [] ∧ f__law_right.sem [dRs rs, .str x, v] [] = .ret (.bool b) [] := by
    rcases hx with rfl | rfl
    · exact pap_yes R hv
    · exact pap_no R hv
  obtain ⟨b, e1, e2⟩ := h
  have e3 := eqS_bool b b
  simp only [beq_self_eq_true] at e3
  simp [BI, e1, e2, e3, -eqS]
theorem bo_of {rs : List Rt} (R : Rw rs) {v : D} (hv : Pv rs v) : frS (.nm 13) BO v ⟨[.val (scrD ns), .own (.list dr), c2, .val (dRs rs), c4, c5, c6, c7, c8, .val (qnR rs), c10, c11, c12, c13, c14, .no, .no], []⟩ = .nx ⟨[.val (scrD ns), .own (.list dr), c2, .val (dRs rs), c4, c5, c6, c7, c8, .val (qnR rs), c10, c11, c12, .val v, .val (.str "no"), .no, .no], []⟩ := by
  have hi : evi (.e (.lst (.cons (.lit (.str "yes")) (.cons (.lit (.str "no")) (.nil))))) ⟨[.val (scrD ns), .own (.list dr), c2, .val (dRs rs), c4, c5, c6, c7, c8, .val (qnR rs), c10, c11, c12, .val v, c14, .no, .no], []⟩ = .ok [.str "yes", .str "no"] ⟨[.val (scrD ns), .own (.list dr), c2, .val (dRs rs), c4, c5, c6, c7, c8, .val (qnR rs), c10, c11, c12, .val v, c14, .no, .no], []⟩ := by simp
  have e1 : run (.fr (.nm 14) (.e (.lst (.cons (.lit (.str "yes")) (.cons (.lit (.str "no")) (.nil))))) BI) ⟨[.val (scrD ns), .own (.list dr), c2, .val (dRs rs), c4, c5, c6, c7, c8, .val (qnR rs), c10, c11, c12, .val v, c14, .no, .no], []⟩ = .nx ⟨[.val (scrD ns), .own (.list dr), c2, .val (dRs rs), c4, c5, c6, c7, c8, .val (qnR rs), c10, c11, c12, .val v, .val (.str "no"), .no, .no], []⟩ := by
    rw [run_fr, hi, SOut.of_ok, frL_cons', bi_of R hv (.inl rfl)]
    show frL _ [PyData.str "no"] _ = _
    rw [frL_cons', bi_of R hv (.inr rfl)]
    rfl
  show runs BO ⟨[.val (scrD ns), .own (.list dr), c2, .val (dRs rs), c4, c5, c6, c7, c8, .val (qnR rs), c10, c11, c12, .val v, c14, .no, .no], []⟩ = _
  rw [BO, runs_cons, e1]
  rfl
theorem t15_of {rs : List Rt} (R : Rw rs) {L : List D} (hL : ∀ d ∈ L, Pv rs d) : ∃ d13 d14, run T15 ⟨[.val (scrD ns), .own (.list dr), c2, .val (dRs rs), c4, c5, c6, c7, c8, .val (qnR rs), c10, c11, .val (.list L), c13, c14, .no, .no], []⟩ = .nx ⟨[.val (scrD ns), .own (.list dr), c2, .val (dRs rs), c4, c5, c6, c7, c8, .val (qnR rs), c10, c11, .val (.list L), d13, d14, .no, .no], []⟩ := by
  obtain ⟨s', h1, d13, d14, h2⟩ := frL_map (f := frS (.nm 13) BO) id (fun p s => ∃ d13 d14, s = ⟨[.val (scrD ns), .own (.list dr), c2, .val (dRs rs), c4, c5, c6, c7, c8, .val (qnR rs), c10, c11, .val (.list L), d13, d14, .no, .no], []⟩) L (fun p a q s hl hj => by
      obtain ⟨d13, d14, rfl⟩ := hj
      have ha : a ∈ L := by rw [hl]; simp
      exact ⟨_, bo_of R (hL a ha), _, _, rfl⟩)
      ⟨[.val (scrD ns), .own (.list dr), c2, .val (dRs rs), c4, c5, c6, c7, c8, .val (qnR rs), c10, c11, .val (.list L), c13, c14, .no, .no], []⟩ ⟨c13, c14, rfl⟩
  subst h2
  refine ⟨d13, d14, ?_⟩
  have e0 : T15 = .fr (.nm 13) (.e (.var 12)) BO := rfl
  have hi : evi (.e (.var 12)) ⟨[.val (scrD ns), .own (.list dr), c2, .val (dRs rs), c4, c5, c6, c7, c8, .val (qnR rs), c10, c11, .val (.list L), c13, c14, .no, .no], []⟩ = .ok (L.map id) ⟨[.val (scrD ns), .own (.list dr), c2, .val (dRs rs), c4, c5, c6, c7, c8, .val (qnR rs), c10, c11, .val (.list L), c13, c14, .no, .no], []⟩ := by simp
  rw [e0, run_fr, hi, SOut.of_ok]
  exact h1
theorem t16_of {rs : List Rt} {p : D} : run T16 ⟨[.val (scrD ns), .own (.list dr), c2, c3, c4, c5, c6, c7, c8, .val (qnR rs), c10, .val p, c12, c13, c14, .no, .no], []⟩ = .nx ⟨[.val (scrD ns), .own (.list dr), c2, c3, c4, c5, c6, c7, c8, .val (qnR rs), c10, .val p, c12, c13, c14, .no, .no], []⟩ := by
  have e1 := tak_exc (judge_maybe (qnR rs) p)
  have e2 := tak_exc (judge_none (qnR rs) p)
  unfold T16
  simp [e1, e2]
end L2.BH
set_option maxHeartbeats 1000000
namespace L2.BH
open PySem
variable {ns : List Int} {dr : List D} {c2 c3 c4 c5 c6 c7 c8 c9 c10 c11 c12 c13 c14 : Cell}
theorem turn_of (h : DrOk dr) : ∃ (dr' : List D) (d2 d3 d4 d5 d6 d7 d8 d9 d10 d11 d12 d13 d14 : Cell), DrOk dr' ∧ runs TB ⟨[.val (scrD ns), .own (.list dr), c2, c3, c4, c5, c6, c7, c8, c9, c10, c11, c12, c13, c14, .no, .no], []⟩ = .nx ⟨[.val (scrD ns), .own (.list dr'), d2, d3, d4, d5, d6, d7, d8, d9, d10, d11, d12, d13, d14, .no, .no], []⟩ := by
  obtain ⟨rs, dr1, R, h1, e_t1_of⟩ := t1_of (ns := ns) (c2 := c2) (c3 := c3) (c4 := c4) (c5 := c5) (c6 := c6) (c7 := c7) (c8 := c8) (c9 := c9) (c10 := c10) (c11 := c11) (c12 := c12) (c13 := c13) (c14 := c14) h
  obtain ⟨n, dr2, hn, h2, e_t2_of⟩ := t2_of (ns := ns) (c2 := c2) (c4 := c4) (c5 := c5) (c6 := c6) (c7 := c7) (c8 := c8) (c9 := c9) (c10 := c10) (c11 := c11) (c12 := c12) (c13 := c13) (c14 := c14) h1 R
  obtain ⟨dr3, h3, e_t3_of⟩ := t3_of (ns := ns) (c2 := c2) (c4 := .val (.int (rs.length : Nat))) (c5 := .val (.list ((mgs rs).map dP))) (c7 := c7) (c8 := c8) (c9 := c9) (c10 := c10) (c11 := c11) (c12 := c12) (c13 := c13) (c14 := c14) h2 R hn
  have e_t4_of := t4_of (ns := ns) (dr := dr3) (c2 := c2) (c6 := .val (.int (n : Nat))) (c7 := c7) (c8 := c8) (c9 := c9) (c10 := c10) (c11 := c11) (c12 := c12) (c13 := c13) (c14 := c14) R
  have e_t5_of := t5_of (ns := ns) (dr := dr3) (c2 := c2) (c3 := .val (dRs rs)) (c4 := .val (.int (rs.length : Nat))) (c6 := .val (.int (n : Nat))) (c7 := c7) (c8 := c8) (c9 := c9) (c10 := c10) (c11 := c11) (c12 := c12) (c13 := c13) (c14 := c14) R
  have e_t6_of := t6_of (ns := ns) (dr := dr3) (c2 := c2) (c4 := .val (.int (rs.length : Nat))) (c5 := .val (.list ((mgs rs).map dP))) (c6 := .val (.int (n : Nat))) (c8 := c8) (c9 := c9) (c10 := c10) (c11 := c11) (c12 := c12) (c13 := c13) (c14 := c14) R
  obtain ⟨L7, b7, e_t7_of⟩ := t7_of (ns := ns) (dr := dr3) (c2 := c2) (c5 := .val (.list ((mgs rs).map dP))) (c6 := .val (.int (n : Nat))) (c7 := .val (.list ((brs rs).map fun (j : Nat) => PyData.int j))) (c8 := c8) (c9 := c9) (c10 := c10) (c11 := c11) (c12 := c12) (c13 := c13) (c14 := c14) R
  have e_t8_of := t8_of (ns := ns) (dr := dr3) (c2 := c2) (c4 := .val (.int (rs.length : Nat))) (c5 := .val (.list ((mgs rs).map dP))) (c6 := .val (.int (n : Nat))) (c7 := .val (.list ((brs rs).map fun (j : Nat) => PyData.int j))) (c9 := c9) (c10 := c10) (c11 := c11) (c12 := c12) (c13 := c13) (c14 := c14) R b7
  have e_t9_of := t9_of (ns := ns) (dr := dr3) (c2 := c2) (c4 := .val (.int (rs.length : Nat))) (c5 := .val (.list ((mgs rs).map dP))) (c6 := .val (.int (n : Nat))) (c7 := .val (.list ((brs rs).map fun (j : Nat) => PyData.int j))) (c8 := .val (.list L7)) (c9 := c9) (c10 := c10) (c11 := c11) (c12 := c12) (c13 := c13) (c14 := c14) (rs := rs)
  have e_t10_of := t10_of (ns := ns) (dr := dr3) (c2 := c2) (c4 := .val (.int (rs.length : Nat))) (c5 := .val (.list ((mgs rs).map dP))) (c6 := .val (.int (n : Nat))) (c7 := .val (.list ((brs rs).map fun (j : Nat) => PyData.int j))) (c8 := .val (.list L7)) (c9 := c9) (c10 := c10) (c11 := c11) (c12 := c12) (c13 := c13) (c14 := c14) (rs := rs)
  obtain ⟨xs, dd, hp, hrt, htk⟩ := decided R
  have e_t11_of := t11_of (ns := ns) (dr := dr3) (c2 := c2) (c3 := .val (dRs rs)) (c4 := .val (.int (rs.length : Nat))) (c5 := .val (.list ((mgs rs).map dP))) (c6 := .val (.int (n : Nat))) (c7 := .val (.list ((brs rs).map fun (j : Nat) => PyData.int j))) (c8 := .val (.list L7)) (c10 := c10) (c11 := c11) (c12 := c12) (c13 := c13) (c14 := c14) dd
  have e_t12_of := t12_of (ns := ns) (dr := dr3) (c2 := c2) (c4 := .val (.int (rs.length : Nat))) (c5 := .val (.list ((mgs rs).map dP))) (c6 := .val (.int (n : Nat))) (c7 := .val (.list ((brs rs).map fun (j : Nat) => PyData.int j))) (c8 := .val (.list L7)) (c12 := c12) (c13 := c13) (c14 := c14) R hrt htk
  obtain ⟨L13, n13, e_t13_of⟩ := t13_of (ns := ns) (dr := dr3) (c2 := c2) (c3 := .val (dRs rs)) (c4 := .val (.int (rs.length : Nat))) (c6 := .val (.int (n : Nat))) (c7 := .val (.list ((brs rs).map fun (j : Nat) => PyData.int j))) (c8 := .val (.list L7)) (c9 := .val (qnR rs)) (c10 := .val (.str (dueS (bul rs)))) (c12 := c12) (c13 := c13) (c14 := c14) R hp
  obtain ⟨L14, n14, e_t14_of⟩ := t14_of (ns := ns) (dr := dr3) (c2 := c2) (c3 := .val (dRs rs)) (c5 := .val (.list ((mgs rs).map dP))) (c6 := .val (.int (n : Nat))) (c7 := .val (.list ((brs rs).map fun (j : Nat) => PyData.int j))) (c8 := .val (.list L7)) (c9 := .val (qnR rs)) (c10 := .val (.str (dueS (bul rs)))) (c11 := .val (.tuple xs)) (c13 := c13) (c14 := c14) R n13
  obtain ⟨d13, d14, e_t15_of⟩ := t15_of (ns := ns) (dr := dr3) (c2 := c2) (c4 := .val (.int (rs.length : Nat))) (c5 := .val (.list ((mgs rs).map dP))) (c6 := .val (.int (n : Nat))) (c7 := .val (.list ((brs rs).map fun (j : Nat) => PyData.int j))) (c8 := .val (.list L7)) (c10 := .val (.str (dueS (bul rs)))) (c11 := .val (.tuple xs)) (c13 := c13) (c14 := c14) R n14.2
  have e_t16_of := t16_of (ns := ns) (dr := dr3) (c2 := c2) (c3 := .val (dRs rs)) (c4 := .val (.int (rs.length : Nat))) (c5 := .val (.list ((mgs rs).map dP))) (c6 := .val (.int (n : Nat))) (c7 := .val (.list ((brs rs).map fun (j : Nat) => PyData.int j))) (c8 := .val (.list L7)) (c10 := .val (.str (dueS (bul rs)))) (c12 := .val (.list L14)) (c13 := d13) (c14 := d14) (rs := rs) (p := .tuple xs)
  refine ⟨dr3, c2, .val (dRs rs), .val (.int (rs.length : Nat)), .val (.list ((mgs rs).map dP)), .val (.int (n : Nat)), .val (.list ((brs rs).map fun (j : Nat) => PyData.int j)), .val (.list L7), .val (qnR rs), .val (.str (dueS (bul rs))), .val (.tuple xs), .val (.list L14), d13, d14, h3, ?_⟩
  unfold TB
  rw [runs_cons, e_t1_of, thn_nx, runs_cons, e_t2_of, thn_nx, runs_cons, e_t3_of, thn_nx, runs_cons, e_t4_of, thn_nx, runs_cons, e_t5_of, thn_nx, runs_cons, e_t6_of, thn_nx, runs_cons, e_t7_of, thn_nx, runs_cons, e_t8_of, thn_nx, runs_cons, e_t9_of, thn_nx, runs_cons, e_t10_of, thn_nx, runs_cons, e_t11_of, thn_nx, runs_cons, e_t12_of, thn_nx, runs_cons, e_t13_of, thn_nx, runs_cons, e_t14_of, thn_nx, runs_cons, e_t15_of, thn_nx, runs_cons, e_t16_of, thn_nx, runs_nil]
theorem s1_of (h : DrOk dr) : ∃ (dr' : List D) (d2 d3 d4 d5 d6 d7 d8 d9 d10 d11 d12 d13 d14 : Cell), run S1 ⟨[.val (scrD ns), .own (.list dr), c2, c3, c4, c5, c6, c7, c8, c9, c10, c11, c12, c13, c14, .no, .no], []⟩ = .nx ⟨[.val (scrD ns), .own (.list dr'), d2, d3, d4, d5, d6, d7, d8, d9, d10, d11, d12, d13, d14, .no, .no], []⟩ := by
  have hi : evi (.rng (.lit (.int 5))) ⟨[.val (scrD ns), .own (.list dr), c2, c3, c4, c5, c6, c7, c8, c9, c10, c11, c12, c13, c14, .no, .no], []⟩ = .ok ((List.range 5).map fun (k : Nat) => PyData.int k) ⟨[.val (scrD ns), .own (.list dr), c2, c3, c4, c5, c6, c7, c8, c9, c10, c11, c12, c13, c14, .no, .no], []⟩ := by
    rw [evi_rng, ev_lit, Out.bind_ok]
    exact rngO_nat (n := 5) _ (by omega)
  obtain ⟨s', h1, dr', d2, d3, d4, d5, d6, d7, d8, d9, d10, d11, d12, d13, d14, h2, h3⟩ := frL_map (f := frS (.nm 2) TB) (fun (k : Nat) => PyData.int k) (fun p s => ∃ (dr' : List D) (d2 d3 d4 d5 d6 d7 d8 d9 d10 d11 d12 d13 d14 : Cell), DrOk dr' ∧ s = ⟨[.val (scrD ns), .own (.list dr'), d2, d3, d4, d5, d6, d7, d8, d9, d10, d11, d12, d13, d14, .no, .no], []⟩) (List.range 5) (fun p a q s hl hj => by
      obtain ⟨dr', d2, d3, d4, d5, d6, d7, d8, d9, d10, d11, d12, d13, d14, h2, rfl⟩ := hj
      obtain ⟨dr2, g2, g3, g4, g5, g6, g7, g8, g9, g10, g11, g12, g13, g14, q2, e⟩ := turn_of (ns := ns) (c2 := .val (.int (a : Nat))) (c3 := d3) (c4 := d4) (c5 := d5) (c6 := d6) (c7 := d7) (c8 := d8) (c9 := d9) (c10 := d10) (c11 := d11) (c12 := d12) (c13 := d13) (c14 := d14) h2
      exact ⟨_, e, dr2, g2, g3, g4, g5, g6, g7, g8, g9, g10, g11, g12, g13, g14, q2, rfl⟩)
      ⟨[.val (scrD ns), .own (.list dr), c2, c3, c4, c5, c6, c7, c8, c9, c10, c11, c12, c13, c14, .no, .no], []⟩ ⟨dr, c2, c3, c4, c5, c6, c7, c8, c9, c10, c11, c12, c13, c14, h, rfl⟩
  refine ⟨dr', d2, d3, d4, d5, d6, d7, d8, d9, d10, d11, d12, d13, d14, ?_⟩
  rw [S1, run_fr, hi, SOut.of_ok, h1, h3]
theorem law_true : ∀ ns : List Int, ∃ dr, f_law.sem [scrD ns] [] = .ret (.bool true) dr := by
  intro ns
  obtain ⟨dr, e0, h0⟩ := sem_draw ns []
  have e0' : f__law_draw.sem [scrD ns] [] = .ret (.list dr) [] := e0
  have es : f_law.sem [scrD ns] [] = frOf (runs q_law ⟨[.val (scrD ns), .no, .no, .no, .no, .no, .no, .no, .no, .no, .no, .no, .no, .no, .no, .no, .no], []⟩) := by rw [f_law]; exact sem_of rfl
  have e1 : run S0 ⟨[.val (scrD ns), .no, .no, .no, .no, .no, .no, .no, .no, .no, .no, .no, .no, .no, .no, .no, .no], []⟩ = .nx ⟨[.val (scrD ns), .own (.list dr), .no, .no, .no, .no, .no, .no, .no, .no, .no, .no, .no, .no, .no, .no, .no], []⟩ := by
    unfold S0
    simp [e0']
  obtain ⟨dr', d2, d3, d4, d5, d6, d7, d8, d9, d10, d11, d12, d13, d14, e2⟩ := s1_of (ns := ns) (c2 := .no) (c3 := .no) (c4 := .no) (c5 := .no) (c6 := .no) (c7 := .no) (c8 := .no) (c9 := .no) (c10 := .no) (c11 := .no) (c12 := .no) (c13 := .no) (c14 := .no) h0
  refine ⟨[], ?_⟩
  rw [es, q_law_eq, runs_cons, e1, thn_nx, runs_cons, e2, thn_nx, runs_cons]
  simp [S2]
end L2.BH
set_option maxHeartbeats 0
namespace L2.BH
open PySem PySem.Spec PyProof.Rows L2
theorem c_is_integer {P : Program} {w : World} {K : PySem.W.Frag} {mg : Str → Option Value} {base : Heap} (e : Ek K mg base) : Cal P w K mg base "is_integer" 1 (spP K f_is_integer) := by
  have m_bool : mg "bool" = none := He.free_ok e.KX e.G (e.c.fact 44)
  have m_int : mg "int" = none := He.free_ok e.KX e.G (e.c.fact 46)
  have m_isinstance : mg "isinstance" = none := He.free_ok e.KX e.G (e.c.fact 47)
  obtain ⟨fd, F⟩ := e.c.def_ 0
  refine ⟨_, fd, ["value", "low", "high"], fn_p (N := ["value", "low", "high"]) (q := q_is_integer) F ⟨rfl, rfl, rfl, by decide, rfl, by decide, by decide⟩ rfl rfl (fun _ => rfl) (by decide) ?_, F.kp, F.bindsN (fun _ _ _ _ _ _ us hl => match us, hl with | [_, _, _], _ => rfl), He.glo_ok e.KX e.G (e.c.fact 0)⟩
  intro cdv A outer s H E W hw b
  exact ss_cons (s_ite (b_w (bw_or (b_not (b_val (x_isi (t := .int) (x_var) m_isinstance m_int))) (bw_or1 (b_val (x_isi (t := .bool) (x_var) m_isinstance m_bool))))) (ss_cons (s_ret (x_bl) hw) (ss_nil)) (ss_nil)) (ss_cons (s_ret (x_and (x_or (x_cmp (o := .is) b.hu (x_var) (x_non)) (x_one (x_cmp (o := .ge) b.hu (x_var) (x_var)))) (x_one (x_or (x_cmp (o := .is) b.hu (x_var) (x_non)) (x_one (x_cmp (o := .le) b.hu (x_var) (x_var)))))) hw) (ss_nil))
theorem c_common {P : Program} {w : World} {K : PySem.W.Frag} {mg : Str → Option Value} {base : Heap} (e : Ek K mg base) : Cal P w K mg base "common" 2 (spP K f_common) := by
  have m_abs : mg "abs" = none := He.free_ok e.KX e.G (e.c.fact 41)
  obtain ⟨fd, F⟩ := e.c.def_ 1
  refine ⟨_, fd, ["a", "b"], fn_p (N := ["a", "b"]) (q := q_common) F ⟨rfl, rfl, rfl, by decide, rfl, by decide, by decide⟩ rfl rfl (fun _ => rfl) (by decide) ?_, F.kp, F.bindsN (fun _ _ _ _ _ _ us hl => match us, hl with | [_, _], _ => rfl), He.glo_ok e.KX e.G (e.c.fact 1)⟩
  intro cdv A outer s H E W hw b
  exact ss_cons (s_par b.calm b.nd (x_bi (b := .abs) b.calm b.hu m_abs (xa_cons (x_var) (xa_nil))) (x_bi (b := .abs) b.calm b.hu m_abs (xa_cons (x_var) (xa_nil))) (by decide)) (ss_cons (s_whl b.pass (b_val (x_var)) (ss_cons (s_par b.calm b.nd (x_var) (x_bin (o := .mod) (x_var) (x_var)) (by decide)) (ss_nil))) (ss_cons (s_ret (x_var) hw) (ss_nil)))
theorem c_lowest {P : Program} {w : World} {K : PySem.W.Frag} {mg : Str → Option Value} {base : Heap} (e : Ek K mg base) : Cal P w K mg base "lowest" 3 (spP K f_lowest) := by
  have C_common := c_common (P := P) (w := w) e
  obtain ⟨fd, F⟩ := e.c.def_ 2
  refine ⟨_, fd, ["a", "b"], fn_p (N := ["a", "b", "divisor", "sign"]) (q := q_lowest) F ⟨rfl, rfl, rfl, by decide, rfl, by decide, by decide⟩ rfl rfl (fun _ => rfl) (by decide) ?_, F.kp, F.bindsN (fun _ _ _ _ _ _ us hl => match us, hl with | [_, _], _ => rfl), He.glo_ok e.KX e.G (e.c.fact 2)⟩
  intro cdv A outer s H E W hw b
  exact ss_cons (s_set b.nd (x_c C_common b.room (by decide) b.tk (xa_cons (x_var) (xa_cons (x_var) (xa_nil))))) (ss_cons (s_set b.nd (x_ifx (b_cmp (o := .gt) b.hu (x_var) (x_int)) (x_int) (x_neg (x_int)))) (ss_cons (s_ret (x_tup (xa_cons (x_bin (o := .fdiv) (x_bin (o := .mul) (x_var) (x_var)) (x_var)) (xa_cons (x_bin (o := .fdiv) (x_bin (o := .mul) (x_var) (x_var)) (x_var)) (xa_nil)))) hw) (ss_nil)))
theorem c_minus {P : Program} {w : World} {K : PySem.W.Frag} {mg : Str → Option Value} {base : Heap} (e : Ek K mg base) : Cal P w K mg base "minus" 4 (spP K f_minus) := by
  have C_lowest := c_lowest (P := P) (w := w) e
  obtain ⟨fd, F⟩ := e.c.def_ 3
  refine ⟨_, fd, ["p", "q"], fn_p (N := ["p", "q"]) (q := q_minus) F ⟨rfl, rfl, rfl, by decide, rfl, by decide, by decide⟩ rfl rfl (fun _ => rfl) (by decide) ?_, F.kp, F.bindsN (fun _ _ _ _ _ _ us hl => match us, hl with | [_, _], _ => rfl), He.glo_ok e.KX e.G (e.c.fact 3)⟩
  intro cdv A outer s H E W hw b
  exact ss_cons (s_ret (x_c C_lowest b.room (by decide) b.tk (xa_cons (x_bin (o := .sub) (x_bin (o := .mul) (x_ix (x_var) (x_int)) (x_ix (x_var) (x_int))) (x_bin (o := .mul) (x_ix (x_var) (x_int)) (x_ix (x_var) (x_int)))) (xa_cons (x_bin (o := .mul) (x_ix (x_var) (x_int)) (x_ix (x_var) (x_int))) (xa_nil)))) hw) (ss_nil)
theorem c_times {P : Program} {w : World} {K : PySem.W.Frag} {mg : Str → Option Value} {base : Heap} (e : Ek K mg base) : Cal P w K mg base "times" 5 (spP K f_times) := by
  have C_lowest := c_lowest (P := P) (w := w) e
  obtain ⟨fd, F⟩ := e.c.def_ 4
  refine ⟨_, fd, ["p", "q"], fn_p (N := ["p", "q"]) (q := q_times) F ⟨rfl, rfl, rfl, by decide, rfl, by decide, by decide⟩ rfl rfl (fun _ => rfl) (by decide) ?_, F.kp, F.bindsN (fun _ _ _ _ _ _ us hl => match us, hl with | [_, _], _ => rfl), He.glo_ok e.KX e.G (e.c.fact 4)⟩
  intro cdv A outer s H E W hw b
  exact ss_cons (s_ret (x_c C_lowest b.room (by decide) b.tk (xa_cons (x_bin (o := .mul) (x_ix (x_var) (x_int)) (x_ix (x_var) (x_int))) (xa_cons (x_bin (o := .mul) (x_ix (x_var) (x_int)) (x_ix (x_var) (x_int))) (xa_nil)))) hw) (ss_nil)
theorem c_divided {P : Program} {w : World} {K : PySem.W.Frag} {mg : Str → Option Value} {base : Heap} (e : Ek K mg base) : Cal P w K mg base "divided" 6 (spP K f_divided) := by
  have C_lowest := c_lowest (P := P) (w := w) e
  obtain ⟨fd, F⟩ := e.c.def_ 5
  refine ⟨_, fd, ["p", "q"], fn_p (N := ["p", "q"]) (q := q_divided) F ⟨rfl, rfl, rfl, by decide, rfl, by decide, by decide⟩ rfl rfl (fun _ => rfl) (by decide) ?_, F.kp, F.bindsN (fun _ _ _ _ _ _ us hl => match us, hl with | [_, _], _ => rfl), He.glo_ok e.KX e.G (e.c.fact 5)⟩
  intro cdv A outer s H E W hw b
  exact ss_cons (s_ret (x_c C_lowest b.room (by decide) b.tk (xa_cons (x_bin (o := .mul) (x_ix (x_var) (x_int)) (x_ix (x_var) (x_int))) (xa_cons (x_bin (o := .mul) (x_ix (x_var) (x_int)) (x_ix (x_var) (x_int))) (xa_nil)))) hw) (ss_nil)
theorem c_less {P : Program} {w : World} {K : PySem.W.Frag} {mg : Str → Option Value} {base : Heap} (e : Ek K mg base) : Cal P w K mg base "less" 7 (spP K f_less) := by
  obtain ⟨fd, F⟩ := e.c.def_ 6
  refine ⟨_, fd, ["p", "q"], fn_p (N := ["p", "q"]) (q := q_less) F ⟨rfl, rfl, rfl, by decide, rfl, by decide, by decide⟩ rfl rfl (fun _ => rfl) (by decide) ?_, F.kp, F.bindsN (fun _ _ _ _ _ _ us hl => match us, hl with | [_, _], _ => rfl), He.glo_ok e.KX e.G (e.c.fact 6)⟩
  intro cdv A outer s H E W hw b
  exact ss_cons (s_ret (x_cmp (o := .lt) b.hu (x_bin (o := .mul) (x_ix (x_var) (x_int)) (x_ix (x_var) (x_int))) (x_bin (o := .mul) (x_ix (x_var) (x_int)) (x_ix (x_var) (x_int)))) hw) (ss_nil)
theorem c_is_ratio {P : Program} {w : World} {K : PySem.W.Frag} {mg : Str → Option Value} {base : Heap} (e : Ek K mg base) : Cal P w K mg base "is_ratio" 8 (spP K f_is_ratio) := by
  have m_all : mg "all" = none := He.free_ok e.KX e.G (e.c.fact 42)
  have m_bool : mg "bool" = none := He.free_ok e.KX e.G (e.c.fact 44)
  have m_int : mg "int" = none := He.free_ok e.KX e.G (e.c.fact 46)
  have m_isinstance : mg "isinstance" = none := He.free_ok e.KX e.G (e.c.fact 47)
  have m_len : mg "len" = none := He.free_ok e.KX e.G (e.c.fact 48)
  have m_tuple : mg "tuple" = none := He.free_ok e.KX e.G (e.c.fact 52)
  have C_common := c_common (P := P) (w := w) e
  obtain ⟨fd, F⟩ := e.c.def_ 7
  refine ⟨_, fd, ["value"], fn_p (N := ["value", "one"]) (q := q_is_ratio) F ⟨rfl, rfl, rfl, by decide, rfl, by decide, by decide⟩ rfl rfl (fun _ => rfl) (by decide) ?_, F.kp, F.bindsN (fun _ _ _ _ _ _ us hl => match us, hl with | [_], _ => rfl), He.glo_ok e.KX e.G (e.c.fact 7)⟩
  intro cdv A outer s H E W hw b
  exact ss_cons (s_ite (b_w (bw_or (b_not (b_val (x_isi (t := .tuple) (x_var) m_isinstance m_tuple))) (bw_or1 (b_cmp (o := .ne) b.hu (x_bi (b := .len) b.calm b.hu m_len (xa_cons (x_var) (xa_nil))) (x_int))))) (ss_cons (s_ret (x_bl) hw) (ss_nil)) (ss_nil)) (ss_cons (s_ite (b_not (b_val (x_bi (b := .all) b.calm b.hu m_all (xa_cons (o_x (o_comp [("one", 1)] b.calm b.nd (i_e (x_var)) (by rfl) (by rfl) (fun _ _ _ _ _ => t_nm b.nd) (fun _ _ _ _ _ => ts_nil) (fun _ _ _ _ _ _ _ _ => x_and (x_isi (t := .int) (x_var) m_isinstance m_int) (x_one (x_not (x_isi (t := .bool) (x_var) m_isinstance m_bool)))))) (xa_nil))))) (ss_cons (s_ret (x_bl) hw) (ss_nil)) (ss_nil)) (ss_cons (s_ret (x_and (x_cmp (o := .ge) b.hu (x_ix (x_var) (x_int)) (x_int)) (x_one (x_cmp (o := .eq) b.hu (x_c C_common b.room (by decide) b.tk (xa_cons (x_ix (x_var) (x_int)) (xa_cons (x_ix (x_var) (x_int)) (xa_nil)))) (x_int)))) hw) (ss_nil)))
theorem c_are_ratios {P : Program} {w : World} {K : PySem.W.Frag} {mg : Str → Option Value} {base : Heap} (e : Ek K mg base) : Cal P w K mg base "are_ratios" 9 (spP K f_are_ratios) := by
  have m_all : mg "all" = none := He.free_ok e.KX e.G (e.c.fact 42)
  have m_isinstance : mg "isinstance" = none := He.free_ok e.KX e.G (e.c.fact 47)
  have m_tuple : mg "tuple" = none := He.free_ok e.KX e.G (e.c.fact 52)
  have C_is_ratio := c_is_ratio (P := P) (w := w) e
  obtain ⟨fd, F⟩ := e.c.def_ 8
  refine ⟨_, fd, ["value"], fn_p (N := ["value", "one"]) (q := q_are_ratios) F ⟨rfl, rfl, rfl, by decide, rfl, by decide, by decide⟩ rfl rfl (fun _ => rfl) (by decide) ?_, F.kp, F.bindsN (fun _ _ _ _ _ _ us hl => match us, hl with | [_], _ => rfl), He.glo_ok e.KX e.G (e.c.fact 8)⟩
  intro cdv A outer s H E W hw b
  exact ss_cons (s_ret (x_and (x_isi (t := .tuple) (x_var) m_isinstance m_tuple) (x_one (x_bi (b := .all) b.calm b.hu m_all (xa_cons (o_x (o_comp [("one", 1)] b.calm b.nd (i_e (x_var)) (by rfl) (by rfl) (fun _ _ _ _ _ => t_nm b.nd) (fun _ _ _ _ _ => ts_nil) (fun _ _ _ _ _ _ _ _ => x_c C_is_ratio b.room (by decide) takes_n (xa_cons (x_var) (xa_nil))))) (xa_nil))))) hw) (ss_nil)
theorem c_is_number_row {P : Program} {w : World} {K : PySem.W.Frag} {mg : Str → Option Value} {base : Heap} (e : Ek K mg base) : Cal P w K mg base "is_number_row" 10 (spP K f_is_number_row) := by
  have m_any : mg "any" = none := He.free_ok e.KX e.G (e.c.fact 43)
  have m_len : mg "len" = none := He.free_ok e.KX e.G (e.c.fact 48)
  have m_MAX_ROW := He.int_ok e.KX e.G (e.c.fact 60)
  have m_ZERO := He.glo_ok e.KX e.G (e.c.fact 40)
  have t_ZERO := e.t.tup 0
  have C_are_ratios := c_are_ratios (P := P) (w := w) e
  have C_less := c_less (P := P) (w := w) e
  obtain ⟨fd, F⟩ := e.c.def_ 9
  refine ⟨_, fd, ["value"], fn_p (N := ["value", "one"]) (q := q_is_number_row) F ⟨rfl, rfl, rfl, by decide, rfl, by decide, by decide⟩ rfl rfl (fun _ => rfl) (by decide) ?_, F.kp, F.bindsN (fun _ _ _ _ _ _ us hl => match us, hl with | [_], _ => rfl), He.glo_ok e.KX e.G (e.c.fact 9)⟩
  intro cdv A outer s H E W hw b
  exact ss_cons (s_ite (b_w (bw_or (b_not (b_val (x_c C_are_ratios b.room (by decide) b.tk (xa_cons (x_var) (xa_nil))))) (bw_or (b_not (b_chn (o := .le) (p := .le) b.hu (x_int) (x_bi (b := .len) b.calm b.hu m_len (xa_cons (x_var) (xa_nil))) (x_conI (hm := m_MAX_ROW)))) (bw_or1 (b_val (x_bi (b := .any) b.calm b.hu m_any (xa_cons (o_x (o_comp [("one", 1)] b.calm b.nd (i_e (x_var)) (by rfl) (by rfl) (fun _ _ _ _ _ => t_nm b.nd) (fun _ _ _ _ _ => ts_nil) (fun _ _ _ _ _ _ _ _ => x_c C_less b.room (by decide) takes_n (xa_cons (x_var) (xa_cons (x_conT (ht := t_ZERO) (hm := m_ZERO)) (xa_nil)))))) (xa_nil)))))))) (ss_cons (s_ret (x_bl) hw) (ss_nil)) (ss_nil)) (ss_cons (s_ret (x_bi (b := .any) b.calm b.hu m_any (xa_cons (o_x (o_comp [("one", 1)] b.calm b.nd (i_e (x_var)) (by rfl) (by rfl) (fun _ _ _ _ _ => t_nm b.nd) (fun _ _ _ _ _ => ts_nil) (fun _ _ _ _ _ _ _ _ => x_cmp (o := .ne) b.hu (x_var) (x_conT (ht := t_ZERO) (hm := m_ZERO))))) (xa_nil))) hw) (ss_nil))
theorem c_check_number_row {P : Program} {w : World} {K : PySem.W.Frag} {mg : Str → Option Value} {base : Heap} (e : Ek K mg base) : Cal P w K mg base "check_number_row" 11 (spP K f_check_number_row) := by
  have ec_NotAllowed := And.intro (He.glo_ok e.KX e.G (e.c.fact 38)) (He.exc_ok (e.c.fact 54))
  have C_is_number_row := c_is_number_row (P := P) (w := w) e
  obtain ⟨fd, F⟩ := e.c.def_ 10
  refine ⟨_, fd, ["row"], fn_p (N := ["row"]) (q := q_check_number_row) F ⟨rfl, rfl, rfl, by decide, rfl, by decide, by decide⟩ rfl rfl (fun _ => rfl) (by decide) ?_, F.kp, F.bindsN (fun _ _ _ _ _ _ us hl => match us, hl with | [_], _ => rfl), He.glo_ok e.KX e.G (e.c.fact 10)⟩
  intro cdv A outer s H E W hw b
  exact ss_cons (s_ite (b_not (b_val (x_c C_is_number_row b.room (by decide) b.tk (xa_cons (x_var) (xa_nil))))) (ss_cons (s_rse b.calm b.tk ec_NotAllowed) (ss_nil)) (ss_nil)) (ss_nil)
theorem c_choices {P : Program} {w : World} {K : PySem.W.Frag} {mg : Str → Option Value} {base : Heap} (e : Ek K mg base) : Cal P w K mg base "choices" 12 (spP K f_choices) := by
  have m_range : mg "range" = none := He.free_ok e.KX e.G (e.c.fact 50)
  obtain ⟨fd, F⟩ := e.c.def_ 11
  refine ⟨_, fd, ["many", "few"], fn_p (N := ["many", "few", "found", "k"]) (q := q_choices) F ⟨rfl, rfl, rfl, by decide, rfl, by decide, by decide⟩ rfl rfl (fun _ => rfl) (by decide) ?_, F.kp, F.bindsN (fun _ _ _ _ _ _ us hl => match us, hl with | [_, _], _ => rfl), He.glo_ok e.KX e.G (e.c.fact 11)⟩
  intro cdv A outer s H E W hw b
  exact ss_cons (s_set b.nd (x_int)) (ss_cons (s_fr b.pass b.calm (i_rng (x_var) m_range) (t_nm b.nd) (ss_cons (s_set b.nd (x_bin (o := .fdiv) (x_bin (o := .mul) (x_var) (x_bin (o := .sub) (x_var) (x_var))) (x_bin (o := .add) (x_var) (x_int)))) (ss_nil))) (ss_cons (s_ret (x_var) hw) (ss_nil)))
theorem c_binomials {P : Program} {w : World} {K : PySem.W.Frag} {mg : Str → Option Value} {base : Heap} (e : Ek K mg base) : Cal P w K mg base "binomials" 13 (spP K f_binomials) := by
  have m_range : mg "range" = none := He.free_ok e.KX e.G (e.c.fact 50)
  have m_tuple : mg "tuple" = none := He.free_ok e.KX e.G (e.c.fact 52)
  have C_choices := c_choices (P := P) (w := w) e
  obtain ⟨fd, F⟩ := e.c.def_ 12
  refine ⟨_, fd, ["degree"], fn_p (N := ["degree", "k"]) (q := q_binomials) F ⟨rfl, rfl, rfl, by decide, rfl, by decide, by decide⟩ rfl rfl (fun _ => rfl) (by decide) ?_, F.kp, F.bindsN (fun _ _ _ _ _ _ us hl => match us, hl with | [_], _ => rfl), He.glo_ok e.KX e.G (e.c.fact 12)⟩
  intro cdv A outer s H E W hw b
  exact ss_cons (s_ret (x_bi (b := .tuple) b.calm b.hu m_tuple (xa_cons (o_x (o_comp [("k", 1)] b.calm b.nd (i_rng (x_bin (o := .add) (x_var) (x_int)) m_range) (by rfl) (by rfl) (fun _ _ _ _ _ => t_nm b.nd) (fun _ _ _ _ _ => ts_nil) (fun _ _ _ _ _ _ _ _ => x_tup (xa_cons (x_c C_choices b.room (by decide) takes_n (xa_cons (x_var) (xa_cons (x_var) (xa_nil)))) (xa_cons (x_int) (xa_nil)))))) (xa_nil))) hw) (ss_nil)
theorem c_levelled {P : Program} {w : World} {K : PySem.W.Frag} {mg : Str → Option Value} {base : Heap} (e : Ek K mg base) : Cal P w K mg base "levelled" 14 (spP K f_levelled) := by
  have m_enumerate : mg "enumerate" = none := He.free_ok e.KX e.G (e.c.fact 45)
  have m_len : mg "len" = none := He.free_ok e.KX e.G (e.c.fact 48)
  have m_tuple : mg "tuple" = none := He.free_ok e.KX e.G (e.c.fact 52)
  have C_choices := c_choices (P := P) (w := w) e
  have C_divided := c_divided (P := P) (w := w) e
  obtain ⟨fd, F⟩ := e.c.def_ 13
  refine ⟨_, fd, ["row"], fn_p (N := ["row", "k", "one"]) (q := q_levelled) F ⟨rfl, rfl, rfl, by decide, rfl, by decide, by decide⟩ rfl rfl (fun _ => rfl) (by decide) ?_, F.kp, F.bindsN (fun _ _ _ _ _ _ us hl => match us, hl with | [_], _ => rfl), He.glo_ok e.KX e.G (e.c.fact 13)⟩
  intro cdv A outer s H E W hw b
  exact ss_cons (s_ret (x_bi (b := .tuple) b.calm b.hu m_tuple (xa_cons (o_x (o_comp [("k", 1), ("one", 2)] b.calm b.nd (i_enm (x_var) m_enumerate) (by rfl) (by rfl) (fun _ _ _ _ _ => t_tp b.calm (t_nm b.nd) (t_nm b.nd)) (fun _ _ _ _ _ => ts_nil) (fun _ _ _ _ _ _ _ _ => x_c C_divided b.room (by decide) takes_n (xa_cons (x_var) (xa_cons (x_tup (xa_cons (x_c C_choices b.room (by decide) takes_n (xa_cons (x_bin (o := .sub) (x_bi (b := .len) b.calm b.hu m_len (xa_cons (x_var) (xa_nil))) (x_int)) (xa_cons (x_var) (xa_nil)))) (xa_cons (x_int) (xa_nil)))) (xa_nil)))))) (xa_nil))) hw) (ss_nil)
theorem c_margins_of {P : Program} {w : World} {K : PySem.W.Frag} {mg : Str → Option Value} {base : Heap} (e : Ek K mg base) : Cal P w K mg base "margins_of" 15 (spP K f_margins_of) := by
  have m_len : mg "len" = none := He.free_ok e.KX e.G (e.c.fact 48)
  have m_range : mg "range" = none := He.free_ok e.KX e.G (e.c.fact 50)
  have m_tuple : mg "tuple" = none := He.free_ok e.KX e.G (e.c.fact 52)
  have C_levelled := c_levelled (P := P) (w := w) e
  have C_minus := c_minus (P := P) (w := w) e
  have C_times := c_times (P := P) (w := w) e
  obtain ⟨fd, F⟩ := e.c.def_ 14
  refine ⟨_, fd, ["row"], fn_p (N := ["row", "even", "k"]) (q := q_margins_of) F ⟨rfl, rfl, rfl, by decide, rfl, by decide, by decide⟩ rfl rfl (fun _ => rfl) (by decide) ?_, F.kp, F.bindsN (fun _ _ _ _ _ _ us hl => match us, hl with | [_], _ => rfl), He.glo_ok e.KX e.G (e.c.fact 14)⟩
  intro cdv A outer s H E W hw b
  exact ss_cons (s_set b.nd (x_c C_levelled b.room (by decide) b.tk (xa_cons (x_var) (xa_nil)))) (ss_cons (s_ret (x_bi (b := .tuple) b.calm b.hu m_tuple (xa_cons (o_x (o_comp [("k", 2)] b.calm b.nd (i_rng2 (x_int) (x_bin (o := .sub) (x_bi (b := .len) b.calm b.hu m_len (xa_cons (x_var) (xa_nil))) (x_int)) m_range) (by rfl) (by rfl) (fun _ _ _ _ _ => t_nm b.nd) (fun _ _ _ _ _ => ts_nil) (fun _ _ _ _ _ _ _ _ => x_c C_minus b.room (by decide) takes_n (xa_cons (x_c C_times b.room (by decide) takes_n (xa_cons (x_ix (x_var) (x_var)) (xa_cons (x_ix (x_var) (x_var)) (xa_nil)))) (xa_cons (x_c C_times b.room (by decide) takes_n (xa_cons (x_ix (x_var) (x_bin (o := .sub) (x_var) (x_int))) (xa_cons (x_ix (x_var) (x_bin (o := .add) (x_var) (x_int))) (xa_nil)))) (xa_nil)))))) (xa_nil))) hw) (ss_nil))
theorem c_row_breaks {P : Program} {w : World} {K : PySem.W.Frag} {mg : Str → Option Value} {base : Heap} (e : Ek K mg base) : Cal P w K mg base "row_breaks" 16 (spP K f_row_breaks) := by
  have m_enumerate : mg "enumerate" = none := He.free_ok e.KX e.G (e.c.fact 45)
  have m_tuple : mg "tuple" = none := He.free_ok e.KX e.G (e.c.fact 52)
  have m_ZERO := He.glo_ok e.KX e.G (e.c.fact 40)
  have t_ZERO := e.t.tup 0
  have C_less := c_less (P := P) (w := w) e
  have C_margins_of := c_margins_of (P := P) (w := w) e
  obtain ⟨fd, F⟩ := e.c.def_ 15
  refine ⟨_, fd, ["row"], fn_p (N := ["row", "k", "one"]) (q := q_row_breaks) F ⟨rfl, rfl, rfl, by decide, rfl, by decide, by decide⟩ rfl rfl (fun _ => rfl) (by decide) ?_, F.kp, F.bindsN (fun _ _ _ _ _ _ us hl => match us, hl with | [_], _ => rfl), He.glo_ok e.KX e.G (e.c.fact 15)⟩
  intro cdv A outer s H E W hw b
  exact ss_cons (s_ret (x_bi (b := .tuple) b.calm b.hu m_tuple (xa_cons (o_x (o_comp [("k", 1), ("one", 2)] b.calm b.nd (i_enm (x_c C_margins_of b.room (by decide) b.tk (xa_cons (x_var) (xa_nil))) m_enumerate) (by rfl) (by rfl) (fun _ _ _ _ _ => t_tp b.calm (t_nm b.nd) (t_nm b.nd)) (fun _ _ _ _ _ => ts_one fun _ _ _ => b_val (x_c C_less b.room (by decide) takes_n (xa_cons (x_var) (xa_cons (x_conT (ht := t_ZERO) (hm := m_ZERO)) (xa_nil))))) (fun _ _ _ _ _ _ _ _ => x_bin (o := .add) (x_var) (x_int)))) (xa_nil))) hw) (ss_nil)
theorem c_row_gaps {P : Program} {w : World} {K : PySem.W.Frag} {mg : Str → Option Value} {base : Heap} (e : Ek K mg base) : Cal P w K mg base "row_gaps" 17 (spP K f_row_gaps) := by
  have m_enumerate : mg "enumerate" = none := He.free_ok e.KX e.G (e.c.fact 45)
  have m_tuple : mg "tuple" = none := He.free_ok e.KX e.G (e.c.fact 52)
  have m_ZERO := He.glo_ok e.KX e.G (e.c.fact 40)
  have t_ZERO := e.t.tup 0
  obtain ⟨fd, F⟩ := e.c.def_ 16
  refine ⟨_, fd, ["row"], fn_p (N := ["row", "there", "k", "one"]) (q := q_row_gaps) F ⟨rfl, rfl, rfl, by decide, rfl, by decide, by decide⟩ rfl rfl (fun _ => rfl) (by decide) ?_, F.kp, F.bindsN (fun _ _ _ _ _ _ us hl => match us, hl with | [_], _ => rfl), He.glo_ok e.KX e.G (e.c.fact 16)⟩
  intro cdv A outer s H E W hw b
  exact ss_cons (s_set b.nd (o_x (o_comp [("k", 2), ("one", 3)] b.calm b.nd (i_enm (x_var) m_enumerate) (by rfl) (by rfl) (fun _ _ _ _ _ => t_tp b.calm (t_nm b.nd) (t_nm b.nd)) (fun _ _ _ _ _ => ts_one fun _ _ _ => b_cmp (o := .ne) b.hu (x_var) (x_conT (ht := t_ZERO) (hm := m_ZERO))) (fun _ _ _ _ _ _ _ _ => x_var)))) (ss_cons (s_ret (x_bi (b := .tuple) b.calm b.hu m_tuple (xa_cons (o_x (o_comp [("k", 2), ("one", 3)] b.calm b.nd (i_enm (x_var) m_enumerate) (by rfl) (by rfl) (fun _ _ _ _ _ => t_tp b.calm (t_nm b.nd) (t_nm b.nd)) (fun _ _ _ _ _ => ts_one fun _ _ _ => b_w (bw_and (b_cmp (o := .eq) b.hu (x_var) (x_conT (ht := t_ZERO) (hm := m_ZERO))) (bw_and (b_val (x_var)) (bw_and1 (b_chn (o := .lt) (p := .lt) b.hu (x_ix (x_var) (x_int)) (x_var) (x_ix (x_var) (x_neg (x_int)))))))) (fun _ _ _ _ _ _ _ _ => x_var))) (xa_nil))) hw) (ss_nil))
theorem c_row_bulges {P : Program} {w : World} {K : PySem.W.Frag} {mg : Str → Option Value} {base : Heap} (e : Ek K mg base) : Cal P w K mg base "row_bulges" 18 (spP K f_row_bulges) := by
  have C_row_breaks := c_row_breaks (P := P) (w := w) e
  have C_row_gaps := c_row_gaps (P := P) (w := w) e
  obtain ⟨fd, F⟩ := e.c.def_ 17
  refine ⟨_, fd, ["row"], fn_p (N := ["row"]) (q := q_row_bulges) F ⟨rfl, rfl, rfl, by decide, rfl, by decide, by decide⟩ rfl rfl (fun _ => rfl) (by decide) ?_, F.kp, F.bindsN (fun _ _ _ _ _ _ us hl => match us, hl with | [_], _ => rfl), He.glo_ok e.KX e.G (e.c.fact 17)⟩
  intro cdv A outer s H E W hw b
  exact ss_cons (s_ret (x_and (x_cmp (o := .eq) b.hu (x_c C_row_breaks b.room (by decide) b.tk (xa_cons (x_var) (xa_nil))) (x_tup (xa_nil))) (x_one (x_cmp (o := .eq) b.hu (x_c C_row_gaps b.room (by decide) b.tk (xa_cons (x_var) (xa_nil))) (x_tup (xa_nil))))) hw) (ss_nil)
theorem c_check_row_question {P : Program} {w : World} {K : PySem.W.Frag} {mg : Str → Option Value} {base : Heap} (e : Ek K mg base) : Cal P w K mg base "check_row_question" 19 (spP K f_check_row_question) := by
  have ec_NotAllowed := And.intro (He.glo_ok e.KX e.G (e.c.fact 38)) (He.exc_ok (e.c.fact 54))
  have m_isinstance : mg "isinstance" = none := He.free_ok e.KX e.G (e.c.fact 47)
  have m_len : mg "len" = none := He.free_ok e.KX e.G (e.c.fact 48)
  have m_str : mg "str" = none := He.free_ok e.KX e.G (e.c.fact 51)
  have C_check_number_row := c_check_number_row (P := P) (w := w) e
  obtain ⟨fd, F⟩ := e.c.def_ 18
  refine ⟨_, fd, ["question"], fn_p (N := ["question"]) (q := q_check_row_question) F ⟨rfl, rfl, rfl, by decide, rfl, by decide, by decide⟩ rfl rfl (fun _ => rfl) (by decide) ?_, F.kp, F.bindsN (fun _ _ _ _ _ _ us hl => match us, hl with | [_], _ => rfl), He.glo_ok e.KX e.G (e.c.fact 18)⟩
  intro cdv A outer s H E W hw b
  exact ss_cons (s_ite (b_w (bw_or (b_cmp (o := .ne) b.hu (x_bi (b := .len) b.calm b.hu m_len (xa_cons (x_var) (xa_nil))) (x_int)) (bw_or (b_not (b_val (x_isi (t := .str) (x_ix (x_var) (x_int)) m_isinstance m_str))) (bw_or1 (b_cmp (o := .ne) b.hu (x_ix (x_var) (x_int)) (x_str)))))) (ss_cons (s_rse b.calm b.tk ec_NotAllowed) (ss_nil)) (ss_nil)) (ss_cons (s_xpr (x_c C_check_number_row b.room (by decide) b.tk (xa_cons (x_ix (x_var) (x_int)) (xa_nil)))) (ss_nil))
theorem c_decide_row {P : Program} {w : World} {K : PySem.W.Frag} {mg : Str → Option Value} {base : Heap} (e : Ek K mg base) : Cal P w K mg base "decide_row" 20 (spP K f_decide_row) := by
  have C_margins_of := c_margins_of (P := P) (w := w) e
  have C_row_breaks := c_row_breaks (P := P) (w := w) e
  have C_row_gaps := c_row_gaps (P := P) (w := w) e
  obtain ⟨fd, F⟩ := e.c.def_ 19
  refine ⟨_, fd, ["question"], fn_p (N := ["question", "row"]) (q := q_decide_row) F ⟨rfl, rfl, rfl, by decide, rfl, by decide, by decide⟩ rfl rfl (fun _ => rfl) (by decide) ?_, F.kp, F.bindsN (fun _ _ _ _ _ _ us hl => match us, hl with | [_], _ => rfl), He.glo_ok e.KX e.G (e.c.fact 19)⟩
  intro cdv A outer s H E W hw b
  exact ss_cons (s_set b.nd (x_ix (x_var) (x_int))) (ss_cons (s_ite (b_val (x_c C_row_breaks b.room (by decide) b.tk (xa_cons (x_var) (xa_nil)))) (ss_cons (s_ret (x_tup (xa_cons (x_str) (xa_cons (x_tup (xa_cons (x_str) (xa_cons (x_ix (x_c C_row_breaks b.room (by decide) b.tk (xa_cons (x_var) (xa_nil))) (x_int)) (xa_nil)))) (xa_nil)))) hw) (ss_nil)) (ss_nil)) (ss_cons (s_ite (b_val (x_c C_row_gaps b.room (by decide) b.tk (xa_cons (x_var) (xa_nil)))) (ss_cons (s_ret (x_tup (xa_cons (x_str) (xa_cons (x_tup (xa_cons (x_str) (xa_cons (x_ix (x_c C_row_gaps b.room (by decide) b.tk (xa_cons (x_var) (xa_nil))) (x_int)) (xa_nil)))) (xa_nil)))) hw) (ss_nil)) (ss_nil)) (ss_cons (s_ret (x_tup (xa_cons (x_str) (xa_cons (x_c C_margins_of b.room (by decide) b.tk (xa_cons (x_var) (xa_nil))) (xa_nil)))) hw) (ss_nil))))
theorem c_judge_row {P : Program} {w : World} {K : PySem.W.Frag} {mg : Str → Option Value} {base : Heap} (e : Ek K mg base) : Cal P w K mg base "judge_row" 21 (spP K f_judge_row) := by
  have ec_BadPaper := And.intro (He.glo_ok e.KX e.G (e.c.fact 39)) (He.exc_ok (e.c.fact 57))
  have m_isinstance : mg "isinstance" = none := He.free_ok e.KX e.G (e.c.fact 47)
  have m_len : mg "len" = none := He.free_ok e.KX e.G (e.c.fact 48)
  have m_str : mg "str" = none := He.free_ok e.KX e.G (e.c.fact 51)
  have m_tuple : mg "tuple" = none := He.free_ok e.KX e.G (e.c.fact 52)
  have C_are_ratios := c_are_ratios (P := P) (w := w) e
  have C_is_integer := c_is_integer (P := P) (w := w) e
  have C_margins_of := c_margins_of (P := P) (w := w) e
  have C_row_breaks := c_row_breaks (P := P) (w := w) e
  have C_row_bulges := c_row_bulges (P := P) (w := w) e
  have C_row_gaps := c_row_gaps (P := P) (w := w) e
  obtain ⟨fd, F⟩ := e.c.def_ 20
  refine ⟨_, fd, ["question", "answer", "paper"], fn_p (N := ["question", "answer", "paper", "row", "places"]) (q := q_judge_row) F ⟨rfl, rfl, rfl, by decide, rfl, by decide, by decide⟩ rfl rfl (fun _ => rfl) (by decide) ?_, F.kp, F.bindsN (fun _ _ _ _ _ _ us hl => match us, hl with | [_, _, _], _ => rfl), He.glo_ok e.KX e.G (e.c.fact 20)⟩
  intro cdv A outer s H E W hw b
  exact ss_cons (s_ite (b_w (bw_or (b_not (b_val (x_isi (t := .str) (x_var) m_isinstance m_str))) (bw_or (b_cmp (o := .nin) b.hu (x_var) (x_tup (xa_cons (x_str) (xa_cons (x_str) (xa_nil))))) (bw_or1 (b_not (b_val (x_isi (t := .tuple) (x_var) m_isinstance m_tuple))))))) (ss_cons (s_rse b.calm b.tk ec_BadPaper) (ss_nil)) (ss_nil)) (ss_cons (s_set b.nd (x_ix (x_var) (x_int))) (ss_cons (s_ite (b_cmp (o := .eq) b.hu (x_var) (x_str)) (ss_cons (s_ite (b_w (bw_or (b_cmp (o := .ne) b.hu (x_var) (x_c C_margins_of b.room (by decide) b.tk (xa_cons (x_var) (xa_nil)))) (bw_or (b_not (b_val (x_c C_are_ratios b.room (by decide) b.tk (xa_cons (x_var) (xa_nil))))) (bw_or1 (b_not (b_val (x_c C_row_bulges b.room (by decide) b.tk (xa_cons (x_var) (xa_nil))))))))) (ss_cons (s_rse b.calm b.tk ec_BadPaper) (ss_nil)) (ss_nil)) (ss_cons (s_retN hw) (ss_nil))) (ss_nil)) (ss_cons (s_ite (b_w (bw_or (b_cmp (o := .ne) b.hu (x_bi (b := .len) b.calm b.hu m_len (xa_cons (x_var) (xa_nil))) (x_int)) (bw_or (b_not (b_val (x_isi (t := .str) (x_ix (x_var) (x_int)) m_isinstance m_str))) (bw_or1 (b_not (b_val (x_c C_is_integer b.room (by decide) b.tk (xa_cons (x_ix (x_var) (x_int)) (xa_cons (x_int) (xa_cons (x_bin (o := .sub) (x_bi (b := .len) b.calm b.hu m_len (xa_cons (x_var) (xa_nil))) (x_int)) (xa_nil))))))))))) (ss_cons (s_rse b.calm b.tk ec_BadPaper) (ss_nil)) (ss_nil)) (ss_cons (s_set b.nd (x_sdsp (fun _ => x_c C_row_breaks b.room (by decide) b.tk (xa_cons (x_var) (xa_nil))) (fun _ => x_c C_row_gaps b.room (by decide) b.tk (xa_cons (x_var) (xa_nil))))) (ss_cons (s_ite (b_cmp (o := .nin) b.hu (x_ix (x_var) (x_int)) (x_sget b.hu (x_var) (x_ix (x_var) (x_int)) (x_tup (xa_nil)))) (ss_cons (s_rse b.calm b.tk ec_BadPaper) (ss_nil)) (ss_nil)) (ss_nil))))))
theorem c__law_draw {P : Program} {w : World} {K : PySem.W.Frag} {mg : Str → Option Value} {base : Heap} (e : Ek K mg base) : Cal P w K mg base "_law_draw" 22 (spO K f__law_draw) := by
  have m_abs : mg "abs" = none := He.free_ok e.KX e.G (e.c.fact 41)
  have m_int : mg "int" = none := He.free_ok e.KX e.G (e.c.fact 46)
  obtain ⟨fd, F⟩ := e.c.def_ 21
  refine ⟨_, fd, ["script"], fn_o (N := ["script", "seed", "cell"]) (q := q__law_draw) F ⟨rfl, rfl, rfl, by decide, rfl, by decide, by decide⟩ rfl rfl (fun _ => rfl) (by decide) (fun _ s => endR_ok _ (by rfl) _ s) ?_, F.kp, F.bindsN (fun _ _ _ _ _ _ us hl => match us, hl with | [_], _ => rfl), He.glo_ok e.KX e.G (e.c.fact 21)⟩
  intro cdv A outer s H E W hw b
  exact ss_cons (s_set b.nd (x_int)) (ss_cons (s_fr b.pass b.calm (i_e (x_var)) (t_nm b.nd) (ss_cons (s_set b.nd (x_bin (o := .mod) (x_bi (b := .int) b.calm b.hu m_int (xa_cons (x_bin (o := .add) (x_bin (o := .add) (x_bin (o := .mul) (x_var) (x_int)) (x_bin (o := .mod) (x_bi (b := .abs) b.calm b.hu m_abs (xa_cons (x_bi (b := .int) b.calm b.hu m_int (xa_cons (x_var) (xa_nil))) (xa_nil))) (x_int))) (x_int)) (xa_nil))) (x_int))) (ss_nil))) (ss_cons (s_retF (o_lst (xa_cons (o_x (o_comp [("cell", 2)] b.calm b.nd (i_e (x_var)) (by rfl) (by rfl) (fun _ _ _ _ _ => t_nm b.nd) (fun _ _ _ _ _ => ts_nil) (fun _ _ _ _ _ _ _ _ => x_bi (b := .abs) b.calm b.hu m_abs (xa_cons (x_bi (b := .int) b.calm b.hu m_int (xa_cons (x_var) (xa_nil))) (xa_nil))))) (xa_cons (x_neg (x_int)) (xa_cons (x_int) (xa_cons (x_var) (xa_nil)))))) hw) (ss_nil)))
theorem c__law_take {P : Program} {w : World} {K : PySem.W.Frag} {mg : Str → Option Value} {base : Heap} (e : Ek K mg base) : Cal P w K mg base "_law_take" 23 (spD K f__law_take) := by
  have m_int : mg "int" = none := He.free_ok e.KX e.G (e.c.fact 46)
  have m_len : mg "len" = none := He.free_ok e.KX e.G (e.c.fact 48)
  obtain ⟨fd, F⟩ := e.c.def_ 22
  refine ⟨_, fd, ["draw", "many"], fn_d (N := ["draw", "many", "found"]) (q := q__law_take) F ⟨rfl, rfl, rfl, by decide, rfl, by decide, by decide⟩ rfl rfl (fun _ _ => rfl) (by decide) ?_, F.kp, F.bindsN (fun _ _ _ _ _ _ us hl => match us, hl with | [_, _], _ => rfl), He.glo_ok e.KX e.G (e.c.fact 22)⟩
  intro cdv A outer s H E W hw b
  exact ss_cons (s_ite (b_cmp (o := .eq) b.hu (x_oix (x_int)) (x_int)) (ss_cons (s_put (x_bin (o := .add) (x_oix (x_int)) (x_int)) (x_int)) (ss_cons (s_ite (b_cmp (o := .lt) b.hu (x_oix (x_int)) (x_bi (b := .len) b.calm b.hu m_len (xa_cons (x_oix (x_int)) (xa_nil)))) (ss_cons (s_put (x_ix (x_oix (x_int)) (x_oix (x_int))) (x_int)) (ss_nil)) (ss_nil)) (ss_cons (s_ite (b_cmp (o := .eq) b.hu (x_oix (x_int)) (x_int)) (ss_cons (s_put (x_bin (o := .mod) (x_bi (b := .int) b.calm b.hu m_int (xa_cons (x_bin (o := .add) (x_bin (o := .mul) (x_oix (x_int)) (x_int)) (x_int)) (xa_nil))) (x_int)) (x_int)) (ss_cons (s_put (x_oix (x_int)) (x_int)) (ss_nil))) (ss_nil)) (ss_nil)))) (ss_nil)) (ss_cons (s_set b.nd (x_bin (o := .mod) (x_bi (b := .int) b.calm b.hu m_int (xa_cons (x_oix (x_int)) (xa_nil))) (x_var))) (ss_cons (s_put (x_bin (o := .fdiv) (x_oix (x_int)) (x_var)) (x_int)) (ss_cons (s_ret (x_var) hw) (ss_nil))))
theorem c__law_low {P : Program} {w : World} {K : PySem.W.Frag} {mg : Str → Option Value} {base : Heap} (e : Ek K mg base) : Cal P w K mg base "_law_low" 24 (spP K f__law_low) := by
  have m_abs : mg "abs" = none := He.free_ok e.KX e.G (e.c.fact 41)
  obtain ⟨fd, F⟩ := e.c.def_ 23
  refine ⟨_, fd, ["a", "b"], fn_p (N := ["a", "b", "one", "other"]) (q := q__law_low) F ⟨rfl, rfl, rfl, by decide, rfl, by decide, by decide⟩ rfl rfl (fun _ => rfl) (by decide) ?_, F.kp, F.bindsN (fun _ _ _ _ _ _ us hl => match us, hl with | [_, _], _ => rfl), He.glo_ok e.KX e.G (e.c.fact 23)⟩
  intro cdv A outer s H E W hw b
  exact ss_cons (s_par b.calm b.nd (x_bi (b := .abs) b.calm b.hu m_abs (xa_cons (x_var) (xa_nil))) (x_bi (b := .abs) b.calm b.hu m_abs (xa_cons (x_var) (xa_nil))) (by decide)) (ss_cons (s_whl b.pass (b_cmp (o := .gt) b.hu (x_var) (x_int)) (ss_cons (s_par b.calm b.nd (x_var) (x_bin (o := .mod) (x_var) (x_var)) (by decide)) (ss_nil))) (ss_cons (s_ret (x_ifx (b_cmp (o := .gt) b.hu (x_var) (x_int)) (x_tup (xa_cons (x_bin (o := .fdiv) (x_var) (x_var)) (xa_cons (x_bin (o := .fdiv) (x_var) (x_var)) (xa_nil)))) (x_tup (xa_cons (x_bin (o := .fdiv) (x_neg (x_var)) (x_var)) (xa_cons (x_bin (o := .fdiv) (x_neg (x_var)) (x_var)) (xa_nil))))) hw) (ss_nil)))
theorem c__law_plus {P : Program} {w : World} {K : PySem.W.Frag} {mg : Str → Option Value} {base : Heap} (e : Ek K mg base) : Cal P w K mg base "_law_plus" 25 (spP K f__law_plus) := by
  have C__law_low := c__law_low (P := P) (w := w) e
  obtain ⟨fd, F⟩ := e.c.def_ 24
  refine ⟨_, fd, ["p", "q"], fn_p (N := ["p", "q"]) (q := q__law_plus) F ⟨rfl, rfl, rfl, by decide, rfl, by decide, by decide⟩ rfl rfl (fun _ => rfl) (by decide) ?_, F.kp, F.bindsN (fun _ _ _ _ _ _ us hl => match us, hl with | [_, _], _ => rfl), He.glo_ok e.KX e.G (e.c.fact 24)⟩
  intro cdv A outer s H E W hw b
  exact ss_cons (s_ret (x_c C__law_low b.room (by decide) b.tk (xa_cons (x_bin (o := .add) (x_bin (o := .mul) (x_ix (x_var) (x_int)) (x_ix (x_var) (x_int))) (x_bin (o := .mul) (x_ix (x_var) (x_int)) (x_ix (x_var) (x_int)))) (xa_cons (x_bin (o := .mul) (x_ix (x_var) (x_int)) (x_ix (x_var) (x_int))) (xa_nil)))) hw) (ss_nil)
theorem c__law_minus {P : Program} {w : World} {K : PySem.W.Frag} {mg : Str → Option Value} {base : Heap} (e : Ek K mg base) : Cal P w K mg base "_law_minus" 26 (spP K f__law_minus) := by
  have C__law_low := c__law_low (P := P) (w := w) e
  obtain ⟨fd, F⟩ := e.c.def_ 25
  refine ⟨_, fd, ["p", "q"], fn_p (N := ["p", "q"]) (q := q__law_minus) F ⟨rfl, rfl, rfl, by decide, rfl, by decide, by decide⟩ rfl rfl (fun _ => rfl) (by decide) ?_, F.kp, F.bindsN (fun _ _ _ _ _ _ us hl => match us, hl with | [_, _], _ => rfl), He.glo_ok e.KX e.G (e.c.fact 25)⟩
  intro cdv A outer s H E W hw b
  exact ss_cons (s_ret (x_c C__law_low b.room (by decide) b.tk (xa_cons (x_bin (o := .sub) (x_bin (o := .mul) (x_ix (x_var) (x_int)) (x_ix (x_var) (x_int))) (x_bin (o := .mul) (x_ix (x_var) (x_int)) (x_ix (x_var) (x_int)))) (xa_cons (x_bin (o := .mul) (x_ix (x_var) (x_int)) (x_ix (x_var) (x_int))) (xa_nil)))) hw) (ss_nil)
theorem c__law_times {P : Program} {w : World} {K : PySem.W.Frag} {mg : Str → Option Value} {base : Heap} (e : Ek K mg base) : Cal P w K mg base "_law_times" 27 (spP K f__law_times) := by
  have C__law_low := c__law_low (P := P) (w := w) e
  obtain ⟨fd, F⟩ := e.c.def_ 26
  refine ⟨_, fd, ["p", "q"], fn_p (N := ["p", "q"]) (q := q__law_times) F ⟨rfl, rfl, rfl, by decide, rfl, by decide, by decide⟩ rfl rfl (fun _ => rfl) (by decide) ?_, F.kp, F.bindsN (fun _ _ _ _ _ _ us hl => match us, hl with | [_, _], _ => rfl), He.glo_ok e.KX e.G (e.c.fact 26)⟩
  intro cdv A outer s H E W hw b
  exact ss_cons (s_ret (x_c C__law_low b.room (by decide) b.tk (xa_cons (x_bin (o := .mul) (x_ix (x_var) (x_int)) (x_ix (x_var) (x_int))) (xa_cons (x_bin (o := .mul) (x_ix (x_var) (x_int)) (x_ix (x_var) (x_int))) (xa_nil)))) hw) (ss_nil)
theorem c__law_one {P : Program} {w : World} {K : PySem.W.Frag} {mg : Str → Option Value} {base : Heap} (e : Ek K mg base) : Cal P w K mg base "_law_one" 28 (spD K f__law_one) := by
  have m_len : mg "len" = none := He.free_ok e.KX e.G (e.c.fact 48)
  have C__law_take := c__law_take (P := P) (w := w) e
  obtain ⟨fd, F⟩ := e.c.def_ 27
  refine ⟨_, fd, ["draw", "rows"], fn_d (N := ["draw", "rows"]) (q := q__law_one) F ⟨rfl, rfl, rfl, by decide, rfl, by decide, by decide⟩ rfl rfl (fun _ _ => rfl) (by decide) ?_, F.kp, F.bindsN (fun _ _ _ _ _ _ us hl => match us, hl with | [_, _], _ => rfl), He.glo_ok e.KX e.G (e.c.fact 27)⟩
  intro cdv A outer s H E W hw b
  exact ss_cons (s_ret (x_ix (x_var) (x_cd C__law_take b.room (by decide) b.tk (xa_cons (x_bi (b := .len) b.calm b.hu m_len (xa_cons (x_var) (xa_nil))) (xa_nil)))) hw) (ss_nil)
theorem c__law_rowed {P : Program} {w : World} {K : PySem.W.Frag} {mg : Str → Option Value} {base : Heap} (e : Ek K mg base) : Cal P w K mg base "_law_rowed" 29 (spD K f__law_rowed) := by
  have m_len : mg "len" = none := He.free_ok e.KX e.G (e.c.fact 48)
  have m_range : mg "range" = none := He.free_ok e.KX e.G (e.c.fact 50)
  have m_tuple : mg "tuple" = none := He.free_ok e.KX e.G (e.c.fact 52)
  have m_zip : mg "zip" = none := He.free_ok e.KX e.G (e.c.fact 53)
  have C__law_one := c__law_one (P := P) (w := w) e
  have C__law_plus := c__law_plus (P := P) (w := w) e
  have C__law_take := c__law_take (P := P) (w := w) e
  have C__law_times := c__law_times (P := P) (w := w) e
  obtain ⟨fd, F⟩ := e.c.def_ 28
  refine ⟨_, fd, ["draw", "most"], fn_d (N := ["draw", "most", "kind", "many", "row", "k", "root", "a", "b", "one"]) (q := q__law_rowed) F ⟨rfl, rfl, rfl, by decide, rfl, by decide, by decide⟩ rfl rfl (fun _ _ => rfl) (by decide) ?_, F.kp, F.bindsN (fun _ _ _ _ _ _ us hl => match us, hl with | [_, _], _ => rfl), He.glo_ok e.KX e.G (e.c.fact 28)⟩
  intro cdv A outer s H E W hw b
  exact ss_cons (s_par b.calm b.nd (x_cd C__law_take b.room (by decide) b.tk (xa_cons (x_int) (xa_nil))) (x_bin (o := .add) (x_int) (x_cd C__law_take b.room (by decide) b.tk (xa_cons (x_var) (xa_nil)))) (by decide)) (ss_cons (s_ite (b_cmp (o := .eq) b.hu (x_var) (x_int)) (ss_cons (s_ownC [("k", 5)] b.calm b.nd (i_rng (x_var) m_range) (by rfl) (by rfl) (fun _ _ _ _ _ => t_nm b.nd) (fun _ _ _ _ _ => ts_nil) (fun _ _ _ _ _ _ _ _ => x_cd C__law_one b.room (by decide) takes_n (xa_cons (o_x (o_lst (xa_cons (x_tup (xa_cons (x_int) (xa_cons (x_int) (xa_nil)))) (xa_cons (x_tup (xa_cons (x_int) (xa_cons (x_int) (xa_nil)))) (xa_cons (x_tup (xa_cons (x_int) (xa_cons (x_int) (xa_nil)))) (xa_cons (x_tup (xa_cons (x_int) (xa_cons (x_int) (xa_nil)))) (xa_cons (x_tup (xa_cons (x_int) (xa_cons (x_int) (xa_nil)))) (xa_nil)))))))) (xa_nil)))) (ss_cons (s_ret (x_ifx (b_cmp (o := .ne) b.hu (o_x (o_comp [("one", 9)] b.calm b.nd (i_e (x_var)) (by rfl) (by rfl) (fun _ _ _ _ _ => t_nm b.nd) (fun _ _ _ _ _ => ts_one fun _ _ _ => b_cmp (o := .ne) b.hu (x_ix (x_var) (x_int)) (x_int)) (fun _ _ _ _ _ _ _ _ => x_var))) (o_x (o_lst (xa_nil)))) (x_bi (b := .tuple) b.calm b.hu m_tuple (xa_cons (x_var) (xa_nil))) (x_tup (xa_cons (x_tup (xa_cons (x_int) (xa_cons (x_int) (xa_nil)))) (xa_nil)))) hw) (ss_nil))) (ss_nil)) (ss_cons (s_own b.nd (o_lst (xa_cons (x_tup (xa_cons (x_int) (xa_cons (x_int) (xa_nil)))) (xa_nil)))) (ss_cons (s_fr b.pass b.calm (i_rng (x_bin (o := .sub) (x_var) (x_int)) m_range) (t_nm b.nd) (ss_cons (s_set b.nd (x_cd C__law_one b.room (by decide) b.tk (xa_cons (o_x (o_lst (xa_cons (x_tup (xa_cons (x_int) (xa_cons (x_int) (xa_nil)))) (xa_cons (x_tup (xa_cons (x_int) (xa_cons (x_int) (xa_nil)))) (xa_cons (x_tup (xa_cons (x_int) (xa_cons (x_int) (xa_nil)))) (xa_cons (x_tup (xa_cons (x_int) (xa_cons (x_int) (xa_nil)))) (xa_nil))))))) (xa_nil)))) (ss_cons (s_ownC [("a", 7), ("b", 8)] b.calm b.nd (i_zip (x_bin (o := .add) (x_var) (o_x (o_lst (xa_cons (x_tup (xa_cons (x_int) (xa_cons (x_int) (xa_nil)))) (xa_nil))))) (x_bin (o := .add) (o_x (o_lst (xa_cons (x_tup (xa_cons (x_int) (xa_cons (x_int) (xa_nil)))) (xa_nil)))) (x_var)) m_zip) (by rfl) (by rfl) (fun _ _ _ _ _ => t_tp b.calm (t_nm b.nd) (t_nm b.nd)) (fun _ _ _ _ _ => ts_nil) (fun _ _ _ _ _ _ _ _ => x_c C__law_plus b.room (by decide) takes_n (xa_cons (x_c C__law_times b.room (by decide) takes_n (xa_cons (x_var) (xa_cons (x_var) (xa_nil)))) (xa_cons (x_var) (xa_nil))))) (ss_nil)))) (ss_cons (s_ite (b_cmp (o := .eq) b.hu (x_var) (x_int)) (ss_cons (s_set b.nd (x_cd C__law_take b.room (by decide) b.tk (xa_cons (x_olen m_len) (xa_nil)))) (ss_cons (s_put (x_c C__law_times b.room (by decide) b.tk (xa_cons (x_oix (x_var)) (xa_cons (x_cd C__law_one b.room (by decide) b.tk (xa_cons (o_x (o_lst (xa_cons (x_tup (xa_cons (x_int) (xa_cons (x_int) (xa_nil)))) (xa_cons (x_tup (xa_cons (x_int) (xa_cons (x_int) (xa_nil)))) (xa_cons (x_tup (xa_cons (x_int) (xa_cons (x_int) (xa_nil)))) (xa_cons (x_tup (xa_cons (x_int) (xa_cons (x_int) (xa_nil)))) (xa_cons (x_tup (xa_cons (x_int) (xa_cons (x_int) (xa_nil)))) (xa_nil)))))))) (xa_nil))) (xa_nil)))) (x_var)) (ss_nil))) (ss_nil)) (ss_cons (s_ret (x_ifx (b_cmp (o := .ne) b.hu (o_x (o_comp [("one", 9)] b.calm b.nd (i_e (x_var)) (by rfl) (by rfl) (fun _ _ _ _ _ => t_nm b.nd) (fun _ _ _ _ _ => ts_one fun _ _ _ => b_cmp (o := .ne) b.hu (x_ix (x_var) (x_int)) (x_int)) (fun _ _ _ _ _ _ _ _ => x_var))) (o_x (o_lst (xa_nil)))) (x_bi (b := .tuple) b.calm b.hu m_tuple (xa_cons (x_var) (xa_nil))) (x_tup (xa_cons (x_tup (xa_cons (x_int) (xa_cons (x_int) (xa_nil)))) (xa_nil)))) hw) (ss_nil))))))
theorem c__law_choices {P : Program} {w : World} {K : PySem.W.Frag} {mg : Str → Option Value} {base : Heap} (e : Ek K mg base) : Cal P w K mg base "_law_choices" 30 (spP K f__law_choices) := by
  have m_range : mg "range" = none := He.free_ok e.KX e.G (e.c.fact 50)
  obtain ⟨fd, F⟩ := e.c.def_ 29
  refine ⟨_, fd, ["n", "k"], fn_p (N := ["n", "k", "found", "j"]) (q := q__law_choices) F ⟨rfl, rfl, rfl, by decide, rfl, by decide, by decide⟩ rfl rfl (fun _ => rfl) (by decide) ?_, F.kp, F.bindsN (fun _ _ _ _ _ _ us hl => match us, hl with | [_, _], _ => rfl), He.glo_ok e.KX e.G (e.c.fact 29)⟩
  intro cdv A outer s H E W hw b
  exact ss_cons (s_set b.nd (x_int)) (ss_cons (s_fr b.pass b.calm (i_rng (x_var) m_range) (t_nm b.nd) (ss_cons (s_set b.nd (x_bin (o := .fdiv) (x_bin (o := .mul) (x_var) (x_bin (o := .sub) (x_var) (x_var))) (x_bin (o := .add) (x_var) (x_int)))) (ss_nil))) (ss_cons (s_ret (x_var) hw) (ss_nil)))
theorem c__law_margins {P : Program} {w : World} {K : PySem.W.Frag} {mg : Str → Option Value} {base : Heap} (e : Ek K mg base) : Cal P w K mg base "_law_margins" 31 (spP K f__law_margins) := by
  have m_len : mg "len" = none := He.free_ok e.KX e.G (e.c.fact 48)
  have m_range : mg "range" = none := He.free_ok e.KX e.G (e.c.fact 50)
  have C__law_choices := c__law_choices (P := P) (w := w) e
  have C__law_low := c__law_low (P := P) (w := w) e
  have C__law_minus := c__law_minus (P := P) (w := w) e
  have C__law_times := c__law_times (P := P) (w := w) e
  obtain ⟨fd, F⟩ := e.c.def_ 30
  refine ⟨_, fd, ["row"], fn_p (N := ["row", "even", "k"]) (q := q__law_margins) F ⟨rfl, rfl, rfl, by decide, rfl, by decide, by decide⟩ rfl rfl (fun _ => rfl) (by decide) ?_, F.kp, F.bindsN (fun _ _ _ _ _ _ us hl => match us, hl with | [_], _ => rfl), He.glo_ok e.KX e.G (e.c.fact 30)⟩
  intro cdv A outer s H E W hw b
  exact ss_cons (s_set b.nd (o_x (o_comp [("k", 2)] b.calm b.nd (i_rng (x_bi (b := .len) b.calm b.hu m_len (xa_cons (x_var) (xa_nil))) m_range) (by rfl) (by rfl) (fun _ _ _ _ _ => t_nm b.nd) (fun _ _ _ _ _ => ts_nil) (fun _ _ _ _ _ _ _ _ => x_c C__law_low b.room (by decide) takes_n (xa_cons (x_ix (x_ix (x_var) (x_var)) (x_int)) (xa_cons (x_bin (o := .mul) (x_ix (x_ix (x_var) (x_var)) (x_int)) (x_c C__law_choices b.room (by decide) takes_n (xa_cons (x_bin (o := .sub) (x_bi (b := .len) b.calm b.hu m_len (xa_cons (x_var) (xa_nil))) (x_int)) (xa_cons (x_var) (xa_nil))))) (xa_nil))))))) (ss_cons (s_ret (o_x (o_comp [("k", 2)] b.calm b.nd (i_rng2 (x_int) (x_bin (o := .sub) (x_bi (b := .len) b.calm b.hu m_len (xa_cons (x_var) (xa_nil))) (x_int)) m_range) (by rfl) (by rfl) (fun _ _ _ _ _ => t_nm b.nd) (fun _ _ _ _ _ => ts_nil) (fun _ _ _ _ _ _ _ _ => x_c C__law_minus b.room (by decide) takes_n (xa_cons (x_c C__law_times b.room (by decide) takes_n (xa_cons (x_ix (x_var) (x_var)) (xa_cons (x_ix (x_var) (x_var)) (xa_nil)))) (xa_cons (x_c C__law_times b.room (by decide) takes_n (xa_cons (x_ix (x_var) (x_bin (o := .sub) (x_var) (x_int))) (xa_cons (x_ix (x_var) (x_bin (o := .add) (x_var) (x_int))) (xa_nil)))) (xa_nil)))))) hw) (ss_nil))
theorem c__law_gaps {P : Program} {w : World} {K : PySem.W.Frag} {mg : Str → Option Value} {base : Heap} (e : Ek K mg base) : Cal P w K mg base "_law_gaps" 32 (spP K f__law_gaps) := by
  have m_len : mg "len" = none := He.free_ok e.KX e.G (e.c.fact 48)
  have m_range : mg "range" = none := He.free_ok e.KX e.G (e.c.fact 50)
  obtain ⟨fd, F⟩ := e.c.def_ 31
  refine ⟨_, fd, ["row"], fn_p (N := ["row", "there", "k"]) (q := q__law_gaps) F ⟨rfl, rfl, rfl, by decide, rfl, by decide, by decide⟩ rfl rfl (fun _ => rfl) (by decide) ?_, F.kp, F.bindsN (fun _ _ _ _ _ _ us hl => match us, hl with | [_], _ => rfl), He.glo_ok e.KX e.G (e.c.fact 31)⟩
  intro cdv A outer s H E W hw b
  exact ss_cons (s_setC [("k", 2)] b.calm b.nd (i_rng (x_bi (b := .len) b.calm b.hu m_len (xa_cons (x_var) (xa_nil))) m_range) (by rfl) (by rfl) (fun _ _ _ _ _ => t_nm b.nd) (fun _ _ _ _ _ => ts_one fun _ _ _ => b_cmp (o := .ne) b.hu (x_ix (x_ix (x_var) (x_var)) (x_int)) (x_int)) (fun _ _ _ _ _ _ _ _ => x_var)) (ss_cons (s_ret (x_ifx (b_cmp (o := .ne) b.hu (x_var) (o_x (o_lst (xa_nil)))) (o_x (o_comp [("k", 2)] b.calm b.nd (i_rng2 (x_ix (x_var) (x_int)) (x_ix (x_var) (x_neg (x_int))) m_range) (by rfl) (by rfl) (fun _ _ _ _ _ => t_nm b.nd) (fun _ _ _ _ _ => ts_one fun _ _ _ => b_cmp (o := .eq) b.hu (x_ix (x_ix (x_var) (x_var)) (x_int)) (x_int)) (fun _ _ _ _ _ _ _ _ => x_var))) (o_x (o_lst (xa_nil)))) hw) (ss_nil))
theorem c__law_row_bulges {P : Program} {w : World} {K : PySem.W.Frag} {mg : Str → Option Value} {base : Heap} (e : Ek K mg base) : Cal P w K mg base "_law_row_bulges" 33 (spP K f__law_row_bulges) := by
  have C__law_gaps := c__law_gaps (P := P) (w := w) e
  have C__law_margins := c__law_margins (P := P) (w := w) e
  obtain ⟨fd, F⟩ := e.c.def_ 32
  refine ⟨_, fd, ["row"], fn_p (N := ["row", "one"]) (q := q__law_row_bulges) F ⟨rfl, rfl, rfl, by decide, rfl, by decide, by decide⟩ rfl rfl (fun _ => rfl) (by decide) ?_, F.kp, F.bindsN (fun _ _ _ _ _ _ us hl => match us, hl with | [_], _ => rfl), He.glo_ok e.KX e.G (e.c.fact 32)⟩
  intro cdv A outer s H E W hw b
  exact ss_cons (s_ret (x_and (x_cmp (o := .eq) b.hu (o_x (o_comp [("one", 1)] b.calm b.nd (i_e (x_c C__law_margins b.room (by decide) b.tk (xa_cons (x_var) (xa_nil)))) (by rfl) (by rfl) (fun _ _ _ _ _ => t_nm b.nd) (fun _ _ _ _ _ => ts_one fun _ _ _ => b_cmp (o := .lt) b.hu (x_ix (x_var) (x_int)) (x_int)) (fun _ _ _ _ _ _ _ _ => x_var))) (o_x (o_lst (xa_nil)))) (x_one (x_cmp (o := .eq) b.hu (x_c C__law_gaps b.room (by decide) b.tk (xa_cons (x_var) (xa_nil))) (o_x (o_lst (xa_nil)))))) hw) (ss_nil)
theorem c__law_refused {P : Program} {w : World} {K : PySem.W.Frag} {mg : Str → Option Value} {base : Heap} (e : Ek K mg base) : Cal P w K mg base "_law_refused" 34 (spP K f__law_refused) := by
  have ec_NotAllowed := And.intro (He.glo_ok e.KX e.G (e.c.fact 38)) (He.exc_ok (e.c.fact 54))
  have xm_BadPaper_NotAllowed := He.exm_ok (e.c.fact 58)
  have xm_NotAllowed_NotAllowed := He.exm_ok (e.c.fact 55)
  have C_check_number_row := c_check_number_row (P := P) (w := w) e
  have C_check_row_question := c_check_row_question (P := P) (w := w) e
  obtain ⟨fd, F⟩ := e.c.def_ 33
  refine ⟨_, fd, ["call", "value"], fn_p (N := ["call", "value"]) (q := q__law_refused) F ⟨rfl, rfl, rfl, by decide, rfl, by decide, by decide⟩ rfl rfl (fun _ => rfl) (by decide) ?_, F.kp, F.bindsN (fun _ _ _ _ _ _ us hl => match us, hl with | [_, _], _ => rfl), He.glo_ok e.KX e.G (e.c.fact 33)⟩
  intro cdv A outer s H E W hw b
  exact ss_cons (s_tri b.stk b.frm b.tk ec_NotAllowed (by rfl) (by decide) (by intro c' hc; simp only [List.mem_cons, List.not_mem_nil, or_false] at hc; rcases hc with rfl | rfl; all_goals first | exact xm_NotAllowed_NotAllowed | exact xm_BadPaper_NotAllowed) (fun _ _ _ tk' hp' => ss_cons (s_ret (x_ifx (b_cmp (o := .is) b.hu (x_ifx (b_cmp (o := .eq) b.hu (x_var) (x_int)) (x_c C_check_number_row b.room (by decide) tk' (xa_cons (x_var) (xa_nil))) (x_c C_check_row_question b.room (by decide) tk' (xa_cons (x_var) (xa_nil)))) (x_non)) (x_bl) (x_str)) hw) (ss_nil)) (fun _ _ => x_bl) hw (fun s d s' h => by cases h; rfl) (fun s => ⟨_, _, rfl⟩)) (ss_nil)
theorem c__law_taken {P : Program} {w : World} {K : PySem.W.Frag} {mg : Str → Option Value} {base : Heap} (e : Ek K mg base) : Cal P w K mg base "_law_taken" 35 (spP K f__law_taken) := by
  have ec_BadPaper := And.intro (He.glo_ok e.KX e.G (e.c.fact 39)) (He.exc_ok (e.c.fact 57))
  have xm_BadPaper_BadPaper := He.exm_ok (e.c.fact 59)
  have xm_NotAllowed_BadPaper := He.exm_ok (e.c.fact 56)
  have C_judge_row := c_judge_row (P := P) (w := w) e
  obtain ⟨fd, F⟩ := e.c.def_ 34
  refine ⟨_, fd, ["question", "answer", "paper"], fn_p (N := ["question", "answer", "paper"]) (q := q__law_taken) F ⟨rfl, rfl, rfl, by decide, rfl, by decide, by decide⟩ rfl rfl (fun _ => rfl) (by decide) ?_, F.kp, F.bindsN (fun _ _ _ _ _ _ us hl => match us, hl with | [_, _, _], _ => rfl), He.glo_ok e.KX e.G (e.c.fact 34)⟩
  intro cdv A outer s H E W hw b
  exact ss_cons (s_tri b.stk b.frm b.tk ec_BadPaper (by rfl) (by decide) (by intro c' hc; simp only [List.mem_cons, List.not_mem_nil, or_false] at hc; rcases hc with rfl | rfl; all_goals first | exact xm_NotAllowed_BadPaper | exact xm_BadPaper_BadPaper) (fun _ _ _ tk' hp' => ss_cons (s_ret (x_ifx (b_cmp (o := .is) b.hu (x_c C_judge_row b.room (by decide) tk' (xa_cons (x_var) (xa_cons (x_var) (xa_cons (x_var) (xa_nil))))) (x_non)) (x_bl) (x_str)) hw) (ss_nil)) (fun _ _ => x_bl) hw (fun s d s' h => by cases h; rfl) (fun s => ⟨_, _, rfl⟩)) (ss_nil)
theorem c__law_right {P : Program} {w : World} {K : PySem.W.Frag} {mg : Str → Option Value} {base : Heap} (e : Ek K mg base) : CalG P w K mg base "_law_right" 36 (spP K f__law_right) := by
  have m_bool : mg "bool" = none := He.free_ok e.KX e.G (e.c.fact 44)
  have m_int : mg "int" = none := He.free_ok e.KX e.G (e.c.fact 46)
  have m_isinstance : mg "isinstance" = none := He.free_ok e.KX e.G (e.c.fact 47)
  have m_len : mg "len" = none := He.free_ok e.KX e.G (e.c.fact 48)
  have m_str : mg "str" = none := He.free_ok e.KX e.G (e.c.fact 51)
  have m_tuple : mg "tuple" = none := He.free_ok e.KX e.G (e.c.fact 52)
  have C__law_gaps := c__law_gaps (P := P) (w := w) e
  have C__law_margins := c__law_margins (P := P) (w := w) e
  have C__law_row_bulges := c__law_row_bulges (P := P) (w := w) e
  obtain ⟨fd, F⟩ := e.c.def_ 35
  refine ⟨_, fd, ["row", "answer", "paper"], fn_pG (N := ["row", "answer", "paper"]) (q := q__law_right) F ⟨rfl, rfl, rfl, by decide, rfl, by decide, by decide⟩ rfl rfl (fun _ => rfl) (by decide) ?_, F.kp, F.bindsN (fun _ _ _ _ _ _ us hl => match us, hl with | [_, _, _], _ => rfl), He.glo_ok e.KX e.G (e.c.fact 35)⟩
  intro cdv A outer s H E W hw b gd
  exact ss_cons (s_ite (b_not (b_val (x_isi (t := .tuple) (x_var) m_isinstance m_tuple))) (ss_cons (s_ret (x_bl) hw) (ss_nil)) (ss_nil)) (ss_cons (s_ite (b_cmp (o := .eq) b.hu (x_var) (x_str)) (ss_cons (s_ret (x_and (x_c C__law_row_bulges b.room (by decide) b.tk (xa_cons (x_var) (xa_nil))) (x_and (x_cmp (o := .eq) b.hu (x_var) (x_bi (b := .tuple) b.calm b.hu m_tuple (xa_cons (x_c C__law_margins b.room (by decide) b.tk (xa_cons (x_var) (xa_nil))) (xa_nil)))) (x_one (x_cmp (o := .eq) b.hu (x_strf gd b.hu (x_var) m_str) (x_strf gd b.hu (x_bi (b := .tuple) b.calm b.hu m_tuple (xa_cons (x_c C__law_margins b.room (by decide) b.tk (xa_cons (x_var) (xa_nil))) (xa_nil))) m_str))))) hw) (ss_nil)) (ss_nil)) (ss_cons (s_ite (b_w (bw_or (b_cmp (o := .ne) b.hu (x_bi (b := .len) b.calm b.hu m_len (xa_cons (x_var) (xa_nil))) (x_int)) (bw_or (b_val (x_isi (t := .bool) (x_ix (x_var) (x_int)) m_isinstance m_bool)) (bw_or1 (b_not (b_val (x_isi (t := .int) (x_ix (x_var) (x_int)) m_isinstance m_int))))))) (ss_cons (s_ret (x_bl) hw) (ss_nil)) (ss_nil)) (ss_cons (s_ite (b_cmp (o := .eq) b.hu (x_ix (x_var) (x_int)) (x_str)) (ss_cons (s_ret (x_cmp (o := .inn) b.hu (x_ix (x_var) (x_int)) (x_c C__law_gaps b.room (by decide) b.tk (xa_cons (x_var) (xa_nil)))) hw) (ss_nil)) (ss_nil)) (ss_cons (s_ret (x_and (x_cmp (o := .eq) b.hu (x_ix (x_var) (x_int)) (x_str)) (x_and (x_chn (o := .lt) (p := .lt) b.hu (x_int) (x_ix (x_var) (x_int)) (x_bin (o := .sub) (x_bi (b := .len) b.calm b.hu m_len (xa_cons (x_var) (xa_nil))) (x_int))) (x_one (x_cmp (o := .lt) b.hu (x_ix (x_ix (x_c C__law_margins b.room (by decide) b.tk (xa_cons (x_var) (xa_nil))) (x_bin (o := .sub) (x_ix (x_var) (x_int)) (x_int))) (x_int)) (x_int))))) hw) (ss_nil)))))
theorem c_law {P : Program} {w : World} {K : PySem.W.Frag} {mg : Str → Option Value} {base : Heap} {fd : FuncData} (e : Ek K mg base) (F : FunD K "law" "law" (defArgs (top 46)) (defBody (top 46)) (defScope (top 46)) [] [] (He.ga K "law") fd) : FnG P w K mg base 37 (He.ga K "law") fd ["script"] (spP K f_law) := by
  have m_len : mg "len" = none := He.free_ok e.KX e.G (e.c.fact 48)
  have m_list : mg "list" = none := He.free_ok e.KX e.G (e.c.fact 49)
  have m_range : mg "range" = none := He.free_ok e.KX e.G (e.c.fact 50)
  have m_tuple : mg "tuple" = none := He.free_ok e.KX e.G (e.c.fact 52)
  have C__law_choices := c__law_choices (P := P) (w := w) e
  have C__law_draw := c__law_draw (P := P) (w := w) e
  have C__law_gaps := c__law_gaps (P := P) (w := w) e
  have C__law_low := c__law_low (P := P) (w := w) e
  have C__law_margins := c__law_margins (P := P) (w := w) e
  have C__law_refused := c__law_refused (P := P) (w := w) e
  have C__law_right := c__law_right (P := P) (w := w) e
  have C__law_row_bulges := c__law_row_bulges (P := P) (w := w) e
  have C__law_rowed := c__law_rowed (P := P) (w := w) e
  have C__law_take := c__law_take (P := P) (w := w) e
  have C__law_taken := c__law_taken (P := P) (w := w) e
  have C_binomials := c_binomials (P := P) (w := w) e
  have C_check_number_row := c_check_number_row (P := P) (w := w) e
  have C_choices := c_choices (P := P) (w := w) e
  have C_decide_row := c_decide_row (P := P) (w := w) e
  have C_levelled := c_levelled (P := P) (w := w) e
  have C_margins_of := c_margins_of (P := P) (w := w) e
  have C_row_breaks := c_row_breaks (P := P) (w := w) e
  have C_row_bulges := c_row_bulges (P := P) (w := w) e
  have C_row_gaps := c_row_gaps (P := P) (w := w) e
  refine fn_pG (N := ["script", "draw", "turn", "row", "many", "margins", "n", "breaks", "bad", "question", "answer", "paper", "near", "value", "word", "k", "one"]) (q := q_law) F ⟨rfl, rfl, rfl, by decide, rfl, by decide, by decide⟩ rfl rfl (fun _ => rfl) (by decide) ?_
  intro cdv A outer s H E W hw b gd
  exact ss_cons (s_own b.nd (o_c C__law_draw b.room (by decide) b.tk (xa_cons (x_var) (xa_nil)))) (ss_cons (s_fr b.pass b.calm (i_rng (x_int) m_range) (t_nm b.nd) (ss_cons (s_set b.nd (x_cd C__law_rowed b.room (by decide) b.tk (xa_cons (x_int) (xa_nil)))) (ss_cons (s_unp (x_tup (xa_cons (x_bi (b := .len) b.calm b.hu m_len (xa_cons (x_var) (xa_nil))) (xa_cons (x_c C__law_margins b.room (by decide) b.tk (xa_cons (x_var) (xa_nil))) (xa_cons (x_cd C__law_take b.room (by decide) b.tk (xa_cons (x_int) (xa_nil))) (xa_nil))))) (t_tp3 b.calm (t_nm b.nd) (t_nm b.nd) (t_nm b.nd))) (ss_cons (s_ite (b_w (bw_or (b_cmp (o := .isn) b.hu (x_c C_check_number_row b.room (by decide) b.tk (xa_cons (x_var) (xa_nil))) (x_non)) (bw_or (b_cmp (o := .ne) b.hu (x_c C_binomials b.room (by decide) b.tk (xa_cons (x_var) (xa_nil))) (x_bi (b := .tuple) b.calm b.hu m_tuple (xa_cons (o_x (o_comp [("k", 15)] b.calm b.nd (i_rng (x_bin (o := .add) (x_var) (x_int)) m_range) (by rfl) (by rfl) (fun _ _ _ _ _ => t_nm b.nd) (fun _ _ _ _ _ => ts_nil) (fun _ _ _ _ _ _ _ _ => x_tup (xa_cons (x_c C__law_choices b.room (by decide) takes_n (xa_cons (x_var) (xa_cons (x_var) (xa_nil)))) (xa_cons (x_int) (xa_nil)))))) (xa_nil)))) (bw_or1 (b_cmp (o := .lt) b.hu (x_c C_choices b.room (by decide) b.tk (xa_cons (x_var) (xa_cons (x_cd C__law_take b.room (by decide) b.tk (xa_cons (x_bin (o := .add) (x_var) (x_int)) (xa_nil))) (xa_nil)))) (x_int)))))) (ss_cons (s_ret (x_bl) hw) (ss_nil)) (ss_nil)) (ss_cons (s_ite (b_w (bw_or (b_cmp (o := .ne) b.hu (x_c C_levelled b.room (by decide) b.tk (xa_cons (x_var) (xa_nil))) (x_bi (b := .tuple) b.calm b.hu m_tuple (xa_cons (o_x (o_comp [("k", 15)] b.calm b.nd (i_rng (x_var) m_range) (by rfl) (by rfl) (fun _ _ _ _ _ => t_nm b.nd) (fun _ _ _ _ _ => ts_nil) (fun _ _ _ _ _ _ _ _ => x_c C__law_low b.room (by decide) takes_n (xa_cons (x_ix (x_ix (x_var) (x_var)) (x_int)) (xa_cons (x_bin (o := .mul) (x_ix (x_ix (x_var) (x_var)) (x_int)) (x_c C__law_choices b.room (by decide) takes_n (xa_cons (x_bin (o := .sub) (x_var) (x_int)) (xa_cons (x_var) (xa_nil))))) (xa_nil)))))) (xa_nil)))) (bw_or1 (b_cmp (o := .ne) b.hu (x_c C_margins_of b.room (by decide) b.tk (xa_cons (x_var) (xa_nil))) (x_bi (b := .tuple) b.calm b.hu m_tuple (xa_cons (x_var) (xa_nil))))))) (ss_cons (s_ret (x_bl) hw) (ss_nil)) (ss_nil)) (ss_cons (s_setC [("k", 15)] b.calm b.nd (i_rng (x_bi (b := .len) b.calm b.hu m_len (xa_cons (x_var) (xa_nil))) m_range) (by rfl) (by rfl) (fun _ _ _ _ _ => t_nm b.nd) (fun _ _ _ _ _ => ts_one fun _ _ _ => b_cmp (o := .lt) b.hu (x_ix (x_ix (x_var) (x_var)) (x_int)) (x_int)) (fun _ _ _ _ _ _ _ _ => x_bin (o := .add) (x_var) (x_int))) (ss_cons (s_ite (b_w (bw_or (b_cmp (o := .ne) b.hu (x_c C_row_breaks b.room (by decide) b.tk (xa_cons (x_var) (xa_nil))) (x_bi (b := .tuple) b.calm b.hu m_tuple (xa_cons (x_var) (xa_nil)))) (bw_or (b_cmp (o := .ne) b.hu (x_c C_row_gaps b.room (by decide) b.tk (xa_cons (x_var) (xa_nil))) (x_bi (b := .tuple) b.calm b.hu m_tuple (xa_cons (x_c C__law_gaps b.room (by decide) b.tk (xa_cons (x_var) (xa_nil))) (xa_nil)))) (bw_or1 (b_cmp (o := .ne) b.hu (x_c C_row_bulges b.room (by decide) b.tk (xa_cons (x_var) (xa_nil))) (x_c C__law_row_bulges b.room (by decide) b.tk (xa_cons (x_var) (xa_nil)))))))) (ss_cons (s_ret (x_bl) hw) (ss_nil)) (ss_nil)) (ss_cons (s_set b.nd (x_bin (o := .add) (o_x (o_lst (xa_cons (x_non) (xa_cons (x_tup (xa_nil)) (xa_cons (x_bi (b := .list) b.calm b.hu m_list (xa_cons (x_var) (xa_nil))) (xa_cons (x_bin (o := .mul) (x_tup (xa_cons (x_tup (xa_cons (x_int) (xa_cons (x_int) (xa_nil)))) (xa_nil))) (x_var)) (xa_cons (x_bin (o := .add) (x_var) (x_tup (xa_cons (x_tup (xa_cons (x_neg (x_int)) (xa_cons (x_int) (xa_nil)))) (xa_nil)))) (xa_cons (x_bin (o := .add) (x_var) (x_tup (xa_cons (x_tup (xa_cons (x_int) (xa_cons (x_int) (xa_nil)))) (xa_nil)))) (xa_cons (x_bin (o := .add) (x_var) (x_tup (xa_cons (x_int) (xa_nil)))) (xa_cons (x_bin (o := .mul) (x_tup (xa_cons (x_tup (xa_cons (x_int) (xa_cons (x_int) (xa_nil)))) (xa_nil))) (x_int)) (xa_cons (x_bin (o := .add) (x_var) (x_tup (xa_cons (x_tup (xa_cons (x_bl) (xa_cons (x_int) (xa_nil)))) (xa_nil)))) (xa_nil)))))))))))) (o_x (o_lst (xa_cons (x_int) (xa_cons (x_str) (xa_cons (x_tup (xa_cons (x_tup (xa_cons (x_int) (xa_cons (x_int) (xa_nil)))) (xa_nil))) (xa_cons (x_tup (xa_cons (x_tup (xa_cons (x_int) (xa_cons (x_neg (x_int)) (xa_nil)))) (xa_nil))) (xa_cons (x_tup (xa_cons (x_tup (xa_cons (x_int) (xa_cons (x_bl) (xa_nil)))) (xa_nil))) (xa_cons (x_tup (xa_cons (x_tup (xa_cons (x_int) (xa_cons (x_int) (xa_cons (x_int) (xa_nil))))) (xa_nil))) (xa_cons (x_tup (xa_cons (o_x (o_lst (xa_cons (x_int) (xa_cons (x_int) (xa_nil))))) (xa_nil))) (xa_cons (x_tup (xa_cons (x_tup (xa_cons (x_str) (xa_cons (x_int) (xa_nil)))) (xa_nil))) (xa_cons (x_tup (xa_cons (x_non) (xa_nil))) (xa_cons (x_tup (xa_cons (x_tup (xa_cons (x_int) (xa_nil))) (xa_nil))) (xa_cons (x_bin (o := .add) (x_var) (x_tup (xa_cons (x_non) (xa_nil)))) (xa_nil)))))))))))))))) (ss_cons (s_ite (b_w (bw_or (b_cmp (o := .ne) b.hu (o_x (o_comp [("one", 16)] b.calm b.nd (i_e (x_var)) (by rfl) (by rfl) (fun _ _ _ _ _ => t_nm b.nd) (fun _ _ _ _ _ => ts_one fun _ _ _ => b_w (bw_or (b_cmp (o := .isn) b.hu (x_c C__law_refused b.room (by decide) takes_n (xa_cons (x_int) (xa_cons (x_var) (xa_nil)))) (x_bl)) (bw_or1 (b_cmp (o := .isn) b.hu (x_c C__law_refused b.room (by decide) takes_n (xa_cons (x_int) (xa_cons (x_tup (xa_cons (x_str) (xa_cons (x_var) (xa_nil)))) (xa_nil)))) (x_bl))))) (fun _ _ _ _ _ _ _ _ => x_var))) (o_x (o_lst (xa_nil)))) (bw_or1 (b_val (x_c C__law_refused b.room (by decide) b.tk (xa_cons (x_int) (xa_cons (x_tup (xa_cons (x_str) (xa_cons (x_var) (xa_nil)))) (xa_nil)))))))) (ss_cons (s_ret (x_bl) hw) (ss_nil)) (ss_nil)) (ss_cons (s_ite (b_cmp (o := .ne) b.hu (o_x (o_comp [("one", 16)] b.calm b.nd (i_e (o_x (o_lst (xa_cons (x_tup (xa_nil)) (xa_cons (x_tup (xa_cons (x_str) (xa_nil))) (xa_cons (x_tup (xa_cons (x_str) (xa_cons (x_var) (xa_cons (x_int) (xa_nil))))) (xa_cons (x_tup (xa_cons (x_str) (xa_cons (x_var) (xa_nil)))) (xa_cons (x_tup (xa_cons (x_non) (xa_cons (x_var) (xa_nil)))) (xa_nil))))))))) (by rfl) (by rfl) (fun _ _ _ _ _ => t_nm b.nd) (fun _ _ _ _ _ => ts_one fun _ _ _ => b_cmp (o := .isn) b.hu (x_c C__law_refused b.room (by decide) takes_n (xa_cons (x_int) (xa_cons (x_var) (xa_nil)))) (x_bl)) (fun _ _ _ _ _ _ _ _ => x_var))) (o_x (o_lst (xa_nil)))) (ss_cons (s_ret (x_bl) hw) (ss_nil)) (ss_nil)) (ss_cons (s_set b.nd (x_tup (xa_cons (x_str) (xa_cons (x_var) (xa_nil))))) (ss_cons (s_unp (x_c C_decide_row b.room (by decide) b.tk (xa_cons (x_var) (xa_nil))) (t_tp b.calm (t_nm b.nd) (t_nm b.nd))) (ss_cons (s_ite (b_w (bw_or (b_cmp (o := .ne) b.hu (x_var) (x_ifx (b_val (x_c C__law_row_bulges b.room (by decide) b.tk (xa_cons (x_var) (xa_nil)))) (x_str) (x_str))) (bw_or (b_not (b_val (x_cG C__law_right gd b.room (by decide) b.tk (xa_cons (x_var) (xa_cons (x_var) (xa_cons (x_var) (xa_nil))))))) (bw_or1 (b_not (b_val (x_c C__law_taken b.room (by decide) b.tk (xa_cons (x_var) (xa_cons (x_var) (xa_cons (x_var) (xa_nil))))))))))) (ss_cons (s_ret (x_bl) hw) (ss_nil)) (ss_nil)) (ss_cons (s_set b.nd (o_x (o_lst (xa_cons (x_non) (xa_cons (x_tup (xa_nil)) (xa_cons (x_var) (xa_cons (x_bi (b := .list) b.calm b.hu m_list (xa_cons (x_var) (xa_nil))) (xa_cons (x_bi (b := .tuple) b.calm b.hu m_tuple (xa_cons (x_var) (xa_nil))) (xa_cons (x_slc (x_bi (b := .tuple) b.calm b.hu m_tuple (xa_cons (x_var) (xa_nil))) xo_none (xo_some (x_neg (x_int)))) (xa_cons (x_bin (o := .add) (x_bi (b := .tuple) b.calm b.hu m_tuple (xa_cons (x_var) (xa_nil))) (x_tup (xa_cons (x_tup (xa_cons (x_int) (xa_cons (x_int) (xa_nil)))) (xa_nil)))) (xa_cons (x_rev (x_bi (b := .tuple) b.calm b.hu m_tuple (xa_cons (x_var) (xa_nil)))) (xa_cons (x_bi (b := .tuple) b.calm b.hu m_tuple (xa_cons (o_x (o_comp [("one", 16)] b.calm b.nd (i_e (x_var)) (by rfl) (by rfl) (fun _ _ _ _ _ => t_nm b.nd) (fun _ _ _ _ _ => ts_nil) (fun _ _ _ _ _ _ _ _ => x_tup (xa_cons (x_ix (x_var) (x_int)) (xa_cons (x_bl) (xa_nil)))))) (xa_nil))) (xa_nil))))))))))))) (ss_cons (s_set b.nd (x_bin (o := .add) (x_bin (o := .add) (x_var) (o_x (o_comp [("k", 15)] b.calm b.nd (i_rng (x_bin (o := .add) (x_bin (o := .mul) (x_int) (x_var)) (x_int)) m_range) (by rfl) (by rfl) (fun _ _ _ _ _ => t_nm b.nd) (fun _ _ _ _ _ => ts_nil) (fun _ _ _ _ _ _ _ _ => x_tup (xa_cons (x_ix (o_x (o_lst (xa_cons (x_str) (xa_cons (x_str) (xa_cons (x_str) (xa_nil)))))) (x_bin (o := .mod) (x_var) (x_int))) (xa_cons (x_bin (o := .sub) (x_bin (o := .fdiv) (x_var) (x_int)) (x_int)) (xa_nil))))))) (o_x (o_lst (xa_cons (x_tup (xa_cons (x_str) (xa_cons (x_bl) (xa_nil)))) (xa_cons (x_tup (xa_cons (x_str) (xa_nil))) (xa_cons (x_tup (xa_cons (x_str) (xa_cons (x_non) (xa_nil)))) (xa_cons (x_tup (xa_cons (x_non) (xa_cons (x_int) (xa_nil)))) (xa_cons (x_tup (xa_cons (x_str) (xa_cons (x_bin (o := .sub) (x_var) (x_int)) (xa_nil)))) (xa_cons (x_tup (xa_cons (x_str) (xa_cons (x_var) (xa_nil)))) (xa_nil))))))))))) (ss_cons (s_fr b.pass b.calm (i_e (x_var)) (t_nm b.nd) (ss_cons (s_fr b.pass b.calm (i_e (o_x (o_lst (xa_cons (x_str) (xa_cons (x_str) (xa_nil)))))) (t_nm b.nd) (ss_cons (s_ite (b_cmp (o := .ne) b.hu (x_c C__law_taken b.room (by decide) b.tk (xa_cons (x_var) (xa_cons (x_var) (xa_cons (x_var) (xa_nil))))) (x_cG C__law_right gd b.room (by decide) b.tk (xa_cons (x_var) (xa_cons (x_var) (xa_cons (x_var) (xa_nil)))))) (ss_cons (s_ret (x_bl) hw) (ss_nil)) (ss_nil)) (ss_nil))) (ss_nil))) (ss_cons (s_ite (b_w (bw_or (b_val (x_c C__law_taken b.room (by decide) b.tk (xa_cons (x_var) (xa_cons (x_str) (xa_cons (x_var) (xa_nil)))))) (bw_or1 (b_val (x_c C__law_taken b.room (by decide) b.tk (xa_cons (x_var) (xa_cons (x_non) (xa_cons (x_var) (xa_nil))))))))) (ss_cons (s_ret (x_bl) hw) (ss_nil)) (ss_nil)) (ss_nil)))))))))))))))))) (ss_cons (s_ret (x_bl) hw) (ss_nil)))
end L2.BH
namespace HdK
open PySem PySem.Spec PyProof.Rows L2
abbrev R : PySem.W.OpenRow := PySem.W.OpenLaw.row PySem.Challenge.rw_bulgesheld_k07_rows_that_bulge_with_pape
abbrev hk : PySem.W.Hook := L2.BH.hookX 4 L2.BH.fa L2.BH.fn L2.BH.tp
def ob (s : PySem.W.SharedT) : He.AlD × Bool := L2.BH.obsXG 4 L2.BH.fa L2.BH.fn L2.BH.tp (HandSHeadRun.getT s)
theorem ob_eq (s : PySem.W.SharedT) : ob s = hk.obs s.abs := L2.BH.obsXG_eq (HandSHeadRun.getT_eq s)
def loose : List PySem.Str := [("BulgeError" : PySem.Str), ("NotAllowed" : PySem.Str), ("BadPaper" : PySem.Str), ("is_integer" : PySem.Str), ("ZERO" : PySem.Str), ("common" : PySem.Str), ("lowest" : PySem.Str), ("minus" : PySem.Str), ("times" : PySem.Str), ("divided" : PySem.Str), ("less" : PySem.Str), ("is_ratio" : PySem.Str), ("are_ratios" : PySem.Str), ("MAX_ROW" : PySem.Str), ("is_number_row" : PySem.Str), ("check_number_row" : PySem.Str), ("choices" : PySem.Str), ("binomials" : PySem.Str), ("levelled" : PySem.Str), ("margins_of" : PySem.Str), ("row_breaks" : PySem.Str), ("row_gaps" : PySem.Str), ("row_bulges" : PySem.Str), ("check_row_question" : PySem.Str), ("decide_row" : PySem.Str), ("judge_row" : PySem.Str), ("_law_draw" : PySem.Str), ("_law_take" : PySem.Str), ("_law_low" : PySem.Str), ("_law_plus" : PySem.Str), ("_law_minus" : PySem.Str), ("_law_times" : PySem.Str), ("_law_one" : PySem.Str), ("_law_rowed" : PySem.Str), ("_law_choices" : PySem.Str), ("_law_margins" : PySem.Str), ("_law_gaps" : PySem.Str), ("_law_row_bulges" : PySem.Str), ("_law_refused" : PySem.Str), ("_law_taken" : PySem.Str), ("_law_right" : PySem.Str)]
theorem run (w : World) : HandSHeadRun.RunEq R (PySem.W.view R.prog [46]) hk ob 4000 loose w := by
  intro os
  kernel_rfl
end HdK
open PySem PySem.W PySem.Calls PyProof.Rows
theorem PySem.Challenge.cw_bulgesheld_k07_rows_that_bulge_with_pape_holds : PySem.Challenge.rw_bulgesheld_k07_rows_that_bulge_with_pape.Holds := by
  w_on; o_law
  refine HandSHeadRun.head_any (r := OpenLaw.row PySem.Challenge.rw_bulgesheld_k07_rows_that_bulge_with_pape) (q := view (OpenLaw.row PySem.Challenge.rw_bulgesheld_k07_rows_that_bulge_with_pape).prog [46]) (H := HdK.hk) (ob := HdK.ob) (M := 4000) (loose := HdK.loose) (d := HandSHeadRun.topDef (OpenLaw.row PySem.Challenge.rw_bulgesheld_k07_rows_that_bulge_with_pape).prog 46) (kwd := []) HdK.ob_eq
    (by kernel_rfl) (fun s => by kernel_rfl) HdK.run (by kernel_rfl) (by kernel_rfl) (by kernel_rfl) (by rfl) (by first | assumption | decide +kernel) (by decide +kernel) ⟨rfl, rfl, rfl, rfl, rfl, by decide +kernel⟩ ?hw ?hc
  case hw => w_witness2
  case hc =>
    refine L2.BH.walk_ofG (k := 37) (x := "script") rfl (by decide) (by rfl) ⟨rfl, by decide, by decide⟩ (fun w mg fa h Y G hm => ?_) (fun w H s e s' h => ?_)
    · obtain ⟨K, KX, ct⟩ := Y
      have c := ct.d
      obtain ⟨fd, F⟩ := c.def_ 36
      have ea : fa = He.ga K "law" := by
        have e1 : mg "law" = some (.ref (He.ga K "law")) := He.glo_ok KX G (c.fact 36)
        have e2 : mg "law" = some (.ref fa) := hm
        rw [e1] at e2
        cases e2
        rfl
      subst ea
      exact ⟨K, fd, L2.BH.spP K L2.BH.f_law, KX, fun s u => F.bindsA (ps := ["script"]) (fun _ _ _ _ _ _ us hl => match us, hl with | [_], _ => rfl) s [u] rfl, fun H a ns _ _ hS => L2.BH.law_sp rfl L2.BH.law_true (PySem.W.OpenLaw.prog PySem.Challenge.rw_bulgesheld_k07_rows_that_bulge_with_pape) w H a ns hS, fun base kb gb => L2.BH.c_law ⟨c, kb, gb, ct⟩ F⟩
    · obtain ⟨_, _, _, _, _, _, _, _, _, _, _, _, z⟩ := h
      exact z.elim
