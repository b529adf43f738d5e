import PyProof.Rows.All
import Wide.All
import OpenK.AllK
import Wide.FinOn
import HandS.ForMost
import HandS.Exc
import HandS.TryOnly
import HandS.ExcOwn
import HandS.WordsExc
import HandS.Wide
import HandS.TupAny
import HandS.TupMul
import HandS.Conv
import HandS.FStr
import HandS.IsInst
import HandS.Flt
import HandS.ExcCtx
import KE.SortData
import HandS.Lambda
import PyProof.ListMulRoad
import PyProof.FactsAll.tuple_2
import KE.GoesEnum
import HandS.Defaults
import HandS.Head0
import HandS.HeadHook1
import HandS.HotCalls
import PyProof.ConsumeS
import HandS.ExcIs
import HandS.SuiteRaise
import HandS.LawCells
import HandS.HeadEnd
import HandS.EndTab
import HandS.HeadHook4
import HandS.Dict
import HandS.Head1
import HandS.Head2
import HandS.HeadHook2
import PySem.Challenge.RW_roundnets_k07_whole_rings
set_option Elab.async false
set_option linter.all false
set_option maxRecDepth 100000
set_option maxHeartbeats 0
/-! Core 1: data, results, the core language, what it computes. -/
namespace Co
open PySem PySem.Spec PyProof.Rows L2

abbrev D := PyData
abbrev Dice := Int × Int

/-- what a slot holds -/
inductive SV where
  | no
  | val (d : D)
  | own (ds : List D)
  | dice
abbrev Env := List SV

inductive Res (α : Type) where
  | ok (a : α) (s : Dice)
  | exc (c : Str) (s : Dice)
  | bad

def Res.bind {α β : Type} (r : Res α) (f : α → Dice → Res β) : Res β :=
  match r with
  | .ok a s => f a s
  | .exc c s => .exc c s
  | .bad => .bad
def Res.opt {α : Type} (o : Option α) (s : Dice) : Res α :=
  match o with
  | some a => .ok a s
  | none => .bad
/-- no exception may leave (a comprehension) -/
def Res.nox {α : Type} (r : Res α) : Res α :=
  match r with
  | .exc _ _ => .bad
  | r => r

@[simp] theorem bind_ok {α β : Type} (a : α) (s : Dice) (f : α → Dice → Res β) : (Res.ok a s).bind f = f a s := Eq.trans rfl rfl
@[simp] theorem bind_exc {α β : Type} (c : Str) (s : Dice) (f : α → Dice → Res β) : (Res.exc c s : Res α).bind f = .exc c s := Eq.trans rfl rfl
@[simp] theorem bind_bad {α β : Type} (f : α → Dice → Res β) : (Res.bad : Res α).bind f = .bad := Eq.trans rfl rfl
@[simp] theorem opt_some {α : Type} (a : α) (s : Dice) : Res.opt (some a) s = .ok a s := Eq.trans rfl rfl
@[simp] theorem opt_none {α : Type} (s : Dice) : (Res.opt (none : Option α) s) = .bad := Eq.trans rfl rfl
@[simp] theorem nox_ok {α : Type} (a : α) (s : Dice) : (Res.ok a s).nox = .ok a s := Eq.trans rfl rfl

inductive BOp where | add | sub | mul | fdiv | mod | pow
  deriving DecidableEq
inductive COp where | eq | ne | lt | le | gt | ge | inn | nin
  deriving DecidableEq
inductive Blt where | len | int | str | tuple | list | sorted | sum | min | max | all | any | abs | isInt | isBool | isStr | isTuple
  deriving DecidableEq

def mulOk (i j : Int) : Bool := decide (i.natAbs < 2 ^ 64) || decide (j.natAbs < 2 ^ 64) || (decide (i.natAbs < 2 ^ 4000) && decide (j.natAbs < 2 ^ 4000))
/-- xs repeated -/
def repD (n : Nat) (xs : List D) : List D := (List.replicate n xs).flatten

def binD : BOp → D → D → Option D
  | .add, .int i, .int j => some (.int (i + j))
  | .add, .str x, .str y => if x.length + y.length ≤ sizeLine then some (.str (x ++ y)) else none
  | .add, .tuple xs, .tuple ys => if xs.length + ys.length ≤ sizeLine then some (.tuple (xs ++ ys)) else none
  | .sub, .int i, .int j => some (.int (i - j))
  | .mul, .int i, .int j => if mulOk i j = true then some (.int (i * j)) else none
  | .mul, .tuple xs, .int k => if 0 ≤ k ∧ k ≤ 1000 ∧ xs.length ≤ 1000 then some (.tuple (repD k.toNat xs)) else none
  | .fdiv, .int i, .int j => if 0 < j ∧ j.natAbs < 2 ^ 4000 then some (.int (i / j)) else none
  | .mod, .int i, .int j => if 0 < j then some (.int (i % j)) else none
  | .pow, .int i, .int j => if 0 ≤ j ∧ j ≤ 1000000 ∧ i.natAbs < 2 ^ 64 then some (.int (i ^ j.toNat)) else none
  | .add, .list xs, .list ys => if xs.length + ys.length ≤ sizeLine then some (.list (xs ++ ys)) else none
  | .mul, .list xs, .int k => if -(2 ^ 63) ≤ k ∧ k < 2 ^ 63 ∧ xs.length * k.toNat ≤ sizeLine then some (.list (repD k.toNat xs)) else none
  | _, _, _ => none
def flatD : D → Bool
  | .none => true
  | .bool _ => true
  | .int _ => true
  | .str _ => true
  | _ => false
mutual
def noDict : D → Bool
  | .list ds => noDicts ds
  | .tuple ds => noDicts ds
  | .dict _ => false
  | _ => true
def noDicts : List D → Bool
  | [] => true
  | d :: ds => noDict d && noDicts ds
end
def inD (x : D) (ys : List D) : Option Bool := if flatD x = true ∧ ys.all flatD = true then some (ys.any fun y => PyData.eqv y x) else none
def eqD (x y : D) : Option Bool := if (SeqAt.shaped x = true ∧ noDict x = true) ∧ SeqAt.shaped y = true ∧ noDict y = true then some (PyData.eqv x y) else none
def keyLike : D → Bool
  | .int _ => true
  | .str _ => true
  | _ => false
def cmpD : COp → D → D → Option Bool
  | .eq, x, y => eqD x y
  | .ne, x, y => (eqD x y).map (!·)
  | .lt, .int i, .int j => some (decide (i < j))
  | .le, .int i, .int j => some (decide (i ≤ j))
  | .gt, .int i, .int j => some (decide (j < i))
  | .ge, .int i, .int j => some (decide (j ≤ i))
  | .inn, x, .list ys => inD x ys
  | .inn, x, .tuple ys => inD x ys
  | .inn, x, .dict ys => if keyLike x = true then some ((ys.map (·.1)).any fun y => PyData.eqv y x) else none
  | .nin, x, .list ys => (inD x ys).map (!·)
  | .nin, x, .tuple ys => (inD x ys).map (!·)
  | .nin, x, .dict ys => if keyLike x = true then some (!(ys.map (·.1)).any fun y => PyData.eqv y x) else none
  | _, _, _ => none
def subD : D → D → Option D
  | .list xs, .int i => atI xs i
  | .tuple xs, .int i => atI xs i
  | .str z, .int i => if z.length ≤ sizeLine then (atI z.cps.toList i).map fun c => .str ⟨#[c]⟩ else none
  | _, _ => none
/-- the items of xs[lo:hi] -/
def cutD (xs : List D) (lo hi : Option Int) : List D := (xs.drop (HT.sIx xs.length 0 lo)).take (HT.sIx xs.length xs.length hi - HT.sIx xs.length 0 lo)
/-- a slice -/
def slcD : D → Option Int → Option Int → Option D
  | .tuple xs, lo, hi => some (.tuple (cutD xs lo hi))
  | .str z, lo, hi => if z.length ≤ sizeLine then some (.str (cutS z lo hi)) else none
  | .list xs, lo, hi => some (.list (cutD xs lo hi))
  | _, _, _ => none
def intsD : List D → Option (List Int)
  | [] => some []
  | .int i :: r => (intsD r).map (i :: ·)
  | _ :: _ => none
def boolsD : List D → Option (List Bool)
  | [] => some []
  | .bool b :: r => (boolsD r).map (b :: ·)
  | _ :: _ => none
def maxI : Int → List Int → Int
  | m, [] => m
  | m, x :: r => maxI (if m < x then x else m) r
def minI : Int → List Int → Int
  | m, [] => m
  | m, x :: r => minI (if x < m then x else m) r
/-- data that can be sorted -/
def sortOk (ds : List D) : Bool :=
  (ds.all fun d => ds.all fun d' => PySem.W.alike d d') && ds.all noDict &&
  ((ds.all fun d => match d with
    | .tuple (_ :: _) => true
    | _ => false) || (ds.all fun d => match d with
    | .tuple _ => false
    | .none => false
    | _ => true)) && (ds.all fun d => decide (d.depth ≤ 20)) && decide (ds.length ≤ sizeLine)
def sortD (ds : List D) : List D := ds.mergeSort (PySem.W.dataLe false id)
def un1 (f : D → Option D) : List D → Option D
  | [d] => f d
  | _ => none
def lenD : D → Option D
  | .str z => if z.length ≤ sizeLine then some (.int z.length) else none
  | .list xs => some (.int xs.length)
  | .tuple xs => some (.int xs.length)
  | _ => none
def intD : D → Option D
  | .int i => some (.int i)
  | .bool b => some (.int (if b then 1 else 0))
  | .str z => if z.length ≤ 640 then (PySem.intText? z).map .int else none
  | _ => none
def strD : D → Option D
  | .int i => if i.natAbs.log2 < 1920 then some (.str (toString i)) else none
  | _ => none
def tupleD : D → Option D
  | .list xs => some (.tuple xs)
  | .tuple xs => some (.tuple xs)
  | _ => none
def listD : D → Option D
  | .list xs => some (.list xs)
  | .tuple xs => some (.list xs)
  | _ => none
def sortedD : D → Option D
  | .list xs => if sortOk xs = true then some (.list (sortD xs)) else none
  | _ => none
def sumD : D → Option D
  | .list xs => (intsD xs).map fun ns => .int ns.sum
  | _ => none
def maxD : D → Option D
  | .list xs => (intsD xs).bind fun ns => match ns with
    | n :: ns => some (.int (maxI n ns))
    | [] => none
  | _ => none
def minD : D → Option D
  | .list xs => (intsD xs).bind fun ns => match ns with
    | n :: ns => some (.int (minI n ns))
    | [] => none
  | _ => none
def max2D : D → D → Option D
  | .int i, .int j => some (.int (if j > i then j else i))
  | _, _ => none
def min2D : D → D → Option D
  | .int i, .int j => some (.int (if j < i then j else i))
  | _, _ => none
def max3D : D → D → D → Option D
  | .int i, .int j, .int k => some (.int (maxI i [j, k]))
  | _, _, _ => none
def allD : D → Option D
  | .list xs => (boolsD xs).map fun bs => .bool (bs.all id)
  | _ => none
def anyD : D → Option D
  | .list xs => (boolsD xs).map fun bs => .bool (bs.any id)
  | _ => none
def absD : D → Option D
  | .int i => some (.int (if i < 0 then -i else i))
  | _ => none
def isIntD : D → Option D
  | .int _ => some (.bool true)
  | .bool _ => some (.bool true)
  | .dict _ => none
  | _ => some (.bool false)
def isBoolD : D → Option D
  | .bool _ => some (.bool true)
  | .dict _ => none
  | _ => some (.bool false)
def isStrD : D → Option D
  | .str _ => some (.bool true)
  | .dict _ => none
  | _ => some (.bool false)
def isTupleD : D → Option D
  | .tuple _ => some (.bool true)
  | .dict _ => none
  | _ => some (.bool false)
def max123 : List D → Option D
  | [d] => maxD d
  | [d, e] => max2D d e
  | [d, e, f] => max3D d e f
  | _ => none
def min12 : List D → Option D
  | [d] => minD d
  | [d, e] => min2D d e
  | _ => none
def bltD : Blt → List D → Option D
  | .len => un1 lenD
  | .int => un1 intD
  | .str => un1 strD
  | .tuple => un1 tupleD
  | .list => un1 listD
  | .sorted => un1 sortedD
  | .sum => un1 sumD
  | .max => max123
  | .min => min12
  | .all => un1 allD
  | .any => un1 anyD
  | .abs => un1 absD
  | .isInt => un1 isIntD
  | .isBool => un1 isBoolD
  | .isStr => un1 isStrD
  | .isTuple => un1 isTupleD
/-- lo, lo + 1, .. (n of them) -/
def rngD (lo : Int) (n : Nat) : List D := (List.range n).map fun i => .int (lo + (i : Nat))
def rngOk (lo hi : Int) : Bool := decide (-(2 ^ 62) ≤ lo) && decide (lo < 2 ^ 62) && decide (-(2 ^ 62) ≤ hi) && decide (hi < 2 ^ 62)
/-- the pairs of enumerate -/
def enmD : Nat → List D → List D
  | _, [] => []
  | i, d :: r => .tuple [.int (i : Nat), d] :: enmD (i + 1) r

/-! ### the core language -/
mutual
inductive Pat where
  | one (i : Nat)
  | tup (ps : PatL)
inductive PatL where
  | nil
  | cons (p : Pat) (r : PatL)
end
mutual
inductive CE where
  | stop
  | cst (d : D)
  | var (i : Nat)
  | bor (i : Nat)
  | dce (i : Nat)
  | drd (i : Nat) (k : Bool)
  | bin (o : BOp) (a b : CE)
  | neg (a : CE)
  | not (a : CE)
  | and (a b : CE)
  | or (a b : CE)
  | cmp (o : COp) (a b : CE)
  | isN (a : CE)
  | notN (a : CE)
  | chain (o p : COp) (a b c : CE)
  | ife (c a b : CE)
  | tup (l : CL)
  | lst (l : CL)
  | sub (a b : CE)
  | slc (a : CE) (lo hi : CO)
  | call (f : Nat) (l : CL)
  | blt (b : Blt) (l : CL)
  | lrng (a b : CE)
  | comp (elt : CE) (vs : List Nat) (p : Pat) (it : CI) (c : CO)
  | told (e : CE)
inductive CL where
  | nil
  | cons (e : CE) (r : CL)
inductive CO where
  | non
  | som (e : CE)
inductive CI where
  | rng (a b : CE)
  | seq (a : CE)
  | enm (a : CE)
end
mutual
inductive CS where
  | stop
  | ex (e : CE)
  | asg (i : Nat) (e : CE)
  | asgO (i : Nat) (e : CE)
  | unp (p : Pat) (e : CE)
  | par (is : List (Nat × Bool)) (es : CL)
  | app (i : Nat) (e : CE)
  | popS (p : Pat) (i : Nat)
  | setI (i : Nat) (k e : CE)
  | dst (i : Nat) (k : Bool) (e : CE)
  | ifs (c : CE) (a b : CB)
  | fors (p : Pat) (it : CI) (b : CB)
  | whl (c : CE) (b : CB)
  | ret (e : CE)
  | rai (c : Str)
  | frz (i : Nat)
inductive CB where
  | nil
  | cons (s : CS) (r : CB)
end

def dix (k : Bool) : Int := match k with | true => 1 | false => 0
def dget (k : Bool) (s : Dice) : Int := match k with | true => s.2 | false => s.1
def dput (k : Bool) (s : Dice) (v : Int) : Dice := match k with | true => (s.1, v) | false => (v, s.2)
/-! ### slots -/
def getV (ρ : Env) (i : Nat) : Option D :=
  match ρ[i]? with
  | some (.val d) => some d
  | _ => none
/-- a value, or a list that is our own as it stands -/
def getB (ρ : Env) (i : Nat) : Option D :=
  match ρ[i]? with
  | some (.val d) => some d
  | some (.own ds) => some (.list ds)
  | _ => none
def getO (ρ : Env) (i : Nat) : Option (List D) :=
  match ρ[i]? with
  | some (.own ds) => some ds
  | _ => none
def isDice (ρ : Env) (i : Nat) : Bool :=
  match ρ[i]? with
  | some .dice => true
  | _ => false
mutual
def setP : Pat → D → Env → Option Env
  | .one i, d, ρ => if i < ρ.length then some (ρ.set i (.val d)) else none
  | .tup ps, d, ρ => match d with
    | .tuple ds => setPs ps ds ρ
    | _ => none
def setPs : PatL → List D → Env → Option Env
  | .nil, ds, ρ => match ds with
    | [] => some ρ
    | _ :: _ => none
  | .cons p r, ds, ρ => match ds with
    | [] => none
    | d :: ds => (setP p d ρ).bind fun ρ' => setPs r ds ρ'
end
/-- the slots of a comprehension's own names are forgotten -/
def wipeE (ρ : Env) : List Nat → Env
  | [] => ρ
  | v :: vs => (wipeE ρ vs).set v .no

/-! ### what it computes -/
abbrev Gam := Nat → Option (List SV → Dice → Res D)

def asBool (r : Res D) (f : Bool → Dice → Res D) : Res D :=
  r.bind fun d s => match d with
    | .bool b => f b s
    | _ => .bad
def asBoolR {α : Type} (r : Res D) (f : Bool → Dice → Res α) : Res α :=
  r.bind fun d s => match d with
    | .bool b => f b s
    | _ => .bad
/-- the items of a comprehension, from the left; none: left out -/
def compL : List D → (D → Dice → Res (Option D)) → Nat → Dice → Res (List D)
  | [], _, _, s => .ok [] s
  | d :: r, f, n, s => (f d s).bind fun o s1 => match o with
    | none => compL r f n s1
    | some x => if n < sizeLine then (compL r f (n + 1) s1).bind fun l s2 => .ok (x :: l) s2 else .bad

/-- the classes that a law tells apart -/
def kinds : List Str := ["InvalidNet", "InvalidStreams", "InvalidRound", "InvalidEvent", "InvalidInput", "InvalidArc", "InvalidNumber", "InvalidForm", "InvalidStores", "InvalidDues", "InvalidText", "Standstill", "NoTime", "Broken", "NoFit", "TooMany", "NothingToUndo"]
/-- a value, or the name of the exception -/
def toldR : Res D → Res D
  | .ok d s => .ok d s
  | .exc c s => if kinds.contains c = true then .ok (.tuple [.str "error", .str c]) s else .bad
  | .bad => .bad
mutual
def ev (G : Gam) : CE → Env → Dice → Res D
  | .stop, _, _ => .bad
  | .cst d, _, s => .ok d s
  | .var i, ρ, s => .opt (getV ρ i) s
  | .bor i, ρ, s => .opt (getB ρ i) s
  | .dce _, _, _ => .bad
  | .drd i k, ρ, s => if isDice ρ i = true then .ok (.int (dget k s)) s else .bad
  | .bin o a b, ρ, s => (ev G a ρ s).bind fun x s1 => (ev G b ρ s1).bind fun y s2 => .opt (binD o x y) s2
  | .neg a, ρ, s => (ev G a ρ s).bind fun x s1 => match x with
    | .int i => .ok (.int (-i)) s1
    | _ => .bad
  | .not a, ρ, s => asBool (ev G a ρ s) fun b s1 => .ok (.bool (!b)) s1
  | .and a b, ρ, s => asBool (ev G a ρ s) fun c s1 => if c = true then asBool (ev G b ρ s1) fun c s2 => .ok (.bool c) s2 else .ok (.bool false) s1
  | .or a b, ρ, s => asBool (ev G a ρ s) fun c s1 => if c = true then .ok (.bool true) s1 else asBool (ev G b ρ s1) fun c s2 => .ok (.bool c) s2
  | .cmp o a b, ρ, s => (ev G a ρ s).bind fun x s1 => (ev G b ρ s1).bind fun y s2 => .opt ((cmpD o x y).map .bool) s2
  | .isN a, ρ, s => (ev G a ρ s).bind fun x s1 => match x with
    | .none => .ok (.bool true) s1
    | _ => .ok (.bool false) s1
  | .notN a, ρ, s => (ev G a ρ s).bind fun x s1 => match x with
    | .none => .ok (.bool false) s1
    | _ => .ok (.bool true) s1
  | .chain o p a b c, ρ, s => (ev G a ρ s).bind fun x s1 => (ev G b ρ s1).bind fun y s2 => (Res.opt (cmpD o x y) s2).bind fun k s3 =>
      if k = true then (ev G c ρ s3).bind fun z s4 => .opt ((cmpD p y z).map .bool) s4 else .ok (.bool false) s3
  | .ife c a b, ρ, s => asBool (ev G c ρ s) fun k s1 => if k = true then ev G a ρ s1 else ev G b ρ s1
  | .tup l, ρ, s => (evL G l ρ s).bind fun xs s1 => if xs.length ≤ sizeLine then .ok (.tuple xs) s1 else .bad
  | .lst l, ρ, s => (evL G l ρ s).bind fun xs s1 => if xs.length ≤ sizeLine then .ok (.list xs) s1 else .bad
  | .sub a b, ρ, s => (ev G a ρ s).bind fun x s1 => (ev G b ρ s1).bind fun y s2 => .opt (subD x y) s2
  | .slc a lo hi, ρ, s => (ev G a ρ s).bind fun x s1 => (evO G lo ρ s1).bind fun l s2 => (evO G hi ρ s2).bind fun h s3 => .opt (slcD x l h) s3
  | .call f l, ρ, s => match G f with
    | none => .bad
    | some m => (evA G l ρ s).bind fun xs s1 => m xs s1
  | .blt b l, ρ, s => (evL G l ρ s).bind fun xs s1 => .opt (bltD b xs) s1
  | .lrng a b, ρ, s => (ev G a ρ s).bind fun x s1 => (ev G b ρ s1).bind fun y s2 => match x, y with
    | .int i, .int j => if rngOk i j = true ∧ (j - i).toNat ≤ 2 ^ 24 then .ok (.list (rngD i (j - i).toNat)) s2 else .bad
    | _, _ => .bad
  | .comp elt vs p it c, ρ, s => (evI G it ρ s).bind fun ds s1 => (compL ds (fun d s2 =>
      match setP p d (wipeE ρ vs) with
      | none => .bad
      | some ρ' => (asBoolR (evT G c ρ' s2) fun k s3 => if k = true then (ev G elt ρ' s3).bind fun x s4 => .ok (some x) s4 else .ok none s3).nox) 0 s1).bind fun l s2 => .ok (.list l) s2
  | .told e, ρ, s => toldR (ev G e ρ s)
/-- the items of a display -/
def evL (G : Gam) : CL → Env → Dice → Res (List D)
  | .nil, _, s => .ok [] s
  | .cons e r, ρ, s => (ev G e ρ s).bind fun x s1 => (evL G r ρ s1).bind fun xs s2 => .ok (x :: xs) s2
/-- the arguments of a call -/
def evA (G : Gam) : CL → Env → Dice → Res (List SV)
  | .nil, _, s => .ok [] s
  | .cons e r, ρ, s => match e with
    | .dce i => if isDice ρ i = true then (evA G r ρ s).bind fun xs s2 => .ok (.dice :: xs) s2 else .bad
    | e => (ev G e ρ s).bind fun x s1 => (evA G r ρ s1).bind fun xs s2 => .ok (.val x :: xs) s2
/-- a slice's part -/
def evO (G : Gam) : CO → Env → Dice → Res (Option Int)
  | .non, _, s => .ok none s
  | .som e, ρ, s => (ev G e ρ s).bind fun x s1 => match x with
    | .int i => .ok (some i) s1
    | _ => .bad
/-- a comprehension's test -/
def evT (G : Gam) : CO → Env → Dice → Res D
  | .non, _, s => .ok (.bool true) s
  | .som e, ρ, s => ev G e ρ s
/-- what is walked -/
def evI (G : Gam) : CI → Env → Dice → Res (List D)
  | .rng a b, ρ, s => (ev G a ρ s).bind fun x s1 => (ev G b ρ s1).bind fun y s2 => match x, y with
    | .int i, .int j => if rngOk i j = true then .ok (rngD i (j - i).toNat) s2 else .bad
    | _, _ => .bad
  | .seq a, ρ, s => (ev G a ρ s).bind fun x s1 => match x with
    | .list xs => .ok xs s1
    | .tuple xs => .ok xs s1
    | .dict xs => .ok (xs.map (·.1)) s1
    | _ => .bad
  | .enm a, ρ, s => (ev G a ρ s).bind fun x s1 => match x with
    | .list xs => .ok (enmD 0 xs) s1
    | .tuple xs => .ok (enmD 0 xs) s1
    | _ => .bad
end

/-! ### statements -/
inductive Out where
  | nx (ρ : Env) (s : Dice)
  | ret (d : D) (s : Dice)
  | exc (c : Str) (s : Dice)
  | bad
def Out.bind (o : Out) (f : Env → Dice → Out) : Out :=
  match o with
  | .nx ρ s => f ρ s
  | o => o
@[simp] theorem obind_nx (ρ : Env) (s : Dice) (f : Env → Dice → Out) : (Out.nx ρ s).bind f = f ρ s := Eq.trans rfl rfl
@[simp] theorem obind_ret (d : D) (s : Dice) (f : Env → Dice → Out) : (Out.ret d s).bind f = .ret d s := Eq.trans rfl rfl
@[simp] theorem obind_exc (c : Str) (s : Dice) (f : Env → Dice → Out) : (Out.exc c s).bind f = .exc c s := Eq.trans rfl rfl
@[simp] theorem obind_bad (f : Env → Dice → Out) : (Out.bad).bind f = .bad := Eq.trans rfl rfl
def Res.out {α : Type} (r : Res α) (f : α → Dice → Out) : Out :=
  match r with
  | .ok a s => f a s
  | .exc c s => .exc c s
  | .bad => .bad
@[simp] theorem out_ok {α : Type} (a : α) (s : Dice) (f : α → Dice → Out) : (Res.ok a s).out f = f a s := Eq.trans rfl rfl
@[simp] theorem out_exc {α : Type} (c : Str) (s : Dice) (f : α → Dice → Out) : (Res.exc c s : Res α).out f = .exc c s := Eq.trans rfl rfl
@[simp] theorem out_bad {α : Type} (f : α → Dice → Out) : (Res.bad : Res α).out f = .bad := Eq.trans rfl rfl
def setS (ρ : Env) (i : Nat) (v : SV) : Option Env := if i < ρ.length then some (ρ.set i v) else none
def Out.opt (o : Option Env) (s : Dice) : Out :=
  match o with
  | some ρ => .nx ρ s
  | none => .bad
@[simp] theorem oopt_some (ρ : Env) (s : Dice) : Out.opt (some ρ) s = .nx ρ s := Eq.trans rfl rfl
@[simp] theorem oopt_none (s : Dice) : Out.opt none s = .bad := Eq.trans rfl rfl
/-- several slots at once (of a display) -/
def setSs : List Nat → List SV → Env → Option Env
  | [], [], ρ => some ρ
  | i :: r, v :: vs, ρ => (setS ρ i v).bind fun ρ' => setSs r vs ρ'
  | _, _, _ => none
def evP (G : Gam) : List (Nat × Bool) → CL → Env → Dice → Res (List SV)
  | [], .nil, _, s => .ok [] s
  | (_, false) :: os, .cons e r, ρ, s => (ev G e ρ s).bind fun d s1 => (evP G os r ρ s1).bind fun vs s2 => .ok (.val d :: vs) s2
  | (_, true) :: os, .cons e r, ρ, s => (ev G e ρ s).bind fun d s1 => match d with
    | .list ds => (evP G os r ρ s1).bind fun vs s2 => .ok (.own ds :: vs) s2
    | _ => .bad
  | _, _, _, _ => .bad
def forL (f : D → Env → Dice → Out) : List D → Env → Dice → Out
  | [], ρ, s => .nx ρ s
  | d :: r, ρ, s => (f d ρ s).bind fun ρ' s' => forL f r ρ' s'
def whlL (c : Env → Dice → Res D) (f : Env → Dice → Out) : Nat → Env → Dice → Out
  | 0, _, _ => .bad
  | n + 1, ρ, s => (c ρ s).out fun d s1 => match d with
    | .bool true => (f ρ s1).bind fun ρ' s' => whlL c f n ρ' s'
    | .bool false => .nx ρ s1
    | _ => .bad
def FUEL : Nat := 100000000

mutual
def xs (G : Gam) : CS → Env → Dice → Out
  | .stop, _, _ => .bad
  | .ex e, ρ, s => (ev G e ρ s).out fun _ s1 => .nx ρ s1
  | .asg i e, ρ, s => (ev G e ρ s).out fun d s1 => .opt (setS ρ i (.val d)) s1
  | .asgO i e, ρ, s => (ev G e ρ s).out fun d s1 => match d with
    | .list ds => .opt (setS ρ i (.own ds)) s1
    | _ => .bad
  | .unp p e, ρ, s => (ev G e ρ s).out fun d s1 => .opt (setP p d ρ) s1
  | .par is es, ρ, s => (evP G is es ρ s).out fun vs s1 => .opt (setSs (is.map (·.1)) vs ρ) s1
  | .app i e, ρ, s => match getO ρ i with
    | none => .bad
    | some _ => (ev G e ρ s).out fun d s1 => match getO ρ i with
      | some ds => if ds.length < sizeLine then .opt (setS ρ i (.own (ds ++ [d]))) s1 else .bad
      | none => .bad
  | .popS p i, ρ, s => match getO ρ i with
    | none => .bad
    | some ds => match ds.getLast? with
      | none => .bad
      | some d => (Out.opt (setS ρ i (.own ds.dropLast)) s).bind fun ρ1 s1 => .opt (setP p d ρ1) s1
  | .setI i k e, ρ, s => (ev G e ρ s).out fun d s1 => match getO ρ i with
    | none => .bad
    | some ds => (ev G k ρ s1).out fun x s2 => match x with
      | .int n => match ixN ds.length n with
        | none => .bad
        | some j => .opt (setS ρ i (.own (ds.set j d))) s2
      | _ => .bad
  | .dst i k e, ρ, s => (ev G e ρ s).out fun d s1 => match d with
    | .int v => if isDice ρ i = true then .nx ρ (dput k s1 v) else .bad
    | _ => .bad
  | .ifs c a b, ρ, s => (ev G c ρ s).out fun d s1 => match d with
    | .bool true => xb G a ρ s1
    | .bool false => xb G b ρ s1
    | _ => .bad
  | .fors p it b, ρ, s => (evI G it ρ s).out fun ds s1 => forL (fun d ρ s => (Out.opt (setP p d ρ) s).bind fun ρ' s' => xb G b ρ' s') ds ρ s1
  | .whl c b, ρ, s => whlL (fun ρ s => ev G c ρ s) (fun ρ s => xb G b ρ s) FUEL ρ s
  | .ret e, ρ, s => (ev G e ρ s).out fun d s1 => .ret d s1
  | .rai c, _, s => .exc c s
  | .frz i, ρ, s => match getO ρ i with
    | none => .nx ρ s
    | some ds => .opt (setS ρ i (.val (.list ds))) s
def xb (G : Gam) : CB → Env → Dice → Out
  | .nil, ρ, s => .nx ρ s
  | .cons c r, ρ, s => (xs G c ρ s).bind fun ρ' s' => xb G r ρ' s'
end
/-- a def: its arguments, the number of its slots, its body -/
def fnD (G : Gam) (n : Nat) (b : CB) (vs : List SV) (s : Dice) : Res D :=
  match xb G b (vs ++ List.replicate (n - vs.length) .no) s with
  | .nx _ s1 => .ok .none s1
  | .ret d s1 => .ok d s1
  | .exc c s1 => .exc c s1
  | .bad => .bad
end Co

/-! Core 2: data on the abstract heap, steps, the lifted readings. -/
namespace Co
open PySem PySem.Spec PyProof.Rows L2

/-! ### data on a part of the heap that never changes -/
def keyD : Key → D
  | .inl i => .int i
  | .inr x => .str x
mutual
inductive Rp (F : Hp) : V → D → Prop where
  | non : Rp F .non .none
  | bl (b : Bool) : Rp F (.bl b) (.bool b)
  | int (i : Int) : Rp F (.int i) (.int i)
  | str (x : Str) : Rp F (.str x) (.str x)
  | lst {a : Addr} {xs : List V} {ds : List D} (h : F a = some (.lst xs)) (r : RpA F xs ds) : Rp F (.ref a) (.list ds)
  | tup {a : Addr} {xs : List V} {ds : List D} (h : F a = some (.tup xs)) (r : RpA F xs ds) : Rp F (.ref a) (.tuple ds)
  | dct {a : Addr} {o : Obj} {kvs : List (Key × V)} {ds : List (D × D)} (h : F a = some (.frz o (.dK kvs))) (hk : kvs.map (fun p => keyD p.1) = ds.map (·.1)) (r : RpA F (kvs.map (·.2)) (ds.map (·.2))) : Rp F (.ref a) (.dict ds)
inductive RpA (F : Hp) : List V → List D → Prop where
  | nil : RpA F [] []
  | cons {v : V} {vs : List V} {d : D} {ds : List D} (h : Rp F v d) (r : RpA F vs ds) : RpA F (v :: vs) (d :: ds)
end
section
variable {F F' : Hp}
mutual
theorem Rp.mono (s : Same F F') : ∀ {d : D} {v : V}, Rp F v d → Rp F' v d
  | _, _, .non => .non
  | _, _, .bl _ => .bl _
  | _, _, .int _ => .int _
  | _, _, .str _ => .str _
  | _, _, .lst h r => .lst (s _ _ h) (RpA.mono s r)
  | _, _, .tup h r => .tup (s _ _ h) (RpA.mono s r)
  | _, _, .dct h k r => .dct (s _ _ h) k (RpA.mono s r)
theorem RpA.mono (s : Same F F') : ∀ {ds : List D} {vs : List V}, RpA F vs ds → RpA F' vs ds
  | _, _, .nil => .nil
  | _, _, .cons h r => .cons (Rp.mono s h) (RpA.mono s r)
end
theorem RpA.len : ∀ {ds : List D} {vs : List V}, RpA F vs ds → vs.length = ds.length
  | [], _, h => by cases h; rfl
  | d :: ds, _, h => by
    cases h with
    | cons h r => rw [List.length_cons, List.length_cons, RpA.len r]
theorem RpA.get : ∀ {ds : List D} {vs : List V} {i : Nat} {d : D}, RpA F vs ds → ds[i]? = some d → ∃ v, vs[i]? = some v ∧ Rp F v d
  | [], _, _, _, _, e => by simp at e
  | d :: ds, _, 0, _, h, e => by
    cases h with
    | cons h r => simp at e; subst e; exact ⟨_, rfl, h⟩
  | d :: ds, _, i + 1, _, h, e => by
    cases h with
    | cons h r =>
      obtain ⟨v, e1, r1⟩ := RpA.get (i := i) r (by simpa using e)
      exact ⟨v, by simpa using e1, r1⟩
theorem RpA.at : ∀ {ds : List D} {vs : List V} {i : Nat} {v : V}, RpA F vs ds → vs[i]? = some v → ∃ d, ds[i]? = some d ∧ Rp F v d
  | [], _, _, _, h, e => by cases h; simp at e
  | d :: ds, _, 0, _, h, e => by
    cases h with
    | cons h r => simp at e; subst e; exact ⟨_, rfl, h⟩
  | d :: ds, _, i + 1, _, h, e => by
    cases h with
    | cons h r =>
      obtain ⟨v, e1, r1⟩ := RpA.at (i := i) r (by simpa using e)
      exact ⟨v, by simpa using e1, r1⟩
theorem RpA.append : ∀ {ds es : List D} {vs ws : List V}, RpA F vs ds → RpA F ws es → RpA F (vs ++ ws) (ds ++ es)
  | [], _, _, _, h, k => by cases h; exact k
  | d :: ds, _, _, _, h, k => by
    cases h with
    | cons h r => exact .cons h (RpA.append r k)
theorem RpA.take : ∀ {ds : List D} {vs : List V} (n : Nat), RpA F vs ds → RpA F (vs.take n) (ds.take n)
  | [], _, n, h => by cases h; simp; exact .nil
  | d :: ds, _, 0, h => by simp; exact .nil
  | d :: ds, _, n + 1, h => by
    cases h with
    | cons h r => exact .cons h (RpA.take n r)
theorem RpA.drop : ∀ {ds : List D} {vs : List V} (n : Nat), RpA F vs ds → RpA F (vs.drop n) (ds.drop n)
  | [], _, n, h => by cases h; simp; exact .nil
  | d :: ds, _, 0, h => by simpa using h
  | d :: ds, _, n + 1, h => by
    cases h with
    | cons h r => simpa using RpA.drop n r
theorem RpA.set {v : V} {d : D} (k : Rp F v d) : ∀ {ds : List D} {vs : List V} (n : Nat), RpA F vs ds → RpA F (vs.set n v) (ds.set n d)
  | [], _, n, h => by cases h; exact .nil
  | _ :: ds, _, 0, h => by
    cases h with
    | cons h r => exact .cons k r
  | _ :: ds, _, n + 1, h => by
    cases h with
    | cons h r => exact .cons h (RpA.set k n r)
theorem RpA.dropLast : ∀ {ds : List D} {vs : List V}, RpA F vs ds → RpA F vs.dropLast ds.dropLast := fun {ds vs} h => by
  rw [List.dropLast_eq_take, List.dropLast_eq_take, h.len]
  exact h.take _
theorem RpA.rep {ds : List D} {vs : List V} (h : RpA F vs ds) : ∀ n : Nat, RpA F (List.replicate n vs).flatten (repD n ds)
  | 0 => by unfold repD; simp; exact .nil
  | n + 1 => by
    unfold repD
    rw [List.replicate_succ, List.replicate_succ, List.flatten_cons, List.flatten_cons]
    exact h.append (RpA.rep h n)
theorem RpA.ints : ∀ {ds : List D} {vs : List V} {ns : List Int}, RpA F vs ds → intsD ds = some ns → vs = ns.map V.int
  | [], _, _, h, e => by cases h; cases e; rfl
  | .int i :: ds, _, ns, h, e => by
    cases h with
    | cons h r =>
      cases h
      unfold intsD at e
      cases q : intsD ds with
      | none => rw [q] at e; cases e
      | some ms =>
        rw [q] at e
        cases e
        rw [List.map_cons, RpA.ints r q]
  | .none :: _, _, _, _, e => by cases e
  | .bool _ :: _, _, _, _, e => by cases e
  | .str _ :: _, _, _, _, e => by cases e
  | .list _ :: _, _, _, _, e => by cases e
  | .tuple _ :: _, _, _, _, e => by cases e
  | .dict _ :: _, _, _, _, e => by cases e
theorem RpA.bools : ∀ {ds : List D} {vs : List V} {ns : List Bool}, RpA F vs ds → boolsD ds = some ns → vs = ns.map V.bl
  | [], _, _, h, e => by cases h; cases e; rfl
  | .bool i :: ds, _, ns, h, e => by
    cases h with
    | cons h r =>
      cases h
      unfold boolsD at e
      cases q : boolsD ds with
      | none => rw [q] at e; cases e
      | some ms =>
        rw [q] at e
        cases e
        rw [List.map_cons, RpA.bools r q]
  | .none :: _, _, _, _, e => by cases e
  | .int _ :: _, _, _, _, e => by cases e
  | .str _ :: _, _, _, _, e => by cases e
  | .list _ :: _, _, _, _, e => by cases e
  | .tuple _ :: _, _, _, _, e => by cases e
  | .dict _ :: _, _, _, _, e => by cases e
mutual
theorem Rp.dp (K : PySem.W.Frag) : ∀ {d : D} {v : V}, noDict d = true → Rp F v d → Dp K F v d
  | .none, _, n, h => by cases h; exact .non
  | .bool _, _, n, h => by cases h; exact .bl _
  | .int _, _, n, h => by cases h; exact .int _
  | .str _, _, n, h => by cases h; exact .str _
  | .list ds, _, n, h => by
    cases h with
    | lst h r => exact .lst (.of h) (RpA.dp K n r)
  | .tuple ds, _, n, h => by
    cases h with
    | tup h r => exact .tup (.of h) (RpA.dp K n r)
  | .dict _, _, n, h => by cases n
theorem RpA.dp (K : PySem.W.Frag) : ∀ {ds : List D} {vs : List V}, noDicts ds = true → RpA F vs ds → DpAll K F vs ds
  | [], _, n, h => by cases h; exact .nil
  | d :: ds, _, n, h => by
    cases h with
    | cons h r =>
      have n' := Bool.and_eq_true_iff.mp (show (noDict d && noDicts ds) = true from n)
      exact .cons (Rp.dp K n'.1 h) (RpA.dp K n'.2 r)
end
end

/-! ### the heap without the dice -/
structure DT where
  d : Option Addr
/-- the tables of code objects that stand about, with their names -/
class TabT where
  ts : List (Addr × Str)
/-- no table of code objects -/
def NT : HO → Bool
  | .tbl _ => false
  | _ => true
def Hd (dc : DT) (H : Hp) : Hp := fun b => if dc.d = some b then none else match H b with
  | none => none
  | some o => match NT o with
    | true => some o
    | false => none
theorem Hd_some {dc : DT} {H : Hp} {b : Addr} {o : HO} (h : Hd dc H b = some o) : H b = some o ∧ dc.d ≠ some b ∧ NT o = true := by
  unfold Hd at h
  by_cases n : dc.d = some b
  · rw [if_pos n] at h; cases h
  · rw [if_neg n] at h
    cases q : H b with
    | none => rw [q] at h; cases h
    | some x =>
      rw [q] at h
      dsimp only at h
      cases z : NT x with
      | true => rw [z] at h; cases h; exact ⟨rfl, n, z⟩
      | false => rw [z] at h; cases h
theorem Hd_of {dc : DT} {H : Hp} {b : Addr} {o : HO} (h : H b = some o) (n : dc.d ≠ some b ∧ NT o = true) : Hd dc H b = some o := by
  unfold Hd
  rw [if_neg n.1, h]
  dsimp only
  rw [n.2]
/-- something stands there that is no table -/
def Vis (H : Hp) (b : Addr) : Prop := ∃ o, H b = some o ∧ NT o = true
theorem Vis.of {H : Hp} {b : Addr} {o : HO} (h : H b = some o) (n : NT o = true := by rfl) : Vis H b := ⟨o, h, n⟩
theorem Vis.no {H : Hp} {b : Addr} (h : H b = none) : ¬ Vis H b := fun ⟨o, e, _⟩ => by
  rw [h] at e
  cases e
theorem Vis.hd {dc : DT} {H : Hp} {b : Addr} {o : HO} (h : Hd dc H b = some o) : Vis H b := ⟨o, (Hd_some h).1, (Hd_some h).2.2⟩
open LamX in
theorem tabs_upd {T : List (Addr × Str)} {H : Hp} {p : Addr} {o : HO} (t : Tabs T H) (h : H p = none ∨ (∃ xs, H p = some (.lst xs)) ∨ ∃ xs, H p = some (.dK xs)) : Tabs T (upd H p o) := by
  have nt : ∀ {b : Addr} {ps : Array Value}, H b = some (.tbl ps) → b ≠ p := fun {b ps} e z => by
    rw [z] at e
    rcases h with h | ⟨xs, h⟩ | ⟨xs, h⟩ <;> rw [h] at e <;> cases e
  have nc : ∀ {b : Addr} {q : Str}, H b = some (CodeO b q) → b ≠ p := fun {b q} e z => by
    rw [z] at e
    unfold CodeO at e
    rcases h with h | ⟨xs, h⟩ | ⟨xs, h⟩ <;> rw [h] at e <;> cases e
  intro q hq
  obtain ⟨ps, h1, h2, h3⟩ := t q hq
  refine ⟨ps, by rw [upd_ne (nt h1)]; exact h1, h2, fun pos cv hc => ?_⟩
  obtain ⟨c, e1, e2⟩ := h3 pos cv hc
  exact ⟨c, e1, by rw [upd_ne (nc e2)]; exact e2⟩
/-- how the dice lie -/
def DiOk (dc : DT) (H : Hp) (s : Dice) : Prop := ∀ a, dc.d = some a → H a = some (.lst [.int s.1, .int s.2])
variable [TabT]
structure Ok (dc : DT) (F H : Hp) (s : Dice) : Prop where
  fh : Same F (Hd dc H)
  di : DiOk dc H s
  tb : LamX.Tabs TabT.ts H
structure Step (dc : DT) (F H F' H' : Hp) (s' : Dice) : Prop where
  ff : Same F F'
  hh : Same (Hd dc H) (Hd dc H')
  cap : ∀ b, F b = none → Vis H b → F' b = none
  ok : Ok dc F' H' s'
theorem Step.refl {dc : DT} {F H : Hp} {s : Dice} (o : Ok dc F H s) : Step dc F H F H s := ⟨Same.refl _, Same.refl _, fun _ h _ => h, o⟩
theorem Ok.ne {dc : DT} {F H : Hp} {s : Dice} (o : Ok dc F H s) {b : Addr} {x : HO} (h : F b = some x) : H b ≠ none := fun e => by
  have := (Hd_some (o.fh _ _ h)).1
  rw [e] at this
  cases this
theorem Step.there {dc : DT} {F H F' H' F1 H1 : Hp} {s s' : Dice} (o : Ok dc F1 H1 s) (t : Step dc F H F' H' s') {b : Addr} (h : Vis H b) : Vis H' b := by
  by_cases hb : dc.d = some b
  · exact .of (t.ok.di b hb)
  · obtain ⟨x, q, n⟩ := h
    exact .hd (t.hh _ _ (Hd_of q ⟨hb, n⟩))
theorem Step.trans {dc : DT} {F H F1 H1 F2 H2 : Hp} {s s1 s2 : Dice} (o : Ok dc F H s) (a : Step dc F H F1 H1 s1) (b : Step dc F1 H1 F2 H2 s2) : Step dc F H F2 H2 s2 :=
  ⟨a.ff.trans b.ff, a.hh.trans b.hh, fun c h1 h2 => b.cap c (a.cap c h1 h2) (a.there o h2), b.ok⟩
theorem ne_upd {H : Hp} {b p : Addr} {o : HO} (h : H b ≠ none) (hp : H p = none) : upd H p o b = H b := upd_ne fun e => h (by rw [e]; exact hp)
/-- a new object is laid; it is known from now on -/
theorem Step.new {dc : DT} {F H : Hp} {s : Dice} (o : Ok dc F H s) {p : Addr} {x : HO} (hp : H p = none) (nt : NT x = true := by rfl) : Step dc F H (upd F p x) (upd H p x) s := by
  have fp : F p = none := by
    cases q : F p with
    | none => rfl
    | some y => exact absurd hp (o.ne q)
  have np : dc.d ≠ some p := fun e => by
    have := o.di p e
    rw [hp] at this
    cases this
  refine ⟨fun b y h => ?_, fun b y h => ?_, fun b h1 h2 => ?_, ⟨fun b y h => ?_, fun a e => ?_, tabs_upd o.tb (.inl hp)⟩⟩
  · rw [ne_upd (by rw [h]; simp) fp]; exact h
  · obtain ⟨h, n⟩ := Hd_some h
    exact Hd_of (by rw [ne_upd (by rw [h]; simp) hp]; exact h) n
  · have nb : b ≠ p := fun e => Vis.no hp (by rw [← e]; exact h2)
    rw [upd_ne nb]; exact h1
  · by_cases hb : b = p
    · subst hb
      rw [upd_same] at h
      cases h
      exact Hd_of upd_same ⟨np, nt⟩
    · rw [upd_ne hb] at h
      obtain ⟨h1, n⟩ := Hd_some (o.fh _ _ h)
      exact Hd_of (by rw [upd_ne hb]; exact h1) n
  · have h := o.di a e
    rw [ne_upd (by rw [h]; simp) hp]; exact h
/-- a new object is laid; nothing more is said of it -/
theorem Step.lay {dc : DT} {F H : Hp} {s : Dice} (o : Ok dc F H s) {p : Addr} {x : HO} (hp : H p = none) : Step dc F H F (upd H p x) s := by
  have np : dc.d ≠ some p := fun e => by
    have := o.di p e
    rw [hp] at this
    cases this
  refine ⟨Same.refl _, fun b y h => ?_, fun b h1 _ => h1, ⟨fun b y h => ?_, fun a e => ?_, tabs_upd o.tb (.inl hp)⟩⟩
  · obtain ⟨h, n⟩ := Hd_some h
    exact Hd_of (by rw [ne_upd (by rw [h]; simp) hp]; exact h) n
  · obtain ⟨h1, n⟩ := Hd_some (o.fh _ _ h)
    exact Hd_of (by rw [ne_upd (by rw [h1]; simp) hp]; exact h1) n
  · have h := o.di a e
    rw [ne_upd (by rw [h]; simp) hp]; exact h
/-- a list that stands in the heap is known from now on -/
theorem Step.freeze {dc : DT} {F H F' H' : Hp} {s' : Dice} (t : Step dc F H F' H' s') {p : Addr} {xs : List V} (fp : F' p = none) (hp : ¬ Vis H p) (h : Hd dc H' p = some (.lst xs)) : Step dc F H (upd F' p (.lst xs)) H' s' := by
  refine ⟨fun b y e => ?_, t.hh, fun b h1 h2 => ?_, ⟨fun b y e => ?_, t.ok.di, t.ok.tb⟩⟩
  · have e' := t.ff _ _ e
    rw [ne_upd (by rw [e']; simp) fp]; exact e'
  · have nb : b ≠ p := fun e => hp (by rw [← e]; exact h2)
    rw [upd_ne nb]; exact t.cap b h1 h2
  · by_cases hb : b = p
    · subst hb
      rw [upd_same] at e
      cases e
      exact h
    · rw [upd_ne hb] at e
      exact t.ok.fh _ _ e
theorem same_upd_none {F : Hp} {p : Addr} {o : HO} (h : F p = none) : Same F (upd F p o) := fun b x e => by
  rw [ne_upd (by rw [e]; simp) h]; exact e

/-- a value that is data, or a list as it stands whose items are data -/
def Rb (dc : DT) (F H : Hp) (v : V) (d : D) : Prop := Rp F v d ∨ ∃ a xs ds, v = .ref a ∧ d = .list ds ∧ Hd dc H a = some (.lst xs) ∧ RpA F xs ds
theorem Rb.step {dc : DT} {F H F' H' : Hp} {s' : Dice} {v : V} {d : D} (t : Step dc F H F' H' s') (r : Rb dc F H v d) : Rb dc F' H' v d := by
  rcases r with r | ⟨a, xs, ds, e1, e2, h, r⟩
  · exact .inl (r.mono t.ff)
  · exact .inr ⟨a, xs, ds, e1, e2, t.hh _ _ h, r.mono t.ff⟩
theorem Rb.rp {dc : DT} {F H : Hp} {s : Dice} {v : V} {d : D} (o : Ok dc F H s) (r : Rb dc F H v d) : Rp (Hd dc H) v d := by
  rcases r with r | ⟨a, xs, ds, e1, e2, h, r⟩
  · exact r.mono o.fh
  · subst e1 e2
    exact .lst h (r.mono o.fh)
theorem hd_same (dc : DT) (H : Hp) : Same (Hd dc H) H := fun b o h => (Hd_some h).1
theorem Rb.rpH {dc : DT} {F H : Hp} {s : Dice} {v : V} {d : D} (o : Ok dc F H s) (r : Rb dc F H v d) : Rp H v d := (r.rp o).mono (hd_same dc H)
/-- a list: where it stands, its items -/
theorem Rb.list {dc : DT} {F H : Hp} {s : Dice} {v : V} {ds : List D} (o : Ok dc F H s) (r : Rb dc F H v (.list ds)) : ∃ a xs, v = .ref a ∧ Hd dc H a = some (.lst xs) ∧ H a = some (.lst xs) ∧ RpA F xs ds := by
  rcases r with r | ⟨a, xs, ds', e1, e2, h, r⟩
  · cases r with
    | lst h r =>
      have k := o.fh _ _ h
      exact ⟨_, _, rfl, k, (Hd_some k).1, r⟩
  · cases e2
    exact ⟨a, xs, e1, h, (Hd_some h).1, r⟩
theorem Rb.tuple {dc : DT} {F H : Hp} {s : Dice} {v : V} {ds : List D} (o : Ok dc F H s) (r : Rb dc F H v (.tuple ds)) : ∃ a xs, v = .ref a ∧ F a = some (.tup xs) ∧ H a = some (.tup xs) ∧ RpA F xs ds := by
  rcases r with r | ⟨a, xs, ds', e1, e2, h, r⟩
  · cases r with
    | tup h r =>
      have k := o.fh _ _ h
      exact ⟨_, _, rfl, h, (Hd_some k).1, r⟩
  · cases e2
theorem Rb.int {dc : DT} {F H : Hp} {v : V} {i : Int} (r : Rb dc F H v (.int i)) : v = .int i := by
  rcases r with r | ⟨a, xs, ds', e1, e2, h, r⟩
  · cases r; rfl
  · cases e2
theorem Rb.bl {dc : DT} {F H : Hp} {v : V} {i : Bool} (r : Rb dc F H v (.bool i)) : v = .bl i := by
  rcases r with r | ⟨a, xs, ds', e1, e2, h, r⟩
  · cases r; rfl
  · cases e2
theorem Rb.str {dc : DT} {F H : Hp} {v : V} {i : Str} (r : Rb dc F H v (.str i)) : v = .str i := by
  rcases r with r | ⟨a, xs, ds', e1, e2, h, r⟩
  · cases r; rfl
  · cases e2
theorem Rp.int' {F : Hp} {v : V} {i : Int} (r : Rp F v (.int i)) : v = .int i := by cases r; rfl
theorem Rp.bl' {F : Hp} {v : V} {i : Bool} (r : Rp F v (.bool i)) : v = .bl i := by cases r; rfl

/-! ### what is wanted behind an expression -/
/-- W: what is wanted of an exception, by its class's name -/
abbrev WS := Str → Hp → Prop
def Post (dc : DT) (W : WS) (F H : Hp) (r : Res D) (Q : VK) : Prop :=
  match r with
  | .ok d s' => ∀ v F' H', Step dc F H F' H' s' → Rp F' v d → Q v H'
  | .exc c s' => ∀ F' H', Step dc F H F' H' s' → W c H'
  | .bad => False
def PostB (dc : DT) (W : WS) (F H : Hp) (r : Res D) (Q : VK) : Prop :=
  match r with
  | .ok d s' => ∀ v F' H', Step dc F H F' H' s' → Rb dc F' H' v d → Q v H'
  | .exc c s' => ∀ F' H', Step dc F H F' H' s' → W c H'
  | .bad => False
/-- a list that comes is new, and nothing else knows it -/
def PostF (dc : DT) (W : WS) (F H : Hp) (r : Res D) (Q : VK) : Prop :=
  match r with
  | .ok d s' => (∀ v F' H', Step dc F H F' H' s' → Rp F' v d → (∀ ds, d ≠ .list ds) → Q v H') ∧
      ∀ ds, d = .list ds → ∀ p xs F' H', Step dc F H F' H' s' → F' p = none → ¬ Vis H p → Hd dc H' p = some (.lst xs) → RpA F' xs ds → Q (.ref p) H'
  | .exc c s' => ∀ F' H', Step dc F H F' H' s' → W c H'
  | .bad => False
theorem Post.toF {dc : DT} {W : WS} {F H : Hp} {r : Res D} {Q : VK} (h : Post dc W F H r Q) : PostF dc W F H r Q := by
  cases r with
  | ok d s' =>
    refine ⟨fun v F' H' t r _ => h v F' H' t r, fun ds e p xs F' H' t fp hp hH r => ?_⟩
    subst e
    exact h _ (upd F' p (.lst xs)) H' (t.freeze fp hp hH) (.lst upd_same (r.mono (same_upd_none fp)))
  | exc c s' => exact h
  | bad => exact h
theorem Post.ofB {dc : DT} {W : WS} {F H : Hp} {r : Res D} {Q : VK} (h : PostB dc W F H r Q) : Post dc W F H r Q := by
  cases r with
  | ok d s' => exact fun v F' H' t r => h v F' H' t (.inl r)
  | exc c s' => exact h
  | bad => exact h
theorem Post.step {dc : DT} {W : WS} {F H F1 H1 : Hp} {s s1 : Dice} {r : Res D} {Q : VK} (o : Ok dc F H s) (t : Step dc F H F1 H1 s1) (h : Post dc W F H r Q) : Post dc W F1 H1 r Q := by
  cases r with
  | ok d s' => exact fun v F' H' t' r => h v F' H' (t.trans o t') r
  | exc c s' => exact fun F' H' t' => h F' H' (t.trans o t')
  | bad => exact h
theorem PostB.step {dc : DT} {W : WS} {F H F1 H1 : Hp} {s s1 : Dice} {r : Res D} {Q : VK} (o : Ok dc F H s) (t : Step dc F H F1 H1 s1) (h : PostB dc W F H r Q) : PostB dc W F1 H1 r Q := by
  cases r with
  | ok d s' => exact fun v F' H' t' r => h v F' H' (t.trans o t') r
  | exc c s' => exact fun F' H' t' => h F' H' (t.trans o t')
  | bad => exact h
theorem PostF.step {dc : DT} {W : WS} {F H F1 H1 : Hp} {s s1 : Dice} {r : Res D} {Q : VK} (o : Ok dc F H s) (t : Step dc F H F1 H1 s1) (h : PostF dc W F H r Q) : PostF dc W F1 H1 r Q := by
  cases r with
  | ok d s' =>
    refine ⟨fun v F' H' t' r n => h.1 v F' H' (t.trans o t') r n, fun ds e p xs F' H' t' fp hp hH r => h.2 ds e p xs F' H' (t.trans o t') fp ?_ hH r⟩
    exact fun q => hp (t.there o q)
  | exc c s' => exact fun F' H' t' => h F' H' (t.trans o t')
  | bad => exact h
/-- ends -/
theorem PostF.flat {dc : DT} {W : WS} {F H : Hp} {s : Dice} {d : D} {Q : VK} {v : V} (o : Ok dc F H s) (h : PostF dc W F H (.ok d s) Q) (n : ∀ ds, d ≠ .list ds) (r : Rp F v d) : Q v H := h.1 v F H (Step.refl o) r n
theorem PostF.newList {dc : DT} {W : WS} {F H : Hp} {s : Dice} {ds : List D} {Q : VK} {p : Addr} {xs : List V} (o : Ok dc F H s) (h : PostF dc W F H (.ok (.list ds) s) Q) (hp : H p = none) (r : RpA F xs ds) : Q (.ref p) (upd H p (.lst xs)) := by
  have fp : F p = none := by
    cases q : F p with
    | none => rfl
    | some y => exact absurd hp (o.ne q)
  have np : dc.d ≠ some p := fun e => by
    have := o.di p e
    rw [hp] at this
    cases this
  exact h.2 ds rfl p xs F _ (Step.lay o hp) fp (Vis.no hp) (Hd_of upd_same ⟨np, rfl⟩) r
theorem PostF.newTup {dc : DT} {W : WS} {F H : Hp} {s : Dice} {ds : List D} {Q : VK} {p : Addr} {xs : List V} (o : Ok dc F H s) (h : PostF dc W F H (.ok (.tuple ds) s) Q) (hp : H p = none) (r : RpA F xs ds) : Q (.ref p) (upd H p (.tup xs)) := by
  have fp : F p = none := by
    cases q : F p with
    | none => rfl
    | some y => exact absurd hp (o.ne q)
  exact h.1 (.ref p) (upd F p (.tup xs)) _ (Step.new o hp) (.tup upd_same (r.mono (same_upd_none fp))) (fun _ e => by cases e)
theorem Post.flat {dc : DT} {W : WS} {F H : Hp} {s : Dice} {d : D} {Q : VK} {v : V} (o : Ok dc F H s) (h : Post dc W F H (.ok d s) Q) (r : Rp F v d) : Q v H := h v F H (Step.refl o) r

/-! ### a frame's slots -/
structure Base where
  F0 : Hp
  H0 : Hp
  dc : DT
structure Rel (B : Base) (F : Hp) (σ : L2.St) (ρ : Env) (H : Hp) (s : Dice) : Prop where
  len : σ.length = ρ.length
  bf : Same B.F0 F
  bh : Same (Hd B.dc B.H0) (Hd B.dc H)
  bc : ∀ b, B.F0 b = none → Vis B.H0 b → F b = none
  ok : Ok B.dc F H s
  sv : ∀ (i : Nat) d, ρ[i]? = some (.val d) → ∃ v, σ[i]? = some (some v) ∧ Rp F v d
  sd : ∀ (i : Nat), ρ[i]? = some .dice → ∃ a, B.dc.d = some a ∧ σ[i]? = some (some (.ref a))
  so : ∀ (i : Nat) ds, ρ[i]? = some (.own ds) → ∃ a xs, σ[i]? = some (some (.ref a)) ∧ Hd B.dc H a = some (.lst xs) ∧ F a = none ∧ ¬ Vis B.H0 a ∧ RpA F xs ds
  sx : ∀ (i j : Nat) ds es a, ρ[i]? = some (.own ds) → ρ[j]? = some (.own es) → σ[i]? = some (some (.ref a)) → σ[j]? = some (some (.ref a)) → i = j
theorem Rel.base {B : Base} {F : Hp} {σ : L2.St} {ρ : Env} {H : Hp} {s : Dice} (R : Rel B F σ ρ H s) : Step B.dc B.F0 B.H0 F H s := ⟨R.bf, R.bh, R.bc, R.ok⟩
theorem Rel.step {B : Base} {F : Hp} {σ : L2.St} {ρ : Env} {H : Hp} {s : Dice} {F' H' : Hp} {s' : Dice} (R : Rel B F σ ρ H s) (t : Step B.dc F H F' H' s') : Rel B F' σ ρ H' s' := by
  refine ⟨R.len, R.bf.trans t.ff, R.bh.trans t.hh, fun b h1 h2 => t.cap b (R.bc b h1 h2) ?_, t.ok, fun i d e => ?_, R.sd, fun i ds e => ?_, R.sx⟩
  · exact R.base.there R.ok h2
  · obtain ⟨v, e1, r⟩ := R.sv i d e
    exact ⟨v, e1, r.mono t.ff⟩
  · obtain ⟨a, xs, e1, h, fa, ha, r⟩ := R.so i ds e
    exact ⟨a, xs, e1, t.hh _ _ h, t.cap a fa (.hd h), ha, r.mono t.ff⟩

/-! ### the lifted readings -/
def tM (W : WS) (m : Env → Dice → Res D) : TE := fun σ H Q => ∃ B F ρ s, Rel B F σ ρ H s ∧ Post B.dc W F H (m ρ s) Q
def tB (W : WS) (m : Env → Dice → Res D) : TE := fun σ H Q => ∃ B F ρ s, Rel B F σ ρ H s ∧ PostB B.dc W F H (m ρ s) Q
def tF (W : WS) (m : Env → Dice → Res D) : TE := fun σ H Q => ∃ B F ρ s, Rel B F σ ρ H s ∧ PostF B.dc W F H (m ρ s) Q
def PostT (dc : DT) (W : WS) (F H : Hp) (r : Res D) (Q : Bool → Hp → Prop) : Prop :=
  match r with
  | .ok d s' => match d with
    | .bool b => ∀ F' H', Step dc F H F' H' s' → Q b H'
    | _ => False
  | .exc c s' => ∀ F' H', Step dc F H F' H' s' → W c H'
  | .bad => False
def tT (W : WS) (m : Env → Dice → Res D) : TT := fun σ H Q => ∃ B F ρ s, Rel B F σ ρ H s ∧ PostT B.dc W F H (m ρ s) Q
section
variable {X : Cx} {e : Expr} {W : WS} {m : Env → Dice → Res D}
theorem PEimp {t t' : TE} (h : PE X e t) (i : ∀ σ H Q, t' σ H Q → t σ H Q) : PE X e t' := ⟨fun pins s σ H Q I q => h.run pins s σ H Q I (i σ H Q q)⟩
theorem PTimp {t t' : TT} (h : PT X e t) (i : ∀ σ H Q, t' σ H Q → t σ H Q) : PT X e t' := ⟨fun pins s σ H Q I q => h.run pins s σ H Q I (i σ H Q q)⟩
theorem PWimp {t t' : TT} (h : PW X e t) (i : ∀ σ H Q, t' σ H Q → t σ H Q) : PW X e t' := ⟨fun w pins s σ H Q I q => h.run w pins s σ H Q I (i σ H Q q)⟩
theorem PSimp {st : Stmt} {t t' : TS} (h : PS X st t) (i : ∀ D σ H, t' D σ H → t D σ H) : PS X st t' := ⟨fun pins s σ H D I q => h.run pins s σ H D I (i D σ H q)⟩
theorem PSsimp {st : List Stmt} {t t' : TS} (h : PSs X st t) (i : ∀ D σ H, t' D σ H → t D σ H) : PSs X st t' := ⟨fun pins s σ H D I q => h.run pins s σ H D I (i D σ H q)⟩
theorem toM (h : PE X e (tF W m)) : PE X e (tM W m) := PEimp h fun σ H Q ⟨B, F, ρ, s, R, q⟩ => ⟨B, F, ρ, s, R, q.toF⟩
theorem toB (h : PE X e (tM W m)) : PE X e (tB W m) := PEimp h fun σ H Q ⟨B, F, ρ, s, R, q⟩ => ⟨B, F, ρ, s, R, Post.ofB q⟩
end
end Co

/-! Core 3: the operators lifted. -/
namespace Co
open PySem PySem.Spec PyProof.Rows L2
variable [TabT]
section
variable {X : Cx} {W : WS} {a b : Expr} {ma mb : Env → Dice → Res D} {pos : Pos}

/-- a two-place operation on data -/
def rF (W : WS) (f : D → D → Option D) : R2 := fun x y H Q => ∃ dc F s d e, Ok dc F H s ∧ Rb dc F H x d ∧ Rb dc F H y e ∧ PostF dc W F H (.opt (f d e) s) Q
def b2 (f : D → D → Option D) (ma mb : Env → Dice → Res D) : Env → Dice → Res D := fun ρ s => (ma ρ s).bind fun x s1 => (mb ρ s1).bind fun y s2 => .opt (f x y) s2
theorem tF_b2 {f : D → D → Option D} {σ : L2.St} {H : Hp} {Q : VK} (h : tF W (b2 f ma mb) σ H Q) : tOp (rF W f) (tB W ma) (tB W mb) σ H Q := by
  obtain ⟨B, F, ρ, s, R, q⟩ := h
  refine ⟨B, F, ρ, s, R, ?_⟩
  unfold b2 at q
  cases h1 : ma ρ s with
  | bad => rw [h1] at q; exact q
  | exc c s1 => rw [h1] at q; exact q
  | ok d s1 =>
    rw [h1] at q
    intro v1 F1 H1 t1 r1
    refine ⟨B, F1, ρ, s1, R.step t1, ?_⟩
    simp only [bind_ok] at q
    cases h2 : mb ρ s1 with
    | bad => rw [h2] at q; exact q
    | exc c s2 => rw [h2] at q; exact fun F' H' t' => q F' H' (t1.trans R.ok t')
    | ok e s2 =>
      rw [h2] at q
      intro v2 F2 H2 t2 r2
      exact ⟨B.dc, F2, s2, d, e, t2.ok, r1.step t2, r2, PostF.step R.ok (t1.trans R.ok t2) q⟩
theorem de_bin {op : Operator} {f : D → D → Option D} (ho : OpR X (binaryOp op) (rF W f)) (ha : PE X a (tB W ma)) (hb : PE X b (tB W mb)) : PE X (.BinOp a op b pos) (tF W (b2 f ma mb)) :=
  PEimp (pe_op ho ha hb) fun _ _ _ h => tF_b2 h
theorem de_cmp {op : CmpOp} {f : D → D → Option D} (ho : OpR X (compareOp op) (rF W f)) (ha : PE X a (tB W ma)) (hb : PE X b (tB W mb)) (hm : behindInMarks op b = false) : PE X (.Compare a [op] [b] pos) (tF W (b2 f ma mb)) :=
  PEimp (pe_cmpR ho ha hb hm) fun _ _ _ h => tF_b2 h


theorem op_addD : OpR X (binaryOp .Add) (rF W (binD .add)) := by
  rintro pins s σ H x y v u Q I rx ry ⟨dc, F, st, d, e, o, rd, re, q⟩
  cases d <;> cases e <;> first
    | exact False.elim q
    | skip
  case int.int i j =>
    exact op_add pins s σ H x y v u Q I rx ry ⟨i, j, rd.int, re.int, q.flat o (fun _ e => by cases e) (.int _)⟩
  case str.str i j =>
    by_cases h : i.length + j.length ≤ sizeLine
    · simp only [binD, if_pos h] at q
      exact op_add_str pins s σ H x y v u Q I rx ry ⟨i, j, rd.str, re.str, h, q.flat o (fun _ e => by cases e) (.str _)⟩
    · simp only [binD, if_neg h] at q
      exact False.elim q
  case list.list xs ys =>
    by_cases h : xs.length + ys.length ≤ sizeLine
    · simp only [binD, if_pos h] at q
      obtain ⟨p1, vs1, rfl, _, h1, r1⟩ := rd.list o
      obtain ⟨p2, vs2, rfl, _, h2, r2⟩ := re.list o
      exact op_cat pins s σ H _ _ v u Q I rx ry ⟨p1, p2, vs1, vs2, rfl, rfl, h1, h2, by rw [r1.len, r2.len]; exact h, fun p hp => q.newList o hp (r1.append r2)⟩
    · simp only [binD, if_neg h] at q
      exact False.elim q
  case tuple.tuple xs ys =>
    by_cases h : xs.length + ys.length ≤ sizeLine
    · simp only [binD, if_pos h] at q
      obtain ⟨p1, vs1, rfl, f1, h1, r1⟩ := rd.tuple o
      obtain ⟨p2, vs2, rfl, f2, h2, r2⟩ := re.tuple o
      refine op_catA pins s σ H _ _ v u Q I rx ry ⟨p1, p2, vs1, vs2, rfl, rfl, .of h1, .of h2, by rw [r1.len, r2.len]; exact h, fun e => ?_, fun _ e => ?_, fun _ _ p hp => q.newTup o hp (r1.append r2)⟩
      · subst e
        cases r1
        exact q.flat o (fun _ e => by cases e) (.tup f2 r2)
      · subst e
        cases r2
        exact q.flat o (fun _ e => by cases e) (by rw [List.append_nil]; exact .tup f1 r1)
    · simp only [binD, if_neg h] at q
      exact False.elim q
theorem op_subD : OpR X (binaryOp .Sub) (rF W (binD .sub)) := by
  rintro pins s σ H x y v u Q I rx ry ⟨dc, F, st, d, e, o, rd, re, q⟩
  cases d <;> cases e <;> first
    | exact False.elim q
    | skip
  case int.int i j =>
    exact op_sub pins s σ H x y v u Q I rx ry ⟨i, j, rd.int, re.int, q.flat o (fun _ e => by cases e) (.int _)⟩
theorem nat_log2_lt {n k : Nat} (h : n < 2 ^ k) (hk : 0 < k) : n.log2 < k := by
  by_cases h0 : n = 0
  · subst h0
    simpa using hk
  · exact (Nat.log2_lt h0).mpr h
theorem natAbs_bounds {i : Int} (h : i.natAbs < 2 ^ 64) : -(2 ^ 64) < i ∧ i < 2 ^ 64 := by
  have e : (2 : Nat) ^ 64 = 18446744073709551616 := by decide
  have e2 : (2 : Int) ^ 64 = 18446744073709551616 := by decide
  rw [e] at h
  rw [e2]
  omega
theorem op_mulI (i j : Int) (h : mulOk i j = true) : OpR X (binaryOp .Mult) (fun x y H Q => x = .int i ∧ y = .int j ∧ Q (.int (i * j)) H) := by
  rintro pins s σ H x y v u Q I rx ry ⟨rfl, rfl, q⟩
  unfold mulOk at h
  rw [Bool.or_eq_true, Bool.or_eq_true, Bool.and_eq_true, decide_eq_true_eq, decide_eq_true_eq, decide_eq_true_eq, decide_eq_true_eq] at h
  rcases h with (h | h) | ⟨h1, h2⟩
  · exact op_mul pins s σ H _ _ v u Q I rx ry ⟨i, j, rfl, rfl, .inl (natAbs_bounds h), q⟩
  · exact op_mul pins s σ H _ _ v u Q I rx ry ⟨i, j, rfl, rfl, .inr (natAbs_bounds h), q⟩
  · refine op_mulW pins s σ H _ _ v u Q I rx ry ⟨i, j, rfl, rfl, ?_, q⟩
    have a1 := nat_log2_lt h1 (by decide)
    have a2 := nat_log2_lt h2 (by decide)
    unfold CMulW
    omega
theorem op_fdivD : OpR X (binaryOp .FloorDiv) (rF W (binD .fdiv)) := by
  rintro pins s σ H x y v u Q I rx ry ⟨dc, F, st, d, e, o, rd, re, q⟩
  cases d <;> cases e <;> first
    | exact False.elim q
    | skip
  case int.int i j =>
    by_cases h : 0 < j ∧ j.natAbs < 2 ^ 4000
    · simp only [binD, if_pos h] at q
      refine op_fdivW pins s σ H x y v u Q I rx ry ⟨i, j, rd.int, re.int, ⟨h.1, ?_⟩, q.flat o (fun _ e => by cases e) (.int _)⟩
      have a := nat_log2_lt h.2 (by decide)
      omega
    · simp only [binD, if_neg h] at q
      exact False.elim q
theorem op_modD : OpR X (binaryOp .Mod) (rF W (binD .mod)) := by
  rintro pins s σ H x y v u Q I rx ry ⟨dc, F, st, d, e, o, rd, re, q⟩
  cases d <;> cases e <;> first
    | exact False.elim q
    | skip
  case int.int i j =>
    by_cases h : 0 < j
    · simp only [binD, if_pos h] at q
      exact op_mod pins s σ H x y v u Q I rx ry ⟨i, j, rd.int, re.int, h, q.flat o (fun _ e => by cases e) (.int _)⟩
    · simp only [binD, if_neg h] at q
      exact False.elim q
theorem op_powD : OpR X (binaryOp .Pow) (rF W (binD .pow)) := by
  rintro pins s σ H x y v u Q I rx ry ⟨dc, F, st, d, e, o, rd, re, q⟩
  cases d <;> cases e <;> first
    | exact False.elim q
    | skip
  case int.int i j =>
    by_cases h : 0 ≤ j ∧ j ≤ 1000000 ∧ i.natAbs < 2 ^ 64
    · simp only [binD, if_pos h] at q
      exact op_pow pins s σ H x y v u Q I rx ry ⟨i, j, rd.int, re.int, h, q.flat o (fun _ e => by cases e) (.int _)⟩
    · simp only [binD, if_neg h] at q
      exact False.elim q
/-! ### comparisons -/
theorem op_eqDD (hu : X.A.units + 64 < cLine) : OpR X (compareOp .Eq) (rF W fun x y => (cmpD .eq x y).map .bool) := by
  rintro pins s σ H x y v u Q I rx ry ⟨dc, F, st, d, e, o, rd, re, q⟩
  simp only [cmpD, eqD] at q
  by_cases h : (SeqAt.shaped d = true ∧ noDict d = true) ∧ SeqAt.shaped e = true ∧ noDict e = true
  · rw [if_pos h] at q
    exact op_eqD hu pins s σ H x y v u Q I rx ry ⟨d, e, (rd.rpH o).dp _ h.1.2, (re.rpH o).dp _ h.2.2, h.1.1, h.2.1, q.flat o (fun _ e => by cases e) (.bl _)⟩
  · rw [if_neg h] at q
    exact False.elim q
theorem op_neDD (hu : X.A.units + 64 < cLine) : OpR X (compareOp .NotEq) (rF W fun x y => (cmpD .ne x y).map .bool) := by
  rintro pins s σ H x y v u Q I rx ry ⟨dc, F, st, d, e, o, rd, re, q⟩
  simp only [cmpD, eqD] at q
  by_cases h : (SeqAt.shaped d = true ∧ noDict d = true) ∧ SeqAt.shaped e = true ∧ noDict e = true
  · rw [if_pos h] at q
    exact op_neD hu pins s σ H x y v u Q I rx ry ⟨d, e, (rd.rpH o).dp _ h.1.2, (re.rpH o).dp _ h.2.2, h.1.1, h.2.1, q.flat o (fun _ e => by cases e) (.bl _)⟩
  · rw [if_neg h] at q
    exact False.elim q
theorem op_ltD : OpR X (compareOp .Lt) (rF W fun x y => (cmpD .lt x y).map .bool) := by
  rintro pins s σ H x y v u Q I rx ry ⟨dc, F, st, d, e, o, rd, re, q⟩
  cases d <;> cases e <;> first
    | exact False.elim q
    | exact op_lt pins s σ H x y v u Q I rx ry ⟨_, _, rd.int, re.int, q.flat o (fun _ e => by cases e) (.bl _)⟩
theorem op_leD : OpR X (compareOp .LtE) (rF W fun x y => (cmpD .le x y).map .bool) := by
  rintro pins s σ H x y v u Q I rx ry ⟨dc, F, st, d, e, o, rd, re, q⟩
  cases d <;> cases e <;> first
    | exact False.elim q
    | exact op_le pins s σ H x y v u Q I rx ry ⟨_, _, rd.int, re.int, q.flat o (fun _ e => by cases e) (.bl _)⟩
theorem op_gtD : OpR X (compareOp .Gt) (rF W fun x y => (cmpD .gt x y).map .bool) := by
  rintro pins s σ H x y v u Q I rx ry ⟨dc, F, st, d, e, o, rd, re, q⟩
  cases d <;> cases e <;> first
    | exact False.elim q
    | exact op_gt pins s σ H x y v u Q I rx ry ⟨_, _, rd.int, re.int, q.flat o (fun _ e => by cases e) (.bl _)⟩
theorem op_geD : OpR X (compareOp .GtE) (rF W fun x y => (cmpD .ge x y).map .bool) := by
  rintro pins s σ H x y v u Q I rx ry ⟨dc, F, st, d, e, o, rd, re, q⟩
  cases d <;> cases e <;> first
    | exact False.elim q
    | exact op_ge pins s σ H x y v u Q I rx ry ⟨_, _, rd.int, re.int, q.flat o (fun _ e => by cases e) (.bl _)⟩
theorem Rp.flat {F : Hp} {v : V} {d : D} (r : Rp F v d) (h : flatD d = true) : flatV v = true := by
  cases r <;> first
    | rfl
    | cases h
theorem Rp.eqv {F : Hp} {x y : V} {d e : D} (rx : Rp F x d) (ry : Rp F y e) (h1 : flatD d = true) (h2 : flatD e = true) : eqV y x = PyData.eqv e d := by
  cases rx <;> cases ry <;> first
    | rfl
    | cases h1
    | cases h2
    | simp [eqV, PyData.eqv]
theorem RpA.flat {F : Hp} : ∀ {ds : List D} {vs : List V}, RpA F vs ds → ds.all flatD = true → vs.all flatV = true
  | [], _, h, _ => by cases h; rfl
  | d :: ds, _, h, f => by
    cases h with
    | cons h r =>
      rw [List.all_cons, Bool.and_eq_true] at f
      rw [List.all_cons, h.flat f.1, RpA.flat r f.2]
      rfl
theorem RpA.inV {F : Hp} {x : V} {e : D} (rx : Rp F x e) (hx : flatD e = true) : ∀ {ds : List D} {vs : List V}, RpA F vs ds → ds.all flatD = true → inV x vs = ds.any fun y => PyData.eqv y e
  | [], _, h, _ => by cases h; rfl
  | d :: ds, _, h, f => by
    cases h with
    | cons h r =>
      rw [List.all_cons, Bool.and_eq_true] at f
      have ih := RpA.inV rx hx r f.2
      unfold L2.inV at ih ⊢
      rw [List.any_cons, List.any_cons, ih, rx.eqv h hx f.1]
theorem Rb.flatRp {dc : DT} {F H : Hp} {v : V} {d : D} (r : Rb dc F H v d) (h : flatD d = true) : Rp F v d := by
  rcases r with r | ⟨a, xs, ds, e1, e2, _, _⟩
  · exact r
  · subst e2
    cases h
theorem eqv_key (k k' : Key) : PyData.eqv (keyD k') (keyD k) = decide (k' = k) := by
  cases k with
  | inl i =>
    cases k' with
    | inl j =>
      show (j == i) = decide ((Sum.inl j : Key) = Sum.inl i)
      rw [Bool.eq_iff_iff]; simp
    | inr y => rfl
  | inr x =>
    cases k' with
    | inl j => rfl
    | inr y =>
      show (y == x) = decide ((Sum.inr y : Key) = Sum.inr x)
      rw [Bool.eq_iff_iff]; simp
theorem valV_some {kvs : List (Key × V)} {k : Key} : (valV kvs k).isSome = kvs.any fun p => decide (p.1 = k) := by
  induction kvs with
  | nil => rfl
  | cons p ps ih =>
    unfold valV
    rw [List.any_cons]
    by_cases e : p.1 = k
    · simp [e]
    · rw [← ih]
      simp [e, valV]
theorem dct_in {d : D} {k : Key} (hd : d = keyD k) {kvs : List (Key × V)} {ds : List (D × D)} (hk : kvs.map (fun p => keyD p.1) = ds.map (·.1)) : ((ds.map (·.1)).any fun y => PyData.eqv y d) = (valV kvs k).isSome := by
  rw [valV_some, ← hk, hd, List.any_map]
  congr 1
  funext p
  exact eqv_key _ _
theorem key_of {d : D} (h : keyLike d = true) : ∃ k : Key, d = keyD k := by
  cases d with
  | int i => exact ⟨.inl i, rfl⟩
  | str x => exact ⟨.inr x, rfl⟩
  | _ => cases h
theorem Rb.keyV {dc : DT} {F H : Hp} {v : V} {k : Key} (r : Rb dc F H v (keyD k)) : v = kV k := by
  cases k with
  | inl i => exact r.int
  | inr x => exact r.str
theorem op_inD (hu : X.A.units + 64 < cLine) : OpR X (compareOp .In) (rF W fun x y => (cmpD .inn x y).map .bool) := by
  rintro pins s σ H x y v u Q I rx ry ⟨dc, F, st, d, e, o, rd, re, q⟩
  have key : ∀ ds vs p, y = .ref p → (SqL X.K H p vs ∨ SqT X.K H p vs) → RpA F vs ds → PostF dc W F H (.opt ((inD d ds).map .bool) st) Q → wpAny (model X.prog X.w) X.A (compareOp .In v u) (EP X pins σ Q) X.xe s := by
    intro ds vs p e hs r q
    unfold inD at q
    by_cases h : flatD d = true ∧ ds.all flatD = true
    · rw [if_pos h] at q
      have rd' := rd.flatRp h.1
      refine op_in_seq pins s σ H x y v u Q I rx ry ⟨p, vs, e, hs, rd'.flat h.1, r.flat h.2, ?_⟩
      rw [if_neg (by decide), RpA.inV rd' h.1 r h.2]
      exact q.flat o (fun _ e => by cases e) (.bl _)
    · rw [if_neg h] at q
      exact False.elim q
  cases e <;> first
    | (cases d <;> exact False.elim q)
    | skip
  case list ds =>
    obtain ⟨p, vs, rfl, _, h, r⟩ := re.list o
    exact key ds vs p rfl (.inl (.of h)) r (by cases d <;> exact q)
  case tuple ds =>
    obtain ⟨p, vs, rfl, _, h, r⟩ := re.tuple o
    exact key ds vs p rfl (.inr (.of h)) r (by cases d <;> exact q)
  case dict ds =>
    rcases re with re | ⟨p, xs, es, e1, e2, _, _⟩
    · cases re with
      | @dct a o' kvs _ h hk r =>
        have q' : PostF dc W F H (.opt ((if keyLike d = true then some ((ds.map (·.1)).any fun y => PyData.eqv y d) else none).map .bool) st) Q := by cases d <;> exact q
        by_cases hkl : keyLike d = true
        · rw [if_pos hkl] at q'
          obtain ⟨k, rfl⟩ := key_of hkl
          have hv := Rb.keyV rd
          subst hv
          obtain rfl : u = Value.ref a := ry
          rw [dct_in rfl hk] at q'
          exact d_in (Nat.lt_of_le_of_lt (Nat.add_le_add_left (by decide) _) hu) I (.inl ⟨kvs, k, .inr ⟨o', (Hd_some (o.fh _ _ h)).1⟩, rfl, rfl⟩) rx fun s' I' => ⟨.bl _, H, I', rfl, q'.flat o (fun _ e => by cases e) (.bl _)⟩
        · rw [if_neg hkl] at q'
          exact False.elim q'
    · cases e2
theorem op_ninD (hu : X.A.units + 64 < cLine) : OpR X (compareOp .NotIn) (rF W fun x y => (cmpD .nin x y).map .bool) := by
  rintro pins s σ H x y v u Q I rx ry ⟨dc, F, st, d, e, o, rd, re, q⟩
  have key : ∀ ds vs p, y = .ref p → (SqL X.K H p vs ∨ SqT X.K H p vs) → RpA F vs ds → PostF dc W F H (.opt (((inD d ds).map (!·)).map .bool) st) Q → wpAny (model X.prog X.w) X.A (compareOp .NotIn v u) (EP X pins σ Q) X.xe s := by
    intro ds vs p e hs r q
    unfold inD at q
    by_cases h : flatD d = true ∧ ds.all flatD = true
    · rw [if_pos h] at q
      have rd' := rd.flatRp h.1
      refine op_notIn_seq pins s σ H x y v u Q I rx ry ⟨p, vs, e, hs, rd'.flat h.1, r.flat h.2, ?_⟩
      rw [if_pos rfl, RpA.inV rd' h.1 r h.2]
      exact q.flat o (fun _ e => by cases e) (.bl _)
    · rw [if_neg h] at q
      exact False.elim q
  cases e <;> first
    | (cases d <;> exact False.elim q)
    | skip
  case list ds =>
    obtain ⟨p, vs, rfl, _, h, r⟩ := re.list o
    exact key ds vs p rfl (.inl (.of h)) r (by cases d <;> exact q)
  case tuple ds =>
    obtain ⟨p, vs, rfl, _, h, r⟩ := re.tuple o
    exact key ds vs p rfl (.inr (.of h)) r (by cases d <;> exact q)
  case dict ds =>
    rcases re with re | ⟨p, xs, es, e1, e2, _, _⟩
    · cases re with
      | @dct a o' kvs _ h hk r =>
        have q' : PostF dc W F H (.opt ((if keyLike d = true then some (!(ds.map (·.1)).any fun y => PyData.eqv y d) else none).map .bool) st) Q := by cases d <;> exact q
        by_cases hkl : keyLike d = true
        · rw [if_pos hkl] at q'
          obtain ⟨k, rfl⟩ := key_of hkl
          have hv := Rb.keyV rd
          subst hv
          obtain rfl : u = Value.ref a := ry
          rw [dct_in rfl hk] at q'
          exact d_notIn (Nat.lt_of_le_of_lt (Nat.add_le_add_left (by decide) _) hu) I (.inl ⟨kvs, k, .inr ⟨o', (Hd_some (o.fh _ _ h)).1⟩, rfl, rfl⟩) rx fun s' I' => ⟨.bl _, H, I', rfl, q'.flat o (fun _ e => by cases e) (.bl _)⟩
        · rw [if_neg hkl] at q'
          exact False.elim q'
    · cases e2
end
end Co

/-! Core 3b: * of tuples, lists, ints. -/
namespace Co
open PySem PySem.Spec PyProof.Rows L2
theorem tuple_mul_same (l : Addr) (items : Array Value) (n : Nat) (dd : Option Addr) (sl : Array (Option Value)) (x : Int) (u : Tok) (c0 : (decide (x < -(2 ^ 63)) || decide (x ≥ 2 ^ 63)) = false) (c1 : (items.isEmpty || x == 1) = true) :
    Meets (Builtin.«tuple.__mul__» ⟨[.ref l, .int x u], []⟩) (fun _ R s => s.heap.get? l = some { cls := .type "tuple", dict := dd, data := .seq items n, slots := sl } ∧
      R (.ok (.ret (Value.ref l))) s) :=
  .of_wp fun prog w A R s h => by
    obtain ⟨hp, g, d, tk, os⟩ := s
    obtain ⟨hl, h⟩ := h
    have f1 := AutoSeq1.idx_int
    wp_walk using wpAny_loadPart' hl
    repeat (first
      | (refine wpAny_ite_false (decide_eq_false (by rw [c0]; exact Bool.false_ne_true)) ?_; wp_walk using wpAny_loadPart' hl)
      | (refine wpAny_ite_true (decide_eq_true (by rw [c1])) ?_; wp_walk using wpAny_loadPart' hl))
    exact ⟨_, rfl, h⟩
theorem tuple_mul_none (l : Addr) (items : Array Value) (n : Nat) (dd : Option Addr) (sl : Array (Option Value)) (x : Int) (u : Tok) (c0 : (decide (x < -(2 ^ 63)) || decide (x ≥ 2 ^ 63)) = false) (c1 : (items.isEmpty || x == 1) = false) (c2 : (decide (x ≤ 0) || items.isEmpty) = true) :
    Meets (Builtin.«tuple.__mul__» ⟨[.ref l, .int x u], []⟩) (fun _ R s => s.heap.get? l = some { cls := .type "tuple", dict := dd, data := .seq items n, slots := sl } ∧
      R (.ok (.ret (Value.ref s.heap.objs.size))) { s with heap := s.heap.push { cls := Value.type "tuple", data := Data.seq #[] }, toks := s.toks }) :=
  .of_wp fun prog w A R s h => by
    obtain ⟨hp, g, d, tk, os⟩ := s
    obtain ⟨hl, h⟩ := h
    have f1 := AutoSeq1.idx_int
    wp_walk using wpAny_loadPart' hl
    repeat (first
      | (refine wpAny_ite_false (decide_eq_false (by rw [c0]; exact Bool.false_ne_true)) ?_; wp_walk using wpAny_loadPart' hl)
      | (refine wpAny_ite_false (decide_eq_false (by rw [c1]; exact Bool.false_ne_true)) ?_; wp_walk using wpAny_loadPart' hl)
      | (refine wpAny_ite_true (decide_eq_true (by rw [c2])) ?_; wp_walk using wpAny_loadPart' hl))
    exact ⟨_, rfl, h⟩
section
variable [TabT]
variable {X : Cx} {W : WS}
theorem op_repT1 : OpR X (binaryOp .Mult) (fun x y H Q => ∃ l k xs, x = .ref l ∧ y = .int k ∧ SqT X.K H l xs ∧ -(2 ^ 63) ≤ k ∧ k < 2 ^ 63 ∧ (xs = [] ∨ k = 1) ∧ Q (.ref l) H) := by
  intro pins s σ H x y v u Q I rx ry h
  obtain ⟨l, k, xs, rfl, rfl, hT, h1, h2, hz, q⟩ := h
  cases rx
  obtain ⟨t, rfl⟩ := ry
  obtain ⟨its, r, ⟨⟨cls, dd, data, sl⟩, ho, hc, n, hd⟩, hs⟩ := I.tuple hT
  simp only at hc hd
  subst hc hd
  have hle : its.length = xs.length := r.length.symm
  have c0 : (decide (k < -(2 ^ 63)) || decide (k ≥ 2 ^ 63)) = false := by
    rw [decide_eq_false (by omega), decide_eq_false (by omega)] <;> rfl
  have c1 : (its.toArray.isEmpty || k == 1) = true := by
    rcases hz with e | e
    · rw [e] at hle
      have : its = [] := List.eq_nil_of_length_eq_zero hle
      subst this
      rfl
    · subst e
      simp
  exact wpAny_binaryOp_repeat_ref (T := "tuple") (U := "int") (by decide) ⟨_, ho, rfl⟩ (fun s' => typeIs_int s' k t) noFill_tuple_mul F.fills_int_mul F.slot_int_rmul repeat_tuple F.slot_int_index.lookup
    (call_meets F.slot_int_rmul (typeIs_int s k t) F.entry_int_rmul (F.args_int_rmul_2 _ _) (int_rmul_tuple k t l its.toArray n dd sl)
      ⟨ho, rfl, ⟨_, ho, rfl⟩, call_meets F.slot_tuple_mul ⟨_, ho, rfl⟩ F.entry_tuple_mul (F.args_tuple_mul_2 _ _) (tuple_mul_same l its.toArray n dd sl k t c0 c1) ⟨ho, ⟨.ref l, H, I, rfl, q⟩⟩⟩)
theorem op_repT0 : OpR X (binaryOp .Mult) (fun x y H Q => ∃ l k xs, x = .ref l ∧ y = .int k ∧ SqT X.K H l xs ∧ -(2 ^ 63) ≤ k ∧ k ≤ 0 ∧ xs ≠ [] ∧ ∀ p, H p = none → Q (.ref p) (upd H p (.tup []))) := by
  intro pins s σ H x y v u Q I rx ry h
  obtain ⟨l, k, xs, rfl, rfl, hT, h1, h2, hz, q⟩ := h
  cases rx
  obtain ⟨t, rfl⟩ := ry
  obtain ⟨its, r, ⟨⟨cls, dd, data, sl⟩, ho, hc, n, hd⟩, hs⟩ := I.tuple hT
  simp only at hc hd
  subst hc hd
  have hle : its.length = xs.length := r.length.symm
  have hi : its.toArray.isEmpty = false := by
    cases its with
    | nil =>
      cases xs with
      | nil => exact absurd rfl hz
      | cons a b => cases hle
    | cons a b => rfl
  have c0 : (decide (k < -(2 ^ 63)) || decide (k ≥ 2 ^ 63)) = false := by
    rw [decide_eq_false (by omega), decide_eq_false (by omega)] <;> rfl
  have c1 : (its.toArray.isEmpty || k == 1) = false := by
    rw [hi, Bool.false_or]
    exact beq_eq_false_iff_ne.mpr (by omega)
  have c2 : (decide (k ≤ 0) || its.toArray.isEmpty) = true := by
    rw [decide_eq_true h2]
    rfl
  refine wpAny_binaryOp_repeat_ref (T := "tuple") (U := "int") (by decide) ⟨_, ho, rfl⟩ (fun s' => typeIs_int s' k t) noFill_tuple_mul F.fills_int_mul F.slot_int_rmul repeat_tuple F.slot_int_index.lookup
    (call_meets F.slot_int_rmul (typeIs_int s k t) F.entry_int_rmul (F.args_int_rmul_2 _ _) (int_rmul_tuple k t l its.toArray n dd sl)
      ⟨ho, rfl, ⟨_, ho, rfl⟩, call_meets F.slot_tuple_mul ⟨_, ho, rfl⟩ F.entry_tuple_mul (F.args_tuple_mul_2 _ _) (tuple_mul_none l its.toArray n dd sl k t c0 c1 c2) ⟨ho, ?_⟩⟩)
  refine ⟨.ref s.heap.objs.size, _, I.laid (t' := s.toks) (o := .tup []) (fun b ob q => Heap.get?_push_of_some _ q) (Nat.le_refl _) ?_, rfl, q _ (I.hok.fresh (Nat.le_refl _))⟩
  exact ⟨Nat.zero_le _, [], .nil, IsTup.new _ _⟩
theorem repD_one (xs : List D) : repD 1 xs = xs := by unfold repD; simp
theorem repD_zero (xs : List D) : repD 0 xs = [] := rfl
theorem repD_nil : ∀ n, repD n [] = [] := fun n => by
  unfold repD
  induction n with
  | zero => rfl
  | succ n ih => rw [List.replicate_succ, List.flatten_cons, ih]; rfl
theorem op_mulD : OpR X (binaryOp .Mult) (rF W (binD .mul)) := by
  rintro pins s σ H x y v u Q I rx ry ⟨dc, F, st, d, e, o, rd, re, q⟩
  cases d <;> cases e <;> first
    | exact False.elim q
    | skip
  case int.int i j =>
    by_cases h : mulOk i j = true
    · simp only [binD, if_pos h] at q
      exact op_mulI i j h pins s σ H x y v u Q I rx ry ⟨rd.int, re.int, q.flat o (fun _ e => by cases e) (.int _)⟩
    · simp only [binD, if_neg h] at q
      exact False.elim q
  case list.int xs k =>
    by_cases h : -(2 ^ 63) ≤ k ∧ k < 2 ^ 63 ∧ xs.length * k.toNat ≤ sizeLine
    · simp only [binD, if_pos h] at q
      obtain ⟨p1, vs1, rfl, _, h1, r1⟩ := rd.list o
      exact op_rep pins s σ H _ _ v u Q I rx ry ⟨p1, k, vs1, rfl, re.int, h1, h.1, h.2.1, by rw [r1.len]; exact h.2.2, fun p hp => q.newList o hp (r1.rep _)⟩
    · simp only [binD, if_neg h] at q
      exact False.elim q
  case tuple.int xs k =>
    by_cases h : 0 ≤ k ∧ k ≤ 1000 ∧ xs.length ≤ 1000
    · simp only [binD, if_pos h] at q
      obtain ⟨p1, vs1, rfl, f1, h1, r1⟩ := rd.tuple o
      obtain ⟨h2, h3, h4⟩ := h
      by_cases hs : vs1 = [] ∨ k = 1
      · refine op_repT1 pins s σ H _ _ v u Q I rx ry ⟨p1, k, vs1, rfl, re.int, .of h1, by omega, by omega, hs, ?_⟩
        have e : repD k.toNat xs = xs := by
          rcases hs with e | e
          · subst e
            cases r1
            exact repD_nil _
          · subst e
            exact repD_one xs
        rw [e] at q
        exact q.flat o (fun _ e => by cases e) (.tup f1 r1)
      · have n1 : vs1 ≠ [] := fun e => hs (.inl e)
        have n2 : k ≠ 1 := fun e => hs (.inr e)
        by_cases h0 : k ≤ 0
        · have e0 : k = 0 := by omega
          subst e0
          exact op_repT0 pins s σ H _ _ v u Q I rx ry ⟨p1, 0, vs1, rfl, re.int, .of h1, by omega, by omega, n1, fun p hp => q.newTup o hp .nil⟩
        · exact op_repT pins s σ H _ _ v u Q I rx ry ⟨p1, k, vs1, rfl, re.int, .of h1, n1, by omega, h3, by rw [r1.len]; exact h4, fun p hp => q.newTup o hp (r1.rep _)⟩
    · simp only [binD, if_neg h] at q
      exact False.elim q
end
end Co

/-! Core 4: expressions lifted, form by form. -/
namespace Co
open PySem PySem.Spec PyProof.Rows L2
variable [TabT]
section
variable {X : Cx} {W : WS} {a b c : Expr} {ma mb mc : Env → Dice → Res D} {pos : Pos}

/-! ### constants, names -/
theorem de_con {e : Expr} {v : V} {d : D} (h : PE X e (tC v)) (r : ∀ F, Rp F v d) : PE X e (tM W fun _ s => .ok d s) :=
  PEimp h fun σ H Q ⟨B, F, ρ, s, R, q⟩ => q.flat R.ok (r F)
theorem getV_some {ρ : Env} {i : Nat} {d : D} (h : getV ρ i = some d) : ρ[i]? = some (.val d) := by
  unfold getV at h
  split at h
  · rename_i e
    cases h
    exact e
  · cases h
theorem getO_some {ρ : Env} {i : Nat} {d : List D} (h : getO ρ i = some d) : ρ[i]? = some (.own d) := by
  unfold getO at h
  split at h
  · rename_i e
    cases h
    exact e
  · cases h
theorem getB_some {ρ : Env} {i : Nat} {d : D} (h : getB ρ i = some d) : ρ[i]? = some (.val d) ∨ ∃ ds, d = .list ds ∧ ρ[i]? = some (.own ds) := by
  unfold getB at h
  split at h
  · rename_i e
    cases h
    exact .inl e
  · rename_i e
    cases h
    exact .inr ⟨_, rfl, e⟩
  · cases h
theorem isDice_some {ρ : Env} {i : Nat} (h : isDice ρ i = true) : ρ[i]? = some .dice := by
  unfold isDice at h
  split at h
  · rename_i e
    exact e
  · cases h
theorem de_var {i : Nat} {x : Str} (h : PE X (.Name x pos) (tVar i)) : PE X (.Name x pos) (tM W fun ρ s => .opt (getV ρ i) s) :=
  PEimp h fun σ H Q ⟨B, F, ρ, s, R, q⟩ => by
    cases e : getV ρ i with
    | none => (try dsimp only at q); rw [e] at q; exact False.elim q
    | some d =>
      try dsimp only at q
      rw [e] at q
      obtain ⟨v, e1, r⟩ := R.sv i d (getV_some e)
      exact ⟨v, e1, q.flat R.ok r⟩
theorem de_bor {i : Nat} {x : Str} (h : PE X (.Name x pos) (tVar i)) : PE X (.Name x pos) (tB W fun ρ s => .opt (getB ρ i) s) :=
  PEimp h fun σ H Q ⟨B, F, ρ, s, R, q⟩ => by
    cases e : getB ρ i with
    | none => (try dsimp only at q); rw [e] at q; exact False.elim q
    | some d =>
      try dsimp only at q
      rw [e] at q
      rcases getB_some e with e | ⟨ds, rfl, e2⟩
      · obtain ⟨v, e1, r⟩ := R.sv i d e
        exact ⟨v, e1, q v F H (Step.refl R.ok) (.inl r)⟩
      · obtain ⟨a, xs, e1, h1, _, _, r⟩ := R.so i ds e2
        exact ⟨_, e1, q _ F H (Step.refl R.ok) (.inr ⟨a, xs, ds, rfl, rfl, h1, r⟩)⟩

/-! ### one operand -/
/-- what comes is given on -/
theorem tM_then {m : Env → Dice → Res D} {f : D → Dice → Res D} {σ : L2.St} {H : Hp} {Q : VK}
    (h : tM W (fun ρ s => (m ρ s).bind f) σ H Q) : tB W m σ H fun v H' => ∃ dc F s d, Ok dc F H' s ∧ Rb dc F H' v d ∧ Post dc W F H' (f d s) Q := by
  obtain ⟨B, F, ρ, s, R, q⟩ := h
  refine ⟨B, F, ρ, s, R, ?_⟩
  cases h1 : m ρ s with
  | bad => (try dsimp only at q); rw [h1] at q; exact q
  | exc c s1 => (try dsimp only at q); rw [h1] at q; exact q
  | ok d s1 =>
    try dsimp only at q
    rw [h1] at q
    exact fun v F' H' t r => ⟨B.dc, F', s1, d, t.ok, r, Post.step R.ok t q⟩
theorem tF_then {m : Env → Dice → Res D} {f : D → Dice → Res D} {σ : L2.St} {H : Hp} {Q : VK}
    (h : tF W (fun ρ s => (m ρ s).bind f) σ H Q) : tB W m σ H fun v H' => ∃ dc F s d, Ok dc F H' s ∧ Rb dc F H' v d ∧ PostF dc W F H' (f d s) Q := by
  obtain ⟨B, F, ρ, s, R, q⟩ := h
  refine ⟨B, F, ρ, s, R, ?_⟩
  cases h1 : m ρ s with
  | bad => (try dsimp only at q); rw [h1] at q; exact q
  | exc c s1 => (try dsimp only at q); rw [h1] at q; exact q
  | ok d s1 =>
    try dsimp only at q
    rw [h1] at q
    exact fun v F' H' t r => ⟨B.dc, F', s1, d, t.ok, r, PostF.step R.ok t q⟩
theorem de_neg (ha : PE X a (tB W ma)) : PE X (.UnaryOp .USub a pos) (tM W fun ρ s => (ma ρ s).bind fun x s1 => match x with
    | .int i => .ok (.int (-i)) s1
    | _ => .bad) :=
  PEimp (pe_un un_neg ha) fun σ H Q h => by
    obtain ⟨B, F, ρ, s, R, q⟩ := tM_then h
    refine ⟨B, F, ρ, s, R, ?_⟩
    cases h1 : ma ρ s with
    | bad => (try dsimp only at q); rw [h1] at q; exact q
    | exc c s1 => (try dsimp only at q); rw [h1] at q; exact q
    | ok d s1 =>
      try dsimp only at q
      rw [h1] at q
      intro v F' H' t r
      obtain ⟨dc, F2, s2, d2, o2, r2, q2⟩ := q v F' H' t r
      cases d2 <;> first
        | exact False.elim q2
        | skip
      case int i => exact ⟨i, r2.int, q2.flat o2 (.int _)⟩
theorem PE_then {m : Env → Dice → Res D} {f : D → Dice → Res D} {e e' : Expr} (k : V → Hp → VK → Prop) (he : ∀ t, PE X e t → PE X e' (fun σ H Q => t σ H fun x H1 => k x H1 Q)) (h : PE X e (tB W m))
    (hk : ∀ dc F s d v H Q, Ok dc F H s → Rb dc F H v d → Post dc W F H (f d s) Q → k v H Q) : PE X e' (tM W fun ρ s => (m ρ s).bind f) := by
  refine PEimp (he _ h) fun σ H Q h => ?_
  obtain ⟨B, F, ρ, s, R, q⟩ := tM_then h
  refine ⟨B, F, ρ, s, R, ?_⟩
  cases h1 : m ρ s with
  | bad => (try dsimp only at q); rw [h1] at q; exact q
  | exc c s1 => (try dsimp only at q); rw [h1] at q; exact q
  | ok d s1 =>
    try dsimp only at q
    rw [h1] at q
    intro v F' H' t r
    obtain ⟨dc, F2, s2, d2, o2, r2, q2⟩ := q v F' H' t r
    exact hk _ _ _ _ _ _ _ o2 r2 q2
theorem rb_none {dc : DT} {F H : Hp} {v : V} {d : D} (r : Rb dc F H v d) : decide (v = .non) = (match d with | .none => true | _ => false) := by
  rcases r with r | ⟨a, xs, ds, e1, e2, _, _⟩
  · cases r <;> rfl
  · subst e1 e2; rfl
theorem de_isN {j pos'} (ha : PE X a (tB W ma)) : PE X (.Compare a [.Is] [.Constant .none j pos'] pos) (tM W fun ρ s => (ma ρ s).bind fun x s1 => match x with
    | .none => .ok (.bool true) s1
    | _ => .ok (.bool false) s1) := by
  refine PE_then (fun x H1 Q => Q (.bl (decide (x = .non))) H1) (fun t h => pe_cmp (pc_isN h) rfl) ha fun dc F s d v H Q o r q => ?_
  rw [rb_none r]
  cases d <;> exact q.flat o (.bl _)
theorem de_notN {j pos'} (ha : PE X a (tB W ma)) : PE X (.Compare a [.IsNot] [.Constant .none j pos'] pos) (tM W fun ρ s => (ma ρ s).bind fun x s1 => match x with
    | .none => .ok (.bool false) s1
    | _ => .ok (.bool true) s1) := by
  refine PE_then (fun x H1 Q => Q (.bl (!decide (x = .non))) H1) (fun t h => pe_cmp (pc_notN h) rfl) ha fun dc F s d v H Q o r q => ?_
  rw [rb_none r]
  cases d <;> exact q.flat o (.bl _)

/-! ### bools -/
theorem tM_bool {m : Env → Dice → Res D} {f : Bool → Dice → Res D} {σ : L2.St} {H : Hp} {Q : VK} {R' : V → Hp → Prop}
    (h : tM W (fun ρ s => asBool (m ρ s) f) σ H Q) (k : ∀ B F ρ s k, Rel B F σ ρ H s → ∀ F' H' s', Rel B F' σ ρ H' s' → Post B.dc W F' H' (f k s') Q → R' (.bl k) H') : tM W m σ H R' := by
  obtain ⟨B, F, ρ, s, R, q⟩ := h
  refine ⟨B, F, ρ, s, R, ?_⟩
  cases h1 : m ρ s with
  | bad => (try dsimp only at q); rw [h1] at q; exact q
  | exc c s1 => (try dsimp only at q); rw [h1] at q; exact q
  | ok d s1 =>
    try dsimp only at q
    rw [h1] at q
    intro v F' H' t r
    cases d <;> first
      | exact False.elim q
      | skip
    case bool kk =>
      rw [r.bl']
      exact k B F ρ s kk R F' H' s1 (R.step t) (Post.step R.ok t q)
theorem de_not (ha : PE X a (tM W ma)) : PE X (.UnaryOp .Not a pos) (tM W fun ρ s => asBool (ma ρ s) fun b s1 => .ok (.bool (!b)) s1) :=
  PEimp (pe_not ha) fun σ H Q h => tM_bool h fun B F ρ s k R F' H' s' R' q => ⟨k, rfl, q.flat R'.ok (.bl _)⟩
/-- the value again, told a bool -/
theorem de_same {m : Env → Dice → Res D} {e : Expr} (h : PE X e (tM W m)) : PE X e (tM W fun ρ s => asBool (m ρ s) fun c s2 => .ok (.bool c) s2) :=
  PEimp h fun σ H Q ⟨B, F, ρ, s, R, q⟩ => ⟨B, F, ρ, s, R, by
    cases h1 : m ρ s with
    | bad => (try dsimp only at q); rw [h1] at q; exact q
    | exc c s1 => (try dsimp only at q); rw [h1] at q; exact q
    | ok d s1 =>
      try dsimp only at q
      rw [h1] at q
      cases d <;> first
        | exact False.elim q
        | exact q⟩
variable {rest : List Expr}
/-- (in these two the right one's reading is told of the state that the left one leaves) -/
theorem de_and (ha : PE X a (tM W ma)) (hb : PE X (.BoolOp .And (b :: rest) pos) (tM W mb)) : PE X (.BoolOp .And (a :: b :: rest) pos) (tM W fun ρ s => asBool (ma ρ s) fun c s1 => if c = true then asBool (mb ρ s1) fun c s2 => .ok (.bool c) s2 else .ok (.bool false) s1) := by
  refine PEimp (pe_and ha (de_same hb)) fun σ H Q h => ?_
  obtain ⟨B, F, ρ, s, R, q⟩ := h
  refine ⟨B, F, ρ, s, R, ?_⟩
  cases h1 : ma ρ s with
  | bad => (try dsimp only at q); rw [h1] at q; exact q
  | exc c s1 => (try dsimp only at q); rw [h1] at q; exact q
  | ok d s1 =>
    try dsimp only at q
    rw [h1] at q
    intro v F' H' t r
    cases d <;> first
      | exact False.elim q
      | skip
    case bool k =>
      have q' := Post.step R.ok t q
      refine ⟨k, r.bl', ?_⟩
      cases k with
      | true => exact iteT ⟨B, F', ρ, s1, R.step t, q'⟩
      | false => exact iteF (Post.flat t.ok q' (.bl _))
theorem de_or (ha : PE X a (tM W ma)) (hb : PE X (.BoolOp .Or (b :: rest) pos) (tM W mb)) : PE X (.BoolOp .Or (a :: b :: rest) pos) (tM W fun ρ s => asBool (ma ρ s) fun c s1 => if c = true then .ok (.bool true) s1 else asBool (mb ρ s1) fun c s2 => .ok (.bool c) s2) := by
  refine PEimp (pe_or ha (de_same hb)) fun σ H Q h => ?_
  obtain ⟨B, F, ρ, s, R, q⟩ := h
  refine ⟨B, F, ρ, s, R, ?_⟩
  cases h1 : ma ρ s with
  | bad => (try dsimp only at q); rw [h1] at q; exact q
  | exc c s1 => (try dsimp only at q); rw [h1] at q; exact q
  | ok d s1 =>
    try dsimp only at q
    rw [h1] at q
    intro v F' H' t r
    cases d <;> first
      | exact False.elim q
      | skip
    case bool k =>
      have q' := Post.step R.ok t q
      refine ⟨k, r.bl', ?_⟩
      cases k with
      | true => exact iteT (Post.flat t.ok q' (.bl _))
      | false => exact iteF ⟨B, F', ρ, s1, R.step t, q'⟩
/-! ### tests -/
theorem dt_val {e : Expr} (h : PE X e (tM W ma)) (he : ∀ whole, isTrue e X.env whole = (do let v ← whole; standAt e.pos; holding [v] (truthy v))) : PT X e (tT W ma) :=
  PTimp (pt_val h he) fun σ H Q ⟨B, F, ρ, s, R, q⟩ => ⟨B, F, ρ, s, R, by
    cases h1 : ma ρ s with
    | bad => (try dsimp only at q); rw [h1] at q; exact q
    | exc c s1 => (try dsimp only at q); rw [h1] at q; exact q
    | ok d s1 =>
      try dsimp only at q
      rw [h1] at q
      cases d <;> first
        | exact False.elim q
        | skip
      case bool k => exact fun v F' H' t r => ⟨k, r.bl', q F' H' t⟩⟩
theorem tT_of {t : TE} {σ : L2.St} {H : Hp} {Q : Bool → Hp → Prop} {m : Env → Dice → Res D} (h : tT W m σ H Q) : tM W m σ H fun x H' => ∃ k, x = .bl k ∧ Q k H' := by
  obtain ⟨B, F, ρ, s, R, q⟩ := h
  refine ⟨B, F, ρ, s, R, ?_⟩
  cases h1 : m ρ s with
  | bad => (try dsimp only at q); rw [h1] at q; exact q
  | exc c s1 => (try dsimp only at q); rw [h1] at q; exact q
  | ok d s1 =>
    try dsimp only at q
    rw [h1] at q
    cases d <;> first
      | exact False.elim q
      | skip
    case bool k => exact fun v F' H' t r => ⟨k, r.bl', q F' H' t⟩
theorem tT_seq {m : Env → Dice → Res D} {f : Env → Bool → Dice → Res D} {σ : L2.St} {H : Hp} {Q : Bool → Hp → Prop} {R' : Bool → Hp → Prop}
    (h : tT W (fun ρ s => asBool (m ρ s) (f ρ)) σ H Q) (k : ∀ (B : Base) (ρ : Env) (k : Bool) (F' H' : Hp) (s' : Dice), Rel B F' σ ρ H' s' → PostT B.dc W F' H' (f ρ k s') Q → R' k H') : tT W m σ H R' := by
  obtain ⟨B, F, ρ, s, R, q⟩ := h
  refine ⟨B, F, ρ, s, R, ?_⟩
  cases h1 : m ρ s with
  | bad => (try dsimp only at q); rw [h1] at q; exact q
  | exc c s1 => (try dsimp only at q); rw [h1] at q; exact q
  | ok d s1 =>
    try dsimp only at q
    rw [h1] at q
    cases d <;> first
      | exact False.elim q
      | skip
    case bool kk =>
      intro F' H' t
      refine k B ρ kk F' H' s1 (R.step t) ?_
      have q' : PostT B.dc W F H (f ρ kk s1) Q := q
      cases h2 : f ρ kk s1 with
      | bad => rw [h2] at q'; exact q'
      | exc c s2 => rw [h2] at q'; exact fun F2 H2 t2 => q' F2 H2 (t.trans R.ok t2)
      | ok d s2 =>
        rw [h2] at q'
        cases d <;> first
          | exact False.elim q'
          | exact fun F2 H2 t2 => q' F2 H2 (t.trans R.ok t2)
theorem PostT.flat {dc : DT} {F H : Hp} {s : Dice} {k : Bool} {Q : Bool → Hp → Prop} (o : Ok dc F H s) (q : PostT dc W F H (.ok (.bool k) s) Q) : Q k H := q F H (Step.refl o)
theorem PostT.bools {dc : DT} {F H : Hp} {r : Res D} {Q : Bool → Hp → Prop} (q : PostT dc W F H (asBool r fun c s => .ok (.bool c) s) Q) : PostT dc W F H r Q := by
  cases r with
  | bad => exact q
  | exc c s => exact q
  | ok d s =>
    cases d <;> first
      | exact False.elim q
      | exact q
theorem dt_not (ha : PT X a (tT W ma)) : PT X (.UnaryOp .Not a pos) (tT W fun ρ s => asBool (ma ρ s) fun b s1 => .ok (.bool (!b)) s1) :=
  PTimp (pt_not ha) fun σ H Q h => tT_seq (f := fun _ b s1 => .ok (.bool (!b)) s1) h fun B ρ k F' H' s' R' q => PostT.flat R'.ok q
theorem dw_one {op : BoolOp} (ha : PT X a (tT W ma)) : PW X (.BoolOp op [a] pos) (tT W ma) := by
  cases op with
  | And => exact pw_and1 ha
  | Or => exact pw_or1 ha
theorem dw_and (ha : PT X a (tT W ma)) (hb : PW X (.BoolOp .And (b :: rest) pos) (tT W mb)) : PW X (.BoolOp .And (a :: b :: rest) pos) (tT W fun ρ s => asBool (ma ρ s) fun c s1 => if c = true then asBool (mb ρ s1) fun c s2 => .ok (.bool c) s2 else .ok (.bool false) s1) :=
  PWimp (pw_and ha hb) fun σ H Q h => tT_seq (f := fun ρ c s1 => if c = true then asBool (mb ρ s1) fun c s2 => .ok (.bool c) s2 else .ok (.bool false) s1) h fun B ρ k F' H' s' R' q => by
    cases k with
    | true => exact iteT ⟨B, F', ρ, s', R', PostT.bools q⟩
    | false => exact iteF (PostT.flat R'.ok q)
theorem dw_or (ha : PT X a (tT W ma)) (hb : PW X (.BoolOp .Or (b :: rest) pos) (tT W mb)) : PW X (.BoolOp .Or (a :: b :: rest) pos) (tT W fun ρ s => asBool (ma ρ s) fun c s1 => if c = true then .ok (.bool true) s1 else asBool (mb ρ s1) fun c s2 => .ok (.bool c) s2) :=
  PWimp (pw_or ha hb) fun σ H Q h => tT_seq (f := fun ρ c s1 => if c = true then .ok (.bool true) s1 else asBool (mb ρ s1) fun c s2 => .ok (.bool c) s2) h fun B ρ k F' H' s' R' q => by
    cases k with
    | true => exact iteT (PostT.flat R'.ok q)
    | false => exact iteF ⟨B, F', ρ, s', R', PostT.bools q⟩
/-- a comparison as a test -/
theorem dt_cmp {op : CmpOp} {f : D → D → Option Bool} (ho : OpR X (compareOp op) (rF W fun x y => (f x y).map .bool)) (ha : PE X a (tB W ma)) (hb : PE X b (tB W mb)) (hm : behindInMarks op b = false) :
    PT X (.Compare a [op] [b] pos) (tT W (b2 (fun x y => (f x y).map .bool) ma mb)) := by
  refine PTimp (pt_cmpR ho ha hb hm) fun σ H Q ⟨B, F, ρ, s, R, q⟩ => tF_b2 ⟨B, F, ρ, s, R, ?_⟩
  cases h1 : b2 (fun x y => (f x y).map .bool) ma mb ρ s with
  | bad => (try dsimp only at q); rw [h1] at q; exact q
  | exc c s1 => (try dsimp only at q); rw [h1] at q; exact q
  | ok d s1 =>
    try dsimp only at q
    rw [h1] at q
    cases d <;> first
      | exact False.elim q
      | skip
    case bool k =>
      exact ⟨fun v F' H' t r _ => ⟨k, r.bl', q F' H' t⟩, fun ds e => by cases e⟩
theorem dt_cmp1 {op : CmpOp} {e : Expr} {t : TE} (h : PC X op a b t) (h1 : behindInMarks op b = false) (hi : ∀ σ H Q, tM W ma σ H Q → t σ H Q) : PT X (.Compare a [op] [b] pos) (tT W ma) :=
  PTimp (pt_cmp h h1) fun σ H Q ⟨B, F, ρ, s, R, q⟩ => hi _ _ _ ⟨B, F, ρ, s, R, by
    cases h1 : ma ρ s with
    | bad => (try dsimp only at q); rw [h1] at q; exact q
    | exc c s1 => (try dsimp only at q); rw [h1] at q; exact q
    | ok d s1 =>
      try dsimp only at q
      rw [h1] at q
      cases d <;> first
        | exact False.elim q
        | skip
      case bool k => exact fun v F' H' t r => ⟨k, r.bl', q F' H' t⟩⟩
theorem dt_isN {j pos'} (ha : PE X a (tB W ma)) : PT X (.Compare a [.Is] [.Constant .none j pos'] pos) (tT W fun ρ s => (ma ρ s).bind fun x s1 => match x with
    | .none => .ok (.bool true) s1
    | _ => .ok (.bool false) s1) := by
  refine dt_cmp1 (e := a) (pc_isN ha) rfl fun σ H Q h => ?_
  obtain ⟨B, F, ρ, s, R, q⟩ := tM_then h
  refine ⟨B, F, ρ, s, R, ?_⟩
  cases h1 : ma ρ s with
  | bad => (try dsimp only at q); rw [h1] at q; exact q
  | exc c s1 => (try dsimp only at q); rw [h1] at q; exact q
  | ok d s1 =>
    try dsimp only at q
    rw [h1] at q
    intro v F' H' t r
    obtain ⟨dc, F2, s2, d2, o2, r2, q2⟩ := q v F' H' t r
    show Q (.bl (decide (v = .non))) H'
    rw [rb_none r2]
    cases d2 <;> exact q2.flat o2 (.bl _)
theorem dt_notN {j pos'} (ha : PE X a (tB W ma)) : PT X (.Compare a [.IsNot] [.Constant .none j pos'] pos) (tT W fun ρ s => (ma ρ s).bind fun x s1 => match x with
    | .none => .ok (.bool false) s1
    | _ => .ok (.bool true) s1) := by
  refine dt_cmp1 (e := a) (pc_notN ha) rfl fun σ H Q h => ?_
  obtain ⟨B, F, ρ, s, R, q⟩ := tM_then h
  refine ⟨B, F, ρ, s, R, ?_⟩
  cases h1 : ma ρ s with
  | bad => (try dsimp only at q); rw [h1] at q; exact q
  | exc c s1 => (try dsimp only at q); rw [h1] at q; exact q
  | ok d s1 =>
    try dsimp only at q
    rw [h1] at q
    intro v F' H' t r
    obtain ⟨dc, F2, s2, d2, o2, r2, q2⟩ := q v F' H' t r
    show Q (.bl (!decide (v = .non))) H'
    rw [rb_none r2]
    cases d2 <;> exact q2.flat o2 (.bl _)
/-! ### a if c else b -/
theorem de_ife (hc : PT X c (tT W mc)) (ha : PE X a (tM W ma)) (hb : PE X b (tM W mb)) : PE X (.IfExp c a b pos) (tM W fun ρ s => asBool (mc ρ s) fun k s1 => if k = true then ma ρ s1 else mb ρ s1) := by
  refine PEimp (pe_ifExp hc ha hb) fun σ H Q ⟨B, F, ρ, s, R, q⟩ => ⟨B, F, ρ, s, R, ?_⟩
  cases h1 : mc ρ s with
  | bad => (try dsimp only at q); rw [h1] at q; exact q
  | exc c s1 => (try dsimp only at q); rw [h1] at q; exact q
  | ok d s1 =>
    try dsimp only at q
    rw [h1] at q
    cases d <;> first
      | exact False.elim q
      | skip
    case bool k =>
      intro F' H' t
      have q' := Post.step R.ok t q
      cases k with
      | true => exact iteT ⟨B, F', ρ, s1, R.step t, q'⟩
      | false => exact iteF ⟨B, F', ρ, s1, R.step t, q'⟩
/-! ### a op b op c -/
def chn (f g : D → D → Option Bool) (ma mb mc : Env → Dice → Res D) : Env → Dice → Res D := fun ρ s => (ma ρ s).bind fun x s1 => (mb ρ s1).bind fun y s2 => (Res.opt (f x y) s2).bind fun k s3 =>
      if k = true then (mc ρ s3).bind fun z s4 => .opt ((g y z).map .bool) s4 else .ok (.bool false) s3
theorem tM_chn {f g : D → D → Option Bool} {σ : L2.St} {H : Hp} {Q : VK} (h : tM W (chn f g ma mb mc) σ H Q) : tChain (rF W fun x y => (f x y).map .bool) (rF W fun x y => (g x y).map .bool) (tB W ma) (tB W mb) (tB W mc) σ H Q := by
  obtain ⟨B, F, ρ, s, R, q⟩ := h
  refine ⟨B, F, ρ, s, R, ?_⟩
  unfold chn at q
  cases h1 : ma ρ s with
  | bad => (try dsimp only at q); rw [h1] at q; exact q
  | exc c s1 => (try dsimp only at q); rw [h1] at q; exact q
  | ok x s1 =>
    try dsimp only at q
    rw [h1] at q
    intro v1 F1 H1 t1 r1
    refine ⟨B, F1, ρ, s1, R.step t1, ?_⟩
    have q1 := Post.step R.ok t1 q
    simp only [bind_ok] at q1
    cases h2 : mb ρ s1 with
    | bad => rw [h2] at q1; exact q1
    | exc c s2 => rw [h2] at q1; exact q1
    | ok y s2 =>
      rw [h2] at q1
      intro v2 F2 H2 t2 r2
      have q2 := Post.step t1.ok t2 q1
      simp only [bind_ok] at q2
      refine ⟨B.dc, F2, s2, x, y, t2.ok, r1.step t2, r2, ?_⟩
      cases h3 : f x y with
      | none => rw [h3] at q2; exact False.elim q2
      | some k =>
        rw [h3] at q2
        simp only [opt_some, bind_ok] at q2
        dsimp only
        rw [h3]
        refine ⟨fun v3 F3 H3 t3 r3 _ => ⟨k, r3.bl', ?_⟩, fun ds e => PyData.noConfusion e⟩
        have q3 := Post.step t2.ok t3 q2
        cases k with
        | false => exact iteF (Post.flat t3.ok q3 (.bl _))
        | true =>
          refine iteT ⟨B, F3, ρ, s2, ((R.step t1).step t2).step t3, ?_⟩
          rw [if_pos rfl] at q3
          cases h4 : mc ρ s2 with
          | bad => rw [h4] at q3; exact q3
          | exc c s4 => rw [h4] at q3; exact q3
          | ok z s4 =>
            rw [h4] at q3
            intro v4 F4 H4 t4 r4
            exact ⟨B.dc, F4, s4, y, z, t4.ok, (r2.step t3).step t4, r4, (Post.step t3.ok t4 q3).toF⟩
theorem de_chain {op op' : CmpOp} {f g : D → D → Option Bool} (ho : OpR X (compareOp op) (rF W fun x y => (f x y).map .bool)) (ho' : OpR X (compareOp op') (rF W fun x y => (g x y).map .bool)) (ha : PE X a (tB W ma)) (hb : PE X b (tB W mb)) (hc : PE X c (tB W mc))
    (hm : lastMarks [op, op'] [b, c] = false) : PE X (.Compare a [op, op'] [b, c] pos) (tM W (chn f g ma mb mc)) := PEimp (pe_chain ho ho' ha hb hc hm) fun _ _ _ h => tM_chn h
theorem dt_chain {op op' : CmpOp} {f g : D → D → Option Bool} (ho : OpR X (compareOp op) (rF W fun x y => (f x y).map .bool)) (ho' : OpR X (compareOp op') (rF W fun x y => (g x y).map .bool)) (ha : PE X a (tB W ma)) (hb : PE X b (tB W mb)) (hc : PE X c (tB W mc))
    (hm : lastMarks [op, op'] [b, c] = false) : PT X (.Compare a [op, op'] [b, c] pos) (tT W (chn f g ma mb mc)) :=
  PTimp (pt_chain ho ho' ha hb hc hm) fun σ H Q h => tM_chn (tT_of (t := tC .non) h)
end
end Co

/-! Core 5: arguments, displays, subscripts, slices, calls. -/
namespace Co
open PySem PySem.Spec PyProof.Rows L2
variable [TabT]

/-! ### relations of values to what they stand for -/
abbrev ERel (α : Type) := DT → Hp → Hp → V → α → Prop
def StE {α : Type} (E : ERel α) : Prop := ∀ dc F H F' H' s' v a, Step dc F H F' H' s' → E dc F H v a → E dc F' H' v a
abbrev EP1 : ERel D := fun _ F _ v d => Rp F v d
abbrev EB1 : ERel D := fun dc F H v d => Rb dc F H v d
def EA1 : ERel SV := fun dc F _ v a => match a with
  | .val d => Rp F v d
  | .dice => ∃ p, dc.d = some p ∧ v = .ref p
  | _ => False
theorem st_P : StE EP1 := fun _ _ _ _ _ _ _ _ t r => r.mono t.ff
theorem st_B : StE EB1 := fun _ _ _ _ _ _ _ _ t r => r.step t
theorem st_A : StE EA1 := fun _ _ _ _ _ _ _ a t r => by
  cases a with
  | val d => exact Rp.mono t.ff r
  | dice => exact r
  | no => exact r
  | own ds => exact r
def PostG {α : Type} (E : ERel α) (dc : DT) (W : WS) (F H : Hp) (r : Res α) (Q : V → Hp → Prop) : Prop :=
  match r with
  | .ok d s' => ∀ v F' H', Step dc F H F' H' s' → E dc F' H' v d → Q v H'
  | .exc c s' => ∀ F' H', Step dc F H F' H' s' → W c H'
  | .bad => False
def tG {α : Type} (E : ERel α) (W : WS) (m : Env → Dice → Res α) : TE := fun σ H Q => ∃ B F ρ s, Rel B F σ ρ H s ∧ PostG E B.dc W F H (m ρ s) Q
def PostL {α : Type} (E : ERel α) (dc : DT) (W : WS) (F H : Hp) (r : Res (List α)) (Q : List V → Hp → Prop) : Prop :=
  match r with
  | .ok d s' => ∀ vs F' H', Step dc F H F' H' s' → Paired (E dc F' H') vs d → Q vs H'
  | .exc c s' => ∀ F' H', Step dc F H F' H' s' → W c H'
  | .bad => False
def tL {α : Type} (E : ERel α) (W : WS) (m : Env → Dice → Res (List α)) : TA := fun σ H Q => ∃ B F ρ s, Rel B F σ ρ H s ∧ PostL E B.dc W F H (m ρ s) Q
section
variable {X : Cx} {W : WS} {a b c e : Expr} {es : List Expr} {m ma mb mc : Env → Dice → Res D} {pos : Pos}
theorem PAimp {t t' : TA} (h : PA X es t) (i : ∀ σ H Q, t' σ H Q → t σ H Q) : PA X es t' := ⟨fun pos pins s σ H Q I q => h.run pos pins s σ H Q I (i σ H Q q)⟩
theorem mG (h : PE X e (tM W m)) : PE X e (tG EP1 W m) :=
  PEimp h fun σ H Q ⟨B, F, ρ, s, R, q⟩ => ⟨B, F, ρ, s, R, by
    cases h1 : m ρ s with
    | bad => rw [h1] at q; exact q
    | exc c s1 => rw [h1] at q; exact q
    | ok d s1 => rw [h1] at q; exact q⟩
theorem bG (h : PE X e (tB W m)) : PE X e (tG EB1 W m) :=
  PEimp h fun σ H Q ⟨B, F, ρ, s, R, q⟩ => ⟨B, F, ρ, s, R, by
    cases h1 : m ρ s with
    | bad => rw [h1] at q; exact q
    | exc c s1 => rw [h1] at q; exact q
    | ok d s1 => rw [h1] at q; exact q⟩
theorem aG (h : PE X e (tM W m)) : PE X e (tG EA1 W fun ρ s => (m ρ s).bind fun d s1 => .ok (.val d) s1) :=
  PEimp h fun σ H Q ⟨B, F, ρ, s, R, q⟩ => ⟨B, F, ρ, s, R, by
    dsimp only at q
    cases h1 : m ρ s with
    | bad => rw [h1] at q; exact q
    | exc c s1 => rw [h1] at q; exact q
    | ok d s1 =>
      rw [h1] at q
      exact fun v F' H' t r => q v F' H' t r⟩
theorem dG {x : Str} {i : Nat} (h : PE X (.Name x pos) (tVar i)) : PE X (.Name x pos) (tG EA1 W fun ρ s => if isDice ρ i = true then .ok .dice s else .bad) :=
  PEimp h fun σ H Q ⟨B, F, ρ, s, R, q⟩ => by
    dsimp only at q
    by_cases hd : isDice ρ i = true
    · rw [if_pos hd] at q
      obtain ⟨p, e1, e2⟩ := R.sd i (isDice_some hd)
      exact ⟨_, e2, q _ F H (Step.refl R.ok) ⟨p, e1, rfl⟩⟩
    · rw [if_neg hd] at q
      exact False.elim q
theorem pairedG {α : Type} {E : ERel α} (hE : StE E) {dc : DT} {F H F' H' : Hp} {s' : Dice} (t : Step dc F H F' H' s') {vs : List V} {as : List α} (h : Paired (E dc F H) vs as) : Paired (E dc F' H') vs as :=
  Paired.mapP h fun v a r => hE _ _ _ _ _ _ _ _ t r
theorem da_nil {α : Type} {E : ERel α} : PA X [] (tL E W fun _ s => .ok [] s) :=
  PAimp pa_nil fun σ H Q ⟨B, F, ρ, s, R, q⟩ => q [] F H (Step.refl R.ok) .nil
theorem da_cons {α : Type} {E : ERel α} (hE : StE E) {m : Env → Dice → Res α} {r : Env → Dice → Res (List α)} (he : PE X e (tG E W m)) (hr : PA X es (tL E W r)) (hs : starEach (e :: es) X.env = (false, eval e X.env) :: starEach es X.env) :
    PA X (e :: es) (tL E W fun ρ s => (m ρ s).bind fun x s1 => (r ρ s1).bind fun xs s2 => .ok (x :: xs) s2) := by
  refine PAimp (pa_cons he hr hs) fun σ H Q ⟨B, F, ρ, s, R, q⟩ => ⟨B, F, ρ, s, R, ?_⟩
  dsimp only at q
  cases h1 : m ρ s with
  | bad => rw [h1] at q; exact q
  | exc c s1 => rw [h1] at q; exact q
  | ok d s1 =>
    rw [h1] at q
    intro v1 F1 H1 t1 r1
    refine ⟨B, F1, ρ, s1, R.step t1, ?_⟩
    simp only [bind_ok] at q
    cases h2 : r ρ s1 with
    | bad => rw [h2] at q; exact q
    | exc c s2 => rw [h2] at q; exact fun F' H' t' => q F' H' (t1.trans R.ok t')
    | ok ds s2 =>
      rw [h2] at q
      exact fun vs F2 H2 t2 r2 => q (v1 :: vs) F2 H2 (t1.trans R.ok t2) (.cons (hE _ _ _ _ _ _ _ _ t2 r1) r2)
theorem RpA.ofP {dc : DT} {F H : Hp} : ∀ {vs : List V} {ds : List D}, Paired (EP1 dc F H) vs ds → RpA F vs ds
  | _, _, .nil => .nil
  | _, _, .cons h r => .cons h (RpA.ofP r)
/-! ### displays -/
variable {ml : Env → Dice → Res (List D)}
theorem de_tup {k : Nat} (h : PA X es (tL EP1 W ml)) : PE X (.Tuple es k pos) (tM W fun ρ s => (ml ρ s).bind fun xs s1 => if xs.length ≤ sizeLine then .ok (.tuple xs) s1 else .bad) := by
  refine PEimp (pe_tup h) fun σ H Q ⟨B, F, ρ, s, R, q⟩ => ⟨B, F, ρ, s, R, ?_⟩
  dsimp only at q
  cases h1 : ml ρ s with
  | bad => rw [h1] at q; exact q
  | exc c s1 => rw [h1] at q; exact q
  | ok ds s1 =>
    rw [h1] at q
    simp only [bind_ok] at q
    intro vs F' H' t r
    have r' := RpA.ofP r
    by_cases hz : ds.length ≤ sizeLine
    · rw [if_pos hz] at q
      exact ⟨by rw [r'.len]; exact hz, fun p hp => PostF.newTup t.ok (Post.toF (Post.step R.ok t q)) hp r'⟩
    · rw [if_neg hz] at q
      exact False.elim q
theorem de_lst (h : PA X es (tL EP1 W ml)) : PE X (.List es pos) (tF W fun ρ s => (ml ρ s).bind fun xs s1 => if xs.length ≤ sizeLine then .ok (.list xs) s1 else .bad) := by
  refine PEimp (pe_lst h) fun σ H Q ⟨B, F, ρ, s, R, q⟩ => ⟨B, F, ρ, s, R, ?_⟩
  dsimp only at q
  cases h1 : ml ρ s with
  | bad => rw [h1] at q; exact q
  | exc c s1 => rw [h1] at q; exact q
  | ok ds s1 =>
    rw [h1] at q
    simp only [bind_ok] at q
    intro vs F' H' t r
    have r' := RpA.ofP r
    by_cases hz : ds.length ≤ sizeLine
    · rw [if_pos hz] at q
      exact ⟨by rw [r'.len]; exact hz, fun p hp => PostF.newList t.ok (PostF.step R.ok t q) hp r'⟩
    · rw [if_neg hz] at q
      exact False.elim q
/-! ### subscripts -/
def rM (W : WS) (f : D → D → Option D) : R2 := fun x y H Q => ∃ dc F s d e, Ok dc F H s ∧ Rb dc F H x d ∧ Rb dc F H y e ∧ Post dc W F H (.opt (f d e) s) Q
theorem tM_b2 {f : D → D → Option D} {σ : L2.St} {H : Hp} {Q : VK} (h : tM W (b2 f ma mb) σ H Q) : tOp (rM W f) (tB W ma) (tB W mb) σ H Q := by
  obtain ⟨B, F, ρ, s, R, q⟩ := h
  refine ⟨B, F, ρ, s, R, ?_⟩
  unfold b2 at q
  cases h1 : ma ρ s with
  | bad => rw [h1] at q; exact q
  | exc c s1 => rw [h1] at q; exact q
  | ok d s1 =>
    rw [h1] at q
    intro v1 F1 H1 t1 r1
    refine ⟨B, F1, ρ, s1, R.step t1, ?_⟩
    simp only [bind_ok] at q
    cases h2 : mb ρ s1 with
    | bad => rw [h2] at q; exact q
    | exc c s2 => rw [h2] at q; exact fun F' H' t' => q F' H' (t1.trans R.ok t')
    | ok e s2 =>
      rw [h2] at q
      intro v2 F2 H2 t2 r2
      exact ⟨B.dc, F2, s2, d, e, t2.ok, r1.step t2, r2, Post.step R.ok (t1.trans R.ok t2) q⟩
theorem atI_rp {F : Hp} {ds : List D} {vs : List V} {i : Int} {d : D} (r : RpA F vs ds) (h : atI ds i = some d) : ∃ v, atI vs i = some v ∧ Rp F v d := by
  unfold atI at h ⊢
  rw [r.len]
  cases e : ixN ds.length i with
  | none => rw [e] at h; cases h
  | some j =>
    rw [e] at h
    obtain ⟨v, e1, r1⟩ := r.get (i := j) h
    exact ⟨v, e1, r1⟩
theorem ix_sub : IxR X (rM W subD) := by
  rintro value slice pins s σ H x y v u Q I rx ry ⟨dc, F, st, d, e, o, rd, re, q⟩
  cases d <;> cases e <;> first
    | exact fun _ => False.elim q
    | skip
  case str.int z i =>
    by_cases hz : z.length ≤ sizeLine
    · simp only [subD, if_pos hz] at q
      cases h : atI z.cps.toList i with
      | none => rw [h] at q; exact fun _ => False.elim q
      | some c =>
        rw [h] at q
        exact ix_str value slice pins s σ H x y v u Q I rx ry ⟨z, i, c, rd.str, re.int, hz, h, Post.flat o q (.str _)⟩
    · simp only [subD, if_neg hz] at q
      exact fun _ => False.elim q
  case list.int ds i =>
    simp only [subD] at q
    obtain ⟨p, vs, rfl, _, h1, r⟩ := rd.list o
    cases h : atI ds i with
    | none => rw [h] at q; exact fun _ => False.elim q
    | some c =>
      rw [h] at q
      obtain ⟨w, e1, r1⟩ := atI_rp r h
      exact ix_list value slice pins s σ H _ y v u Q I rx ry ⟨p, vs, i, w, rfl, re.int, .of h1, e1, Post.flat o q r1⟩
  case tuple.int ds i =>
    simp only [subD] at q
    obtain ⟨p, vs, rfl, _, h1, r⟩ := rd.tuple o
    cases h : atI ds i with
    | none => rw [h] at q; exact fun _ => False.elim q
    | some c =>
      rw [h] at q
      obtain ⟨w, e1, r1⟩ := atI_rp r h
      exact ix_tup value slice pins s σ H _ y v u Q I rx ry ⟨p, vs, i, w, rfl, re.int, .of h1, e1, Post.flat o q r1⟩
theorem de_sub (ha : PE X a (tB W ma)) (hb : PE X b (tB W mb)) (hs : PlainIx b) : PE X (.Subscript a b pos) (tM W (b2 subD ma mb)) := PEimp (pe_ix (ix_sub (W := W)) ha hb hs) fun _ _ _ h => tM_b2 h
/-! ### slices -/
def tOI (W : WS) (m : Env → Dice → Res (Option Int)) : TO := fun σ H Q => ∃ B F ρ s, Rel B F σ ρ H s ∧ match m ρ s with
  | .ok d s' => ∀ F' H', Step B.dc F H F' H' s' → Q d H'
  | .exc c s' => ∀ F' H', Step B.dc F H F' H' s' → W c H'
  | .bad => False
theorem POimp {o : Option Expr} {t t' : TO} (h : PO X o t) (i : ∀ σ H Q, t' σ H Q → t σ H Q) : PO X o t' := ⟨fun pins s σ H Q I q => h.run pins s σ H Q I (i σ H Q q)⟩
theorem do_none : PO X none (tOI W fun _ s => .ok none s) := POimp po_none fun σ H Q ⟨B, F, ρ, s, R, q⟩ => q F H (Step.refl R.ok)
theorem do_some (h : PE X e (tB W m)) : PO X (some e) (tOI W fun ρ s => (m ρ s).bind fun x s1 => match x with
    | .int i => .ok (some i) s1
    | _ => .bad) :=
  POimp (po_some h) fun σ H Q ⟨B, F, ρ, s, R, q⟩ => ⟨B, F, ρ, s, R, by
    dsimp only at q
    cases h1 : m ρ s with
    | bad => rw [h1] at q; exact q
    | exc c s1 => rw [h1] at q; exact q
    | ok d s1 =>
      rw [h1] at q
      cases d <;> first
        | exact False.elim q
        | skip
      case int i => exact fun v F' H' t r => ⟨i, r.int, q F' H' t⟩⟩
theorem RpA.cut {F : Hp} {ds : List D} {vs : List V} (r : RpA F vs ds) (lo hi : Option Int) : RpA F (cutV vs lo hi) (cutD ds lo hi) := by
  unfold cutV cutD
  rw [r.len]
  exact (r.drop _).take _
def rSF (W : WS) (f : D → Option Int → Option Int → Option D) : V → Option Int → Option Int → Hp → VK → Prop := fun x lo hi H Q => ∃ dc F s d, Ok dc F H s ∧ Rb dc F H x d ∧ PostF dc W F H (.opt (f d lo hi) s) Q
theorem cut_whole {ds : List D} {lo hi : Option Int} (h : HT.sIx ds.length 0 lo = 0 ∧ HT.sIx ds.length ds.length hi = ds.length) : cutD ds lo hi = ds := by
  unfold cutD
  rw [h.1, h.2]
  simp
theorem sl_D : SlR X (rSF W slcD) := by
  rintro pins s σ H x v vl vu lo hi sl Q I rx hs pl pu ⟨dc, F, st, d, o, rd, q⟩
  cases d <;> first
    | exact False.elim q
    | skip
  case str z =>
    by_cases hz : z.length ≤ sizeLine
    · simp only [slcD, if_pos hz] at q
      exact sl_str pins s σ H x v vl vu lo hi sl Q I rx hs pl pu ⟨z, rd.str, hz, q.flat o (fun _ e => by cases e) (.str _)⟩
    · simp only [slcD, if_neg hz] at q
      exact False.elim q
  case list ds =>
    obtain ⟨p, vs, rfl, _, h1, r⟩ := rd.list o
    exact sl_list pins s σ H _ v vl vu lo hi sl Q I rx hs pl pu ⟨p, vs, rfl, .of h1, fun p hp => PostF.newList o q hp (r.cut lo hi)⟩
  case tuple ds =>
    obtain ⟨p, vs, rfl, f1, h1, r⟩ := rd.tuple o
    refine sl_tupA pins s σ H _ v vl vu lo hi sl Q I rx hs pl pu ⟨p, vs, rfl, .of h1, fun hw => ?_, fun _ p hp => PostF.newTup o q hp (r.cut lo hi)⟩
    rw [r.len] at hw
    have q' : PostF dc W F H (.ok (.tuple (cutD ds lo hi)) st) Q := q
    rw [cut_whole hw] at q'
    exact q'.flat o (fun _ e => by cases e) (.tup f1 r)
def b3 (f : D → Option Int → Option Int → Option D) (ma : Env → Dice → Res D) (ml mh : Env → Dice → Res (Option Int)) : Env → Dice → Res D := fun ρ s => (ma ρ s).bind fun x s1 => (ml ρ s1).bind fun l s2 => (mh ρ s2).bind fun h s3 => .opt (f x l h) s3
theorem de_slc {lo hi : Option Expr} {mlo mhi : Env → Dice → Res (Option Int)} {p2 : Pos} (ha : PE X a (tB W ma)) (hl : PO X lo (tOI W mlo)) (hh : PO X hi (tOI W mhi)) : PE X (.Subscript a (.Slice lo hi none p2) pos) (tF W (b3 slcD ma mlo mhi)) := by
  refine PEimp (pe_slice (sl_D (W := W)) ha hl hh) fun σ H Q ⟨B, F, ρ, s, R, q⟩ => ⟨B, F, ρ, s, R, ?_⟩
  unfold b3 at q
  cases h1 : ma ρ s with
  | bad => rw [h1] at q; exact q
  | exc c s1 => rw [h1] at q; exact q
  | ok d s1 =>
    rw [h1] at q
    intro v1 F1 H1 t1 r1
    refine ⟨B, F1, ρ, s1, R.step t1, ?_⟩
    have q1 := PostF.step R.ok t1 q
    simp only [bind_ok] at q1
    cases h2 : mlo ρ s1 with
    | bad => rw [h2] at q1; exact q1
    | exc c s2 => rw [h2] at q1; exact q1
    | ok l s2 =>
      rw [h2] at q1
      intro F2 H2 t2
      refine ⟨B, F2, ρ, s2, (R.step t1).step t2, ?_⟩
      have q2 := PostF.step t1.ok t2 q1
      simp only [bind_ok] at q2
      cases h3 : mhi ρ s2 with
      | bad => rw [h3] at q2; exact q2
      | exc c s3 => rw [h3] at q2; exact q2
      | ok h s3 =>
        rw [h3] at q2
        intro F3 H3 t3
        exact ⟨B.dc, F3, s3, d, t3.ok, (r1.step t2).step t3, PostF.step t2.ok t3 q2⟩
/-! ### built-ins -/
def cF (W : WS) (f : List D → Option D) : List V → Hp → VK → Prop := fun vs H Q => ∃ dc F s ds, Ok dc F H s ∧ Paired (EB1 dc F H) vs ds ∧ PostF dc W F H (.opt (f ds) s) Q
theorem tF_cb {f : List D → Option D} {σ : L2.St} {H : Hp} {Q : VK} (h : tF W (fun ρ s => (ml ρ s).bind fun xs s1 => .opt (f xs) s1) σ H Q) : tCB (cF W f) (tL EB1 W ml) σ H Q := by
  obtain ⟨B, F, ρ, s, R, q⟩ := h
  refine ⟨B, F, ρ, s, R, ?_⟩
  dsimp only at q
  cases h1 : ml ρ s with
  | bad => rw [h1] at q; exact q
  | exc c s1 => rw [h1] at q; exact q
  | ok d s1 =>
    rw [h1] at q
    exact fun vs F' H' t r => ⟨B.dc, F', s1, d, t.ok, r, PostF.step R.ok t q⟩
section
variable {x : Str} {id T : String} {p : Pos} {f : List D → Option D}
theorem de_callB (hc : CallR X (.builtin id) (cF W f)) (hg : Gl X x) (hm : X.mg x = none) (hv : bootBuiltins x = some (.builtin id)) (ha : PA X (e :: es) (tL EB1 W ml)) (hn : x ≠ "__name__") (hdb : (x == ("__debug__" : Str)) = false)
    (he : starEach (e :: es) X.env = (false, eval e X.env) :: starEach es X.env) (hpl : (backTo pos (starEach es X.env)).any (·.1) = false) : PE X (.Call (.Name x p) (e :: es) [] pos) (tF W fun ρ s => (ml ρ s).bind fun xs s1 => .opt (f xs) s1) :=
  PEimp (pe_callB hc hg hm hv ha hn hdb he hpl) fun _ _ _ h => tF_cb h
theorem de_callTy (hc : CallR X (.type T) (cF W f)) (hg : Gl X x) (hm : X.mg x = none) (hv : bootBuiltins x = some (.type T)) (ha : PA X (e :: es) (tL EB1 W ml)) (hn : x ≠ "__name__") (hdb : (x == ("__debug__" : Str)) = false)
    (he : starEach (e :: es) X.env = (false, eval e X.env) :: starEach es X.env) (hpl : (backTo pos (starEach es X.env)).any (·.1) = false) : PE X (.Call (.Name x p) (e :: es) [] pos) (tF W fun ρ s => (ml ρ s).bind fun xs s1 => .opt (f xs) s1) :=
  PEimp (pe_callTy hc hg hm hv ha hn hdb he hpl) fun _ _ _ h => tF_cb h
end
theorem p1 {dc : DT} {F H : Hp} {vs : List V} {d : D} (r : Paired (EB1 dc F H) vs [d]) : ∃ v, vs = [v] ∧ Rb dc F H v d := by
  cases r with
  | cons h t => cases t; exact ⟨_, rfl, h⟩
theorem p2 {dc : DT} {F H : Hp} {vs : List V} {d e : D} (r : Paired (EB1 dc F H) vs [d, e]) : ∃ v w, vs = [v, w] ∧ Rb dc F H v d ∧ Rb dc F H w e := by
  cases r with
  | cons h t => obtain ⟨w, rfl, h2⟩ := p1 t; exact ⟨_, _, rfl, h, h2⟩
theorem p3 {dc : DT} {F H : Hp} {vs : List V} {d e f : D} (r : Paired (EB1 dc F H) vs [d, e, f]) : ∃ v w z, vs = [v, w, z] ∧ Rb dc F H v d ∧ Rb dc F H w e ∧ Rb dc F H z f := by
  cases r with
  | cons h t => obtain ⟨w, z, rfl, h2, h3⟩ := p2 t; exact ⟨_, _, _, rfl, h, h2, h3⟩
theorem cf_un {f : D → Option D} {K : Value} (h : ∀ (pins : List (Addr × Obj)) (s : Shared) (σ : L2.St) (H : Hp) (v : V) (us : List Value) (Q : VK) (dc : DT) (F : Hp) (st : Dice) (d : D), Inv X pins σ H s → Vals [v] us → Ok dc F H st → Rb dc F H v d → PostF dc W F H (.opt (f d) st) Q →
    wpAny (model X.prog X.w) X.A (call K us) (EP X pins σ Q) X.xe s) : CallR X K (cF W (un1 f)) := by
  rintro pins s σ H vs us Q I rv ⟨dc, F, st, ds, o, r, q⟩
  match ds, r, q with
  | [], _, q => exact False.elim q
  | _ :: _ :: _, _, q => exact False.elim q
  | [d], r, q =>
    obtain ⟨v, rfl, r1⟩ := p1 r
    exact h pins s σ H v us Q dc F st d I rv o r1 q
theorem cb_len : CallR X (.builtin "len") (cF W (bltD .len)) := cf_un fun pins s σ H v us Q dc F st d I rv o r q => by
  cases d with
  | str z =>
    by_cases hz : z.length ≤ sizeLine
    · simp only [lenD, if_pos hz] at q
      exact call_len pins s σ H _ us Q I rv ⟨_, _, rfl, by rw [r.str]; exact ⟨hz, rfl⟩, q.flat o (fun _ e => by cases e) (.int _)⟩
    · simp only [lenD, if_neg hz] at q
      exact False.elim q
  | list ds =>
    obtain ⟨p, xs, rfl, _, h1, r⟩ := r.list o
    exact call_len pins s σ H _ us Q I rv ⟨_, xs.length, rfl, .inl ⟨xs, .of h1, rfl⟩, PostF.flat o q (fun _ e => by cases e) (by rw [r.len]; exact .int _)⟩
  | tuple ds =>
    obtain ⟨p, xs, rfl, _, h1, r⟩ := r.tuple o
    exact call_len pins s σ H _ us Q I rv ⟨_, xs.length, rfl, .inr ⟨xs, .of h1, rfl⟩, PostF.flat o q (fun _ e => by cases e) (by rw [r.len]; exact .int _)⟩
  | _ => exact False.elim q
theorem cb_int : CallR X (.type "int") (cF W (bltD .int)) := cf_un fun pins s σ H v us Q dc F st d I rv o r q => by
  cases d with
  | int i => exact call_int1 pins s σ H _ us Q I rv (.inl ⟨i, by rw [r.int], PostF.flat o q (fun _ e => by cases e) (.int _)⟩)
  | bool b => exact call_int1 pins s σ H _ us Q I rv (.inr ⟨b, by rw [r.bl], PostF.flat o q (fun _ e => by cases e) (.int _)⟩)
  | str z =>
    by_cases hz : z.length ≤ 640
    · simp only [intD, if_pos hz] at q
      cases h : PySem.intText? z with
      | none => rw [h] at q; exact False.elim q
      | some n =>
        rw [h] at q
        exact call_int_str pins s σ H _ us Q I rv ⟨z, n, by rw [r.str], h, hz, PostF.flat o q (fun _ e => by cases e) (.int _)⟩
    · simp only [intD, if_neg hz] at q
      exact False.elim q
  | _ => exact False.elim q
theorem cb_str : CallR X (.type "str") (cF W (bltD .str)) := cf_un fun pins s σ H v us Q dc F st d I rv o r q => by
  cases d with
  | int i =>
    by_cases hz : i.natAbs.log2 < 1920
    · simp only [strD, if_pos hz] at q
      exact call_str_int pins s σ H _ us Q I rv ⟨i, by rw [r.int], hz, PostF.flat o q (fun _ e => by cases e) (.str _)⟩
    · simp only [strD, if_neg hz] at q
      exact False.elim q
  | _ => exact False.elim q
theorem cb_tuple : CallR X (.type "tuple") (cF W (bltD .tuple)) := cf_un fun pins s σ H v us Q dc F st d I rv o r q => by
  cases d with
  | list ds =>
    obtain ⟨p, xs, rfl, _, h1, r⟩ := r.list o
    exact call_tuple_of pins s σ H _ us Q I rv ⟨p, xs, rfl, .inl ⟨.of h1, fun l hl => PostF.newTup o q hl r⟩⟩
  | tuple ds =>
    obtain ⟨p, xs, rfl, f1, h1, r⟩ := r.tuple o
    exact call_tuple_of pins s σ H _ us Q I rv ⟨p, xs, rfl, .inr ⟨.of h1, PostF.flat o q (fun _ e => by cases e) (.tup f1 r)⟩⟩
  | _ => exact False.elim q
theorem cb_list : CallR X (.type "list") (cF W (bltD .list)) := cf_un fun pins s σ H v us Q dc F st d I rv o r q => by
  cases d with
  | list ds =>
    obtain ⟨p, xs, rfl, _, h1, r⟩ := r.list o
    exact call_list_of pins s σ H _ us Q I rv ⟨p, xs, rfl, .inl (.of h1), fun l hl => PostF.newList o q hl r⟩
  | tuple ds =>
    obtain ⟨p, xs, rfl, f1, h1, r⟩ := r.tuple o
    exact call_list_of pins s σ H _ us Q I rv ⟨p, xs, rfl, .inr (.of h1), fun l hl => PostF.newList o q hl r⟩
  | _ => exact False.elim q
theorem cb_abs : CallR X (.builtin "abs") (cF W (bltD .abs)) := cf_un fun pins s σ H v us Q dc F st d I rv o r q => by
  cases d with
  | int i => exact call_abs pins s σ H _ us Q I rv ⟨i, by rw [r.int], PostF.flat o q (fun _ e => by cases e) (.int _)⟩
  | _ => exact False.elim q
theorem cb_sum (hc : X.calm = true) : CallR X (.builtin "sum") (cF W (bltD .sum)) := cf_un fun pins s σ H v us Q dc F st d I rv o r q => by
  cases d with
  | list ds =>
    obtain ⟨p, xs, rfl, _, h1, r⟩ := r.list o
    simp only [sumD] at q
    cases h : intsD ds with
    | none => rw [h] at q; exact False.elim q
    | some ns =>
      rw [h] at q
      have e := r.ints h
      subst e
      exact cr_sum hc pins s σ H _ us Q I rv ⟨p, ns, rfl, .of h1, PostF.flat o q (fun _ e => by cases e) (.int _)⟩
  | _ => exact False.elim q
theorem cb_all (hc : X.calm = true) : CallR X (.builtin "all") (cF W (bltD .all)) := cf_un fun pins s σ H v us Q dc F st d I rv o r q => by
  cases d with
  | list ds =>
    obtain ⟨p, xs, rfl, _, h1, r⟩ := r.list o
    simp only [allD] at q
    cases h : boolsD ds with
    | none => rw [h] at q; exact False.elim q
    | some ns =>
      rw [h] at q
      have e := r.bools h
      subst e
      exact cr_all hc pins s σ H _ us Q I rv ⟨p, ns, rfl, .of h1, PostF.flat o q (fun _ e => by cases e) (.bl _)⟩
  | _ => exact False.elim q
theorem cb_any (hc : X.calm = true) : CallR X (.builtin "any") (cF W (bltD .any)) := cf_un fun pins s σ H v us Q dc F st d I rv o r q => by
  cases d with
  | list ds =>
    obtain ⟨p, xs, rfl, _, h1, r⟩ := r.list o
    simp only [anyD] at q
    cases h : boolsD ds with
    | none => rw [h] at q; exact False.elim q
    | some ns =>
      rw [h] at q
      have e := r.bools h
      subst e
      exact cr_any hc pins s σ H _ us Q I rv ⟨p, ns, rfl, .of h1, PostF.flat o q (fun _ e => by cases e) (.bl _)⟩
  | _ => exact False.elim q
theorem maxI_le : ∀ (ns : List Int) (m : Int), m ≤ maxI m ns ∧ (∀ y ∈ ns, y ≤ maxI m ns) ∧ (maxI m ns = m ∨ maxI m ns ∈ ns)
  | [], m => ⟨Int.le_refl _, (fun y h => by cases h), .inl rfl⟩
  | x :: r, m => by
    unfold maxI
    obtain ⟨h1, h2, h3⟩ := maxI_le r (if m < x then x else m)
    by_cases hx : m < x
    · rw [if_pos hx] at h1 h2 h3 ⊢
      exact ⟨by omega, fun y hy => by rcases List.mem_cons.mp hy with rfl | hy; exact h1; exact h2 y hy, by rcases h3 with h3 | h3; exact .inr (by rw [h3]; exact List.mem_cons_self); exact .inr (List.mem_cons_of_mem _ h3)⟩
    · rw [if_neg hx] at h1 h2 h3 ⊢
      exact ⟨h1, fun y hy => by rcases List.mem_cons.mp hy with rfl | hy; exact Int.le_trans (Int.not_lt.mp hx) h1; exact h2 y hy, by rcases h3 with h3 | h3; exact .inl h3; exact .inr (List.mem_cons_of_mem _ h3)⟩
theorem minI_le : ∀ (ns : List Int) (m : Int), minI m ns ≤ m ∧ (∀ y ∈ ns, minI m ns ≤ y) ∧ (minI m ns = m ∨ minI m ns ∈ ns)
  | [], m => ⟨Int.le_refl _, (fun y h => by cases h), .inl rfl⟩
  | x :: r, m => by
    unfold minI
    obtain ⟨h1, h2, h3⟩ := minI_le r (if x < m then x else m)
    by_cases hx : x < m
    · rw [if_pos hx] at h1 h2 h3 ⊢
      exact ⟨by omega, fun y hy => by rcases List.mem_cons.mp hy with rfl | hy; exact h1; exact h2 y hy, by rcases h3 with h3 | h3; exact .inr (by rw [h3]; exact List.mem_cons_self); exact .inr (List.mem_cons_of_mem _ h3)⟩
    · rw [if_neg hx] at h1 h2 h3 ⊢
      exact ⟨h1, fun y hy => by rcases List.mem_cons.mp hy with rfl | hy; exact Int.le_trans h1 (Int.not_lt.mp hx); exact h2 y hy, by rcases h3 with h3 | h3; exact .inl h3; exact .inr (List.mem_cons_of_mem _ h3)⟩
theorem maxI_one {n m : Int} {ns : List Int} (h : m ∈ n :: ns) (hl : ∀ y, y ∈ n :: ns → y ≤ m) : m = maxI n ns := by
  obtain ⟨h1, h2, h3⟩ := maxI_le ns n
  have a : m ≤ maxI n ns := by
    rcases List.mem_cons.mp h with rfl | h
    · exact h1
    · exact h2 m h
  have b : maxI n ns ≤ m := by
    rcases h3 with h3 | h3
    · rw [h3]; exact hl n List.mem_cons_self
    · exact hl _ (List.mem_cons_of_mem _ h3)
  omega
theorem minI_one {n m : Int} {ns : List Int} (h : m ∈ n :: ns) (hl : ∀ y, y ∈ n :: ns → m ≤ y) : m = minI n ns := by
  obtain ⟨h1, h2, h3⟩ := minI_le ns n
  have a : minI n ns ≤ m := by
    rcases List.mem_cons.mp h with rfl | h
    · exact h1
    · exact h2 m h
  have b : m ≤ minI n ns := by
    rcases h3 with h3 | h3
    · rw [h3]; exact hl n List.mem_cons_self
    · exact hl _ (List.mem_cons_of_mem _ h3)
  omega
theorem cb_max (hc : X.calm = true) : CallR X (.builtin "max") (cF W (bltD .max)) := by
  rintro pins s σ H vs us Q I rv ⟨dc, F, st, ds, o, r, q⟩
  match ds, r, q with
  | [], _, q => exact False.elim q
  | _ :: _ :: _ :: _ :: _, _, q => exact False.elim q
  | [d, e, f], r, q =>
    obtain ⟨v, w, z, rfl, r1, r2, r3⟩ := p3 r
    have e1 : ∀ a b : Int, nuMax2 (.int a) (.int b) = some (.int (if a < b then b else a)) := fun a b => by
      unfold nuMax2
      show (some (decide (a < b))).map _ = _
      by_cases h : a < b
      · simp [h]
      · simp [h]
    cases d with
    | int i =>
      cases e with
      | int j =>
        cases f with
        | int k =>
          refine call_max3Nu hc pins s σ H _ us Q I rv ⟨.int i, .int j, .int k, .int (maxI i [j, k]), by rw [r1.int, r2.int, r3.int], ?_, PostF.flat o q (fun _ e => by cases e) (.int _)⟩
          show ((nuMax2 (.int i) (.int j)).bind fun m => nuMax2 m (.int k)) = some (.int (maxI i [j, k]))
          rw [e1]
          show nuMax2 (.int (if i < j then j else i)) (.int k) = _
          rw [e1]
          rfl
        | _ => exact False.elim q
      | _ => exact False.elim q
    | _ => exact False.elim q
  | [d, e], r, q =>
    obtain ⟨v, w, rfl, r1, r2⟩ := p2 r
    cases d with
    | int i =>
      cases e with
      | int j => exact call_max2 hc pins s σ H _ us Q I rv ⟨i, j, by rw [r1.int, r2.int], PostF.flat o q (fun _ e => by cases e) (.int _)⟩
      | _ => exact False.elim q
    | _ => exact False.elim q
  | [d], r, q =>
    obtain ⟨v, rfl, r1⟩ := p1 r
    cases d with
    | list ds =>
      obtain ⟨p, xs, rfl, _, h1, r⟩ := r1.list o
      simp only [bltD, max123, maxD] at q
      cases h : intsD ds with
      | none => rw [h] at q; exact False.elim q
      | some ns =>
        rw [h] at q
        cases ns with
        | nil => exact False.elim q
        | cons n ns =>
          have e := r.ints h
          subst e
          exact cr_max hc pins s σ H _ us Q I rv ⟨p, n :: ns, rfl, .of h1, by simp, fun m h1 h2 => by rw [maxI_one h1 h2]; exact PostF.flat o q (fun _ e => by cases e) (.int _)⟩
    | _ => exact False.elim q
theorem cb_min (hc : X.calm = true) : CallR X (.builtin "min") (cF W (bltD .min)) := by
  rintro pins s σ H vs us Q I rv ⟨dc, F, st, ds, o, r, q⟩
  match ds, r, q with
  | [], _, q => exact False.elim q
  | _ :: _ :: _ :: _, _, q => exact False.elim q
  | [d, e], r, q =>
    obtain ⟨v, w, rfl, r1, r2⟩ := p2 r
    cases d with
    | int i =>
      cases e with
      | int j => exact call_min2 hc pins s σ H _ us Q I rv ⟨i, j, by rw [r1.int, r2.int], PostF.flat o q (fun _ e => by cases e) (.int _)⟩
      | _ => exact False.elim q
    | _ => exact False.elim q
  | [d], r, q =>
    obtain ⟨v, rfl, r1⟩ := p1 r
    cases d with
    | list ds =>
      obtain ⟨p, xs, rfl, _, h1, r⟩ := r1.list o
      simp only [bltD, min12, minD] at q
      cases h : intsD ds with
      | none => rw [h] at q; exact False.elim q
      | some ns =>
        rw [h] at q
        cases ns with
        | nil => exact False.elim q
        | cons n ns =>
          have e := r.ints h
          subst e
          exact cr_min hc pins s σ H _ us Q I rv ⟨p, n :: ns, rfl, .of h1, by simp, fun m h1 h2 => by rw [minI_one h1 h2]; exact PostF.flat o q (fun _ e => by cases e) (.int _)⟩
    | _ => exact False.elim q
end
end Co

/-! Core 6: enumerate over a tuple, sorted of data, isinstance, list(range). -/
namespace Co
open PySem PySem.Spec PyProof.Rows L2
variable [TabT]
open Sem (wp)

/-! ### enumerate(tuple) -/
theorem meets_enumerate_newT {v : Value} {o : Obj} {H : Heap → Prop} (B : Begins v o H) :
    Meets (Builtin.«enumerate.__new__» ⟨[.type "enumerate", v], []⟩) (fun _ R s => H s.heap ∧
      R (.ok (.ret (.ref (s.heap.push o).objs.size))) { s with heap := (s.heap.push o).push { cls := .type "enumerate", data := .fields #[.none, .bool false, .ref s.heap.objs.size, rawInt 0, .none, .none] } }) :=
  .of_wp fun prog w A R s h => by
    obtain ⟨hp, g, d, tk, os⟩ := s; obtain ⟨h1, h⟩ := h
    have hsub := sub_enumerate
    have q1 : ∀ {A' : Around} {E : Value → Shared → Prop} {Q : Value → Shared → Prop}, Q (.ref hp.objs.size) ⟨hp.push o, g, d, tk, os⟩ → wpAny (model prog w) A' (pyIter v) Q E ⟨hp, g, d, tk, os⟩ :=
      fun q => B.iter prog w _ _ ⟨hp, g, d, tk, os⟩ _ h1 q
    wp_walk using q1
    refine wpAny_stack_any fun st => wpAny_pure ?_
    split
    · rename_i c _ _ _ _ _
      cases (c == Value.type "enumerate")
      · wp_walk using q1
        exact ⟨_, rfl, h⟩
      · wp_walk using q1
        exact ⟨_, rfl, h⟩
    · wp_walk using q1
      exact ⟨_, rfl, h⟩
theorem call_enumerate_B {prog : Program} {w : World} {A : Around} {E : Value → Shared → Prop} {s : Shared} {v : Value} {o : Obj} {H : Heap → Prop} {Q : Value → Shared → Prop} (B : Begins v o H) (h1 : H s.heap)
    (h : ∀ h', IsEnum h' (s.heap.objs.size + 1) s.heap.objs.size 0 .none → h'.get? s.heap.objs.size = some o → h'.objs.size = s.heap.objs.size + 2 →
      (∀ b o, s.heap.get? b = some o → h'.get? b = some o) → Q (.ref (s.heap.objs.size + 1)) { s with heap := h' }) :
    wpAny (model prog w) A (call (.type "enumerate") [v]) Q E s := by
  refine callType_new F.called_enumerate (by decide) (F.typeCall_enumerate_1 _) (F.newCall_enumerate_1 _) (fun obj => F.args_object_init_2 obj _) F.entry_enumerate_new
    (meets_enumerate_newT B) ⟨h1, ?_⟩
  have hz : (s.heap.push o).objs.size = s.heap.objs.size + 1 := Heap.size_push ..
  show _ ∧ _
  rw [hz]
  have he : IsEnum ((s.heap.push o).push { cls := .type "enumerate", data := .fields #[.none, .bool false, .ref s.heap.objs.size, rawInt 0, .none, .none] }) (s.heap.objs.size + 1) s.heap.objs.size 0 .none := by
    have := Heap.get?_push_size (s.heap.push o) (o := { cls := .type "enumerate", data := .fields #[.none, .bool false, .ref s.heap.objs.size, rawInt 0, .none, .none] }) rfl
    rw [hz] at this; exact this
  refine ⟨⟨_, he, rfl⟩, h _ he (Heap.get?_push_of_some _ (Heap.get?_push_size _ B.free)) (by rw [Heap.size_push, hz]) fun b o x => Heap.get?_push_of_some _ (Heap.get?_push_of_some _ x)⟩
/-- the tuple at a, each item in a new pair -/
def IteT (K : PySem.W.Frag) (a : Addr) : It :=
  ⟨fun i H => ∃ (xs : List V) (x : V), SqT K H a xs ∧ xs[i]? = some x, fun i H v H' => ∃ T x, v = .ref T ∧ H T = none ∧ H' = upd H T (.tup [.int (i : Nat), x]) ∧ ∀ xs, SqT K H a xs → xs[i]? = some x, fun i H => ∃ xs : List V, SqT K H a xs ∧ xs.length ≤ i⟩
theorem turn_enumT {P : Program} {w : World} {K : PySem.W.Frag} {elts : List Expr} {kk : Nat} {tpos : Pos} (a e it : Addr) :
    Turn P w K (.Tuple elts kk tpos) (IteT K a) [e, it] e (fun i h => (∃ old, IsEnum h e it ((i : Nat) : Int) old) ∧ h.IsTupleIter it a i ∧ e ≠ it) where
  mem := by simp
  obj := fun i h st b hb => by
    obtain ⟨⟨old, he⟩, ⟨o, ho, hc, hd⟩, _⟩ := st
    have e' : b = e ∨ b = it := by simpa using hb
    rcases e' with z | z
    · rw [z]; exact ⟨_, he, fun v q => nomatch q⟩
    · rw [z]; exact ⟨o, ho, fun v q => by rw [hd] at q; cases q⟩
  keep := fun i h h' st k => let ⟨⟨old, he⟩, hi, hne⟩ := st; ⟨⟨old, k e (by simp) _ he⟩, hi.at fun o q => k it (by simp) o q, hne⟩
  item := by
    intro X hP hw hK hc i pins s σ H E I hf st hg
    subst hP hw hK
    obtain ⟨⟨old, he⟩, hit, hne⟩ := st
    obtain ⟨xs, x, hq, hx⟩ := hg
    obtain ⟨its, rv, p, hz⟩ := I.tuple hq
    obtain ⟨u, hu, ru⟩ := rv.get hx
    have hel : e < s.heap.objs.size := Heap.lt_size he
    have hil : it < s.heap.objs.size := by obtain ⟨_, q, _⟩ := hit; exact Heap.lt_size q
    have hp : s.heap.IsTuple a its.toArray := p
    have hTi : s.TypeIs (.ref it) "tuple_iterator" := hit.typeIs
    have neit : a ≠ it := fun z => by
      obtain ⟨o1, q1, c1, _⟩ := hp
      obtain ⟨o2, q2, c2, _⟩ := hit
      rw [z, q2] at q1
      cases q1
      rw [c1] at c2
      exact absurd c2 (by decide)
    have neae : e ∉ [it, a] := fun z => by
      rcases List.mem_cons.mp z with z | z
      · exact hne z
      · have z : e = a := by simpa using z
        obtain ⟨o1, q1, c1, _⟩ := hp
        rw [← z] at q1
        have := he.symm.trans q1
        cases this
        exact absurd (show Value.type "enumerate" = Value.type "tuple" from c1) (by decide)
    have hlt : i < its.toArray.size := by
      rw [List.size_toArray]
      exact (List.getElem?_eq_some_iff.mp hu).1
    refine wpAny_pyNext_enum_itemD (Draws.tuple (A := X.A.in1) (show X.A.in1.handled = none from I.ok.hd hc) it a neit its.toArray) he ⟨hit, hp⟩ hlt hne neae fun y h' tk hy ho st' hT hsz hk => ?_
    have hy' : its[i]? = some y := by simpa using hy
    rw [hu] at hy'
    cases hy'
    refine ⟨_, rfl, wpAny_letOwnedTupleGo_enum (s := { s with heap := h', toks := tk + 1 }) ho fun h'' he' sb => ?_⟩
    have hT2 : h''.get? s.heap.objs.size = some { cls := .type "tuple", data := .seq #[.int i tk, u] } := (sb.2 _ (Nat.ne_of_gt hel)).trans hT
    have new : ObjOk X.prog X.w (upd H s.heap.objs.size (.tup [.int (i : Nat), x])) h'' s.heap.objs.size (.tup [.int (i : Nat), x]) :=
      ⟨by show 2 ≤ sizeLine; decide, [.int i tk, u], .cons ⟨_, rfl⟩ (.cons ru .nil), ⟨_, hT2, rfl, _, rfl⟩⟩
    have I1 : Inv X pins σ (upd H s.heap.objs.size (.tup [.int (i : Nat), x])) { s with heap := h'', toks := tk + 1 } :=
      I.turnedNew (ch := [e, it]) (fun b ob hb q => (sb.2 b (fun z => hb (by simp [z]))).trans (hk b ob (fun z => hb (by simp [z])) (fun z => hb (by simp [z])) q)) hf (Nat.le_refl _) new
    refine ⟨.ref s.heap.objs.size, _, I1, rfl, ⟨_, x, rfl, I.hok.fresh (Nat.le_refl _), rfl, fun ys hy => by rw [I.tuple_inj hy hq]; exact hx⟩, ⟨⟨u, ?_⟩, st'.1.at fun o q => (sb.2 it (Ne.symm hne)).trans q, hne⟩, fun b hb => ?_⟩
    · have e1 : ((i + 1 : Nat) : Int) = (i : Int) + 1 := by omega
      rw [e1]; exact he'
    · have hb' : b < s.heap.objs.size := by
        have e' : b = e ∨ b = it := by simpa using hb
        rcases e' with z | z
        · rw [z]; exact hel
        · rw [z]; exact hil
      rw [upd_ne (Nat.ne_of_lt hb')]
      exact (hf b hb).1
  done := by
    intro X hP hw hK hc i pins s σ H E I hf st hg
    subst hP hw hK
    obtain ⟨⟨old, he⟩, hit, hne⟩ := st
    obtain ⟨xs, hq, hx⟩ := hg
    obtain ⟨its, rv, p, hz⟩ := I.tuple hq
    obtain ⟨f0, f1, f2, f3, f4, f5⟩ := hf it (by simp)
    have hl := rv.length
    have hp : s.heap.IsTuple a its.toArray := p
    have hT : s.TypeIs (.ref e) "enumerate" := ⟨_, he, rfl⟩
    unfold pyNext
    refine wpAny_bind (wpAny_attempt (wpAny_callSpecial?_slot (name := Str.ofString "__next__") hT F.slot_enumerate_next
      (wpAny_call_entry F.slot_enumerate_next hT F.entry_enumerate_next ?_ (F.args_enumerate_next_1 _))))
    show wpAny _ _ (field (.ref e) 2 >>= _) _ _ _
    refine wpAny_bind (wpAny_field he rfl (x := .ref it) rfl ?_)
    refine wpAny_bind (wpAny_nextOf_tuple_end (I.ok.hd hc) hit hp (by simp; omega) fun h' x he' hx' => ?_)
    obtain ⟨o, ho, hc⟩ := hx'
    refine wpAny_bind (wpAny_isInstance (T := "StopIteration") (b := true) ⟨o, ho, hc⟩ isSubtype_stop ?_)
    exact wpAny_pure ⟨rfl, I.turned (t' := s.toks) (fun b o hb q => he' b o hb q) f0 f1 f3 f4 f5⟩
  self := fun A i s Q E st h => let ⟨⟨_, he⟩, _⟩ := st; wpAny_pyIter_enum he h
def iEnumT (K : PySem.W.Frag) (ta : TA) : TI := fun σ H R => ta σ H fun vs H1 => ∃ a xs, vs = [.ref a] ∧ SqT K H1 a xs ∧ R (IteT K a) H1
theorem pi_enumT {X : Cx} {e : Expr} {ta : TA} {p pos tpos : Pos} {elts : List Expr} {kk : Nat} (hg : Gl X "enumerate") (hm : X.mg "enumerate" = none) (ha : PA X [e] ta) (hs : starEach [e] X.env = [(false, eval e X.env)] := by rfl) :
    PI X (.Tuple elts kk tpos) (.Call (.Name "enumerate" p) [e] [] pos) (iEnumT X.K ta) := by
  refine ⟨fun pins s σ H R I h => ?_⟩
  refine Call_ (ld_blt I hg hm boot_enumerate (PyProof.Rows.callWith_type1 (thn (ha.run pos pins s σ H _ I h) fun us s1 ⟨vs, H1, I1, r1, q1⟩ => ?_) hs rfl))
  obtain ⟨a, xs, ex, hq, q⟩ := q1
  subst ex
  cases r1 with
  | cons r rr =>
    cases rr
    cases r
    obtain ⟨its, rv, p', hz⟩ := I1.tuple hq
    have hp : s1.heap.IsTuple a its.toArray := p'
    refine call_enumerate_B (begins_tuple a its.toArray) hp fun h' he hit hsz hk => wpAny_pyIter_enum he ?_
    have I2 : Inv X pins σ H1 { s1 with heap := h' } := I1.kept (t' := s1.toks) hk
    refine ⟨s1.heap.objs.size + 1, [s1.heap.objs.size + 1, s1.heap.objs.size], _, _, H1, rfl, I2, turn_enumT a (s1.heap.objs.size + 1) s1.heap.objs.size, ⟨⟨.none, he⟩, ⟨_, hit, rfl, rfl⟩, Nat.succ_ne_self _⟩, fun b hb => ?_, q⟩
    have e' : b = s1.heap.objs.size + 1 ∨ b = s1.heap.objs.size := by simpa using hb
    have hle : s1.heap.objs.size ≤ b := by
      rcases e' with z | z
      · rw [z]; exact Nat.le_add_right _ _
      · rw [z]; exact Nat.le_refl _
    exact I1.fpOk hle (I1.hok.fresh hle)

/-! ### sorted -/
section
variable {X : Cx} {W : WS}
theorem each_of {F : Hp} : ∀ {ds : List D} {vs : List V} {us : List Value}, RpA F vs ds → Vals vs us → PySem.W.EachIs (fun u d => ∃ v, RelV v u ∧ Rp F v d) us ds
  | [], _, _, h, r => by
    cases h
    cases r
    exact .nil
  | d :: ds, _, _, h, r => by
    cases h with
    | cons h1 h2 =>
      cases r with
      | cons r1 r2 => exact .cons ⟨_, r1, h1⟩ (each_of h2 r2)
theorem of_each {F : Hp} : ∀ {ds : List D} {us : List Value}, PySem.W.EachIs (fun u d => ∃ v, RelV v u ∧ Rp F v d) us ds → ∃ vs, RpA F vs ds ∧ Vals vs us
  | _, _, .nil => ⟨[], .nil, .nil⟩
  | _, _, .cons ⟨v, r, h⟩ t => by
    obtain ⟨vs, h2, r2⟩ := of_each t
    exact ⟨v :: vs, .cons h h2, .cons r r2⟩
theorem each_imp {α β : Type} {R R' : α → β → Prop} {as : List α} {bs : List β} (h : PySem.W.EachIs R as bs) (i : ∀ a b, R a b → R' a b) : PySem.W.EachIs R' as bs := by
  induction h with
  | nil => exact .nil
  | cons h1 _ ih => exact .cons (i _ _ h1) ih
theorem each_imp2 {α β : Type} {R R' : α → β → Prop} {as : List α} {bs : List β} (h : PySem.W.EachIs R as bs) (i : ∀ a b, b ∈ bs → R a b → R' a b) : PySem.W.EachIs R' as bs := by
  induction h with
  | nil => exact .nil
  | cons h1 _ ih => exact .cons (i _ _ (List.mem_cons_self ..) h1) (ih fun a b hb => i a b (List.mem_cons_of_mem _ hb))
theorem cb_sorted (hr : X.A.units + 64 < cLine) : CallR X (.builtin "sorted") (cF W (bltD .sorted)) := cf_un fun pins s σ H v us Q dc F st d I rv o r q => by
  cases d with
  | list ds =>
    obtain ⟨p, xs, rfl, _, h1, r⟩ := r.list o
    by_cases hk : sortOk ds = true
    · simp only [sortedD, if_pos hk] at q
      unfold sortOk at hk
      simp only [Bool.and_eq_true, Bool.or_eq_true, List.all_eq_true, decide_eq_true_eq] at hk
      obtain ⟨⟨⟨⟨k1, kd⟩, k2⟩, k3⟩, k4⟩ := hk
      have e1 : us = [.ref p] := Vals.ref1 rv
      subst e1
      obtain ⟨its, rvs, pl, hz⟩ := I.list (show SqL X.K H p xs from .of h1)
      have hal : PySem.W.AllAlike (ds.map id) := by
        rw [List.map_id]
        exact fun d hd d' hd' => k1 d hd d' hd'
      have hso : PySem.W.Sortable (ds.map id) := by
        rw [List.map_id]
        rcases k2 with k2 | k2
        · refine .inl fun d hd => ?_
          have h2 := k2 d hd
          split at h2
          · exact ⟨_, _, rfl⟩
          · cases h2
        · refine .inr fun d hd => ?_
          have h2 := k2 d hd
          split at h2
          · cases h2
          · cases h2
          · rename_i n1 n2
            exact ⟨fun e => n2 e, fun xs e => n1 xs e⟩
      have er : PySem.W.EachIs (fun u b => ∃ as, Reads s.heap u (id b) as) its ds :=
        each_imp2 (each_of r rvs) fun u d hd ⟨v, r1, h2⟩ => Dp.reads I d v u ((h2.mono (Same.trans o.fh (hd_same _ _))).dp _ (kd d hd)) r1
      refine PySem.W.sorted_data (enc := id) (R := fun u d => ∃ v, RelV v u ∧ Rp F v d) pl.isList (each_of r rvs) er hal hso k4 (fun b hb => ?_) fun out ho he => ?_
      · have := k3 b hb
        show X.A.units + 2 + (id b : D).depth < cLine
        have e : (id b : D) = b := rfl
        rw [e]
        omega
      · obtain ⟨vs2, r2, rv2⟩ := of_each he
        obtain ⟨ep, he'⟩ := PyProof.Rows.sortedAll_at s.heap its out.toArray
        have hlen : vs2.length ≤ sizeLine := by
          rw [rv2.length, ho]
          exact k4
        exact ⟨.ref _, upd H (s.heap.objs.size + 1) (.lst vs2), I.laid (t' := s.toks) (fun _ _ => PyProof.Rows.sortedAll_old) (Nat.le_succ _) ⟨hlen, out, ep, rv2, he'⟩, rfl, PostF.newList o q (I.hok.fresh (Nat.le_succ _)) r2⟩
    · simp only [sortedD, if_neg hk] at q
      exact False.elim q
  | _ => exact False.elim q
/-! ### isinstance -/
def tyN : D → String
  | .none => "NoneType"
  | .bool _ => "bool"
  | .int _ => "int"
  | .str _ => "str"
  | .list _ => "list"
  | .tuple _ => "tuple"
  | .dict _ => "dict"
theorem Rb.ty {K : PySem.W.Frag} {dc : DT} {F H : Hp} {s : Dice} {v : V} {d : D} (o : Ok dc F H s) (r : Rb dc F H v d) : TyX K H v (.type (tyN d)) := by
  cases d with
  | none => rcases r with r | ⟨a, xs, ds, _, e, _⟩; cases r; exact .base .non; cases e
  | bool b => rw [r.bl]; exact .base (.bl _)
  | int b => rw [r.int]; exact .base (.int _)
  | str b => rw [r.str]; exact .base (.str _)
  | list ds => obtain ⟨p, xs, rfl, _, h1, r⟩ := r.list o; exact .base (.lst h1)
  | tuple ds => obtain ⟨p, xs, rfl, _, h1, r⟩ := r.tuple o; exact .base (.tup h1)
  | dict ds =>
    rcases r with r | ⟨a, xs, ds, _, e, _⟩
    · cases r with
      | dct h hk r => exact .fDict (Hd_some (o.fh _ _ h)).1
    · cases e
/-- isinstance(e, T): f tells the answer -/
theorem de_isi {a : Expr} {ma : Env → Dice → Res D} {T : String} {Tn : Str} {p p2 pos : Pos} {f : D → Option D} (ha : PE X a (tB W ma)) (hg : Gl X "isinstance") (hm : X.mg "isinstance" = none) (hgT : Gl X Tn) (hmT : X.mg Tn = none) (hv : bootBuiltins Tn = some (.type T))
    (hn : Tn ≠ "__name__") (hd : (Tn == ("__debug__" : Str)) = false) (hs : starEach [a, .Name Tn p2] X.env = (false, eval a X.env) :: starEach [.Name Tn p2] X.env)
    (hf : ∀ d, f d = none ∨ ∃ b, f d = some (.bool b) ∧ kitB (tyN d) T = some b) : PE X (.Call (.Name "isinstance" p) [a, .Name Tn p2] [] pos) (tM W fun ρ s => (ma ρ s).bind fun x s1 => .opt (f x) s1) := by
  refine PEimp (pe_callB call_isi hg hm boot_isinstance (pa_cons ha (pa_cons (pe_bltn hgT hmT hv (v := .ty T) rfl hn hd) pa_nil) hs) (by decide) (by decide) hs rfl) fun σ H Q h => ?_
  obtain ⟨B, F, ρ, s, R, q⟩ := tM_then h
  refine ⟨B, F, ρ, s, R, ?_⟩
  cases h1 : ma ρ s with
  | bad => rw [h1] at q; exact q
  | exc c s1 => rw [h1] at q; exact q
  | ok d s1 =>
    rw [h1] at q
    intro v F' H' t r
    obtain ⟨dc, F2, s2, d2, o2, r2, q2⟩ := q v F' H' t r
    rcases hf d2 with e | ⟨b, e, hk⟩
    · rw [e] at q2
      exact False.elim q2
    · rw [e] at q2
      exact ⟨v, .ty T, .type (tyN d2), .type T, b, rfl, .ty T, r2.ty o2, kit_ty hk, Post.flat o2 q2 (.bl _)⟩
theorem isInt_k (d : D) : isIntD d = none ∨ ∃ b, isIntD d = some (.bool b) ∧ kitB (tyN d) "int" = some b := by
  cases d with
  | none => exact .inr ⟨false, rfl, (show kitB "NoneType" "int" = some false by decide +kernel)⟩
  | bool _ => exact .inr ⟨true, rfl, (show kitB "bool" "int" = some true by decide +kernel)⟩
  | int _ => exact .inr ⟨true, rfl, (show kitB "int" "int" = some true by decide +kernel)⟩
  | str _ => exact .inr ⟨false, rfl, (show kitB "str" "int" = some false by decide +kernel)⟩
  | list _ => exact .inr ⟨false, rfl, (show kitB "list" "int" = some false by decide +kernel)⟩
  | tuple _ => exact .inr ⟨false, rfl, (show kitB "tuple" "int" = some false by decide +kernel)⟩
  | dict _ => exact .inl rfl
theorem isBool_k (d : D) : isBoolD d = none ∨ ∃ b, isBoolD d = some (.bool b) ∧ kitB (tyN d) "bool" = some b := by
  cases d with
  | none => exact .inr ⟨false, rfl, (show kitB "NoneType" "bool" = some false by decide +kernel)⟩
  | bool _ => exact .inr ⟨true, rfl, (show kitB "bool" "bool" = some true by decide +kernel)⟩
  | int _ => exact .inr ⟨false, rfl, (show kitB "int" "bool" = some false by decide +kernel)⟩
  | str _ => exact .inr ⟨false, rfl, (show kitB "str" "bool" = some false by decide +kernel)⟩
  | list _ => exact .inr ⟨false, rfl, (show kitB "list" "bool" = some false by decide +kernel)⟩
  | tuple _ => exact .inr ⟨false, rfl, (show kitB "tuple" "bool" = some false by decide +kernel)⟩
  | dict _ => exact .inl rfl
theorem isStr_k (d : D) : isStrD d = none ∨ ∃ b, isStrD d = some (.bool b) ∧ kitB (tyN d) "str" = some b := by
  cases d with
  | none => exact .inr ⟨false, rfl, (show kitB "NoneType" "str" = some false by decide +kernel)⟩
  | bool _ => exact .inr ⟨false, rfl, (show kitB "bool" "str" = some false by decide +kernel)⟩
  | int _ => exact .inr ⟨false, rfl, (show kitB "int" "str" = some false by decide +kernel)⟩
  | str _ => exact .inr ⟨true, rfl, (show kitB "str" "str" = some true by decide +kernel)⟩
  | list _ => exact .inr ⟨false, rfl, (show kitB "list" "str" = some false by decide +kernel)⟩
  | tuple _ => exact .inr ⟨false, rfl, (show kitB "tuple" "str" = some false by decide +kernel)⟩
  | dict _ => exact .inl rfl
theorem isTuple_k (d : D) : isTupleD d = none ∨ ∃ b, isTupleD d = some (.bool b) ∧ kitB (tyN d) "tuple" = some b := by
  cases d with
  | none => exact .inr ⟨false, rfl, (show kitB "NoneType" "tuple" = some false by decide +kernel)⟩
  | bool _ => exact .inr ⟨false, rfl, (show kitB "bool" "tuple" = some false by decide +kernel)⟩
  | int _ => exact .inr ⟨false, rfl, (show kitB "int" "tuple" = some false by decide +kernel)⟩
  | str _ => exact .inr ⟨false, rfl, (show kitB "str" "tuple" = some false by decide +kernel)⟩
  | list _ => exact .inr ⟨false, rfl, (show kitB "list" "tuple" = some false by decide +kernel)⟩
  | tuple _ => exact .inr ⟨true, rfl, (show kitB "tuple" "tuple" = some true by decide +kernel)⟩
  | dict _ => exact .inl rfl
/-! ### list(range(..)) -/
theorem rg_rpa {F : Hp} (a : Int) : ∀ (n : Nat), RpA F ((List.range n).map fun i => V.int (a + (i : Nat))) (rngD a n) := fun n => by
  unfold rngD
  induction (List.range n) with
  | nil => exact .nil
  | cons x r ih => exact .cons (.int _) ih
end
end Co

/-! Core 7: calls of defs, what is walked, patterns, comprehensions. -/
namespace Co
open PySem PySem.Spec PyProof.Rows L2
variable [TabT]

/-! ### promises -/
def XKof (cl : Str → Addr) (W : WS) : XK := fun cls d H => ∃ c, cls = .ref (cl c) ∧ d = none ∧ W c H
def PostX (dc : DT) (cl : Str → Addr) (F H : Hp) (r : Res D) (Q : VK) (E : XK) : Prop :=
  match r with
  | .ok d s' => ∀ v F' H', Step dc F H F' H' s' → Rp F' v d → Q v H'
  | .exc c s' => ∀ F' H', Step dc F H F' H' s' → E (.ref (cl c)) none H'
  | .bad => False
def spOf (n : Nat) (cl : Str → Addr) (m : List SV → Dice → Res D) : Sp := fun vs H Q E => ∃ dc F s as, Ok dc F H s ∧ Paired (EA1 dc F H) vs as ∧ as.length = n ∧ PostX dc cl F H (m as s) Q E
theorem Paired.len {α β : Type} {R : α → β → Prop} : ∀ {as : List α} {bs : List β}, Paired R as bs → as.length = bs.length
  | _, _, .nil => rfl
  | _, _, .cons _ t => by rw [List.length_cons, List.length_cons, Paired.len t]
section
variable {X : Cx} {W : WS} {a b c e : Expr} {es : List Expr} {m ma mb mc : Env → Dice → Res D} {pos : Pos}
theorem de_call {mA : Env → Dice → Res (List SV)} {mf : List SV → Dice → Res D} {cl : Str → Addr} {k : Nat} {f : Addr} {fd : FuncData} {ps : List Str} {x : Str} {p : Pos} (F : FnOk X.prog X.w X.K X.mg X.base (L2N.CX X.prog X.w) k f fd ps (spOf ps.length cl mf)) (hr : Room k X.A) (hg : Gl X x) (hm : X.mg x = some (.ref f)) (hk : PySem.W.keepIn X.K (.ref f) = true)
    (hb : Binds X.K fd ps []) (hx : Passes (L2N.CX X.prog X.w) X (XKof cl W)) (ha : PA X (e :: es) (tL EA1 W mA)) (hL : ∀ ρ s as s1, mA ρ s = .ok as s1 → as.length = ps.length) (hdb : (x == ("__debug__" : Str)) = false) (he : starEach (e :: es) X.env = (false, eval e X.env) :: starEach es X.env) (hpl : (backTo pos (starEach es X.env)).any (·.1) = false) :
    PE X (.Call (.Name x p) (e :: es) [] pos) (tM W fun ρ s => (mA ρ s).bind fun xs s1 => mf xs s1) := by
  refine PEimp (pe_call F hr hg hm hk hb .nil hx ha hdb he hpl) fun σ H Q ⟨B, F, ρ, s, R, q⟩ => ⟨B, F, ρ, s, R, ?_⟩
  dsimp only at q
  cases h1 : mA ρ s with
  | bad => rw [h1] at q; exact q
  | exc c s1 => rw [h1] at q; exact q
  | ok as s1 =>
    rw [h1] at q
    intro vs F' H' t r
    have q' : Post B.dc W F' H' (mf as s1) Q := Post.step R.ok t q
    rw [List.append_nil]
    refine ⟨B.dc, F', s1, as, t.ok, r, hL _ _ _ _ h1, ?_⟩
    cases h2 : mf as s1 with
    | bad => rw [h2] at q'; exact q'
    | exc c s2 => rw [h2] at q'; exact fun F2 H2 t2 => ⟨c, rfl, rfl, q' F2 H2 t2⟩
    | ok d s2 => rw [h2] at q'; exact q'
/-- calls that make nothing known of exceptions -/
theorem passN {cl : Str → Addr} : Passes (L2N.CX X.prog X.w) X (XKof cl fun _ _ => False) := fun _ _ _ _ _ _ _ h => by
  obtain ⟨_, _, _, _, _, _, _, _, _, _, _, _, ⟨_, _, _, z⟩⟩ := h
  exact z.elim

/-! ### what is walked -/
structure Wlk (dc : DT) (G F0 : Hp) (J : It) (ds : List D) : Prop where
  go : ∀ i H, Same G (Hd dc H) → i < ds.length → J.go i H
  yld : ∀ i F H s x H' d, Same G (Hd dc H) → Same F0 F → Ok dc F H s → ds[i]? = some d → J.yld i H x H' → ∃ F', Step dc F H F' H' s ∧ Rp F' x d
  stop : ∀ i H, Same G (Hd dc H) → ds.length ≤ i → J.stop i H
def fzH (fz : Bool) (dc : DT) (F H : Hp) : Hp := match fz with
  | true => F
  | false => Hd dc H
def PostI (fz : Bool) (dc : DT) (W : WS) (F H : Hp) (r : Res (List D)) (Q : It → Hp → Prop) : Prop :=
  match r with
  | .ok ds s' => ∀ F' H' J G, Step dc F H F' H' s' → Same G (fzH fz dc F' H') → Wlk dc G F' J ds → Q J H'
  | .exc c s' => ∀ F' H', Step dc F H F' H' s' → W c H'
  | .bad => False
def tI (fz : Bool) (W : WS) (m : Env → Dice → Res (List D)) : TI := fun σ H R' => ∃ B F ρ s, Rel B F σ ρ H s ∧ PostI fz B.dc W F H (m ρ s) R'
theorem PIimp {tg iter : Expr} {w w' : TI} (h : PI X tg iter w) (i : ∀ σ H Q, w' σ H Q → w σ H Q) : PI X tg iter w' := ⟨fun pins s σ H R I q => h.run pins s σ H R I (i σ H R q)⟩
theorem PIor {tg iter : Expr} {w w' : TI} (h : PI X tg iter w) (h' : PI X tg iter w') : PI X tg iter (fun σ H R => w σ H R ∨ w' σ H R) :=
  ⟨fun pins s σ H R I q => q.elim (h.run pins s σ H R I) (h'.run pins s σ H R I)⟩
theorem wlk_range {dc : DT} {F0 : Hp} (lo : Int) (n : Nat) : Wlk dc (fun _ => none) F0 (Itr lo n) (rngD lo n) := by
  have hl : (rngD lo n).length = n := by unfold rngD; simp
  refine ⟨fun i H _ h => by rw [hl] at h; exact h, fun i F H s x H' d _ _ o e y => ?_, fun i H _ h => by rw [hl] at h; exact h⟩
  obtain ⟨e1, e2⟩ := y
  subst e1 e2
  have hi : i < n := by
    rw [← hl]
    exact (List.getElem?_eq_some_iff.mp e).1
  have e3 : d = .int (lo + (i : Nat)) := by
    unfold rngD at e
    rw [List.getElem?_map, List.getElem?_range hi] at e
    exact (Option.some.inj e).symm
  subst e3
  exact ⟨F, Step.refl o, .int _⟩
theorem wlk_list {K : PySem.W.Frag} {dc : DT} {F0 : Hp} {a : Addr} {xs : List V} {ds : List D} (r : RpA F0 xs ds) : Wlk dc (fun b => if b = a then some (.lst xs) else none) F0 (Itl K a) ds := by
  have at_ : ∀ H, Same (fun b => if b = a then some (.lst xs) else none) (Hd dc H) → H a = some (.lst xs) := fun H h => (Hd_some (h a _ (if_pos rfl))).1
  refine ⟨fun i H h hi => ?_, fun i F H s x H' d hG hF o e y => ?_, fun i H h hi => ?_⟩
  · have hi' : i < xs.length := by rw [r.len]; exact hi
    exact ⟨xs, xs[i], .of (at_ H h), by simp [hi']⟩
  · obtain ⟨e1, e2⟩ := y
    subst e1
    obtain ⟨v, h1, h2⟩ := r.get e
    have h3 := e2 xs (.of (at_ _ hG))
    rw [h1] at h3
    cases h3
    exact ⟨F, Step.refl o, h2.mono hF⟩
  · exact ⟨xs, .of (at_ H h), by rw [r.len]; exact hi⟩
theorem wlk_tup {K : PySem.W.Frag} {dc : DT} {F0 : Hp} {a : Addr} {xs : List V} {ds : List D} (r : RpA F0 xs ds) : Wlk dc (fun b => if b = a then some (.tup xs) else none) F0 (Itt K a) ds := by
  have at_ : ∀ H, Same (fun b => if b = a then some (.tup xs) else none) (Hd dc H) → H a = some (.tup xs) := fun H h => (Hd_some (h a _ (if_pos rfl))).1
  refine ⟨fun i H h hi => ?_, fun i F H s x H' d hG hF o e y => ?_, fun i H h hi => ?_⟩
  · have hi' : i < xs.length := by rw [r.len]; exact hi
    exact ⟨xs, xs[i], .of (at_ H h), by simp [hi']⟩
  · obtain ⟨e1, e2⟩ := y
    subst e1
    obtain ⟨v, h1, h2⟩ := r.get e
    have h3 := e2 xs (.of (at_ _ hG))
    rw [h1] at h3
    cases h3
    exact ⟨F, Step.refl o, h2.mono hF⟩
  · exact ⟨xs, .of (at_ H h), by rw [r.len]; exact hi⟩
theorem enm_len : ∀ (ds : List D) (n : Nat), (enmD n ds).length = ds.length
  | [], _ => rfl
  | d :: r, n => by unfold enmD; rw [List.length_cons, List.length_cons, enm_len r]
theorem enm_get : ∀ (ds : List D) (n i : Nat) (d : D), ds[i]? = some d → (enmD n ds)[i]? = some (.tuple [.int ((n + i : Nat) : Int), d])
  | [], _, _, _, h => by simp at h
  | d :: r, n, 0, _, h => by simp at h; subst h; rfl
  | d :: r, n, i + 1, e, h => by
    unfold enmD
    rw [List.getElem?_cons_succ, enm_get r (n + 1) i e (by simpa using h)]
    have : n + 1 + i = n + (i + 1) := by omega
    rw [this]
theorem enm_at {ds : List D} {i : Nat} {d : D} (h : (enmD 0 ds)[i]? = some d) : ∃ e, ds[i]? = some e ∧ d = .tuple [.int (i : Nat), e] := by
  have hi : i < ds.length := by
    rw [← enm_len ds 0]
    exact (List.getElem?_eq_some_iff.mp h).1
  refine ⟨ds[i], List.getElem?_eq_getElem hi, ?_⟩
  rw [enm_get ds 0 i _ (List.getElem?_eq_getElem hi)] at h
  have e := (Option.some.inj h).symm
  rw [Nat.zero_add] at e
  exact e
theorem pair_new {dc : DT} {F H : Hp} {s : Dice} {T : Addr} {x : V} {d : D} {i : Nat} (o : Ok dc F H s) (hT : H T = none) (r : Rp F x d) : ∃ F', Step dc F H F' (upd H T (.tup [.int (i : Nat), x])) s ∧ Rp F' (.ref T) (.tuple [.int (i : Nat), d]) := by
  have fT : F T = none := by
    cases q : F T with
    | none => rfl
    | some y => exact absurd hT (o.ne q)
  exact ⟨upd F T (.tup [.int (i : Nat), x]), Step.new o hT, .tup upd_same (.cons (.int _) (.cons (r.mono (same_upd_none fT)) .nil))⟩
theorem wlk_enm {K : PySem.W.Frag} {dc : DT} {F0 : Hp} {a : Addr} {xs : List V} {ds : List D} (r : RpA F0 xs ds) : Wlk dc (fun b => if b = a then some (.lst xs) else none) F0 (Ite K a) (enmD 0 ds) := by
  have at_ : ∀ H, Same (fun b => if b = a then some (.lst xs) else none) (Hd dc H) → H a = some (.lst xs) := fun H h => (Hd_some (h a _ (if_pos rfl))).1
  refine ⟨fun i H h hi => ?_, fun i F H s x H' d hG hF o e y => ?_, fun i H h hi => ?_⟩
  · have hi' : i < xs.length := by rw [r.len, ← enm_len ds 0]; exact hi
    exact ⟨xs, xs[i], .of (at_ H h), by simp [hi']⟩
  · obtain ⟨T, x1, rfl, hT, rfl, e2⟩ := y
    obtain ⟨e1, h0, rfl⟩ := enm_at e
    obtain ⟨v, h1, h2⟩ := r.get h0
    have h3 := e2 xs (.of (at_ _ hG))
    rw [h1] at h3
    cases h3
    exact pair_new o hT (h2.mono hF)
  · exact ⟨xs, .of (at_ H h), by rw [r.len, ← enm_len ds 0]; exact hi⟩
theorem wlk_enmT {K : PySem.W.Frag} {dc : DT} {F0 : Hp} {a : Addr} {xs : List V} {ds : List D} (r : RpA F0 xs ds) : Wlk dc (fun b => if b = a then some (.tup xs) else none) F0 (IteT K a) (enmD 0 ds) := by
  have at_ : ∀ H, Same (fun b => if b = a then some (.tup xs) else none) (Hd dc H) → H a = some (.tup xs) := fun H h => (Hd_some (h a _ (if_pos rfl))).1
  refine ⟨fun i H h hi => ?_, fun i F H s x H' d hG hF o e y => ?_, fun i H h hi => ?_⟩
  · have hi' : i < xs.length := by rw [r.len, ← enm_len ds 0]; exact hi
    exact ⟨xs, xs[i], .of (at_ H h), by simp [hi']⟩
  · obtain ⟨T, x1, rfl, hT, rfl, e2⟩ := y
    obtain ⟨e1, h0, rfl⟩ := enm_at e
    obtain ⟨v, h1, h2⟩ := r.get h0
    have h3 := e2 xs (.of (at_ _ hG))
    rw [h1] at h3
    cases h3
    exact pair_new o hT (h2.mono hF)
  · exact ⟨xs, .of (at_ H h), by rw [r.len, ← enm_len ds 0]; exact hi⟩
theorem sing_same {F : Hp} {a : Addr} {o : HO} (h : F a = some o) : Same (fun b => if b = a then some o else none) F := fun b x e => by
  dsimp only at e
  split at e
  next hb =>
    subst hb
    cases e
    exact h
  next => cases e
/-- what an operand's relation tells of a list's place -/
def EFz : Bool → ERel D
  | true => EP1
  | false => EB1
theorem EFz.list {fz : Bool} {dc : DT} {F H : Hp} {s : Dice} {v : V} {ds : List D} (o : Ok dc F H s) (r : EFz fz dc F H v (.list ds)) : ∃ a xs, v = .ref a ∧ H a = some (.lst xs) ∧ RpA F xs ds ∧ Same (fun b => if b = a then some (.lst xs) else none) (fzH fz dc F H) := by
  cases fz with
  | true =>
    have r : Rp F v (.list ds) := r
    cases r with
    | @lst a xs _ h r => exact ⟨a, xs, rfl, (Hd_some (o.fh _ _ h)).1, r, sing_same h⟩
  | false =>
    obtain ⟨a, xs, rfl, h0, h1, r⟩ := Rb.list o r
    exact ⟨a, xs, rfl, h1, r, sing_same h0⟩
theorem EFz.tuple {fz : Bool} {dc : DT} {F H : Hp} {s : Dice} {v : V} {ds : List D} (o : Ok dc F H s) (r : EFz fz dc F H v (.tuple ds)) : ∃ a xs, v = .ref a ∧ H a = some (.tup xs) ∧ RpA F xs ds ∧ Same (fun b => if b = a then some (.tup xs) else none) (fzH fz dc F H) := by
  have r' : Rb dc F H v (.tuple ds) := by
    cases fz with
    | true => exact .inl r
    | false => exact r
  obtain ⟨a, xs, rfl, h0, h1, r⟩ := r'.tuple o
  refine ⟨a, xs, rfl, h1, r, fun b x e => ?_⟩
  dsimp only at e
  split at e
  next hb =>
    subst hb
    cases e
    cases fz with
    | true => exact h0
    | false => exact o.fh _ _ h0
  next => cases e
theorem PostI.step {fz : Bool} {dc : DT} {F H F1 H1 : Hp} {s s1 : Dice} {r : Res (List D)} {Q : It → Hp → Prop} (o : Ok dc F H s) (t : Step dc F H F1 H1 s1) (h : PostI fz dc W F H r Q) : PostI fz dc W F1 H1 r Q := by
  cases r with
  | ok d s' => exact fun F' H' J G t' => h F' H' J G (t.trans o t')
  | exc c s' => exact fun F' H' t' => h F' H' (t.trans o t')
  | bad => exact h
theorem PostI.now {fz : Bool} {dc : DT} {F H : Hp} {s : Dice} {ds : List D} {Q : It → Hp → Prop} {J : It} {G : Hp} (o : Ok dc F H s) (h : PostI fz dc W F H (.ok ds s) Q) (hG : Same G (fzH fz dc F H)) (w : Wlk dc G F J ds) : Q J H := h F H J G (Step.refl o) hG w
theorem wlk_dict {dc : DT} {F0 : Hp} {a : Addr} {o : Obj} {kvs : List (Key × V)} {ds : List (D × D)} (hk : kvs.map (fun p => keyD p.1) = ds.map (·.1)) : Wlk dc (fun b => if b = a then some (.frz o (.dK kvs)) else none) F0 (Itk a o kvs) (ds.map (·.1)) := by
  have hl : kvs.length = (ds.map (·.1)).length := by rw [← hk, List.length_map]
  have at_ : ∀ H, Same (fun b => if b = a then some (.frz o (.dK kvs)) else none) (Hd dc H) → H a = some (.frz o (.dK kvs)) := fun H h => (Hd_some (h a _ (if_pos rfl))).1
  refine ⟨fun i H h hi => ⟨at_ H h, by omega⟩, fun i F H s x H' d h hF o' e y => ?_, fun i H h hi => ⟨at_ H h, by omega⟩⟩
  obtain ⟨rfl, k, v, e1, rfl⟩ := y
  rw [← hk, List.getElem?_map, e1] at e
  cases e
  refine ⟨F, Step.refl o', ?_⟩
  cases k with
  | inl i => exact .int i
  | inr x => exact .str x
theorem EFz.dict {fz : Bool} {dc : DT} {F H : Hp} {s : Dice} {v : V} {ds : List (D × D)} (o : Ok dc F H s) (r : EFz fz dc F H v (.dict ds)) : ∃ a ob kvs, v = .ref a ∧ H a = some (.frz ob (.dK kvs)) ∧ kvs.map (fun p => keyD p.1) = ds.map (·.1) ∧ Same (fun b => if b = a then some (.frz ob (.dK kvs)) else none) (fzH fz dc F H) := by
  have r' : Rp F v (.dict ds) := by
    cases fz with
    | true => exact r
    | false =>
      rcases r with r | ⟨p, xs, es, e1, e2, _, _⟩
      · exact r
      · cases e2
  cases r' with
  | @dct a ob kvs _ h hk _ =>
    refine ⟨a, ob, kvs, rfl, (Hd_some (o.fh _ _ h)).1, hk, ?_⟩
    cases fz with
    | true => exact sing_same h
    | false => exact sing_same (o.fh _ _ h)
def seqR (m : Env → Dice → Res D) : Env → Dice → Res (List D) := fun ρ s => (m ρ s).bind fun x s1 => match x with
    | .list xs => .ok xs s1
    | .tuple xs => .ok xs s1
    | .dict xs => .ok (xs.map (·.1)) s1
    | _ => .bad
theorem di_seq {fz : Bool} {tg : Expr} (h : PE X e (tG (EFz fz) W m)) : PI X tg e (tI fz W (seqR m)) := by
  refine PIimp (PIor (pi_list (tg := tg) h) (PIor (pi_tup (tg := tg) h) (pi_keys (tg := tg) h))) fun σ H R' ⟨B, F, ρ, s, R, q⟩ => ?_
  unfold seqR at q
  cases h1 : m ρ s with
  | bad => rw [h1] at q; exact False.elim q
  | exc c s1 =>
    rw [h1] at q
    exact .inl ⟨B, F, ρ, s, R, by rw [h1]; exact q⟩
  | ok d s1 =>
    rw [h1] at q
    cases d with
    | list ds =>
      refine .inl ⟨B, F, ρ, s, R, ?_⟩
      rw [h1]
      intro v F' H' t r
      obtain ⟨a, xs, rfl, hH, r, hG⟩ := EFz.list t.ok r
      exact ⟨a, rfl, ⟨xs, .of hH⟩, PostI.now t.ok (PostI.step R.ok t q) hG (wlk_list r)⟩
    | tuple ds =>
      refine .inr (.inl ⟨B, F, ρ, s, R, ?_⟩)
      rw [h1]
      intro v F' H' t r
      obtain ⟨a, xs, rfl, hH, r, hG⟩ := EFz.tuple t.ok r
      exact ⟨a, rfl, ⟨xs, .of hH⟩, PostI.now t.ok (PostI.step R.ok t q) hG (wlk_tup r)⟩
    | dict ds =>
      refine .inr (.inr ⟨B, F, ρ, s, R, ?_⟩)
      rw [h1]
      intro v F' H' t r
      obtain ⟨a, ob, kvs, rfl, hH, hk, hG⟩ := EFz.dict t.ok r
      exact ⟨a, ob, rfl, .inl ⟨kvs, hH, PostI.now t.ok (PostI.step R.ok t q) hG (wlk_dict hk)⟩⟩
    | _ => exact False.elim q
def enmR (m : Env → Dice → Res D) : Env → Dice → Res (List D) := fun ρ s => (m ρ s).bind fun x s1 => match x with
    | .list xs => .ok (enmD 0 xs) s1
    | .tuple xs => .ok (enmD 0 xs) s1
    | _ => .bad
theorem tG_tL {fz : Bool} {Q : List V → Hp → Prop} {σ : L2.St} {H : Hp} (h : tG (EFz fz) W m σ H fun v H' => Q [v] H') : tL (EFz fz) W (fun ρ s => (m ρ s).bind fun x s1 => .ok [x] s1) σ H Q := by
  obtain ⟨B, F, ρ, s, R, q⟩ := h
  refine ⟨B, F, ρ, s, R, ?_⟩
  dsimp only
  cases h1 : m ρ s with
  | bad => rw [h1] at q; exact q
  | exc c s1 => rw [h1] at q; exact q
  | ok d s1 =>
    rw [h1] at q
    intro vs F' H' t r
    cases r with
    | cons r1 r2 =>
      cases r2
      exact q _ F' H' t r1
theorem di_enm {fz : Bool} {p tpos : Pos} {elts : List Expr} {kk : Nat} (hg : Gl X "enumerate") (hm : X.mg "enumerate" = none) (h : PE X e (tG (EFz fz) W m)) (hs : starEach [e] X.env = [(false, eval e X.env)]) :
    PI X (.Tuple elts kk tpos) (.Call (.Name "enumerate" p) [e] [] pos) (tI fz W (enmR m)) := by
  refine PIimp (PIor (pi_enum (elts := elts) (kk := kk) (tpos := tpos) hg hm (pa_cons h pa_nil hs) hs) (pi_enumT (elts := elts) (kk := kk) (tpos := tpos) hg hm (pa_cons h pa_nil hs) hs)) fun σ H R' ⟨B, F, ρ, s, R, q⟩ => ?_
  unfold enmR at q
  cases h1 : m ρ s with
  | bad => rw [h1] at q; exact False.elim q
  | exc c s1 =>
    rw [h1] at q
    exact .inl ⟨B, F, ρ, s, R, by rw [h1]; exact q⟩
  | ok d s1 =>
    rw [h1] at q
    cases d with
    | list ds =>
      refine .inl ⟨B, F, ρ, s, R, ?_⟩
      rw [h1]
      intro v F' H' t r
      obtain ⟨a, xs, rfl, hH, r, hG⟩ := EFz.list t.ok r
      exact ⟨a, xs, rfl, .of hH, PostI.now t.ok (PostI.step R.ok t q) hG (wlk_enm r)⟩
    | tuple ds =>
      refine .inr ⟨B, F, ρ, s, R, ?_⟩
      rw [h1]
      intro v F' H' t r
      obtain ⟨a, xs, rfl, hH, r, hG⟩ := EFz.tuple t.ok r
      exact ⟨a, xs, rfl, .of hH, PostI.now t.ok (PostI.step R.ok t q) hG (wlk_enmT r)⟩
    | _ => exact False.elim q
def rngR (ma mb : Env → Dice → Res D) : Env → Dice → Res (List D) := fun ρ s => (ma ρ s).bind fun x s1 => (mb ρ s1).bind fun y s2 => match x, y with
    | .int i, .int j => if rngOk i j = true then .ok (rngD i (j - i).toNat) s2 else .bad
    | _, _ => .bad
theorem rngOk_b {i j : Int} (h : rngOk i j = true) : -(2 ^ 62) ≤ i ∧ i < 2 ^ 62 ∧ -(2 ^ 62) ≤ j ∧ j < 2 ^ 62 := by
  unfold rngOk at h
  simp only [Bool.and_eq_true, decide_eq_true_eq] at h
  exact ⟨h.1.1.1, h.1.1.2, h.1.2, h.2⟩
theorem di_rng2 {fz : Bool} {tg : Expr} {p : Pos} (hg : Gl X "range") (hm : X.mg "range" = none) (ha : PE X a (tB W ma)) (hb : PE X b (tB W mb)) (hs : starEach [a, b] X.env = [(false, eval a X.env), (false, eval b X.env)]) (hs2 : starEach [b] X.env = [(false, eval b X.env)]) :
    PI X tg (.Call (.Name "range" p) [a, b] [] pos) (tI fz W (rngR ma mb)) := by
  refine PIimp (pi_range2 (tg := tg) hg hm (pa_cons ha (pa_cons hb pa_nil hs2) (by rw [hs, hs2])) hs hs2) fun σ H R' ⟨B, F, ρ, s, R, q⟩ => ⟨B, F, ρ, s, R, ?_⟩
  unfold rngR at q
  cases h1 : ma ρ s with
  | bad => rw [h1] at q; exact False.elim q
  | exc c s1 => rw [h1] at q; exact q
  | ok d s1 =>
    rw [h1] at q
    intro v1 F1 H1 t1 r1
    refine ⟨B, F1, ρ, s1, R.step t1, ?_⟩
    simp only [bind_ok] at q
    cases h2 : mb ρ s1 with
    | bad => rw [h2] at q; exact False.elim q
    | exc c s2 => rw [h2] at q; exact fun F' H' t' => q F' H' (t1.trans R.ok t')
    | ok e s2 =>
      rw [h2] at q
      intro v2 F2 H2 t2 r2
      simp only [bind_ok] at q
      cases d with
      | int i =>
        cases e with
        | int j =>
          dsimp only at q
          by_cases hk : rngOk i j = true
          · rw [if_pos hk] at q
            have q' := PostI.step R.ok (t1.trans R.ok t2) q
            exact ⟨i, j, by rw [r1.int, r2.int], rngOk_b hk, PostI.now t2.ok q' (G := fun _ => none) (fun b x e => by cases e) (wlk_range _ _)⟩
          · rw [if_neg hk] at q
            exact False.elim q
        | _ => exact False.elim q
      | _ => exact False.elim q
theorem di_rng1 {fz : Bool} {tg : Expr} {p : Pos} (hg : Gl X "range") (hm : X.mg "range" = none) (hb : PE X b (tB W mb)) (hs : starEach [b] X.env = [(false, eval b X.env)]) :
    PI X tg (.Call (.Name "range" p) [b] [] pos) (tI fz W (rngR (fun _ s => .ok (.int 0) s) mb)) := by
  refine PIimp (pi_range1 (tg := tg) hg hm (pa_cons hb pa_nil hs) hs) fun σ H R' ⟨B, F, ρ, s, R, q⟩ => ⟨B, F, ρ, s, R, ?_⟩
  unfold rngR at q
  simp only [bind_ok] at q
  cases h2 : mb ρ s with
  | bad => rw [h2] at q; exact False.elim q
  | exc c s2 => rw [h2] at q; exact q
  | ok e s2 =>
    rw [h2] at q
    intro v2 F2 H2 t2 r2
    simp only [bind_ok] at q
    cases e with
    | int j =>
      dsimp only at q
      by_cases hk : rngOk 0 j = true
      · rw [if_pos hk] at q
        have q' := PostI.step R.ok t2 q
        obtain ⟨_, _, k1, k2⟩ := rngOk_b hk
        rw [show (j - 0).toNat = j.toNat by rw [Int.sub_zero]] at q'
        exact ⟨j, by rw [r2.int], k1, k2, PostI.now t2.ok q' (G := fun _ => none) (fun b x e => by cases e) (wlk_range _ _)⟩
      · rw [if_neg hk] at q
        exact False.elim q
    | _ => exact False.elim q
end

/-! ### patterns -/
mutual
def gP (K : PySem.W.Frag) : Pat → TG
  | .one i => gName i
  | .tup ps => gTup K (lenPs ps) (gPs K ps)
def gPs (K : PySem.W.Frag) : PatL → TGs
  | .nil => gNil
  | .cons p r => gCons (gP K p) (gPs K r)
def lenPs : PatL → Nat
  | .nil => 0
  | .cons _ r => lenPs r + 1
end
mutual
def inP : Pat → List Nat
  | .one i => [i]
  | .tup ps => inPs ps
def inPs : PatL → List Nat
  | .nil => []
  | .cons p r => inP p ++ inPs r
end
section
variable {B : Base} {F H : Hp} {σ : L2.St} {ρ : Env} {s : Dice}
/-- a slot is given a value -/
theorem Rel.set (R : Rel B F σ ρ H s) {i : Nat} {v : V} {d : D} (r : Rp F v d) (hi : i < ρ.length) : Rel B F (σ.set i (some v)) (ρ.set i (.val d)) H s := by
  have hs : i < σ.length := by rw [R.len]; exact hi
  have cas : ∀ {j : Nat} {x : SV}, (ρ.set i (.val d))[j]? = some x → (j = i ∧ x = .val d) ∨ (j ≠ i ∧ ρ[j]? = some x) := fun {j x} e => by
    by_cases hj : j = i
    · subst hj
      rw [List.getElem?_set_self hi] at e
      exact .inl ⟨rfl, (Option.some.inj e).symm⟩
    · rw [List.getElem?_set_ne (Ne.symm hj)] at e
      exact .inr ⟨hj, e⟩
  have ne : ∀ {j : Nat}, j ≠ i → (σ.set i (some v))[j]? = σ[j]? := fun {j} hj => List.getElem?_set_ne (Ne.symm hj)
  refine ⟨by rw [List.length_set, List.length_set]; exact R.len, R.bf, R.bh, R.bc, R.ok, fun j e h => ?_, fun j h => ?_, fun j es h => ?_, fun j k es fs a h1 h2 h3 h4 => ?_⟩
  · rcases cas h with ⟨rfl, e1⟩ | ⟨hj, h⟩
    · cases e1
      exact ⟨v, List.getElem?_set_self hs, r⟩
    · rw [ne hj]; exact R.sv j e h
  · rcases cas h with ⟨_, e1⟩ | ⟨hj, h⟩
    · cases e1
    · rw [ne hj]; exact R.sd j h
  · rcases cas h with ⟨_, e1⟩ | ⟨hj, h⟩
    · cases e1
    · rw [ne hj]; exact R.so j es h
  · rcases cas h1 with ⟨_, e1⟩ | ⟨hj, h1⟩
    · cases e1
    · rcases cas h2 with ⟨_, e1⟩ | ⟨hk, h2⟩
      · cases e1
      · rw [ne hj] at h3
        rw [ne hk] at h4
        exact R.sx j k es fs a h1 h2 h3 h4
theorem RpA.cons_inv {v : V} {vs : List V} {d : D} {ds : List D} (h : RpA F (v :: vs) (d :: ds)) : Rp F v d ∧ RpA F vs ds := by
  cases h with
  | cons h r => exact ⟨h, r⟩
/-- a pattern takes a value: the slots are the same but the pattern's -/
theorem setPs_len : ∀ {ps : PatL} {ds : List D} {ρ ρ' : Env}, setPs ps ds ρ = some ρ' → ds.length = lenPs ps
  | .nil, [], _, _, _ => rfl
  | .nil, _ :: _, _, _, h => by cases h
  | .cons p r, [], _, _, h => by cases h
  | .cons p r, d :: ds, ρ, ρ', h => by
    unfold setPs at h
    dsimp only at h
    cases e : setP p d ρ with
    | none => rw [e] at h; cases h
    | some ρ1 =>
      rw [e] at h
      have := setPs_len (ps := r) (ds := ds) (ρ := ρ1) (ρ' := ρ') h
      unfold lenPs
      rw [List.length_cons, this]
mutual
theorem gP_ok (K : PySem.W.Frag) {Q : L2.St → Hp → Prop} : ∀ {p : Pat} {d : D} {v : V} {σ : L2.St} {ρ ρ' : Env}, Rel B F σ ρ H s → Rp F v d → setP p d ρ = some ρ' → (∀ σ', Rel B F σ' ρ' H s → (∀ j, j ∉ inP p → σ'[j]? = σ[j]?) → σ'.length = σ.length → Q σ' H) → gP K p v σ H Q
  | .one i, d, v, σ, ρ, ρ', R, r, h, q => by
    unfold setP at h
    split at h
    · rename_i hi
      cases h
      exact q _ (R.set r hi) (fun j hj => List.getElem?_set_ne (fun e => hj (by simp [inP, e]))) (by rw [List.length_set])
    · cases h
  | .tup ps, .tuple ds, v, σ, ρ, ρ', R, r, h, q => by
    cases r with
    | @tup a xs _ f r =>
      have h' : setPs ps ds ρ = some ρ' := h
      exact ⟨a, xs, rfl, .of (Hd_some (R.ok.fh _ _ f)).1, by rw [r.len]; exact setPs_len h', gPs_ok K R r h' q⟩
  | .tup ps, .none, _, _, _, _, _, _, h, _ => by cases h
  | .tup ps, .bool _, _, _, _, _, _, _, h, _ => by cases h
  | .tup ps, .int _, _, _, _, _, _, _, h, _ => by cases h
  | .tup ps, .str _, _, _, _, _, _, _, h, _ => by cases h
  | .tup ps, .list _, _, _, _, _, _, _, h, _ => by cases h
  | .tup ps, .dict _, _, _, _, _, _, _, h, _ => by cases h
theorem gPs_ok (K : PySem.W.Frag) {Q : L2.St → Hp → Prop} : ∀ {ps : PatL} {ds : List D} {vs : List V} {σ : L2.St} {ρ ρ' : Env}, Rel B F σ ρ H s → RpA F vs ds → setPs ps ds ρ = some ρ' → (∀ σ', Rel B F σ' ρ' H s → (∀ j, j ∉ inPs ps → σ'[j]? = σ[j]?) → σ'.length = σ.length → Q σ' H) → gPs K ps vs σ H Q
  | .nil, [], vs, σ, ρ, ρ', R, r, h, q => by
    cases r
    cases h
    exact ⟨rfl, q _ R (fun _ _ => rfl) rfl⟩
  | .nil, _ :: _, _, _, _, _, _, _, h, _ => by cases h
  | .cons p pr, [], _, _, _, _, _, _, h, _ => by cases h
  | .cons p pr, d :: ds, vs, σ, ρ, ρ', R, r, h, q => by
    cases r with
    | @cons v vs _ _ h1 h2 =>
      unfold setPs at h
      dsimp only at h
      cases e : setP p d ρ with
      | none => rw [e] at h; cases h
      | some ρ1 =>
        rw [e] at h
        refine ⟨v, vs, rfl, gP_ok K R h1 e fun σ1 R1 k1 l1 => gPs_ok K R1 h2 h fun σ2 R2 k2 l2 => q σ2 R2 (fun j hj => ?_) (l2.trans l1)⟩
        unfold inPs at hj
        rw [List.mem_append, not_or] at hj
        exact (k2 j hj.2).trans (k1 j hj.1)
end
/-- some slots are forgotten -/
theorem wipe_get : ∀ {vs : List Nat} {j : Nat}, j ∉ vs → (wipe σ vs)[j]? = σ[j]?
  | [], _, _ => rfl
  | v :: vs, j, h => by
    rw [List.mem_cons, not_or] at h
    unfold wipe
    rw [List.getElem?_set_ne (Ne.symm h.1)]
    exact wipe_get h.2
theorem wipeE_get : ∀ {vs : List Nat} {j : Nat} {x : SV}, (wipeE ρ vs)[j]? = some x → x = .no ∨ (j ∉ vs ∧ ρ[j]? = some x)
  | [], _, _, h => .inr ⟨by simp, h⟩
  | v :: vs, j, x, h => by
    unfold wipeE at h
    by_cases hj : v = j
    · subst hj
      by_cases hl : v < (wipeE ρ vs).length
      · rw [List.getElem?_set_self hl] at h
        exact .inl (Option.some.inj h).symm
      · rw [List.getElem?_eq_none (by simpa using hl)] at h
        cases h
    · rw [List.getElem?_set_ne hj] at h
      rcases wipeE_get h with h | ⟨h1, h2⟩
      · exact .inl h
      · exact .inr ⟨by rw [List.mem_cons, not_or]; exact ⟨Ne.symm hj, h1⟩, h2⟩
theorem wipeE_len : ∀ vs : List Nat, (wipeE ρ vs).length = ρ.length
  | [] => rfl
  | v :: vs => by unfold wipeE; rw [List.length_set, wipeE_len vs]
theorem Rel.wipe (R : Rel B F σ ρ H s) (vs : List Nat) : Rel B F (wipe σ vs) (wipeE ρ vs) H s := by
  have k : ∀ {j : Nat} {x : SV}, (wipeE ρ vs)[j]? = some x → x ≠ .no → (L2.wipe σ vs)[j]? = σ[j]? ∧ ρ[j]? = some x := fun {j x} h hx => by
    rcases wipeE_get h with h | ⟨h1, h2⟩
    · exact absurd h hx
    · exact ⟨wipe_get h1, h2⟩
  refine ⟨by rw [wipe_length, wipeE_len]; exact R.len, R.bf, R.bh, R.bc, R.ok, fun j e h => ?_, fun j h => ?_, fun j es h => ?_, fun j l es fs a h1 h2 h3 h4 => ?_⟩
  · obtain ⟨e1, h⟩ := k h (by simp)
    rw [e1]; exact R.sv j e h
  · obtain ⟨e1, h⟩ := k h (by simp)
    rw [e1]; exact R.sd j h
  · obtain ⟨e1, h⟩ := k h (by simp)
    rw [e1]; exact R.so j es h
  · obtain ⟨e1, h1⟩ := k h1 (by simp)
    obtain ⟨e2, h2⟩ := k h2 (by simp)
    rw [e1] at h3
    rw [e2] at h4
    exact R.sx j l es fs a h1 h2 h3 h4
theorem wipe_eq {σ2 σ1 : L2.St} {vs : List Nat} (h : ∀ j, j ∉ vs → σ2[j]? = (wipe σ1 vs)[j]?) (hl : σ2.length = (wipe σ1 vs).length) : wipe σ2 vs = wipe σ1 vs := by
  apply List.ext_getElem?
  intro j
  by_cases hj : j ∈ vs
  · have at_ : ∀ {τ : L2.St} {vs : List Nat}, j ∈ vs → (wipe τ vs)[j]? = if j < τ.length then some none else none := fun {τ vs} hm => by
      induction vs with
      | nil => cases hm
      | cons v vs ih =>
        unfold wipe
        by_cases hv : v = j
        · subst hv
          by_cases hl : v < τ.length
          · rw [if_pos hl, List.getElem?_set_self (by rw [wipe_length]; exact hl)]
          · rw [if_neg hl, List.getElem?_eq_none (by rw [List.length_set, wipe_length]; omega)]
        · rw [List.getElem?_set_ne hv]
          rcases List.mem_cons.mp hm with e | hm
          · exact absurd e.symm hv
          · exact ih hm
    rw [at_ hj, at_ hj, hl, wipe_length]
  · rw [wipe_get hj, h j hj, wipe_get hj]
end
end Co

/-! Core 8: comprehensions. -/
namespace Co
open PySem PySem.Spec PyProof.Rows L2
variable [TabT]
abbrev WN : WS := fun _ _ => False
/-- one item of a comprehension -/
def itemR (me mt : Env → Dice → Res D) (vs : List Nat) (p : Pat) (ρ : Env) (d : D) (s : Dice) : Res (Option D) :=
  match setP p d (wipeE ρ vs) with
  | none => .bad
  | some ρ' => (asBoolR (mt ρ' s) fun k s3 => if k = true then (me ρ' s3).bind fun x s4 => .ok (some x) s4 else .ok none s3).nox
def cmpR (mi : Env → Dice → Res (List D)) (me mt : Env → Dice → Res D) (vs : List Nat) (p : Pat) : Env → Dice → Res D := fun ρ s => (mi ρ s).bind fun ds s1 => (compL ds (itemR me mt vs p ρ) 0 s1).bind fun l s2 => .ok (.list l) s2
theorem compL_exc : ∀ {ds : List D} {f : D → Dice → Res (Option D)} {n : Nat} {s : Dice} {c : Str} {s' : Dice}, (∀ d s c s', f d s ≠ .exc c s') → compL ds f n s ≠ .exc c s'
  | [], _, _, _, _, _, _ => by simp [compL]
  | d :: r, f, n, s, c, s', h => by
    intro e
    unfold compL at e
    cases h1 : f d s with
    | bad => rw [h1] at e; cases e
    | exc c1 s1 => exact h _ _ _ _ h1
    | ok o s1 =>
      rw [h1] at e
      simp only [bind_ok] at e
      cases o with
      | none => exact compL_exc h e
      | some x =>
        dsimp only at e
        split at e
        · cases h2 : compL r f (n + 1) s1 with
          | bad => rw [h2] at e; cases e
          | exc c2 s2 => exact compL_exc h h2
          | ok l s2 => rw [h2] at e; cases e
        · cases e
theorem nox_exc {α : Type} {r : Res α} {c : Str} {s : Dice} : r.nox ≠ .exc c s := by
  cases r <;> intro e <;> cases e
theorem itemR_exc {me mt : Env → Dice → Res D} {vs : List Nat} {p : Pat} {ρ : Env} : ∀ d s c s', itemR me mt vs p ρ d s ≠ .exc c s' := fun d s c s' => by
  unfold itemR
  split
  · intro e; cases e
  · exact nox_exc
section
variable {X : Cx} {W : WS} {B : Base} {σ : L2.St} {ρ : Env} {F1 H1 : Hp} {s1 : Dice} {ds : List D} {me mt : Env → Dice → Res D} {vs : List Nat} {p : Pat}
theorem lc_walk (R : Rel B F1 σ ρ H1 s1) {J : It} {G : Hp} (hG : Same G (Hd B.dc H1)) (w : Wlk B.dc G F1 J ds) {A : Addr} (hA : H1 A = none) {l : List D} {s' : Dice} (hcomp : compL ds (itemR me mt vs p ρ) 0 s1 = .ok l s') (hp : ∀ j ∈ inP p, j ∈ vs) {Q : VK}
    (post : ∀ xs F' H', Step B.dc F1 H1 F' H' s' → F' A = none → Hd B.dc H' A = some (.lst xs) → RpA F' xs l → Q (.ref A) H') :
    ∃ W' : Nat → Nat → Hp → Prop, (∃ m, W' 0 m (upd H1 A (.lst []))) ∧ ∀ i m H, W' i m H →
      (J.stop i H ∧ Q (.ref A) H) ∨ (J.go i H ∧ ∃ Nx : Hp → Prop, (∀ H', Nx H' → ∃ m', m' < m ∧ W' (i + 1) m' H') ∧ ∀ x H', J.yld i H x H' → gP X.K p x (wipe σ vs) H' fun σ2 H2 => wipe σ2 vs = wipe σ vs ∧ tT WN mt σ2 H2 fun b H3 =>
        if b = true then tM WN me σ2 H3 fun y H4 => ∃ acc, H4 A = some (.lst acc) ∧ acc.length < sizeLine ∧ Nx (upd H4 A (.lst (acc ++ [y]))) else Nx H3) := by
  have ndA : B.dc.d ≠ some A := fun e => by
    have := R.ok.di A e
    rw [hA] at this
    cases this
  have fA : F1 A = none := by
    cases q : F1 A with
    | none => rfl
    | some y => exact absurd hA (R.ok.ne q)
  let Iv : Nat → Hp → Prop := fun i H => ∃ F s acc ad rest, Step B.dc F1 H1 F H s ∧ F A = none ∧ Hd B.dc H A = some (.lst acc) ∧ RpA F acc ad ∧ compL (ds.drop i) (itemR me mt vs p ρ) ad.length s = .ok rest s' ∧ l = ad ++ rest
  refine ⟨fun i m H => m = ds.length - i ∧ i ≤ ds.length ∧ Iv i H, ⟨ds.length, by simp, Nat.zero_le _, F1, s1, [], [], l, Step.lay R.ok hA, fA, Hd_of upd_same ⟨ndA, rfl⟩, .nil, hcomp, rfl⟩, ?_⟩
  rintro i m H ⟨rfl, hi, F, s, acc, ad, rest, t, fF, hH, ra, hc, el⟩
  have hG' : Same G (Hd B.dc H) := hG.trans t.hh
  by_cases hlt : i < ds.length
  · refine .inr ⟨w.go i H hG' hlt, Iv (i + 1), fun H' iv => ⟨ds.length - (i + 1), by omega, rfl, hlt, iv⟩, fun x H' y => ?_⟩
    have ed : ds.drop i = ds[i] :: ds.drop (i + 1) := (List.getElem_cons_drop hlt).symm
    rw [ed] at hc
    unfold compL at hc
    obtain ⟨F', t', rx⟩ := w.yld i F H s x H' ds[i] hG' t.ff t.ok (List.getElem?_eq_getElem hlt) y
    have tt := t.trans R.ok t'
    have R' := (R.step tt).wipe vs
    unfold itemR at hc
    cases hs : setP p ds[i] (wipeE ρ vs) with
    | none => rw [hs] at hc; cases hc
    | some ρ' =>
      rw [hs] at hc
      dsimp only at hc
      refine gP_ok X.K R' rx hs fun σ2 R2 k2 l2 => ⟨wipe_eq (fun j hj => k2 j fun hm => hj (hp j hm)) l2, B, F', ρ', s, R2, ?_⟩
      cases h1 : mt ρ' s with
      | bad => rw [h1] at hc; cases hc
      | exc c sc => rw [h1] at hc; cases hc
      | ok d sa =>
        rw [h1] at hc
        cases d with
        | bool k =>
          intro F3 H3 t3
          cases k with
          | false =>
            have hc' : compL (ds.drop (i + 1)) (itemR me mt vs p ρ) ad.length sa = .ok rest s' := hc
            refine iteF ⟨F3, sa, acc, ad, rest, tt.trans R.ok t3, t3.cap A (t'.cap A fF (.hd hH)) ?_, t3.hh _ _ (t'.hh _ _ hH), (ra.mono t'.ff).mono t3.ff, hc', el⟩
            exact .hd (t'.hh _ _ hH)
          | true =>
            refine iteT ⟨B, F3, ρ', sa, R2.step t3, ?_⟩
            have hc1 : ((me ρ' sa).bind fun x s4 => Res.ok (some x) s4).nox.bind (fun o s1 => match o with
                | none => compL (ds.drop (i + 1)) (itemR me mt vs p ρ) ad.length s1
                | some x => if ad.length < sizeLine then (compL (ds.drop (i + 1)) (itemR me mt vs p ρ) (ad.length + 1) s1).bind fun l s2 => .ok (x :: l) s2 else .bad) = .ok rest s' := hc
            cases h2 : me ρ' sa with
            | bad => rw [h2] at hc1; cases hc1
            | exc c sc => rw [h2] at hc1; cases hc1
            | ok e sb =>
              rw [h2] at hc1
              simp only [bind_ok, nox_ok] at hc1
              intro v4 F4 H4 t4 r4
              have hz : ad.length < sizeLine := by
                by_cases hz : ad.length < sizeLine
                · exact hz
                · rw [if_neg hz] at hc1; cases hc1
              rw [if_pos hz] at hc1
              have ne0 : Vis H' A := .hd (t'.hh _ _ hH)
              have h3A := t3.hh _ _ (t'.hh _ _ hH)
              have h4A := t4.hh _ _ h3A
              have f4 : F4 A = none := t4.cap A (t3.cap A (t'.cap A fF (.hd hH)) ne0) (.hd h3A)
              have ra4 := ((ra.mono t'.ff).mono t3.ff).mono t4.ff
              have tall := (tt.trans R.ok t3).trans R.ok t4
              refine ⟨acc, (Hd_some h4A).1, by rw [ra.len]; exact hz, F4, sb, acc ++ [v4], ad ++ [e], ?_⟩
              cases h5 : compL (ds.drop (i + 1)) (itemR me mt vs p ρ) (ad.length + 1) sb with
              | bad => rw [h5] at hc1; cases hc1
              | exc c sc => rw [h5] at hc1; cases hc1
              | ok rest' s5 =>
                rw [h5] at hc1
                simp only [bind_ok] at hc1
                cases hc1
                refine ⟨rest', ⟨tall.ff, fun b o h => ?_, tall.cap, ⟨fun b o h => ?_, fun a e => ?_, tabs_upd tall.ok.tb (.inr (.inl ⟨_, (Hd_some h4A).1⟩))⟩⟩, f4, Hd_of upd_same ⟨ndA, rfl⟩, ra4.append (.cons r4 .nil), by rw [List.length_append]; exact h5, by rw [el, List.append_assoc]; rfl⟩
                · have hb : b ≠ A := fun e => by
                    rw [e] at h
                    rw [(Hd_some h).1] at hA
                    cases hA
                  obtain ⟨h6, h7⟩ := Hd_some (tall.hh _ _ h)
                  exact Hd_of (by rw [upd_ne hb]; exact h6) h7
                · have hb : b ≠ A := fun e => by
                    rw [e, f4] at h
                    cases h
                  obtain ⟨h6, h7⟩ := Hd_some (tall.ok.fh _ _ h)
                  exact Hd_of (by rw [upd_ne hb]; exact h6) h7
                · have hb : a ≠ A := fun h => ndA (by rw [← h]; exact e)
                  rw [upd_ne hb]; exact tall.ok.di a e
        | _ => cases hc
  · have e : i = ds.length := by omega
    subst e
    rw [List.drop_length] at hc
    unfold compL at hc
    cases hc
    rw [List.append_nil] at el
    subst el
    exact .inl ⟨w.stop _ H hG' (Nat.le_refl _), post acc F H t fF hH ra⟩
theorem PTsimp {ifs : List Expr} {t t' : TT} (h : PTs X ifs t) (i : ∀ σ H Q, t' σ H Q → t σ H Q) : PTs X ifs t' := ⟨fun pins s σ H Q I q => h.run pins s σ H Q I (i σ H Q q)⟩
theorem dts_nil : PTs X [] (tT W fun _ s => .ok (.bool true) s) := PTsimp pts_nil fun σ H Q ⟨B, F, ρ, s, R, q⟩ => q F H (Step.refl R.ok)
theorem PostF.bad {dc : DT} {F H : Hp} {Q : VK} (h : PostF dc W F H .bad Q) : False := h
variable {elt tg iter : Expr} {ifs : List Expr} {scope : Scope} {own : List (Str × Nat)} {pos : Pos} {mi : Env → Dice → Res (List D)}
theorem tF_lc {σ : L2.St} {H : Hp} {Q : VK} (hp : ∀ j ∈ inP p, j ∈ vs) (h : tF W (cmpR mi me mt vs p) σ H Q) : tLc (tI false W mi) (gP X.K p) (tT WN mt) (tM WN me) vs σ H Q := by
  obtain ⟨B, F, ρ, s, R, q⟩ := h
  refine ⟨B, F, ρ, s, R, ?_⟩
  unfold cmpR at q
  cases h1 : mi ρ s with
  | bad => rw [h1] at q; exact q
  | exc c s1 => rw [h1] at q; exact q
  | ok ds s1 =>
    rw [h1] at q
    simp only [bind_ok] at q
    intro F1 H1 J G t1 hG w A hA
    cases h2 : compL ds (itemR me mt vs p ρ) 0 s1 with
    | bad => rw [h2] at q; exact q.bad.elim
    | exc c s2 => exact absurd h2 (compL_exc itemR_exc)
    | ok l s2 =>
      rw [h2] at q
      simp only [bind_ok] at q
      have q' := PostF.step R.ok t1 q
      exact lc_walk (X := X) (R.step t1) hG w hA h2 hp fun xs F' H' t' fA hH r => q'.2 l rfl A xs F' H' t' fA (Vis.no hA) hH r
theorem de_lc (hc : X.calm = true) (hN : X.N.Nodup) (hi : PI X tg iter (tI false W mi)) (ok : BlkOk X.N X.env.scope scope own) (hv : own.map (·.2) = vs) (hp : ∀ j ∈ inP p, j ∈ vs)
    (hg : ∀ (s : Shared) (H : Hp) (C : Addr) (cl : List (Str × Addr)) (fp : List Addr), PG (X.blk s H scope (compEnvC scope cl C X.env) fp) tg (gP X.K p)) (ht : ∀ (s : Shared) (H : Hp) (C : Addr) (cl : List (Str × Addr)) (fp : List Addr), PTs (X.blk s H scope (compEnvC scope cl C X.env) fp) ifs (tT WN mt))
    (he : ∀ (s : Shared) (H : Hp) (C : Addr) (cl : List (Str × Addr)) (fp : List Addr), PE (X.blk s H scope (compEnvC scope cl C X.env) fp) elt (tM WN me)) (hs : ∀ x, foldedSetIterable iter X.env x = pure x) :
    PE X (.ListComp elt [⟨tg, iter, ifs, 0⟩] scope pos) (tF W (cmpR mi me mt vs p)) :=
  PEimp (pe_lc hc hN hi ok hg ht he hs) fun σ H Q h => by
    rw [hv]
    exact tF_lc (X := X) hp h
end
end Co

/-! Core 9: statements. -/
namespace Co
open PySem PySem.Spec PyProof.Rows L2
variable [TabT]

theorem Step.there' {dc : DT} {F H F' H' : Hp} {s' : Dice} (t : Step dc F H F' H' s') {b : Addr} (h : Vis H b) : Vis H' b := Step.there t.ok t h
theorem Step.trans' {dc : DT} {F H F1 H1 F2 H2 : Hp} {s1 s2 : Dice} (a : Step dc F H F1 H1 s1) (b : Step dc F1 H1 F2 H2 s2) : Step dc F H F2 H2 s2 :=
  ⟨a.ff.trans b.ff, a.hh.trans b.hh, fun c h1 h2 => b.cap c (a.cap c h1 h2) (a.there' h2), b.ok⟩
theorem Step.none {dc : DT} {F H F' H' : Hp} {s' : Dice} (t : Step dc F H F' H' s') {b : Addr} (h : ¬ Vis H' b) : ¬ Vis H b := fun q => h (t.there' q)
def PostS (B : Base) (W : WS) (r : Out) (D : Ends) : Prop :=
  match r with
  | .nx ρ' s' => ∀ σ' F' H', Rel B F' σ' ρ' H' s' → D.nx σ' H'
  | .ret d s' => ∀ v F' H', Step B.dc B.F0 B.H0 F' H' s' → Rp F' v d → D.rt v H'
  | .exc c s' => ∀ F' H', Step B.dc B.F0 B.H0 F' H' s' → W c H'
  | .bad => False
def tS (W : WS) (m : Env → Dice → Out) : TS := fun D σ H => ∃ B F ρ s, Rel B F σ ρ H s ∧ PostS B W (m ρ s) D
section
variable {X : Cx} {W : WS} {a b c e : Expr} {es : List Expr} {m ma mb mc : Env → Dice → Res D} {pos : Pos} {st : Stmt} {sts : List Stmt} {n n' : Env → Dice → Out}
theorem PostS.bad' {B : Base} {D : Ends} (h : PostS B W .bad D) : False := h
/-! ### blocks -/
theorem dss_nil : PSs X [] (tS W fun ρ s => .nx ρ s) := PSsimp pss_nil fun D σ H ⟨B, F, ρ, s, R, q⟩ => q σ F H R
theorem dss_cons (h1 : PS X st (tS W n)) (h2 : PSs X sts (tS W n')) : PSs X (st :: sts) (tS W fun ρ s => (n ρ s).bind fun ρ' s' => n' ρ' s') := by
  refine PSsimp (pss_cons h1 h2) fun D σ H ⟨B, F, ρ, s, R, q⟩ => ⟨B, F, ρ, s, R, ?_⟩
  dsimp only at q
  cases h : n ρ s with
  | bad => rw [h] at q; exact q
  | exc c s1 => rw [h] at q; exact q
  | ret d s1 => rw [h] at q; exact q
  | nx ρ1 s1 =>
    rw [h] at q
    exact fun σ' F' H' R' => ⟨B, F', ρ1, s1, R', q⟩
/-! ### from an expression's end to a statement's -/
/-- what an expression's value is worth for what follows -/
theorem tS_ex {f : D → Env → Dice → Out} {D : Ends} {σ : L2.St} {H : Hp} {Q : VK} (h : tS W (fun ρ s => (m ρ s).out fun d s1 => f d ρ s1) D σ H)
    (k : ∀ B ρ d s1 v F' H', Rel B F' σ ρ H' s1 → Rp F' v d → PostS B W (f d ρ s1) D → Q v H') : tM W m σ H Q := by
  obtain ⟨B, F, ρ, s, R, q⟩ := h
  refine ⟨B, F, ρ, s, R, ?_⟩
  dsimp only at q
  cases h : m ρ s with
  | bad => rw [h] at q; exact q
  | exc c s1 => rw [h] at q; exact fun F' H' t => q F' H' (R.base.trans' t)
  | ok d s1 =>
    rw [h] at q
    exact fun v F' H' t r => k B ρ d s1 v F' H' (R.step t) r q
theorem ds_ex (he : PE X e (tM W m)) (hs : swapsWith e none pos.line X.env = pure false) : PS X (.Expr e pos) (tS W fun ρ s => (m ρ s).out fun _ s1 => .nx ρ s1) :=
  PSimp (ps_expr he hs) fun D σ H h => tS_ex (f := fun _ ρ s1 => .nx ρ s1) h fun B ρ d s1 v F' H' R r q => q σ F' H' R
theorem ds_ret (he : PE X e (tM W m)) : PS X (.Return (some e) pos) (tS W fun ρ s => (m ρ s).out fun d s1 => .ret d s1) :=
  PSimp (ps_ret he) fun D σ H h => tS_ex (f := fun d _ s1 => .ret d s1) h fun B ρ d s1 v F' H' R r q => q v F' H' R.base r
/-! ### stores -/
theorem setS_some {ρ ρ' : Env} {i : Nat} {v : SV} (h : setS ρ i v = some ρ') : i < ρ.length ∧ ρ' = ρ.set i v := by
  unfold setS at h
  split at h
  · rename_i hi
    cases h
    exact ⟨hi, rfl⟩
  · cases h
theorem ds_asg {tg : Expr} {i : Nat} (h : PS X (.Assign [tg] e pos) (tAsg (tM W m) (gName i))) : PS X (.Assign [tg] e pos) (tS W fun ρ s => (m ρ s).out fun d s1 => .opt (setS ρ i (.val d)) s1) :=
  PSimp h fun D σ H h => tS_ex (f := fun d ρ s1 => .opt (setS ρ i (.val d)) s1) h fun B ρ d s1 v F' H' R r q => by
    cases h1 : setS ρ i (.val d) with
    | none => rw [h1] at q; exact False.elim q
    | some ρ' =>
      rw [h1] at q
      obtain ⟨hi, rfl⟩ := setS_some h1
      exact q _ F' H' (R.set r hi)
theorem ds_unp {tg : Expr} {p : Pat} (h : PS X (.Assign [tg] e pos) (tAsg (tM W m) (gP X.K p))) : PS X (.Assign [tg] e pos) (tS W fun ρ s => (m ρ s).out fun d s1 => .opt (setP p d ρ) s1) :=
  PSimp h fun D σ H h => tS_ex (f := fun d ρ s1 => .opt (setP p d ρ) s1) h fun B ρ d s1 v F' H' R r q => by
    cases h1 : setP p d ρ with
    | none => rw [h1] at q; exact False.elim q
    | some ρ' =>
      rw [h1] at q
      exact gP_ok X.K R r h1 fun σ' R' _ _ => q σ' F' H' R'
/-- a slot is given a list of its own -/
theorem Rel.setO {B : Base} {F H : Hp} {σ : L2.St} {ρ : Env} {s : Dice} (R : Rel B F σ ρ H s) {i : Nat} {p : Addr} {xs : List V} {ds : List D} (hH : Hd B.dc H p = some (.lst xs)) (hF : F p = none) (h0 : ¬ Vis B.H0 p) (r : RpA F xs ds)
    (hd : ∀ (j : Nat) es, j ≠ i → ρ[j]? = some (.own es) → σ[j]? ≠ some (some (.ref p))) (hi : i < ρ.length) : Rel B F (σ.set i (some (.ref p))) (ρ.set i (.own ds)) H s := by
  have hs : i < σ.length := by rw [R.len]; exact hi
  have cas : ∀ {j : Nat} {x : SV}, (ρ.set i (.own ds))[j]? = some x → (j = i ∧ x = .own ds) ∨ (j ≠ i ∧ ρ[j]? = some x) := fun {j x} e => by
    by_cases hj : j = i
    · subst hj
      rw [List.getElem?_set_self hi] at e
      exact .inl ⟨rfl, (Option.some.inj e).symm⟩
    · rw [List.getElem?_set_ne (Ne.symm hj)] at e
      exact .inr ⟨hj, e⟩
  have ne : ∀ {j : Nat}, j ≠ i → (σ.set i (some (.ref p)))[j]? = σ[j]? := fun {j} hj => List.getElem?_set_ne (Ne.symm hj)
  refine ⟨by rw [List.length_set, List.length_set]; exact R.len, R.bf, R.bh, R.bc, R.ok, fun j e h => ?_, fun j h => ?_, fun j es h => ?_, fun j k es fs a h1 h2 h3 h4 => ?_⟩
  · rcases cas h with ⟨_, e1⟩ | ⟨hj, h⟩
    · cases e1
    · rw [ne hj]; exact R.sv j e h
  · rcases cas h with ⟨_, e1⟩ | ⟨hj, h⟩
    · cases e1
    · rw [ne hj]; exact R.sd j h
  · rcases cas h with ⟨rfl, e1⟩ | ⟨hj, h⟩
    · cases e1
      exact ⟨p, xs, List.getElem?_set_self hs, hH, hF, h0, r⟩
    · rw [ne hj]; exact R.so j es h
  · rcases cas h1 with ⟨ej, e1⟩ | ⟨hj, g1⟩
    · rcases cas h2 with ⟨ek, e2⟩ | ⟨hk, g2⟩
      · rw [ej, ek]
      · rw [ej, List.getElem?_set_self hs] at h3
        cases h3
        rw [ne hk] at h4
        exact absurd h4 (hd k fs hk g2)
    · rcases cas h2 with ⟨ek, e2⟩ | ⟨hk, g2⟩
      · rw [ek, List.getElem?_set_self hs] at h4
        cases h4
        rw [ne hj] at h3
        exact absurd h3 (hd j es hj g1)
      · rw [ne hj] at h3
        rw [ne hk] at h4
        exact R.sx j k es fs a g1 g2 h3 h4
theorem Rel.newO {B : Base} {F H : Hp} {σ : L2.St} {ρ : Env} {s : Dice} (R : Rel B F σ ρ H s) {F' H' : Hp} {s' : Dice} (t : Step B.dc F H F' H' s') {i : Nat} {p : Addr} {xs : List V} {ds : List D} (hF : F' p = none) (hp : ¬ Vis H p) (hH : Hd B.dc H' p = some (.lst xs)) (r : RpA F' xs ds) (hi : i < ρ.length) :
    Rel B F' (σ.set i (some (.ref p))) (ρ.set i (.own ds)) H' s' :=
  (R.step t).setO hH hF (R.base.none hp) r (fun j es _ h e => by
    obtain ⟨a, ys, e1, h1, _⟩ := R.so j es h
    rw [e] at e1
    cases e1
    exact hp (.hd h1)) hi
theorem ds_asgO {tg : Expr} {i : Nat} (h : PS X (.Assign [tg] e pos) (tAsg (tF W m) (gName i))) : PS X (.Assign [tg] e pos) (tS W fun ρ s => (m ρ s).out fun d s1 => match d with
    | .list ds => .opt (setS ρ i (.own ds)) s1
    | _ => .bad) :=
  PSimp h fun D σ H ⟨B, F, ρ, s, R, q⟩ => ⟨B, F, ρ, s, R, by
    dsimp only at q
    cases h : m ρ s with
    | bad => rw [h] at q; exact q
    | exc c s1 => rw [h] at q; exact fun F' H' t => q F' H' (R.base.trans' t)
    | ok d s1 =>
      rw [h] at q
      simp only [out_ok] at q
      cases d with
      | list ds =>
        refine ⟨fun v F' H' t r n => absurd rfl (n ds), fun es e p xs F' H' t fp hp hH r => ?_⟩
        cases e
        dsimp only at q
        cases h1 : setS ρ i (.own ds) with
        | none => rw [h1] at q; exact False.elim q
        | some ρ' =>
          rw [h1] at q
          obtain ⟨hi, rfl⟩ := setS_some h1
          exact q _ F' H' (R.newO t fp hp hH r hi)
      | _ => exact False.elim q⟩
/-! ### the list of a slot is changed -/
/-- the list at p, slot i's own, is rewritten -/
theorem Rel.write {B : Base} {F H : Hp} {σ : L2.St} {ρ : Env} {s : Dice} (R : Rel B F σ ρ H s) {i : Nat} {p : Addr} {xs ys : List V} {ds es : List D} (ho : ρ[i]? = some (.own ds)) (hσ : σ[i]? = some (some (.ref p))) (hH : Hd B.dc H p = some (.lst xs)) (hF : F p = none) (h0 : ¬ Vis B.H0 p) (r : RpA F ys es) :
    Rel B F σ (ρ.set i (.own es)) (upd H p (.lst ys)) s := by
  have hi : i < ρ.length := (List.getElem?_eq_some_iff.mp ho).1
  obtain ⟨hHp, ndp⟩ := Hd_some hH
  have cas : ∀ {j : Nat} {x : SV}, (ρ.set i (.own es))[j]? = some x → (j = i ∧ x = .own es) ∨ (j ≠ i ∧ ρ[j]? = some x) := fun {j x} e => by
    by_cases hj : j = i
    · subst hj
      rw [List.getElem?_set_self hi] at e
      exact .inl ⟨rfl, (Option.some.inj e).symm⟩
    · rw [List.getElem?_set_ne (Ne.symm hj)] at e
      exact .inr ⟨hj, e⟩
  have keep : ∀ {b : Addr} {o : HO}, b ≠ p → Hd B.dc H b = some o → Hd B.dc (upd H p (.lst ys)) b = some o := fun {b o} hb h => by
    obtain ⟨h1, h2⟩ := Hd_some h
    exact Hd_of (by rw [upd_ne hb]; exact h1) h2
  refine ⟨by rw [List.length_set]; exact R.len, R.bf, fun b o h => keep (fun e => ?_) (R.bh _ _ h), R.bc, ⟨fun b o h => keep (fun e => ?_) (R.ok.fh _ _ h), fun a e => ?_, tabs_upd R.ok.tb (.inr (.inl ⟨_, hHp⟩))⟩, fun j e h => ?_, fun j h => ?_, fun j fs h => ?_, fun j k fs gs a h1 h2 h3 h4 => ?_⟩
  · rw [e] at h
    exact h0 (.hd h)
  · rw [e, hF] at h
    cases h
  · have hb : a ≠ p := fun h => ndp.1 (by rw [← h]; exact e)
    rw [upd_ne hb]; exact R.ok.di a e
  · rcases cas h with ⟨_, e1⟩ | ⟨hj, h⟩
    · cases e1
    · exact R.sv j e h
  · rcases cas h with ⟨_, e1⟩ | ⟨hj, h⟩
    · cases e1
    · exact R.sd j h
  · rcases cas h with ⟨rfl, e1⟩ | ⟨hj, h⟩
    · cases e1
      exact ⟨p, ys, hσ, Hd_of upd_same ⟨ndp.1, rfl⟩, hF, h0, r⟩
    · obtain ⟨a, zs, e1, h1, h2, h3, h4⟩ := R.so j fs h
      exact ⟨a, zs, e1, keep (fun e => hj (R.sx j i fs ds p h ho (by rw [e1, e]) hσ)) h1, h2, h3, h4⟩
  · have back : ∀ {j : Nat} {fs : List D}, (ρ.set i (.own es))[j]? = some (.own fs) → ∃ gs, ρ[j]? = some (.own gs) := fun {j fs} h => by
      rcases cas h with ⟨rfl, _⟩ | ⟨hj, h⟩
      · exact ⟨ds, ho⟩
      · exact ⟨fs, h⟩
    obtain ⟨g1, k1⟩ := back h1
    obtain ⟨g2, k2⟩ := back h2
    exact R.sx j k g1 g2 a k1 k2 h3 h4
theorem RpA.one {F : Hp} {v : V} {d : D} (r : Rp F v d) : RpA F [v] [d] := .cons r .nil
theorem ds_app {i : Nat} {x : Str} {p2 p3 p4 : Pos} (hv : PE X (.Name x p2) (tVar i)) (he : PE X e (tM W m)) (hst : starEach [e] X.env = (false, eval e X.env) :: starEach [] X.env) (hpl : (backTo p4 (starEach [] X.env)).any (·.1) = false) (hline : (p3.endLine == p4.line) = true) :
    PS X (.Expr (.Call (.Attribute (.Name x p2) "append" p3) [e] [] p4) pos) (tS W fun ρ s => match getO ρ i with
      | none => .bad
      | some _ => (m ρ s).out fun d s1 => match getO ρ i with
        | some ds => if ds.length < sizeLine then .opt (setS ρ i (.own (ds ++ [d]))) s1 else .bad
        | none => .bad) := by
  refine PSimp (ps_expr (pe_bm PySem.F.plainAttrs_list PySem.F.slot_list_append PySem.F.type_list_append mt_append hv (pa_cons he pa_nil hst) rfl (by rw [hst]; rfl) hline hst hpl) rfl) fun D σ H ⟨B, F, ρ, s, R, q⟩ => ?_
  dsimp only at q
  cases ho : getO ρ i with
  | none => rw [ho] at q; exact False.elim q
  | some ds =>
    rw [ho] at q
    dsimp only at q
    have ho' := getO_some ho
    obtain ⟨p, xs, e1, hH, hF, h0, r⟩ := R.so i ds ho'
    refine ⟨_, e1, .inl ⟨rfl, xs, .of (Hd_some hH).1⟩, B, F, ρ, s, R, ?_⟩
    cases h : m ρ s with
    | bad => rw [h] at q; exact q
    | exc c s1 => rw [h] at q; exact fun F' H' t => q F' H' (R.base.trans' t)
    | ok d s1 =>
      rw [h] at q
      simp only [out_ok] at q
      intro v F' H' t rv
      have R' := R.step t
      obtain ⟨p', xs', e1', hH', hF', h0', r'⟩ := R'.so i ds ho'
      rw [e1] at e1'
      cases e1'
      by_cases hz : ds.length < sizeLine
      · rw [if_pos hz] at q
        have hi : i < ρ.length := (List.getElem?_eq_some_iff.mp ho').1
        have q' : ∀ σ' F' H', Rel B F' σ' (ρ.set i (.own (ds ++ [d]))) H' s1 → D.nx σ' H' := by
          unfold setS at q
          rw [if_pos hi] at q
          exact q
        exact ⟨p, xs', v, rfl, rfl, (Hd_some hH').1, by rw [r'.len]; exact hz, q' σ F' _ (R'.write ho' e1 hH' hF' h0' (r'.append (.one rv)))⟩
      · rw [if_neg hz] at q
        exact False.elim q
theorem RpA.last {F : Hp} {ds : List D} {xs : List V} (r : RpA F xs ds) {d : D} (h : ds.getLast? = some d) : ∃ v, xs[xs.length - 1]? = some v ∧ Rp F v d := by
  rw [List.getLast?_eq_getElem?] at h
  rw [r.len]
  exact r.get h
theorem ds_pop {tg : Expr} {p : Pat} {i : Nat} {x : Str} {p2 p3 p4 : Pos} (hv : PE X (.Name x p2) (tVar i)) (hl : (p3.endLine == p4.line) = true)
    (ha : ∀ {te : TE}, PE X (.Call (.Attribute (.Name x p2) "pop" p3) [] [] p4) te → PS X (.Assign [tg] (.Call (.Attribute (.Name x p2) "pop" p3) [] [] p4) pos) (tAsg te (gP X.K p))) :
    PS X (.Assign [tg] (.Call (.Attribute (.Name x p2) "pop" p3) [] [] p4) pos) (tS W fun ρ s => match getO ρ i with
      | none => .bad
      | some ds => match ds.getLast? with
        | none => .bad
        | some d => (Out.opt (setS ρ i (.own ds.dropLast)) s).bind fun ρ1 s1 => .opt (setP p d ρ1) s1) := by
  refine PSimp (ha (pe_bm0 PySem.F.plainAttrs_list PySem.F.slot_list_pop PySem.F.type_list_pop mt_pop hv rfl hl)) fun D σ H ⟨B, F, ρ, s, R, q⟩ => ?_
  dsimp only at q
  cases ho : getO ρ i with
  | none => rw [ho] at q; exact False.elim q
  | some ds =>
    rw [ho] at q
    dsimp only at q
    have ho' := getO_some ho
    have hi : i < ρ.length := (List.getElem?_eq_some_iff.mp ho').1
    obtain ⟨a, xs, e1, hH, hF, h0, r⟩ := R.so i ds ho'
    cases hg : ds.getLast? with
    | none => rw [hg] at q; exact False.elim q
    | some d =>
      rw [hg] at q
      obtain ⟨v, ev, rv⟩ := r.last hg
      refine ⟨_, e1, .inl ⟨rfl, xs, .of (Hd_some hH).1⟩, a, xs, v, rfl, rfl, (Hd_some hH).1, ev, ?_⟩
      unfold setS at q
      rw [if_pos hi] at q
      simp only [oopt_some, obind_nx] at q
      cases hp : setP p d (ρ.set i (.own ds.dropLast)) with
      | none => rw [hp] at q; exact False.elim q
      | some ρ' =>
        rw [hp] at q
        exact gP_ok X.K (R.write ho' e1 hH hF h0 r.dropLast) rv hp fun σ' R' _ _ => q σ' F _ R'
theorem ds_setI {i : Nat} {x : Str} {k v : Expr} {mk : Env → Dice → Res D} {p2 p3 : Pos} (hv : PE X (.Name x p2) (tVar i)) (hk : PE X k (tM W mk)) (he : PE X v (tM W m))
    (hsub : ∀ v, assign (.Subscript (.Name x p2) k p3) X.env v = (do
      let ov ← holding [v] (eval (.Name x p2) X.env)
      let iv ← holding [v, ov] (eval k X.env)
      standAt p3
      holding [v, ov, iv] (setItem ov iv v)
      release [v, ov, iv] []))
    (ha : ∀ {te : TE} {g : TG}, PE X v te → PG X (.Subscript (.Name x p2) k p3) g → PS X (.Assign [.Subscript (.Name x p2) k p3] v pos) (tAsg te g)) :
    PS X (.Assign [.Subscript (.Name x p2) k p3] v pos) (tS W fun ρ s => (m ρ s).out fun d s1 => match getO ρ i with
      | none => .bad
      | some ds => (mk ρ s1).out fun x s2 => match x with
        | .int n => match ixN ds.length n with
          | none => .bad
          | some j => .opt (setS ρ i (.own (ds.set j d))) s2
        | _ => .bad) := by
  refine PSimp (ha he (pg_sub hv hk set_list hsub)) fun D σ H ⟨B, F, ρ, s, R, q⟩ => ⟨B, F, ρ, s, R, ?_⟩
  dsimp only at q
  cases h : m ρ s with
  | bad => rw [h] at q; exact q
  | exc c s1 => rw [h] at q; exact fun F' H' t => q F' H' (R.base.trans' t)
  | ok d s1 =>
    rw [h] at q
    simp only [out_ok] at q
    intro w F' H' t rw'
    have R' := R.step t
    cases ho : getO ρ i with
    | none => rw [ho] at q; exact False.elim q
    | some ds =>
      rw [ho] at q
      dsimp only at q
      have ho' := getO_some ho
      have hi : i < ρ.length := (List.getElem?_eq_some_iff.mp ho').1
      obtain ⟨a, xs, e1, hH, hF, h0, r⟩ := R'.so i ds ho'
      refine ⟨_, e1, B, F', ρ, s1, R', ?_⟩
      cases h2 : mk ρ s1 with
      | bad => rw [h2] at q; exact q
      | exc c s2 => rw [h2] at q; exact fun F2 H2 t2 => q F2 H2 (R'.base.trans' t2)
      | ok y s2 =>
        rw [h2] at q
        simp only [out_ok] at q
        intro u F2 H2 t2 ru
        have R2 := R'.step t2
        obtain ⟨a', xs', e1', hH', hF', h0', r'⟩ := R2.so i ds ho'
        rw [e1] at e1'
        cases e1'
        cases y with
        | int z =>
          dsimp only at q
          cases hx : ixN ds.length z with
          | none => rw [hx] at q; exact False.elim q
          | some j =>
            rw [hx] at q
            unfold setS at q
            dsimp only at q
            rw [if_pos hi] at q
            exact ⟨a, xs', z, j, rfl, ru.int', (Hd_some hH').1, by rw [r'.len]; exact hx, q σ F2 _ (R2.write ho' e1 hH' hF' h0' (r'.set (rw'.mono t2.ff) j))⟩
        | _ => exact False.elim q
/-! ### branches, loops -/
theorem tS_test {f : Bool → Env → Dice → Out} {D : Ends} {σ : L2.St} {H : Hp} {Q : Bool → Hp → Prop} (h : tS W (fun ρ s => (m ρ s).out fun d s1 => match d with
      | .bool true => f true ρ s1
      | .bool false => f false ρ s1
      | _ => .bad) D σ H)
    (k : ∀ B F' ρ s1 H' b, Rel B F' σ ρ H' s1 → PostS B W (f b ρ s1) D → Q b H') : tT W m σ H Q := by
  obtain ⟨B, F, ρ, s, R, q⟩ := h
  refine ⟨B, F, ρ, s, R, ?_⟩
  dsimp only at q
  cases h : m ρ s with
  | bad => rw [h] at q; exact q
  | exc c s1 => rw [h] at q; exact fun F' H' t => q F' H' (R.base.trans' t)
  | ok d s1 =>
    rw [h] at q
    cases d with
    | bool b =>
      cases b with
      | true => exact fun F' H' t => k B F' ρ s1 H' true (R.step t) q
      | false => exact fun F' H' t => k B F' ρ s1 H' false (R.step t) q
    | _ => exact False.elim q
theorem ds_if {sa sb : List Stmt} (hc : PT X c (tT W m)) (ha : PSs X sa (tS W n)) (hb : PSs X sb (tS W n')) : PS X (.If c sa sb pos) (tS W fun ρ s => (m ρ s).out fun d s1 => match d with
    | .bool true => n ρ s1
    | .bool false => n' ρ s1
    | _ => .bad) :=
  PSimp (ps_if hc ha hb) fun D σ H h => tS_test (f := fun b ρ s1 => match b with | true => n ρ s1 | false => n' ρ s1) h fun B F' ρ s1 H' b R q => by
    cases b with
    | true => exact iteT ⟨B, F', ρ, s1, R, q⟩
    | false => exact iteF ⟨B, F', ρ, s1, R, q⟩
def Base.at' (B : Base) (F : Hp) : Base := ⟨F, B.H0, B.dc⟩
theorem Rel.rebase {B : Base} {F1 H1 : Hp} {σ1 : L2.St} {ρ1 : Env} {s1 : Dice} (R : Rel B F1 σ1 ρ1 H1 s1) : Rel (B.at' F1) F1 σ1 ρ1 H1 s1 :=
  ⟨R.len, Same.refl _, R.bh, fun _ h _ => h, R.ok, R.sv, R.sd, R.so, R.sx⟩
theorem Rel.unbase {B : Base} {F1 H1 F : Hp} {σ1 σ : L2.St} {ρ1 ρ : Env} {H : Hp} {s1 s : Dice} (R : Rel B F1 σ1 ρ1 H1 s1) (R' : Rel (B.at' F1) F σ ρ H s) : Rel B F σ ρ H s :=
  ⟨R'.len, R.bf.trans R'.bf, R'.bh, fun b h1 h2 => R'.bc b (R.bc b h1 h2) h2, R'.ok, R'.sv, R'.sd, R'.so, R'.sx⟩
theorem Rel.unstep {B : Base} {F1 H1 F : Hp} {σ1 : L2.St} {ρ1 : Env} {H : Hp} {s1 s : Dice} (R : Rel B F1 σ1 ρ1 H1 s1) (t : Step B.dc F1 B.H0 F H s) : Step B.dc B.F0 B.H0 F H s :=
  ⟨R.bf.trans t.ff, t.hh, fun b h1 h2 => t.cap b (R.bc b h1 h2) h2, t.ok⟩
theorem PostS.rebase {B : Base} {F1 H1 : Hp} {σ1 : L2.St} {ρ1 : Env} {s1 : Dice} (R : Rel B F1 σ1 ρ1 H1 s1) {r : Out} {D : Ends} (h : PostS B W r D) : PostS (B.at' F1) W r D := by
  cases r with
  | nx ρ s => exact fun σ F H R' => h σ F H (R.unbase R')
  | ret d s => exact fun v F H t r => h v F H (R.unstep t) r
  | exc c s => exact fun F H t => h F H (R.unstep t)
  | bad => exact h
theorem ds_for {tg iter : Expr} {body : List Stmt} {p : Pat} {mi : Env → Dice → Res (List D)} (hp : PassesOwn (model X.prog X.w) X.A X.env X.xe) (hc : X.calm = true) (hi : PI X tg iter (tI true W mi)) (hg : PG X tg (gP X.K p)) (hb : PSs X body (tS W n)) (hs : ∀ x, foldedSetIterable iter X.env x = pure x) :
    PS X (.For tg iter body [] pos) (tS W fun ρ s => (mi ρ s).out fun ds s1 => forL (fun d ρ s => (Out.opt (setP p d ρ) s).bind fun ρ' s' => n ρ' s') ds ρ s1) := by
  refine PSimp (ps_for hp hc hi hg hb hs) fun D σ H ⟨B, F, ρ, s, R, q⟩ => ⟨B, F, ρ, s, R, ?_⟩
  dsimp only at q
  cases h : mi ρ s with
  | bad => rw [h] at q; exact q
  | exc c s1 => rw [h] at q; exact fun F' H' t => q F' H' (R.base.trans' t)
  | ok ds s1 =>
    rw [h] at q
    simp only [out_ok] at q
    intro F1 H1 J G t hG w
    have hG : Same G F1 := hG
    have R0 := R.step t
    replace q := q.rebase R0
    generalize hB : B.at' F1 = B1 at q
    have eF : B1.F0 = F1 := by rw [← hB]; rfl
    have eD : B.dc = B1.dc := by rw [← hB]; rfl
    have R1 : Rel B1 F1 σ ρ H1 s1 := by rw [← hB]; exact R0.rebase
    rw [eD] at w
    let Iv : Nat → L2.St → Hp → Prop := fun i σ H => ∃ F ρ s, Rel B1 F σ ρ H s ∧ PostS B1 W (forL (fun d ρ s => (Out.opt (setP p d ρ) s).bind fun ρ' s' => n ρ' s') (ds.drop i) ρ s) D
    refine ⟨fun i m σ H => m = ds.length - i ∧ i ≤ ds.length ∧ Iv i σ H, ⟨ds.length, by simp, Nat.zero_le _, F1, ρ, s1, R1, q⟩, ?_⟩
    rintro i m σ2 H2 ⟨rfl, hi, F2, ρ2, s2, R2, q2⟩
    have sf : Same F1 F2 := by have := R2.bf; rwa [eF] at this
    have hG' : Same G (Hd B1.dc H2) := (hG.trans sf).trans R2.ok.fh
    by_cases hlt : i < ds.length
    · refine .inr ⟨w.go i H2 hG' hlt, Iv (i + 1), fun σ' H' iv => ⟨ds.length - (i + 1), by omega, rfl, hlt, iv⟩, fun x H' y => ?_⟩
      have ed : ds.drop i = ds[i] :: ds.drop (i + 1) := (List.getElem_cons_drop hlt).symm
      rw [ed] at q2
      unfold forL at q2
      obtain ⟨F', t', rx⟩ := w.yld i F2 H2 s2 x H' ds[i] hG' sf R2.ok (List.getElem?_eq_getElem hlt) y
      cases hs : setP p ds[i] ρ2 with
      | none => rw [hs] at q2; exact False.elim q2
      | some ρ' =>
        rw [hs] at q2
        simp only [oopt_some, obind_nx] at q2
        refine gP_ok X.K (R2.step t') rx hs fun σ3 R3 _ _ => ⟨B1, F', ρ', s2, R3, ?_⟩
        cases h3 : n ρ' s2 with
        | bad => rw [h3] at q2; exact q2
        | exc c s3 => rw [h3] at q2; exact q2
        | ret d s3 => rw [h3] at q2; exact q2
        | nx ρ3 s3 =>
          rw [h3] at q2
          exact fun σ4 F4 H4 R4 => ⟨F4, ρ3, s3, R4, q2⟩
    · have e : i = ds.length := by omega
      subst e
      rw [List.drop_length] at q2
      unfold forL at q2
      exact .inl ⟨w.stop _ H2 hG' (Nat.le_refl _), q2 σ2 F2 H2 R2⟩
end
end Co

/-! Core 9b: several names at once, while, a list let go. -/
namespace Co
open PySem PySem.Spec PyProof.Rows L2
variable [TabT]

/-- slots told anew -/
theorem Rel.reidx {B : Base} {F H : Hp} {σ σ' : L2.St} {ρ ρ' : Env} {s : Dice} (R : Rel B F σ ρ H s) (f : Nat → Nat) (hl : σ'.length = ρ'.length) (inj : ∀ j k, f j = f k → j = k)
    (hf : ∀ (j : Nat) x, ρ'[j]? = some x → σ'[j]? = σ[f j]? ∧ ρ[f j]? = some x) : Rel B F σ' ρ' H s := by
  refine ⟨hl, R.bf, R.bh, R.bc, R.ok, fun j e h => ?_, fun j h => ?_, fun j es h => ?_, fun j k es fs a h1 h2 h3 h4 => ?_⟩
  · obtain ⟨a, b⟩ := hf j _ h; rw [a]; exact R.sv _ e b
  · obtain ⟨a, b⟩ := hf j _ h; rw [a]; exact R.sd _ b
  · obtain ⟨a, b⟩ := hf j _ h; rw [a]; exact R.so _ es b
  · obtain ⟨a1, b1⟩ := hf j _ h1
    obtain ⟨a2, b2⟩ := hf k _ h2
    exact inj _ _ (R.sx _ _ es fs a b1 b2 (a1 ▸ h3) (a2 ▸ h4))
theorem Rel.pre {B : Base} {F H : Hp} {σ w : L2.St} {ρ y : Env} {s : Dice} (R : Rel B F (σ ++ w) (ρ ++ y) H s) (hl : σ.length = ρ.length) : Rel B F σ ρ H s :=
  R.reidx id hl (fun _ _ h => h) fun j x h => by
    have hj : j < ρ.length := (List.getElem?_eq_some_iff.mp h).1
    exact ⟨by rw [id, List.getElem?_append_left (by omega)], by rw [id, List.getElem?_append_left hj]; exact h⟩
theorem Rel.move {B : Base} {F H : Hp} {σ w : L2.St} {v : Option V} {x : SV} {ρ y : Env} {s : Dice} (R : Rel B F (σ ++ v :: w) (ρ ++ x :: y) H s) (hl : σ.length = ρ.length) {i : Nat} (hi : i < ρ.length) :
    Rel B F (σ.set i v ++ w) (ρ.set i x ++ y) H s := by
  have hw : w.length = y.length := by
    have := R.len
    simp only [List.length_append, List.length_cons] at this
    omega
  refine R.reidx (fun j => if j = i then ρ.length else if j < ρ.length then j else j + 1) (by simp only [List.length_append, List.length_set]; omega) (fun j k h => ?_) fun j z h => ?_
  · split at h <;> split at h <;> (try split at h) <;> (try split at h) <;> omega
  · by_cases hji : j = i
    · subst hji
      rw [List.getElem?_append_left (by rw [List.length_set]; exact hi), List.getElem?_set_self hi] at h
      rw [if_pos rfl, List.getElem?_append_left (by rw [List.length_set]; omega), List.getElem?_set_self (by omega), List.getElem?_append_right (by omega), List.getElem?_append_right (by omega), hl]
      simp only [Nat.sub_self, List.getElem?_cons_zero]
      exact ⟨trivial, h⟩
    · rw [if_neg hji]
      by_cases hjn : j < ρ.length
      · rw [List.getElem?_append_left (by rw [List.length_set]; exact hjn), List.getElem?_set_ne (Ne.symm hji)] at h
        rw [if_pos hjn, List.getElem?_append_left (by rw [List.length_set]; omega), List.getElem?_set_ne (Ne.symm hji), List.getElem?_append_left (by omega), List.getElem?_append_left hjn]
        exact ⟨rfl, h⟩
      · rw [List.getElem?_append_right (by rw [List.length_set]; omega), List.length_set] at h
        rw [if_neg hjn, List.getElem?_append_right (by rw [List.length_set]; omega), List.length_set, List.getElem?_append_right (by omega), List.getElem?_append_right (by omega)]
        have e1 : j + 1 - σ.length = (j - σ.length) + 1 := by omega
        have e2 : j + 1 - ρ.length = (j - ρ.length) + 1 := by omega
        rw [e1, e2, List.getElem?_cons_succ, List.getElem?_cons_succ]
        exact ⟨rfl, h⟩
theorem Rel.back {B : Base} {F H : Hp} {σ : L2.St} {ρ : Env} {s : Dice} (R : Rel B F (σ ++ []) (ρ ++ []) H s) : Rel B F σ ρ H s := by
  rwa [List.append_nil, List.append_nil] at R
theorem Rel.slotN {B : Base} {F H : Hp} {σ : L2.St} {ρ : Env} {s : Dice} (R : Rel B F σ ρ H s) (v : Option V) : Rel B F (σ ++ [v]) (ρ ++ [.no]) H s := by
  have cas : ∀ {j : Nat} {x : SV}, (ρ ++ [SV.no])[j]? = some x → x ≠ .no → ρ[j]? = some x ∧ (σ ++ [v])[j]? = σ[j]? := fun {j x} h hx => by
    by_cases hj : j < ρ.length
    · rw [List.getElem?_append_left hj] at h
      exact ⟨h, List.getElem?_append_left (by rw [R.len]; exact hj)⟩
    · rw [List.getElem?_append_right (by omega)] at h
      cases q : j - ρ.length with
      | zero => rw [q] at h; cases h; exact absurd rfl hx
      | succ n => rw [q] at h; cases h
  refine ⟨by rw [List.length_append, List.length_append, R.len]; rfl, R.bf, R.bh, R.bc, R.ok, fun j e h => ?_, fun j h => ?_, fun j es h => ?_, fun j k es fs a h1 h2 h3 h4 => ?_⟩
  · obtain ⟨a, b⟩ := cas h (by simp); rw [b]; exact R.sv _ e a
  · obtain ⟨a, b⟩ := cas h (by simp); rw [b]; exact R.sd _ a
  · obtain ⟨a, b⟩ := cas h (by simp); rw [b]; exact R.so _ es a
  · obtain ⟨a1, b1⟩ := cas h1 (by simp)
    obtain ⟨a2, b2⟩ := cas h2 (by simp)
    exact R.sx _ _ es fs a a1 a2 (b1 ▸ h3) (b2 ▸ h4)
theorem Rel.extV {B : Base} {F H : Hp} {σ : L2.St} {ρ : Env} {s : Dice} (R : Rel B F σ ρ H s) {v : V} {d : D} (r : Rp F v d) : Rel B F (σ ++ [some v]) (ρ ++ [.val d]) H s := by
  have := (R.slotN none).set (i := ρ.length) r (by rw [List.length_append]; simp)
  rw [List.set_append_right _ _ (Nat.le_refl _), List.set_append_right _ _ (by rw [R.len]; exact Nat.le_refl _), R.len, Nat.sub_self] at this
  exact this
theorem Rel.extO {B : Base} {F H : Hp} {σ : L2.St} {ρ : Env} {s : Dice} (R : Rel B F σ ρ H s) {F' H' : Hp} {s' : Dice} (t : Step B.dc F H F' H' s') {p : Addr} {xs : List V} {ds : List D} (hF : F' p = none) (hp : ¬ Vis H p) (hH : Hd B.dc H' p = some (.lst xs)) (r : RpA F' xs ds) :
    Rel B F' (σ ++ [some (.ref p)]) (ρ ++ [.own ds]) H' s' := by
  have := (R.slotN none).newO (i := ρ.length) t hF hp hH r (by rw [List.length_append]; simp)
  rw [List.set_append_right _ _ (Nat.le_refl _), List.set_append_right _ _ (by rw [R.len]; exact Nat.le_refl _), R.len, Nat.sub_self] at this
  exact this
/-- all of them -/
def putAll : List Nat → List V → L2.St → L2.St
  | i :: r, v :: vs, σ => putAll r vs (σ.set i (some v))
  | _, _, σ => σ
theorem Rel.putAll {B : Base} {F H : Hp} {s : Dice} : ∀ {is : List Nat} {us : List V} {xs : List SV} {σ : L2.St} {ρ ρ' : Env}, us.length = xs.length → σ.length = ρ.length → Rel B F (σ ++ us.map some) (ρ ++ xs) H s → setSs is xs ρ = some ρ' → Rel B F (putAll is us σ) ρ' H s
  | [], us, [], σ, ρ, ρ', hu, hl, R, h => by
    cases h
    cases us with
    | nil => exact R.back
    | cons _ _ => cases hu
  | [], _, _ :: _, _, _, _, _, _, _, h => by cases h
  | _ :: _, _, [], _, _, _, _, _, _, h => by cases h
  | i :: is, [], _ :: _, _, _, _, hu, _, _, _ => by cases hu
  | i :: is, u :: us, x :: xs, σ, ρ, ρ', hu, hl, R, h => by
    cases h1 : setS ρ i x with
    | none => simp only [setSs, h1] at h; cases h
    | some ρ1 =>
      simp only [setSs, h1, Option.bind_some] at h
      obtain ⟨hi, rfl⟩ := setS_some h1
      exact Rel.putAll (is := is) (Nat.succ.inj hu) (by rw [List.length_set, List.length_set]; exact hl) (R.move hl hi) h
def PostP (B : Base) (W : WS) (σ : L2.St) (ρ : Env) (ws : List V) (ys : List SV) (r : Res (List SV)) (Q : List V → Hp → Prop) : Prop :=
  match r with
  | .ok zs s' => ∀ us F' H', us.length = zs.length → Rel B F' (σ ++ (ws ++ us).map some) (ρ ++ (ys ++ zs)) H' s' → Q us H'
  | .exc c s' => ∀ F' H', Step B.dc B.F0 B.H0 F' H' s' → W c H'
  | .bad => False
def tP (W : WS) (g : Env → Dice → Res (List SV)) : TA := fun σ H Q => ∃ B F ρ s ws ys, σ.length = ρ.length ∧ Rel B F (σ ++ List.map some ws) (ρ ++ ys) H s ∧ PostP B W σ ρ ws ys (g ρ s) Q
section
variable {X : Cx} {W : WS} {a b c e : Expr} {es : List Expr} {m ma mb mc : Env → Dice → Res D} {pos : Pos} {st : Stmt} {sts : List Stmt} {n n' : Env → Dice → Out} {g : Env → Dice → Res (List SV)}
theorem dp_nil : PA X [] (tP W fun _ s => .ok [] s) := PAimp pa_nil fun σ H Q ⟨B, F, ρ, s, ws, ys, hl, R, q⟩ => q [] F H rfl (by rw [List.append_nil, List.append_nil]; exact R)
theorem dp_val (he : PE X e (tM W m)) (hr : PA X es (tP W g)) (hs : starEach (e :: es) X.env = (false, eval e X.env) :: starEach es X.env) :
    PA X (e :: es) (tP W fun ρ s => (m ρ s).bind fun d s1 => (g ρ s1).bind fun vs s2 => .ok (.val d :: vs) s2) := by
  refine PAimp (pa_cons he hr hs) fun σ H Q ⟨B, F, ρ, s, ws, ys, hl, R, q⟩ => ⟨B, F, ρ, s, R.pre hl, ?_⟩
  dsimp only at q
  cases h1 : m ρ s with
  | bad => rw [h1] at q; exact q
  | exc c s1 => rw [h1] at q; exact fun F' H' t => q F' H' (R.base.trans' t)
  | ok d s1 =>
    rw [h1] at q
    simp only [bind_ok] at q
    intro v F1 H1 t1 r1
    refine ⟨B, F1, ρ, s1, ws ++ [v], ys ++ [.val d], hl, ?_, ?_⟩
    · rw [List.map_append, ← List.append_assoc, ← List.append_assoc]
      exact (R.step t1).extV r1
    · cases h2 : g ρ s1 with
      | bad => rw [h2] at q; exact q
      | exc c s2 => rw [h2] at q; exact q
      | ok zs s2 =>
        rw [h2] at q
        exact fun us F' H' hu R' => q (v :: us) F' H' (by rw [List.length_cons, List.length_cons, hu]) (by
          rw [List.append_assoc, List.append_assoc] at R'
          exact R')
theorem dp_own (he : PE X e (tF W m)) (hr : PA X es (tP W g)) (hs : starEach (e :: es) X.env = (false, eval e X.env) :: starEach es X.env) :
    PA X (e :: es) (tP W fun ρ s => (m ρ s).bind fun d s1 => match d with
      | .list ds => (g ρ s1).bind fun vs s2 => .ok (.own ds :: vs) s2
      | _ => .bad) := by
  refine PAimp (pa_cons he hr hs) fun σ H Q ⟨B, F, ρ, s, ws, ys, hl, R, q⟩ => ⟨B, F, ρ, s, R.pre hl, ?_⟩
  dsimp only at q
  cases h1 : m ρ s with
  | bad => rw [h1] at q; exact q
  | exc c s1 => rw [h1] at q; exact fun F' H' t => q F' H' (R.base.trans' t)
  | ok d s1 =>
    rw [h1] at q
    simp only [bind_ok] at q
    cases d with
    | list ds =>
      refine ⟨fun v F' H' t r n => absurd rfl (n ds), fun es' e' p xs F1 H1 t1 fp hp hH r => ?_⟩
      cases e'
      dsimp only at q
      refine ⟨B, F1, ρ, s1, ws ++ [.ref p], ys ++ [.own ds], hl, ?_, ?_⟩
      · rw [List.map_append, ← List.append_assoc, ← List.append_assoc]
        exact R.extO t1 fp hp hH r
      · cases h2 : g ρ s1 with
        | bad => rw [h2] at q; exact q
        | exc c s2 => rw [h2] at q; exact q
        | ok zs s2 =>
          rw [h2] at q
          exact fun us F' H' hu R' => q (.ref p :: us) F' H' (by rw [List.length_cons, List.length_cons, hu]) (by
            rw [List.append_assoc, List.append_assoc] at R'
            exact R')
    | _ => exact False.elim q
theorem tP_of {is : List Nat} {D : Ends} {σ : L2.St} {H : Hp} {Q : List V → Hp → Prop} (h : tS W (fun ρ s => (g ρ s).out fun vs s1 => .opt (setSs is vs ρ) s1) D σ H)
    (k : ∀ us H', us.length = is.length → D.nx (putAll is us σ) H' → Q us H') : tP W g σ H Q := by
  obtain ⟨B, F, ρ, s, R, q⟩ := h
  refine ⟨B, F, ρ, s, [], [], R.len, by rw [List.append_nil]; simp only [List.map_nil, List.append_nil]; exact R, ?_⟩
  dsimp only at q
  cases h1 : g ρ s with
  | bad => rw [h1] at q; exact q
  | exc c s1 => rw [h1] at q; exact q
  | ok zs s1 =>
    rw [h1] at q
    intro us F' H' hu R'
    simp only [out_ok] at q
    cases h2 : setSs is zs ρ with
    | none => rw [h2] at q; exact False.elim q
    | some ρ' =>
      rw [h2] at q
      have hz : ∀ {is : List Nat} {zs : List SV} {ρ ρ' : Env}, setSs is zs ρ = some ρ' → zs.length = is.length := fun {is} => by
        induction is with
        | nil => intro zs ρ ρ' h; cases zs with
          | nil => rfl
          | cons _ _ => cases h
        | cons i is ih => intro zs ρ ρ' h; cases zs with
          | nil => cases h
          | cons z zs =>
            cases h3 : setS ρ i z with
            | none => simp only [setSs, h3] at h; cases h
            | some ρ1 =>
              simp only [setSs, h3, Option.bind_some] at h
              rw [List.length_cons, List.length_cons, ih h]
      exact k us H' (by rw [hu]; exact hz h2) (q _ F' H' (Rel.putAll hu R.len (by simpa using R') h2))
theorem tP_of2 {is : List Nat} {D : Ends} {σ : L2.St} {H : Hp} {Q : List V → Hp → Prop} (h : tS W (fun ρ s => (g ρ s).out fun vs s1 => .opt (setSs is vs ρ) s1) D σ H)
    (k : ∀ us H', us.length = is.length → (∀ p o, H' p = none → D.nx (putAll is us σ) (upd H' p o)) → Q us H') : tP W g σ H Q := by
  obtain ⟨B, F, ρ, s, R, q⟩ := h
  refine ⟨B, F, ρ, s, [], [], R.len, by rw [List.append_nil]; simp only [List.map_nil, List.append_nil]; exact R, ?_⟩
  dsimp only at q
  cases h1 : g ρ s with
  | bad => rw [h1] at q; exact q
  | exc c s1 => rw [h1] at q; exact q
  | ok zs s1 =>
    rw [h1] at q
    intro us F' H' hu R'
    simp only [out_ok] at q
    cases h2 : setSs is zs ρ with
    | none => rw [h2] at q; exact False.elim q
    | some ρ' =>
      rw [h2] at q
      have hz : ∀ {is : List Nat} {zs : List SV} {ρ ρ' : Env}, setSs is zs ρ = some ρ' → zs.length = is.length := fun {is} => by
        induction is with
        | nil => intro zs ρ ρ' h; cases zs with
          | nil => rfl
          | cons _ _ => cases h
        | cons i is ih => intro zs ρ ρ' h; cases zs with
          | nil => cases h
          | cons z zs =>
            cases h3 : setS ρ i z with
            | none => simp only [setSs, h3] at h; cases h
            | some ρ1 =>
              simp only [setSs, h3, Option.bind_some] at h
              rw [List.length_cons, List.length_cons, ih h]
      exact k us H' (by rw [hu]; exact hz h2) fun p o hp => q _ F' _ ((Rel.putAll hu R.len (by simpa using R') h2).step (Step.lay R'.ok hp))
def gNs : List Nat → TGs
  | [] => gNil
  | i :: r => gCons (gName i) (gNs r)
theorem gNs_ok {Q : L2.St → Hp → Prop} {H : Hp} : ∀ {is : List Nat} {us : List V} {σ : L2.St}, us.length = is.length → Q (putAll is us σ) H → gNs is us σ H Q
  | [], [], σ, _, q => ⟨rfl, q⟩
  | [], _ :: _, _, h, _ => by cases h
  | _ :: _, [], _, h, _ => by cases h
  | i :: is, u :: us, σ, h, q => ⟨u, us, rfl, gNs_ok (is := is) (Nat.succ.inj h) q⟩
theorem ds_parT {is : List Nat} {ts : List Expr} {kt k2 : Nat} {pt pt2 : Pos} (hA : PA X es (tP W g)) (hg : PG X (.Tuple ts kt pt) (gTup X.K is.length (gNs is))) (hz : is.length ≤ sizeLine) (hw : swappedStores [.Tuple ts kt pt] (.Tuple es k2 pt2) X.env = pure none) :
    PS X (.Assign [.Tuple ts kt pt] (.Tuple es k2 pt2) pos) (tS W fun ρ s => (g ρ s).out fun vs s1 => .opt (setSs is vs ρ) s1) :=
  PSimp (ps_asg (pe_tup hA) hg rfl hw rfl) fun D σ H hh => tP_of2 hh fun us H' hl hq => by
    refine ⟨by rw [hl]; exact hz, fun p hp => ⟨p, us, rfl, .of upd_same, hl, gNs_ok hl (hq p _ hp)⟩⟩
theorem two_of {α : Type} : ∀ {us : List α}, us.length = 2 → ∃ a b, us = [a, b]
  | [a, b], _ => ⟨a, b, rfl⟩
theorem three_of {α : Type} : ∀ {us : List α}, us.length = 3 → ∃ a b c, us = [a, b, c]
  | [a, b, c], _ => ⟨a, b, c, rfl⟩
theorem ds_par2 {i j : Nat} {st : Stmt} (h : ∀ {ta : TA}, PA X [a, b] ta → PS X st (tPar i j ta)) (hA : PA X [a, b] (tP W g)) :
    PS X st (tS W fun ρ s => (g ρ s).out fun vs s1 => .opt (setSs [i, j] vs ρ) s1) :=
  PSimp (h hA) fun D σ H hh => tP_of hh fun us H' hl hq => by
    obtain ⟨v, w, rfl⟩ := two_of hl
    exact ⟨v, w, rfl, hq⟩
def tPar3 (i j k : Nat) (ta : TA) : TS := fun D σ H => ta σ H fun vs H1 => ∃ v w u, vs = [v, w, u] ∧ D.nx (((σ.set i (some v)).set j (some w)).set k (some u)) H1
theorem ds_par3 {i j k : Nat} {st : Stmt} (h : ∀ {ta : TA}, PA X [a, b, c] ta → PS X st (tPar3 i j k ta)) (hA : PA X [a, b, c] (tP W g)) :
    PS X st (tS W fun ρ s => (g ρ s).out fun vs s1 => .opt (setSs [i, j, k] vs ρ) s1) :=
  PSimp (h hA) fun D σ H hh => tP_of hh fun us H' hl hq => by
    obtain ⟨v, w, u, rfl⟩ := three_of hl
    exact ⟨v, w, u, rfl, hq⟩
theorem ps_par3 {i j k : Nat} {x y z : Str} {a b c : Expr} {ta : TA} {px py pz pt : Pos} {kt k2 pt2} (hc : X.calm = true) (hN : X.N.Nodup) (hi : X.N[i]? = some x) (hj : X.N[j]? = some y) (hk : X.N[k]? = some z) (hij : i ≠ j) (hik : i ≠ k) (hjk : j ≠ k)
    (hx : X.env.scope.names.lookup x = some .local) (hy : X.env.scope.names.lookup y = some .local) (hz : X.env.scope.names.lookup z = some .local) (ha : PA X [a, b, c] ta)
    (hw : swappedStores [.Tuple [.Name x px, .Name y py, .Name z pz] kt pt] (.Tuple [a, b, c] k2 pt2) X.env = pure (some [x, y, z]))
    (hs : swapsWithSole [.Tuple [.Name x px, .Name y py, .Name z pz] kt pt] (.Tuple [a, b, c] k2 pt2) pos.line X.env = pure false := by rfl) :
    PS X (.Assign [.Tuple [.Name x px, .Name y py, .Name z pz] kt pt] (.Tuple [a, b, c] k2 pt2) pos) (tPar3 i j k ta) := by
  refine ⟨fun pins s σ H D I h => ?_⟩
  rw [exec_Assign_arm]
  refine wpAny_bind (wpAny_standAt ?_)
  rw [hs]
  refine wpAny_bind (wpAny_pure ?_)
  rw [if_neg (by decide)]
  refine wpAny_bind (Tuple_ (thn (ha.run _ pins s σ H _ I h) fun us s1 ⟨vs, H1, I1, r1, q1⟩ => ?_))
  obtain ⟨v, w, u, e1, q1⟩ := q1
  subst e1
  obtain ⟨u1, u2, u3, rfl, rv, rw', ru⟩ : ∃ u1 u2 u3, us = [u1, u2, u3] ∧ RelV v u1 ∧ RelV w u2 ∧ RelV u u3 := by
    cases r1 with
    | cons p q =>
      cases q with
      | cons p' q' =>
        cases q' with
        | cons p'' q'' =>
          cases q''
          exact ⟨_, _, _, rfl, p, p', p''⟩
  refine wpAny_newObj_type ?_ (by show 3 ≤ sizeLine; decide)
  have I2 : Inv X pins σ H1 { s1 with heap := s1.heap.push { cls := .type "tuple", data := .seq [u1, u2, u3].toArray } } := I1.kept (t' := s1.toks) fun b o e => Heap.get?_push_of_some _ e
  rw [hw]
  refine wpAny_bind (wpAny_pure ?_)
  show wpAny (model X.prog X.w) X.A (do rule "assign.swapped-stores"; let items ← unpackItems (.ref s1.heap.objs.size) 3 none; assignInOrder [fun v => bindName X.env z v, fun v => bindName X.env y v, fun v => bindName X.env x v] items.reverse; pure Flow.next) _ _ _
  refine wpAny_bind (wpAny_rule (wpAny_bind (unpackItems_tuple (items := #[u1, u2, u3]) (I.ok.hd hc) (IsTup.new s1.heap _) fun h' hx' => ?_)))
  have I3 := I2.kept (h' := h') (t' := s1.toks) fun b o e => hx' b o (Nat.ne_of_lt (Heap.lt_size e)) e
  show wpAny _ _ (assignInOrder [fun v => bindName X.env z v, fun v => bindName X.env y v, fun v => bindName X.env x v] [u3, u2, u1] >>= fun _ => pure Flow.next) _ _ _
  refine wpAny_bind (assignInOrder_cons (wpAny_bindName (store_ok I3 hN hk (.inl hz) ru (fun s2 I4 => ?_) (.inr hz))))
  refine assignInOrder_cons (wpAny_bindName (store_ok I4 hN hj (.inl hy) rw' (fun s3 I5 => ?_) (.inr hy)))
  refine assignInOrder_cons (wpAny_bindName (store_ok I5 hN hi (.inl hx) rv (fun s4 I6 => assignInOrder_nil (wpAny_pure ?_)) (.inr hx)))
  rw [List.set_comm _ _ (Ne.symm hij), List.set_comm _ _ (Ne.symm hik), List.set_comm _ _ (Ne.symm hjk)] at I6
  exact ⟨_, H1, I6, q1⟩
/-! ### while -/
theorem ds_while {body : List Stmt} (hp : PassesOwn (model X.prog X.w) X.A X.env X.xe) (hc : PT X c (tT W m)) (hb : PSs X body (tS W n)) : PS X (.While c body [] pos) (tS W fun ρ s => whlL m n FUEL ρ s) := by
  refine PSimp (ps_while hp hc hb) fun D σ H h => ⟨fun k σ H => tS W (fun ρ s => whlL m n k ρ s) D σ H, ⟨FUEL, h⟩, fun k σ H h => ?_⟩
  cases k with
  | zero =>
    obtain ⟨B, F, ρ, s, R, q⟩ := h
    exact False.elim q
  | succ k =>
    exact tS_test (f := fun b ρ s1 => match b with | true => (n ρ s1).bind fun ρ' s' => whlL m n k ρ' s' | false => .nx ρ s1) h fun B F' ρ s1 H' b R q => by
      cases b with
      | true =>
        rw [if_pos rfl]
        refine ⟨fun σ' H' => tS W (fun ρ s => whlL m n k ρ s) D σ' H', fun σ' H' hh => ⟨k, Nat.lt_succ_self _, hh⟩, B, F', ρ, s1, R, ?_⟩
        dsimp only at q
        cases h3 : n ρ s1 with
        | bad => rw [h3] at q; exact q
        | exc c s3 => rw [h3] at q; exact q
        | ret d s3 => rw [h3] at q; exact q
        | nx ρ3 s3 =>
          rw [h3] at q
          exact fun σ4 F4 H4 R4 => ⟨B, F4, ρ3, s3, R4, q⟩
      | false =>
        rw [if_neg (by decide)]
        exact q σ F' H' R
/-! ### a list of one's own is let go: it no longer changes -/
theorem Rel.frz {B : Base} {F H : Hp} {σ : L2.St} {ρ : Env} {s : Dice} (R : Rel B F σ ρ H s) {i : Nat} {ds : List D} (h : ρ[i]? = some (.own ds)) : ∃ F', Rel B F' σ (ρ.set i (.val (.list ds))) H s := by
  obtain ⟨p, xs, e1, hH, hF, h0, r⟩ := R.so i ds h
  have hi : i < ρ.length := (List.getElem?_eq_some_iff.mp h).1
  have st := (Step.refl R.ok)
  refine ⟨upd F p (.lst xs), ?_⟩
  have ff : Same F (upd F p (.lst xs)) := fun b o e => by
    by_cases hb : b = p
    · rw [hb, hF] at e; cases e
    · rw [upd_ne hb]; exact e
  have cas : ∀ {j : Nat} {x : SV}, (ρ.set i (.val (.list ds)))[j]? = some x → (j = i ∧ x = .val (.list ds)) ∨ (j ≠ i ∧ ρ[j]? = some x) := fun {j x} e => by
    by_cases hj : j = i
    · subst hj
      rw [List.getElem?_set_self hi] at e
      exact .inl ⟨rfl, (Option.some.inj e).symm⟩
    · rw [List.getElem?_set_ne (Ne.symm hj)] at e
      exact .inr ⟨hj, e⟩
  refine ⟨by rw [List.length_set]; exact R.len, R.bf.trans ff, R.bh, fun b h1 h2 => ?_, ⟨fun b o e => ?_, R.ok.di, R.ok.tb⟩, fun j e h => ?_, fun j h => ?_, fun j es h' => ?_, fun j k es fs a h1 h2 h3 h4 => ?_⟩
  · have hb : b ≠ p := fun e => h0 (by rw [← e]; exact h2)
    rw [upd_ne hb]; exact R.bc b h1 h2
  · by_cases hb : b = p
    · rw [hb, upd_same] at e; cases e; rw [hb]; exact hH
    · rw [upd_ne hb] at e; exact R.ok.fh b o e
  · rcases cas h with ⟨rfl, e2⟩ | ⟨hj, h⟩
    · cases e2
      exact ⟨_, e1, .lst upd_same (r.mono ff)⟩
    · obtain ⟨v, a, b⟩ := R.sv j e h
      exact ⟨v, a, b.mono ff⟩
  · rcases cas h with ⟨_, e1⟩ | ⟨hj, h⟩
    · cases e1
    · exact R.sd j h
  · rcases cas h' with ⟨_, e1⟩ | ⟨hj, h'⟩
    · cases e1
    · obtain ⟨a, ys, b1, b2, b3, b4, b5⟩ := R.so j es h'
      have hb : a ≠ p := fun e => hj (R.sx j i es ds p h' h (by rw [b1, e]) e1)
      exact ⟨a, ys, b1, b2, by rw [upd_ne hb]; exact b3, b4, b5.mono ff⟩
  · rcases cas h1 with ⟨_, e1⟩ | ⟨hj, g1⟩
    · cases e1
    · rcases cas h2 with ⟨_, e2⟩ | ⟨hk, g2⟩
      · cases e2
      · exact R.sx j k es fs a g1 g2 h3 h4
theorem dss_frz {i : Nat} (h : PSs X sts (tS W n)) : PSs X sts (tS W fun ρ s => (match getO ρ i with
      | none => Out.nx ρ s
      | some ds => .opt (setS ρ i (.val (.list ds))) s).bind n) :=
  PSsimp h fun D σ H ⟨B, F, ρ, s, R, q⟩ => by
    dsimp only at q
    cases ho : getO ρ i with
    | none => rw [ho] at q; exact ⟨B, F, ρ, s, R, q⟩
    | some ds =>
      rw [ho] at q
      have ho' := getO_some ho
      have hi : i < ρ.length := (List.getElem?_eq_some_iff.mp ho').1
      obtain ⟨F', R'⟩ := R.frz ho'
      unfold setS at q
      dsimp only at q
      rw [if_pos hi] at q
      exact ⟨B, F', _, s, R', q⟩
end
end Co

/-! Core 9c: the dice read and written. -/
namespace Co
open PySem PySem.Spec PyProof.Rows L2
variable [TabT]
theorem Rel.dst {B : Base} {F H : Hp} {σ : L2.St} {ρ : Env} {s : Dice} (R : Rel B F σ ρ H s) {a : Addr} (hd : B.dc.d = some a) (x y : Int) : Rel B F σ ρ (upd H a (.lst [.int x, .int y])) (x, y) := by
  have keep : ∀ {b : Addr} {o : HO}, Hd B.dc H b = some o → Hd B.dc (upd H a (.lst [.int x, .int y])) b = some o := fun {b o} h => by
    obtain ⟨h1, h2⟩ := Hd_some h
    have hb : b ≠ a := fun e => h2.1 (by rw [e]; exact hd)
    exact Hd_of (by rw [upd_ne hb]; exact h1) h2
  refine ⟨R.len, R.bf, fun b o h => keep (R.bh _ _ h), R.bc, ⟨fun b o h => keep (R.ok.fh _ _ h), fun b e => ?_, tabs_upd R.ok.tb (.inr (.inl ⟨_, R.ok.di a hd⟩))⟩, R.sv, R.sd, fun j es h => ?_, R.sx⟩
  · rw [hd] at e
    cases e
    exact upd_same
  · obtain ⟨p, zs, e1, h1, r⟩ := R.so j es h
    exact ⟨p, zs, e1, keep h1, r⟩
section
variable {X : Cx} {W : WS} {e : Expr} {m : Env → Dice → Res D} {pos p2 p3 p4 : Pos} {x : Str} {i : Nat} {k : Bool} {j : Nat}
theorem de_drd (h : PE X (.Name x p2) (tVar i)) : PE X (.Subscript (.Name x p2) (.Constant (.int (dix k)) j p3) pos) (tM W fun ρ s => if isDice ρ i = true then .ok (.int (dget k s)) s else .bad) := by
  refine PEimp (pe_ix ix_list h pe_int fun _ _ => rfl) fun σ H Q ⟨B, F, ρ, s, R, q⟩ => ?_
  dsimp only at q
  by_cases hd : isDice ρ i = true
  · rw [if_pos hd] at q
    obtain ⟨p, e1, e2⟩ := R.sd i (isDice_some hd)
    refine ⟨_, e2, p, [.int s.1, .int s.2], dix k, .int (dget k s), rfl, rfl, .of (R.ok.di p e1), ?_, q _ F H (Step.refl R.ok) (.int _)⟩
    cases k <;> rfl
  · rw [if_neg hd] at q
    exact False.elim q
theorem ds_dst (hv : PE X (.Name x p2) (tVar i)) (he : PE X e (tM W m))
    (ha : ∀ {te : TE} {g : TG}, PE X e te → PG X (.Subscript (.Name x p2) (.Constant (.int (dix k)) j p3) p4) g → PS X (.Assign [.Subscript (.Name x p2) (.Constant (.int (dix k)) j p3) p4] e pos) (tAsg te g)) :
    PS X (.Assign [.Subscript (.Name x p2) (.Constant (.int (dix k)) j p3) p4] e pos) (tS W fun ρ s => (m ρ s).out fun d s1 => match d with
      | .int v => if isDice ρ i = true then .nx ρ (dput k s1 v) else .bad
      | _ => .bad) := by
  refine PSimp (ha he (pg_sub hv pe_int set_list)) fun D σ H ⟨B, F, ρ, s, R, q⟩ => ⟨B, F, ρ, s, R, ?_⟩
  dsimp only at q
  cases h : m ρ s with
  | bad => rw [h] at q; exact q
  | exc c s1 => rw [h] at q; exact fun F' H' t => q F' H' (R.base.trans' t)
  | ok d s1 =>
    rw [h] at q
    simp only [out_ok] at q
    cases d with
    | int v =>
      dsimp only at q
      intro w F' H' t rw'
      have R' := R.step t
      by_cases hd : isDice ρ i = true
      · rw [if_pos hd] at q
        obtain ⟨p, e1, e2⟩ := R'.sd i (isDice_some hd)
        refine ⟨_, e2, p, [.int s1.1, .int s1.2], dix k, (match k with | true => 1 | false => 0), rfl, rfl, R'.ok.di p e1, by cases k <;> rfl, ?_⟩
        have hw := rw'.int'
        subst hw
        cases k with
        | true => exact q σ F' _ (R'.dst e1 s1.1 v)
        | false => exact q σ F' _ (R'.dst e1 v s1.2)
      · rw [if_neg hd] at q
        exact False.elim q
    | _ => exact False.elim q
end
end Co

/-! Core 10: a look that a text is what a core term says. -/
namespace Co
open PySem PySem.Spec PyProof.Rows L2

structure Sc where
  sc : Scope
  N : List Str
  fn : Str → Bool
  fs : List (Str × Nat)
  cs : List (Str × Int)
  xs : List Str
  tl : Bool
inductive Md where | val | bor | tst
  deriving DecidableEq
def mdF : Bool → Md
  | true => .val
  | false => .bor
def Md.sub : Md → Md
  | .tst => .tst
  | _ => .val
def visC (sc : Scope) (x : Str) : Bool :=
  match sc.names.lookup x with
  | some .local => true
  | some .cell => true
  | some .free => true
  | _ => false
def okN (S : Sc) (i : Nat) (x : Str) : Bool := decide (S.N[i]? = some x) && visC S.sc x && !(x == ("__debug__" : Str)) && !(x == ("__classdict__" : Str))
/-- it may be stored -/
def okL (S : Sc) (i : Nat) (x : Str) : Bool := decide (S.N[i]? = some x) && (match S.sc.names.lookup x with
  | some .local => true
  | some .cell => S.fn x
  | _ => false)
def lclC (S : Sc) (x : Str) : Bool := match S.sc.names.lookup x with
  | some .local => true
  | _ => false
def celC (S : Sc) (x : Str) : Bool := match S.sc.names.lookup x with
  | some .cell => true
  | _ => false
def glC (S : Sc) (x : Str) : Bool := (match S.sc.names.lookup x with
  | some .globalImplicit => true
  | _ => false) && !(x == ("__debug__" : Str))
def notStar : Expr → Bool
  | .Starred .. => false
  | _ => true
def notSet : Expr → Bool
  | .Set .. => false
  | _ => true
def notSlice : Expr → Bool
  | .Slice .. => false
  | _ => true
def notComp : Expr → Bool
  | .ListComp .. => false
  | .SetComp .. => false
  | .DictComp .. => false
  | _ => true
def notTuple : Expr → Bool
  | .Tuple .. => false
  | _ => true
def plainT : Expr → Bool
  | .UnaryOp .Not _ _ => false
  | .BoolOp .. => false
  | .IfExp .. => false
  | .Compare .. => false
  | _ => true
def opC : BOp → Operator → Bool
  | .add, .Add => true
  | .sub, .Sub => true
  | .mul, .Mult => true
  | .fdiv, .FloorDiv => true
  | .mod, .Mod => true
  | .pow, .Pow => true
  | _, _ => false
def cmC : COp → CmpOp → Bool
  | .eq, .Eq => true
  | .ne, .NotEq => true
  | .lt, .Lt => true
  | .le, .LtE => true
  | .gt, .Gt => true
  | .ge, .GtE => true
  | .inn, .In => true
  | .nin, .NotIn => true
  | _, _ => false
def cstC : D → Const → Bool
  | .int i, .int j => decide (i = j)
  | .bool i, .bool j => decide (i = j)
  | .none, .none => true
  | .str i, .str j => decide (i = j)
  | _, _ => false
def bltN : Blt → Str
  | .len => "len" | .int => "int" | .str => "str" | .tuple => "tuple" | .list => "list" | .sorted => "sorted" | .sum => "sum" | .min => "min" | .max => "max" | .all => "all" | .any => "any" | .abs => "abs"
  | .isInt => "isinstance" | .isBool => "isinstance" | .isStr => "isinstance" | .isTuple => "isinstance"
def isiN : Blt → Option Str
  | .isInt => some "int" | .isBool => some "bool" | .isStr => some "str" | .isTuple => some "tuple"
  | _ => none
def frC : CE → Bool
  | .stop => true
  | .bin .. => true
  | .lst .. => true
  | .slc .. => true
  | .blt b _ => (isiN b).isNone
  | .lrng .. => true
  | .comp .. => true
  | .cmp .. => true
  | _ => false
mutual
def okP (S : Sc) : Pat → Expr → Bool
  | .one i, .Name x _ => okL S i x
  | .tup ps, .Tuple es _ _ => okPs S ps es
  | _, _ => false
def okPs (S : Sc) : PatL → List Expr → Bool
  | .nil, [] => true
  | .cons p r, e :: es => okP S p e && notStar e && okPs S r es
  | _, _ => false
end
def relC (scope : Scope) (S : Sc) : Sc := { S with sc := relS scope S.sc, fn := fun x => scope.names.lookup x == some .cell, xs := [], tl := false }
/-- a lambda's own scope -/
def lamC (scope : Scope) (S : Sc) : Sc := { S with sc := scope, fn := fun _ => false, xs := [], tl := false }
/-- no parameters -/
def noPar : Arguments → Bool
  | ⟨[], [], none, [], [], none, []⟩ => true
  | _ => false
def ownOf (N : List Str) (vs : List Nat) : List (Str × Nat) := vs.map fun i => (N.getD i "", i)
def asIs : List CmpOp → List Expr → Bool
  | [.Is], [.Constant .none _ _] => true
  | _, _ => false
def asIsN : List CmpOp → List Expr → Bool
  | [.IsNot], [.Constant .none _ _] => true
  | _, _ => false
def isiOk (S : Sc) (T : Str) : List Expr → Bool
  | [.Name y _] => decide (y = T) && glC S y
  | _ => false
def nilL : CL → Bool
  | .nil => true
  | _ => false
def isZ : CE → Bool
  | .cst (.int 0) => true
  | _ => false
def asRange (S : Sc) : Expr → Option (Expr × Option Expr)
  | .Call (.Name y _) [e] [] _ => if decide (y = "range") && glC S y && notStar e then some (e, none) else none
  | .Call (.Name y _) [e, e'] [] _ => if decide (y = "range") && glC S y && notStar e && notStar e' then some (e, some e') else none
  | _ => none
def asEnum (S : Sc) : Expr → Option Expr
  | .Call (.Name y _) [e] [] _ => if decide (y = "enumerate") && glC S y && notStar e then some e else none
  | _ => none
def asGen : List Comprehension → Option (Expr × Expr × List Expr)
  | [⟨tg, iter, ifs, ia⟩] => if ia = 0 then some (tg, iter, ifs) else none
  | _ => none
def isDix (k : Bool) : Expr → Bool
  | .Constant (.int j) _ _ => decide (j = dix k)
  | _ => false
def okDce (S : Sc) (i : Nat) : Expr → Bool
  | .Name x _ => okN S i x
  | _ => false
def isTup : Expr → Bool
  | .Tuple .. => true
  | _ => false
mutual
def okE (S : Sc) : Md → CE → Expr → Bool
  | _, .stop, _ => true
  | _, .cst d, .Constant k _ _ => cstC d k
  | _, .cst d, .Name x _ => match d with
    | .int i => glC S x && S.cs.contains (x, i)
    | _ => false
  | _, .var i, .Name x _ => okN S i x
  | m, .bor i, .Name x _ => decide (m = .bor) && okN S i x
  | _, .drd i k, .Subscript o j _ => okDce S i o && isDix k j
  | _, .bin o a b, .BinOp l op r _ => opC o op && okE S .bor a l && okE S .bor b r
  | _, .neg a, .UnaryOp .USub x _ => okE S .bor a x
  | m, .not a, .UnaryOp .Not x _ => okE S m.sub a x
  | m, .and a b, .BoolOp .And [x, y] _ => okE S m.sub a x && okE S m.sub b y
  | m, .and a b, .BoolOp .And (x :: y :: z :: r) p => okE S m.sub a x && okE S m.sub b (.BoolOp .And (y :: z :: r) p)
  | m, .or a b, .BoolOp .Or [x, y] _ => okE S m.sub a x && okE S m.sub b y
  | m, .or a b, .BoolOp .Or (x :: y :: z :: r) p => okE S m.sub a x && okE S m.sub b (.BoolOp .Or (y :: z :: r) p)
  | _, .cmp o a b, .Compare x [op] [y] _ => cmC o op && okE S .bor a x && okE S .bor b y && notSet y
  | _, .isN a, .Compare x ops ys _ => asIs ops ys && okE S .bor a x
  | _, .notN a, .Compare x ops ys _ => asIsN ops ys && okE S .bor a x
  | _, .chain o p a b c, .Compare x [op, op'] [y, z] _ => cmC o op && cmC p op' && okE S .bor a x && okE S .bor b y && okE S .bor c z && notSet z
  | m, .ife c a b, .IfExp t x y _ => decide (m ≠ .tst) && okE S .tst c t && okE S .val a x && okE S .val b y
  | _, .tup l, .Tuple es _ _ => okM S l es
  | _, .lst l, .List es _ => okM S l es
  | _, .sub a b, .Subscript x y _ => okE S .bor a x && okE S .bor b y && notSlice y
  | _, .slc a lo hi, .Subscript x (.Slice l h none _) _ => okE S .bor a x && okO S lo l && okO S hi h
  | _, .call f (.cons a l), .Call (.Name x _) (e :: es) [] _ => (match S.fs[f]? with
      | some (y, n) => decide (y = x) && decide (n = lenL (.cons a l))
      | none => false) && glC S x && notStar e && okA S (.cons a l) (e :: es)
  | _, .blt b (.cons a l), .Call (.Name x _) (e :: es) [] _ => decide (bltN b = x) && glC S x && notStar e && (match isiN b with
      | some T => isiOk S T es && nilL l && okE S .bor a e
      | none => okB S (.cons a l) (e :: es))
  | _, .lrng a b, .Call (.Name x _) [r] [] _ => decide (x = "list") && glC S x && (match asRange S r with
      | some (e, none) => isZ a && okE S .bor b e
      | some (e, some e') => okE S .bor a e && okE S .bor b e'
      | none => false)
  | _, .comp elt vs p it c, .ListComp x gens scope _ => (match asGen gens with
      | some (tg, iter, ifs) => blkC S.N S.sc scope (ownOf S.N vs) && (inP p).all (fun j => vs.contains j) && okP (relC scope S) p tg && okI S false it tg iter && notSet iter && okT (relC scope S) c ifs && okE (relC scope S) .val elt x
      | none => false)
  | _, .told c, .Call (.Name x _) [.Lambda params body scope _] [] _ => S.tl && decide (x = "_law_told") && glC S x && LamX.lamSB S.sc scope && noPar params && okE (lamC scope S) .val c body
  | _, _, _ => false
/-- a display -/
def okM (S : Sc) : CL → List Expr → Bool
  | .nil, [] => true
  | .cons c l, e :: es => okE S .val c e && notStar e && okM S l es
  | _, _ => false
/-- a built-in's arguments -/
def okB (S : Sc) : CL → List Expr → Bool
  | .nil, [] => true
  | .cons c l, e :: es => okE S .bor c e && notStar e && okB S l es
  | _, _ => false
/-- a def's arguments -/
def okA (S : Sc) : CL → List Expr → Bool
  | .nil, [] => true
  | .cons c l, e :: es => (match c with
    | .dce i => okDce S i e
    | _ => okE S .val c e) && notStar e && okA S l es
  | _, _ => false
def okO (S : Sc) : CO → Option Expr → Bool
  | .non, none => true
  | .som c, some e => okE S .bor c e
  | _, _ => false
def okT (S : Sc) : CO → List Expr → Bool
  | .non, [] => true
  | .som c, [e] => okE S .tst c e
  | _, _ => false
def okI (S : Sc) (fz : Bool) : CI → Expr → Expr → Bool
  | .rng a b, _, r => (match asRange S r with
      | some (e, none) => isZ a && okE S .bor b e
      | some (e, some e') => okE S .bor a e && okE S .bor b e'
      | none => false)
  | .seq a, _, e => okE S (mdF fz) a e
  | .enm a, tg, r => isTup tg && (match asEnum S r with
      | some e => okE S (mdF fz) a e
      | none => false)
def lenL : CL → Nat
  | .nil => 0
  | .cons _ l => lenL l + 1
end
end Co

/-! Core H1: lists walked while an exception is handled. -/
namespace CoH
open PySem PySem.Spec PyProof.Rows L2 L2H HotX
section
variable {prog : Program} {w : World} {A : Around} {E : Value → Shared → Prop} {s : Shared}
/-- a list's iterator at its end, while x1 is handled -/
theorem list_end {it l x1 : Addr} {i : Nat} {items : Array Value} {Q : Option Value → Shared → Prop} (hot : HotAt A x1 s.heap) (hx1 : x1 ≠ it) (hit : s.heap.IsListIter it l i) (hl : s.heap.IsList l items) (hx : items[i]? = none)
    (hQ : ∀ h', Heap.ExtBut it s.heap h' → Q none { s with heap := h' }) : wpAny (model prog w) A (pyNext (.ref it)) Q E s := by
  obtain ⟨hh, o1, vs1, h1, d1, c1⟩ := hot
  obtain ⟨o, ho, hc, hd⟩ := id hit
  obtain ⟨ol, hol, _, nl, hdl⟩ := hl
  unfold pyNext
  refine wpAny_bind (wpAny_attempt (wpAny_callSpecial?_slot (name := Str.ofString "__next__") hit.typeIs slot_listiter_next (wpAny_call_entry slot_listiter_next hit.typeIs entry_listiter_next ?_ (args_listiter_next _))))
  show wpAny _ _ (do let q ← field (.ref it) 0; _) _ _ s
  refine wpAny_bind (wpAny_field ho hd (x := .ref l) rfl ?_)
  show wpAny _ _ (ite ((Value.ref l == Value.none) = true) _ _) _ _ s
  rw [if_neg (show ¬ ((Value.ref l == Value.none) = true) from fun z => nomatch z)]
  show wpAny _ _ (do let q ← field (.ref it) 1; _) _ _ s
  refine wpAny_bind (wpAny_field ho hd (x := .int i 0) rfl ?_)
  show wpAny _ _ (do let q ← seqItems? (.ref l); _) _ _ s
  refine wpAny_bind (wpAny_seqItems hol hdl ?_)
  simp only [Int.toNat_natCast, hx]
  refine wpAny_bind (wpAny_rule (wpAny_bind (wpAny_setField ho hd (by simp) ?_)))
  show wpAny _ _ (do let e ← newExc (.type "StopIteration") []; _) _ _ _
  refine wpAny_bind ?_
  simp only [newExc, newTuple]
  refine wpAny_bind (wpAny_newObj_type ?_ (by size_fits))
  refine wpAny_bind (m := firstArgMember _ _) (wpAny_of_eq (a := Value.none) (by first | rfl | (simp only [firstArgMember]; rfl)) ?_)
  refine wpAny_newObj_type ?_ (by size_fits)
  have k1 : (s.heap.update it (Obj.mapFields (·.setIfInBounds 0 .none))).get? x1 = some o1 := by rw [Heap.get?_update_other _ _ (Ne.symm hx1)]; exact h1
  refine raiseNew_hot (x1 := x1) ⟨hh, o1, vs1, Heap.get?_push_of_some _ (Heap.get?_push_of_some _ k1), d1, c1⟩ (Nat.ne_of_lt (Heap.lt_size (Heap.get?_push_of_some _ k1))) (Heap.get?_push_size _ rfl) rfl (by first | (simp; done) | (simp; omega)) ?_
  refine wpAny_bind (wpAny_isInstance (T := "StopIteration") (b := true) ⟨_, Heap.get?_update_self _ (Heap.get?_push_size _ rfl) rfl, rfl⟩ isSubtype_stop ?_)
  refine wpAny_pure (hQ _ fun b ob hb e => ?_)
  have e1 : (s.heap.update it (Obj.mapFields (·.setIfInBounds 0 .none))).get? b = some ob := by rw [Heap.get?_update_other _ _ (Ne.symm hb)]; exact e
  rw [Heap.get?_update_other _ _ (Nat.ne_of_gt (Heap.lt_size (Heap.get?_push_of_some _ e1)))]
  exact Heap.get?_push_of_some _ (Heap.get?_push_of_some _ e1)
end
/-- what is handled stands there -/
def Han (x1 : Addr) (h : Heap) : Prop := ∃ (o : Obj) (vs : Array Value), h.get? x1 = some o ∧ o.data = .fields vs ∧ vs[2]? = some .none
theorem walks_hot {prog : Program} {w : World} {A : Around} {x1 : Addr} (hh : A.handled = some (.ref x1)) (I ax : Addr) (hne : ax ≠ I) (hx : x1 ≠ I) (items : Array Value) :
    Walks prog w A I [I, ax, x1] [I] items.size (fun i v => items[i]? = some v) (fun i h => h.IsListIter I ax i ∧ h.IsList ax items ∧ Han x1 h) where
  sub := fun b hb => by simp at hb; simp [hb]
  frame := fun _ _ _ st hk => ⟨st.1.at fun o e => hk I (by simp) o e, st.2.1.at fun o e => hk ax (by simp) o e, let ⟨o, vs, e, r⟩ := st.2.2; ⟨o, vs, hk x1 (by simp) o e, r⟩⟩
  item := fun i s Q E hi st hQ => by
    refine wpAny_pyNext_list_item st.1 st.2.1 (x := items[i]) (by simp [hi]) fun h' hit' hs' => ?_
    obtain ⟨o, vs, e, r⟩ := st.2.2
    exact hQ _ h' s.toks (by simp [hi]) ⟨hit', st.2.1.extBut hs'.extBut hne, o, vs, hs'.extBut x1 o hx e, r⟩ fun b o hb e => hs'.extBut b o (fun z => hb (by rw [z]; exact List.mem_singleton.mpr rfl)) e
  done := fun s Q E st hQ => list_end ⟨hh, st.2.2⟩ hx st.1 st.2.1 (by simp) fun h' he' => hQ h' s.toks fun b o hb e => he' b o (fun z => hb (by rw [z]; exact List.mem_singleton.mpr rfl)) e
  self := fun _ _ _ _ st hQ => wpAny_pyIter_listiter st.1 hQ
section
variable {X : Cx}
/-- sum(xs) of 0 and 1, while an exception is handled -/
def rSum01 (K : PySem.W.Frag) : List V → Hp → VK → Prop := fun vs H Q => ∃ (a : Addr) (ns : List Int), vs = [V.ref a] ∧ SqL K H a (ns.map V.int) ∧ ns.length ≤ 100 ∧ (∀ n ∈ ns, 0 ≤ n ∧ n ≤ 1) ∧ Q (.int ns.sum) H
theorem pre_bd {val : Nat → Int} {n : Nat} (h : ∀ j, j < n → 0 ≤ val j ∧ val j ≤ 1) : ∀ j, j ≤ n → 0 ≤ preSum val j ∧ preSum val j ≤ j
  | 0, _ => ⟨Int.le_refl _, Int.le_refl _⟩
  | j + 1, hj => by
    have h1 := pre_bd h j (by omega)
    have h2 := h j (by omega)
    have e : preSum val (j + 1) = preSum val j + val j := rfl
    rw [e]
    omega
theorem cr_sumH (hc : HotC X) : CallR X (.builtin "sum") (rSum01 X.K) := by
  intro pins s σ H vs us Q I r h
  obtain ⟨a, ns, rfl, hs, hn, hb, q⟩ := h
  obtain ⟨its, rv, hl, _⟩ := I.list hs
  rw [Vals.ref1 r]
  obtain ⟨p, ⟨hh, v1, d1, c1⟩, hp⟩ := hc
  obtain ⟨px, _⟩ := I.pin p (List.mem_append_left _ hp)
  obtain ⟨xs, e⟩ := rv.ints.allInts.items
  have hns : numsOf (intItems xs).toList = ns := by rw [← e]; exact rv.ints.numsOf
  rw [nums_intItems] at hns
  have hl' : s.heap.IsList a (intItems xs) := by
    have e2 : its.toArray = intItems xs := e
    rw [← e2]
    exact hl.isList
  have hsz : xs.size = ns.length := by rw [← hns, List.length_map, Array.length_toList]
  have hval : ∀ j, j < xs.size → 0 ≤ numAt xs j ∧ numAt xs j ≤ 1 := fun j hj => by
    rw [numAt_eq, hns]
    exact hb _ (PySem.getD_mem (by rw [← hsz]; exact hj))
  have hisz : (intItems xs).size = xs.size := by simp [intItems]
  refine call_sum_walkS (wpAny_pyIter_list hl' ?_)
  have hlt := Heap.lt_size px
  have hla : a < s.heap.objs.size := by
    obtain ⟨o, ho, _⟩ := hl'
    exact Heap.lt_size ho
  refine ⟨_, _, _, _, _, _, _, numAt xs, rfl, (walks_hot (x1 := p.1) (by exact hh) _ a (Nat.ne_of_lt hla) (Nat.ne_of_lt hlt) (intItems xs)).toS, ⟨⟨_, Heap.get?_push_size _ rfl, rfl, rfl⟩, hl'.push _, p.2, v1, Heap.get?_push_of_some _ px, d1, c1⟩, fun b hb => ?_, fun i v hv => ?_, fun j hj => ?_, fun s' t' hm => ?_⟩
  · rw [Heap.size_push]
    simp only [List.mem_cons, List.not_mem_nil, or_false] at hb
    rcases hb with h | h | h <;> rw [h]
    · exact Nat.lt_succ_self _
    · exact Nat.lt_succ_of_lt hla
    · exact Nat.lt_succ_of_lt hlt
  · obtain ⟨t, e⟩ := intItems_at hv
    exact ⟨t, e⟩
  · rw [hisz] at hj
    have h1 := hval j hj
    have h2 := pre_bd hval (j + 1) hj
    unfold InLong
    have e63 : (2 : Int) ^ 63 = 9223372036854775808 := by decide
    rw [e63]
    omega
  · have hsum : preSum (numAt xs) (intItems xs).size = ns.sum := by
      rw [preSum_eq, hns, hisz, hsz, List.take_length]
    rw [hsum]
    have kp : ∀ b o, s.heap.get? b = some o → s'.heap.get? b = some o := fun b o e => hm.heap b o (fun z => by
      have z' : b = s.heap.objs.size := by simpa using z
      rw [z'] at e
      exact absurd (Heap.lt_size e) (Nat.lt_irrefl _)) (Heap.get?_push_of_some _ e)
    have eg : s'.gens = s.gens := hm.gens
    have es : s' = { s with heap := s'.heap, toks := s'.toks } := by
      have e1 := hm.drawn
      have e2 := hm.os
      cases s'
      cases s
      simp only at eg e1 e2
      subst eg e1 e2
      rfl
    rw [es]
    exact ⟨.int _, H, I.kept kp, ⟨_, rfl⟩, q⟩
end
end CoH

/-! Core H2: [elt for x in xs], xs a list, while an exception is handled. -/
namespace CoH
open PySem PySem.Spec PyProof.Rows L2 L2H HotX
abbrev St := L2.St
/-- the items' ends ys; elt changes nothing -/
def tLcH (iy : Nat) (ix : Nat) (te : TE) : TE := fun σ H Q => ∃ (a : Addr) (xs ys : List V), σ[iy]? = some (some (.ref a)) ∧ H a = some (.lst xs) ∧ ys.length = xs.length ∧ xs.length ≤ 1000 ∧
  (∀ (j : Nat) x y, xs[j]? = some x → ys[j]? = some y → ∀ H', te ((wipe σ [ix]).set ix (some x)) H' fun z H'' => z = y ∧ H'' = H') ∧
  ∀ D, H D = none → Q (.ref D) (upd H D (.lst ys))
section
variable {X : Cx}
theorem pe_lcH {elt : Expr} {x y : Str} {px py pos : Pos} {scope : Scope} {iy ix : Nat} {te : TE} (hc : HotC X) (hN : X.N.Nodup) (ok : BlkOk X.N X.env.scope scope [(x, ix)]) (hy : PE X (.Name y py) (tVar iy))
    (hg : ∀ (s : Shared) (H : Hp) (C : Addr) (cl : List (Str × Addr)) (fp : List Addr), PG (X.blk s H scope (compEnvC scope cl C X.env) fp) (.Name x px) (gName ix))
    (he : ∀ (s : Shared) (H : Hp) (C : Addr) (cl : List (Str × Addr)) (fp : List Addr), PE (X.blk s H scope (compEnvC scope cl C X.env) fp) elt te) :
    PE X (.ListComp elt [⟨.Name x px, .Name y py, [], 0⟩] scope pos) (tLcH iy ix te) := by
  refine ⟨fun pins s σ H Q I h => ?_⟩
  obtain ⟨a, xs, ys, hσ, hHa, hlen, hle, hte, q⟩ := h
  obtain ⟨p, ⟨hh, v1, d1, c1⟩, hp⟩ := hc
  rw [eval_ListComp]
  have hfree : ∀ z ∈ scope.names, z.2 = .free → ∃ c, X.env.cells.lookup z.1 = some c := fun z hz e => by
    rcases ok.free z hz e with k | k
    · exact I.ok.has _ (.inl k)
    · exact I.ok.has _ (.inr k)
  refine wpAny_comprehension_free (use := none) rfl (fun _ => rfl) (closure_ok hfree) ok.kind (fun z hz e => by rw [ok.uniq z hz, e])
    (thn (hy.run pins s σ H (fun u H1 => u = .ref a ∧ H1 = H) I ⟨_, hσ, rfl, rfl⟩) fun xv s1 hx => ?_)
  obtain ⟨u, H1, I1, ru, rfl, rfl⟩ := hx
  obtain rfl : xv = Value.ref a := ru
  obtain ⟨its, rv, pl, hz⟩ := I1.list (.of hHa)
  refine wpAny_pyIter_list pl.isList ?_
  generalize hs2 : ({ s1 with heap := s1.heap.push { cls := .type "list_iterator", data := .fields #[.ref a, .int 0 0] } } : Shared) = s2
  generalize hI : s1.heap.objs.size = it
  have I2 : Inv X pins σ H1 s2 := by
    rw [← hs2]
    exact I1.kept (t' := s1.toks) fun b o e => Heap.get?_push_of_some _ e
  have hIl : s2.heap.IsListIter it a 0 := by
    rw [← hs2, ← hI]
    exact ⟨_, Heap.get?_push_size _ rfl, rfl, rfl⟩
  have fIt : FpOk X pins H1 it := by
    rw [← hI]
    exact I1.fpOk (Nat.le_refl _) (I1.hok.fresh (Nat.le_refl _))
  refine wpAny_newObj_type (newEnv_comp ?_) (by show 0 ≤ sizeLine; decide)
  generalize hD : s2.heap.objs.size = D
  have hDn : H1 D = none := I2.hok.fresh (Nat.le_of_eq hD)
  generalize hs3 : ({ s2 with heap := s2.heap.push { cls := .type "list", data := .seq ([] : List Value).toArray } } : Shared) = s3
  have I3 : Inv X pins σ (upd H1 D (.lst [])) s3 := by
    rw [← hs3]
    refine I2.laid (t' := s2.toks) (fun b o e => Heap.get?_push_of_some _ e) (Nat.le_of_eq hD) ⟨Nat.zero_le _, [], 0, .nil, ?_⟩
    rw [← hD]
    exact Heap.get?_push_size _ rfl
  have h3 : s3.heap = s2.heap.push { cls := .type "list", data := .seq ([] : List Value).toArray } := by rw [← hs3]
  have itlt : it < s2.heap.objs.size := by
    obtain ⟨o, e, _⟩ := hIl
    exact Heap.lt_size e
  have f3 : ∀ b ∈ [it], FpOk X pins (upd H1 D (.lst [])) b ∧ b < s3.heap.objs.size := fun b hb => by
    rw [List.mem_singleton.mp hb]
    refine ⟨⟨?_, fIt.2⟩, by rw [h3, Heap.size_push]; exact Nat.lt_succ_of_lt itlt⟩
    rw [upd_ne (by rw [← hD]; exact Nat.ne_of_lt itlt)]
    exact fIt.1
  have I4 := block_start I3 ok hN f3
  have pg := hg s3 (upd H1 D (.lst [])) s3.heap.objs.size (cellsFrom (s3.heap.objs.size + 1) scope.names (cloFrom X.env.cells scope.names [])) [it]
  have pe := he s3 (upd H1 D (.lst [])) s3.heap.objs.size (cellsFrom (s3.heap.objs.size + 1) scope.names (cloFrom X.env.cells scope.names [])) [it]
  show codeAny _ _ (.compStart (.ListComp elt [⟨.Name x px, .Name y py, [], 0⟩] scope pos) 0 (.ref it) (.ref D) (compEnvC scope (cellsFrom (s3.heap.objs.size + 1) scope.names (cloFrom X.env.cells scope.names [])) s3.heap.objs.size X.env)) (compPost (model X.prog X.w) X.A X.xe none _ (.ref D) s3.heap.objs.size) { s3 with heap := pushCells (s3.heap.push { cls := .type "dict", data := .dict #[] }) scope.names }
  generalize hce : compEnvC scope (cellsFrom (s3.heap.objs.size + 1) scope.names (cloFrom X.env.cells scope.names [])) s3.heap.objs.size X.env = ce at I4 pg pe ⊢
  have cL : ce.locals = s3.heap.objs.size := by subst hce; rfl
  generalize hH3 : upd H1 D (.lst []) = H3 at I3 I4 pg pe f3
  have kp34 : ∀ b o, s3.heap.get? b = some o → (pushCells (s3.heap.push { cls := .type "dict", data := .dict #[] }) scope.names).get? b = some o := fun b o e => pushCells_keeps _ _ _ _ (Heap.get?_push_of_some _ e)
  generalize hs4 : ({ s3 with heap := pushCells (s3.heap.push { cls := .type "dict", data := .dict #[] }) scope.names } : Shared) = s4 at I4 ⊢
  have kp24 : ∀ b o, s2.heap.get? b = some o → s4.heap.get? b = some o := fun b o e => by
    rw [← hs4]
    refine kp34 b o ?_
    rw [h3]
    exact Heap.get?_push_of_some _ e
  have st4 : s4.heap.IsListIter it a 0 := hIl.at fun o e => kp24 _ o e
  -- the handled one is pinned in the block
  obtain ⟨px3, n3, l3, fs3, nc3⟩ := I3.pin p (List.mem_append_left _ hp)
  have hpin : ∀ {s' : Shared} {H' : Hp}, s'.heap.get? p.1 = some p.2 → H' p.1 = none → ∀ z ∈ [p], s'.heap.get? z.1 = some z.2 ∧ H' z.1 = none ∧ z.1 ≠ (X.blk s3 H3 scope ce [it]).env.locals ∧ z.1 ∉ (X.blk s3 H3 scope ce [it]).fs ∧ ∀ v, z.2.data ≠ .cell v := fun {s' H'} e1 e2 z hz => by
    rw [List.mem_singleton.mp hz]
    refine ⟨e1, e2, ?_, ?_, nc3⟩
    · show p.1 ≠ ce.locals
      rw [cL]
      exact Nat.ne_of_lt (Heap.lt_size px3)
    · intro hm
      rcases List.mem_cons.mp (I3.stkSub p.1 hm) with z | z
      · exact l3 z
      · exact fs3 z
  have I4' : Inv (X.blk s3 H3 scope ce [it]) [p] (wipe σ [ix]) H3 s4 := I4.pins_of (hpin (by rw [← hs4]; exact kp34 _ _ px3) n3)
  have hAD : a ≠ D := fun z => by rw [z, hDn] at hHa; cases hHa
  have loop : codeAny (model X.prog X.w) X.A (.compLoop (.ListComp elt [⟨.Name x px, .Name y py, [], 0⟩] scope pos) 0 (.ref it) (.ref D) ce) (compPost (model X.prog X.w) X.A X.xe none (EP X pins σ Q) (.ref D) s3.heap.objs.size) s4 := by
    refine compLoop_any (fun n s' => ∃ (i : Nat) (H' : Hp), Inv (X.blk s3 H3 scope ce [it]) [p] (wipe σ [ix]) H' s' ∧ s'.heap.IsListIter it a i ∧ H' it = none ∧ n = xs.length - i ∧ i ≤ xs.length ∧ H' = upd H1 D (.lst (ys.take i))) ?_ xs.length
      ⟨0, H3, I4', st4, (f3 it (List.mem_singleton.mpr rfl)).1.1, by simp, Nat.zero_le _, by rw [List.take_zero]; exact hH3.symm⟩
    rintro n s5 ⟨i, H5, I5, st5, n5, rfl, hi, e5⟩
    have hH5a : H5 a = some (.lst xs) := by rw [e5, upd_ne hAD]; exact hHa
    obtain ⟨its5, rv5, pl5, _⟩ := I5.list (.of hH5a)
    have l5 := rv5.length
    obtain ⟨pp5, np5, _, _, _⟩ := I5.pin p (List.mem_append_right _ (List.mem_singleton.mpr rfl))
    have stat : ∀ {s' : Shared} {H' : Hp}, Inv (X.blk s3 H3 scope ce [it]) [p] (wipe σ [ix]) H' s' → H' it = none → FpOk (X.blk s3 H3 scope ce [it]) [p] H' it := fun {s' H'} I' hn' => by
      have hm : it ∈ [it] := List.mem_singleton.mpr rfl
      refine ⟨hn', (I'.ok.exf it hm).1, I'.ok.exfs it hm, .inl hm, fun x c e => (I'.ok.exf it hm).2 x c e, fun z hz => ?_⟩
      have hz' : z = p := by simpa using (show z ∈ ([] : List (Addr × Obj)) ++ [p] from hz)
      rw [hz']
      exact fIt.2.2.2.2.2 p (List.mem_append_left _ hp)
    obtain ⟨g0, g1, g2, g3, g4, g5⟩ := stat I5 n5
    by_cases hlt : i < xs.length
    · have hx : xs[i]? = some xs[i] := List.getElem?_eq_getElem hlt
      have hyv : ys[i]? = some (ys[i]'(by rw [hlen]; exact hlt)) := List.getElem?_eq_getElem (by rw [hlen]; exact hlt)
      obtain ⟨u, hu, ru⟩ := rv5.get hx
      refine wpAny_pyNext_list_item st5 pl5.isList (x := u) (by simpa using hu) fun h' st' sb => ?_
      have I6 : Inv (X.blk s3 H3 scope ce [it]) [p] (wipe σ [ix]) H5 { s5 with heap := h' } := I5.turned (t' := s5.toks) (fun b o hb e => (sb.2 b hb).trans e) g0 g1 g3 g4 g5
      obtain ⟨oi, ei, ci, di⟩ := id st'
      refine go_of (s := { s5 with heap := h' }) ei ci di (by decide) ?_
      have I6' : Inv (X.blk s3 H3 scope ce [it]) ([p] ++ pinsAt [it] h') (wipe σ [ix]) H5 { s5 with heap := h' } := I6.pinned (fun b hb => by rw [List.mem_singleton.mp hb]; exact stat I6 n5) (fun b hb => by rw [List.mem_singleton.mp hb]; exact ⟨oi, ei, fun v z => by rw [di] at z; cases z⟩)
      refine thnF (pg.run _ _ _ H5 xs[i] u (fun σ8 H8 => σ8 = (wipe σ [ix]).set ix (some xs[i]) ∧ H8 = H5) I6' ru ⟨rfl, rfl⟩) fun _ s8 ⟨σ8, H8, I8, hq8⟩ => ?_
      obtain ⟨rfl, rfl⟩ := hq8
      refine wpAny_tests_nil ?_
      simp only [if_true]
      refine thnF (pe.run _ s8 _ H8 (fun z H'' => z = ys[i]'(by rw [hlen]; exact hlt) ∧ H'' = H8) I8 (hte i _ _ hx hyv H8)) fun zv s10 ⟨yv, H10, I10, r10, hq10⟩ => ?_
      obtain ⟨rfl, rfl⟩ := hq10
      have hD10 : H10 D = some (.lst (ys.take i)) := by rw [e5, upd_same]
      refine app_ok (X := X.blk s3 H3 scope ce [it]) I10 hD10 (by rw [List.length_take]; exact Nat.lt_of_lt_of_le (show min i ys.length < 1001 by omega) (by decide)) r10 fun s11 I11 => ?_
      have nd : it ≠ D := fun z => by rw [z, hD10] at n5; cases n5
      refine ⟨xs.length - (i + 1), by omega, i + 1, upd H10 D (.lst (ys.take i ++ [ys[i]'(by rw [hlen]; exact hlt)])), ?_, ?_, ?_, rfl, hlt, ?_⟩
      · refine (I11.unpinned).weak (by rw [List.length_set]) (fun j v e => ?_)
        have e' := (wipe_some (vs := [ix]) e)
        rw [List.getElem?_set_ne (fun z => e'.2 (by rw [z]; exact List.mem_singleton.mpr rfl))]
        exact e
      · have z := I11.pin (it, oi) (List.mem_append_right _ (List.mem_append_right _ (mem_pinsAt (List.mem_singleton.mpr rfl) ei)))
        exact st'.at fun o e => by
          rw [ei] at e
          cases e
          exact z.1
      · rw [upd_ne nd]; exact n5
      · have et : ys.take (i + 1) = ys.take i ++ [ys[i]'(by rw [hlen]; exact hlt)] := by
          rw [List.take_add_one, hyv]
          rfl
        rw [et, e5]
        funext b
        by_cases hb : b = D
        · rw [hb, upd_same, upd_same]
        · rw [upd_ne hb, upd_ne hb, upd_ne hb]
    · have hiL : i = xs.length := by omega
      have hne : p.1 ≠ it := fIt.2.2.2.2.2 p (List.mem_append_left _ hp)
      refine list_end (x1 := p.1) ⟨hh, p.2, v1, pp5, d1, c1⟩ hne st5 pl5.isList (by simp; omega) fun h' eb => ?_
      have I6 : Inv (X.blk s3 H3 scope ce [it]) [p] (wipe σ [ix]) H5 { s5 with heap := h' } := I5.turned (t' := s5.toks) (fun b o hb e => eb b o hb e) g0 g1 g3 g4 g5
      have I7 : Inv X pins σ H5 { s5 with heap := h' } := I3.call' (ch := [it]) I6.os I6.base I6.hok I6.bare fun b hb => ⟨(f3 b hb).1.2.2.2.1, (f3 b hb).1.2.1, (f3 b hb).1.2.2.2.2.1, (f3 b hb).1.2.2.2.2.2⟩
      have nC : H5 s3.heap.objs.size = none := by
        have z : H5 ce.locals = none := I6.free
        rw [cL] at z
        exact z
      obtain ⟨m, hn, _⟩ := I6.loc
      have hn : h'.Ns ce.locals m := hn
      rw [cL] at hn
      have f := I3.fpOk (H' := H5) (Nat.le_refl _) nC
      refine ⟨m, hn, fun h'' sb => ?_⟩
      obtain ⟨k0, k1, k2, k3, k4, k5⟩ := f
      have et : ys.take i = ys := List.take_of_length_le (by omega)
      rw [et] at e5
      refine ⟨.ref D, H5, I7.turned (t' := s5.toks) (fun b o hb e => (sb.2 b hb).trans e) k0 k1 k3 k4 k5, rfl, ?_⟩
      rw [e5]
      exact q D hDn
  exact codeAny_compStart_list loop (wpAny_pyIter_listiter st4 loop)
end
end CoH

/-! Core H3: the name of an exception's class, told while it is handled. -/
namespace CoH
open PySem PySem.Spec PyProof.Rows L2 L2H HotX
abbrev kinds : List Str := Co.kinds
/-- what K tells of the classes -/
structure ExF (K : PySem.W.Frag) (mg : Str → Option Value) (cl : Str → Addr) : Prop where
  gl : ∀ c ∈ kinds, mg c = some (.ref (cl c))
  ec : ∀ c ∈ kinds, ExcC K (cl c)
  kt : ∀ c ∈ kinds, ∀ c' ∈ kinds, PySem.W.kitOne K (.ref (cl c)) (.ref (cl c')) = some (decide (c = c'))
  kv : ∀ c ∈ kinds, PySem.W.kitOne K (.ref (cl c)) (.type "ValueError") = some true
section
variable {X : Cx} {p : Addr × Obj} {D : Addr}
theorem call_isP (hp : p ∈ X.pn) (C : ExcC X.K D) (hz : Zc (.ref D) none p.2) (hf : ∃ vs, p.2.data = .fields vs) : CallR X (.builtin "isinstance") (rIsE X.K D p.1) := by
  intro pins s σ H xs us Q I r h
  obtain ⟨c, cv, b, rfl, hcv, e, q⟩ := h
  obtain ⟨hget, _⟩ := I.pin p (List.mem_append_left _ hp)
  obtain ⟨vs, hv⟩ := hf
  have J : PySem.W.InstAt s.heap p.1 p.2 D none := by
    obtain ⟨a, oc, od, oda, osl⟩ := p
    obtain ⟨h1, h2⟩ := hz
    dsimp only at h1 h2 hv
    subst h1 h2 hv
    exact ⟨hget, rfl, rfl, trivial⟩
  cases r with
  | cons rx rr =>
    cases rr with
    | cons rt rr =>
      cases rr
      cases rx
      have ec := hcv _ rt
      subst ec
      exact PySem.W.kia_one (PySem.W.handS_kitx_exc C.hg C.hk C.hs C.hd C.ha C.hn C.ht C.hm) I.kIn J e (fun z => nomatch z) fun tk => ⟨.bl b, H, I.kept (t' := tk) fun _ _ z => z, rfl, q⟩
end
def gnames : List Str := (["isinstance", "sum", "ValueError"] : List Str) ++ kinds
theorem gn_k {d : Str} (h : d ∈ kinds) : d ∈ gnames := List.mem_append_right _ h
theorem gn_i : ("isinstance" : Str) ∈ gnames := by decide +kernel
theorem gn_s : ("sum" : Str) ∈ gnames := by decide +kernel
theorem gn_v : ("ValueError" : Str) ∈ gnames := by decide +kernel
/-- where one stands in that def -/
structure TX (X : Cx) (p : Addr × Obj) (cl : Str → Addr) (c : Str) : Prop where
  pn : p ∈ X.pn
  hot : HotC X
  un : X.A.units + 65 < cLine
  nd : X.N.Nodup
  N : X.N = (["_law_e", "_law_flags", "_law_kinds", "_law_flag"] : List Str)
  ex : ExF X.K X.mg cl
  hc : c ∈ kinds
  zc : Zc (.ref (cl c)) none p.2
  hf : ∃ vs, p.2.data = .fields vs
  bl : ∀ x : Str, x ∈ (["isinstance", "sum", "int", "ValueError"] : List Str) → X.mg x = none
  v0 : X.env.scope.names.lookup ("_law_e" : Str) = some .local
  v1 : X.env.scope.names.lookup ("_law_flags" : Str) = some .local
  v2 : X.env.scope.names.lookup ("_law_kinds" : Str) = some .local
  g : ∀ x : Str, x ∈ gnames → X.env.scope.names.lookup x = some .globalImplicit
def isOne : Expr → Option Str
  | .Call (.Name f _) [.Name e _, .Name c _] [] _ => if f = ("isinstance" : Str) ∧ e = ("_law_e" : Str) ∧ c ∈ kinds then some c else none
  | _ => none
def isList : List Expr → Option (List Str)
  | [] => some []
  | e :: es => (isOne e).bind fun c => (isList es).map (c :: ·)
section
variable {X : Cx} {p : Addr × Obj} {cl : Str → Addr} {c : Str} {e : Expr} {es : List Expr} {p1 p2 p3 p4 : Pos}
def tIs (p : Addr × Obj) (b : Bool) : TE := fun σ H Q => σ[0]? = some (some (.ref p.1)) ∧ Q (.bl b) H
theorem isOne_eq {d : Str} (h : isOne e = some d) : ∃ p1 p2 p3 p4, e = .Call (.Name "isinstance" p1) [.Name "_law_e" p2, .Name d p3] [] p4 ∧ d ∈ kinds := by
  unfold isOne at h
  split at h
  · split at h
    · rename_i q
      obtain ⟨rfl, rfl, q3⟩ := q
      cases h
      exact ⟨_, _, _, _, rfl, q3⟩
    · cases h
  · cases h
theorem nodeb : ∀ d ∈ kinds, (d == ("__debug__" : Str)) = false := by decide +kernel
theorem pe_is (T : TX X p cl c) {d : Str} (h : isOne e = some d) : PE X e (tIs p (decide (c = d))) := by
  obtain ⟨p1, p2, p3, p4, rfl, hd⟩ := isOne_eq h
  refine ⟨fun pins s σ H Q I q => ?_⟩
  obtain ⟨q0, q⟩ := q
  have r := pe_callB (x := "isinstance") (pos := p4) (p := p1) (call_isP T.pn (T.ex.ec c T.hc) T.zc T.hf) (T.g _ gn_i) (T.bl _ (by decide)) (by decide +kernel) (pa_cons (pe_var (i := 0) (pos := p2) (by rw [T.N]; rfl) (.inl T.v0)) (pa_cons (pe_glob (pos := p3) (v := .ref (cl d)) (T.g d (gn_k hd)) (T.ex.gl d hd) rfl (nodeb d hd)) pa_nil))
  exact r.run pins s σ H Q I ⟨_, q0, _, _, _, rfl, fun u hu => hu, T.ex.kt c T.hc d hd, q⟩
theorem pe_isV (T : TX X p cl c) : PE X (.Call (.Name "isinstance" p1) [.Name "_law_e" p2, .Name "ValueError" p3] [] p4) (tIs p true) := by
  refine ⟨fun pins s σ H Q I q => ?_⟩
  obtain ⟨q0, q⟩ := q
  have r := pe_callB (x := "isinstance") (pos := p4) (p := p1) (call_isP T.pn (T.ex.ec c T.hc) T.zc T.hf) (T.g _ gn_i) (T.bl _ (by decide)) (by decide +kernel) (pa_cons (pe_var (i := 0) (pos := p2) (by rw [T.N]; rfl) (.inl T.v0)) (pa_cons (pe_bltn (pos := p3) (x := "ValueError") (v := .ty "ValueError") (T.g _ gn_v) (T.bl _ (by decide)) (by decide +kernel) rfl) pa_nil))
  exact r.run pins s σ H Q I ⟨_, q0, _, _, _, rfl, fun u hu => hu, T.ex.kv c T.hc, q⟩
theorem isOne_star {d : Str} (h : isOne e = some d) (env : PySem.Env) : starEach (e :: es) env = (false, eval e env) :: starEach es env := by
  obtain ⟨p1, p2, p3, p4, rfl, _⟩ := isOne_eq h
  rfl
def tIsL (p : Addr × Obj) (bs : List Bool) : TA := fun σ H Q => σ[0]? = some (some (.ref p.1)) ∧ Q (bs.map V.bl) H
theorem pa_is (T : TX X p cl c) : ∀ {es : List Expr} {ds : List Str}, isList es = some ds → PA X es (tIsL p (ds.map fun d => decide (c = d)))
  | [], ds, h => by
    cases h
    exact ⟨fun pos pins s σ H Q I q => (pa_nil (X := X)).run pos pins s σ H Q I q.2⟩
  | e :: es, ds, h => by
    unfold isList at h
    cases h1 : isOne e with
    | none => rw [h1] at h; cases h
    | some d =>
      cases h2 : isList es with
      | none => rw [h1, h2] at h; cases h
      | some ds' =>
        rw [h1, h2] at h
        cases h
        have r := pa_cons (pe_is T h1) (pa_is T h2) (isOne_star h1 _)
        exact ⟨fun pos pins s σ H Q I q => r.run pos pins s σ H Q I ⟨q.1, q.1, q.2⟩⟩
/-! texts -/
def strL : List Expr → Option (List Str)
  | [] => some []
  | .Constant (.str x) _ _ :: es => (strL es).map (x :: ·)
  | _ :: _ => none
def tStrL (xs : List Str) : TA := fun σ H Q => Q (xs.map V.str) H
theorem pa_str : ∀ {es : List Expr} {xs : List Str}, strL es = some xs → PA X es (tStrL xs)
  | [], xs, h => by cases h; exact pa_nil
  | e :: es, xs, h => by
    cases e with
    | Constant k j pos =>
      cases k with
      | str x =>
        unfold strL at h
        cases h2 : strL es with
        | none => rw [h2] at h; cases h
        | some xs' =>
          rw [h2] at h
          cases h
          have r := pa_cons (X := X) (pe_str (x := x) (pos := pos) (j := j)) (pa_str h2) rfl
          exact ⟨fun pos pins s σ H Q I q => r.run pos pins s σ H Q I q⟩
      | _ => cases h
    | _ => cases h
end
end CoH

/-! Core H4: that def, walked. -/
namespace CoH
open PySem PySem.Spec PyProof.Rows L2 L2H HotX
theorem k_at : ∀ c ∈ kinds, ∃ j : Nat, j < 17 ∧ kinds[j]? = some c ∧ (kinds.map fun d => decide (c = d))[j]? = some true ∧ (∀ m : Nat, m < j → (kinds.map fun d => decide (c = d))[m]? = some false) ∧ (kinds.map fun d => if decide (c = d) = true then (1 : Int) else 0).sum = 1 := by
  intro c hc
  have h : ∀ c ∈ kinds, (List.range 17).any (fun j => decide (kinds[j]? = some c) && decide ((kinds.map fun d => decide (c = d))[j]? = some true) && (List.range j).all (fun m => decide ((kinds.map fun d => decide (c = d))[m]? = some false))) && decide ((kinds.map fun d => if decide (c = d) = true then (1 : Int) else 0).sum = 1) = true := by decide +kernel
  have h := h c hc
  simp only [Bool.and_eq_true, List.any_eq_true, List.mem_range, List.all_eq_true, decide_eq_true_eq] at h
  obtain ⟨⟨j, hj, ⟨h1, h2⟩, h3⟩, h4⟩ := h
  exact ⟨j, hj, h1, h2, fun m hm => h3 m hm, by simpa using h4⟩
def gF1 : List Str := ["InvalidNet", "InvalidStreams", "InvalidRound"]
def gF2 : List Str := ["InvalidEvent", "InvalidInput", "InvalidArc"]
def gF3 : List Str := ["InvalidNumber", "InvalidForm", "InvalidStores"]
def gF4 : List Str := ["InvalidDues", "InvalidText", "Standstill"]
def gF5 : List Str := ["NoTime", "Broken", "NoFit", "TooMany"]
def gK1 : List Str := ["InvalidNet", "InvalidStreams", "InvalidRound", "InvalidEvent", "InvalidInput", "InvalidArc"]
def gK2 : List Str := ["InvalidNumber", "InvalidForm", "InvalidStores", "InvalidDues", "InvalidText", "Standstill"]
def gK3 : List Str := ["NoTime", "Broken", "NoFit", "TooMany", "NothingToUndo"]
theorem gF_all : gF1 ++ gF2 ++ gF3 ++ gF4 ++ gF5 ++ (["NothingToUndo"] : List Str) = kinds := by decide +kernel
theorem gK_all : gK1 ++ gK2 ++ gK3 = kinds := by decide +kernel
/-- what is laid down stays -/
theorem up_ne {H : Hp} {a q : Addr} {o o' : HO} (h : H a = some o) (hq : H q = none) : upd H q o' a = some o := by
  rw [upd_ne (fun z => by rw [z, hq] at h; cases h)]; exact h
theorem same_up {H H1 : Hp} {q : Addr} {o : HO} (s : Same H H1) (hq : H1 q = none) : Same H (upd H1 q o) := fun b x e => up_ne (s b x e) hq
theorem same_wr {H H1 : Hp} {q : Addr} {o : HO} (s : Same H H1) (hq : H q = none) : Same H (upd H1 q o) := fun b x e => by
  rw [upd_ne (fun z => by rw [z, hq] at e; cases e)]; exact s b x e
theorem old_none {H H1 : Hp} {q : Addr} (s : Same H H1) (hq : H1 q = none) : H q = none := by
  cases h : H q with
  | none => rfl
  | some x => rw [s q x h] at hq; cases hq
section
variable {X : Cx} {p : Addr × Obj} {cl : Str → Addr} {c : Str} {es : List Expr} {t : TA}
theorem PSsimpH {st : List Stmt} {t t' : TS} (h : PSs X st t) (i : ∀ D σ H, t' D σ H → t D σ H) : PSs X st t' := ⟨fun pins s σ H D I q => h.run pins s σ H D I (i D σ H q)⟩
theorem as_l (T : TX X p cl c) {i : Nat} {y : Str} (hi : X.N[i]? = some y) (hl : X.env.scope.names.lookup y = some .local) (ha : PA X es t) {p1 p2 p3 : Pos} : PS X (.Assign [.Name y p1] (.List es p2) p3) (tAsg (tLst t) (gName i)) :=
  ps_asg (pe_lst ha) (pg_name T.nd hi (.inl hl) (.inr hl))
theorem as_c (T : TX X p cl c) {i : Nat} {y : Str} (hi : X.N[i]? = some y) (hl : X.env.scope.names.lookup y = some .local) (hd : (y == ("__debug__" : Str)) = false) (hd2 : (y == ("__classdict__" : Str)) = false) (ha : PA X es t) {p1 p2 p3 p4 p5 : Pos} : PS X (.Assign [.Name y p1] (.BinOp (.Name y p4) .Add (.List es p2) p5) p3) (tAsg (tOp rCat (tVar i) (tLst t)) (gName i)) :=
  ps_asg (pe_op op_cat (pe_var hi (.inl hl) hd hd2) (pe_lst ha)) (pg_name T.nd hi (.inl hl) (.inr hl))
/-- a new list, the heaps behind it not told -/
def tNewL (i : Nat) (pre : L2.St → Prop) (ys : List V) : TS := fun D σ H => pre σ ∧ ys.length ≤ sizeLine ∧ ∀ f H', Same H H' → H f = none → H' f = some (.lst ys) → D.nx (σ.set i (some (.ref f))) H'
def tGrowL (i : Nat) (pre : L2.St → Prop) (xs ys : List V) : TS := fun D σ H => pre σ ∧ (∃ f, σ[i]? = some (some (.ref f)) ∧ H f = some (.lst xs)) ∧ xs.length + ys.length ≤ sizeLine ∧ ∀ f H', Same H H' → H f = none → H' f = some (.lst (xs ++ ys)) → D.nx (σ.set i (some (.ref f))) H'
theorem as_lI (T : TX X p cl c) {i : Nat} {y : Str} (hi : X.N[i]? = some y) (hl : X.env.scope.names.lookup y = some .local) {bs : List Bool} (ha : PA X es (tIsL p bs)) {p1 p2 p3 : Pos} : PS X (.Assign [.Name y p1] (.List es p2) p3) (tNewL i (fun σ => σ[0]? = some (some (.ref p.1))) (bs.map V.bl)) := by
  have h := as_l T hi hl ha (p1 := p1) (p2 := p2) (p3 := p3)
  exact ⟨fun pins s σ H D I q => h.run pins s σ H D I ⟨q.1, q.2.1, fun a m => q.2.2 a _ (same_up (Same.refl H) m) m upd_same⟩⟩
theorem as_lS (T : TX X p cl c) {i : Nat} {y : Str} (hi : X.N[i]? = some y) (hl : X.env.scope.names.lookup y = some .local) {bs : List Str} (ha : PA X es (tStrL bs)) {p1 p2 p3 : Pos} : PS X (.Assign [.Name y p1] (.List es p2) p3) (tNewL i (fun σ => True) (bs.map V.str)) := by
  have h := as_l T hi hl ha (p1 := p1) (p2 := p2) (p3 := p3)
  exact ⟨fun pins s σ H D I q => h.run pins s σ H D I ⟨q.2.1, fun a m => q.2.2 a _ (same_up (Same.refl H) m) m upd_same⟩⟩
theorem as_cI (T : TX X p cl c) {i : Nat} {y : Str} (hi : X.N[i]? = some y) (hl : X.env.scope.names.lookup y = some .local) (hd : (y == ("__debug__" : Str)) = false) (hd2 : (y == ("__classdict__" : Str)) = false) {bs : List Bool} (ha : PA X es (tIsL p bs)) (xs : List V) {p1 p2 p3 p4 p5 : Pos} :
    PS X (.Assign [.Name y p1] (.BinOp (.Name y p4) .Add (.List es p2) p5) p3) (tGrowL i (fun σ => σ[0]? = some (some (.ref p.1))) xs (bs.map V.bl)) := by
  have h := as_c T hi hl hd hd2 ha (p1 := p1) (p2 := p2) (p3 := p3) (p4 := p4) (p5 := p5)
  refine ⟨fun pins s σ H D I q => h.run pins s σ H D I ?_⟩
  obtain ⟨q0, ⟨f, e1, e2⟩, ql, q⟩ := q
  refine ⟨_, e1, q0, by omega, fun b r => ⟨f, b, xs, _, rfl, rfl, up_ne e2 r, upd_same, ql, fun a m => ?_⟩⟩
  have s1 := same_up (o := .lst (bs.map V.bl)) (Same.refl H) r
  exact q a _ (same_up s1 m) (old_none s1 m) upd_same
theorem as_cS (T : TX X p cl c) {i : Nat} {y : Str} (hi : X.N[i]? = some y) (hl : X.env.scope.names.lookup y = some .local) (hd : (y == ("__debug__" : Str)) = false) (hd2 : (y == ("__classdict__" : Str)) = false) {bs : List Str} (ha : PA X es (tStrL bs)) (xs : List V) {p1 p2 p3 p4 p5 : Pos} :
    PS X (.Assign [.Name y p1] (.BinOp (.Name y p4) .Add (.List es p2) p5) p3) (tGrowL i (fun σ => True) xs (bs.map V.str)) := by
  have h := as_c T hi hl hd hd2 ha (p1 := p1) (p2 := p2) (p3 := p3) (p4 := p4) (p5 := p5)
  refine ⟨fun pins s σ H D I q => h.run pins s σ H D I ?_⟩
  obtain ⟨q0, ⟨f, e1, e2⟩, ql, q⟩ := q
  refine ⟨_, e1, by omega, fun b r => ⟨f, b, xs, _, rfl, rfl, up_ne e2 r, upd_same, ql, fun a m => ?_⟩⟩
  have s1 := same_up (o := .lst (bs.map V.str)) (Same.refl H) r
  exact q a _ (same_up s1 m) (old_none s1 m) upd_same
/-- the end: name the class -/
def tTerm (p : Addr × Obj) (c : Str) : TS := fun D σ H => (∃ f k z : Option V, σ = [some (.ref p.1), f, k, z]) ∧ ∀ q H', Same H H' → H q = none → H' q = some (.tup [.str "error", .str c]) → D.rt (.ref q) H'
theorem small17 {n : Nat} (h : n ≤ 100) : n ≤ sizeLine := Nat.le_trans h (by decide)
theorem term_ps (T : TX X p cl c) {sc : Scope} (ok : BlkOk X.N X.env.scope sc [("_law_flag", 3)]) (b1 : (relS sc X.env.scope).names.lookup ("_law_flag" : Str) = some .local) (b2 : (relS sc X.env.scope).names.lookup ("int" : Str) = some .globalImplicit)
    {e1 e2 e3 e4 e5 k1 k2 k3 : List Expr} {e6 : Expr}
    (h1 : isList e1 = some gF1) (h2 : isList e2 = some gF2) (h3 : isList e3 = some gF3)
    (h4 : isList e4 = some gF4) (h5 : isList e5 = some gF5) (h6 : isOne e6 = some ("NothingToUndo" : Str))
    (g1 : strL k1 = some gK1) (g2 : strL k2 = some gK2) (g3 : strL k3 = some gK3)
    {q1 q2 q3 q4 q5 q6 q7 q8 q9 q10 q11 q12 q13 q14 q15 q16 q17 q18 q19 q20 q21 q22 q23 q24 q25 q26 q27 q28 q29 q30 q31 q32 q33 q34 q35 q36 q37 q38 q39 q40 q41 q42 q43 q44 q45 q46 q47 q48 q49 q50 q51 q52 q53 q54 q55 q56 q57 q58 q59 q60 q61 q62 q63 q64 q65 q66 q67 q68 q69 q70 : Pos} {j1 j2 j3 j4 j5 j6 j7 : Nat} (hl : (q26.endLine == q27.line) = true) (hl2 : (q66.endLine == q67.line) = true) (hso : starEach [e6] X.env = (false, eval e6 X.env) :: starEach [] X.env) :
    PSs X [.Assign [.Name "_law_flags" q1] (.List e1 q2) q3,
      .Assign [.Name "_law_flags" q4] (.BinOp (.Name "_law_flags" q7) .Add (.List e2 q5) q8) q6,
      .Assign [.Name "_law_flags" q9] (.BinOp (.Name "_law_flags" q12) .Add (.List e3 q10) q13) q11,
      .Assign [.Name "_law_flags" q14] (.BinOp (.Name "_law_flags" q17) .Add (.List e4 q15) q18) q16,
      .Assign [.Name "_law_flags" q19] (.BinOp (.Name "_law_flags" q22) .Add (.List e5 q20) q23) q21,
      .Expr (.Call (.Attribute (.Name "_law_flags" q25) "append" q26) [e6] [] q27) q28,
      .Assign [.Name "_law_kinds" q29] (.List k1 q30) q31,
      .Assign [.Name "_law_kinds" q32] (.BinOp (.Name "_law_kinds" q35) .Add (.List k2 q33) q36) q34,
      .Assign [.Name "_law_kinds" q37] (.BinOp (.Name "_law_kinds" q40) .Add (.List k3 q38) q41) q39,
      .If (.BoolOp .Or [.Compare (.Call (.Name "sum" q42) [.ListComp (.Call (.Name "int" q43) [.Name "_law_flag" q44] [] q45) [⟨.Name "_law_flag" q46, .Name "_law_flags" q47, [], 0⟩] sc q48] [] q49) [.NotEq] [.Constant (.int 1) j1 q50] q51,
        .UnaryOp .Not (.Call (.Name "isinstance" q52) [.Name "_law_e" q53, .Name "ValueError" q54] [] q55) q56] q57) [.Return (some (.Tuple [.Constant (.str "error") j2 q58, .Constant (.str "other") j3 q59] j4 q60)) q61] [] q62,
      .Return (some (.Tuple [.Constant (.str "error") j5 q63, .Subscript (.Name "_law_kinds" q64) (.Call (.Attribute (.Name "_law_flags" q65) "index" q66) [.Constant (.bool true) j6 q24] [] q67) q68] j7 q69)) q70] (tTerm p c) := by
  have n1 : X.N[1]? = some ("_law_flags" : Str) := by rw [T.N]; rfl
  have n2 : X.N[2]? = some ("_law_kinds" : Str) := by rw [T.N]; rfl
  have n3 : X.N[3]? = some ("_law_flag" : Str) := by rw [T.N]; rfl
  have vf : ∀ {q : Pos}, PE X (.Name "_law_flags" q) (tVar 1) := fun {q} => pe_var n1 (.inl T.v1)
  have vk : ∀ {q : Pos}, PE X (.Name "_law_kinds" q) (tVar 2) := fun {q} => pe_var n2 (.inl T.v2)
  have comp : PE X (.ListComp (.Call (.Name "int" q43) [.Name "_law_flag" q44] [] q45) [⟨.Name "_law_flag" q46, .Name "_law_flags" q47, [], 0⟩] sc q48) (tLcH 1 3 _) :=
    pe_lcH T.hot T.nd ok vf (fun s H C cl fp => pg_name T.nd n3 (.inl b1) (.inr b1)) fun s H C cl fp => pe_callTy (x := "int") call_int1 b2 (T.bl _ (by decide)) PyProof.Rows.boot_int (pa_cons (pe_var (i := 3) n3 (.inl b1)) pa_nil)
  let F (ds : List Str) : List V := (ds.map fun d => decide (c = d)).map V.bl
  refine PSsimpH (pss_cons (as_lI T n1 T.v1 (pa_is T h1)) (pss_cons (as_cI T n1 T.v1 (by decide) (by decide) (pa_is T h2) (F gF1)) (pss_cons (as_cI T n1 T.v1 (by decide) (by decide) (pa_is T h3) (F gF1 ++ F gF2)) (pss_cons (as_cI T n1 T.v1 (by decide) (by decide) (pa_is T h4) (F gF1 ++ F gF2 ++ F gF3)) (pss_cons (as_cI T n1 T.v1 (by decide) (by decide) (pa_is T h5) (F gF1 ++ F gF2 ++ F gF3 ++ F gF4))
    (pss_cons (ps_expr (pe_bm PySem.F.plainAttrs_list PySem.F.slot_list_append PySem.F.type_list_append mt_append vf (pa_cons (pe_is T h6) pa_nil hso) rfl (by rw [hso]; rfl) hl hso rfl) rfl)
    (pss_cons (as_lS T n2 T.v2 (pa_str g1)) (pss_cons (as_cS T n2 T.v2 (by decide) (by decide) (pa_str g2) (gK1.map V.str)) (pss_cons (as_cS T n2 T.v2 (by decide) (by decide) (pa_str g3) (gK1.map V.str ++ gK2.map V.str))
    (pss_cons (ps_if (pw_or (pt_cmpR op_ne (pe_callB (x := "sum") (cr_sumH T.hot) (T.g _ gn_s) (T.bl _ (by decide)) (by decide +kernel) (pa_cons comp pa_nil)) pe_int rfl) (pw_or1 (pt_not (pt_val (pe_isV T))))).pt (pss_cons (ps_ret (pe_tup (pa_cons pe_str (pa_cons pe_str pa_nil)))) pss_nil) pss_nil)
    (pss_cons (ps_ret (pe_tup (pa_cons pe_str (pa_cons (pe_ix ix_list vk (pe_bm PySem.F.plainAttrs_list PySem.F.slot_list_index PySem.F.type_list_index mt_index vf (pa_cons pe_bl pa_nil) rfl rfl hl2) (fun _ _ => rfl)) pa_nil)))) pss_nil))))))))))) ?_
  rintro D σ H ⟨⟨f, k, z, rfl⟩, q⟩
  have sm : ∀ {n : Nat}, n ≤ 50 → n ≤ sizeLine := fun {n} h => Nat.le_trans h (by decide)
  have lF : ∀ ds, (F ds).length = ds.length := fun ds => by show ((ds.map _).map _).length = _; rw [List.length_map, List.length_map]
  refine ⟨rfl, sm (by rw [List.length_map, List.length_map]; decide), fun a1 H1 s1 m1 x1 => ?_⟩
  refine ⟨rfl, ⟨a1, rfl, x1⟩, sm (by rw [lF, List.length_map, List.length_map]; decide), fun a2 H2 s2 m2 x2 => ?_⟩
  refine ⟨rfl, ⟨a2, rfl, x2⟩, sm (by rw [List.length_append, lF, lF, List.length_map, List.length_map]; decide), fun a3 H3 s3 m3 x3 => ?_⟩
  refine ⟨rfl, ⟨a3, rfl, x3⟩, sm (by rw [List.length_append, List.length_append, lF, lF, lF, List.length_map, List.length_map]; decide), fun a4 H4 s4 m4 x4 => ?_⟩
  refine ⟨rfl, ⟨a4, rfl, x4⟩, sm (by rw [List.length_append, List.length_append, List.length_append, lF, lF, lF, lF, List.length_map, List.length_map]; decide), fun a5 H5 s5 m5 x5 => ?_⟩
  have S4 : Same H H4 := ((s1.trans s2).trans s3).trans s4
  have S5 := S4.trans s5
  have n5 : H a5 = none := old_none S4 m5
  refine ⟨.ref a5, rfl, .inl ⟨rfl, _, .of x5⟩, rfl, a5, _, _, rfl, rfl, x5, by rw [List.length_append, List.length_append, List.length_append, List.length_append, lF, lF, lF, lF, List.length_map, List.length_map]; decide, ?_⟩
  have S6 := same_wr (o := .lst ((F gF1 ++ F gF2 ++ F gF3 ++ F gF4 ++ F gF5) ++ [V.bl (decide (c = "NothingToUndo"))])) S5 n5
  have x6 : (upd H5 a5 (.lst ((F gF1 ++ F gF2 ++ F gF3 ++ F gF4 ++ F gF5) ++ [V.bl (decide (c = "NothingToUndo"))]))) a5 = some (.lst ((kinds.map fun d => decide (c = d)).map V.bl)) := by
    rw [upd_same, ← gF_all]
    simp only [List.map_append]
    rfl
  generalize upd H5 a5 (.lst ((F gF1 ++ F gF2 ++ F gF3 ++ F gF4 ++ F gF5) ++ [V.bl (decide (c = "NothingToUndo"))])) = H6 at S6 x6
  refine ⟨trivial, sm (by rw [List.length_map]; decide), fun a7 H7 s7 m7 x7 => ?_⟩
  refine ⟨trivial, ⟨a7, rfl, x7⟩, sm (by rw [List.length_map, List.length_map]; decide), fun a8 H8 s8 m8 x8 => ?_⟩
  refine ⟨trivial, ⟨a8, rfl, x8⟩, sm (by rw [List.length_append, List.length_map, List.length_map, List.length_map]; decide), fun a9 H9 s9 m9 x9 => ?_⟩
  have x9' : H9 a9 = some (.lst (kinds.map V.str)) := by
    rw [x9, ← gK_all]
    simp only [List.map_append]
  have S9 : Same H H9 := ((S6.trans s7).trans s8).trans s9
  have f9 : H9 a5 = some (.lst ((kinds.map fun d => decide (c = d)).map V.bl)) := s9 _ _ (s8 _ _ (s7 _ _ x6))
  obtain ⟨j, hj, k1', k2', k3', k4'⟩ := k_at c T.hc
  let J : List Int := kinds.map fun d => if decide (c = d) = true then (1 : Int) else 0
  refine ⟨a5, _, J.map V.int, rfl, f9, by rw [List.length_map, List.length_map, List.length_map, List.length_map], by rw [List.length_map, List.length_map]; decide, fun i x y hx hy H' => ?_, fun D9 m10 => ?_⟩
  · have hx : ((kinds.map fun d => decide (c = d)).map V.bl)[i]? = some x := hx
    have hy : (J.map V.int)[i]? = some y := hy
    rw [List.getElem?_map, List.getElem?_map] at hx
    rw [List.getElem?_map, List.getElem?_map] at hy
    cases hk : kinds[i]? with
    | none => rw [hk] at hx; cases hx
    | some d =>
      rw [hk] at hx hy
      cases hx
      cases hy
      exact ⟨_, rfl, .inr ⟨_, rfl, rfl, rfl⟩⟩
  have S10 := same_up (o := .lst (J.map V.int)) S9 m10
  have f10 := up_ne (o' := .lst (J.map V.int)) f9 m10
  have x10 := up_ne (o' := .lst (J.map V.int)) x9' m10
  refine ⟨D9, J, rfl, .of upd_same, by rw [List.length_map]; decide, fun n hn => ?_, ?_⟩
  · obtain ⟨d, _, rfl⟩ := List.mem_map.mp hn
    split <;> decide
  refine ⟨rfl, _, rfl, ?_⟩
  rw [show J.sum = 1 from k4']
  generalize upd H9 D9 (.lst (J.map V.int)) = H10 at S10 f10 x10
  show if (!decide ((V.int 1 : V) = V.int 1)) = true then _ else _
  rw [if_neg (by simp)]
  refine ⟨rfl, _, rfl, ?_⟩
  show if (!true) = true then _ else _
  rw [if_neg (by decide)]
  show _
  refine ⟨.ref a9, rfl, .ref a5, rfl, .inl ⟨rfl, _, .of f10⟩, a5, _, .bl true, j, .bl true, rfl, rfl, .of f10, rfl, ?_, ?_, rfl, fun m z' hm hz => ?_, a9, kinds.map V.str, (j : Nat), .str c, rfl, rfl, .of x10, ?_, sm (show 2 ≤ 50 by decide), fun q' hq' => ?_⟩
  · rw [List.all_map, List.all_map]
    exact List.all_eq_true.mpr fun _ _ => rfl
  · rw [List.getElem?_map, k2']
    rfl
  · rw [List.getElem?_map, k3' m hm] at hz
    cases hz
    rfl
  · exact atI_nat (by rw [List.getElem?_map, k1']; rfl)
  · exact q q' _ (same_up S10 hq') (old_none S10 hq') upd_same
end
end CoH

/-! Core H5: that def's promise; its call in an except suite. -/
namespace CoH
open PySem PySem.Spec PyProof.Rows L2 L2H HotX
/-- what it promises, called with the exception p that is handled -/
def FnT (P : Program) (w : World) (K : PySem.W.Frag) (mg : Str → Option Value) (base : Heap) (CX : CXT) (k : Nat) (f : Addr) (cl : Str → Addr) : Prop :=
  ∀ (A : Around) (outer : List PySem.Env) (s : Shared) (H : Hp) (p : Addr × Obj) (c : Str) (Q : VK) (E : XK), RoomH k A → Hot1 A p → PinOk outer H s p → Env0 P w K mg base A outer s H → c ∈ kinds → Zc (.ref (cl c)) none p.2 → (∃ vs, p.2.data = .fields vs) →
    (∀ q H', Same H H' → H q = none → H' q = some (.tup [.str "error", .str c]) → Q (.ref q) H') → codeAny (model P w) A (.call (.ref f) ⟨[.ref p.1], []⟩) (CR CX outer P w H s Q E) s
section
variable {P : Program} {w : World} {K : PySem.W.Frag} {mg : Str → Option Value} {base : Heap} {CX : CXT} {k : Nat} {f : Addr} {cl : Str → Addr} {params : Arguments} {body : List Stmt} {scope : Scope} {fd : FuncData}
theorem fnT_of (F : FunD K "_law_term" "_law_term" params body scope [] [] f fd) (S : FnScope ["_law_e", "_law_flags", "_law_kinds", "_law_flag"] ["_law_e"] scope) (hb : Binds K fd ["_law_e"] [])
    (walk : ∀ (X : Cx) (p : Addr × Obj) (c : Str), X.K = K → X.mg = mg → X.env.scope = scope → X.N = (["_law_e", "_law_flags", "_law_kinds", "_law_flag"] : List Str) → HotC X → X.A.units + 65 < cLine → p ∈ X.pn → c ∈ kinds → Zc (.ref (cl c)) none p.2 → (∃ vs, p.2.data = .fields vs) → PSs X body (tTerm p c)) :
    FnT P w K mg base CX (k + 1) f cl := by
  obtain ⟨oc, od, dV, kV, doc, pm, an, cdv, ct, osl, rfl, lk, hcd, _, _⟩ := F.ex
  intro A outer s H p c Q E hr hot hpin e0 hc hz hf hq
  have KX : K.In s.heap := e0.mod.kin.keeps fun b o e => (e0.bs b o e).1
  have lim : s.heap.NoLimit := e0.mod.nolimit.keeps fun b o e => (e0.bs b o e).1
  have bd := hb s [.ref p.1] KX rfl
  have hkind : ∀ y ∈ (["_law_e"] : List Str).zip [Value.ref p.1], scope.names.lookup y.1 = some .local ∨ (scope.names.lookup y.1 = some .cell ∧ ((cellsFrom (s.heap.objs.size + 1) scope.names []).lookup y.1).isSome = true) := fun y hy => by
    rcases S.par y.1 (List.of_mem_zip (a := y.1) (b := y.2) hy).1 with q | q
    · exact .inl q
    · exact .inr ⟨q, PySem.W.cellsFrom_some _ _ _ (.inl q)⟩
  refine codeAny_call_function hr.depth (KX _ _ lk) rfl S.co S.gen rfl (PySem.W.codeRec_of KX hcd) (bd _ _ _ _ ?_)
  refine wpAny_newFunctionEnv_cells S.kind hkind fun env he s1 x => ?_
  subst he
  refine ⟨lim.keeps x.toInCall.keep, codeAny_func ?_⟩
  have hr' := hr.deeper (envOfC "_law_term" scope s.heap.objs.size f cdv)
  have J : Inv (cxH CX P w K mg base ["_law_e", "_law_flags", "_law_kinds", "_law_flag"] "_law_term" scope f cdv A outer s H E p) [] (L2.start ["_law_e", "_law_flags", "_law_kinds", "_law_flag"] [.ref p.1]) H s1 :=
    inv_startH S hpin e0 (vs := [.ref p.1]) (us := [.ref p.1]) rfl (.cons rfl .nil) x
  have T := walk (cxH CX P w K mg base ["_law_e", "_law_flags", "_law_kinds", "_law_flag"] "_law_term" scope f cdv A outer s H E p) p c rfl rfl rfl rfl ⟨p, hot, List.mem_singleton.mpr rfl⟩ (by
    have := hr'.un
    show (A.deeper (envOfC "_law_term" scope s.heap.objs.size f cdv)).units + 65 < cLine
    omega) (List.mem_singleton.mpr rfl) hc hz hf
  refine wpAny_mono (T.run [] s1 _ H { nx := fun _ H' => Q .non H', rt := Q } J ⟨⟨none, none, none, rfl⟩, hq⟩) (fun fl s' hs => ?_) fun e s' hs => hs
  have fin : ∀ {σ' : L2.St} {H' : Hp} {v : V} {u : Value}, Inv (cxH CX P w K mg base ["_law_e", "_law_flags", "_law_kinds", "_law_flag"] "_law_term" scope f cdv A outer s H E p) [] σ' H' s' → RelV v u → Q v H' → CE outer P w H s Q u s' :=
    fun {σ' H' v u} I rv q => ⟨v, H', I.os, I.bare, I.base, I.hok, rv, q⟩
  cases fl with
  | ret u =>
    obtain ⟨v, σ', H', I, rv, q⟩ := hs
    exact fin I rv q
  | next =>
    obtain ⟨σ', H', I, q⟩ := hs
    exact fin (v := V.non) (u := Value.none) I rfl q
  | brk =>
    obtain ⟨_, _, _, z⟩ := hs
    exact z.elim
  | cont =>
    obtain ⟨_, _, _, z⟩ := hs
    exact z.elim
end
/-- f(e), e the exception that the suite holds -/
theorem pe_term {X : Cx} {CX : CXT} {k i : Nat} {f : Addr} {cl : Str → Addr} {x y : Str} {q q2 pos : Pos} {p : Addr × Obj} {c : Str} (F : FnT X.prog X.w X.K X.mg X.base CX k f cl) (hr : RoomH k X.A) (hot : Hot1 X.A p) (hp : p ∈ X.pn) (hg : Gl X x) (hm : X.mg x = some (.ref f)) (hk : PySem.W.keepIn X.K (.ref f) = true)
    (hx : Passes CX X (fun _ _ _ => False)) (hy : PE X (.Name y q2) (tVar i)) (hc : c ∈ kinds) (hz : Zc (.ref (cl c)) none p.2) (hf : ∃ vs, p.2.data = .fields vs) (hdb : (x == ("__debug__" : Str)) = false) :
    PE X (.Call (.Name x q) [.Name y q2] [] pos) (fun σ H Q => σ[i]? = some (some (.ref p.1)) ∧ ∀ q' H', Same H H' → H q' = none → H' q' = some (.tup [.str "error", .str c]) → Q (.ref q') H') := by
  refine ⟨fun pins s σ H Q I h => ?_⟩
  obtain ⟨hσ, h⟩ := h
  refine wpAny_Call_Name_kw (ld_glob I hg hm ?_ hdb)
  refine PySem.W.callWith_K (h₀ := X.base) I.ok.mod.kin hk (thn ((pa_cons hy pa_nil).run pos pins s σ H (fun vs H1 => vs = [V.ref p.1] ∧ H1 = H) I ⟨_, hσ, rfl, rfl⟩) fun us s1 ⟨vs, H1, I1, r, q1⟩ => ⟨I1.kIn, ?_⟩) rfl rfl
  obtain ⟨rfl, rfl⟩ := q1
  rw [Vals.ref1 r]
  have P1 := I1.pin p (List.mem_append_left _ hp)
  have hpin : PinOk X.stack H1 s1 p := ⟨P1.1, P1.2.1, fun hm => (List.mem_cons.mp (I1.stkSub p.1 hm)).elim P1.2.2.1 P1.2.2.2.1, P1.2.2.2.2⟩
  refine wpAny_call (codeAny_mono (F X.A X.stack s1 H1 p c Q (fun _ _ _ => False) hr hot hpin I1.env0 hc hz hf h) fun r s' hq => ?_)
  cases r with
  | error e => exact hx pins σ H1 s1 e s' I1 hq
  | ok fl =>
    cases fl with
    | ret u => exact I1.after hq
    | next => exact False.elim hq
    | brk => exact False.elim hq
    | cont => exact False.elim hq
end CoH

/-! Core L1: a lambda told: its value, or the name of its exception. -/
namespace CoH
open PySem PySem.Spec PyProof.Rows L2 L2H HotX LamX
section
variable {X : Cx} {pins : List (Addr × Obj)} {σ : L2.St} {H HZ : Hp} {s s1 : Shared}
/-- the lambda's own context; what leaves it has no context of its own -/
def lcx (X : Cx) (A : Around) (outer : List PySem.Env) (s : Shared) (H : Hp) (E : XK) (scope : Scope) (f c' : Addr) : Cx :=
  (lamCx X A outer s H E scope f c').wish fun e s' => wpAny (model X.prog X.w) (A.deeper (lamEnv X scope s.heap.objs.size f c')) (leaving (lamEnv X scope s.heap.objs.size f c') e) (fun _ s'' => L2N.CX X.prog X.w outer H s E e s'') (fun e' s'' => L2N.CX X.prog X.w outer H s E e' s'') s'
theorem pass_no {X : Cx} : Passes (L2N.CX X.prog X.w) X (fun _ _ _ => False) := fun _ _ _ _ _ _ _ h => by
  obtain ⟨_, _, _, _, _, _, _, _, _, _, _, _, z⟩ := h
  exact z.elim
theorem takes_no {X : Cx} : L2N.Takes X (fun _ _ _ _ => False) := fun _ _ x => by
  obtain ⟨_, _, _, _, _, _, _, _, _, _, _, _, _, _, _, _, z⟩ := x
  exact z.elim
/-- a(), a the lambda that the def got -/
theorem pe_go {CXg : CXT} {Eg : XK} {Ng : List Str} {qg : Str} {sg : Scope} {g f c' : Addr} {cdg pm ctv : Value} {params : Arguments} {body : Expr} {scope : Scope} {k i : Nat} {a : Str} {pn : List (Addr × Obj)} {xe : Value → Shared → Prop} {W : WX} {E : XK} {tb : TE} {p1 p2 : Pos}
    (I : Inv X pins σ H s) (L : LamS X.env.scope scope) (hf : s.heap.get? f = some (PySem.W.kla_obj "<lambda>" (X.env.qual ++ "<lambda>") params body scope (cloFrom X.env.cells scope.names []) pm c' ctv)) (hfn : H f = none) (hfr : f ∉ frs X.stack)
    (hbind : bindArgs (PySem.W.kla_fn "<lambda>" (X.env.qual ++ "<lambda>") params body scope (cloFrom X.env.cells scope.names []) pm (.ref c') ctv) ⟨[], []⟩ = pure [])
    (tk : L2N.Takes ((cxOf CXg X.prog X.w X.K X.mg X.base Ng qg sg g cdg X.A X.stack s H Eg).tr pn xe) W) (hW : ∀ cls d (σ' : L2.St) H', σ'.length = Ng.length → E cls d H' → W cls d σ' H') (hr : Room (k + 1) (X.A.deeper (envOfC qg sg s.heap.objs.size g cdg)))
    (hbody : ∀ (A : Around) (outer : List PySem.Env) (s : Shared) (H : Hp), Room k (A.deeper (lamEnv X scope s.heap.objs.size f c')) → PE (lcx X A outer s H E scope f c') body tb)
    (hN : Ng[i]? = some a) (hv : L2.Vis sg a) (hd : (a == ("__debug__" : Str)) = false := by decide) (hcd : (a == ("__classdict__" : Str)) = false := by decide) :
    PE ((cxOf CXg X.prog X.w X.K X.mg X.base Ng qg sg g cdg X.A X.stack s H Eg).tr pn xe) (.Call (.Name a p1) [] [] p2)
      (fun σZ HZ Q => σZ[i]? = some (some (.ref f)) ∧ HZ c' = some (CodeO c' (X.env.qual ++ "<lambda>")) ∧ tb σ HZ Q) := by
  refine ⟨fun pinsZ sZ σZ HZ Q IZ ⟨hs, hc, ht⟩ => ?_⟩
  refine wpAny_Call_Name_kw (thn ((pe_var (pos := p1) (i := i) hN hv hd hcd).run pinsZ sZ σZ HZ (fun v H1 => v = .ref f ∧ H1 = HZ) IZ ⟨.ref f, hs, rfl, rfl⟩) fun u s1 ⟨v, H1, I1, r1, ev, eH⟩ => ?_)
  subst ev
  subst eH
  obtain rfl : u = Value.ref f := r1
  have of1 := I1.base.keep f _ hf hfn hfr (fun z => nomatch (show f ∈ ([] : List Addr) from z))
  refine PySem.W.callWith_F0 ⟨_, _, _, _, of1⟩ ?_
  have un : Un (frs X.stack) [] H H1 s.heap s1.heap := I1.base
  obtain ⟨⟨oc, vs, t, hoc, hdc, hvc⟩, _, _⟩ := I1.hok c' _ hc
  have rc : codeAny (model X.prog X.w) (X.A.deeper (envOfC qg sg s.heap.objs.size g cdg)) (.call (.ref f) ⟨[], []⟩) (CR (L2N.CX X.prog X.w) (envOfC qg sg s.heap.objs.size g cdg :: X.stack) X.prog X.w H1 s1 Q E) s1 := by
    refine PySem.W.kla_callFunE hr.depth of1 rfl L.co L.gen rfl ⟨c', oc, vs, t, rfl, hoc, hdc, hvc⟩ ?_
    rw [hbind]
    refine wpAny_pure (wpAny_newFunctionEnv (fun y hy => (L.own y hy).2) (fun y hy => absurd hy (by simp)) (fun h₁ hns hsb => ⟨I1.nolimit.fresh _ hsb, ?_⟩) L.kind)
    show codeAny _ _ (.expr body (lamEnv X scope s1.heap.objs.size f c')) _ _
    have kp : ∀ b o, s1.heap.get? b = some o → h₁.get? b = some o := fun b o e => hsb.extBut b o (Nat.ne_of_lt (Heap.lt_size e)) (Heap.get?_push_of_some _ e)
    have J : Inv (lcx X (X.A.deeper (envOfC qg sg s.heap.objs.size g cdg)) (envOfC qg sg s.heap.objs.size g cdg :: X.stack) s1 H1 E scope f c') [] σ H1 { s1 with heap := h₁, toks := s1.toks + ([] : List (Str × Value)).length } :=
      (lam_start2 I L I1.env0 hr.hd un hns kp).wish _
    exact PySem.W.kla_codeExpr (wpAny_mono ((hbody _ _ s1 H1 (hr.deeper _)).run [] _ _ H1 Q J ht) (fun v s' ⟨w', H', J', rv, q⟩ => ⟨w', H', J'.os, J'.bare, J'.base, J'.hok, rv, q⟩) fun e s' hq => hq)
  have hx : ∀ e s', L2N.CX X.prog X.w (envOfC qg sg s.heap.objs.size g cdg :: X.stack) H1 s1 E e s' → xe e s' := fun e s' z => tk e s' (L2N.XE.of_call I1 (fun cls d H' y => hW cls d σZ H' I1.len y) z)
  refine wpAny_call (codeAny_mono rc fun r s' hq => ?_)
  cases r with
  | error e => exact hx e s' hq
  | ok fl =>
    cases fl with
    | ret u => exact I1.after hq
    | next => exact hq.elim
    | brk => exact hq.elim
    | cont => exact hq.elim
/-- what a lambda's exception is told as -/
def Etold (K : PySem.W.Frag) (cl : Str → Addr) (CS : Addr) (Q : VK) : XK := fun cls d H' => ∃ c ∈ kinds, cls = .ref (cl c) ∧ d = none ∧ PySem.W.exmOne K (.ref (cl c)) (.ref CS) = some true ∧ ∀ q H'', Same H' H'' → H' q = none → H'' q = some (.tup [.str "error", .str c]) → Q (.ref q) H''
def tTold (T : List (Addr × Str)) (K : PySem.W.Frag) (cl : Str → Addr) (CS : Addr) (t : XK → TE) : TE := fun σ H Q => Tabs T H ∧ ∀ H1, ExtN H H1 → Tabs T H1 → t (Etold K cl CS Q) σ H1 Q
theorem pe_told {T : List (Addr × Str)} {g fT c P CS : Addr} {k : Nat} {cl : Str → Addr} {pg : Arguments} {sg : Scope} {dV kV doc pm cdv ct oc : Value} {an od : Option Addr} {osl : Array (Option Value)} {q1 q2 q3 q4 q5 q6 q7 q8 q9 q10 : Pos}
    {params : Arguments} {body : Expr} {scope : Scope} {t : XK → TE} {p lpos pos : Pos} (hg : Gl X "_law_told") (hm : X.mg "_law_told" = some (.ref g)) (hk : PySem.W.keepIn X.K (.ref g) = true)
    (lk : X.K.lookup g = some ⟨oc, od, .func (PySem.W.fnOf "_law_told" "_law_told" pg [.Try [.Return (some (.Call (.Name "_law_deed" q1) [] [] q2)) q3] [.ExceptHandler (some (.Name "RoundError" q4)) (some "_law_e") [.Return (some (.Call (.Name "_law_term" q5) [.Name "_law_e" q6] [] q7)) q8] q9] [] [] q10] sg dV kV doc pm an cdv ct), osl⟩)
    (hcg : PySem.W.codeIn X.K cdv "_law_told" = true) (hb : L2.Binds X.K (PySem.W.fnOf "_law_told" "_law_told" pg [.Try [.Return (some (.Call (.Name "_law_deed" q1) [] [] q2)) q3] [.ExceptHandler (some (.Name "RoundError" q4)) (some "_law_e") [.Return (some (.Call (.Name "_law_term" q5) [.Name "_law_e" q6] [] q7)) q8] q9] [] [] q10] sg dV kV doc pm an cdv ct) ["_law_deed"] [])
    (Sg : FnScope ["_law_deed", "_law_e"] ["_law_deed"] sg) (v0 : sg.names.lookup ("_law_deed" : Str) = some .local) (v1 : sg.names.lookup ("_law_e" : Str) = some .local) (v2 : sg.names.lookup ("RoundError" : Str) = some .globalImplicit) (v3 : sg.names.lookup ("_law_term" : Str) = some .globalImplicit)
    (mR : X.mg "RoundError" = some (.ref CS)) (FT : FnT X.prog X.w X.K X.mg X.base (L2N.CX X.prog X.w) k fT cl) (mT : X.mg "_law_term" = some (.ref fT)) (kT : PySem.W.keepIn X.K (.ref fT) = true)
    (TB : TabB X.base X.mg c P) (hcode : X.env.code = .ref c) (hmT : (P, X.env.qual ++ "<lambda>") ∈ T) (hu : ∀ p ∈ T, p.1 = P → p.2 = X.env.qual ++ "<lambda>") (hr : Room (k + 2) X.A) (L : LamS X.env.scope scope) (hdef : defaultsOf params X.env = ([], []))
    (hbind : ∀ (q : Str) (cl : List (Str × Addr)) (pm cv ctv : Value), bindArgs (PySem.W.kla_fn "<lambda>" q params body scope cl pm cv ctv) ⟨[], []⟩ = pure [])
    (hbody : ∀ (A : Around) (outer : List PySem.Env) (s : Shared) (H : Hp) (E : XK) (f c' : Addr), Room k (A.deeper (lamEnv X scope s.heap.objs.size f c')) → PE (lcx X A outer s H E scope f c') body (t E)) :
    PE X (.Call (.Name "_law_told" p) [.Lambda params body scope lpos] [] pos) (tTold T X.K cl CS t) := by
  refine ⟨fun pins s σ H Q I ⟨hT, h⟩ => ?_⟩
  refine wpAny_Call_Name_kw (ld_glob I hg hm ?_ (by decide))
  refine PySem.W.callWith_K (h₀ := X.base) I.ok.mod.kin hk ?_ (by rfl) (by rfl)
  show wpAny _ _ (spliced ((false, eval (.Lambda params body scope lpos) X.env) :: backTo pos (starEach [] X.env))) _ _ s
  refine Calls.spliced_cons (lam_make2 I TB hcode hmT hu hT hdef (L.has I.ok) fun f c' pm' ctv H1 s' I1 eN T1 hf hfn hfr hco => ?_)
  refine Calls.spliced_nil ⟨I1.kIn, ?_⟩
  have rc : codeAny (model X.prog X.w) X.A (.call (.ref g) ⟨[.ref f], []⟩) (CR C8.CX0 X.stack X.prog X.w H1 s' Q C8.E0) s' := by
    refine run_ofS (N := ["_law_deed", "_law_e"]) (ps := ["_law_deed"]) (us := [.ref f]) (vs := [.ref f]) lk hcg Sg hr I1.env0 (hb s' [.ref f] I1.kIn rfl) (.cons rfl .nil) rfl fun hr' => ?_
    have Hn : Names (cxOf C8.CX0 X.prog X.w X.K X.mg X.base ["_law_deed", "_law_e"] "_law_told" sg g cdv X.A X.stack s' H1 C8.E0).nox "RoundError" (.ref CS) := ⟨v2, by decide, .inl mR⟩
    have ps := L2N.ps_try_as (X := (cxOf C8.CX0 X.prog X.w X.K X.mg X.base ["_law_deed", "_law_e"] "_law_told" sg g cdv X.A X.stack s' H1 C8.E0).nox) (i := 1) (c := .ref CS) (body := [.Return (some (.Call (.Name "_law_deed" q1) [] [] q2)) q3]) (suite := []) (b₀ := .Return (some (.Call (.Name "_law_term" q5) [.Name "_law_e" q6] [] q7)) q8) (pos := q10) (pos' := q9) (np := q4)
      (tb := fun W D σZ HZ => ∃ Ech : XK, (∀ cls d (σ' : L2.St) H', σ'.length = 2 → Ech cls d H' → W cls d σ' H') ∧ σZ[0]? = some (some (.ref f)) ∧ HZ c' = some (CodeO c' (X.env.qual ++ "<lambda>")) ∧ t Ech σ HZ D.rt)
      (ts := fun a cls d D σZ HZ => ∃ c ∈ kinds, cls = .ref (cl c) ∧ d = none ∧ σZ[1]? = some (some (.ref a)) ∧ ∀ q H'', Same HZ H'' → HZ q = none → H'' q = some (.tup [.str "error", .str c]) → D.rt (.ref q) H'')
      rfl rfl Sg.nd rfl v1 Hn takes_no (fun W pn xe tk _ => ⟨fun pins s'' σZ HZ D I' ⟨Ech, hW, h1, h2, h3⟩ => ?_⟩) (fun a oe cls d pn hz hf' => ⟨fun pins s'' σZ HZ D I' ⟨c, hc, e1, e2, e3, e4⟩ => ?_⟩)
    · refine ⟨_, (pss_one ps).nox, ?_⟩
      refine ⟨_, fun cls d σ' H' hl z => ?_, rfl, hco, h H1 eN T1⟩
      obtain ⟨c, hc, rfl, rfl, hx, hq⟩ := z
      exact ⟨true, hx, fun _ a _ => ⟨c, hc, rfl, rfl, by
        rw [List.getElem?_set_self (by rw [hl]; decide)], hq⟩, fun z => by cases z⟩
    · exact (pss_one (ps_ret (pos := q3) (pe_go (CXg := C8.CX0) (Eg := C8.E0) (Ng := ["_law_deed", "_law_e"]) (i := 0) (p1 := q1) (p2 := q2) I1 L hf hfn hfr (hbind _ _ _ _ _) tk hW hr' (fun A outer s H hr2 => hbody A outer s H Ech f c' hr2) rfl (.inl v0)))).run pins s'' σZ HZ D I' ⟨h1, h2, h3⟩
    · subst e1
      subst e2
      obtain ⟨vs, hvs⟩ := hf'
      have hr2 := hr'.mono (Nat.le_succ k)
      have pt := pe_term (X := (cxOf C8.CX0 X.prog X.w X.K X.mg X.base ["_law_deed", "_law_e"] "_law_told" sg g cdv X.A X.stack s' H1 C8.E0).nox.suite a ((a, oe) :: pn)) (x := "_law_term") (y := "_law_e") (q := q5) (q2 := q6) (pos := q7) (i := 1) (p := (a, oe)) FT ⟨hr2.dp, hr2.un⟩ ⟨rfl, vs, hvs, hz.2.2 vs hvs⟩ (List.mem_cons_self ..) v3 mT kT pass_no (pe_var rfl (.inl v1)) hc hz.zc ⟨vs, hvs⟩ (by decide)
      exact (pss_one (ps_ret (pos := q8) pt)).run pins s'' σZ HZ D I' ⟨e3, e4⟩
  refine wpAny_call (codeAny_mono rc fun r s2 hq => ?_)
  cases r with
  | error e => exact (show False from hq).elim
  | ok fl =>
    cases fl with
    | ret u => exact I1.after hq
    | next => exact hq.elim
    | brk => exact hq.elim
    | cont => exact hq.elim
end
end CoH

/-! Core 11: the look tells the truth: expressions. -/
namespace Co
open PySem PySem.Spec PyProof.Rows L2
variable [TabT]

/-- what the telling of a lambda needs -/
structure ToldC (X : Cx) (G : Gam) (cl : Str → Addr) (S : Sc) : Prop where
  fs : ∃ k, Room (k + 2) X.A ∧ (∀ (j : Nat) p, S.fs[j]? = some p → ∃ fa fd ps mf, G j = some mf ∧ FnOk X.prog X.w X.K X.mg X.base (L2N.CX X.prog X.w) k fa fd ps (spOf ps.length cl mf) ∧ X.mg p.1 = some (.ref fa) ∧ PySem.W.keepIn X.K (.ref fa) = true ∧ Binds X.K fd ps [] ∧ ps.length = p.2) ∧
    ∀ {T : List (Addr × Str)} {params : Arguments} {body : Expr} {scope : Scope} {t : XK → TE} {p lpos pos : Pos}, T = TabT.ts → Gl X "_law_told" → LamX.LamS X.env.scope scope → noPar params = true →
      (∀ (A : Around) (outer : List PySem.Env) (s : Shared) (H : Hp) (E : XK) (f c' : Addr), Room k (A.deeper (LamX.lamEnv X scope s.heap.objs.size f c')) → PE (CoH.lcx X A outer s H E scope f c') body (t E)) →
      ∃ CS, (∀ c ∈ kinds, PySem.W.exmOne X.K (.ref (cl c)) (.ref CS) = some true) ∧ PE X (.Call (.Name "_law_told" p) [.Lambda params body scope lpos] [] pos) (CoH.tTold T X.K cl CS t)
/-- what a context must give -/
structure Cc (X : Cx) (G : Gam) (cl : Str → Addr) (W : WS) (S : Sc) : Prop where
  N : X.N = S.N
  nd : S.N.Nodup
  sc : X.env.scope = S.sc
  fnc : ∀ x, S.fn x = true → X.fn x = true
  calm : X.calm = true
  un : X.A.units + 64 < cLine
  bl : ∀ x : Str, x ∈ (["len", "int", "str", "tuple", "list", "sorted", "sum", "min", "max", "all", "any", "abs", "isinstance", "bool", "range", "enumerate"] : List Str) → X.mg x = none
  cs : ∀ p ∈ S.cs, ∃ t, X.mg p.1 = some (.int p.2 t)
  fs : ∀ (j : Nat) p, S.fs[j]? = some p → ∃ k fa fd ps mf, G j = some mf ∧ FnOk X.prog X.w X.K X.mg X.base (L2N.CX X.prog X.w) k fa fd ps (spOf ps.length cl mf) ∧ Room k X.A ∧ X.mg p.1 = some (.ref fa) ∧ PySem.W.keepIn X.K (.ref fa) = true ∧ Binds X.K fd ps [] ∧ ps.length = p.2
  pa : Passes (L2N.CX X.prog X.w) X (XKof cl W)
  td : S.tl = true → ToldC X G cl S

theorem ff {p : Prop} (h : false = true) : p := by cases h
theorem an {a b : Bool} (h : (a && b) = true) : a = true ∧ b = true := Bool.and_eq_true_iff.mp h

theorem isTrue_plain {e : Expr} (h : plainT e = true) (env : PySem.Env) (whole : Sem Value) : isTrue e env whole = (do
    let v ← whole
    standAt e.pos
    holding [v] (truthy v)) := by
  cases e with
  | UnaryOp op x p =>
    cases op with
    | Not => exact ff h
    | _ => rfl
  | BoolOp => exact ff h
  | IfExp => exact ff h
  | Compare => exact ff h
  | _ => rfl
theorem star1 {e : Expr} {es : List Expr} {env : PySem.Env} (h : notStar e = true) : starEach (e :: es) env = (false, eval e env) :: starEach es env := by
  cases e with
  | Starred => exact ff h
  | _ => rfl
theorem back1 {pos : Pos} {es : List Expr} {env : PySem.Env} (h : es.all notStar = true) : (backTo pos (starEach es env)).any (·.1) = false := by
  induction es with
  | nil => rfl
  | cons e es ih =>
    simp only [List.all_cons, Bool.and_eq_true] at h
    rw [star1 h.1]
    show (false || (backTo pos (starEach es env)).any (·.1)) = false
    rw [ih h.2]; rfl
theorem plainIx {b : Expr} (h : notSlice b = true) : PlainIx b := by
  cases b with
  | Slice => exact ff h
  | _ => exact fun _ _ => rfl
theorem fset {e : Expr} {env : PySem.Env} (h : notSet e = true) : ∀ x, foldedSetIterable e env x = pure x := by
  cases e with
  | Set => exact ff h
  | _ => exact fun _ => rfl
theorem bim {op : CmpOp} {e : Expr} (h : notSet e = true) : behindInMarks op e = false := by
  cases e with
  | Set => exact ff h
  | _ => rfl
/-- what is had of a core term and its text -/
def Snd (X : Cx) (W : WS) (G : Gam) (c : CE) (e : Expr) : Md → Prop
  | .val => PE X e (tM W (ev G c)) ∧ (frC c = true → PE X e (tF W (ev G c)))
  | .bor => PE X e (tB W (ev G c))
  | .tst => PT X e (tT W (ev G c)) ∧ ∀ op es pos, e = .BoolOp op es pos → PW X e (tT W (ev G c))
section
variable {X : Cx} {W : WS} {G : Gam} {cl : Str → Addr} {S : Sc} {c : CE} {e : Expr}
theorem Snd.ofM (h : PE X e (tM W (ev G c))) (hf : frC c = false) (hp : plainT e = true) : ∀ m, Snd X W G c e m
  | .val => ⟨h, fun z => by rw [hf] at z; cases z⟩
  | .bor => toB h
  | .tst => ⟨dt_val h (isTrue_plain hp X.env), fun op es pos e1 => by subst e1; exact ff hp⟩
theorem Snd.ofF (h : PE X e (tF W (ev G c))) (hp : plainT e = true) : ∀ m, Snd X W G c e m
  | .val => ⟨toM h, fun _ => h⟩
  | .bor => toB (toM h)
  | .tst => ⟨dt_val (toM h) (isTrue_plain hp X.env), fun op es pos e1 => by subst e1; exact ff hp⟩
theorem Snd.ofT (h : PE X e (tM W (ev G c))) (hf : frC c = false) (ht : PT X e (tT W (ev G c))) (hw : ∀ op es pos, e = .BoolOp op es pos → PW X e (tT W (ev G c))) : ∀ m, Snd X W G c e m
  | .val => ⟨h, fun z => by rw [hf] at z; cases z⟩
  | .bor => toB h
  | .tst => ⟨ht, hw⟩
theorem nm (C : Cc X G cl W S) {i : Nat} {x : Str} {pos : Pos} (h : okN S i x = true) : PE X (.Name x pos) (tVar i) := by
  unfold okN at h
  obtain ⟨h, h4⟩ := an h
  obtain ⟨h, h3⟩ := an h
  obtain ⟨h1, h2⟩ := an h
  refine pe_var (by rw [C.N]; exact of_decide_eq_true h1) ?_ (by simpa using h3) (by simpa using h4)
  rw [C.sc]
  unfold visC at h2
  unfold L2.Vis
  split at h2
  · rename_i q; exact .inl q
  · rename_i q; exact .inr (.inl q)
  · rename_i q; exact .inr (.inr q)
  · cases h2
theorem gl (C : Cc X G cl W S) {x : Str} (h : glC S x = true) : Gl X x ∧ (x == ("__debug__" : Str)) = false := by
  unfold glC at h
  obtain ⟨h1, h2⟩ := an h
  refine ⟨?_, by simpa using h2⟩
  show X.env.scope.names.lookup x = some .globalImplicit
  rw [C.sc]
  split at h1
  · rename_i q; exact q
  · cases h1
theorem opD (h : opC o op = true) : OpR X (binaryOp op) (rF W (binD o)) := by
  cases o <;> cases op <;> first | exact ff h | exact op_addD | exact op_subD | exact op_mulD | exact op_fdivD | exact op_modD | exact op_powD
theorem cmD {o : COp} {op : CmpOp} (hu : X.A.units + 64 < cLine) (h : cmC o op = true) : OpR X (compareOp op) (rF W fun x y => (cmpD o x y).map .bool) := by
  cases o <;> cases op <;> first | exact ff h | exact op_eqDD hu | exact op_neDD hu | exact op_ltD | exact op_leD | exact op_gtD | exact op_geD | exact op_inD hu | exact op_ninD hu
theorem cst_ok {d : D} {k : Const} {j : Nat} {pos : Pos} (h : cstC d k = true) : PE X (.Constant k j pos) (tM W fun _ s => .ok d s) := by
  cases d <;> cases k <;> first | exact ff h | skip
  · exact de_con pe_non fun F => .non
  · have := of_decide_eq_true h; subst this; exact de_con pe_bl fun F => .bl _
  · have := of_decide_eq_true h; subst this; exact de_con pe_int fun F => .int _
  · have := of_decide_eq_true h; subst this; exact de_con pe_str fun F => .str _
theorem stopE : PE X e (tM W fun _ _ => .bad) := ⟨fun pins s σ H Q I ⟨B, F, ρ, s', R, q⟩ => q.elim⟩
theorem stopF : PE X e (tF W fun _ _ => .bad) := ⟨fun pins s σ H Q I ⟨B, F, ρ, s', R, q⟩ => q.elim⟩
theorem stopT : PT X e (tT W fun _ _ => .bad) := ⟨fun pins s σ H Q I ⟨B, F, ρ, s', R, q⟩ => q.elim⟩
theorem stopW : PW X e (tT W fun _ _ => .bad) := ⟨fun w pins s σ H Q I ⟨B, F, ρ, s', R, q⟩ => q.elim⟩
theorem stop_snd : ∀ m, Snd X W G .stop e m
  | .val => ⟨stopE, fun _ => stopF⟩
  | .bor => toB stopE
  | .tst => ⟨stopT, fun _ _ _ _ => stopW⟩
/-! ### a lambda told -/
theorem step_lam {dc : DT} {F H H1 : Hp} {s : Dice} (o : Ok dc F H s) (e : LamX.ExtN H H1) (t : LamX.Tabs TabT.ts H1) : Step dc F H F H1 s := by
  have hd : Same (Hd dc H) (Hd dc H1) := fun b x h => by
    obtain ⟨h1, h2, h3⟩ := Hd_some h
    exact Hd_of (e b x h1 fun ps z => by subst z; cases h3) ⟨h2, h3⟩
  exact ⟨Same.refl _, hd, fun _ h _ => h, o.fh.trans hd, fun a ea => e a _ (o.di a ea) (fun ps z => by cases z), t⟩
theorem step_newT {dc : DT} {F H F' H' H2 : Hp} {s' : Dice} (t : Step dc F H F' H' s') (m : Same H' H2) {p : Addr} {xs : List V} (hp : H' p = none) (h : H2 p = some (.tup xs)) : Step dc F H (upd F' p (.tup xs)) H2 s' := by
  have fp : F' p = none := by
    cases q : F' p with
    | none => rfl
    | some y => exact absurd hp (t.ok.ne q)
  have np : dc.d ≠ some p := fun e => by
    have := t.ok.di p e
    rw [hp] at this
    cases this
  have hd : Same (Hd dc H') (Hd dc H2) := fun b x h => by
    obtain ⟨h1, h2⟩ := Hd_some h
    exact Hd_of (m b x h1) h2
  have ff : Same F' (upd F' p (.tup xs)) := same_upd_none fp
  refine ⟨t.ff.trans ff, t.hh.trans hd, fun b h1 h2 => ?_, ⟨fun b x e => ?_, fun a e => m _ _ (t.ok.di a e), t.ok.tb.ext m⟩⟩
  · have nb : b ≠ p := fun e => Vis.no hp (by rw [← e]; exact Step.there t.ok t h2)
    rw [upd_ne nb]; exact t.cap b h1 h2
  · by_cases hb : b = p
    · subst hb
      rw [upd_same] at e
      cases e
      exact Hd_of h ⟨np, rfl⟩
    · rw [upd_ne hb] at e
      exact hd _ _ (t.ok.fh _ _ e)
theorem told_end {B : Base} {F H : Hp} {ρ : Env} {s : Dice} {σ : L2.St} {CS : Addr} {K : PySem.W.Frag} {cl : Str → Addr} {Q : VK} {m : Env → Dice → Res D} (hx : ∀ c ∈ kinds, PySem.W.exmOne K (.ref (cl c)) (.ref CS) = some true) (R : Rel B F σ ρ H s) (q : Post B.dc W F H (toldR (m ρ s)) Q) :
    CoH.tTold TabT.ts K cl CS (fun E => tM (fun c H' => E (.ref (cl c)) none H') m) σ H Q := by
  refine ⟨R.ok.tb, fun H1 e1 t1 => ?_⟩
  have t0 := step_lam R.ok e1 t1
  refine ⟨B, F, ρ, s, R.step t0, ?_⟩
  cases h : m ρ s with
  | bad => rw [h] at q; exact q
  | ok d s1 =>
    rw [h] at q
    exact fun v F' H' t r => q v F' H' (t0.trans R.ok t) r
  | exc c s1 =>
    rw [h] at q
    have q : Post B.dc W F H (if kinds.contains c = true then .ok (.tuple [.str "error", .str c]) s1 else .bad) Q := q
    by_cases hk : kinds.contains c = true
    · rw [if_pos hk] at q
      have hc : c ∈ kinds := by simpa using hk
      intro F' H' t
      refine ⟨c, hc, rfl, rfl, hx c hc, fun p H2 m hp hH => ?_⟩
      have t2 := step_newT (t0.trans R.ok t) m hp hH
      exact q _ _ H2 t2 (.tup upd_same (.cons (.str _) (.cons (.str _) .nil)))
    · rw [if_neg hk] at q
      exact q.elim
/-- list(range(a, b)) -/
def lrgR (ma mb : Env → Dice → Res D) : Env → Dice → Res D := fun ρ s => (ma ρ s).bind fun x s1 => (mb ρ s1).bind fun y s2 => match x, y with
    | .int i, .int j => if rngOk i j = true ∧ (j - i).toNat ≤ 2 ^ 24 then .ok (.list (rngD i (j - i).toNat)) s2 else .bad
    | _, _ => .bad
theorem lrg_end {B : Base} {F H : Hp} {Q : VK} {s : Dice} {i j : Int} (o : Ok B.dc F H s) (q : PostF B.dc W F H (if rngOk i j = true ∧ (j - i).toNat ≤ 2 ^ 24 then .ok (.list (rngD i (j - i).toNat)) s else .bad) Q) :
    RgOk i j ∧ ∀ q, H q = none → Q (.ref q) (upd H q (.lst (rgV i j))) := by
  by_cases hk : rngOk i j = true ∧ (j - i).toNat ≤ 2 ^ 24
  · rw [if_pos hk] at q
    obtain ⟨k1, k2, k3, k4⟩ := rngOk_b hk.1
    refine ⟨⟨k1, k2, k3, k4, hk.2⟩, fun p hp => ?_⟩
    have nd : B.dc.d ≠ some p := fun e => by
      have := o.di p e
      rw [hp] at this
      cases this
    have fp : F p = none := by
      cases q : F p with
      | none => rfl
      | some y => exact absurd hp (o.ne q)
    exact q.2 _ rfl p _ F _ (Step.lay o hp) fp (Vis.no hp) (Hd_of upd_same ⟨nd, rfl⟩) (rg_rpa _ _)
  · rw [if_neg hk] at q
    exact q.elim
end
end Co

/-! Core 12: the look tells the truth: expressions, all. -/
namespace Co
open PySem PySem.Spec PyProof.Rows L2
variable [TabT]
section
variable {X : Cx} {W : WS} {G : Gam} {cl : Str → Addr} {S : Sc} {a b e : Expr} {ma mb : Env → Dice → Res D} {pos pos2 p p2 : Pos}
theorem de_lrng2 (C : Cc X G cl W S) (g1 : Gl X "list") (g2 : Gl X "range") (h1 : PE X a (tB W ma)) (h2 : PE X b (tB W mb)) (n1 : notStar a = true) (n2 : notStar b = true) :
    PE X (.Call (.Name "list" p) [.Call (.Name "range" p2) [a, b] [] pos2] [] pos) (tF W (lrgR ma mb)) := by
  have s2 : starEach [b] X.env = (false, eval b X.env) :: starEach [] X.env := star1 n2
  refine PEimp (pe_listRg C.calm g1 (C.bl _ (by decide)) (prg_2 g2 (C.bl _ (by decide)) h1 h2 (star1 n1) s2 (back1 (by simp [n2]))) (star1 rfl)) fun σ H Q ⟨B, F, ρ, s, R, q⟩ => ⟨B, F, ρ, s, R, ?_⟩
  unfold lrgR at q
  cases h1 : ma ρ s with
  | bad => rw [h1] at q; exact q.elim
  | exc c s1 => rw [h1] at q; exact q
  | ok d s1 =>
    rw [h1] at q
    intro v1 F1 H1 t1 r1
    refine ⟨B, F1, ρ, s1, R.step t1, ?_⟩
    simp only [bind_ok] at q
    have q := PostF.step R.ok t1 q
    cases h2 : mb ρ s1 with
    | bad => rw [h2] at q; exact q.elim
    | exc c s2 => rw [h2] at q; exact q
    | ok e s2 =>
      rw [h2] at q
      intro v2 F2 H2 t2 r2
      simp only [bind_ok] at q
      have q := PostF.step t1.ok t2 q
      cases d with
      | int i =>
        cases e with
        | int j => exact ⟨i, j, by rw [r1.int], by rw [r2.int], lrg_end t2.ok q⟩
        | _ => exact q.elim
      | _ => exact q.elim
theorem de_lrng1 (C : Cc X G cl W S) (g1 : Gl X "list") (g2 : Gl X "range") (h2 : PE X b (tB W mb)) (n2 : notStar b = true) :
    PE X (.Call (.Name "list" p) [.Call (.Name "range" p2) [b] [] pos2] [] pos) (tF W (lrgR (fun _ s => .ok (.int 0) s) mb)) := by
  refine PEimp (pe_listRg C.calm g1 (C.bl _ (by decide)) (prg_1 g2 (C.bl _ (by decide)) h2 (star1 n2)) (star1 rfl)) fun σ H Q ⟨B, F, ρ, s, R, q⟩ => ⟨B, F, ρ, s, R, ?_⟩
  unfold lrgR at q
  simp only [bind_ok] at q
  cases h2 : mb ρ s with
  | bad => rw [h2] at q; exact q.elim
  | exc c s2 => rw [h2] at q; exact q
  | ok e s2 =>
    rw [h2] at q
    intro v2 F2 H2 t2 r2
    simp only [bind_ok] at q
    have q := PostF.step R.ok t2 q
    cases e with
    | int j => exact ⟨j, by rw [r2.int], lrg_end t2.ok q⟩
    | _ => exact q.elim
theorem okM_star {l : CL} {es : List Expr} (h : okM S l es = true) : es.all notStar = true := by
  induction es generalizing l with
  | nil => rfl
  | cons e es ih =>
    cases l with
    | nil => exact ff h
    | cons c l =>
      obtain ⟨h1, h2⟩ := an h
      rw [List.all_cons, (an h1).2, ih h2]; rfl
theorem okB_star {l : CL} {es : List Expr} (h : okB S l es = true) : es.all notStar = true := by
  induction es generalizing l with
  | nil => rfl
  | cons e es ih =>
    cases l with
    | nil => exact ff h
    | cons c l =>
      obtain ⟨h1, h2⟩ := an h
      rw [List.all_cons, (an h1).2, ih h2]; rfl
theorem okA_star {l : CL} {es : List Expr} (h : okA S l es = true) : es.all notStar = true := by
  induction es generalizing l with
  | nil => rfl
  | cons e es ih =>
    cases l with
    | nil => exact ff h
    | cons c l =>
      obtain ⟨h1, h2⟩ := an h
      rw [List.all_cons, (an h1).2, ih h2]; rfl
theorem evA_len {G : Gam} : ∀ {l : CL} {ρ : Env} {s : Dice} {as : List SV} {s1 : Dice}, evA G l ρ s = .ok as s1 → as.length = lenL l
  | .nil, ρ, s, as, s1, h => by cases h; rfl
  | .cons c l, ρ, s, as, s1, h => by
    have key : ∀ {x : SV} {s2 : Dice}, (evA G l ρ s2).bind (fun xs s3 => Res.ok (x :: xs) s3) = .ok as s1 → as.length = lenL l + 1 := fun {x s2} h => by
      cases h2 : evA G l ρ s2 with
      | bad => rw [h2] at h; cases h
      | exc _ _ => rw [h2] at h; cases h
      | ok xs s3 =>
        rw [h2] at h
        cases h
        rw [List.length_cons, evA_len h2]
    have gen : ((ev G c ρ s).bind fun x s1 => (evA G l ρ s1).bind fun xs s2 => Res.ok (.val x :: xs) s2) = .ok as s1 → as.length = lenL l + 1 := fun h => by
      cases h1 : ev G c ρ s with
      | bad => rw [h1] at h; cases h
      | exc _ _ => rw [h1] at h; cases h
      | ok x s2 => rw [h1] at h; exact key h
    cases c with
    | dce i =>
      have h' : (if isDice ρ i = true then (evA G l ρ s).bind fun xs s2 => Res.ok (SV.dice :: xs) s2 else .bad) = .ok as s1 := h
      by_cases hd : isDice ρ i = true
      · rw [if_pos hd] at h'; exact key h'
      · rw [if_neg hd] at h'; cases h'
    | _ => exact gen h
theorem asg1 {e : Expr} {es : List Expr} {env : PySem.Env} (h : notStar e = true) : assignEach (e :: es) env = (false, assign e env) :: assignEach es env := by
  cases e with
  | Starred => exact ff h
  | _ => rfl
theorem asgN {es : List Expr} {env : PySem.Env} (h : es.all notStar = true) : (assignEach es env).length = es.length ∧ (assignEach es env).findIdx? (·.1) = none := by
  induction es with
  | nil => exact ⟨rfl, rfl⟩
  | cons e es ih =>
    simp only [List.all_cons, Bool.and_eq_true] at h
    obtain ⟨h1, h2⟩ := ih h.2
    rw [asg1 h.1]
    exact ⟨by rw [List.length_cons, List.length_cons, h1], by rw [List.findIdx?_cons, h2]; rfl⟩
theorem okPs_star : ∀ {ps : PatL} {es : List Expr}, okPs S ps es = true → es.all notStar = true ∧ es.length = lenPs ps
  | .nil, [], _ => ⟨rfl, rfl⟩
  | .nil, _ :: _, h => ff h
  | .cons _ _, [], h => ff h
  | .cons p r, e :: es, h => by
    obtain ⟨h1, h2⟩ := an (show (okP S p e && notStar e && okPs S r es) = true from h)
    obtain ⟨h3, h4⟩ := okPs_star h2
    exact ⟨by rw [List.all_cons, (an h1).2, h3]; rfl, by rw [List.length_cons, h4]; rfl⟩
theorem pg1 (C : Cc X G cl W S) {i : Nat} {x : Str} (h : okL S i x = true) : PG X (.Name x pos) (gName i) := by
  obtain ⟨h1, h2⟩ := an h
  have hl : ∀ k, S.sc.names.lookup x = some k → X.env.scope.names.lookup x = some k := fun k hk => by rw [C.sc]; exact hk
  split at h2
  · rename_i q
    exact pg_name (by rw [C.N]; exact C.nd) (by rw [C.N]; exact of_decide_eq_true h1) (.inl (hl _ q)) (.inr (hl _ q))
  · rename_i q
    exact pg_name (by rw [C.N]; exact C.nd) (by rw [C.N]; exact of_decide_eq_true h1) (.inr (hl _ q)) (.inl (C.fnc x h2))
  · cases h2
mutual
theorem pgP (C : Cc X G cl W S) : ∀ (p : Pat) (e : Expr), okP S p e = true → PG X e (gP X.K p)
  | .one i, e, h => by
    cases e with
    | Name x pos => exact pg1 C h
    | _ => exact ff h
  | .tup ps, e, h => by
    cases e with
    | Tuple es k pos =>
      obtain ⟨h1, h2⟩ := okPs_star (show okPs S ps es = true from h)
      obtain ⟨h3, h4⟩ := asgN (env := X.env) h1
      exact pg_tup C.calm (pgPs C ps es h) (h3.trans h2) h4
    | _ => exact ff h
theorem pgPs (C : Cc X G cl W S) : ∀ (ps : PatL) (es : List Expr), okPs S ps es = true → PGs X es (gPs X.K ps)
  | .nil, [], _ => pgs_nil
  | .nil, _ :: _, h => ff h
  | .cons _ _, [], h => ff h
  | .cons p r, e :: es, h => by
    obtain ⟨h1, h2⟩ := an (show (okP S p e && notStar e && okPs S r es) = true from h)
    exact pgs_cons (pgP C p e (an h1).1) (pgPs C r es h2) (by rw [asg1 (an h1).2]; rfl)
end
theorem Cc.blk (C : Cc X G cl W S) (s : Shared) (H : Hp) (scope : Scope) (Ca : Addr) (cll : List (Str × Addr)) (fp : List Addr) : Cc (X.blk s H scope (compEnvC scope cll Ca X.env) fp) G cl WN (relC scope S) :=
  ⟨C.N, C.nd, by show relabel scope X.env = relS scope S.sc; rw [← C.sc]; rfl, fun x h => h, C.calm, C.un, C.bl, C.cs, C.fs, passN, fun z => (by cases z)⟩
theorem noPar_eq {p : Arguments} (h : noPar p = true) : p = ⟨[], [], none, [], [], none, []⟩ := by
  unfold noPar at h
  split at h
  · rfl
  · cases h
theorem Cc.lam (C : Cc X G cl W S) {k : Nat} (hf : ∀ (j : Nat) p, S.fs[j]? = some p → ∃ fa fd ps mf, G j = some mf ∧ FnOk X.prog X.w X.K X.mg X.base (L2N.CX X.prog X.w) k fa fd ps (spOf ps.length cl mf) ∧ X.mg p.1 = some (.ref fa) ∧ PySem.W.keepIn X.K (.ref fa) = true ∧ Binds X.K fd ps [] ∧ ps.length = p.2)
    (A : Around) (outer : List PySem.Env) (s : Shared) (H : Hp) (E : XK) (scope : Scope) (f c' : Addr) (hr : Room k (A.deeper (LamX.lamEnv X scope s.heap.objs.size f c'))) :
    Cc (CoH.lcx X A outer s H E scope f c') G cl (fun c H => E (.ref (cl c)) none H) (lamC scope S) := by
  refine ⟨C.N, C.nd, rfl, fun _ z => (by cases z), rfl, ?_, C.bl, C.cs, fun j p h => ?_, ?_, fun z => (by cases z)⟩
  · have := hr.un
    show (A.deeper (LamX.lamEnv X scope s.heap.objs.size f c')).units + 64 < cLine
    omega
  · obtain ⟨fa, fd, ps, mf, h1, h2, h3, h4, h5, h6⟩ := hf j p h
    exact ⟨k, fa, fd, ps, mf, h1, h2, hr, h3, h4, h5, h6⟩
  · refine L2N.passes_call (L2N.takes_of rfl rfl rfl rfl) fun cls d σ H' h => ?_
    obtain ⟨c, rfl, rfl, h⟩ := h
    exact h
theorem own_map (N : List Str) (vs : List Nat) : (ownOf N vs).map (·.2) = vs := by
  unfold ownOf
  rw [List.map_map]
  exact List.map_id vs
/-- builtin names to their rules -/
theorem de_blt {ml : Env → Dice → Res (List D)} {es : List Expr} (C : Cc X G cl W S) {b : Blt} {x : Str} (hb : bltN b = x) (hi : isiN b = none) (hg : glC S x = true) (ha : PA X (e :: es) (tL EB1 W ml)) (hs : (e :: es).all notStar = true) :
    PE X (.Call (.Name x p) (e :: es) [] pos) (tF W fun ρ s => (ml ρ s).bind fun xs s1 => Res.opt (bltD b xs) s1) := by
  obtain ⟨g1, g2⟩ := gl C hg
  simp only [List.all_cons, Bool.and_eq_true] at hs
  subst hb
  cases b with
  | len => exact de_callB cb_len g1 (C.bl _ (by decide)) boot_len ha (by decide) g2 (star1 hs.1) (back1 hs.2)
  | int => exact de_callTy cb_int g1 (C.bl _ (by decide)) PyProof.Rows.boot_int ha (by decide) g2 (star1 hs.1) (back1 hs.2)
  | str => exact de_callTy cb_str g1 (C.bl _ (by decide)) PyProof.Rows.boot_str ha (by decide) g2 (star1 hs.1) (back1 hs.2)
  | tuple => exact de_callTy cb_tuple g1 (C.bl _ (by decide)) PyProof.Rows.boot_tuple ha (by decide) g2 (star1 hs.1) (back1 hs.2)
  | list => exact de_callTy cb_list g1 (C.bl _ (by decide)) PyProof.Rows.boot_list ha (by decide) g2 (star1 hs.1) (back1 hs.2)
  | sorted => exact de_callB (cb_sorted C.un) g1 (C.bl _ (by decide)) (by decide +kernel) ha (by decide) g2 (star1 hs.1) (back1 hs.2)
  | sum => exact de_callB (cb_sum C.calm) g1 (C.bl _ (by decide)) (by decide +kernel) ha (by decide) g2 (star1 hs.1) (back1 hs.2)
  | min => exact de_callB (cb_min C.calm) g1 (C.bl _ (by decide)) (by decide +kernel) ha (by decide) g2 (star1 hs.1) (back1 hs.2)
  | max => exact de_callB (cb_max C.calm) g1 (C.bl _ (by decide)) (by decide +kernel) ha (by decide) g2 (star1 hs.1) (back1 hs.2)
  | all => exact de_callB (cb_all C.calm) g1 (C.bl _ (by decide)) (by decide +kernel) ha (by decide) g2 (star1 hs.1) (back1 hs.2)
  | any => exact de_callB (cb_any C.calm) g1 (C.bl _ (by decide)) (by decide +kernel) ha (by decide) g2 (star1 hs.1) (back1 hs.2)
  | abs => exact de_callB cb_abs g1 (C.bl _ (by decide)) (by decide +kernel) ha (by decide) g2 (star1 hs.1) (back1 hs.2)
  | isInt => cases hi
  | isBool => cases hi
  | isStr => cases hi
  | isTuple => cases hi
theorem de_isib (C : Cc X G cl W S) {b : Blt} {x T : Str} (hb : bltN b = x) (hi : isiN b = some T) (hg : glC S x = true) (hg2 : glC S T = true) (ha : PE X a (tB W ma)) (hs : notStar a = true) :
    PE X (.Call (.Name x p) [a, .Name T p2] [] pos) (tM W fun ρ s => (ma ρ s).bind fun d s1 => Res.opt (bltD b [d]) s1) := by
  obtain ⟨g1, _⟩ := gl C hg
  obtain ⟨g2, _⟩ := gl C hg2
  subst hb
  cases b with
  | isInt => cases hi; exact de_isi (f := isIntD) ha g1 (C.bl _ (by decide)) g2 (C.bl _ (by decide)) PyProof.Rows.boot_int (by decide) (by decide) (star1 hs) isInt_k
  | isBool => cases hi; exact de_isi (f := isBoolD) ha g1 (C.bl _ (by decide)) g2 (C.bl _ (by decide)) PyProof.Rows.boot_bool (by decide) (by decide) (star1 hs) isBool_k
  | isStr => cases hi; exact de_isi (f := isStrD) ha g1 (C.bl _ (by decide)) g2 (C.bl _ (by decide)) PyProof.Rows.boot_str (by decide) (by decide) (star1 hs) isStr_k
  | isTuple => cases hi; exact de_isi (f := isTupleD) ha g1 (C.bl _ (by decide)) g2 (C.bl _ (by decide)) PyProof.Rows.boot_tuple (by decide) (by decide) (star1 hs) isTuple_k
  | _ => cases hi
end
end Co

/-! Core 13: the look tells the truth: expressions, the whole. -/
namespace Co
open PySem PySem.Spec PyProof.Rows L2
variable [TabT]
section
variable {G : Gam} {cl : Str → Addr}
theorem asIs_eq {ops : List CmpOp} {ys : List Expr} (h : asIs ops ys = true) : ∃ j p, ops = [.Is] ∧ ys = [.Constant .none j p] := by
  unfold asIs at h
  split at h
  · exact ⟨_, _, rfl, rfl⟩
  · cases h
theorem asIsN_eq {ops : List CmpOp} {ys : List Expr} (h : asIsN ops ys = true) : ∃ j p, ops = [.IsNot] ∧ ys = [.Constant .none j p] := by
  unfold asIsN at h
  split at h
  · exact ⟨_, _, rfl, rfl⟩
  · cases h
theorem isiOk_eq {S : Sc} {T : Str} {es : List Expr} (h : isiOk S T es = true) : ∃ p, es = [.Name T p] ∧ glC S T = true := by
  unfold isiOk at h
  split at h
  · obtain ⟨h1, h2⟩ := an h
    have h1 := of_decide_eq_true h1
    subst h1
    exact ⟨_, rfl, h2⟩
  · cases h
theorem isZ_eq {a : CE} (h : isZ a = true) : a = .cst (.int 0) := by
  unfold isZ at h
  split at h
  · rfl
  · cases h
theorem asRange_1 {S : Sc} {r e : Expr} (h : asRange S r = some (e, none)) : ∃ p p2, r = .Call (.Name "range" p) [e] [] p2 ∧ glC S "range" = true ∧ notStar e = true := by
  unfold asRange at h
  split at h
  · split at h
    · rename_i q
      cases h
      obtain ⟨q, h3⟩ := an q
      obtain ⟨h1, h2⟩ := an q
      have h1 := of_decide_eq_true h1
      subst h1
      exact ⟨_, _, rfl, h2, h3⟩
    · cases h
  · split at h
    · cases h
    · cases h
  · cases h
theorem asRange_2 {S : Sc} {r e e' : Expr} (h : asRange S r = some (e, some e')) : ∃ p p2, r = .Call (.Name "range" p) [e, e'] [] p2 ∧ glC S "range" = true ∧ notStar e = true ∧ notStar e' = true := by
  unfold asRange at h
  split at h
  · split at h
    · cases h
    · cases h
  · split at h
    · rename_i q
      cases h
      obtain ⟨q, h4⟩ := an q
      obtain ⟨q, h3⟩ := an q
      obtain ⟨h1, h2⟩ := an q
      have h1 := of_decide_eq_true h1
      subst h1
      exact ⟨_, _, rfl, h2, h3, h4⟩
    · cases h
  · cases h
theorem asEnum_eq {S : Sc} {r e : Expr} (h : asEnum S r = some e) : ∃ p p2, r = .Call (.Name "enumerate" p) [e] [] p2 ∧ glC S "enumerate" = true ∧ notStar e = true := by
  unfold asEnum at h
  split at h
  · split at h
    · rename_i q
      cases h
      obtain ⟨q, h3⟩ := an q
      obtain ⟨h1, h2⟩ := an q
      have h1 := of_decide_eq_true h1
      subst h1
      exact ⟨_, _, rfl, h2, h3⟩
    · cases h
  · cases h
theorem isDix_eq {k : Bool} {e : Expr} (h : isDix k e = true) : ∃ j p, e = .Constant (.int (dix k)) j p := by
  unfold isDix at h
  split at h
  · have h := of_decide_eq_true h
    subst h
    exact ⟨_, _, rfl⟩
  · cases h
theorem asGen_eq {gs : List Comprehension} {tg iter : Expr} {ifs : List Expr} (h : asGen gs = some (tg, iter, ifs)) : gs = [⟨tg, iter, ifs, 0⟩] := by
  unfold asGen at h
  split at h
  · split at h
    · rename_i q
      cases h
      subst q
      rfl
    · cases h
  · cases h
theorem ct0 {f : CE → Bool} {a b : CE} (h : (match a with
      | .cst (.int 0) => f b
      | _ => false) = true) : a = .cst (.int 0) ∧ f b = true := by
  split at h
  · exact ⟨rfl, h⟩
  · cases h
mutual
theorem sE : ∀ (c : CE) {X : Cx} {W : WS} {S : Sc} (m : Md) (e : Expr), Cc X G cl W S → okE S m c e = true → Snd X W G c e m
  | .stop, X, W, S, m, e, C, h => stop_snd m
  | .cst d, X, W, S, m, e, C, h => by
    cases e with
    | Constant k j pos => exact Snd.ofM (cst_ok h) rfl rfl m
    | Name x pos =>
      cases d with
      | int i =>
        obtain ⟨h1, h2⟩ := an (show (glC S x && S.cs.contains (x, i)) = true by cases m <;> exact h)
        obtain ⟨g1, g2⟩ := gl C h1
        obtain ⟨t, ht⟩ := C.cs (x, i) (by simpa using h2)
        exact Snd.ofM (de_con (pe_glob (v := .int i) g1 ht ⟨t, rfl⟩ g2) fun F => .int i) rfl rfl m
      | _ => cases m <;> exact ff h
    | _ => cases m <;> exact ff h
  | .var i, X, W, S, m, e, C, h => by
    cases e with
    | Name x pos => exact Snd.ofM (de_var (nm C (show okN S i x = true by cases m <;> exact h))) rfl rfl m
    | _ => cases m <;> exact ff h
  | .bor i, X, W, S, m, e, C, h => by
    cases e with
    | Name x pos =>
      cases m with
      | bor => exact de_bor (nm C (an (show (decide (Md.bor = .bor) && okN S i x) = true from h)).2)
      | val => exact ff (an (show (decide (Md.val = .bor) && okN S i x) = true from h)).1
      | tst => exact ff (an (show (decide (Md.tst = .bor) && okN S i x) = true from h)).1
    | _ => cases m <;> exact ff h
  | .dce i, X, W, S, m, e, C, h => by
    cases m <;> cases e <;> exact ff h
  | .drd i k, X, W, S, m, e, C, h => by
    cases e with
    | Subscript o j pos =>
      obtain ⟨h1, h2⟩ := an (show (okDce S i o && isDix k j) = true by cases m <;> exact h)
      cases o with
      | Name x p =>
        obtain ⟨jj, p3, rfl⟩ := isDix_eq h2
        exact Snd.ofM (de_drd (nm C h1)) rfl rfl m
      | _ => exact ff h1
    | _ => cases m <;> exact ff h
  | .bin o a b, X, W, S, m, e, C, h => by
    cases e with
    | BinOp l op r pos =>
      obtain ⟨h1, h3⟩ := an (show (opC o op && okE S .bor a l && okE S .bor b r) = true by cases m <;> exact h)
      obtain ⟨h1, h2⟩ := an h1
      exact Snd.ofF (de_bin (opD h1) (sE a .bor l C h2) (sE b .bor r C h3)) rfl m
    | _ => cases m <;> exact ff h
  | .neg a, X, W, S, m, e, C, h => by
    cases e with
    | UnaryOp op x pos =>
      cases op with
      | USub => exact Snd.ofM (de_neg (sE a .bor x C (show okE S .bor a x = true by cases m <;> exact h))) rfl rfl m
      | _ => cases m <;> exact ff h
    | _ => cases m <;> exact ff h
  | .not a, X, W, S, m, e, C, h => by
    cases e with
    | UnaryOp op x pos =>
      cases op with
      | Not =>
        cases m with
        | tst => exact ⟨dt_not (sE a .tst x C h).1, fun _ _ _ z => by cases z⟩
        | val => exact ⟨de_not (sE a .val x C h).1, fun z => by cases z⟩
        | bor => exact toB (de_not (sE a .val x C h).1)
      | _ => cases m <;> exact ff h
    | _ => cases m <;> exact ff h
  | .and a b, X, W, S, m, e, C, h => by
    cases e with
    | BoolOp op es pos =>
      cases op with
      | Or => cases m <;> exact ff h
      | And =>
        match es, h with
        | [], h => cases m <;> exact ff h
        | [_], h => cases m <;> exact ff h
        | [x, y], h =>
          obtain ⟨h1, h2⟩ := an (show (okE S m.sub a x && okE S m.sub b y) = true by cases m <;> exact h)
          cases m with
          | tst =>
            have q : PW X (.BoolOp .And [x, y] pos) (tT W (ev G (.and a b))) := dw_and (sE a .tst x C h1).1 (dw_one (sE b .tst y C h2).1)
            exact ⟨q.pt, fun op es pos e1 => by cases e1; exact q⟩
          | val => exact ⟨de_and (sE a .val x C h1).1 (pe_one (sE b .val y C h2).1), fun z => by cases z⟩
          | bor => exact toB (de_and (sE a .val x C h1).1 (pe_one (sE b .val y C h2).1))
        | x :: y :: z :: r, h =>
          obtain ⟨h1, h2⟩ := an (show (okE S m.sub a x && okE S m.sub b (.BoolOp .And (y :: z :: r) pos)) = true by cases m <;> exact h)
          cases m with
          | tst =>
            have q : PW X (.BoolOp .And (x :: y :: z :: r) pos) (tT W (ev G (.and a b))) := dw_and (sE a .tst x C h1).1 ((sE b .tst _ C h2).2 _ _ _ rfl)
            exact ⟨q.pt, fun op es pos e1 => by cases e1; exact q⟩
          | val => exact ⟨de_and (sE a .val x C h1).1 (sE b .val _ C h2).1, fun z => by cases z⟩
          | bor => exact toB (de_and (sE a .val x C h1).1 (sE b .val _ C h2).1)
    | _ => cases m <;> exact ff h
  | .or a b, X, W, S, m, e, C, h => by
    cases e with
    | BoolOp op es pos =>
      cases op with
      | And => cases m <;> exact ff h
      | Or =>
        match es, h with
        | [], h => cases m <;> exact ff h
        | [_], h => cases m <;> exact ff h
        | [x, y], h =>
          obtain ⟨h1, h2⟩ := an (show (okE S m.sub a x && okE S m.sub b y) = true by cases m <;> exact h)
          cases m with
          | tst =>
            have q : PW X (.BoolOp .Or [x, y] pos) (tT W (ev G (.or a b))) := dw_or (sE a .tst x C h1).1 (dw_one (sE b .tst y C h2).1)
            exact ⟨q.pt, fun op es pos e1 => by cases e1; exact q⟩
          | val => exact ⟨de_or (sE a .val x C h1).1 (pe_one (sE b .val y C h2).1), fun z => by cases z⟩
          | bor => exact toB (de_or (sE a .val x C h1).1 (pe_one (sE b .val y C h2).1))
        | x :: y :: z :: r, h =>
          obtain ⟨h1, h2⟩ := an (show (okE S m.sub a x && okE S m.sub b (.BoolOp .Or (y :: z :: r) pos)) = true by cases m <;> exact h)
          cases m with
          | tst =>
            have q : PW X (.BoolOp .Or (x :: y :: z :: r) pos) (tT W (ev G (.or a b))) := dw_or (sE a .tst x C h1).1 ((sE b .tst _ C h2).2 _ _ _ rfl)
            exact ⟨q.pt, fun op es pos e1 => by cases e1; exact q⟩
          | val => exact ⟨de_or (sE a .val x C h1).1 (sE b .val _ C h2).1, fun z => by cases z⟩
          | bor => exact toB (de_or (sE a .val x C h1).1 (sE b .val _ C h2).1)
    | _ => cases m <;> exact ff h
  | .cmp o a b, X, W, S, m, e, C, h => by
    cases e with
    | Compare x ops ys pos =>
      match ops, ys, h with
      | [op], [y], h =>
        obtain ⟨h1, h4⟩ := an (show (cmC o op && okE S .bor a x && okE S .bor b y && notSet y) = true by cases m <;> exact h)
        obtain ⟨h1, h3⟩ := an h1
        obtain ⟨h1, h2⟩ := an h1
        have F : PE X (.Compare x [op] [y] pos) (tF W (ev G (.cmp o a b))) := de_cmp (cmD C.un h1) (sE a .bor x C h2) (sE b .bor y C h3) (bim h4)
        cases m with
        | val => exact ⟨toM F, fun _ => F⟩
        | bor => exact toB (toM F)
        | tst => exact ⟨dt_cmp (cmD C.un h1) (sE a .bor x C h2) (sE b .bor y C h3) (bim h4), fun _ _ _ z => by cases z⟩
      | [], _, h => cases m <;> exact ff h
      | [_], [], h => cases m <;> exact ff h
      | [_], _ :: _ :: _, h => cases m <;> exact ff h
      | _ :: _ :: _, _, h => cases m <;> exact ff h
    | _ => cases m <;> exact ff h
  | .isN a, X, W, S, m, e, C, h => by
    cases e with
    | Compare x ops ys pos =>
      obtain ⟨h1, h2⟩ := an (show (asIs ops ys && okE S .bor a x) = true by cases m <;> exact h)
      obtain ⟨j, p, rfl, rfl⟩ := asIs_eq h1
      exact Snd.ofT (de_isN (sE a .bor x C h2)) rfl (dt_isN (sE a .bor x C h2)) (fun _ _ _ z => by cases z) m
    | _ => cases m <;> exact ff h
  | .notN a, X, W, S, m, e, C, h => by
    cases e with
    | Compare x ops ys pos =>
      obtain ⟨h1, h2⟩ := an (show (asIsN ops ys && okE S .bor a x) = true by cases m <;> exact h)
      obtain ⟨j, p, rfl, rfl⟩ := asIsN_eq h1
      exact Snd.ofT (de_notN (sE a .bor x C h2)) rfl (dt_notN (sE a .bor x C h2)) (fun _ _ _ z => by cases z) m
    | _ => cases m <;> exact ff h
  | .chain o p a b c, X, W, S, m, e, C, h => by
    cases e with
    | Compare x ops ys pos =>
      match ops, ys, h with
      | [op, op'], [y, z], h =>
        obtain ⟨h1, h6⟩ := an (show (cmC o op && cmC p op' && okE S .bor a x && okE S .bor b y && okE S .bor c z && notSet z) = true by cases m <;> exact h)
        obtain ⟨h1, h5⟩ := an h1
        obtain ⟨h1, h4⟩ := an h1
        obtain ⟨h1, h3⟩ := an h1
        obtain ⟨h1, h2⟩ := an h1
        have M : PE X (.Compare x [op, op'] [y, z] pos) (tM W (ev G (.chain o p a b c))) := de_chain (cmD C.un h1) (cmD C.un h2) (sE a .bor x C h3) (sE b .bor y C h4) (sE c .bor z C h5) (bim h6)
        exact Snd.ofT M rfl (dt_chain (cmD C.un h1) (cmD C.un h2) (sE a .bor x C h3) (sE b .bor y C h4) (sE c .bor z C h5) (bim h6)) (fun _ _ _ z => by cases z) m
      | [], _, h => cases m <;> exact ff h
      | [_], [], h => cases m <;> exact ff h
      | [_], _ :: _, h => cases m <;> exact ff h
      | [_, _], [], h => cases m <;> exact ff h
      | [_, _], [_], h => cases m <;> exact ff h
      | [_, _], _ :: _ :: _ :: _, h => cases m <;> exact ff h
      | _ :: _ :: _ :: _, _, h => cases m <;> exact ff h
    | _ => cases m <;> exact ff h
  | .ife c a b, X, W, S, m, e, C, h => by
    cases e with
    | IfExp t x y pos =>
      obtain ⟨h1, h4⟩ := an (show (decide (m ≠ .tst) && okE S .tst c t && okE S .val a x && okE S .val b y) = true by cases m <;> exact h)
      obtain ⟨h1, h3⟩ := an h1
      obtain ⟨h1, h2⟩ := an h1
      have M : PE X (.IfExp t x y pos) (tM W (ev G (.ife c a b))) := de_ife (sE c .tst t C h2).1 (sE a .val x C h3).1 (sE b .val y C h4).1
      cases m with
      | val => exact ⟨M, fun z => by cases z⟩
      | bor => exact toB M
      | tst => exact ff h1
    | _ => cases m <;> exact ff h
  | .tup l, X, W, S, m, e, C, h => by
    cases e with
    | Tuple es k pos => exact Snd.ofM (de_tup (sM l es C (show okM S l es = true by cases m <;> exact h))) rfl rfl m
    | _ => cases m <;> exact ff h
  | .lst l, X, W, S, m, e, C, h => by
    cases e with
    | List es pos => exact Snd.ofF (de_lst (sM l es C (show okM S l es = true by cases m <;> exact h))) rfl m
    | _ => cases m <;> exact ff h
  | .sub a b, X, W, S, m, e, C, h => by
    cases e with
    | Subscript x y pos =>
      obtain ⟨h1, h3⟩ := an (show (okE S .bor a x && okE S .bor b y && notSlice y) = true by cases m <;> exact h)
      obtain ⟨h1, h2⟩ := an h1
      exact Snd.ofM (de_sub (sE a .bor x C h1) (sE b .bor y C h2) (plainIx h3)) rfl rfl m
    | _ => cases m <;> exact ff h
  | .slc a lo hi, X, W, S, m, e, C, h => by
    cases e with
    | Subscript x y pos =>
      cases y with
      | Slice l hh st p2 =>
        cases st with
        | some _ => cases m <;> exact ff h
        | none =>
          obtain ⟨h1, h3⟩ := an (show (okE S .bor a x && okO S lo l && okO S hi hh) = true by cases m <;> exact h)
          obtain ⟨h1, h2⟩ := an h1
          exact Snd.ofF (de_slc (sE a .bor x C h1) (sO lo l C h2) (sO hi hh C h3)) rfl m
      | _ => cases m <;> exact ff h
    | _ => cases m <;> exact ff h
  | .call f .nil, X, W, S, m, e, C, h => by cases m <;> cases e <;> exact ff h
  | .call f (.cons a l), X, W, S, m, e, C, h => by
    cases e with
    | Call fn es kw pos =>
      cases fn with
      | Name x p =>
        match es, kw, h with
        | e :: es, [], h =>
          obtain ⟨h1, h4⟩ := an (show ((match S.fs[f]? with
            | some (y, n) => decide (y = x) && decide (n = lenL (.cons a l))
            | none => false) && glC S x && notStar e && okA S (.cons a l) (e :: es)) = true by cases m <;> exact h)
          obtain ⟨h1, h3⟩ := an h1
          obtain ⟨h1, h2⟩ := an h1
          obtain ⟨g1, g2⟩ := gl C h2
          cases hf : S.fs[f]? with
          | none => rw [hf] at h1; exact ff h1
          | some q =>
            obtain ⟨y, n⟩ := q
            rw [hf] at h1
            obtain ⟨e1, e2⟩ := an h1
            have e1 := of_decide_eq_true e1
            have e2 := of_decide_eq_true e2
            subst e1
            obtain ⟨k, fa, fd, ps, mf, hG, F, hr, hm, hk, hb, hl⟩ := C.fs f _ hf
            have ee : ev G (.call f (.cons a l)) = fun ρ s => (evA G (.cons a l) ρ s).bind fun xs s1 => mf xs s1 := by
              funext ρ s
              simp only [ev, hG]
            refine Snd.ofM ?_ rfl rfl m
            rw [ee]
            exact de_call F hr g1 hm hk hb C.pa (sA (.cons a l) (e :: es) C h4) (fun ρ s as s1 hh => by rw [evA_len hh, hl]; exact e2.symm) g2 (star1 h3) (back1 (by have := okA_star h4; rw [List.all_cons] at this; exact (an this).2))
        | [], _, h => cases m <;> exact ff h
        | _ :: _, _ :: _, h => cases m <;> exact ff h
      | _ => cases m <;> exact ff h
    | _ => cases m <;> exact ff h
  | .blt b .nil, X, W, S, m, e, C, h => by cases m <;> cases e <;> exact ff h
  | .blt b (.cons a l), X, W, S, m, e, C, h => by
    cases e with
    | Call fn es kw pos =>
      cases fn with
      | Name x p =>
        match es, kw, h with
        | e :: es, [], h =>
          obtain ⟨h1, h4⟩ := an (show (decide (bltN b = x) && glC S x && notStar e && (match isiN b with
      | some T => isiOk S T es && nilL l && okE S .bor a e
      | none => okB S (.cons a l) (e :: es))) = true by cases m <;> exact h)
          obtain ⟨h1, h3⟩ := an h1
          obtain ⟨h1, h2⟩ := an h1
          have h1 := of_decide_eq_true h1
          cases hi : isiN b with
          | none =>
            rw [hi] at h4
            exact Snd.ofF (de_blt C h1 hi h2 (sB (.cons a l) (e :: es) C h4) (okB_star h4)) rfl m
          | some T =>
            rw [hi] at h4
            obtain ⟨k1, k3⟩ := an h4
            obtain ⟨k1, k2⟩ := an k1
            obtain ⟨p2, rfl, k4⟩ := isiOk_eq k1
            have M : PE X (.Call (.Name x p) [e, .Name T p2] [] pos) (tM W (ev G (.blt b (.cons a l)))) := by
              have := de_isib (pos := pos) (p := p) (p2 := p2) C h1 hi h2 k4 (sE a .bor e C k3) h3
              have ee : ev G (.blt b (.cons a l)) = fun ρ s => (ev G a ρ s).bind fun d s1 => Res.opt (bltD b [d]) s1 := by
                cases l with
                | cons _ _ => exact ff k2
                | nil =>
                  funext ρ s
                  simp only [ev, evL]
                  cases ev G a ρ s <;> rfl
              rw [ee]
              exact this
            exact Snd.ofM M (by simp only [frC, hi]; rfl) rfl m
        | [], _, h => cases m <;> exact ff h
        | _ :: _, _ :: _, h => cases m <;> exact ff h
      | _ => cases m <;> exact ff h
    | _ => cases m <;> exact ff h
  | .lrng a b, X, W, S, m, e, C, h => by
    cases e with
    | Call fn es kw pos =>
      cases fn with
      | Name x p =>
        match es, kw, h with
        | [r], [], h =>
          obtain ⟨h1, h3⟩ := an (show (decide (x = "list") && glC S x && (match asRange S r with
      | some (e, none) => isZ a && okE S .bor b e
      | some (e, some e') => okE S .bor a e && okE S .bor b e'
      | none => false)) = true by cases m <;> exact h)
          obtain ⟨h1, h2⟩ := an h1
          have h1 := of_decide_eq_true h1
          subst h1
          cases hr : asRange S r with
          | none => rw [hr] at h3; exact ff h3
          | some q =>
            obtain ⟨e, o⟩ := q
            rw [hr] at h3
            cases o with
            | none =>
              obtain ⟨p2, pos2, rfl, g2, n2⟩ := asRange_1 hr
              obtain ⟨k1, k2⟩ := an h3
              have k1 := isZ_eq k1
              subst k1
              exact Snd.ofF (de_lrng1 C (gl C h2).1 (gl C g2).1 (sE b .bor e C k2) n2) rfl m
            | some e' =>
              obtain ⟨p2, pos2, rfl, g2, n1, n2⟩ := asRange_2 hr
              obtain ⟨k1, k2⟩ := an h3
              exact Snd.ofF (de_lrng2 C (gl C h2).1 (gl C g2).1 (sE a .bor e C k1) (sE b .bor e' C k2) n1 n2) rfl m
        | [], _, h => cases m <;> exact ff h
        | [_], _ :: _, h => cases m <;> exact ff h
        | _ :: _ :: _, _, h => cases m <;> exact ff h
      | _ => cases m <;> exact ff h
    | _ => cases m <;> exact ff h
  | .comp elt vs p it c, X, W, S, m, e, C, h => by
    cases e with
    | ListComp x gens scope pos =>
      have h' : (match asGen gens with
      | some (tg, iter, ifs) => blkC S.N S.sc scope (ownOf S.N vs) && (inP p).all (fun j => vs.contains j) && okP (relC scope S) p tg && okI S false it tg iter && notSet iter && okT (relC scope S) c ifs && okE (relC scope S) .val elt x
      | none => false) = true := by cases m <;> exact h
      cases hg : asGen gens with
      | none => rw [hg] at h'; exact ff h'
      | some q =>
        obtain ⟨tg, iter, ifs⟩ := q
        rw [hg] at h'
        have hg := asGen_eq hg
        subst hg
        obtain ⟨h1, h8⟩ := an h'
        obtain ⟨h1, h7⟩ := an h1
        obtain ⟨h1, h6⟩ := an h1
        obtain ⟨h1, h5⟩ := an h1
        obtain ⟨h1, h4⟩ := an h1
        obtain ⟨h2, h3⟩ := an h1
        have F : PE X (.ListComp x [⟨tg, iter, ifs, 0⟩] scope pos) (tF W (ev G (.comp elt vs p it c))) :=
          de_lc (own := ownOf S.N vs) C.calm (by rw [C.N]; exact C.nd) (sI false it tg iter C h5) (by rw [C.N, C.sc]; exact blkOk_by h2) (own_map S.N vs) (fun j hj => by simpa using List.all_eq_true.mp h3 j hj)
            (fun s H Ca cll fp => pgP (C.blk s H scope Ca cll fp) p tg h4) (fun s H Ca cll fp => sT c ifs (C.blk s H scope Ca cll fp) h7) (fun s H Ca cll fp => (sE elt .val x (C.blk s H scope Ca cll fp) h8).1) (fset h6)
        exact Snd.ofF F rfl m
    | _ => cases m <;> exact ff h
  | .told c, X, W, S, m, e, C, h => by
    cases e with
    | Call fn es kw pos =>
      cases fn with
      | Name x p =>
        match es, kw, h with
        | [e1], [], h =>
          cases e1 with
          | Lambda params body scope lpos =>
            obtain ⟨h1, h7⟩ := an (show (S.tl && decide (x = "_law_told") && glC S x && LamX.lamSB S.sc scope && noPar params && okE (lamC scope S) .val c body) = true by cases m <;> exact h)
            obtain ⟨h1, h6⟩ := an h1
            obtain ⟨h1, h5⟩ := an h1
            obtain ⟨h1, h4⟩ := an h1
            obtain ⟨h2, h3⟩ := an h1
            have h3 := of_decide_eq_true h3
            subst h3
            obtain ⟨k, hr, hf, tl⟩ := (C.td h2).fs
            obtain ⟨CS, hx, pe⟩ := tl (t := fun E => tM (fun c H' => E (.ref (cl c)) none H') (ev G c)) (p := p) (lpos := lpos) (pos := pos) rfl (gl C h4).1 (LamX.lamS_by (by rw [C.sc]; exact h5)) h6 (fun A outer s H E f c' hr' => (sE c .val body (C.lam hf A outer s H E scope f c' hr') h7).1)
            exact Snd.ofM (PEimp pe fun σ H Q ⟨B, F, ρ, s, R, q⟩ => told_end hx R q) rfl rfl m
          | _ => cases m <;> exact ff h
        | [], _, h => cases m <;> exact ff h
        | [e2], _ :: _, h => cases e2 <;> cases m <;> exact ff h
        | e2 :: _ :: _, ks, h => cases e2 <;> cases ks <;> cases m <;> exact ff h
      | _ => cases m <;> exact ff h
    | _ => cases m <;> exact ff h
theorem sM : ∀ (l : CL) {X : Cx} {W : WS} {S : Sc} (es : List Expr), Cc X G cl W S → okM S l es = true → PA X es (tL EP1 W (evL G l))
  | .nil, X, W, S, [], C, h => da_nil
  | .nil, X, W, S, _ :: _, C, h => ff h
  | .cons _ _, X, W, S, [], C, h => ff h
  | .cons c l, X, W, S, e :: es, C, h => by
    obtain ⟨h1, h2⟩ := an (show (okE S .val c e && notStar e && okM S l es) = true from h)
    exact da_cons st_P (mG (sE c .val e C (an h1).1).1) (sM l es C h2) (star1 (an h1).2)
theorem sB : ∀ (l : CL) {X : Cx} {W : WS} {S : Sc} (es : List Expr), Cc X G cl W S → okB S l es = true → PA X es (tL EB1 W (evL G l))
  | .nil, X, W, S, [], C, h => da_nil
  | .nil, X, W, S, _ :: _, C, h => ff h
  | .cons _ _, X, W, S, [], C, h => ff h
  | .cons c l, X, W, S, e :: es, C, h => by
    obtain ⟨h1, h2⟩ := an (show (okE S .bor c e && notStar e && okB S l es) = true from h)
    exact da_cons st_B (bG (sE c .bor e C (an h1).1)) (sB l es C h2) (star1 (an h1).2)
theorem sA : ∀ (l : CL) {X : Cx} {W : WS} {S : Sc} (es : List Expr), Cc X G cl W S → okA S l es = true → PA X es (tL EA1 W (evA G l))
  | .nil, X, W, S, [], C, h => da_nil
  | .nil, X, W, S, _ :: _, C, h => ff h
  | .cons _ _, X, W, S, [], C, h => ff h
  | .cons c l, X, W, S, e :: es, C, h => by
    have gen : okE S .val c e = true → notStar e = true → okA S l es = true → PA X (e :: es) (tL EA1 W fun ρ s => (ev G c ρ s).bind fun x s1 => (evA G l ρ s1).bind fun xs s2 => Res.ok (.val x :: xs) s2) := fun k1 k2 k3 => by
      have := da_cons st_A (aG (sE c .val e C k1).1) (sA l es C k3) (star1 k2)
      have ee : (fun ρ s => ((ev G c ρ s).bind fun d s1 => Res.ok (SV.val d) s1).bind fun x s1 => (evA G l ρ s1).bind fun xs s2 => Res.ok (x :: xs) s2) = (fun ρ s => (ev G c ρ s).bind fun x s1 => (evA G l ρ s1).bind fun xs s2 => Res.ok (.val x :: xs) s2) := by
        funext ρ s
        cases ev G c ρ s <;> rfl
      rw [ee] at this
      exact this
    cases c with
    | dce i =>
      obtain ⟨h1, h2⟩ := an (show (okDce S i e && notStar e && okA S l es) = true from h)
      obtain ⟨h1, h3⟩ := an h1
      cases e with
      | Name x pos =>
        have := da_cons st_A (dG (W := W) (pos := pos) (nm C h1)) (sA l es C h2) (star1 h3)
        have ee : (fun ρ s => (if isDice ρ i = true then Res.ok SV.dice s else .bad).bind fun x s1 => (evA G l ρ s1).bind fun xs s2 => Res.ok (x :: xs) s2) = evA G (.cons (.dce i) l) := by
          funext ρ s
          show _ = if isDice ρ i = true then (evA G l ρ s).bind fun xs s2 => Res.ok (SV.dice :: xs) s2 else .bad
          by_cases hd : isDice ρ i = true
          · rw [if_pos hd, if_pos hd]; rfl
          · rw [if_neg hd, if_neg hd]; rfl
        rw [ee] at this
        exact this
      | _ => exact ff h1
    | _ =>
      obtain ⟨h1, h2⟩ := an h
      exact gen (an h1).1 (an h1).2 h2
theorem sT : ∀ (c : CO) {X : Cx} {W : WS} {S : Sc} (es : List Expr), Cc X G cl W S → okT S c es = true → PTs X es (tT W (evT G c))
  | .non, X, W, S, [], C, h => dts_nil
  | .non, X, W, S, _ :: _, C, h => ff h
  | .som _, X, W, S, [], C, h => ff h
  | .som _, X, W, S, _ :: _ :: _, C, h => ff h
  | .som c, X, W, S, [e], C, h => pts_one (sE c .tst e C h).1
theorem sI (fz : Bool) : ∀ (it : CI) {X : Cx} {W : WS} {S : Sc} (tg iter : Expr), Cc X G cl W S → okI S fz it tg iter = true → PI X tg iter (tI fz W (evI G it))
  | .rng a b, X, W, S, tg, r, C, h => by
    have h3 : (match asRange S r with
      | some (e, none) => isZ a && okE S .bor b e
      | some (e, some e') => okE S .bor a e && okE S .bor b e'
      | none => false) = true := h
    cases hr : asRange S r with
    | none => rw [hr] at h3; exact ff h3
    | some q =>
      obtain ⟨e, o⟩ := q
      rw [hr] at h3
      cases o with
      | none =>
        obtain ⟨p2, pos2, rfl, g2, n2⟩ := asRange_1 hr
        obtain ⟨k1, k2⟩ := an h3
        have k1 := isZ_eq k1
        subst k1
        exact di_rng1 (gl C g2).1 (C.bl _ (by decide)) (sE b .bor e C k2) (star1 n2)
      | some e' =>
        obtain ⟨p2, pos2, rfl, g2, n1, n2⟩ := asRange_2 hr
        obtain ⟨k1, k2⟩ := an h3
        exact di_rng2 (gl C g2).1 (C.bl _ (by decide)) (sE a .bor e C k1) (sE b .bor e' C k2) (by rw [star1 n1, star1 n2]; rfl) (star1 n2)
  | .seq a, X, W, S, tg, iter, C, h => by
    cases fz with
    | true => exact di_seq (mG (sE a .val iter C h).1)
    | false => exact di_seq (bG (sE a .bor iter C h))
  | .enm a, X, W, S, tg, r, C, h => by
    obtain ⟨h1, h3⟩ := an (show (isTup tg && (match asEnum S r with
      | some e => okE S (mdF fz) a e
      | none => false)) = true from h)
    cases tg with
    | Tuple elts kk tpos =>
      cases hr : asEnum S r with
      | none => rw [hr] at h3; exact ff h3
      | some e =>
        rw [hr] at h3
        obtain ⟨p2, pos2, rfl, g2, n2⟩ := asEnum_eq hr
        cases fz with
        | true => exact di_enm (gl C g2).1 (C.bl _ (by decide)) (mG (sE a .val e C h3).1) (star1 n2)
        | false => exact di_enm (gl C g2).1 (C.bl _ (by decide)) (bG (sE a .bor e C h3)) (star1 n2)
    | _ => exact ff h1
theorem sO : ∀ (o : CO) {X : Cx} {W : WS} {S : Sc} (e : Option Expr), Cc X G cl W S → okO S o e = true → PO X e (tOI W (evO G o))
  | .non, X, W, S, none, C, h => do_none
  | .non, X, W, S, some _, C, h => ff h
  | .som _, X, W, S, none, C, h => ff h
  | .som c, X, W, S, some e, C, h => do_some (sE c .bor e C h)
end
end
end Co

/-! Core 14: statements looked at. -/
namespace Co
open PySem PySem.Spec PyProof.Rows L2
variable [TabT]

/-- the names stored in turned order, as the text has it; none: not known here -/
def swP (S : Sc) (ts vs : List Expr) : Option (Option (List Str)) :=
  if !(ts.length == 2 || ts.length == 3) || vs.length != ts.length then some none else
  if vs.any (fun | .Starred .. => true | _ => false) then some none else
  let line := (ts.head?.map (·.pos.line)).getD 0
  let names := ts.filterMap fun
    | .Name id pos => if S.sc.names.lookup id == some .local && pos.line == line then some id else none
    | _ => none
  if names.length != ts.length || names.eraseDups.length != names.length then some none else
  if vs.all (foldedForSure 8) then some none else
  if vs.all (constantsAlone 8) then none else
  some (some names)
def compOk (S : Sc) (x : Str) (py : Pos) : Expr → Bool
  | .ListComp _ _ scope pos => (lclC S x && (py.line == pos.line) && !(scope.names.any fun (n, k) => n == x && (k == .local || k == .cell))) || celC S x
  | .SetComp .. => false
  | .DictComp .. => false
  | _ => true
def dstT (S : Sc) (i : Nat) (k : Bool) : List Expr → Bool
  | [.Subscript o j _] => okDce S i o && isDix k j
  | _ => false
def asPop (S : Sc) (i : Nat) : Expr → Bool
  | .Call (.Attribute (.Name x _) a p3) [] [] p4 => decide (a = "pop") && okN S i x && (p3.endLine == p4.line)
  | _ => false
theorem asPop_eq {S : Sc} {i : Nat} {e : Expr} (h : asPop S i e = true) : ∃ x p2 p3 p4, e = .Call (.Attribute (.Name x p2) "pop" p3) [] [] p4 ∧ okN S i x = true ∧ (p3.endLine == p4.line) = true := by
  unfold asPop at h
  split at h
  · simp only [Bool.and_eq_true] at h
    obtain ⟨⟨h1, h2⟩, h3⟩ := h
    have h1 := of_decide_eq_true h1
    subst h1
    exact ⟨_, _, _, _, rfl, h2, h3⟩
  · cases h
def okT1 (S : Sc) (p : Pat) : List Expr → Bool
  | [tg] => okP S p tg
  | _ => false
def okZ (S : Sc) : List (Nat × Bool) → CL → List Expr → Bool
  | [], .nil, [] => true
  | (_, o) :: is, .cons c l, e :: es => okE S .val c e && (!o || frC c) && notStar e && okZ S is l es
  | _, _, _ => false
def elts : Expr → List Expr
  | .Tuple vs _ _ => vs
  | _ => []
def okV (S : Sc) (i : Nat) (x : Str) : Bool := lclC S x && decide (S.N[i]? = some x)
def parC (S : Sc) (is : List (Nat × Bool)) (tgs : List Expr) (e : Expr) : Bool :=
  match is, tgs, e with
  | [p, q], [.Tuple [.Name x px, .Name y py] kt pt], .Tuple [u, v] _ _ => decide (swP S [.Name x px, .Name y py] [u, v] = some (some [x, y])) && okV S p.1 x && okV S q.1 y && decide (p.1 ≠ q.1)
  | [p, q, r], [.Tuple [.Name x px, .Name y py, .Name z pz] kt pt], .Tuple [u, v, w] _ _ => decide (swP S [.Name x px, .Name y py, .Name z pz] [u, v, w] = some (some [x, y, z])) && okV S p.1 x && okV S q.1 y && okV S r.1 z && decide (p.1 ≠ q.1) && decide (p.1 ≠ r.1) && decide (q.1 ≠ r.1)
  | _, _, _ => false
def okN1 (S : Sc) (i : Nat) : Expr → Bool
  | .Name x _ => okL S i x
  | _ => false
def okNs (S : Sc) : List (Nat × Bool) → List Expr → Bool
  | [], [] => true
  | p :: is, e :: es => okN1 S p.1 e && okNs S is es
  | _, _ => false
def parT (S : Sc) (is : List (Nat × Bool)) (tgs : List Expr) (e : Expr) : Bool :=
  match tgs, e with
  | [.Tuple ts _ _], .Tuple vs _ _ => decide (swP S ts vs = some none) && okNs S is ts && decide (is.length ≤ 20)
  | _, _ => false
theorem parT_eq {S : Sc} {is : List (Nat × Bool)} {tgs : List Expr} {e : Expr} (h : parT S is tgs e = true) : ∃ ts vs kt pt k2 pt2, tgs = [.Tuple ts kt pt] ∧ e = .Tuple vs k2 pt2 ∧ swP S ts vs = some none ∧ okNs S is ts = true ∧ is.length ≤ 20 := by
  unfold parT at h
  split at h
  · simp only [Bool.and_eq_true, decide_eq_true_eq] at h
    exact ⟨_, _, _, _, _, _, rfl, rfl, h.1.1, h.1.2, h.2⟩
  · cases h
theorem okV_eq {S : Sc} {i : Nat} {x : Str} (h : okV S i x = true) : S.sc.names.lookup x = some .local ∧ S.N[i]? = some x := by
  unfold okV at h
  obtain ⟨h1, h2⟩ := Bool.and_eq_true_iff.mp h
  refine ⟨?_, of_decide_eq_true h2⟩
  unfold lclC at h1
  split at h1
  · assumption
  · cases h1
theorem parC_eq {S : Sc} {is : List (Nat × Bool)} {tgs : List Expr} {e : Expr} (h : parC S is tgs e = true) :
    (∃ p q x y px py kt pt k2 pt2 u v, is = [p, q] ∧ tgs = [.Tuple [.Name x px, .Name y py] kt pt] ∧ e = .Tuple [u, v] k2 pt2 ∧ swP S [.Name x px, .Name y py] [u, v] = some (some [x, y]) ∧ S.N[p.1]? = some x ∧ S.N[q.1]? = some y ∧ S.sc.names.lookup x = some .local ∧ S.sc.names.lookup y = some .local ∧ p.1 ≠ q.1) ∨
    (∃ p q r x y z px py pz kt pt k2 pt2 u v w, is = [p, q, r] ∧ tgs = [.Tuple [.Name x px, .Name y py, .Name z pz] kt pt] ∧ e = .Tuple [u, v, w] k2 pt2 ∧ swP S [.Name x px, .Name y py, .Name z pz] [u, v, w] = some (some [x, y, z]) ∧
      S.N[p.1]? = some x ∧ S.N[q.1]? = some y ∧ S.N[r.1]? = some z ∧ S.sc.names.lookup x = some .local ∧ S.sc.names.lookup y = some .local ∧ S.sc.names.lookup z = some .local ∧ p.1 ≠ q.1 ∧ p.1 ≠ r.1 ∧ q.1 ≠ r.1) := by
  unfold parC at h
  split at h
  · simp only [Bool.and_eq_true, decide_eq_true_eq] at h
    obtain ⟨⟨⟨h1, h2⟩, h3⟩, h4⟩ := h
    exact .inl ⟨_, _, _, _, _, _, _, _, _, _, _, _, rfl, rfl, rfl, h1, (okV_eq h2).2, (okV_eq h3).2, (okV_eq h2).1, (okV_eq h3).1, h4⟩
  · simp only [Bool.and_eq_true, decide_eq_true_eq] at h
    obtain ⟨⟨⟨⟨⟨⟨h1, h2⟩, h3⟩, h4⟩, h5⟩, h6⟩, h7⟩ := h
    exact .inr ⟨_, _, _, _, _, _, _, _, _, _, _, _, _, _, _, _, rfl, rfl, rfl, h1, (okV_eq h2).2, (okV_eq h3).2, (okV_eq h4).2, (okV_eq h2).1, (okV_eq h3).1, (okV_eq h4).1, h5, h6, h7⟩
  · cases h
def tupNo (S : Sc) (ts : List Expr) : Expr → Bool
  | .Tuple vs _ _ => decide (swP S ts vs = some none)
  | _ => true
def raiOk (S : Sc) (c : Str) : Stmt → Bool
  | .Raise (some (.Call (.Name x _) [.Constant (.str _) _ _] [] _)) none _ => decide (x = c) && S.xs.contains c && glC S x
  | _ => false
theorem raiOk_eq {S : Sc} {c : Str} {st : Stmt} (h : raiOk S c st = true) : ∃ p m j p2 p4 pos, st = .Raise (some (.Call (.Name c p) [.Constant (.str m) j p2] [] p4)) none pos ∧ S.xs.contains c = true ∧ glC S c = true := by
  unfold raiOk at h
  split at h
  · obtain ⟨h1, h3⟩ := an h
    obtain ⟨h1, h2⟩ := an h1
    have h1 := of_decide_eq_true h1
    subst h1
    exact ⟨_, _, _, _, _, _, rfl, h2, h3⟩
  · cases h
mutual
def okS (S : Sc) : CS → Stmt → Bool
  | .stop, _ => true
  | .ex c, .Expr e _ => okE S .val c e && notComp e
  | .asg i c, .Assign [.Name x p] e _ => okL S i x && okE S .val c e && compOk S x p e
  | .asgO i c, .Assign [.Name x p] e _ => okL S i x && okE S .val c e && frC c && compOk S x p e
  | .unp p c, .Assign [.Tuple ts k q] e _ => okP S p (.Tuple ts k q) && okE S .val c e && notComp e && tupNo S ts e
  | .par is cs, .Assign tgs e _ => (parC S is tgs e || parT S is tgs e) && okZ S is cs (elts e)
  | .app i c, .Expr (.Call (.Attribute (.Name x _) a p3) [e] [] p4) _ => decide (a = "append") && okN S i x && okE S .val c e && notStar e && (p3.endLine == p4.line)
  | .popS p i, .Assign tgs e _ => asPop S i e && okT1 S p tgs
  | .setI i k c, .Assign [.Subscript (.Name x _) e _] v _ => okN S i x && okE S .val k e && okE S .val c v && notSlice e && notComp v
  | .dst i k c, .Assign tgs v _ => dstT S i k tgs && okE S .val c v && notComp v
  | .ifs c a b, .If t sa sb _ => okE S .tst c t && okBk S a sa && okBk S b sb
  | .fors p it b, .For tg iter body [] _ => okP S p tg && okI S true it tg iter && notSet iter && okBk S b body
  | .whl c b, .While t body [] _ => okE S .tst c t && okBk S b body
  | .ret c, .Return (some e) _ => okE S .val c e
  | .rai c, st => raiOk S c st
  | _, _ => false
def okBk (S : Sc) : CB → List Stmt → Bool
  | .nil, [] => true
  | .cons c r, sts => (match c with
    | .frz _ => okBk S r sts
    | _ => (match sts with
      | st :: sts => okS S c st && okBk S r sts
      | [] => false))
  | _, _ => false
end
end Co

/-! Core 15: the look tells the truth: statements. -/
namespace Co
open PySem PySem.Spec PyProof.Rows L2
variable [TabT]
section
variable {X : Cx} {W : WS} {G : Gam} {cl : Str → Addr} {S : Sc} {a b e : Expr} {pos : Pos}
theorem swE {t : Option Expr} {l : Nat} {env : PySem.Env} (h : notComp e = true) : swapsWith e t l env = pure false := by
  cases e with
  | ListComp => exact ff h
  | SetComp => exact ff h
  | DictComp => exact ff h
  | _ => rfl
theorem sw_cell {elt : Expr} {gs : List Comprehension} {scope : Scope} {pos py : Pos} {y : Str} {l : Nat} {env : PySem.Env} (hy : env.scope.names.lookup y = some .cell) : swapsWith (.ListComp elt gs scope pos) (some (.Name y py)) l env = pure false := by
  have ky : env.kindOf y = some .cell := hy
  unfold swapsWith
  simp only [ky]
  have : (some NameKind.cell == some NameKind.local) = false := rfl
  rw [this]
  simp
theorem swE1 {x : Str} {p : Pos} {l : Nat} {env : PySem.Env} (h : notComp e = true) : swapsWithSole [.Name x p] e l env = pure false := swE (t := some (.Name x p)) (l := l) h
theorem swT {ts : List Expr} {k : Nat} {q : Pos} {l : Nat} {env : PySem.Env} : swapsWith e (some (.Tuple ts k q)) l env = pure false := by
  cases e <;> rfl
theorem swSub {o i : Expr} {q : Pos} {l : Nat} {env : PySem.Env} : swapsWith e (some (.Subscript o i q)) l env = pure false := by
  cases e <;> rfl
theorem swS1 {x : Str} {p : Pos} {env : PySem.Env} : swappedStores [.Name x p] e env = pure none := rfl
theorem swS2 {o i : Expr} {p : Pos} {env : PySem.Env} : swappedStores [.Subscript o i p] e env = pure none := rfl
theorem swS3 {ts : List Expr} {k : Nat} {p : Pos} {env : PySem.Env} (h : notTuple e = true) : swappedStores [.Tuple ts k p] e env = pure none := by
  cases e with
  | Tuple => exact ff h
  | _ => rfl
theorem swP_ok (C : Cc X G cl W S) (hk : X.env.scope.kind = .function) {ts vs : List Expr} {k k2 : Nat} {p p2 : Pos} {r : Option (List Str)} (h : swP S ts vs = some r) : swappedStores [.Tuple ts k p] (.Tuple vs k2 p2) X.env = pure r := by
  have hb : X.env.blockKind = .function := by unfold Env.blockKind; rw [hk]; rfl
  have kk : ∀ x, X.env.kindOf x = S.sc.names.lookup x := fun x => by rw [← C.sc]; rfl
  unfold swP at h
  unfold swappedStores
  simp only [hb, kk, bne_self_eq_false, Bool.or_false]
  dsimp only at h
  split at h
  · rename_i q; cases h; exact Eq.trans (if_pos q) rfl
  rename_i q; refine Eq.trans (if_neg q) ?_
  split at h
  · rename_i q; cases h; exact Eq.trans (if_pos q) rfl
  rename_i q; refine Eq.trans (if_neg q) ?_
  split at h
  · rename_i q; cases h; exact Eq.trans (if_pos q) rfl
  rename_i q; refine Eq.trans (if_neg q) ?_
  split at h
  · rename_i q; cases h; exact Eq.trans (if_pos q) rfl
  rename_i q; refine Eq.trans (if_neg q) ?_
  split at h
  · cases h
  rename_i q; refine Eq.trans (if_neg q) ?_
  cases h
  rfl

structure CcS (X : Cx) (G : Gam) (cl : Str → Addr) (W : WS) (S : Sc) : Prop where
  c : Cc X G cl W S
  ow : PassesOwn (model X.prog X.w) X.A X.env X.xe
  kd : X.env.scope.kind = .function
  tk : L2N.Takes X (fun cls d _ H => ∃ c, cls = .ref (cl c) ∧ d = none ∧ W c H)
  rx : ∀ c ∈ S.xs, X.mg c = some (.ref (cl c)) ∧ PySem.W.excIn X.K (cl c) He.veBase "ValueError.__new__" = true ∧ PySem.W.keepIn X.K (.ref (cl c)) = true ∧ PySem.W.subIn X.K (.ref (cl c)) (.type "BaseException") = some true ∧ PySem.W.typeIn X.K (.ref (cl c)) = some (.type "type")
theorem okL_get {i : Nat} {x : Str} (h : okL S i x = true) : S.N[i]? = some x := of_decide_eq_true (an h).1
theorem lclC_get {x : Str} (h : lclC S x = true) : S.sc.names.lookup x = some .local := by
  unfold lclC at h
  split at h
  · assumption
  · cases h
theorem celC_get {x : Str} (h : celC S x = true) : S.sc.names.lookup x = some .cell := by
  unfold celC at h
  split at h
  · assumption
  · cases h
/-- name = e, by the new reading -/
theorem asgF (C : Cc X G cl W S) (hk : X.env.scope.kind = .function) {i : Nat} {x : Str} {p : Pos} {c : CE} (h1 : okL S i x = true) (h2 : okE S .val c e = true) (h3 : frC c = true) (h4 : compOk S x p e = true) : PS X (.Assign [.Name x p] e pos) (tAsg (tF W (ev G c)) (gName i)) := by
  have plain : swapsWith e (some (.Name x p)) pos.line X.env = pure false → PS X (.Assign [.Name x p] e pos) (tAsg (tF W (ev G c)) (gName i)) := fun hs => ps_asg ((sE c .val e C h2).2 h3) (pg1 C h1) hs swS1 rfl
  cases e with
  | ListComp elt gens scope pos' =>
    rcases Bool.or_eq_true_iff.mp h4 with h5 | h5
    · obtain ⟨h5, k3⟩ := an h5
      obtain ⟨k1, k2⟩ := an h5
      have hl := lclC_get k1
      cases c with
      | comp elt' vs pt it cc =>
        have h' : (match asGen gens with
      | some (tg, iter, ifs) => blkC S.N S.sc scope (ownOf S.N vs) && (inP pt).all (fun j => vs.contains j) && okP (relC scope S) pt tg && okI S false it tg iter && notSet iter && okT (relC scope S) cc ifs && okE (relC scope S) .val elt' elt
      | none => false) = true := h2
        cases hg : asGen gens with
        | none => rw [hg] at h'; exact ff h'
        | some q =>
          obtain ⟨tg, iter, ifs⟩ := q
          rw [hg] at h'
          have hg := asGen_eq hg
          subst hg
          obtain ⟨g1, g8⟩ := an h'
          obtain ⟨g1, g7⟩ := an g1
          obtain ⟨g1, g6⟩ := an g1
          obtain ⟨g1, g5⟩ := an g1
          obtain ⟨g1, g4⟩ := an g1
          obtain ⟨g2, g3⟩ := an g1
          have base := ps_setLc (g := gP X.K pt) (own := ownOf S.N vs) (spos := pos) C.calm (by rw [C.N]; exact C.nd) (by rw [C.N]; exact okL_get h1) (by rw [C.sc]; exact hl) (sw_true hk (by rw [C.sc]; exact hl) k2 (by simpa using k3)) (sI (W := W) false it tg iter C g5) (by rw [C.N, C.sc]; exact blkOk_by g2)
            (fun s H Ca cll fp => pgP (C.blk s H scope Ca cll fp) pt tg g4) (fun s H Ca cll fp => sT (W := WN) cc ifs (C.blk s H scope Ca cll fp) g7) (fun s H Ca cll fp => (sE elt' .val elt (C.blk s H scope Ca cll fp) g8).1) (fset g6)
          rw [own_map] at base
          exact PSimp base fun D σ H hh => tF_lc (X := X) (mi := evI G it) (me := ev G elt') (mt := evT G cc) (fun j hj => by simpa using List.all_eq_true.mp g3 j hj) hh
      | stop => exact ⟨fun pins s σ H D I ⟨B, F, ρ, s', R, q⟩ => q.elim⟩
      | call f l => cases l <;> exact ff h2
      | blt f l => cases l <;> exact ff h2
      | _ => exact ff h2
    · exact plain (sw_cell (by rw [C.sc]; exact celC_get h5))
  | SetComp => exact ff h4
  | DictComp => exact ff h4
  | _ => exact plain rfl
theorem dstT_eq {i : Nat} {k : Bool} {tgs : List Expr} (h : dstT S i k tgs = true) : ∃ x p2 j p3 p4, tgs = [.Subscript (.Name x p2) (.Constant (.int (dix k)) j p3) p4] ∧ okN S i x = true := by
  unfold dstT at h
  split at h
  · obtain ⟨h1, h2⟩ := an h
    obtain ⟨j, p, rfl⟩ := isDix_eq h2
    unfold okDce at h1
    split at h1
    · exact ⟨_, _, _, _, _, rfl, h1⟩
    · cases h1
  · cases h
theorem sZ : ∀ (is : List (Nat × Bool)) (c : CL) {X : Cx} {W : WS} {S : Sc} (es : List Expr), Cc X G cl W S → okZ S is c es = true → PA X es (tP W (evP G is c))
  | [], .nil, X, W, S, [], C, h => dp_nil
  | [], .nil, X, W, S, _ :: _, C, h => ff h
  | [], .cons _ _, X, W, S, _, C, h => ff h
  | _ :: _, .nil, X, W, S, _, C, h => ff h
  | _ :: _, .cons _ _, X, W, S, [], C, h => ff h
  | (i, o) :: is, .cons c l, X, W, S, e :: es, C, h => by
    obtain ⟨k1, h4⟩ := an (show (okE S .val c e && (!o || frC c) && notStar e && okZ S is l es) = true from h)
    obtain ⟨k2, h3⟩ := an k1
    obtain ⟨k3, k4⟩ := an k2
    cases o with
    | false => exact dp_val (sE c .val e C k3).1 (sZ is l es C h4) (star1 h3)
    | true => exact dp_own ((sE c .val e C k3).2 k4) (sZ is l es C h4) (star1 h3)
theorem okNs_star : ∀ {is : List (Nat × Bool)} {es : List Expr}, okNs S is es = true → es.all notStar = true ∧ es.length = is.length
  | [], [], _ => ⟨rfl, rfl⟩
  | [], _ :: _, h => ff h
  | _ :: _, [], h => ff h
  | p :: is, e :: es, h => by
    obtain ⟨h1, h2⟩ := an (show (okN1 S p.1 e && okNs S is es) = true from h)
    obtain ⟨h3, h4⟩ := okNs_star h2
    have : notStar e = true := by cases e <;> first | rfl | exact ff h1
    exact ⟨by rw [List.all_cons, this, h3]; rfl, by rw [List.length_cons, List.length_cons, h4]⟩
theorem pgNs0 (C : Cc X G cl W S) : ∀ {is : List (Nat × Bool)} {es : List Expr}, okNs S is es = true → PGs X es (gNs (is.map (·.1)))
  | [], [], _ => pgs_nil
  | [], _ :: _, h => ff h
  | _ :: _, [], h => ff h
  | p :: is, e :: es, h => by
    obtain ⟨h1, h2⟩ := an (show (okN1 S p.1 e && okNs S is es) = true from h)
    cases e with
    | Name x q => exact pgs_cons (pg1 C h1) (pgNs0 C h2) rfl
    | _ => exact ff h1
theorem pgNs (C : Cc X G cl W S) {is : List (Nat × Bool)} {es : List Expr} {k : Nat} {q : Pos} (h : okNs S is es = true) : PG X (.Tuple es k q) (gTup X.K (is.map (·.1)).length (gNs (is.map (·.1)))) := by
  obtain ⟨h1, h2⟩ := okNs_star h
  obtain ⟨h3, h4⟩ := asgN (env := X.env) h1
  exact pg_tup C.calm (pgNs0 C h) (by rw [h3, h2, List.length_map]) h4
mutual
theorem sS : ∀ (c : CS) {X : Cx} {W : WS} {S : Sc} (st : Stmt), CcS X G cl W S → okS S c st = true → PS X st (tS W fun ρ s => xs G c ρ s)
  | .stop, X, W, S, st, C, h => ⟨fun pins s σ H D I ⟨B, F, ρ, s', R, q⟩ => False.elim q⟩
  | .ex c, X, W, S, st, C, h => by
    cases st with
    | Expr e pos =>
      obtain ⟨h1, h2⟩ := an (show (okE S .val c e && notComp e) = true from h)
      exact ds_ex (sE c .val e C.c h1).1 (swE h2)
    | _ => exact ff h
  | .asg i c, X, W, S, st, C, h => by
    cases st with
    | Assign tgs e pos =>
      match tgs, h with
      | [], h => exact ff h
      | t :: _ :: _, h => cases t <;> exact ff h
      | [t], h =>
        cases t with
        | Name x p =>
          obtain ⟨h1, h3⟩ := an (show (okL S i x && okE S .val c e && compOk S x p e) = true from h)
          obtain ⟨h1, h2⟩ := an h1
          by_cases hc : notComp e = true
          · exact ds_asg (ps_asg (sE c .val e C.c h2).1 (pg1 C.c h1) (swE1 hc) swS1 rfl)
          · cases hf : frC c with
            | true => exact ds_asg (PSimp (asgF C.c C.kd h1 h2 hf h3) fun D σ H ⟨B, F, ρ, s, R, q⟩ => ⟨B, F, ρ, s, R, q.toF⟩)
            | false =>
              cases e with
              | ListComp =>
                cases c with
                | stop => cases hf
                | comp => cases hf
                | call f l => cases l <;> exact ff h2
                | blt f l => cases l <;> exact ff h2
                | _ => exact ff h2
              | SetComp => exact ff h3
              | DictComp => exact ff h3
              | _ => exact absurd rfl hc
        | _ => exact ff h
    | _ => exact ff h
  | .asgO i c, X, W, S, st, C, h => by
    cases st with
    | Assign tgs e pos =>
      match tgs, h with
      | [], h => exact ff h
      | t :: _ :: _, h => cases t <;> exact ff h
      | [t], h =>
        cases t with
        | Name x p =>
          obtain ⟨h1, h4⟩ := an (show (okL S i x && okE S .val c e && frC c && compOk S x p e) = true from h)
          obtain ⟨h1, h3⟩ := an h1
          obtain ⟨h1, h2⟩ := an h1
          exact ds_asgO (asgF C.c C.kd h1 h2 h3 h4)
        | _ => exact ff h
    | _ => exact ff h
  | .unp p c, X, W, S, st, C, h => by
    cases st with
    | Assign tgs e pos =>
      match tgs, h with
      | [], h => exact ff h
      | t :: _ :: _, h => cases t <;> exact ff h
      | [t], h =>
        cases t with
        | Tuple ts k q =>
          obtain ⟨h1, h4⟩ := an (show (okP S p (.Tuple ts k q) && okE S .val c e && notComp e && tupNo S ts e) = true from h)
          obtain ⟨h1, h3⟩ := an h1
          obtain ⟨h1, h2⟩ := an h1
          refine ds_unp (ps_asg (sE c .val e C.c h2).1 (pgP C.c p _ h1) (swT : swapsWith e (some (.Tuple ts k q)) pos.line X.env = pure false) ?_ rfl)
          by_cases hc : notTuple e = true
          · exact swS3 hc
          · cases e with
            | Tuple vs k2 p2 => exact swP_ok C.c C.kd (of_decide_eq_true h4)
            | _ => exact absurd rfl hc
        | _ => exact ff h
    | _ => exact ff h
  | .par is cs, X, W, S, st, C, h => by
    cases st with
    | Assign tgs e pos =>
      obtain ⟨h0, h1⟩ := an (show ((parC S is tgs e || parT S is tgs e) && okZ S is cs (elts e)) = true from h)
      rcases Bool.or_eq_true_iff.mp h0 with h0 | h0
      case inr =>
        obtain ⟨ts, vs, kt, pt, k2, pt2, rfl, rfl, hs, hn, hz⟩ := parT_eq h0
        have hm : (is.map (·.1)).length = is.length := List.length_map ..
        exact ds_parT (is := is.map (·.1)) (sZ is cs _ C.c h1) (pgNs C.c hn) (by rw [hm]; exact Nat.le_trans hz (by decide)) (swP_ok C.c C.kd hs)
      rcases parC_eq h0 with ⟨p, q, x, y, px, py, kt, pt, k2, pt2, u, v, rfl, rfl, rfl, hs, n1, n2, l1, l2, d1⟩ | ⟨p, q, r, x, y, z, px, py, pz, kt, pt, k2, pt2, u, v, w, rfl, rfl, rfl, hs, n1, n2, n3, l1, l2, l3, d1, d2, d3⟩
      · exact ds_par2 (fun ha => ps_par C.c.calm (by rw [C.c.N]; exact C.c.nd) (by rw [C.c.N]; exact n1) (by rw [C.c.N]; exact n2) d1 (by rw [C.c.sc]; exact l1) (by rw [C.c.sc]; exact l2) ha (swP_ok C.c C.kd hs) rfl) (sZ _ cs _ C.c h1)
      · exact ds_par3 (fun ha => ps_par3 C.c.calm (by rw [C.c.N]; exact C.c.nd) (by rw [C.c.N]; exact n1) (by rw [C.c.N]; exact n2) (by rw [C.c.N]; exact n3) d1 d2 d3 (by rw [C.c.sc]; exact l1) (by rw [C.c.sc]; exact l2) (by rw [C.c.sc]; exact l3) ha (swP_ok C.c C.kd hs) rfl) (sZ _ cs _ C.c h1)
    | _ => exact ff h
  | .app i c, X, W, S, st, C, h => by
    cases st with
    | Expr e pos =>
      cases e with
      | Call f es kw p4 =>
        cases f with
        | Attribute o a p3 =>
          cases o with
          | Name x p2 =>
            match es, kw, h with
            | [e], [], h =>
              obtain ⟨h1, h5⟩ := an (show (decide (a = "append") && okN S i x && okE S .val c e && notStar e && (p3.endLine == p4.line)) = true from h)
              obtain ⟨h1, h4⟩ := an h1
              obtain ⟨h1, h3⟩ := an h1
              obtain ⟨h1, h2⟩ := an h1
              have h1 := of_decide_eq_true h1
              subst h1
              exact ds_app (nm C.c h2) (sE c .val e C.c h3).1 (star1 h4) rfl h5
            | [], _, h => exact ff h
            | [_], _ :: _, h => exact ff h
            | _ :: _ :: _, _, h => exact ff h
          | _ => exact ff h
        | _ => exact ff h
      | _ => exact ff h
    | _ => exact ff h
  | .popS p i, X, W, S, st, C, h => by
    cases st with
    | Assign tgs e pos =>
      obtain ⟨h1, h2⟩ := an (show (asPop S i e && okT1 S p tgs) = true from h)
      obtain ⟨x, p2, p3, p4, rfl, h3, h4⟩ := asPop_eq h1
      match tgs, h2 with
      | [tg], h2 =>
        refine ds_pop (nm C.c h3) h4 fun {te} he => ?_
        have pg := pgP C.c p tg h2
        cases tg with
        | Name y q => exact ps_asg he pg (swE1 rfl) swS1 rfl
        | Tuple ts k q => exact ps_asg he pg rfl (swS3 rfl) rfl
        | _ => cases p <;> exact ff h2
      | [], h2 => exact ff h2
      | _ :: _ :: _, h2 => exact ff h2
    | _ => exact ff h
  | .setI i k c, X, W, S, st, C, h => by
    cases st with
    | Assign tgs v pos =>
      match tgs, h with
      | [], h => exact ff h
      | t :: _ :: _, h =>
        cases t with
        | Subscript o _ _ => cases o <;> exact ff h
        | _ => exact ff h
      | [t], h =>
        cases t with
        | Subscript o e p3 =>
          cases o with
          | Name x p2 =>
            obtain ⟨h1, h5⟩ := an (show (okN S i x && okE S .val k e && okE S .val c v && notSlice e && notComp v) = true from h)
            obtain ⟨h1, h4⟩ := an h1
            obtain ⟨h1, h3⟩ := an h1
            obtain ⟨h1, h2⟩ := an h1
            exact ds_setI (nm C.c h1) (sE k .val e C.c h2).1 (sE c .val v C.c h3).1 (by intro v; cases e <;> first | exact ff h4 | rfl) fun he hg => ps_asg he hg (swSub : swapsWith _ (some (.Subscript (.Name x p2) e p3)) pos.line X.env = pure false) swS2 rfl
          | _ => exact ff h
        | _ => exact ff h
    | _ => exact ff h
  | .dst i k c, X, W, S, st, C, h => by
    cases st with
    | Assign tgs v pos =>
      obtain ⟨h1, h3⟩ := an (show (dstT S i k tgs && okE S .val c v && notComp v) = true from h)
      obtain ⟨h1, h2⟩ := an h1
      obtain ⟨x, p2, j, p3, p4, rfl, h4⟩ := dstT_eq h1
      exact ds_dst (nm C.c h4) (sE c .val v C.c h2).1 fun he hg => ps_asg he hg (swSub (e := v) (o := .Name x p2) (i := .Constant (.int (dix k)) j p3) (q := p4) (l := pos.line) (env := X.env)) (swS2 (e := v) (o := .Name x p2) (i := .Constant (.int (dix k)) j p3) (p := p4)) rfl
    | _ => exact ff h
  | .ifs c a b, X, W, S, st, C, h => by
    cases st with
    | If t sa sb pos =>
      obtain ⟨h1, h3⟩ := an (show (okE S .tst c t && okBk S a sa && okBk S b sb) = true from h)
      obtain ⟨h1, h2⟩ := an h1
      exact ds_if (sE c .tst t C.c h1).1 (sBk a sa C h2) (sBk b sb C h3)
    | _ => exact ff h
  | .fors p it b, X, W, S, st, C, h => by
    cases st with
    | For tg iter body orelse pos =>
      cases orelse with
      | cons _ _ => exact ff h
      | nil =>
        obtain ⟨h1, h4⟩ := an (show (okP S p tg && okI S true it tg iter && notSet iter && okBk S b body) = true from h)
        obtain ⟨h1, h3⟩ := an h1
        obtain ⟨h1, h2⟩ := an h1
        exact ds_for C.ow C.c.calm (sI true it tg iter C.c h2) (pgP C.c p tg h1) (sBk b body C h4) (fset h3)
    | _ => exact ff h
  | .whl c b, X, W, S, st, C, h => by
    cases st with
    | While t body orelse pos =>
      cases orelse with
      | cons _ _ => exact ff h
      | nil =>
        obtain ⟨h1, h2⟩ := an (show (okE S .tst c t && okBk S b body) = true from h)
        exact ds_while C.ow (sE c .tst t C.c h1).1 (sBk b body C h2)
    | _ => exact ff h
  | .ret c, X, W, S, st, C, h => by
    cases st with
    | Return o pos =>
      cases o with
      | some e => exact ds_ret (sE c .val e C.c h).1
      | none => exact ff h
    | _ => exact ff h
  | .rai x, X, W, S, st, C, h => by
    obtain ⟨p, msg, jj, p2, p4, pos, rfl, h2, h3⟩ := raiOk_eq (show raiOk S x st = true from h)
    obtain ⟨r1, r2, r3, r4, r5⟩ := C.rx x (by simpa using h2)
    exact PSimp (L2N.ps_raise C.c.calm C.tk (L2N.pmk_own PySem.F.excBase_ValueError r2 r1 r3 (raises_own r4 r5) (gl C.c h3).1 (gl C.c h3).2)) fun D σ H ⟨B, F, ρ, s, R, q⟩ => ⟨x, rfl, rfl, q F H R.base⟩
  | .frz i, X, W, S, st, C, h => by cases st <;> exact ff h
theorem sBk : ∀ (c : CB) {X : Cx} {W : WS} {S : Sc} (sts : List Stmt), CcS X G cl W S → okBk S c sts = true → PSs X sts (tS W fun ρ s => xb G c ρ s)
  | .nil, X, W, S, [], C, h => dss_nil
  | .nil, X, W, S, _ :: _, C, h => ff h
  | .cons c r, X, W, S, sts, C, h => by
    have gen : ∀ st sts', sts = st :: sts' → okS S c st = true → okBk S r sts' = true → PSs X sts (tS W fun ρ s => xb G (.cons c r) ρ s) := fun st sts' e h1 h2 => by
      subst e
      exact dss_cons (sS c st C h1) (sBk r sts' C h2)
    cases c with
    | frz i => exact dss_frz (sBk r sts C h)
    | stop =>
      cases sts with
      | nil => exact ff h
      | cons st sts' =>
        obtain ⟨h1, h2⟩ := an (show (okS S .stop st && okBk S r sts') = true from h)
        exact gen st sts' rfl h1 h2
    | rai x =>
      cases sts with
      | nil => exact ff h
      | cons st sts' =>
        obtain ⟨h1, h2⟩ := an (show (okS S (.rai x) st && okBk S r sts') = true from h)
        exact gen st sts' rfl h1 h2
    | _ =>
      cases sts with
      | nil => exact ff h
      | cons st sts' =>
        obtain ⟨h1, h2⟩ := an h
        exact gen st sts' rfl h1 h2
end
end
end Co

/-! Core 16: a def. -/
namespace Co
open PySem PySem.Spec PyProof.Rows L2
variable [TabT]

theorem Paired.get {α β : Type} {R : α → β → Prop} : ∀ {as : List α} {bs : List β}, Paired R as bs → ∀ {i : Nat} {b : β}, bs[i]? = some b → ∃ a, as[i]? = some a ∧ R a b
  | _, _, .nil, i, b, h => by cases i <;> cases h
  | _, _, .cons h0 t, 0, b, h => by cases h; exact ⟨_, rfl, h0⟩
  | _, _, .cons h0 t, i + 1, b, h => Paired.get t (i := i) h
/-- the slots at the entry -/
def ent (n : Nat) (as : List SV) : Env := as ++ List.replicate (n - as.length) .no
theorem Rel.ent {dc : DT} {F H : Hp} {s : Dice} {vs : List V} {as : List SV} {N : List Str} (o : Ok dc F H s) (r : Paired (EA1 dc F H) vs as) (h : as.length ≤ N.length) : Rel ⟨F, H, dc⟩ F (L2.start N vs) (ent N.length as) H s := by
  have hl := Paired.len r
  have cas : ∀ {i : Nat} {x : SV}, (Co.ent N.length as)[i]? = some x → x ≠ .no → ∃ v, (L2.start N vs)[i]? = some (some v) ∧ EA1 dc F H v x := fun {i x} e hx => by
    unfold Co.ent at e
    by_cases hi : i < as.length
    · rw [List.getElem?_append_left hi] at e
      obtain ⟨v, ev, rv⟩ := Paired.get r e
      refine ⟨v, ?_, rv⟩
      unfold L2.start
      rw [List.getElem?_append_left (by rw [List.length_map, hl]; exact hi), List.getElem?_map, ev]
      rfl
    · rw [List.getElem?_append_right (by omega)] at e
      have := List.mem_of_getElem? e
      exact absurd (List.eq_of_mem_replicate this) hx
  refine ⟨?_, Same.refl _, Same.refl _, fun _ h _ => h, o, fun i d e => ?_, fun i e => ?_, fun i ds e => ?_, fun i j ds es a e _ _ _ => ?_⟩
  · unfold L2.start Co.ent
    rw [List.length_append, List.length_append, List.length_map, List.length_replicate, List.length_replicate, hl]
  · exact cas e (by simp)
  · obtain ⟨v, e1, p, e2, rfl⟩ := cas e (by simp)
    exact ⟨p, e2, e1⟩
  · obtain ⟨v, _, z⟩ := cas e (by simp)
    exact z.elim
  · obtain ⟨v, _, z⟩ := cas e (by simp)
    exact z.elim
/-- what a law's heap tells of the defs that a body may call -/
def Fnz (P : Program) (w : World) (K : PySem.W.Frag) (mg : Str → Option Value) (base : Heap) (G : Gam) (cl : Str → Addr) (k : Nat) (fs : List (Str × Nat)) : Prop :=
  ∀ (j : Nat) p, fs[j]? = some p → ∃ fa fd ps mf, G j = some mf ∧ FnOk P w K mg base (L2N.CX P w) k fa fd ps (spOf ps.length cl mf) ∧ mg p.1 = some (.ref fa) ∧ PySem.W.keepIn K (.ref fa) = true ∧ Binds K fd ps [] ∧ ps.length = p.2
def Bls (mg : Str → Option Value) : Prop := ∀ x : Str, x ∈ (["len", "int", "str", "tuple", "list", "sorted", "sum", "min", "max", "all", "any", "abs", "isinstance", "bool", "range", "enumerate"] : List Str) → mg x = none
def Css (mg : Str → Option Value) (cs : List (Str × Int)) : Prop := ∀ p ∈ cs, ∃ t, mg p.1 = some (.int p.2 t)
/-- what is told of the classes that are raised -/
def Rxs (K : PySem.W.Frag) (mg : Str → Option Value) (cl : Str → Addr) (xs : List Str) : Prop := ∀ c ∈ xs, mg c = some (.ref (cl c)) ∧ PySem.W.excIn K (cl c) He.veBase "ValueError.__new__" = true ∧ PySem.W.keepIn K (.ref (cl c)) = true ∧ PySem.W.subIn K (.ref (cl c)) (.type "BaseException") = some true ∧ PySem.W.typeIn K (.ref (cl c)) = some (.type "type")
section
variable {P : Program} {w : World} {K : PySem.W.Frag} {mg : Str → Option Value} {base : Heap} {x qual : Str} {params : Arguments} {body : List Stmt} {scope : Scope} {dvs : List V} {kws : List (Str × V)} {f : Addr} {fd : FuncData} {G : Gam} {cl : Str → Addr} {k : Nat} {fs : List (Str × Nat)} {cs : List (Str × Int)} {xs : List Str} {tl : Bool} {N ps : List Str}
theorem ccOf (S0 : FnScope N ps scope) (hf : Fnz P w K mg base G cl k fs) (hb : Bls mg) (hc : Css mg cs) (hx : Rxs K mg cl xs) {cdv : Value} {A : Around} {outer : List PySem.Env} {s : Shared} {H : Hp} {E : XK} (hr : Room k (A.deeper (envOfC qual scope s.heap.objs.size f cdv))) (ht : tl = true → ToldC (cxOf (L2N.CX P w) P w K mg base N qual scope f cdv A outer s H E) G cl ⟨scope, N, fun _ => true, fs, cs, xs, tl⟩) :
    CcS (cxOf (L2N.CX P w) P w K mg base N qual scope f cdv A outer s H E) G cl (fun c H => E (.ref (cl c)) none H) ⟨scope, N, fun _ => true, fs, cs, xs, tl⟩ := by
  have tk := L2N.takes_of (X := cxOf (L2N.CX P w) P w K mg base N qual scope f cdv A outer s H E) (E := E) rfl rfl rfl rfl
  refine ⟨⟨rfl, S0.nd, rfl, fun _ _ => rfl, rfl, ?_, hb, hc, fun j p h => ?_, ?_, ht⟩, passes_of rfl, S0.kind, tk.imp fun cls d σ H' h => ?_, hx⟩
  · have := hr.un
    show (A.deeper (envOfC qual scope s.heap.objs.size f cdv)).units + 64 < cLine
    omega
  · obtain ⟨fa, fd, ps, mf, h1, h2, h3, h4, h5, h6⟩ := hf j p h
    exact ⟨k, fa, fd, ps, mf, h1, h2, hr, h3, h4, h5, h6⟩
  · refine L2N.passes_call tk fun cls d σ H' h => ?_
    obtain ⟨c, rfl, rfl, h⟩ := h
    exact h
  · obtain ⟨c, rfl, rfl, h⟩ := h
    exact h
/-- A DEF, by its core -/
theorem co_fn (F : FunD K x qual params body scope dvs kws f fd) (S0 : FnScope N ps scope) (hn : ps.length ≤ N.length) (hf : Fnz P w K mg base G cl k fs) (hb : Bls mg) (hc : Css mg cs) (hx : Rxs K mg cl xs) {core : CB} (h : okBk ⟨scope, N, fun _ => true, fs, cs, xs, false⟩ core body = true) :
    FnOk P w K mg base (L2N.CX P w) (k + 1) f fd ps (spOf ps.length cl (fnD G N.length core)) := by
  refine F.ok S0 (fun vs H Q E ⟨dc, F, s, as, o, r, hl, q⟩ => by rw [Paired.len r, hl]) fun cdv A outer s0 H vs Q E hr ⟨dc, F, s, as, o, r, hl, q⟩ => ?_
  refine ⟨_, sBk core body (ccOf S0 hf hb hc hx hr fun z => by cases z) h, ⟨F, H, dc⟩, F, ent N.length as, s, Rel.ent o r (by rw [hl]; exact hn), ?_⟩
  unfold fnD at q
  have e : as ++ List.replicate (N.length - as.length) SV.no = ent N.length as := rfl
  rw [e] at q
  show PostS _ _ (xb G core (ent N.length as) s) _
  cases h1 : xb G core (ent N.length as) s with
  | bad => rw [h1] at q; exact q
  | exc c s1 => rw [h1] at q; exact q
  | ret d s1 => rw [h1] at q; exact q
  | nx ρ' s1 =>
    rw [h1] at q
    exact fun σ' F' H' (R : Rel _ _ _ _ _ _) => q _ F' H' R.base .non
end
/-- a def that may be called by its name -/
def Has (P : Program) (w : World) (K : PySem.W.Frag) (mg : Str → Option Value) (base : Heap) (cl : Str → Addr) (k : Nat) (x : Str) (n : Nat) (mf : List SV → Dice → Res D) : Prop :=
  ∃ fa fd ps, FnOk P w K mg base (L2N.CX P w) k fa fd ps (spOf ps.length cl mf) ∧ mg x = some (.ref fa) ∧ PySem.W.keepIn K (.ref fa) = true ∧ Binds K fd ps [] ∧ ps.length = n
section
variable {P : Program} {w : World} {K : PySem.W.Frag} {mg : Str → Option Value} {base : Heap} {cl : Str → Addr} {k j : Nat}
theorem Has.mono {x : Str} {n : Nat} {mf : List SV → Dice → Res D} (h : Has P w K mg base cl j x n mf) (hk : j ≤ k) : Has P w K mg base cl k x n mf :=
  let ⟨fa, fd, ps, F, r⟩ := h
  ⟨fa, fd, ps, F.mono hk, r⟩
/-- a list of them -/
inductive Hass (P : Program) (w : World) (K : PySem.W.Frag) (mg : Str → Option Value) (base : Heap) (cl : Str → Addr) (k : Nat) : List (Str × Nat) → List (List SV → Dice → Res D) → Prop where
  | nil : Hass P w K mg base cl k [] []
  | cons {x : Str} {n : Nat} {mf : List SV → Dice → Res D} {fs ms} {j : Nat} (h : Has P w K mg base cl j x n mf) (hk : j ≤ k) (r : Hass P w K mg base cl k fs ms) : Hass P w K mg base cl k ((x, n) :: fs) (mf :: ms)
theorem Hass.fnz {fs : List (Str × Nat)} {ms : List (List SV → Dice → Res D)} (h : Hass P w K mg base cl k fs ms) : Fnz P w K mg base (fun j => ms[j]?) cl k fs := by
  induction h with
  | nil => intro j p e; cases e
  | cons h hk r ih =>
    intro j p e
    cases j with
    | zero =>
      cases e
      obtain ⟨fa, fd, ps, F, a, b, c, d⟩ := h
      exact ⟨fa, fd, ps, _, rfl, F.mono hk, a, b, c, d⟩
    | succ j =>
      obtain ⟨fa, fd, ps, mf, e1, r⟩ := ih j p e
      exact ⟨fa, fd, ps, mf, e1, r⟩
/-- the look at a scope, all in one -/
def scopeC (N ps : List Str) (sc : Scope) : Bool :=
  (match sc.kind with | .function => true | _ => false) && !sc.isCoroutine && !sc.isGenerator && decide N.Nodup && decide (N.take ps.length = ps) && (ps.all fun x => match sc.names.lookup x with | some .local => true | some .cell => true | _ => false) && (sc.names.all fun y => match y.2 with | .free => false | _ => true)
theorem scopeC_ok {N ps : List Str} {sc : Scope} (h : scopeC N ps sc = true) : FnScope N ps sc := by
  unfold scopeC at h
  simp only [Bool.and_eq_true, List.all_eq_true, decide_eq_true_eq, Bool.not_eq_true'] at h
  obtain ⟨⟨⟨⟨⟨⟨h1, h2⟩, h3⟩, h4⟩, h5⟩, h6⟩, h7⟩ := h
  refine ⟨?_, h2, h3, h4, h5, fun x hx => ?_, fun y hy e => ?_⟩
  · split at h1
    · assumption
    · cases h1
  · have := h6 x hx
    split at this
    · rename_i q; exact .inl q
    · rename_i q; exact .inr q
    · cases this
  · have := h7 y hy
    rw [e] at this
    cases this
/-- what is looked at of a def: its scope, its body -/
def defC (N ps : List Str) (fs : List (Str × Nat)) (cs : List (Str × Int)) (xs : List Str) (core : CB) (scope : Scope) (body : List Stmt) : Bool :=
  scopeC N ps scope && decide (ps.length ≤ N.length) && okBk ⟨scope, N, fun _ => true, fs, cs, xs, false⟩ core body
theorem co_has {x qual : Str} {params : Arguments} {body : List Stmt} {scope : Scope} {kws : List (Str × V)} {f : Addr} {fd : FuncData} {N ps : List Str} {fs : List (Str × Nat)} {ms : List (List SV → Dice → Res D)} {cs : List (Str × Int)} {xs : List Str} {core : CB}
    (F : FunD K x qual params body scope [] kws f fd) (hx : mg x = some (.ref f)) (hb : Bls mg) (hc : Css mg cs) (hX : Rxs K mg cl xs) (h : defC N ps fs cs xs core scope body = true) (hf : Hass P w K mg base cl k fs ms)
    (hbind : ∀ (kV doc pm : Value) (an : Option Addr) (cdv ct : Value) (us : List Value), us.length = ps.length → bindArgs (PySem.W.fnOf x qual params body scope .none kV doc pm an cdv ct) ⟨us, []⟩ = pure (ps.zip us)) :
    Has P w K mg base cl (k + 1) x ps.length (fnD (fun j => ms[j]?) N.length core) := by
  unfold defC at h
  obtain ⟨h, h3⟩ := an h
  obtain ⟨h1, h2⟩ := an h
  exact ⟨f, fd, ps, co_fn F (scopeC_ok h1) (of_decide_eq_true h2) hf.fnz hb hc hX h3, hx, F.kp, F.bindsN hbind, rfl⟩
end
end Co

/-! Rows for simp: a core term is computed. -/
namespace Co
open PySem PySem.Spec PyProof.Rows L2
section
variable {G : Gam} {ρ : Env} {s : Dice} {a b c e : CE} {l r : CL} {n : Nat}
@[simp] theorem ev_stop : ev G .stop ρ s = .bad := Eq.trans rfl rfl
@[simp] theorem ev_cst {d : D} : ev G (.cst d) ρ s = .ok d s := Eq.trans rfl rfl
@[simp] theorem ev_var {i : Nat} : ev G (.var i) ρ s = .opt (getV ρ i) s := Eq.trans rfl rfl
@[simp] theorem ev_bor {i : Nat} : ev G (.bor i) ρ s = .opt (getB ρ i) s := Eq.trans rfl rfl
@[simp] theorem ev_drd {i : Nat} {k : Bool} : ev G (.drd i k) ρ s = if isDice ρ i = true then .ok (.int (dget k s)) s else .bad := Eq.trans rfl rfl
@[simp] theorem ev_bin {o : BOp} : ev G (.bin o a b) ρ s = (ev G a ρ s).bind fun x s1 => (ev G b ρ s1).bind fun y s2 => .opt (binD o x y) s2 := Eq.trans rfl rfl
@[simp] theorem ev_neg : ev G (.neg a) ρ s = (ev G a ρ s).bind fun x s1 => match x with
    | .int i => .ok (.int (-i)) s1
    | _ => .bad := Eq.trans rfl rfl
@[simp] theorem ev_not : ev G (.not a) ρ s = asBool (ev G a ρ s) fun b s1 => .ok (.bool (!b)) s1 := Eq.trans rfl rfl
@[simp] theorem ev_and : ev G (.and a b) ρ s = asBool (ev G a ρ s) fun c s1 => if c = true then asBool (ev G b ρ s1) fun c s2 => .ok (.bool c) s2 else .ok (.bool false) s1 := Eq.trans rfl rfl
@[simp] theorem ev_or : ev G (.or a b) ρ s = asBool (ev G a ρ s) fun c s1 => if c = true then .ok (.bool true) s1 else asBool (ev G b ρ s1) fun c s2 => .ok (.bool c) s2 := Eq.trans rfl rfl
@[simp] theorem ev_cmp {o : COp} : ev G (.cmp o a b) ρ s = (ev G a ρ s).bind fun x s1 => (ev G b ρ s1).bind fun y s2 => .opt ((cmpD o x y).map .bool) s2 := Eq.trans rfl rfl
@[simp] theorem ev_isN : ev G (.isN a) ρ s = (ev G a ρ s).bind fun x s1 => match x with
    | .none => .ok (.bool true) s1
    | _ => .ok (.bool false) s1 := Eq.trans rfl rfl
@[simp] theorem ev_notN : ev G (.notN a) ρ s = (ev G a ρ s).bind fun x s1 => match x with
    | .none => .ok (.bool false) s1
    | _ => .ok (.bool true) s1 := Eq.trans rfl rfl
@[simp] theorem ev_chain {o p : COp} : ev G (.chain o p a b c) ρ s = (ev G a ρ s).bind fun x s1 => (ev G b ρ s1).bind fun y s2 => (Res.opt (cmpD o x y) s2).bind fun k s3 =>
      if k = true then (ev G c ρ s3).bind fun z s4 => .opt ((cmpD p y z).map .bool) s4 else .ok (.bool false) s3 := Eq.trans rfl rfl
@[simp] theorem ev_ife : ev G (.ife c a b) ρ s = asBool (ev G c ρ s) fun k s1 => if k = true then ev G a ρ s1 else ev G b ρ s1 := Eq.trans rfl rfl
@[simp] theorem ev_tup : ev G (.tup l) ρ s = (evL G l ρ s).bind fun xs s1 => if xs.length ≤ sizeLine then .ok (.tuple xs) s1 else .bad := Eq.trans rfl rfl
@[simp] theorem ev_lst : ev G (.lst l) ρ s = (evL G l ρ s).bind fun xs s1 => if xs.length ≤ sizeLine then .ok (.list xs) s1 else .bad := Eq.trans rfl rfl
@[simp] theorem ev_sub : ev G (.sub a b) ρ s = (ev G a ρ s).bind fun x s1 => (ev G b ρ s1).bind fun y s2 => .opt (subD x y) s2 := Eq.trans rfl rfl
@[simp] theorem ev_slc {lo hi : CO} : ev G (.slc a lo hi) ρ s = (ev G a ρ s).bind fun x s1 => (evO G lo ρ s1).bind fun l s2 => (evO G hi ρ s2).bind fun h s3 => .opt (slcD x l h) s3 := Eq.trans rfl rfl
@[simp] theorem ev_call {f : Nat} : ev G (.call f l) ρ s = match G f with
    | none => .bad
    | some m => (evA G l ρ s).bind fun xs s1 => m xs s1 := Eq.trans rfl rfl
@[simp] theorem ev_blt {k : Blt} : ev G (.blt k l) ρ s = (evL G l ρ s).bind fun xs s1 => .opt (bltD k xs) s1 := Eq.trans rfl rfl
@[simp] theorem ev_lrng : ev G (.lrng a b) ρ s = (ev G a ρ s).bind fun x s1 => (ev G b ρ s1).bind fun y s2 => match x, y with
    | .int i, .int j => if rngOk i j = true ∧ (j - i).toNat ≤ 2 ^ 24 then .ok (.list (rngD i (j - i).toNat)) s2 else .bad
    | _, _ => .bad := Eq.trans rfl rfl
def itemS (G : Gam) (elt : CE) (vs : List Nat) (p : Pat) (c : CO) (ρ : Env) (d : D) (s2 : Dice) : Res (Option D) :=
      match setP p d (wipeE ρ vs) with
      | none => .bad
      | some ρ' => (asBoolR (evT G c ρ' s2) fun k s3 => if k = true then (ev G elt ρ' s3).bind fun x s4 => .ok (some x) s4 else .ok none s3).nox
@[simp] theorem ev_comp {vs : List Nat} {p : Pat} {it : CI} {t : CO} : ev G (.comp e vs p it t) ρ s = (evI G it ρ s).bind fun ds s1 => (compL ds (itemS G e vs p t ρ) 0 s1).bind fun l s2 => .ok (.list l) s2 := Eq.trans rfl rfl
@[simp] theorem evL_nil : evL G .nil ρ s = .ok [] s := Eq.trans rfl rfl
@[simp] theorem evL_cons : evL G (.cons e r) ρ s = (ev G e ρ s).bind fun x s1 => (evL G r ρ s1).bind fun xs s2 => .ok (x :: xs) s2 := Eq.trans rfl rfl
@[simp] theorem evA_nil : evA G .nil ρ s = .ok [] s := Eq.trans rfl rfl
@[simp] theorem evA_dce {i : Nat} : evA G (.cons (.dce i) r) ρ s = if isDice ρ i = true then (evA G r ρ s).bind fun xs s2 => .ok (.dice :: xs) s2 else .bad := Eq.trans rfl rfl
def notDce : CE → Bool
  | .dce _ => false
  | _ => true
theorem evA_cons (h : notDce e = true) : evA G (.cons e r) ρ s = (ev G e ρ s).bind fun x s1 => (evA G r ρ s1).bind fun xs s2 => .ok (.val x :: xs) s2 := by
  cases e <;> first | rfl | cases h
@[simp] theorem evA_var {i : Nat} : evA G (.cons (.var i) r) ρ s = (Res.opt (getV ρ i) s).bind fun x s1 => (evA G r ρ s1).bind fun xs s2 => .ok (.val x :: xs) s2 := Eq.trans rfl rfl
@[simp] theorem evA_cst {d : D} : evA G (.cons (.cst d) r) ρ s = (evA G r ρ s).bind fun xs s2 => .ok (.val d :: xs) s2 := Eq.trans rfl rfl
@[simp] theorem evA_bin {o : BOp} : evA G (.cons (.bin o a b) r) ρ s = (ev G (.bin o a b) ρ s).bind fun x s1 => (evA G r ρ s1).bind fun xs s2 => .ok (.val x :: xs) s2 := Eq.trans rfl rfl
@[simp] theorem evA_sub : evA G (.cons (.sub a b) r) ρ s = (ev G (.sub a b) ρ s).bind fun x s1 => (evA G r ρ s1).bind fun xs s2 => .ok (.val x :: xs) s2 := Eq.trans rfl rfl
@[simp] theorem evA_call {f : Nat} : evA G (.cons (.call f l) r) ρ s = (ev G (.call f l) ρ s).bind fun x s1 => (evA G r ρ s1).bind fun xs s2 => .ok (.val x :: xs) s2 := Eq.trans rfl rfl
@[simp] theorem evA_blt {k : Blt} : evA G (.cons (.blt k l) r) ρ s = (ev G (.blt k l) ρ s).bind fun x s1 => (evA G r ρ s1).bind fun xs s2 => .ok (.val x :: xs) s2 := Eq.trans rfl rfl
@[simp] theorem evA_tup : evA G (.cons (.tup l) r) ρ s = (ev G (.tup l) ρ s).bind fun x s1 => (evA G r ρ s1).bind fun xs s2 => .ok (.val x :: xs) s2 := Eq.trans rfl rfl
@[simp] theorem evA_lst : evA G (.cons (.lst l) r) ρ s = (ev G (.lst l) ρ s).bind fun x s1 => (evA G r ρ s1).bind fun xs s2 => .ok (.val x :: xs) s2 := Eq.trans rfl rfl
@[simp] theorem evA_drd {i : Nat} {k : Bool} : evA G (.cons (.drd i k) r) ρ s = (ev G (.drd i k) ρ s).bind fun x s1 => (evA G r ρ s1).bind fun xs s2 => .ok (.val x :: xs) s2 := Eq.trans rfl rfl
@[simp] theorem evA_neg : evA G (.cons (.neg a) r) ρ s = (ev G (.neg a) ρ s).bind fun x s1 => (evA G r ρ s1).bind fun xs s2 => .ok (.val x :: xs) s2 := Eq.trans rfl rfl
@[simp] theorem evA_slc {lo hi : CO} : evA G (.cons (.slc a lo hi) r) ρ s = (ev G (.slc a lo hi) ρ s).bind fun x s1 => (evA G r ρ s1).bind fun xs s2 => .ok (.val x :: xs) s2 := Eq.trans rfl rfl
@[simp] theorem evA_comp {vs : List Nat} {p : Pat} {it : CI} {t : CO} : evA G (.cons (.comp e vs p it t) r) ρ s = (ev G (.comp e vs p it t) ρ s).bind fun x s1 => (evA G r ρ s1).bind fun xs s2 => .ok (.val x :: xs) s2 := Eq.trans rfl rfl
@[simp] theorem evA_ife : evA G (.cons (.ife c a b) r) ρ s = (ev G (.ife c a b) ρ s).bind fun x s1 => (evA G r ρ s1).bind fun xs s2 => .ok (.val x :: xs) s2 := Eq.trans rfl rfl
@[simp] theorem evO_non : evO G .non ρ s = .ok none s := Eq.trans rfl rfl
@[simp] theorem evO_som : evO G (.som e) ρ s = (ev G e ρ s).bind fun x s1 => match x with
    | .int i => .ok (some i) s1
    | _ => .bad := Eq.trans rfl rfl
@[simp] theorem evT_non : evT G .non ρ s = .ok (.bool true) s := Eq.trans rfl rfl
@[simp] theorem evT_som : evT G (.som e) ρ s = ev G e ρ s := Eq.trans rfl rfl
@[simp] theorem evI_rng : evI G (.rng a b) ρ s = (ev G a ρ s).bind fun x s1 => (ev G b ρ s1).bind fun y s2 => match x, y with
    | .int i, .int j => if rngOk i j = true then .ok (rngD i (j - i).toNat) s2 else .bad
    | _, _ => .bad := Eq.trans rfl rfl
@[simp] theorem evI_seq : evI G (.seq a) ρ s = (ev G a ρ s).bind fun x s1 => match x with
    | .list xs => .ok xs s1
    | .tuple xs => .ok xs s1
    | .dict xs => .ok (xs.map (·.1)) s1
    | _ => .bad := Eq.trans rfl rfl
@[simp] theorem evI_enm : evI G (.enm a) ρ s = (ev G a ρ s).bind fun x s1 => match x with
    | .list xs => .ok (enmD 0 xs) s1
    | .tuple xs => .ok (enmD 0 xs) s1
    | _ => .bad := Eq.trans rfl rfl
@[simp] theorem evP_nil : evP G [] .nil ρ s = .ok [] s := Eq.trans rfl rfl
@[simp] theorem evP_val {i : Nat} {os : List (Nat × Bool)} : evP G ((i, false) :: os) (.cons e r) ρ s = (ev G e ρ s).bind fun d s1 => (evP G os r ρ s1).bind fun vs s2 => .ok (.val d :: vs) s2 := Eq.trans rfl rfl
@[simp] theorem evP_own {i : Nat} {os : List (Nat × Bool)} : evP G ((i, true) :: os) (.cons e r) ρ s = (ev G e ρ s).bind fun d s1 => match d with
    | .list ds => (evP G os r ρ s1).bind fun vs s2 => .ok (.own ds :: vs) s2
    | _ => .bad := Eq.trans rfl rfl
end
section
variable {G : Gam} {ρ : Env} {s : Dice} {c e : CE} {a b : CB} {st : CS} {i : Nat} {p : Pat}
@[simp] theorem xb_nil : xb G .nil ρ s = .nx ρ s := Eq.trans rfl rfl
@[simp] theorem xb_cons : xb G (.cons st a) ρ s = (xs G st ρ s).bind fun ρ' s' => xb G a ρ' s' := Eq.trans rfl rfl
@[simp] theorem xs_stop : xs G .stop ρ s = .bad := Eq.trans rfl rfl
@[simp] theorem xs_ex : xs G (.ex e) ρ s = (ev G e ρ s).out fun _ s1 => .nx ρ s1 := Eq.trans rfl rfl
@[simp] theorem xs_asg : xs G (.asg i e) ρ s = (ev G e ρ s).out fun d s1 => .opt (setS ρ i (.val d)) s1 := Eq.trans rfl rfl
@[simp] theorem xs_asgO : xs G (.asgO i e) ρ s = (ev G e ρ s).out fun d s1 => match d with
    | .list ds => .opt (setS ρ i (.own ds)) s1
    | _ => .bad := Eq.trans rfl rfl
@[simp] theorem xs_unp : xs G (.unp p e) ρ s = (ev G e ρ s).out fun d s1 => .opt (setP p d ρ) s1 := Eq.trans rfl rfl
@[simp] theorem xs_par {is : List (Nat × Bool)} {es : CL} : xs G (.par is es) ρ s = (evP G is es ρ s).out fun vs s1 => .opt (setSs (is.map (·.1)) vs ρ) s1 := Eq.trans rfl rfl
@[simp] theorem xs_app : xs G (.app i e) ρ s = match getO ρ i with
    | none => .bad
    | some _ => (ev G e ρ s).out fun d s1 => match getO ρ i with
      | some ds => if ds.length < sizeLine then .opt (setS ρ i (.own (ds ++ [d]))) s1 else .bad
      | none => .bad := Eq.trans rfl rfl
@[simp] theorem xs_pop : xs G (.popS p i) ρ s = match getO ρ i with
    | none => .bad
    | some ds => match ds.getLast? with
      | none => .bad
      | some d => (Out.opt (setS ρ i (.own ds.dropLast)) s).bind fun ρ1 s1 => .opt (setP p d ρ1) s1 := Eq.trans rfl rfl
@[simp] theorem xs_setI {k : CE} : xs G (.setI i k e) ρ s = (ev G e ρ s).out fun d s1 => match getO ρ i with
    | none => .bad
    | some ds => (ev G k ρ s1).out fun x s2 => match x with
      | .int n => match ixN ds.length n with
        | none => .bad
        | some j => .opt (setS ρ i (.own (ds.set j d))) s2
      | _ => .bad := Eq.trans rfl rfl
@[simp] theorem xs_dst {k : Bool} : xs G (.dst i k e) ρ s = (ev G e ρ s).out fun d s1 => match d with
    | .int v => if isDice ρ i = true then .nx ρ (dput k s1 v) else .bad
    | _ => .bad := Eq.trans rfl rfl
@[simp] theorem xs_ifs : xs G (.ifs c a b) ρ s = (ev G c ρ s).out fun d s1 => match d with
    | .bool true => xb G a ρ s1
    | .bool false => xb G b ρ s1
    | _ => .bad := Eq.trans rfl rfl
def stepF (G : Gam) (p : Pat) (b : CB) (d : D) (ρ : Env) (s : Dice) : Out := (Out.opt (setP p d ρ) s).bind fun ρ' s' => xb G b ρ' s'
@[simp] theorem xs_fors {it : CI} : xs G (.fors p it b) ρ s = (evI G it ρ s).out fun ds s1 => forL (stepF G p b) ds ρ s1 := Eq.trans rfl rfl
@[simp] theorem xs_whl : xs G (.whl c b) ρ s = whlL (fun ρ s => ev G c ρ s) (fun ρ s => xb G b ρ s) FUEL ρ s := Eq.trans rfl rfl
@[simp] theorem xs_ret : xs G (.ret e) ρ s = (ev G e ρ s).out fun d s1 => .ret d s1 := Eq.trans rfl rfl
@[simp] theorem xs_frz : xs G (.frz i) ρ s = match getO ρ i with
    | none => .nx ρ s
    | some ds => .opt (setS ρ i (.val (.list ds))) s := Eq.trans rfl rfl
end
/-! ### what stands in slots, by numerals -/
@[simp] theorem getV_0 {d : D} {ρ : Env} : getV (.val d :: ρ) 0 = some d := Eq.trans rfl rfl
@[simp] theorem getV_s {x : SV} {ρ : Env} {i : Nat} : getV (x :: ρ) (i + 1) = getV ρ i := Eq.trans rfl rfl
@[simp] theorem getB_0 {d : D} {ρ : Env} : getB (.val d :: ρ) 0 = some d := Eq.trans rfl rfl
@[simp] theorem getB_0o {d : List D} {ρ : Env} : getB (.own d :: ρ) 0 = some (.list d) := Eq.trans rfl rfl
@[simp] theorem getB_s {x : SV} {ρ : Env} {i : Nat} : getB (x :: ρ) (i + 1) = getB ρ i := Eq.trans rfl rfl
@[simp] theorem getO_0 {d : List D} {ρ : Env} : getO (.own d :: ρ) 0 = some d := Eq.trans rfl rfl
@[simp] theorem getO_0v {d : D} {ρ : Env} : getO (.val d :: ρ) 0 = none := Eq.trans rfl rfl
@[simp] theorem getO_s {x : SV} {ρ : Env} {i : Nat} : getO (x :: ρ) (i + 1) = getO ρ i := Eq.trans rfl rfl
@[simp] theorem isDice_0 {ρ : Env} : isDice (.dice :: ρ) 0 = true := Eq.trans rfl rfl
@[simp] theorem isDice_s {x : SV} {ρ : Env} {i : Nat} : isDice (x :: ρ) (i + 1) = isDice ρ i := Eq.trans rfl rfl
@[simp] theorem setS_0 {x v : SV} {ρ : Env} : setS (x :: ρ) 0 v = some (v :: ρ) := by
  unfold setS
  rw [if_pos (by simp)]
  rfl
@[simp] theorem setS_s {x v : SV} {ρ : Env} {i : Nat} : setS (x :: ρ) (i + 1) v = (setS ρ i v).map (x :: ·) := by
  unfold setS
  simp only [List.length_cons, Nat.add_lt_add_iff_right, List.set_cons_succ]
  split <;> rfl
theorem setP_one {i : Nat} {d : D} {ρ : Env} : setP (.one i) d ρ = setS ρ i (.val d) := Eq.trans rfl rfl
@[simp] theorem setP_1 {i : Nat} {d : D} {ρ : Env} : setP (.one i) d ρ = setS ρ i (.val d) := Eq.trans rfl rfl
@[simp] theorem setP_t {ps : PatL} {ds : List D} {ρ : Env} : setP (.tup ps) (.tuple ds) ρ = setPs ps ds ρ := Eq.trans rfl rfl
@[simp] theorem setPs_n {ρ : Env} : setPs .nil [] ρ = some ρ := Eq.trans rfl rfl
@[simp] theorem setPs_c {p : Pat} {r : PatL} {d : D} {ds : List D} {ρ : Env} : setPs (.cons p r) (d :: ds) ρ = (setP p d ρ).bind fun ρ' => setPs r ds ρ' := Eq.trans rfl rfl
@[simp] theorem setSs_n {ρ : Env} : setSs [] [] ρ = some ρ := Eq.trans rfl rfl
@[simp] theorem setSs_c {i : Nat} {r : List Nat} {v : SV} {vs : List SV} {ρ : Env} : setSs (i :: r) (v :: vs) ρ = (setS ρ i v).bind fun ρ' => setSs r vs ρ' := Eq.trans rfl rfl
@[simp] theorem wipeE_n {ρ : Env} : wipeE ρ [] = ρ := Eq.trans rfl rfl
@[simp] theorem wipeE_c {ρ : Env} {v : Nat} {vs : List Nat} : wipeE ρ (v :: vs) = (wipeE ρ vs).set v .no := Eq.trans rfl rfl
@[simp] theorem asBool_ok {b : Bool} {s : Dice} {f : Bool → Dice → Res D} : asBool (.ok (.bool b) s) f = f b s := Eq.trans rfl rfl
@[simp] theorem asBoolR_ok {α : Type} {b : Bool} {s : Dice} {f : Bool → Dice → Res α} : asBoolR (.ok (.bool b) s) f = f b s := Eq.trans rfl rfl
@[simp] theorem compL_nil {f : D → Dice → Res (Option D)} {n : Nat} {s : Dice} : compL [] f n s = .ok [] s := Eq.trans rfl rfl
@[simp] theorem forL_nil {f : D → Env → Dice → Out} {ρ : Env} {s : Dice} : forL f [] ρ s = .nx ρ s := Eq.trans rfl rfl
@[simp] theorem forL_cons {f : D → Env → Dice → Out} {d : D} {r : List D} {ρ : Env} {s : Dice} : forL f (d :: r) ρ s = (f d ρ s).bind fun ρ' s' => forL f r ρ' s' := Eq.trans rfl rfl
/-! ### ints -/
@[simp] theorem eqD_int {i j : Int} : eqD (.int i) (.int j) = some (decide (i = j)) := by
  unfold eqD
  rw [if_pos ⟨⟨rfl, rfl⟩, rfl, rfl⟩]
  show some (i == j) = _
  congr 1
@[simp] theorem cmp_eq {x y : D} : cmpD .eq x y = eqD x y := by cases x <;> cases y <;> rfl
@[simp] theorem cmp_ne {x y : D} : cmpD .ne x y = (eqD x y).map (!·) := by cases x <;> cases y <;> rfl
@[simp] theorem cmp_lt {i j : Int} : cmpD .lt (.int i) (.int j) = some (decide (i < j)) := Eq.trans rfl rfl
@[simp] theorem cmp_le {i j : Int} : cmpD .le (.int i) (.int j) = some (decide (i ≤ j)) := Eq.trans rfl rfl
@[simp] theorem cmp_gt {i j : Int} : cmpD .gt (.int i) (.int j) = some (decide (j < i)) := Eq.trans rfl rfl
@[simp] theorem cmp_ge {i j : Int} : cmpD .ge (.int i) (.int j) = some (decide (j ≤ i)) := Eq.trans rfl rfl
@[simp] theorem bin_add {i j : Int} : binD .add (.int i) (.int j) = some (.int (i + j)) := Eq.trans rfl rfl
@[simp] theorem bin_sub {i j : Int} : binD .sub (.int i) (.int j) = some (.int (i - j)) := Eq.trans rfl rfl
theorem bin_mul {i j : Int} (h : mulOk i j = true) : binD .mul (.int i) (.int j) = some (.int (i * j)) := by
  show (if mulOk i j = true then _ else _) = _
  rw [if_pos h]
theorem bin_mod {i j : Int} (h : 0 < j) : binD .mod (.int i) (.int j) = some (.int (i % j)) := by
  show (if 0 < j then _ else _) = _
  rw [if_pos h]
theorem bin_fdiv {i j : Int} (h : 0 < j) (h2 : j.natAbs < 2 ^ 4000) : binD .fdiv (.int i) (.int j) = some (.int (i / j)) := by
  show (if 0 < j ∧ j.natAbs < 2 ^ 4000 then _ else _) = _
  rw [if_pos ⟨h, h2⟩]
theorem small_4000 {j : Int} (h0 : 0 ≤ j) (h : j < 2 ^ 64) : j.natAbs < 2 ^ 4000 := by
  have e : (2 : Int) ^ 64 = 18446744073709551616 := by decide
  have e2 : (2 : Nat) ^ 64 = 18446744073709551616 := by decide
  have h1 : j.natAbs < 2 ^ 64 := by omega
  exact Nat.lt_of_lt_of_le h1 (Nat.pow_le_pow_right (by decide) (by decide))
theorem mulOk_l {i j : Int} (h0 : 0 ≤ i) (h : i < 2 ^ 64) : mulOk i j = true := by
  unfold mulOk
  have e : (2 : Int) ^ 64 = 18446744073709551616 := by decide
  have e2 : (2 : Nat) ^ 64 = 18446744073709551616 := by decide
  have : i.natAbs < 2 ^ 64 := by omega
  simp [this]
theorem mulOk_r {i j : Int} (h0 : 0 ≤ j) (h : j < 2 ^ 64) : mulOk i j = true := by
  unfold mulOk
  have e : (2 : Int) ^ 64 = 18446744073709551616 := by decide
  have e2 : (2 : Nat) ^ 64 = 18446744073709551616 := by decide
  have : j.natAbs < 2 ^ 64 := by omega
  simp [this]
end Co
namespace Co
open PySem PySem.Spec PyProof.Rows L2
theorem whl_t {c : Env → Dice → Res D} {f : Env → Dice → Out} {n : Nat} {ρ ρ' : Env} {s s1 s' : Dice} (hc : c ρ s = .ok (.bool true) s1) (hf : f ρ s1 = .nx ρ' s') : whlL c f (n + 1) ρ s = whlL c f n ρ' s' := by
  show ((c ρ s).out fun d s1 => match d with
    | .bool true => (f ρ s1).bind fun ρ' s' => whlL c f n ρ' s'
    | .bool false => .nx ρ s1
    | _ => .bad) = _
  rw [hc]
  show (f ρ s1).bind _ = _
  rw [hf]
  rfl
theorem whl_f {c : Env → Dice → Res D} {f : Env → Dice → Out} {n : Nat} {ρ : Env} {s s1 : Dice} (hc : c ρ s = .ok (.bool false) s1) : whlL c f (n + 1) ρ s = .nx ρ s1 := by
  show ((c ρ s).out fun d s1 => match d with
    | .bool true => (f ρ s1).bind fun ρ' s' => whlL c f n ρ' s'
    | .bool false => .nx ρ s1
    | _ => .bad) = _
  rw [hc]
  rfl
end Co
namespace Co
open PySem PySem.Spec PyProof.Rows L2
section
variable {G : Gam} {ρ ρ' : Env} {s s1 : Dice} {st : CS} {a b : CB} {d : D} {n : Nat} {vs : List SV}
theorem fn_ret (h : xb G b (vs ++ List.replicate (n - vs.length) .no) s = .ret d s1) : fnD G n b vs s = .ok d s1 := by
  unfold fnD
  rw [h]
theorem fn_nx (h : xb G b (vs ++ List.replicate (n - vs.length) .no) s = .nx ρ' s1) : fnD G n b vs s = .ok .none s1 := by
  unfold fnD
  rw [h]
theorem xb_step (h : xs G st ρ s = .nx ρ' s1) : xb G (.cons st a) ρ s = xb G a ρ' s1 := by
  rw [xb_cons, h]
  rfl
theorem xb_ret (h : xs G st ρ s = .ret d s1) : xb G (.cons st a) ρ s = .ret d s1 := by
  rw [xb_cons, h]
  rfl
end
@[simp] theorem abs_int {x : Int} : bltD .abs [.int x] = some (.int (if x < 0 then -x else x)) := Eq.trans rfl rfl
end Co
namespace Co
open PySem PySem.Spec PyProof.Rows L2
theorem sz_le {n : Nat} (h : n ≤ 100000) : n ≤ sizeLine := Nat.le_trans h (by decide)
theorem sz_lt {n : Nat} (h : n < 100000) : n < sizeLine := Nat.lt_of_lt_of_le h (by decide)
@[simp] theorem sz0 : (0 : Nat) ≤ sizeLine := by decide
@[simp] theorem sz1 : 1 ≤ sizeLine := by decide
@[simp] theorem sz2 : 2 ≤ sizeLine := by decide
@[simp] theorem sz3 : 3 ≤ sizeLine := by decide
@[simp] theorem sz4 : 4 ≤ sizeLine := by decide
@[simp] theorem sz5 : 5 ≤ sizeLine := by decide
@[simp] theorem sz6 : 6 ≤ sizeLine := by decide
@[simp] theorem sz7 : 7 ≤ sizeLine := by decide
@[simp] theorem sz8 : 8 ≤ sizeLine := by decide
@[simp] theorem sy0 : 0 < sizeLine := by decide
@[simp] theorem sy1 : 1 < sizeLine := by decide
@[simp] theorem sy2 : 2 < sizeLine := by decide
@[simp] theorem sy3 : 3 < sizeLine := by decide
@[simp] theorem sy4 : 4 < sizeLine := by decide
@[simp] theorem sy5 : 5 < sizeLine := by decide
@[simp] theorem sy6 : 6 < sizeLine := by decide
end Co
namespace Co
open PySem PySem.Spec PyProof.Rows L2
@[simp] theorem compL_cons {f : D → Dice → Res (Option D)} {d : D} {r : List D} {n : Nat} {s : Dice} : compL (d :: r) f n s = (f d s).bind fun o s1 => match o with
    | none => compL r f n s1
    | some x => if n < sizeLine then (compL r f (n + 1) s1).bind fun l s2 => .ok (x :: l) s2 else .bad := Eq.trans rfl rfl
@[simp] theorem nox_bind {α β : Type} {r : Res α} {s : Dice} {a : α} {f : α → Dice → Res β} : (Res.ok a s).nox = .ok a s := Eq.trans rfl rfl
@[simp] theorem blt_isInt_i {i : Int} : bltD .isInt [.int i] = some (.bool true) := Eq.trans rfl rfl
@[simp] theorem blt_isBool_i {i : Int} : bltD .isBool [.int i] = some (.bool false) := Eq.trans rfl rfl
@[simp] theorem blt_len_l {xs : List D} : bltD .len [.list xs] = some (.int xs.length) := Eq.trans rfl rfl
@[simp] theorem blt_len_t {xs : List D} : bltD .len [.tuple xs] = some (.int xs.length) := Eq.trans rfl rfl
@[simp] theorem blt_tuple_l {xs : List D} : bltD .tuple [.list xs] = some (.tuple xs) := Eq.trans rfl rfl
@[simp] theorem blt_isTuple_t {xs : List D} : bltD .isTuple [.tuple xs] = some (.bool true) := Eq.trans rfl rfl
@[simp] theorem blt_max2 {i j : Int} : bltD .max [.int i, .int j] = some (.int (if i < j then j else i)) := Eq.trans rfl rfl
@[simp] theorem blt_max3 {i j k : Int} : bltD .max [.int i, .int j, .int k] = some (.int (maxI i [j, k])) := Eq.trans rfl rfl
@[simp] theorem blt_min2 {i j : Int} : bltD .min [.int i, .int j] = some (.int (if j < i then j else i)) := Eq.trans rfl rfl
@[simp] theorem blt_all_l {xs : List D} : bltD .all [.list xs] = (boolsD xs).map fun bs => .bool (bs.all id) := Eq.trans rfl rfl
@[simp] theorem blt_any_l {xs : List D} : bltD .any [.list xs] = (boolsD xs).map fun bs => .bool (bs.any id) := Eq.trans rfl rfl
@[simp] theorem blt_sum_l {xs : List D} : bltD .sum [.list xs] = (intsD xs).map fun ns => .int ns.sum := Eq.trans rfl rfl
@[simp] theorem boolsD_n : boolsD [] = some [] := Eq.trans rfl rfl
@[simp] theorem boolsD_c {b : Bool} {r : List D} : boolsD (.bool b :: r) = (boolsD r).map (b :: ·) := Eq.trans rfl rfl
@[simp] theorem intsD_n : intsD [] = some [] := Eq.trans rfl rfl
@[simp] theorem intsD_c {b : Int} {r : List D} : intsD (.int b :: r) = (intsD r).map (b :: ·) := Eq.trans rfl rfl
end Co
namespace Co
open PySem PySem.Spec PyProof.Rows L2
theorem compL_all {g : D → Dice → Res (Option D)} {s : Dice} : ∀ {ds xs : List D} {n : Nat}, Paired (fun d x => g d s = .ok (some x) s) ds xs → n + ds.length ≤ sizeLine → compL ds g n s = .ok xs s
  | _, _, _, .nil, _ => rfl
  | d :: ds, x :: xs, n, .cons h r, hz => by
    rw [compL_cons, h]
    rw [List.length_cons] at hz
    show (if n < sizeLine then _ else _) = _
    rw [if_pos (by omega), compL_all r (by omega)]
    rfl
theorem compL_filter {α : Type} {g : D → Dice → Res (Option D)} {s : Dice} {f : α → D} {P : α → Bool} : ∀ {xs : List α} {n : Nat}, (∀ x ∈ xs, g (f x) s = .ok (if P x = true then some (f x) else none) s) → n + xs.length ≤ sizeLine → compL (xs.map f) g n s = .ok ((xs.filter P).map f) s
  | [], _, _, _ => rfl
  | x :: xs, n, h, hz => by
    rw [List.length_cons] at hz
    rw [List.map_cons, compL_cons, h x (List.mem_cons_self ..)]
    by_cases hp : P x = true
    · rw [if_pos hp]
      show (if n < sizeLine then _ else _) = _
      rw [if_pos (by omega), compL_filter (fun y hy => h y (List.mem_cons_of_mem _ hy)) (by omega), List.filter_cons, if_pos hp]
      rfl
    · rw [if_neg hp]
      show compL _ _ _ _ = _
      rw [compL_filter (fun y hy => h y (List.mem_cons_of_mem _ hy)) (by omega), List.filter_cons, if_neg hp]
end Co

/-! Core 17: the laws' own cells. -/
namespace Co
open PySem PySem.Spec PyProof.Rows L2
variable [TabT]

/-- a cell: some int -/
def spCell (K : PySem.W.Frag) : Sp := fun vs H Q _ => ∃ (a : Addr) (ns : List Int) (k : Nat), vs = [.ref a, .int k] ∧ SqL K H a (ns.map V.int) ∧ ns.length ≤ 63 ∧ k < 100 ∧ ∀ (c : Int) (H' : Hp), Same H H' → Q (.int c) H'
def cellB (p1 p2 p3 p4 p5 p6 p7 p8 p9 p10 p11 p12 p13 p14 p15 p16 p17 p18 p19 p20 p21 p22 p23 p24 : Pos) (k1 k2 : Nat) : List Stmt :=
  [.If (.Compare (.Name "_law_script" p1) [.Eq] [.List [] p2] p3) [.Return (some (.BinOp (.Name "_law_k" p4) .Mult (.Constant (.int 7919) k1 p5) p6)) p7] [] p8,
   .Return (some (.BinOp (.Subscript (.Name "_law_script" p9) (.BinOp (.Name "_law_k" p10) .Mod (.Call (.Name "len" p11) [.Name "_law_script" p12] [] p13) p14) p15) .Add
     (.BinOp (.BinOp (.Name "_law_k" p16) .FloorDiv (.Call (.Name "len" p17) [.Name "_law_script" p18] [] p19) p20) .Mult (.Constant (.int 104729) k2 p21) p22) p23)) p24]
theorem ints_dp {K : PySem.W.Frag} {H : Hp} : ∀ ns : List Int, DpAll K H (ns.map V.int) (ns.map PyData.int)
  | [] => .nil
  | n :: ns => .cons (.int n) (ints_dp ns)
theorem ints_shaped (ns : List Int) : SeqAt.shaped (.list (ns.map PyData.int)) = true := by
  unfold SeqAt.shaped
  rw [Bool.and_eq_true]
  constructor
  · induction ns with
    | nil => rfl
    | cons n ns ih => exact ih
  · rw [decide_eq_true_eq]
    have : ∀ ns : List Int, PyData.depthAll (ns.map PyData.int) = 0 := fun ns => by
      induction ns with
      | nil => rfl
      | cons n ns ih =>
        show max 0 (PyData.depthAll (ns.map PyData.int)) = 0
        rw [ih]
        rfl
    show PyData.depthAll (ns.map PyData.int) + 1 ≤ 64
    rw [this]
    decide
theorem same_fresh {H : Hp} {p : Addr} {o : HO} (h : H p = none) : Same H (upd H p o) := fun b x e => by
  by_cases hb : b = p
  · rw [hb, h] at e; cases e
  · rw [upd_ne hb]; exact e
theorem sql_mono {K : PySem.W.Frag} {H H' : Hp} {a : Addr} {xs : List V} (s : Same H H') (h : SqL K H a xs) : SqL K H' a xs := by
  rcases h with (h | ⟨o, h⟩) | h
  · exact .inl (.inl (s _ _ h))
  · exact .inl (.inr ⟨o, s _ _ h⟩)
  · exact .inr h
section
variable {P : Program} {w : World} {K : PySem.W.Frag} {mg : Str → Option Value} {base : Heap} {params : Arguments} {body : List Stmt} {scope : Scope} {f : Addr} {fd : FuncData} {dvs : List V} {kws : List (Str × V)}
theorem ok_cell (F : FunD K "_law_cell" "_law_cell" params body scope dvs kws f fd) (S0 : FnScope ["_law_script", "_law_k"] ["_law_script", "_law_k"] scope) (hb : Bls mg)
    (l1 : scope.names.lookup ("_law_script" : Str) = some .local) (l2 : scope.names.lookup ("_law_k" : Str) = some .local) (l3 : scope.names.lookup ("len" : Str) = some .globalImplicit)
    {p1 p2 p3 p4 p5 p6 p7 p8 p9 p10 p11 p12 p13 p14 p15 p16 p17 p18 p19 p20 p21 p22 p23 p24 : Pos} {k1 k2 : Nat} (hB : body = cellB p1 p2 p3 p4 p5 p6 p7 p8 p9 p10 p11 p12 p13 p14 p15 p16 p17 p18 p19 p20 p21 p22 p23 p24 k1 k2) :
    FnOk P w K mg base (L2N.CX P w) 2 f fd ["_law_script", "_law_k"] (spCell K) := by
  subst hB
  refine F.ok S0 (fun vs H Q E ⟨a, ns, k, e, _⟩ => by rw [e]; rfl) fun cdv A outer s0 H vs Q E hr ⟨a, ns, k, e, hs, hl, hk, q⟩ => ?_
  subst e
  generalize hX : cxOf (L2N.CX P w) P w K mg base ["_law_script", "_law_k"] "_law_cell" scope f cdv A outer s0 H E = X
  have un : X.A.units + 64 < cLine := by
    subst hX
    have := hr.un
    show (A.deeper (envOfC "_law_cell" scope s0.heap.objs.size f cdv)).units + 64 < cLine
    omega
  have v1 : ∀ {p : Pos}, PE X (.Name "_law_script" p) (tVar 0) := by subst hX; exact fun {p} => pe_var rfl (.inl l1)
  have v2 : ∀ {p : Pos}, PE X (.Name "_law_k" p) (tVar 1) := by subst hX; exact fun {p} => pe_var rfl (.inl l2)
  have gl : Gl X "len" := by subst hX; exact l3
  have ml : X.mg "len" = none := by subst hX; exact hb _ (by decide)
  have eK : X.K = K := by subst hX; rfl
  have len : ∀ {p p' p'' : Pos}, PE X (.Call (.Name "len" p) [.Name "_law_script" p'] [] p'') (tCB (fun xs H Q => ∃ x n, xs = [x] ∧ LenV X.K x H n ∧ Q (.int n) H) (tCons (tVar 0) tNil)) := fun {p p' p''} => pe_callB call_len gl ml boot_len (pa_cons v1 pa_nil)
  refine ⟨_, pss_cons (ps_if (pt_cmpR (op_eqD un) v1 (pe_lst pa_nil) rfl) (pss_cons (ps_ret (pe_op op_mul v2 pe_int)) pss_nil) pss_nil) (pss_cons (ps_ret (pe_op op_add (pe_ix ix_list v1 (pe_op op_mod v2 len) fun _ _ => rfl) (pe_op op_mul (pe_op op_fdiv v2 len) pe_int))) pss_nil), ?_⟩
  rw [eK]
  refine ⟨_, rfl, by decide, fun l hl' => ⟨.list (ns.map PyData.int), .list [], .lst ?_ (ints_dp ns), .lst (.of upd_same) .nil, ints_shaped ns, rfl, ?_⟩⟩
  · exact sql_mono (same_fresh hl') hs
  · have sm := same_fresh (o := .lst []) hl'
    have hs' := sql_mono sm hs
    have hn : (ns.map V.int).length = ns.length := List.length_map ..
    cases ns with
    | nil => exact ⟨true, rfl, iteT ⟨_, rfl, _, _, rfl, rfl, .inr (by decide), q _ _ sm⟩⟩
    | cons n ns =>
      refine ⟨false, rfl, iteF ?_⟩
      have h0 : 0 < ((n :: ns).map V.int).length := by rw [hn]; simp
      have a0 : 0 ≤ (k : Int) % (((n :: ns).map V.int).length : Int) := Int.emod_nonneg _ (by omega)
      have a1 : (k : Int) % (((n :: ns).map V.int).length : Int) < (((n :: ns).map V.int).length : Int) := Int.emod_lt_of_pos _ (by omega)
      have h1 : ((k : Int) % (((n :: ns).map V.int).length : Int)).toNat < ((n :: ns).map V.int).length := by omega
      obtain ⟨z, hz⟩ : ∃ z, atI ((n :: ns).map V.int) ((k : Int) % (((n :: ns).map V.int).length : Int)) = some (.int z) := by
        unfold atI ixN
        rw [if_pos a0, if_pos a1]
        simp only [Option.bind_some, List.getElem?_map]
        have h2 : ((k : Int) % (((n :: ns).map V.int).length : Int)).toNat < (n :: ns).length := by rw [hn] at h1 ⊢; exact h1
        rw [List.getElem?_eq_getElem h2]
        exact ⟨_, rfl⟩
      refine ⟨_, rfl, _, rfl, _, rfl, _, _, rfl, .inl ⟨_, hs', rfl⟩, _, _, rfl, rfl, by omega, _, _, _, _, rfl, rfl, hs', hz, ?_⟩
      refine ⟨_, rfl, _, rfl, _, _, rfl, .inl ⟨_, hs', rfl⟩, _, _, rfl, rfl, ⟨by omega, by omega⟩, _, _, rfl, rfl, .inr (by decide), _, _, rfl, rfl, q _ _ sm⟩
/-- what the rounds leave: new lists of two ints -/
structure RoundsAt (H H' : Hp) (r : Addr) (ds : List Addr) : Prop where
  sm : Same H H'
  fr : H r = none
  at_ : H' r = some (.lst (ds.map V.ref))
  nd : ds.Nodup
  di : ∀ d ∈ ds, H d = none ∧ d ≠ r ∧ ∃ c : Int, H' d = some (.lst [.int c, .int 0])
def spRounds (K : PySem.W.Frag) : Sp := fun vs H Q _ => ∃ (a : Addr) (ns : List Int) (m : Int), vs = [.ref a, .int m] ∧ SqL K H a (ns.map V.int) ∧ ns.length ≤ 63 ∧ 1 ≤ m ∧ m ≤ 50 ∧ ∀ r ds H', RoundsAt H H' r ds → Q (.ref r) H'
def roundsE (p1 p2 p3 p4 p5 p6 p7 p8 p9 p10 p11 p12 p13 p14 p15 p16 p17 p18 p19 : Pos) (k1 k2 : Nat) (sc : Scope) : List Stmt :=
  [.Return (some (.ListComp (.List [.Call (.Name "_law_cell" p1) [.Name "_law_script" p2, .Name "_law_k" p3] [] p4, .Constant (.int 0) k1 p5] p6)
    [⟨.Name "_law_k" p7, .Call (.Name "range" p8) [.Call (.Name "max" p9) [.Constant (.int 1) k2 p10, .Call (.Name "min" p11) [.Name "_law_most" p12, .Call (.Name "len" p13) [.Name "_law_script" p14] [] p15] [] p16] [] p17] [] p18, [], 0⟩] sc p19)) p19]
end
section
variable {P : Program} {w : World} {K : PySem.W.Frag} {mg : Str → Option Value} {base : Heap} {params : Arguments} {body : List Stmt} {scope sc : Scope} {f fC : Addr} {fd fdC : FuncData} {dvs : List V} {kws : List (Str × V)}
theorem ok_rounds (F : FunD K "_law_rounds" "_law_rounds" params body scope dvs kws f fd) (S0 : FnScope ["_law_script", "_law_most", "_law_k"] ["_law_script", "_law_most"] scope) (hb : Bls mg)
    (l1 : scope.names.lookup ("_law_script" : Str) = some .cell) (l2 : scope.names.lookup ("_law_most" : Str) = some .local) (l3 : ∀ x ∈ (["range", "max", "min", "len"] : List Str), scope.names.lookup x = some .globalImplicit)
    (ok : BlkOk ["_law_script", "_law_most", "_law_k"] scope sc [("_law_k", 2)])
    (m1 : (relS sc scope).names.lookup ("_law_script" : Str) = some .free ∨ (relS sc scope).names.lookup ("_law_script" : Str) = some .cell) (m2 : (relS sc scope).names.lookup ("_law_k" : Str) = some .local) (m3 : (relS sc scope).names.lookup ("_law_cell" : Str) = some .globalImplicit)
    (FC : FnOk P w K mg base (L2N.CX P w) 2 fC fdC ["_law_script", "_law_k"] (spCell K)) (mC : mg "_law_cell" = some (.ref fC)) (kC : PySem.W.keepIn K (.ref fC) = true) (bC : Binds K fdC ["_law_script", "_law_k"] [])
    {p1 p2 p3 p4 p5 p6 p7 p8 p9 p10 p11 p12 p13 p14 p15 p16 p17 p18 p19 p20 : Pos} {k1 k2 : Nat} (hB : body = [.Return (some (.ListComp (.List [.Call (.Name "_law_cell" p1) [.Name "_law_script" p2, .Name "_law_k" p3] [] p4, .Constant (.int 0) k1 p5] p6)
    [⟨.Name "_law_k" p7, .Call (.Name "range" p8) [.Call (.Name "max" p9) [.Constant (.int 1) k2 p10, .Call (.Name "min" p11) [.Name "_law_most" p12, .Call (.Name "len" p13) [.Name "_law_script" p14] [] p15] [] p16] [] p17] [] p18, [], 0⟩] sc p19)) p20]) :
    FnOk P w K mg base (L2N.CX P w) 3 f fd ["_law_script", "_law_most"] (spRounds K) := by
  subst hB
  refine F.ok S0 (fun vs H Q E ⟨a, ns, k, e, _⟩ => by rw [e]; rfl) fun cdv A outer s0 H vs Q E hr ⟨a, ns, m, e, hs, hl, hm1, hm2, q⟩ => ?_
  subst e
  generalize hX : cxOf (L2N.CX P w) P w K mg base ["_law_script", "_law_most", "_law_k"] "_law_rounds" scope f cdv A outer s0 H E = X
  have hcalm : X.calm = true := by subst hX; rfl
  have hN : X.N = (["_law_script", "_law_most", "_law_k"] : List Str) := by subst hX; rfl
  have hNd : X.N.Nodup := by rw [hN]; exact S0.nd
  have hsc : X.env.scope = scope := by subst hX; rfl
  have v1 : ∀ {p : Pos}, PE X (.Name "_law_script" p) (tVar 0) := by subst hX; exact fun {p} => pe_var rfl (.inr (.inl l1))
  have v2 : ∀ {p : Pos}, PE X (.Name "_law_most" p) (tVar 1) := by subst hX; exact fun {p} => pe_var rfl (.inl l2)
  have gl : ∀ x ∈ (["range", "max", "min", "len"] : List Str), Gl X x := by subst hX; exact l3
  have mm : X.mg = mg := by subst hX; rfl
  have eK : X.K = K := by subst hX; rfl
  have bl : ∀ s H' C cl fp, (∀ {p : Pos}, PE (X.blk s H' sc (compEnvC sc cl C X.env) fp) (.Name "_law_script" p) (tVar 0)) ∧ (∀ {p : Pos}, PE (X.blk s H' sc (compEnvC sc cl C X.env) fp) (.Name "_law_k" p) (tVar 2)) ∧ PG (X.blk s H' sc (compEnvC sc cl C X.env) fp) (.Name "_law_k" p7) (gName 2) ∧
      PE (X.blk s H' sc (compEnvC sc cl C X.env) fp) (.Call (.Name "_law_cell" p1) [.Name "_law_script" p2, .Name "_law_k" p3] [] p4) (tCall (spCell K) [] (fun _ _ _ => False) (tCons (tVar 0) (tCons (tVar 2) tNil))) := by
    intro s H' C cl fp
    have w1 : ∀ {p : Pos}, PE (X.blk s H' sc (compEnvC sc cl C X.env) fp) (.Name "_law_script" p) (tVar 0) := fun {p} => pe_var (by rw [hN]; rfl) (by
      show L2.Vis (relS sc X.env.scope) _
      rw [hsc]
      exact .inr m1.symm)
    have w2 : ∀ {p : Pos}, PE (X.blk s H' sc (compEnvC sc cl C X.env) fp) (.Name "_law_k" p) (tVar 2) := fun {p} => pe_var (by rw [hN]; rfl) (by
      show L2.Vis (relS sc X.env.scope) _
      rw [hsc]
      exact .inl m2)
    have hl2 : (X.blk s H' sc (compEnvC sc cl C X.env) fp).env.scope.names.lookup ("_law_k" : Str) = some .local := by
      show (relS sc X.env.scope).names.lookup _ = _
      rw [hsc]
      exact m2
    refine ⟨w1, w2, pg_name hNd (by rw [hN]; rfl) (.inl hl2) (.inr hl2), ?_⟩
    refine pe_call (CX := L2N.CX P w) (k := 2) (f := fC) (fd := fdC) (ps := ["_law_script", "_law_k"]) (ds := []) ?_ ?_ ?_ ?_ ?_ ?_ .nil ?_ (pa_cons w1 (pa_cons w2 pa_nil))
    · subst hX; exact FC
    · subst hX; exact hr
    · show (relS sc X.env.scope).names.lookup _ = _
      rw [hsc]
      exact m3
    · rw [show (X.blk s H' sc (compEnvC sc cl C X.env) fp).mg = mg from mm]; exact mC
    · rw [show (X.blk s H' sc (compEnvC sc cl C X.env) fp).K = K from eK]; exact kC
    · rw [show (X.blk s H' sc (compEnvC sc cl C X.env) fp).K = K from eK]; exact bC
    · intro _ _ _ _ _ _ _ h
      obtain ⟨_, _, _, _, _, _, _, _, _, _, _, _, z⟩ := h
      exact z.elim
  refine ⟨_, pss_cons (ps_ret (pe_lc hcalm hNd (pi_range1 (gl _ (by decide)) (by rw [mm]; exact hb _ (by decide)) (pa_cons (pe_callB (call_max2 hcalm) (gl _ (by decide)) (by rw [mm]; exact hb _ (by decide)) (by decide +kernel) (pa_cons pe_int (pa_cons (pe_callB (call_min2 hcalm) (gl _ (by decide)) (by rw [mm]; exact hb _ (by decide)) (by decide +kernel) (pa_cons v2 (pa_cons (pe_callB call_len (gl _ (by decide)) (by rw [mm]; exact hb _ (by decide)) boot_len (pa_cons v1 pa_nil)) pa_nil))) pa_nil))) pa_nil)) (by rw [hN, hsc]; exact ok)
    (fun s H' C cl fp => (bl s H' C cl fp).2.2.1) (fun s H' C cl fp => pts_nil) (fun s H' C cl fp => pe_lst (pa_cons (bl s H' C cl fp).2.2.2 (pa_cons pe_int pa_nil))))) pss_nil, ?_⟩
  have e1 : (L2.start (["_law_script", "_law_most", "_law_k"] : List Str) [.ref a, .int m]) = [some (.ref a), some (.int m), none] := rfl
  rw [e1, eK]
  have hn : (ns.map V.int).length = ns.length := List.length_map ..
  refine ⟨_, rfl, _, rfl, _, _, rfl, .inl ⟨_, hs, rfl⟩, _, _, rfl, _, _, rfl, _, rfl, ?_, ?_, ?_⟩
  · split <;> split <;> omega
  · split <;> split <;> omega
  generalize hj : (if (if ((ns.map V.int).length : Int) < m then ((ns.map V.int).length : Int) else m) > 1 then (if ((ns.map V.int).length : Int) < m then ((ns.map V.int).length : Int) else m) else 1) = j
  have hj1 : j.toNat ≤ 50 := by
    rw [← hj]
    have : (if ((ns.map V.int).length : Int) < m then ((ns.map V.int).length : Int) else m) ≤ 50 := by split <;> omega
    split <;> omega
  intro L hL
  refine ⟨fun i k H' => k = j.toNat - i ∧ i ≤ j.toNat ∧ ∃ ds : List Addr, ds.length = i ∧ H' L = some (.lst (ds.map V.ref)) ∧ Same H H' ∧ ds.Nodup ∧ ∀ d ∈ ds, H d = none ∧ d ≠ L ∧ ∃ c : Int, H' d = some (.lst [.int c, .int 0]),
    ⟨j.toNat, by simp, Nat.zero_le _, [], rfl, upd_same, same_fresh hL, List.nodup_nil, fun d hd => by cases hd⟩, ?_⟩
  rintro i k H' ⟨rfl, hi, ds, hdl, hLs, sm, nd, hd⟩
  by_cases hlt : i < j.toNat
  · refine .inr ⟨by subst hj; exact hlt, fun H2 => ∃ ds : List Addr, ds.length = i + 1 ∧ H2 L = some (.lst (ds.map V.ref)) ∧ Same H H2 ∧ ds.Nodup ∧ ∀ d ∈ ds, H d = none ∧ d ≠ L ∧ ∃ c : Int, H2 d = some (.lst [.int c, .int 0]),
      fun H2 h2 => ⟨j.toNat - (i + 1), by omega, rfl, hlt, h2⟩, ?_⟩
    rintro x H2 ⟨rfl, rfl⟩
    refine ⟨rfl, ?_⟩
    unfold tYes
    dsimp only
    rw [if_pos rfl]
    refine ⟨_, rfl, _, rfl, a, ns, i, by simp, sql_mono sm hs, hl, by omega, fun c H3 sm3 => ⟨show 2 ≤ sizeLine by decide, fun p hp => ?_⟩⟩
    have hp0 : H2 p = none := by
      cases q' : H2 p with
      | none => rfl
      | some y => rw [sm3 _ _ q'] at hp; cases hp
    have hpH : H p = none := by
      cases q' : H p with
      | none => rfl
      | some y => rw [sm _ _ q'] at hp0; cases hp0
    have hpL : p ≠ L := fun e => by rw [e, hLs] at hp0; cases hp0
    refine ⟨ds.map V.ref, by rw [upd_ne (Ne.symm hpL)]; exact sm3 _ _ hLs, by rw [List.length_map, hdl]; exact Nat.lt_of_lt_of_le (Nat.lt_of_lt_of_le hlt hj1) (by decide), ds ++ [p], by rw [List.length_append, hdl]; rfl, by rw [upd_same, List.map_append]; rfl, ?_, ?_, ?_⟩
    · intro b o e
      have hbL : b ≠ L := fun z => by rw [z, hL] at e; cases e
      have hbp : b ≠ p := fun z => by rw [z, hpH] at e; cases e
      rw [upd_ne hbL, upd_ne hbp]
      exact sm3 _ _ (sm _ _ e)
    · rw [List.nodup_append]
      refine ⟨nd, by simp, fun b hb b' hb' => ?_⟩
      have : b' = p := by simpa using hb'
      subst this
      intro e
      subst e
      obtain ⟨_, _, c', hc'⟩ := hd _ hb
      rw [hp0] at hc'
      cases hc'
    · intro d hd'
      rcases List.mem_append.mp hd' with h | h
      · obtain ⟨h1, h2, c', hc'⟩ := hd d h
        refine ⟨h1, h2, c', ?_⟩
        have hdp : d ≠ p := fun z => by rw [z, hp0] at hc'; cases hc'
        rw [upd_ne h2, upd_ne hdp]
        exact sm3 _ _ hc'
      · have : d = p := by simpa using h
        subst this
        exact ⟨hpH, hpL, c, by rw [upd_ne hpL, upd_same]⟩
  · exact .inl ⟨by subst hj; exact Nat.le_of_not_lt hlt, q L ds H' ⟨sm, hL, hLs, nd, hd⟩⟩
end
end Co

/-! Core 18: a law's def. -/
namespace Co
open PySem PySem.Spec PyProof.Rows L2
variable [TabT]
theorem pss_len {X : Cx} {sts : List Stmt} {t : TS} (h : PSs X sts t) : PSs X sts (fun D σ H => t { D with nx := fun σ' H' => σ'.length = X.N.length → D.nx σ' H' } σ H) :=
  ⟨fun pins s σ H D I q => wpAny_mono (h.run pins s σ H _ I q) (fun fl s' hs => by
    cases fl with
    | next =>
      obtain ⟨σ', H', I', q'⟩ := hs
      exact ⟨σ', H', I', q' I'.len⟩
    | ret u => exact hs
    | brk => exact hs
    | cont => exact hs) fun _ _ z => z⟩
def spLaw (K : PySem.W.Frag) : Sp := fun vs H Q _ => ∃ (a : Addr) (ns : List Int), vs = [.ref a] ∧ SqL K H a (ns.map V.int) ∧ ns.length ≤ 63 ∧ LamX.Tabs TabT.ts H ∧ ∀ H', Q (.bl true) H'
/-- the slots at a round's begin -/
def diceEnv (n i : Nat) : Env := (List.replicate n SV.no).set i .dice
theorem diceEnv_get {n i j : Nat} {x : SV} (h : (diceEnv n i)[j]? = some x) : (j = i ∧ x = .dice) ∨ x = .no := by
  unfold diceEnv at h
  by_cases hj : j = i
  · subst hj
    have hl : j < n := by
      have := (List.getElem?_eq_some_iff.mp h).1
      rwa [List.length_set, List.length_replicate] at this
    rw [List.getElem?_set_self (by rw [List.length_replicate]; exact hl)] at h
    cases h
    exact .inl ⟨rfl, rfl⟩
  · rw [List.getElem?_set_ne (Ne.symm hj)] at h
    exact .inr (List.eq_of_mem_replicate (List.mem_of_getElem? h))
theorem diceEnv_ne {n i j : Nat} {d : D} (h : (diceEnv n i)[j]? = some (.val d)) : False := by
  rcases diceEnv_get h with ⟨_, e⟩ | e <;> cases e
theorem diceEnv_own {n i j : Nat} {d : List D} (h : (diceEnv n i)[j]? = some (.own d)) : False := by
  rcases diceEnv_get h with ⟨_, e⟩ | e <;> cases e
theorem diceEnv_at {n i j : Nat} (h : (diceEnv n i)[j]? = some .dice) : j = i := by
  rcases diceEnv_get h with ⟨e, _⟩ | e
  · exact e
  · cases e
theorem okN_lt {S : Sc} {i : Nat} {x : Str} (h : okN S i x = true) : i < S.N.length := by
  unfold okN at h
  have := of_decide_eq_true (an (an (an h).1).1).1
  exact (List.getElem?_eq_some_iff.mp this).1
section
variable {P : Program} {w : World} {K : PySem.W.Frag} {mg : Str → Option Value} {base : Heap} {params : Arguments} {body : List Stmt} {scope : Scope} {f fR : Addr} {fd fdR : FuncData} {dvs : List V} {kws : List (Str × V)} {G : Gam} {cl : Str → Addr} {k : Nat} {fs : List (Str × Nat)} {cs : List (Str × Int)} {N : List Str}
theorem ok_lawX {xs : List Str} {tl : Bool} (F : FunD K "law" "law" params body scope dvs kws f fd) (S0 : FnScope N ["_law_script"] scope) (hf : Fnz P w K mg base G cl k fs) (hb : Bls mg) (hc : Css mg cs) (hx : Rxs K mg cl xs) (hk3 : 3 ≤ k)
    (FR : FnOk P w K mg base (L2N.CX P w) 3 fR fdR ["_law_script", "_law_most"] (spRounds K)) (mR : mg "_law_rounds" = some (.ref fR)) (kR : PySem.W.keepIn K (.ref fR) = true) (bR : Binds K fdR ["_law_script", "_law_most"] [])
    (ht : tl = true → ∀ (cdv : Value) (A : Around) (outer : List PySem.Env) (s : Shared) (H : Hp) (E : XK), (∃ oc od dV kV doc pm an ct osl, fd = PySem.W.fnOf "law" "law" params body scope dV kV doc pm an cdv ct ∧ K.lookup f = some ⟨oc, od, .func fd, osl⟩ ∧ PySem.W.codeIn K cdv "law" = true) → Room k (A.deeper (envOfC "law" scope s.heap.objs.size f cdv)) →
      ToldC (cxOf (L2N.CX P w) P w K mg base N "law" scope f cdv A outer s H E) G cl ⟨scope, N, fun _ => true, fs, cs, xs, tl⟩)
    {p1 p2 p3 p4 p5 p6 p7 p8 : Pos} {k1 k2 : Nat} {m : Int} {BODY : List Stmt} {core : CB} {i : Nat} (hB : body = [.For (.Name "_law_dice" p1) (.Call (.Name "_law_rounds" p2) [.Name "_law_script" p3, .Constant (.int m) k1 p4] [] p5) BODY [] p6, .Return (some (.Constant (.bool true) k2 p7)) p8])
    (hm1 : 1 ≤ m) (hm2 : m ≤ 50) (hcore : okBk ⟨scope, N, fun _ => true, fs, cs, xs, tl⟩ core BODY = true) (hi : okL ⟨scope, N, fun _ => true, fs, cs, xs, tl⟩ i "_law_dice" = true) (hsc : okN ⟨scope, N, fun _ => true, fs, cs, xs, tl⟩ 0 "_law_script" = true) (gR : glC ⟨scope, N, fun _ => true, fs, cs, xs, tl⟩ "_law_rounds" = true)
    (pure : ∀ s, ∃ ρ' s', xb G core (diceEnv N.length i) s = .nx ρ' s') :
    FnOk P w K mg base (L2N.CX P w) (k + 1) f fd ["_law_script"] (spLaw K) := by
  subst hB
  obtain ⟨oc, od, dV, kV, doc, pm, an, cdv, ct, osl, efd, lk, hcd, _, _⟩ := F.ex
  have efd' := efd
  subst efd
  refine fn_of lk hcd S0 (fun vs H Q E ⟨a, ns, e, _⟩ => by rw [e]; rfl) fun A outer s0 H vs Q E hr ⟨a, ns, e, hs, hl, hT, q⟩ => ?_
  subst e
  have C0 := ccOf (cl := cl) (G := G) (xs := xs) (tl := tl) S0 hf hb hc hx (cdv := cdv) (A := A) (outer := outer) (s := s0) (H := H) (E := E) (qual := "law") (f := f) hr fun z => ht z cdv A outer s0 H E ⟨oc, od, dV, kV, doc, pm, an, ct, osl, rfl, lk, hcd⟩ hr
  generalize hX : cxOf (L2N.CX P w) P w K mg base N "law" scope f cdv A outer s0 H E = X at C0
  have C := C0.c
  have eK : X.K = K := by subst hX; rfl
  have eN : X.N = N := by subst hX; rfl
  have v1 : ∀ {p : Pos}, PE X (.Name "_law_script" p) (tVar 0) := nm C hsc
  have call : PE X (.Call (.Name "_law_rounds" p2) [.Name "_law_script" p3, .Constant (.int m) k1 p4] [] p5) (tCall (spRounds K) [] (fun _ _ _ => False) (tCons (tVar 0) (tCons (tC (.int m)) tNil))) := by
    refine pe_call (CX := L2N.CX P w) (k := 3) (f := fR) (fd := fdR) (ps := ["_law_script", "_law_most"]) (ds := []) ?_ ?_ (gl C gR).1 ?_ ?_ ?_ .nil ?_ (pa_cons v1 (pa_cons pe_int pa_nil)) (gl C gR).2
    · subst hX; exact FR
    · subst hX; exact hr.mono hk3
    · subst hX; exact mR
    · subst hX; exact kR
    · subst hX; exact bR
    · intro _ _ _ _ _ _ _ h
      obtain ⟨_, _, _, _, _, _, _, _, _, _, _, _, z⟩ := h
      exact z.elim
  refine ⟨_, pss_cons (ps_for C0.ow C.calm (pi_list call) (pg1 C hi) (pss_len (sBk core BODY C0 hcore)) (fset rfl)) (pss_cons (ps_ret pe_bl) pss_nil), ?_⟩
  have e1 : (L2.start N [.ref a])[0]? = some (some (.ref a)) := rfl
  refine ⟨_, e1, a, ns, m, rfl, hs, hl, hm1, hm2, fun r ds H1 RA => ⟨r, rfl, ⟨_, .of RA.at_⟩, ?_⟩⟩
  have hiN : i < N.length := by
    have := okL_get hi
    exact (List.getElem?_eq_some_iff.mp this).1
  refine ⟨fun j t σ H' => t = ds.length - j ∧ j ≤ ds.length ∧ σ.length = N.length ∧ H' r = some (.lst (ds.map V.ref)) ∧ LamX.Tabs TabT.ts H' ∧ ∀ j' (h : j' < ds.length), j ≤ j' → ∃ c n : Int, H' ds[j'] = some (.lst [.int c, .int n]),
    ⟨ds.length, by simp, Nat.zero_le _, ?_, RA.at_, hT.ext RA.sm, fun j' h _ => ?_⟩, ?_⟩
  · unfold L2.start
    have hp : ([V.ref a].map some).length ≤ N.length := by
      have := okN_lt hsc
      show 1 ≤ N.length
      omega
    rw [List.length_append, List.length_replicate]
    simp only [List.length_map, List.length_cons, List.length_nil] at hp ⊢
    omega
  · obtain ⟨_, _, c, hc⟩ := RA.di ds[j'] (List.getElem_mem h)
    exact ⟨c, 0, hc⟩
  rintro j t σ H' ⟨rfl, hj, hl', hr', hT', hd'⟩
  have ndr : ∀ j' (h : j' < ds.length), ds[j'] ≠ r := fun j' h => (RA.di _ (List.getElem_mem h)).2.1
  by_cases hlt : j < ds.length
  · refine .inr ⟨⟨ds.map V.ref, .ref ds[j], .of hr', by rw [List.getElem?_map, List.getElem?_eq_getElem hlt]; rfl⟩, fun σ' H2 => σ'.length = N.length ∧ H2 r = some (.lst (ds.map V.ref)) ∧ LamX.Tabs TabT.ts H2 ∧ ∀ j' (h : j' < ds.length), j + 1 ≤ j' → ∃ c n : Int, H2 ds[j'] = some (.lst [.int c, .int n]),
      fun σ' H2 h2 => ⟨ds.length - (j + 1), by omega, rfl, hlt, h2.1, h2.2⟩, ?_⟩
    rintro x H2 ⟨rfl, hx⟩
    have hx' := hx _ (.of hr')
    rw [List.getElem?_map, List.getElem?_eq_getElem hlt] at hx'
    cases hx'
    obtain ⟨c, n, hcn⟩ := hd' j hlt (Nat.le_refl _)
    obtain ⟨ρ', s', hp⟩ := pure (c, n)
    refine ⟨⟨fun _ => none, H2, ⟨some ds[j]⟩⟩, fun _ => none, diceEnv N.length i, (c, n), ⟨?_, Same.refl _, Same.refl _, fun _ _ _ => rfl, ⟨fun b o e => (by cases e), fun b e => (by cases e; exact hcn), hT'⟩, fun j' d e => ?_, fun j' e => ?_, fun j' es e => ?_, fun j1 j2 es es' b e => ?_⟩, ?_⟩
    · unfold diceEnv
      rw [List.length_set, List.length_set, List.length_replicate, hl']
    · exact (diceEnv_ne e).elim
    · have := diceEnv_at e
      subst this
      exact ⟨_, rfl, by rw [List.getElem?_set_self (by rw [hl']; exact hiN)]⟩
    · exact (diceEnv_own e).elim
    · exact (diceEnv_own e).elim
    · show PostS _ _ (xb G core (diceEnv N.length i) (c, n)) _
      rw [hp]
      intro σ' F' H3 (R : Rel _ _ _ _ _ _) hlen
      rw [eN] at hlen
      have keep : ∀ {b : Addr} {o : HO}, b ≠ ds[j] → H2 b = some o → (no : NT o = true := by rfl) → H3 b = some o := fun {b o} hb h no => (Hd_some (R.bh b o (Hd_of h ⟨fun e => hb (Option.some.inj e).symm, no⟩))).1
      refine ⟨hlen, keep (Ne.symm (ndr j hlt)) hr', R.ok.tb, fun j' h hjj => ?_⟩
      obtain ⟨c', n', h'⟩ := hd' j' h (by omega)
      refine ⟨c', n', keep (fun e => ?_) h'⟩
      have := (List.getElem_inj RA.nd).mp e
      omega
  · exact .inl ⟨⟨_, .of hr', by rw [List.length_map]; omega⟩, q _⟩
end
end Co
namespace Co
open PySem PySem.Spec PyProof.Rows L2
/-- a law over a head by facts; what a call lets out may tell of the world -/
theorem walk_law [TabT] {l : PySem.W.OpenLaw} {n k : Nat} {q : Program} {loose : List Str} {XP : (Str → Option Value) → Heap → Prop} {YP : World → Heap → Prop} {d : DefRec} {x : Str}
    (hn : l.most = some n) (hz : n ≤ 63) (hts : TabT.ts = []) (hdf : d.params.defaults = []) (hr : Room k callerA)
    (facts : ∀ (w : World) (mg : Str → Option Value) (fa : Addr) (h : Heap), YP w h → h.Ns mainGlobals mg → mg d.name = some (.ref fa) →
      ∃ (K : PySem.W.Frag) (fd : FuncData), K.In h ∧ (∀ (s : Shared) (u : Value), BindsTo s fd ⟨[u], []⟩ [(x, u)]) ∧
        ∀ base : Heap, K.In base → base.Ns mainGlobals mg → FnOk l.prog w K mg base (L2N.CX l.prog w) k fa fd [x] (spLaw K)) :
    PySem.W.WalkO q loose XP YP l.row.toRowW d [] (fun f vs => PySem.call f vs) := by
  have hz2 : n ≤ sizeLine := Nat.le_trans hz (by decide)
  refine Att.attach_call hn hdf fun w s₀ s₁ mg mb fa o pm cd doc a vs ns G Y ho hd hcd hmg hobj hints hlen hg => ?_
  obtain ⟨K, fd, KX, hb, hF⟩ := facts w mg fa _ Y G.T.g hmg
  refine law_call KX G.T.g G.T.b G.T.builtins G.T.nolimit hg hobj hints (Nat.le_trans hlen hz2) hr hF hb (fun H _ hS => ⟨a, ns, rfl, hS, Nat.le_trans hlen hz, (fun p hp => by rw [hts] at hp; cases hp), fun _ => rfl⟩) fun H e s' hh => ?_
  obtain ⟨_, _, _, _, _, _, _, _, _, _, _, _, z⟩ := hh
  exact z
/-- the same, the law makes lambdas: the code object c, its table P -/
theorem walk_lawT {l : PySem.W.OpenLaw} {n k : Nat} {q : Program} {loose : List Str} {XP : (Str → Option Value) → Heap → Prop} {YP : World → Heap → Prop} {d : DefRec} {x : Str}
    (hn : l.most = some n) (hz : n ≤ 63) (hdf : d.params.defaults = []) (hr : Room k callerA)
    (facts : ∀ (w : World) (mg : Str → Option Value) (fa : Addr) (h : Heap), YP w h → h.Ns mainGlobals mg → mg d.name = some (.ref fa) →
      ∃ (K : PySem.W.Frag) (fd : FuncData) (c T : Addr) (nm : Str), K.In h ∧ (∀ (s : Shared) (u : Value), BindsTo s fd ⟨[u], []⟩ [(x, u)]) ∧ h.get? T = some { cls := .none, data := .fields #[] } ∧ K.lookup T = none ∧ PySem.W.codeHdIn K c T = true ∧
        ∀ base : Heap, K.In base → base.Ns mainGlobals mg → LamX.TabB base mg c T → FnOk l.prog w K mg base (L2N.CX l.prog w) k fa fd [x] (@spLaw ⟨[(T, nm)]⟩ K)) :
    PySem.W.WalkO q loose XP YP l.row.toRowW d [] (fun f vs => PySem.call f vs) := by
  have hz2 : n ≤ sizeLine := Nat.le_trans hz (by decide)
  refine Att.attach_call hn hdf fun w s₀ s₁ mg mb fa o pm cd doc a vs ns G Y ho hd hcd hmg hobj hints hlen hg => ?_
  obtain ⟨K, fd, c, T, nm, KX, hb, h1, h2, h3, hF⟩ := facts w mg fa _ Y G.T.g hmg
  have one : ∀ {p : Addr × Addr}, p ∈ [(c, T)] → p = (c, T) := fun {p} hp => by simpa using hp
  refine LamX.law_callTs (cs := [(c, T)]) KX G.T.g G.T.b G.T.builtins G.T.nolimit hg (fun p hp => by rw [one hp]; exact h1) (fun p hp => by rw [one hp]; exact h2) (fun p hp => by rw [one hp]; exact PySem.W.codeHd_of_K KX h3) G.T.bmain hobj hints (Nat.le_trans hlen hz2) hr (fun base b1 b2 b3 => hF base b1 b2 (b3 _ (List.mem_singleton.mpr rfl))) hb (fun H hT hS => ⟨a, ns, rfl, hS, Nat.le_trans hlen hz, (fun p hp => ?_), fun _ => rfl⟩) fun H e s' hh => ?_
  · obtain rfl : p = (T, nm) := by simpa [TabT.ts] using hp
    exact LamX.TabS.nil (hT _ (List.mem_singleton.mpr rfl))
  · obtain ⟨_, _, _, _, _, _, _, _, _, _, _, _, z⟩ := hh
    exact z
end Co

/-! Core 19: the events behind an event (a dict of its own, walked by hand). -/
namespace Co
open PySem PySem.Spec PyProof.Rows L2
variable [TabT]

def rbArcs (mE : List SV → Dice → Res D) : List D → List Int → List Int → Dice → Option (List Int × List Int × Dice)
  | [], f, w, s => some (f, w, s)
  | arc :: r, f, w, s => match arc with
    | .tuple [src, _, _] => match mE [.val src] s with
      | .ok .none s' => rbArcs mE r f w s'
      | .ok (.int i) s' => if i ∈ f then rbArcs mE r f w s' else if f.length < 1000 ∧ w.length < 1000 then rbArcs mE r (f ++ [i]) (w ++ [i]) s' else none
      | _ => none
    | _ => none
def rbLoop (mE : List SV → Dice → Res D) (rows : List D) : Nat → List Int → List Int → Dice → Option (List Int × Dice)
  | 0, _, _, _ => none
  | n + 1, f, w, s => match w.getLast? with
    | none => some (f, s)
    | some e => match atI rows e with
      | some (.tuple arcs) => (rbArcs mE arcs f w.dropLast s).bind fun p => rbLoop mE rows n p.1 p.2.1 p.2.2
      | _ => none
def rbM (mE : List SV → Dice → Res D) : List SV → Dice → Res D
  | [.val (.tuple rows), .val (.int e)], s => match rbLoop mE rows 1000 [e] [e] s with
    | some (ks, s') => .ok (.dict (ks.map fun k => (.int k, .bool true))) s'
    | none => .bad
  | _, _ => .bad
/-- an object of one's own is changed -/
theorem step_mut {dc : DT} {F0 H0 F H : Hp} {s : Dice} (t : Step dc F0 H0 F H s) {p : Addr} {o : HO} (h0 : H0 p = none) (hF : F p = none) (hd : dc.d ≠ some p) (hm : H p = none ∨ (∃ xs, H p = some (.lst xs)) ∨ ∃ xs, H p = some (.dK xs)) : Step dc F0 H0 F (upd H p o) s := by
  have keep : ∀ {b : Addr} {x : HO}, b ≠ p → Hd dc H b = some x → Hd dc (upd H p o) b = some x := fun {b x} hb h => by
    obtain ⟨h1, h2⟩ := Hd_some h
    exact Hd_of (by rw [upd_ne hb]; exact h1) h2
  refine ⟨t.ff, fun b x h => keep (fun e => ?_) (t.hh b x h), t.cap, ⟨fun b x h => keep (fun e => ?_) (t.ok.fh b x h), fun b e => ?_, tabs_upd t.ok.tb hm⟩⟩
  · rw [e] at h
    rw [(Hd_some h).1] at h0
    cases h0
  · rw [e, hF] at h
    cases h
  · have hb : b ≠ p := fun h => hd (by rw [← h]; exact e)
    rw [upd_ne hb]
    exact t.ok.di b e
/-- an object of one's own is let go as it then is -/
theorem step_frz {dc : DT} {F0 H0 F H : Hp} {s : Dice} (t : Step dc F0 H0 F H s) {p : Addr} {o : HO} (h0 : H0 p = none) (hF : F p = none) (hd : dc.d ≠ some p) (hm : H p = none ∨ (∃ xs, H p = some (.lst xs)) ∨ ∃ xs, H p = some (.dK xs)) (nt : NT o = true := by rfl) : Step dc F0 H0 (upd F p o) (upd H p o) s := by
  have m := step_mut (o := o) t h0 hF hd hm
  refine ⟨fun b x h => ?_, m.hh, fun b h1 h2 => ?_, ⟨fun b x h => ?_, m.ok.di, m.ok.tb⟩⟩
  · have hb : b ≠ p := fun e => by
      have := t.ff b x h
      rw [e, hF] at this
      cases this
    rw [upd_ne hb]; exact t.ff b x h
  · have hb : b ≠ p := fun e => Vis.no h0 (by rw [← e]; exact h2)
    rw [upd_ne hb]; exact t.cap b h1 h2
  · by_cases hb : b = p
    · rw [hb, upd_same] at h
      cases h
      rw [hb]
      exact Hd_of upd_same ⟨hd, nt⟩
    · rw [upd_ne hb] at h
      obtain ⟨h1, h2⟩ := Hd_some (t.ok.fh b x h)
      exact Hd_of (by rw [upd_ne hb]; exact h1) h2
theorem rp_keys {F : Hp} {p : Addr} {od : Obj} {f : List Int} (h : F p = some (.frz od (.dK (f.map fun i => (.inl i, .bl true))))) : Rp F (.ref p) (.dict (f.map fun k => (.int k, .bool true))) := by
  refine .dct h ?_ ?_
  · rw [List.map_map, List.map_map]
    rfl
  · rw [List.map_map, List.map_map]
    clear h
    induction f with
    | nil => exact .nil
    | cons i f ih => exact .cons (.bl true) ih
/-- an expression whose object is let go for good -/
def tEndLock (te : TE) : TE := fun σ H Q => te σ H fun v H1 => ∃ d u, v = .ref d ∧ H1 d = some u ∧ Mut (some u) ∧ ∀ od, Q v (upd H1 d (.frz od u))
theorem pe_endlock {X : Cx} {e : Expr} {te : TE} (h : PE X e te) : PE X e (tEndLock te) :=
  ⟨fun pins s σ H Q I q => thn (h.run pins s σ H _ I q) fun v s1 ⟨x, H1, I1, r, d, u, e1, hd, mu, q1⟩ => by
    subst e1
    obtain ⟨od, I2⟩ := I1.lock hd mu
    exact ⟨.ref d, _, I2, r, q1 od⟩⟩
structure RbInv (dc : DT) (F0 H0 : Hp) (rv : V) (rows : List D) (f w : List Int) (s : Dice) (σ : L2.St) (H : Hp) (F : Hp) (fd wd : Addr) : Prop where
  st : Step dc F0 H0 F H s
  f1 : H fd = some (.dK (f.map fun i => (.inl i, .bl true)))
  f2 : dc.d ≠ some fd
  f3 : F fd = none
  f4 : H0 fd = none
  w1 : H wd = some (.lst (w.map V.int))
  w2 : dc.d ≠ some wd
  w3 : F wd = none
  w4 : H0 wd = none
  ne : fd ≠ wd
  s0 : σ[0]? = some (some rv)
  r0 : Rp F rv (.tuple rows)
  s2 : σ[2]? = some (some (.ref fd))
  s3 : σ[3]? = some (some (.ref wd))
  ln : σ.length = 8
theorem RbInv.step {dc : DT} {F0 H0 : Hp} {rv : V} {rows : List D} {f w : List Int} {s s2 : Dice} {σ σ2 : L2.St} {H F F' H' : Hp} {fd wd : Addr} (I : RbInv dc F0 H0 rv rows f w s σ H F fd wd) (t : Step dc F H F' H' s2)
    (h0 : σ2[0]? = σ[0]?) (h2 : σ2[2]? = σ[2]?) (h3 : σ2[3]? = σ[3]?) (hl : σ2.length = σ.length) : RbInv dc F0 H0 rv rows f w s2 σ2 H' F' fd wd :=
  ⟨I.st.trans' t, (Hd_some (t.hh _ _ (Hd_of I.f1 ⟨I.f2, rfl⟩))).1, I.f2, t.cap _ I.f3 (.of I.f1), I.f4, (Hd_some (t.hh _ _ (Hd_of I.w1 ⟨I.w2, rfl⟩))).1, I.w2, t.cap _ I.w3 (.of I.w1), I.w4, I.ne, h0.trans I.s0, I.r0.mono t.ff, h2.trans I.s2, h3.trans I.s3, hl.trans I.ln⟩
theorem RbInv.lay {dc : DT} {F0 H0 : Hp} {rv : V} {rows : List D} {f w : List Int} {s : Dice} {σ : L2.St} {H F : Hp} {fd wd : Addr} (I : RbInv dc F0 H0 rv rows f w s σ H F fd wd) {p : Addr} {o : HO} (hp : H p = none) : RbInv dc F0 H0 rv rows f w s σ (upd H p o) F fd wd :=
  I.step (Step.lay I.st.ok hp) rfl rfl rfl rfl
theorem RbInv.setW {dc : DT} {F0 H0 : Hp} {rv : V} {rows : List D} {f w w' : List Int} {s : Dice} {σ : L2.St} {H F : Hp} {fd wd : Addr} (I : RbInv dc F0 H0 rv rows f w s σ H F fd wd) {xs : List V} (e : xs = w'.map V.int) : RbInv dc F0 H0 rv rows f w' s σ (upd H wd (.lst xs)) F fd wd :=
  ⟨step_mut I.st I.w4 I.w3 I.w2 (.inr (.inl ⟨_, I.w1⟩)), by rw [upd_ne I.ne]; exact I.f1, I.f2, I.f3, I.f4, by rw [upd_same, e], I.w2, I.w3, I.w4, I.ne, I.s0, I.r0, I.s2, I.s3, I.ln⟩
theorem RbInv.setF {dc : DT} {F0 H0 : Hp} {rv : V} {rows : List D} {f f' w : List Int} {s : Dice} {σ : L2.St} {H F : Hp} {fd wd : Addr} (I : RbInv dc F0 H0 rv rows f w s σ H F fd wd) {xs : List (Key × V)} (e : xs = f'.map fun i => (.inl i, .bl true)) : RbInv dc F0 H0 rv rows f' w s σ (upd H fd (.dK xs)) F fd wd :=
  ⟨step_mut I.st I.f4 I.f3 I.f2 (.inr (.inr ⟨_, I.f1⟩)), by rw [upd_same, e], I.f2, I.f3, I.f4, by rw [upd_ne (Ne.symm I.ne)]; exact I.w1, I.w2, I.w3, I.w4, I.ne, I.s0, I.r0, I.s2, I.s3, I.ln⟩
theorem ints_last {w : List Int} {e : Int} (h : w.getLast? = some e) : (w.map V.int)[(w.map V.int).length - 1]? = some (.int e) := by
  rw [← List.getLast?_eq_getElem?, List.getLast?_map, h]
  rfl
theorem ints_eqv (w : List Int) : PyData.eqv (.list (w.map PyData.int)) (.list []) = w.isEmpty := by
  cases w <;> rfl
theorem keys_some (f : List Int) (j : Int) : (valV (f.map fun i => ((.inl i : Key), V.bl true)) (.inl j)).isSome = decide (j ∈ f) := by
  rw [valV_some, List.any_map]
  rw [Bool.eq_iff_iff]
  simp
theorem keys_put {f : List Int} {j : Int} (h : j ∉ f) : putK (f.map fun i => ((.inl i : Key), V.bl true)) (.inl j) (.bl true) = (f ++ [j]).map fun i => (.inl i, .bl true) := by
  unfold putK
  rw [if_neg, List.map_append]
  · rfl
  · rw [List.any_map]
    simp only [Bool.not_eq_true, List.any_eq_false]
    intro x hx
    simp only [Function.comp, decide_eq_true_eq]
    rw [decide_eq_false_iff_not]
    intro e
    exact h (by rw [← Sum.inl.inj e]; exact hx)
section
variable {P : Program} {w : World} {K : PySem.W.Frag} {mg : Str → Option Value} {base : Heap} {params : Arguments} {body : List Stmt} {scope : Scope} {f : Addr} {fd : FuncData} {dvs : List V} {kws : List (Str × V)} {cl : Str → Addr} {k : Nat} {mE : List SV → Dice → Res D}
abbrev NB : List Str := ["rows", "event", "found", "waiting", "source", "delay", "back", "one"]
theorem ok_reach (F : FunD K "reach_back" "reach_back" params body scope dvs kws f fd) (S0 : FnScope NB ["rows", "event"] scope) (hb : Bls mg) (hE : Has P w K mg base cl k "event_of" 1 mE)
    (loc : ∀ x ∈ NB, scope.names.lookup x = some .local) (gE : scope.names.lookup ("event_of" : Str) = some .globalImplicit)
    {p1 p2 p3 p4 p5 p6 p7 p8 p9 p10 p11 p12 p13 p14 p15 p16 p17 p18 p19 p20 p21 p22 p23 p24 p25 p26 p27 p28 p29 p30 p31 p32 p33 p34 p35 p36 p37 p38 p39 p40 p41 p42 p43 p44 p45 p46 p47 p48 p49 : Pos} {k1 k2 k3 k4 k5 k6 : Nat}
    (hl1 : (p18.endLine == p19.line) = true) (hl2 : (p37.endLine == p39.line) = true)
    (hsw : swP ⟨scope, NB, fun _ => true, [("event_of", 1)], [], [], false⟩ [.Name "found" p1, .Name "waiting" p2] [.Dict [some (.Name "event" p4)] [.Constant (.bool true) k2 p5] p6, .List [.Name "event" p7] p8] = some (some (["found", "waiting"] : List Str)))
    (hB : body = [.Assign [.Tuple [.Name "found" p1, .Name "waiting" p2] k1 p3] (.Tuple [.Dict [some (.Name "event" p4)] [.Constant (.bool true) k2 p5] p6, .List [.Name "event" p7] p8] k3 p9) p10,
      .While (.Compare (.Name "waiting" p11) [.NotEq] [.List [] p12] p13) [
        .For (.Tuple [.Name "source" p14, .Name "delay" p15, .Name "back" p16] k4 p17) (.Subscript (.Name "rows" p20) (.Call (.Attribute (.Name "waiting" p21) "pop" p18) [] [] p19) p22) [
          .Assign [.Name "one" p23] (.Call (.Name "event_of" p24) [.Name "source" p25] [] p26) p27,
          .If (.BoolOp .And [.Compare (.Name "one" p28) [.IsNot] [.Constant .none k5 p29] p30, .Compare (.Name "one" p31) [.NotIn] [.Name "found" p32] p33] p34) [
            .Assign [.Subscript (.Name "found" p35) (.Name "one" p36) p40] (.Constant (.bool true) k6 p41) p42,
            .Expr (.Call (.Attribute (.Name "waiting" p43) "append" p37) [.Name "one" p38] [] p39) p44] [] p45] [] p46] [] p47,
      .Return (some (.Name "found" p48)) p49]) :
    FnOk P w K mg base (L2N.CX P w) (k + 1) f fd ["rows", "event"] (spOf 2 cl (rbM mE)) := by
  subst hB
  have HF : Hass P w K mg base cl k [("event_of", 1)] [mE] := .cons hE (Nat.le_refl _) .nil
  refine F.ok S0 (fun vs H Q E ⟨dc, F, s, as, o, r, hl, q⟩ => by rw [Paired.len r, hl]; rfl) fun cdv A outer s0 H0 vs Q E hr ⟨dc, F0, di, as, o, r, hl, q⟩ => ?_
  have C0 := ccOf (cl := cl) (cs := []) (xs := []) (tl := false) S0 HF.fnz hb (fun p hp => by cases hp) (fun p hp => by cases hp) (cdv := cdv) (A := A) (outer := outer) (s := s0) (H := H0) (E := E) (qual := "reach_back") (f := f) hr (fun z => by cases z)
  generalize hX : cxOf (L2N.CX P w) P w K mg base NB "reach_back" scope f cdv A outer s0 H0 E = X at C0
  have C := C0.c
  have eK : X.K = K := by subst hX; rfl
  have eN : X.N = NB := by subst hX; rfl
  have hsc : X.env.scope = scope := by subst hX; rfl
  have un1 : X.A.units + 1 < cLine := by have := C.un; omega
  have hNd : X.N.Nodup := by rw [eN]; exact C.nd
  have hl' : ∀ x ∈ NB, X.env.scope.names.lookup x = some .local := by rw [hsc]; exact loc
  have v0 : ∀ {p : Pos}, PE X (.Name "rows" p) (tVar 0) := fun {p} => pe_var (by rw [eN]; rfl) (.inl (hl' _ (by decide)))
  have v1 : ∀ {p : Pos}, PE X (.Name "event" p) (tVar 1) := fun {p} => pe_var (by rw [eN]; rfl) (.inl (hl' _ (by decide)))
  have v2 : ∀ {p : Pos}, PE X (.Name "found" p) (tVar 2) := fun {p} => pe_var (by rw [eN]; rfl) (.inl (hl' _ (by decide)))
  have v3 : ∀ {p : Pos}, PE X (.Name "waiting" p) (tVar 3) := fun {p} => pe_var (by rw [eN]; rfl) (.inl (hl' _ (by decide)))
  have v7 : ∀ {p : Pos}, PE X (.Name "one" p) (tVar 7) := fun {p} => pe_var (by rw [eN]; rfl) (.inl (hl' _ (by decide)))
  have g4 : ∀ {p : Pos}, PG X (.Name "source" p) (gName 4) := fun {p} => pg_name hNd (by rw [eN]; rfl) (.inl (hl' _ (by decide))) (.inr (hl' _ (by decide)))
  have g5 : ∀ {p : Pos}, PG X (.Name "delay" p) (gName 5) := fun {p} => pg_name hNd (by rw [eN]; rfl) (.inl (hl' _ (by decide))) (.inr (hl' _ (by decide)))
  have g6 : ∀ {p : Pos}, PG X (.Name "back" p) (gName 6) := fun {p} => pg_name hNd (by rw [eN]; rfl) (.inl (hl' _ (by decide))) (.inr (hl' _ (by decide)))
  have g7 : ∀ {p : Pos}, PG X (.Name "one" p) (gName 7) := fun {p} => pg_name hNd (by rw [eN]; rfl) (.inl (hl' _ (by decide))) (.inr (hl' _ (by decide)))
  have okc : okE ⟨scope, NB, fun _ => true, [("event_of", 1)], [], [], false⟩ .val (.call 0 (.cons (.var 4) .nil)) (.Call (.Name "event_of" p24) [.Name "source" p25] [] p26) = true := by
    show ((decide (("event_of" : Str) = "event_of") && decide (1 = 1)) && glC ⟨scope, NB, fun _ => true, [("event_of", 1)], [], [], false⟩ "event_of" && true && ((okN ⟨scope, NB, fun _ => true, [("event_of", 1)], [], [], false⟩ 4 "source") && true && true)) = true
    have a1 : glC ⟨scope, NB, fun _ => true, [("event_of", 1)], [], [], false⟩ "event_of" = true := by
      unfold glC
      dsimp only
      rw [gE]
      decide
    have a2 : okN ⟨scope, NB, fun _ => true, [("event_of", 1)], [], [], false⟩ 4 "source" = true := by
      unfold okN visC
      dsimp only
      rw [loc "source" (by decide)]
      rfl
    rw [a1, a2]
    decide
  refine ⟨_, pss_cons (ps_par (i := 2) (j := 3) C.calm hNd (by rw [eN]; rfl) (by rw [eN]; rfl) (by decide) (hl' _ (by decide)) (hl' _ (by decide)) (pa_cons (pe_disp (pps_cons v1 pe_bl pps_nil) rfl rfl (by simp) (show 1 ≤ 15 by decide)) (pa_cons (pe_lst (pa_cons v1 pa_nil)) pa_nil)) (swP_ok C C0.kd hsw))
    (pss_cons (ps_while C0.ow (pt_cmpR (op_neD C.un) v3 (pe_lst pa_nil) rfl)
      (pss_cons (ps_for C0.ow C.calm (pi_tup (pe_ix ix_tup v0 (pe_bm0 PySem.F.plainAttrs_list PySem.F.slot_list_pop PySem.F.type_list_pop mt_pop v3 rfl hl1) fun _ _ => rfl)) (pg_tup C.calm (pgs_cons g4 (pgs_cons g5 (pgs_cons g6 pgs_nil))))
        (pss_cons (ps_asg (sE _ .val _ C okc).1 g7 rfl rfl rfl) (pss_cons (ps_if (pw_and (pt_cmp (pc_notN v7)) (pw_and1 (pt_cmp (pc_dnotin un1 v7 v2)))).pt
          (pss_cons (ps_dput un1 v2 v7 pe_bl rfl) (pss_cons (ps_expr (pe_bm PySem.F.plainAttrs_list PySem.F.slot_list_append PySem.F.type_list_append mt_append v3 (pa_cons v7 pa_nil) rfl rfl hl2) rfl) pss_nil)) pss_nil) pss_nil)) (fset rfl)) pss_nil))
      (pss_cons (ps_ret (pe_endlock v2)) pss_nil)), ?_⟩
  rw [eK]
  -- what came in
  unfold rbM at q
  split at q
  case h_2 => exact q.elim
  case h_1 rows e =>
  cases h0 : rbLoop mE rows 1000 [e] [e] di with
  | none => rw [h0] at q; exact q.elim
  | some pr =>
  obtain ⟨ks, dz⟩ := pr
  rw [h0] at q
  obtain ⟨rv, ev, rfl, rr, re⟩ : ∃ rv ev, vs = [rv, ev] ∧ Rp F0 rv (.tuple rows) ∧ Rp F0 ev (.int e) := by
    cases r with
    | cons a b =>
      cases b with
      | cons a' b' =>
        cases b'
        exact ⟨_, _, rfl, a, a'⟩
  have hev := re.int'
  subst hev
  have eS : L2.start NB [rv, .int e] = [some rv, some (.int e), none, none, none, none, none, none] := rfl
  rw [eS]
  intro fd hfd
  refine ⟨_, rfl, upd_same, [(.inl e, .bl true)], rfl, show 1 ≤ 15 by decide, _, rfl, show 1 ≤ sizeLine by decide, fun wd hwd => ⟨_, _, rfl, ?_⟩⟩
  have nd : ∀ {p : Addr}, H0 p = none → dc.d ≠ some p := fun {p} hp e => by
    have := o.di p e
    rw [hp] at this
    cases this
  have fn : ∀ {p : Addr}, H0 p = none → F0 p = none := fun {p} hp => by
    cases z : F0 p with
    | none => rfl
    | some y => exact absurd hp (o.ne z)
  have hwf : wd ≠ fd := fun z => by rw [z, upd_same] at hwd; cases hwd
  rw [upd_ne hwf, upd_ne hwf] at hwd
  have I0 : RbInv dc F0 H0 rv rows [e] [e] di [some rv, some (.int e), some (.ref fd), some (.ref wd), none, none, none, none] (upd (upd (upd H0 fd (.dK [])) fd (.dK (mergeK [] [(.inl e, .bl true)]))) wd (.lst [.int e])) F0 fd wd := by
    refine ⟨step_mut (step_mut (step_mut (Step.refl o) hfd (fn hfd) (nd hfd) (.inl hfd)) hfd (fn hfd) (nd hfd) (.inr (.inr ⟨_, upd_same⟩))) hwd (fn hwd) (nd hwd) (.inl (by rw [upd_ne hwf, upd_ne hwf]; exact hwd)), ?_, nd hfd, fn hfd, hfd, upd_same, nd hwd, fn hwd, hwd, Ne.symm hwf, rfl, rr, rfl, rfl, rfl⟩
    rw [upd_ne (Ne.symm hwf), upd_same]
    rfl
  refine ⟨fun n σ H => ∃ F f w s fd wd, RbInv dc F0 H0 rv rows f w s σ H F fd wd ∧ rbLoop mE rows n f w s = some (ks, dz), ⟨1000, F0, [e], [e], di, fd, wd, I0, h0⟩, ?_⟩
  rintro n σ H ⟨F, f, w, s, fd, wd, I, hr⟩
  refine ⟨_, I.s3, show 0 ≤ sizeLine by decide, fun l hl => ⟨.list (w.map PyData.int), .list [], .lst (.of (I.lay hl).w1) (ints_dp w), .lst (.of upd_same) .nil, ints_shaped w, rfl, _, rfl, ?_⟩⟩
  have I1 := I.lay (o := .lst []) hl
  rw [ints_eqv]
  cases n with
  | zero => cases hr
  | succ n =>
  unfold rbLoop at hr
  cases hw : w.getLast? with
  | none =>
    have ew : w = [] := List.getLast?_eq_none_iff.mp hw
    subst ew
    rw [hw] at hr
    cases hr
    dsimp only
    rw [if_neg (by simp)]
    refine ⟨_, I1.s2, fd, _, rfl, I1.f1, trivial, fun od => ?_⟩
    exact q _ _ _ (step_frz I1.st I1.f4 I1.f3 I1.f2 (.inr (.inr ⟨_, I1.f1⟩))) (rp_keys upd_same)
  | some e1 =>
    rw [hw] at hr
    have ew : w.isEmpty = false := by cases w with
      | nil => cases hw
      | cons _ _ => rfl
    rw [ew]
    dsimp only at hr
    cases ha : atI rows e1 with
    | none => rw [ha] at hr; cases hr
    | some ad =>
    rw [ha] at hr
    cases ad with
    | tuple arcs =>
      dsimp only at hr
      cases h2 : rbArcs mE arcs f w.dropLast s with
      | none => rw [h2] at hr; cases hr
      | some p3 =>
      obtain ⟨f3, w3, s3⟩ := p3
      rw [h2] at hr
      dsimp only
      rw [if_pos (by rfl)]
      refine ⟨fun σ' H' => ∃ F f w s fd wd, RbInv dc F0 H0 rv rows f w s σ' H' F fd wd ∧ rbLoop mE rows n f w s = some (ks, dz), fun σ' H' h => ⟨n, Nat.lt_succ_self _, h⟩, ?_⟩
      have r0 := I1.r0
      cases hrv : r0 with
      | @tup pa xs _ hpa rpa =>
      obtain ⟨av, hav, rav⟩ := atI_rp rpa ha
      cases rav with
      | @tup ya ys _ hya rya =>
      refine ⟨_, I1.s0, _, I1.s3, .inl ⟨rfl, _, .of I1.w1⟩, wd, _, _, rfl, rfl, I1.w1, ints_last hw, pa, xs, e1, _, rfl, rfl, ?_, hav, ya, rfl, ?_, ?_⟩
      · exact .of (by rw [upd_ne (fun z => by rw [z, I1.w3] at hpa; cases hpa)]; exact (Hd_some (I1.st.ok.fh _ _ hpa)).1)
      · exact ⟨_, .of (by rw [upd_ne (fun z => by rw [z, I1.w3] at hya; cases hya)]; exact (Hd_some (I1.st.ok.fh _ _ hya)).1)⟩
      have I2 : RbInv dc F0 H0 (.ref pa) rows f w.dropLast s σ (upd (upd H l (.lst [])) wd (.lst (w.map V.int).dropLast)) F fd wd := I1.setW (by rw [List.map_dropLast])
      refine ⟨fun i m σ H => m = arcs.length - i ∧ i ≤ arcs.length ∧ ∃ F f w s fd wd, RbInv dc F0 H0 (.ref pa) rows f w s σ H F fd wd ∧ F ya = some (.tup ys) ∧ RpA F ys arcs ∧ rbArcs mE (arcs.drop i) f w s = some (f3, w3, s3),
        ⟨arcs.length, by simp, Nat.zero_le _, F, f, w.dropLast, s, fd, wd, I2, hya, rya, h2⟩, ?_⟩
      rintro i m σ H ⟨rfl, hi, F, f, w, s, fd, wd, I, hya, rya, h2⟩
      have hyH : H ya = some (.tup ys) := (Hd_some (I.st.ok.fh _ _ hya)).1
      have hyl := rya.len
      by_cases hlt : i < arcs.length
      case neg =>
        have e : i = arcs.length := by omega
        subst e
        rw [List.drop_length] at h2
        cases h2
        exact .inl ⟨⟨ys, .of hyH, by omega⟩, F, _, _, _, fd, wd, I, hr⟩
      case pos =>
      obtain ⟨x, hx, rx⟩ := rya.get (List.getElem?_eq_getElem hlt)
      refine .inr ⟨⟨ys, x, .of hyH, hx⟩, fun σ H => ∃ F f w s fd wd, RbInv dc F0 H0 (.ref pa) rows f w s σ H F fd wd ∧ F ya = some (.tup ys) ∧ RpA F ys arcs ∧ rbArcs mE (arcs.drop (i + 1)) f w s = some (f3, w3, s3),
        fun σ' H' h => ⟨arcs.length - (i + 1), by omega, rfl, hlt, h⟩, ?_⟩
      rintro x' H' ⟨rfl, hx'⟩
      have hx2 := hx' _ (.of hyH)
      rw [hx] at hx2
      cases hx2
      have ed : arcs.drop i = arcs[i] :: arcs.drop (i + 1) := (List.getElem_cons_drop hlt).symm
      rw [ed] at h2
      unfold rbArcs at h2
      split at h2
      case h_2 => cases h2
      rename_i src d1 d2 ea
      rw [ea] at rx
      cases rx with
      | @tup qa zs _ hq rz =>
      cases rz with
      | @cons x1 _ _ _ r1 rz =>
      cases rz with
      | @cons x2 _ _ _ r2 rz =>
      cases rz with
      | @cons x3 _ _ _ r3 rz =>
      cases rz
      refine ⟨qa, [x1, x2, x3], rfl, .of (Hd_some (I.st.ok.fh _ _ hq)).1, rfl, x1, _, rfl, x2, _, rfl, x3, _, rfl, rfl, ?_⟩
      have hl8 := I.ln
      have R : Rel ⟨F, H', dc⟩ F (((σ.set 4 (some x1)).set 5 (some x2)).set 6 (some x3)) [.no, .no, .no, .no, .val src, .no, .no, .no] H' s := by
        have only : ∀ {j : Nat} {z : SV}, ([SV.no, .no, .no, .no, .val src, .no, .no, .no] : Env)[j]? = some z → z ≠ .no → j = 4 ∧ z = .val src := fun {j z} hj hz => by
          match j, hj with
          | 0, hj => cases hj; exact absurd rfl hz
          | 1, hj => cases hj; exact absurd rfl hz
          | 2, hj => cases hj; exact absurd rfl hz
          | 3, hj => cases hj; exact absurd rfl hz
          | 4, hj => cases hj; exact ⟨rfl, rfl⟩
          | 5, hj => cases hj; exact absurd rfl hz
          | 6, hj => cases hj; exact absurd rfl hz
          | 7, hj => cases hj; exact absurd rfl hz
          | j + 8, hj => cases hj
        refine ⟨by simp [hl8], Same.refl _, Same.refl _, fun _ h _ => h, I.st.ok, fun j d e => ?_, fun j e => ?_, fun j es e => ?_, fun j j2 es es' b e _ _ _ => ?_⟩
        · obtain ⟨rfl, e2⟩ := only e (by simp)
          cases e2
          exact ⟨x1, by rw [List.getElem?_set_ne (by decide), List.getElem?_set_ne (by decide), List.getElem?_set_self (by omega)], r1⟩
        · obtain ⟨_, e2⟩ := only e (by simp)
          cases e2
        · obtain ⟨_, e2⟩ := only e (by simp)
          cases e2
        · obtain ⟨_, e2⟩ := only e (by simp)
          cases e2
      refine ⟨_, F, _, s, R, ?_⟩
      have eev : ev (fun j => [mE][j]?) (.call 0 (.cons (.var 4) .nil)) [.no, .no, .no, .no, .val src, .no, .no, .no] s = mE [.val src] s := rfl
      rw [eev]
      have post : ∀ d s2, mE [.val src] s = .ok d s2 → (d = .none ∨ ∃ j, d = .int j) := fun d s2 e => by
        rw [e] at h2
        cases d with
        | none => exact .inl rfl
        | int j => exact .inr ⟨j, rfl⟩
        | _ => cases h2
      cases hm : mE [.val src] s with
      | bad => rw [hm] at h2; cases h2
      | exc c s2 => rw [hm] at h2; cases h2
      | ok d s2 =>
      intro v F' H2 t rv'
      have ln3 : (((σ.set 4 (some x1)).set 5 (some x2)).set 6 (some x3)).length = 8 := by simp [hl8]
      have I3 : RbInv dc F0 H0 (.ref pa) rows f w s2 ((((σ.set 4 (some x1)).set 5 (some x2)).set 6 (some x3)).set 7 (some v)) H2 F' fd wd := I.step t
        (by rw [List.getElem?_set_ne (by decide), List.getElem?_set_ne (by decide), List.getElem?_set_ne (by decide), List.getElem?_set_ne (by decide)])
        (by rw [List.getElem?_set_ne (by decide), List.getElem?_set_ne (by decide), List.getElem?_set_ne (by decide), List.getElem?_set_ne (by decide)])
        (by rw [List.getElem?_set_ne (by decide), List.getElem?_set_ne (by decide), List.getElem?_set_ne (by decide), List.getElem?_set_ne (by decide)])
        (by simp)
      have h7 : ((((σ.set 4 (some x1)).set 5 (some x2)).set 6 (some x3)).set 7 (some v))[7]? = some (some v) := List.getElem?_set_self (by rw [ln3]; decide)
      generalize hσ : ((((σ.set 4 (some x1)).set 5 (some x2)).set 6 (some x3)).set 7 (some v)) = σ7 at I3 h7
      have hya' := t.ff _ _ hya
      have rya' := rya.mono t.ff
      show (_ : Prop)
      unfold gName
      rw [hσ]
      rcases post d s2 hm with rfl | ⟨j, rfl⟩
      · cases rv'
        rw [hm] at h2
        refine ⟨_, h7, false, rfl, ?_⟩
        dsimp only
        rw [if_neg (by simp), if_neg (by simp)]
        exact ⟨F', f, w, s2, fd, wd, I3, hya', rya', h2⟩
      · have := rv'.int'
        subst this
        rw [hm] at h2
        refine ⟨_, h7, true, rfl, ?_⟩
        dsimp only
        rw [if_pos rfl]
        refine ⟨_, h7, _, I3.s2, fd, _, rfl, DGet.k (k := .inl j) I3.f1, _, rfl, ?_⟩
        rw [keys_some]
        dsimp only at h2
        by_cases hj : j ∈ f
        · rw [if_pos hj] at h2
          rw [if_neg (by simpa using hj)]
          exact ⟨F', f, w, s2, fd, wd, I3, hya', rya', h2⟩
        · rw [if_neg hj] at h2
          by_cases hz : f.length < 1000 ∧ w.length < 1000
          · rw [if_pos hz] at h2
            rw [if_pos (by simpa using hj)]
            have I4 := I3.setF (f' := f ++ [j]) (keys_put hj)
            have I5 := I4.setW (w' := w ++ [j]) (xs := w.map V.int ++ [.int j]) (by rw [List.map_append]; rfl)
            refine ⟨_, I3.s2, _, h7, fd, _, rfl, DPut.k (k := .inl j) I3.f1 (by rw [List.length_map]; exact Nat.lt_of_lt_of_le hz.1 (by decide)), ?_⟩
            refine ⟨_, I3.s3, .inl ⟨rfl, _, .of I4.w1⟩, _, h7, wd, _, _, rfl, rfl, I4.w1, by rw [List.length_map]; exact Nat.lt_of_lt_of_le hz.2 (by decide), ?_⟩
            exact ⟨F', f ++ [j], w ++ [j], s2, fd, wd, I5, hya', rya', h2⟩
          · rw [if_neg hz] at h2
            cases h2
    | _ => cases hr
end
end Co

/-! The cores of the defs (printed by genpg.py). -/
namespace Pg
open PySem PySem.Spec PyProof.Rows L2 Co
def e_law_all_less_0 : CE := .cmp .le (.var 3) (.sub (.var 1) (.var 2))
def c_law_all_less : CB := .cons (.ret (.blt .all (.cons (.comp e_law_all_less_0 [2, 3] (.tup (.cons (.one 2) (.cons (.one 3) (.nil)))) (.enm (.var 0)) (.non)) (.nil)))) (.nil)
def N_law_all_less : List Str := ["_law_one", "_law_other", "_law_at", "_law_room"]
def p_law_all_less : List Str := ["_law_one", "_law_other"]
def fs_law_all_less : List (Str × Nat) := []
def ms_law_all_less : List (List SV → Dice → Res D) := []
def m_law_all_less : List SV → Dice → Res D := fnD (fun j => ms_law_all_less[j]?) 4 c_law_all_less
def c_law_at : CB := .cons (.unp (.tup (.cons (.one 3) (.cons (.one 4) (.cons (.one 5) (.nil))))) (.var 0)) (.cons (.ifs (.cmp .lt (.var 1) (.blt .len (.cons (.var 4) (.nil)))) (.cons (.ret (.sub (.var 4) (.var 1))) (.nil)) (.nil)) (.cons (.asg 2 (.bin .mod (.bin .sub (.var 1) (.var 3)) (.blt .len (.cons (.var 5) (.nil))))) (.cons (.ifs (.isN (.sub (.var 5) (.var 2))) (.cons (.ret (.cst .none)) (.nil)) (.nil)) (.cons (.ret (.bin .add (.sub (.var 4) (.bin .add (.var 3) (.var 2))) (.bin .mul (.bin .fdiv (.bin .sub (.var 1) (.var 3)) (.blt .len (.cons (.var 5) (.nil)))) (.sub (.var 5) (.var 2))))) (.nil)))))
def N_law_at : List Str := ["_law_form", "_law_place", "_law_spot", "_law_begin", "_law_numbers", "_law_rises"]
def p_law_at : List Str := ["_law_form", "_law_place"]
def fs_law_at : List (Str × Nat) := []
def ms_law_at : List (List SV → Dice → Res D) := []
def m_law_at : List SV → Dice → Res D := fnD (fun j => ms_law_at[j]?) 6 c_law_at
def b_law_bad_nets_0 : CB := .cons (.app 1 (.tup (.cons (.var 4) (.cons (.bin .add (.tup (.cons (.tup (.cons (.var 3) (.nil))) (.nil))) (.slc (.var 5) (.som (.cst (.int 1))) (.non))) (.cons (.var 6) (.nil)))))) (.nil)
def b_law_bad_nets_1 : CB := .cons (.app 1 (.tup (.cons (.var 4) (.cons (.bin .add (.tup (.cons (.tup (.cons (.var 3) (.nil))) (.nil))) (.slc (.var 5) (.som (.cst (.int 1))) (.non))) (.cons (.var 6) (.nil)))))) (.nil)
def c_law_bad_nets : CB := .cons (.unp (.tup (.cons (.one 4) (.cons (.one 5) (.cons (.one 6) (.nil))))) (.var 0)) (.cons (.asgO 1 (.lst (.cons (.cst .none) (.cons (.cst (.int 5)) (.cons (.blt .list (.cons (.var 0) (.nil))) (.cons (.slc (.var 0) (.non) (.som (.cst (.int 2)))) (.cons (.bin .add (.var 0) (.tup (.cons (.cst (.int 0)) (.nil)))) (.cons (.tup (.cons (.cst (.int 3)) (.cons (.var 5) (.cons (.var 6) (.nil))))) (.cons (.tup (.cons (.neg (.cst (.int 1))) (.cons (.var 5) (.cons (.var 6) (.nil))))) (.nil)))))))))) (.cons (.asgO 1 (.bin .add (.bor 1) (.lst (.cons (.tup (.cons (.cst (.bool true)) (.cons (.var 5) (.cons (.var 6) (.nil))))) (.nil))))) (.cons (.asgO 1 (.bin .add (.bor 1) (.lst (.cons (.tup (.cons (.var 4) (.cons (.tup (.nil)) (.cons (.tup (.cons (.cst (.int 0)) (.nil))) (.nil))))) (.cons (.tup (.cons (.var 4) (.cons (.blt .list (.cons (.var 5) (.nil))) (.cons (.var 6) (.nil))))) (.cons (.tup (.cons (.var 4) (.cons (.var 5) (.cons (.tup (.nil)) (.nil))))) (.nil))))))) (.cons (.asgO 1 (.bin .add (.bor 1) (.lst (.cons (.tup (.cons (.var 4) (.cons (.var 5) (.cons (.tup (.cons (.blt .len (.cons (.var 5) (.nil))) (.nil))) (.nil))))) (.nil))))) (.cons (.asgO 1 (.bin .add (.bor 1) (.lst (.cons (.tup (.cons (.var 4) (.cons (.var 5) (.cons (.bin .mul (.tup (.cons (.cst (.int 0)) (.nil))) (.cst (.int 4))) (.nil))))) (.cons (.tup (.cons (.var 4) (.cons (.var 5) (.cons (.lst (.cons (.cst (.int 0)) (.nil))) (.nil))))) (.cons (.tup (.cons (.var 4) (.cons (.var 5) (.cons (.tup (.cons (.cst (.bool true)) (.nil))) (.nil))))) (.nil))))))) (.cons (.asgO 1 (.bin .add (.bor 1) (.lst (.cons (.tup (.cons (.var 4) (.cons (.bin .mul (.tup (.cons (.tup (.nil)) (.nil))) (.cst (.int 6))) (.cons (.tup (.cons (.cst (.int 0)) (.nil))) (.nil))))) (.nil))))) (.cons (.asg 2 (.lst (.cons (.tup (.cons (.cst (.str "s")) (.cons (.cst (.int 10)) (.cons (.cst (.int 0)) (.nil))))) (.cons (.tup (.cons (.cst (.str "s")) (.cons (.neg (.cst (.int 1))) (.cons (.cst (.int 0)) (.nil))))) (.cons (.tup (.cons (.cst (.str "s")) (.cons (.cst (.int 0)) (.cons (.cst (.int 4)) (.nil))))) (.cons (.tup (.cons (.cst (.str "x")) (.cons (.cst (.int 0)) (.cons (.cst (.int 0)) (.nil))))) (.cons (.tup (.cons (.cst (.str "e5")) (.cons (.cst (.int 0)) (.cons (.cst (.int 1)) (.nil))))) (.cons (.tup (.cons (.cst (.str "u2")) (.cons (.cst (.int 0)) (.cons (.cst (.int 0)) (.nil))))) (.nil))))))))) (.cons (.asg 2 (.bin .add (.var 2) (.lst (.cons (.tup (.cons (.cst (.str "e")) (.cons (.cst (.int 0)) (.cons (.cst (.int 1)) (.nil))))) (.cons (.tup (.cons (.cst (.str "e00")) (.cons (.cst (.int 0)) (.cons (.cst (.int 1)) (.nil))))) (.nil)))))) (.cons (.fors (.one 3) (.seq (.var 2)) b_law_bad_nets_0) (.cons (.fors (.one 3) (.seq (.lst (.cons (.tup (.cons (.cst (.str "s")) (.cons (.cst (.bool true)) (.cons (.cst (.int 0)) (.nil))))) (.cons (.tup (.cons (.cst (.str "s")) (.cons (.cst (.int 0)) (.nil)))) (.cons (.lst (.cons (.cst (.str "s")) (.cons (.cst (.int 0)) (.cons (.cst (.int 0)) (.nil))))) (.cons (.tup (.cons (.cst (.int 0)) (.cons (.cst (.int 0)) (.cons (.cst (.int 0)) (.nil))))) (.cons (.tup (.cons (.cst (.str "s")) (.cons (.cst (.int 0)) (.cons (.cst .none) (.nil))))) (.cons (.cst .none) (.nil))))))))) b_law_bad_nets_1) (.cons (.app 1 (.tup (.cons (.var 4) (.cons (.bin .add (.tup (.cons (.tup (.cons (.tup (.cons (.bin .add (.cst (.str "u")) (.blt .str (.cons (.var 4) (.nil)))) (.cons (.cst (.int 0)) (.cons (.cst (.int 0)) (.nil))))) (.nil))) (.nil))) (.slc (.var 5) (.som (.cst (.int 1))) (.non))) (.cons (.var 6) (.nil)))))) (.cons (.app 1 (.tup (.cons (.var 4) (.cons (.bin .add (.tup (.cons (.bin .mul (.tup (.cons (.tup (.cons (.cst (.str "s")) (.cons (.cst (.int 0)) (.cons (.cst (.int 0)) (.nil))))) (.nil))) (.cst (.int 5))) (.nil))) (.slc (.var 5) (.som (.cst (.int 1))) (.non))) (.cons (.var 6) (.nil)))))) (.cons (.app 1 (.tup (.cons (.var 4) (.cons (.bin .add (.tup (.cons (.tup (.cons (.tup (.cons (.cst (.str "e0")) (.cons (.cst (.int 0)) (.cons (.cst (.int 0)) (.nil))))) (.nil))) (.nil))) (.slc (.var 5) (.som (.cst (.int 1))) (.non))) (.cons (.var 6) (.nil)))))) (.cons (.app 1 (.tup (.cons (.cst (.int 0)) (.cons (.tup (.cons (.tup (.cons (.tup (.cons (.cst (.str "e1")) (.cons (.cst (.int 1)) (.cons (.cst (.int 0)) (.nil))))) (.nil))) (.cons (.tup (.cons (.tup (.cons (.cst (.str "e2")) (.cons (.cst (.int 1)) (.cons (.cst (.int 0)) (.nil))))) (.nil))) (.cons (.tup (.cons (.tup (.cons (.cst (.str "s")) (.cons (.cst (.int 0)) (.cons (.cst (.int 0)) (.nil))))) (.cons (.tup (.cons (.cst (.str "e0")) (.cons (.cst (.int 1)) (.cons (.cst (.int 0)) (.nil))))) (.nil)))) (.nil))))) (.cons (.tup (.cons (.cst (.int 0)) (.nil))) (.nil)))))) (.cons (.ret (.bin .add (.bor 1) (.lst (.cons (.tup (.cons (.cst (.int 0)) (.cons (.tup (.cons (.bin .mul (.tup (.cons (.tup (.cons (.cst (.str "s")) (.cons (.cst (.int 0)) (.cons (.cst (.int 3)) (.nil))))) (.nil))) (.cst (.int 3))) (.nil))) (.cons (.tup (.cons (.cst (.int 0)) (.nil))) (.nil))))) (.nil))))) (.nil))))))))))))))))
def N_law_bad_nets : List Str := ["_law_net_here", "_law_bad", "_law_cases", "_law_arc", "_law_inputs", "_law_rows", "_law_outputs"]
def p_law_bad_nets : List Str := ["_law_net_here"]
def fs_law_bad_nets : List (Str × Nat) := []
def ms_law_bad_nets : List (List SV → Dice → Res D) := []
def m_law_bad_nets : List SV → Dice → Res D := fnD (fun j => ms_law_bad_nets[j]?) 7 c_law_bad_nets
def c_law_drawn : CB := .cons (.asg 2 (.bin .mod (.bin .add (.bin .mul (.var 0) (.cst (.int 6364136223846793005))) (.bin .mul (.bin .add (.var 1) (.cst (.int 1))) (.cst (.int 1442695040888963407)))) (.cst (.int 340282366920938463463374607431768211507)))) (.cons (.asg 2 (.bin .mod (.bin .mul (.var 2) (.var 2)) (.cst (.int 340282366920938463463374607431768211297)))) (.cons (.asg 2 (.bin .mul (.bin .mul (.bin .add (.bin .mod (.var 2) (.cst (.int 18446744073709551557))) (.cst (.int 1))) (.bin .add (.bin .fdiv (.var 2) (.cst (.int 18446744073709551557))) (.cst (.int 1)))) (.var 2))) (.cons (.ret (.bin .mod (.var 2) (.cst (.int 340282366920938463463374607431768211507)))) (.nil))))
def N_law_drawn : List Str := ["_law_cell_here", "_law_k", "_law_more"]
def p_law_drawn : List Str := ["_law_cell_here", "_law_k"]
def fs_law_drawn : List (Str × Nat) := []
def ms_law_drawn : List (List SV → Dice → Res D) := []
def m_law_drawn : List SV → Dice → Res D := fnD (fun j => ms_law_drawn[j]?) 3 c_law_drawn
def c_law_roll : CB := .cons (.ifs (.cmp .ge (.drd 0 false) (.bin .pow (.cst (.int 10)) (.cst (.int 18)))) (.cons (.asg 2 (.bin .mod (.drd 0 false) (.var 1))) (.cons (.dst 0 false (.bin .fdiv (.drd 0 false) (.var 1))) (.cons (.ret (.var 2)) (.nil)))) (.nil)) (.cons (.dst 0 true (.bin .add (.drd 0 true) (.cst (.int 1)))) (.cons (.ret (.bin .mod (.bin .fdiv (.call 0 (.cons (.drd 0 false) (.cons (.drd 0 true) (.nil)))) (.cst (.int 8))) (.var 1))) (.nil)))
def N_law_roll : List Str := ["_law_dice", "_law_many", "_law_told_here"]
def p_law_roll : List Str := ["_law_dice", "_law_many"]
def fs_law_roll : List (Str × Nat) := [("_law_drawn", 2)]
def ms_law_roll : List (List SV → Dice → Res D) := [m_law_drawn]
def m_law_roll : List SV → Dice → Res D := fnD (fun j => ms_law_roll[j]?) 3 c_law_roll
def c_is_whole : CB := .cons (.ret (.and (.blt .isInt (.cons (.var 0) .nil)) (.and (.not (.blt .isBool (.cons (.var 0) .nil))) (.chain .le .le (.var 1) (.var 0) (.var 2))))) (.nil)
def N_is_whole : List Str := ["value", "low", "high"]
def p_is_whole : List Str := ["value", "low", "high"]
def fs_is_whole : List (Str × Nat) := []
def ms_is_whole : List (List SV → Dice → Res D) := []
def m_is_whole : List SV → Dice → Res D := fnD (fun j => ms_is_whole[j]?) 3 c_is_whole
def e_is_source_0 : CE := .bin .add (.cst (.str "u")) (.blt .str (.cons (.var 3) (.nil)))
def e_is_source_1 : CE := .bin .add (.cst (.str "e")) (.blt .str (.cons (.var 3) (.nil)))
def c_is_source : CB := .cons (.ifs (.not (.blt .isStr (.cons (.var 0) .nil))) (.cons (.ret (.cst (.bool false))) (.nil)) (.nil)) (.cons (.ret (.or (.cmp .eq (.var 0) (.cst (.str "s"))) (.cmp .inn (.var 0) (.bin .add (.comp e_is_source_0 [3] (.one 3) (.rng (.cst (.int 0)) (.var 1)) (.non)) (.comp e_is_source_1 [3] (.one 3) (.rng (.cst (.int 0)) (.var 2)) (.non)))))) (.nil))
def N_is_source : List Str := ["value", "inputs", "events", "at"]
def p_is_source : List Str := ["value", "inputs", "events"]
def fs_is_source : List (Str × Nat) := []
def ms_is_source : List (List SV → Dice → Res D) := []
def m_is_source : List SV → Dice → Res D := fnD (fun j => ms_is_source[j]?) 4 c_is_source
def c_is_arc : CB := .cons (.ifs (.or (.not (.blt .isTuple (.cons (.var 0) .nil))) (.or (.cmp .ne (.blt .len (.cons (.var 0) (.nil))) (.cst (.int 3))) (.not (.call 0 (.cons (.sub (.var 0) (.cst (.int 0))) (.cons (.var 1) (.cons (.var 2) (.nil)))))))) (.cons (.ret (.cst (.bool false))) (.nil)) (.nil)) (.cons (.ret (.and (.call 1 (.cons (.sub (.var 0) (.cst (.int 1))) (.cons (.cst (.int 0)) (.cons (.cst (.int 9)) (.nil))))) (.call 1 (.cons (.sub (.var 0) (.cst (.int 2))) (.cons (.cst (.int 0)) (.cons (.cst (.int 3)) (.nil))))))) (.nil))
def N_is_arc : List Str := ["value", "inputs", "events"]
def p_is_arc : List Str := ["value", "inputs", "events"]
def fs_is_arc : List (Str × Nat) := [("is_source", 3), ("is_whole", 3)]
def ms_is_arc : List (List SV → Dice → Res D) := [m_is_source, m_is_whole]
def m_is_arc : List SV → Dice → Res D := fnD (fun j => ms_is_arc[j]?) 3 c_is_arc
def e_is_row_0 : CE := .call 0 (.cons (.var 3) (.cons (.var 1) (.cons (.var 2) (.nil))))
def c_is_row : CB := .cons (.ret (.and (.blt .isTuple (.cons (.var 0) .nil)) (.and (.cmp .le (.blt .len (.cons (.var 0) (.nil))) (.cst (.int 4))) (.blt .all (.cons (.comp e_is_row_0 [3] (.one 3) (.seq (.var 0)) (.non)) (.nil)))))) (.nil)
def N_is_row : List Str := ["value", "inputs", "events", "one"]
def p_is_row : List Str := ["value", "inputs", "events"]
def fs_is_row : List (Str × Nat) := [("is_arc", 3)]
def ms_is_row : List (List SV → Dice → Res D) := [m_is_arc]
def m_is_row : List SV → Dice → Res D := fnD (fun j => ms_is_row[j]?) 4 c_is_row
def e_is_shaped_0 : CE := .call 1 (.cons (.var 5) (.cons (.var 1) (.cons (.blt .len (.cons (.var 2) (.nil))) (.nil))))
def e_is_shaped_1 : CE := .call 0 (.cons (.var 4) (.cons (.cst (.int 0)) (.cons (.bin .sub (.blt .len (.cons (.var 2) (.nil))) (.cst (.int 1))) (.nil))))
def c_is_shaped : CB := .cons (.ifs (.or (.not (.blt .isTuple (.cons (.var 0) .nil))) (.or (.cmp .ne (.blt .len (.cons (.var 0) (.nil))) (.cst (.int 3))) (.not (.call 0 (.cons (.sub (.var 0) (.cst (.int 0))) (.cons (.cst (.int 0)) (.cons (.cst (.int 2)) (.nil)))))))) (.cons (.ret (.cst (.bool false))) (.nil)) (.nil)) (.cons (.unp (.tup (.cons (.one 1) (.cons (.one 2) (.cons (.one 3) (.nil))))) (.var 0)) (.cons (.ifs (.or (.not (.blt .isTuple (.cons (.var 2) .nil))) (.not (.chain .le .le (.cst (.int 1)) (.blt .len (.cons (.var 2) (.nil))) (.cst (.int 5))))) (.cons (.ret (.cst (.bool false))) (.nil)) (.nil)) (.cons (.ifs (.not (.blt .all (.cons (.comp e_is_shaped_0 [5] (.one 5) (.seq (.var 2)) (.non)) (.nil)))) (.cons (.ret (.cst (.bool false))) (.nil)) (.nil)) (.cons (.ifs (.or (.not (.blt .isTuple (.cons (.var 3) .nil))) (.not (.chain .le .le (.cst (.int 1)) (.blt .len (.cons (.var 3) (.nil))) (.cst (.int 3))))) (.cons (.ret (.cst (.bool false))) (.nil)) (.nil)) (.cons (.ret (.blt .all (.cons (.comp e_is_shaped_1 [4] (.one 4) (.seq (.var 3)) (.non)) (.nil)))) (.nil))))))
def N_is_shaped : List Str := ["value", "inputs", "rows", "outputs", "one", "row"]
def p_is_shaped : List Str := ["value"]
def fs_is_shaped : List (Str × Nat) := [("is_whole", 3), ("is_row", 3)]
def ms_is_shaped : List (List SV → Dice → Res D) := [m_is_whole, m_is_row]
def m_is_shaped : List SV → Dice → Res D := fnD (fun j => ms_is_shaped[j]?) 6 c_is_shaped
def e_all_back_0 : CE := .blt .sum (.cons (.comp (.var 4) [2, 3, 4] (.tup (.cons (.one 2) (.cons (.one 3) (.cons (.one 4) (.nil))))) (.seq (.var 1)) (.non)) (.nil))
def c_all_back : CB := .cons (.ret (.blt .sum (.cons (.comp e_all_back_0 [1] (.one 1) (.seq (.var 0)) (.non)) (.nil)))) (.nil)
def N_all_back : List Str := ["rows", "row", "source", "delay", "back"]
def p_all_back : List Str := ["rows"]
def fs_all_back : List (Str × Nat) := []
def ms_all_back : List (List SV → Dice → Res D) := []
def m_all_back : List SV → Dice → Res D := fnD (fun j => ms_all_back[j]?) 5 c_all_back
def c_event_of : CB := .cons (.ret (.ife (.cmp .eq (.sub (.var 0) (.cst (.int 0))) (.cst (.str "e"))) (.blt .int (.cons (.slc (.var 0) (.som (.cst (.int 1))) (.non)) (.nil))) (.cst .none))) (.nil)
def N_event_of : List Str := ["source"]
def p_event_of : List Str := ["source"]
def fs_event_of : List (Str × Nat) := []
def ms_event_of : List (List SV → Dice → Res D) := []
def m_event_of : List SV → Dice → Res D := fnD (fun j => ms_event_of[j]?) 1 c_event_of
def e_same_round_0 : CE := .call 0 (.cons (.var 4) (.nil))
def t_same_round_1 : CO := .som (.cmp .eq (.var 6) (.cst (.int 0)))
def t_same_round_2 : CO := .som (.notN (.var 7))
def b_same_round_3 : CB := .cons (.asg 3 (.comp e_same_round_0 [4, 5, 6] (.tup (.cons (.one 4) (.cons (.one 5) (.cons (.one 6) (.nil))))) (.seq (.var 2)) t_same_round_1)) (.cons (.app 1 (.comp (.var 7) [7] (.one 7) (.seq (.var 3)) t_same_round_2)) (.nil))
def c_same_round : CB := .cons (.asgO 1 (.lst (.nil))) (.cons (.fors (.one 2) (.seq (.var 0)) b_same_round_3) (.cons (.frz 1) (.cons (.ret (.var 1)) (.nil))))
def N_same_round : List Str := ["rows", "found", "row", "some", "source", "delay", "back", "one"]
def p_same_round : List Str := ["rows"]
def fs_same_round : List (Str × Nat) := [("event_of", 1)]
def ms_same_round : List (List SV → Dice → Res D) := [m_event_of]
def m_same_round : List SV → Dice → Res D := fnD (fun j => ms_same_round[j]?) 8 c_same_round
def e_order_of_0 : CE := .cmp .inn (.var 5) (.bor 2)
def t_order_of_1 : CO := .som (.and (.cmp .nin (.var 4) (.bor 2)) (.blt .all (.cons (.comp e_order_of_0 [5] (.one 5) (.seq (.sub (.var 1) (.var 4))) (.non)) (.nil))))
def b_order_of_2 : CB := .cons (.asg 3 (.comp (.var 4) [4] (.one 4) (.rng (.cst (.int 0)) (.blt .len (.cons (.var 0) (.nil)))) t_order_of_1)) (.cons (.ifs (.cmp .eq (.var 3) (.lst (.nil))) (.cons (.ret (.cst .none)) (.nil)) (.nil)) (.cons (.app 2 (.sub (.var 3) (.cst (.int 0)))) (.nil)))
def c_order_of : CB := .cons (.par [(1, false), (2, true)] (.cons (.call 0 (.cons (.var 0) (.nil))) (.cons (.lst (.nil)) (.nil)))) (.cons (.whl (.cmp .lt (.blt .len (.cons (.bor 2) (.nil))) (.blt .len (.cons (.var 0) (.nil)))) b_order_of_2) (.cons (.frz 2) (.cons (.ret (.var 2)) (.nil))))
def N_order_of : List Str := ["rows", "waits", "found", "free", "at", "one"]
def p_order_of : List Str := ["rows"]
def fs_order_of : List (Str × Nat) := [("same_round", 1)]
def ms_order_of : List (List SV → Dice → Res D) := [m_same_round]
def m_order_of : List SV → Dice → Res D := fnD (fun j => ms_order_of[j]?) 6 c_order_of
def c_is_net : CB := .cons (.ret (.and (.call 0 (.cons (.var 0) (.nil))) (.and (.cmp .le (.call 1 (.cons (.sub (.var 0) (.cst (.int 1))) (.nil))) (.cst (.int 8))) (.notN (.call 2 (.cons (.sub (.var 0) (.cst (.int 1))) (.nil))))))) (.nil)
def N_is_net : List Str := ["value"]
def p_is_net : List Str := ["value"]
def fs_is_net : List (Str × Nat) := [("is_shaped", 1), ("all_back", 1), ("order_of", 1)]
def ms_is_net : List (List SV → Dice → Res D) := [m_is_shaped, m_all_back, m_order_of]
def m_is_net : List SV → Dice → Res D := fnD (fun j => ms_is_net[j]?) 1 c_is_net
def c_law_changed : CB := .cons (.asg 2 (.call 0 (.cons (.dce 0) (.cons (.blt .len (.cons (.sub (.var 1) (.cst (.int 1))) (.nil))) (.nil))))) (.cons (.par [(4, false), (5, false)] (.cons (.sub (.sub (.var 1) (.cst (.int 1))) (.var 2)) (.cons (.call 0 (.cons (.dce 0) (.cons (.cst (.int 4)) (.nil)))) (.nil)))) (.cons (.ifs (.and (.cmp .ne (.var 4) (.tup (.nil))) (.cmp .lt (.var 5) (.cst (.int 2)))) (.cons (.asg 6 (.call 0 (.cons (.dce 0) (.cons (.blt .len (.cons (.var 4) (.nil))) (.nil))))) (.cons (.unp (.tup (.cons (.one 8) (.cons (.one 9) (.cons (.one 10) (.nil))))) (.sub (.var 4) (.var 6))) (.cons (.asg 7 (.tup (.cons (.var 8) (.cons (.blt .min (.cons (.cst (.int 9)) (.cons (.blt .max (.cons (.cst (.int 0)) (.cons (.bin .add (.var 9) (.sub (.lst (.cons (.neg (.cst (.int 1))) (.cons (.cst (.int 1)) (.cons (.cst (.int 3)) (.nil))))) (.call 0 (.cons (.dce 0) (.cons (.cst (.int 3)) (.nil)))))) (.nil)))) (.nil)))) (.cons (.var 10) (.nil)))))) (.cons (.asg 4 (.bin .add (.bin .add (.slc (.var 4) (.non) (.som (.var 6))) (.tup (.cons (.var 7) (.nil)))) (.slc (.var 4) (.som (.bin .add (.var 6) (.cst (.int 1)))) (.non)))) (.nil))))) (.cons (.ifs (.and (.cmp .ne (.var 4) (.tup (.nil))) (.cmp .eq (.var 5) (.cst (.int 2)))) (.cons (.asg 6 (.call 0 (.cons (.dce 0) (.cons (.blt .len (.cons (.var 4) (.nil))) (.nil))))) (.cons (.asg 4 (.bin .add (.slc (.var 4) (.non) (.som (.var 6))) (.slc (.var 4) (.som (.bin .add (.var 6) (.cst (.int 1)))) (.non)))) (.nil))) (.cons (.ifs (.cmp .lt (.blt .len (.cons (.var 4) (.nil))) (.cst (.int 4))) (.cons (.asg 4 (.bin .add (.var 4) (.tup (.cons (.tup (.cons (.cst (.str "s")) (.cons (.call 0 (.cons (.dce 0) (.cons (.cst (.int 10)) (.nil)))) (.cons (.cst (.int 0)) (.nil))))) (.nil))))) (.nil)) (.nil)) (.nil))) (.nil))) (.cons (.asg 3 (.tup (.cons (.sub (.var 1) (.cst (.int 0))) (.cons (.bin .add (.bin .add (.slc (.sub (.var 1) (.cst (.int 1))) (.non) (.som (.var 2))) (.tup (.cons (.var 4) (.nil)))) (.slc (.sub (.var 1) (.cst (.int 1))) (.som (.bin .add (.var 2) (.cst (.int 1)))) (.non))) (.cons (.sub (.var 1) (.cst (.int 2))) (.nil)))))) (.cons (.ret (.ife (.call 1 (.cons (.var 3) (.nil))) (.var 3) (.var 1))) (.nil)))))
def N_law_changed : List Str := ["_law_dice", "_law_net_here", "_law_event", "_law_made", "_law_row", "_law_pick", "_law_place", "_law_arc", "_law_source", "_law_delay", "_law_back"]
def p_law_changed : List Str := ["_law_dice", "_law_net_here"]
def fs_law_changed : List (Str × Nat) := [("_law_roll", 2), ("is_net", 1)]
def ms_law_changed : List (List SV → Dice → Res D) := [m_law_roll, m_is_net]
def m_law_changed : List SV → Dice → Res D := fnD (fun j => ms_law_changed[j]?) 11 c_law_changed
def c_law_doubled : CB := .cons (.ret (.ife (.isN (.var 0)) (.cst .none) (.bin .mul (.cst (.int 2)) (.var 0)))) (.nil)
def N_law_doubled : List Str := ["_law_number_there"]
def p_law_doubled : List Str := ["_law_number_there"]
def fs_law_doubled : List (Str × Nat) := []
def ms_law_doubled : List (List SV → Dice → Res D) := []
def m_law_doubled : List SV → Dice → Res D := fnD (fun j => ms_law_doubled[j]?) 1 c_law_doubled
def b_law_dues_0 : CB := .cons (.app 6 (.ife (.cmp .eq (.call 0 (.cons (.dce 0) (.cons (.cst (.int 3)) (.nil)))) (.cst (.int 0))) (.cst .none) (.bin .add (.var 3) (.call 0 (.cons (.dce 0) (.cons (.cst (.int 40)) (.nil))))))) (.nil)
def b_law_dues_1 : CB := .cons (.asgO 6 (.lst (.nil))) (.cons (.fors (.one 7) (.rng (.cst (.int 0)) (.var 2)) b_law_dues_0) (.cons (.app 4 (.blt .tuple (.cons (.bor 6) (.nil)))) (.nil)))
def c_law_dues : CB := .cons (.asgO 4 (.lst (.nil))) (.cons (.fors (.one 5) (.rng (.cst (.int 0)) (.var 1)) b_law_dues_1) (.cons (.ret (.blt .tuple (.cons (.bor 4) (.nil)))) (.nil)))
def N_law_dues : List Str := ["_law_dice", "_law_many", "_law_rounds_here", "_law_low", "_law_found", "_law_turn", "_law_row", "_law_at"]
def p_law_dues : List Str := ["_law_dice", "_law_many", "_law_rounds_here", "_law_low"]
def fs_law_dues : List (Str × Nat) := [("_law_roll", 2)]
def ms_law_dues : List (List SV → Dice → Res D) := [m_law_roll]
def m_law_dues : List SV → Dice → Res D := fnD (fun j => ms_law_dues[j]?) 8 c_law_dues
def b_law_renamed_0 : CB := .cons (.ifs (.cmp .eq (.sub (.var 8) (.cst (.int 0))) (.cst (.str "e"))) (.cons (.asg 8 (.bin .add (.cst (.str "e")) (.blt .str (.cons (.bin .mod (.bin .add (.blt .int (.cons (.slc (.var 8) (.som (.cst (.int 1))) (.non)) (.nil))) (.var 3)) (.var 2)) (.nil))))) (.nil)) (.nil)) (.cons (.app 7 (.tup (.cons (.var 8) (.cons (.var 9) (.cons (.var 10) (.nil)))))) (.nil))
def b_law_renamed_1 : CB := .cons (.asgO 7 (.lst (.nil))) (.cons (.fors (.tup (.cons (.one 8) (.cons (.one 9) (.cons (.one 10) (.nil))))) (.seq (.var 6)) b_law_renamed_0) (.cons (.setI 4 (.bin .mod (.bin .add (.var 5) (.var 3)) (.var 2)) (.blt .tuple (.cons (.bor 7) (.nil)))) (.nil)))
def e_law_renamed_2 : CE := .bin .mod (.bin .add (.var 11) (.var 3)) (.var 2)
def c_law_renamed : CB := .cons (.asg 2 (.blt .len (.cons (.sub (.var 1) (.cst (.int 1))) (.nil)))) (.cons (.ifs (.cmp .eq (.call 0 (.cons (.dce 0) (.cons (.cst (.int 2)) (.nil)))) (.cst (.int 0))) (.cons (.ret (.var 1)) (.nil)) (.nil)) (.cons (.asg 3 (.call 0 (.cons (.dce 0) (.cons (.var 2) (.nil))))) (.cons (.asgO 4 (.bin .mul (.lst (.cons (.tup (.nil)) (.nil))) (.var 2))) (.cons (.fors (.tup (.cons (.one 5) (.cons (.one 6) (.nil)))) (.enm (.sub (.var 1) (.cst (.int 1)))) b_law_renamed_1) (.cons (.ret (.tup (.cons (.sub (.var 1) (.cst (.int 0))) (.cons (.blt .tuple (.cons (.bor 4) (.nil))) (.cons (.blt .tuple (.cons (.comp e_law_renamed_2 [11] (.one 11) (.seq (.sub (.var 1) (.cst (.int 2)))) (.non)) (.nil))) (.nil)))))) (.nil))))))
def N_law_renamed : List Str := ["_law_dice", "_law_net_here", "_law_many", "_law_turn", "_law_rows", "_law_event", "_law_row", "_law_some", "_law_source", "_law_delay", "_law_back", "_law_one"]
def p_law_renamed : List Str := ["_law_dice", "_law_net_here"]
def fs_law_renamed : List (Str × Nat) := [("_law_roll", 2)]
def ms_law_renamed : List (List SV → Dice → Res D) := [m_law_roll]
def m_law_renamed : List SV → Dice → Res D := fnD (fun j => ms_law_renamed[j]?) 12 c_law_renamed
def b_law_net_0 : CB := .cons (.asg 11 (.sub (.lst (.cons (.cst (.int 0)) (.cons (.cst (.int 1)) (.cons (.cst (.int 1)) (.cons (.cst (.int 2)) (.cons (.cst (.int 0)) (.cons (.cst (.int 3)) (.nil)))))))) (.call 0 (.cons (.dce 0) (.cons (.cst (.int 6)) (.nil)))))) (.cons (.asg 12 (.call 0 (.cons (.dce 0) (.cons (.cst (.int 4)) (.nil))))) (.cons (.asg 13 (.bin .add (.cst (.str "e")) (.blt .str (.cons (.call 0 (.cons (.dce 0) (.cons (.var 5) (.nil)))) (.nil))))) (.cons (.ifs (.cmp .eq (.var 12) (.cst (.int 0))) (.cons (.asg 13 (.cst (.str "s"))) (.nil)) (.nil)) (.cons (.ifs (.and (.cmp .eq (.var 12) (.cst (.int 1))) (.cmp .gt (.var 6) (.cst (.int 0)))) (.cons (.asg 13 (.bin .add (.cst (.str "u")) (.blt .str (.cons (.call 0 (.cons (.dce 0) (.cons (.var 6) (.nil)))) (.nil))))) (.nil)) (.nil)) (.cons (.ifs (.and (.cmp .eq (.sub (.var 13) (.cst (.int 0))) (.cst (.str "e"))) (.and (.cmp .ge (.blt .int (.cons (.slc (.var 13) (.som (.cst (.int 1))) (.non)) (.nil))) (.var 3)) (.cmp .eq (.var 11) (.cst (.int 0))))) (.cons (.asg 11 (.cst (.int 1))) (.nil)) (.nil)) (.cons (.ifs (.cmp .le (.var 11) (.var 8)) (.cons (.asg 8 (.bin .sub (.var 8) (.var 11))) (.cons (.app 9 (.tup (.cons (.var 13) (.cons (.call 0 (.cons (.dce 0) (.cons (.cst (.int 10)) (.nil)))) (.cons (.var 11) (.nil)))))) (.nil))) (.nil)) (.nil)))))))
def b_law_net_1 : CB := .cons (.asgO 9 (.lst (.nil))) (.cons (.fors (.one 10) (.rng (.cst (.int 0)) (.call 0 (.cons (.dce 0) (.cons (.cst (.int 4)) (.nil))))) b_law_net_0) (.cons (.app 7 (.blt .tuple (.cons (.bor 9) (.nil)))) (.nil)))
def e_law_net_2 : CE := .call 0 (.cons (.dce 0) (.cons (.var 5) (.nil)))
def c_law_net : CB := .cons (.par [(5, false), (6, false)] (.cons (.bin .add (.cst (.int 1)) (.call 0 (.cons (.dce 0) (.cons (.var 1) (.nil))))) (.cons (.call 0 (.cons (.dce 0) (.cons (.bin .add (.var 2) (.cst (.int 1))) (.nil)))) (.nil)))) (.cons (.par [(7, true), (8, false)] (.cons (.lst (.nil)) (.cons (.cst (.int 8)) (.nil)))) (.cons (.fors (.one 3) (.rng (.cst (.int 0)) (.var 5)) b_law_net_1) (.cons (.ifs (.and (.cmp .gt (.call 0 (.cons (.dce 0) (.cons (.cst (.int 3)) (.nil)))) (.cst (.int 0))) (.cmp .lt (.blt .len (.cons (.sub (.bor 7) (.cst (.int 0))) (.nil))) (.cst (.int 4)))) (.cons (.setI 7 (.cst (.int 0)) (.bin .add (.sub (.bor 7) (.cst (.int 0))) (.tup (.cons (.tup (.cons (.cst (.str "s")) (.cons (.call 0 (.cons (.dce 0) (.cons (.cst (.int 10)) (.nil)))) (.cons (.cst (.int 0)) (.nil))))) (.nil))))) (.nil)) (.nil)) (.cons (.asg 4 (.blt .tuple (.cons (.comp e_law_net_2 [10] (.one 10) (.rng (.cst (.int 0)) (.bin .add (.cst (.int 1)) (.call 0 (.cons (.dce 0) (.cons (.cst (.int 2)) (.nil)))))) (.non)) (.nil)))) (.cons (.ret (.call 1 (.cons (.dce 0) (.cons (.tup (.cons (.var 6) (.cons (.blt .tuple (.cons (.bor 7) (.nil))) (.cons (.var 4) (.nil))))) (.nil))))) (.nil))))))
def N_law_net : List Str := ["_law_dice", "_law_most", "_law_inputs", "_law_event", "_law_outputs", "_law_many", "_law_given", "_law_rows", "_law_left", "_law_row", "_law_turn", "_law_back", "_law_pick", "_law_source"]
def p_law_net : List Str := ["_law_dice", "_law_most", "_law_inputs"]
def fs_law_net : List (Str × Nat) := [("_law_roll", 2), ("_law_renamed", 2)]
def ms_law_net : List (List SV → Dice → Res D) := [m_law_roll, m_law_renamed]
def m_law_net : List SV → Dice → Res D := fnD (fun j => ms_law_net[j]?) 14 c_law_net
def b_law_few_0 : CB := .cons (.asg 9 (.blt .min (.cons (.var 9) (.cons (.cst (.int 1)) (.nil))))) (.cons (.ifs (.cmp .le (.var 9) (.var 3)) (.cons (.asg 3 (.bin .sub (.var 3) (.var 9))) (.cons (.app 6 (.tup (.cons (.var 7) (.cons (.var 8) (.cons (.var 9) (.nil)))))) (.nil))) (.nil)) (.nil))
def b_law_few_1 : CB := .cons (.asgO 6 (.lst (.nil))) (.cons (.fors (.tup (.cons (.one 7) (.cons (.one 8) (.cons (.one 9) (.nil))))) (.seq (.var 5)) b_law_few_0) (.cons (.app 2 (.blt .tuple (.cons (.bor 6) (.nil)))) (.nil)))
def c_law_few : CB := .cons (.asg 1 (.call 0 (.cons (.dce 0) (.cons (.cst (.int 3)) (.cons (.cst (.int 1)) (.nil)))))) (.cons (.par [(2, true), (3, false)] (.cons (.lst (.nil)) (.cons (.cst (.int 4)) (.nil)))) (.cons (.fors (.tup (.cons (.one 4) (.cons (.one 5) (.nil)))) (.enm (.sub (.var 1) (.cst (.int 1)))) b_law_few_1) (.cons (.ret (.tup (.cons (.sub (.var 1) (.cst (.int 0))) (.cons (.blt .tuple (.cons (.bor 2) (.nil))) (.cons (.sub (.var 1) (.cst (.int 2))) (.nil)))))) (.nil))))
def N_law_few : List Str := ["_law_dice", "_law_net_here", "_law_rows", "_law_left", "_law_event", "_law_row", "_law_some", "_law_source", "_law_delay", "_law_back"]
def p_law_few : List Str := ["_law_dice"]
def fs_law_few : List (Str × Nat) := [("_law_net", 3)]
def ms_law_few : List (List SV → Dice → Res D) := [m_law_net]
def m_law_few : List SV → Dice → Res D := fnD (fun j => ms_law_few[j]?) 10 c_law_few
def e_law_form_of_0 : CE := .ife (.or (.cmp .eq (.var 4) (.var 1)) (.cmp .gt (.call 0 (.cons (.dce 0) (.cons (.cst (.int 3)) (.nil)))) (.cst (.int 0)))) (.call 0 (.cons (.dce 0) (.cons (.cst (.int 60)) (.nil)))) (.cst .none)
def c_law_form_of : CB := .cons (.asg 1 (.call 0 (.cons (.dce 0) (.cons (.cst (.int 3)) (.nil))))) (.cons (.asgO 2 (.comp e_law_form_of_0 [4] (.one 4) (.rng (.cst (.int 0)) (.bin .add (.var 1) (.cst (.int 1)))) (.non))) (.cons (.asg 3 (.call 0 (.cons (.dce 0) (.cons (.cst (.int 5)) (.nil))))) (.cons (.ifs (.and (.cmp .gt (.var 1) (.cst (.int 0))) (.cmp .eq (.sub (.bor 2) (.bin .sub (.var 1) (.cst (.int 1)))) (.bin .sub (.sub (.bor 2) (.var 1)) (.var 3)))) (.cons (.setI 2 (.bin .sub (.var 1) (.cst (.int 1))) (.cst .none)) (.nil)) (.nil)) (.cons (.ret (.tup (.cons (.var 1) (.cons (.blt .tuple (.cons (.bor 2) (.nil))) (.cons (.tup (.cons (.var 3) (.nil))) (.nil)))))) (.nil)))))
def N_law_form_of : List Str := ["_law_dice", "_law_begin", "_law_numbers", "_law_rise", "_law_at_here"]
def p_law_form_of : List Str := ["_law_dice"]
def fs_law_form_of : List (Str × Nat) := [("_law_roll", 2)]
def ms_law_form_of : List (List SV → Dice → Res D) := [m_law_roll]
def m_law_form_of : List SV → Dice → Res D := fnD (fun j => ms_law_form_of[j]?) 5 c_law_form_of
def b_law_goes_on_0 : CB := .cons (.par [(5, false), (6, false)] (.cons (.sub (.var 0) (.var 3)) (.cons (.sub (.var 0) (.bin .add (.var 3) (.var 2))) (.nil)))) (.cons (.asg 4 (.sub (.var 0) (.bin .add (.var 3) (.bin .mul (.cst (.int 2)) (.var 2))))) (.cons (.ifs (.or (.cmp .ne (.isN (.var 5)) (.isN (.var 6))) (.cmp .ne (.isN (.var 6)) (.isN (.var 4)))) (.cons (.ret (.cst (.bool false))) (.nil)) (.nil)) (.cons (.ifs (.and (.notN (.var 5)) (.cmp .ne (.bin .sub (.var 6) (.var 5)) (.bin .sub (.var 4) (.var 6)))) (.cons (.ret (.cst (.bool false))) (.nil)) (.nil)) (.nil))))
def c_law_goes_on : CB := .cons (.fors (.one 3) (.rng (.var 1) (.bin .sub (.blt .len (.cons (.var 0) (.nil))) (.bin .mul (.cst (.int 2)) (.var 2)))) b_law_goes_on_0) (.cons (.ret (.cst (.bool true))) (.nil))
def N_law_goes_on : List Str := ["_law_row", "_law_begin", "_law_step", "_law_at_here", "_law_three", "_law_one", "_law_two"]
def p_law_goes_on : List Str := ["_law_row", "_law_begin", "_law_step"]
def fs_law_goes_on : List (Str × Nat) := []
def ms_law_goes_on : List (List SV → Dice → Res D) := []
def m_law_goes_on : List SV → Dice → Res D := fnD (fun j => ms_law_goes_on[j]?) 7 c_law_goes_on
def b_law_impulse_0 : CB := .cons (.app 3 (.bin .add (.ife (.cmp .eq (.var 4) (.var 1)) (.tup (.cons (.bin .pow (.cst (.int 10)) (.cst (.int 5))) (.nil))) (.tup (.cons (.cst .none) (.nil)))) (.bin .mul (.tup (.cons (.cst .none) (.nil))) (.bin .sub (.var 2) (.cst (.int 1)))))) (.nil)
def c_law_impulse : CB := .cons (.asgO 3 (.lst (.nil))) (.cons (.fors (.one 4) (.rng (.cst (.int 0)) (.sub (.var 0) (.cst (.int 0)))) b_law_impulse_0) (.cons (.ret (.blt .tuple (.cons (.bor 3) (.nil)))) (.nil)))
def N_law_impulse : List Str := ["_law_net_here", "_law_source", "_law_rounds_here", "_law_found", "_law_at"]
def p_law_impulse : List Str := ["_law_net_here", "_law_source", "_law_rounds_here"]
def fs_law_impulse : List (Str × Nat) := []
def ms_law_impulse : List (List SV → Dice → Res D) := []
def m_law_impulse : List SV → Dice → Res D := fnD (fun j => ms_law_impulse[j]?) 5 c_law_impulse
def c_law_later : CB := .cons (.ifs (.or (.isN (.var 0)) (.isN (.var 1))) (.cons (.ret (.ife (.isN (.var 0)) (.var 1) (.var 0))) (.nil)) (.nil)) (.cons (.ret (.blt .max (.cons (.var 0) (.cons (.var 1) (.nil))))) (.nil))
def N_law_later : List Str := ["_law_one", "_law_other"]
def p_law_later : List Str := ["_law_one", "_law_other"]
def fs_law_later : List (Str × Nat) := []
def ms_law_later : List (List SV → Dice → Res D) := []
def m_law_later : List SV → Dice → Res D := fnD (fun j => ms_law_later[j]?) 2 c_law_later
def c_law_rise : CB := .cons (.ifs (.and (.isN (.sub (.var 0) (.var 1))) (.isN (.sub (.var 0) (.bin .add (.var 1) (.var 2))))) (.cons (.ret (.cst .none)) (.nil)) (.nil)) (.cons (.par [(3, false), (4, false)] (.cons (.sub (.var 0) (.var 1)) (.cons (.sub (.var 0) (.bin .add (.var 1) (.var 2))) (.nil)))) (.cons (.ret (.ife (.or (.isN (.var 3)) (.isN (.var 4))) (.cst (.str "no")) (.bin .sub (.var 4) (.var 3)))) (.nil)))
def N_law_rise : List Str := ["_law_row_here", "_law_at_here", "_law_step", "_law_one", "_law_other"]
def p_law_rise : List Str := ["_law_row_here", "_law_at_here", "_law_step"]
def fs_law_rise : List (Str × Nat) := []
def ms_law_rise : List (List SV → Dice → Res D) := []
def m_law_rise : List SV → Dice → Res D := fnD (fun j => ms_law_rise[j]?) 5 c_law_rise
def b_law_least_0 : CB := .cons (.asg 7 (.call 0 (.cons (.var 0) (.cons (.var 6) (.cons (.var 3) (.nil)))))) (.cons (.asg 5 (.and (.var 5) (.and (.cmp .ne (.var 7) (.cst (.str "no"))) (.cmp .eq (.var 7) (.call 0 (.cons (.var 0) (.cons (.bin .add (.var 6) (.var 3)) (.cons (.var 3) (.nil))))))))) (.nil))
def b_law_least_1 : CB := .cons (.asg 5 (.cst (.bool true))) (.cons (.fors (.one 6) (.rng (.var 4) (.bin .sub (.blt .len (.cons (.var 0) (.nil))) (.bin .mul (.cst (.int 2)) (.var 3)))) b_law_least_0) (.cons (.ifs (.var 5) (.cons (.ret (.tup (.cons (.var 3) (.cons (.var 4) (.nil))))) (.nil)) (.nil)) (.nil)))
def b_law_least_2 : CB := .cons (.fors (.one 4) (.rng (.cst (.int 0)) (.bin .add (.var 1) (.cst (.int 1)))) b_law_least_1) (.nil)
def c_law_least : CB := .cons (.fors (.one 3) (.rng (.cst (.int 1)) (.bin .add (.var 2) (.cst (.int 1)))) b_law_least_2) (.cons (.ret (.tup (.cons (.var 2) (.cons (.var 1) (.nil))))) (.nil))
def N_law_least : List Str := ["_law_row_here", "_law_begin", "_law_step", "_law_own", "_law_first", "_law_steady", "_law_at_here", "_law_rise_here"]
def p_law_least : List Str := ["_law_row_here", "_law_begin", "_law_step"]
def fs_law_least : List (Str × Nat) := [("_law_rise", 3)]
def ms_law_least : List (List SV → Dice → Res D) := [m_law_rise]
def m_law_least : List SV → Dice → Res D := fnD (fun j => ms_law_least[j]?) 8 c_law_least
def e_law_next_0 : CE := .sub (.var 10) (.cst (.int 2))
def e_law_next_1 : CE := .blt .sum (.cons (.comp e_law_next_0 [10] (.one 10) (.seq (.var 9)) (.non)) (.nil))
def c_law_next : CB := .cons (.ifs (.not (.chain .le .lt (.cst (.int 0)) (.var 2) (.blt .len (.cons (.sub (.var 0) (.cst (.int 1))) (.nil))))) (.cons (.ret (.tup (.cons (.cst (.str "error")) (.cons (.cst (.str "InvalidEvent")) (.nil))))) (.nil)) (.nil)) (.cons (.asg 5 (.sub (.sub (.var 0) (.cst (.int 1))) (.var 2))) (.cons (.ifs (.and (.cmp .ne (.var 1) (.cst (.str "put"))) (.not (.chain .le .lt (.cst (.int 0)) (.var 3) (.blt .len (.cons (.var 5) (.nil)))))) (.cons (.ret (.tup (.cons (.cst (.str "error")) (.cons (.cst (.str "InvalidArc")) (.nil))))) (.nil)) (.nil)) (.cons (.ifs (.and (.cmp .eq (.var 1) (.cst (.str "put"))) (.cmp .eq (.blt .len (.cons (.var 5) (.nil))) (.cst (.int 4)))) (.cons (.ret (.tup (.cons (.cst (.str "error")) (.cons (.cst (.str "TooMany")) (.nil))))) (.nil)) (.nil)) (.cons (.asg 6 (.tup (.nil))) (.cons (.ifs (.cmp .eq (.var 1) (.cst (.str "set"))) (.cons (.asg 6 (.tup (.cons (.tup (.cons (.sub (.sub (.var 5) (.var 3)) (.cst (.int 0))) (.cons (.sub (.var 4) (.cst (.int 1))) (.cons (.sub (.sub (.var 5) (.var 3)) (.cst (.int 2))) (.nil))))) (.nil)))) (.nil)) (.nil)) (.cons (.asg 5 (.ife (.cmp .eq (.var 1) (.cst (.str "put"))) (.bin .add (.var 5) (.tup (.cons (.var 4) (.nil)))) (.bin .add (.bin .add (.slc (.var 5) (.non) (.som (.var 3))) (.var 6)) (.slc (.var 5) (.som (.bin .add (.var 3) (.cst (.int 1)))) (.non))))) (.cons (.asg 7 (.tup (.cons (.sub (.var 0) (.cst (.int 0))) (.cons (.bin .add (.bin .add (.slc (.sub (.var 0) (.cst (.int 1))) (.non) (.som (.var 2))) (.tup (.cons (.var 5) (.nil)))) (.slc (.sub (.var 0) (.cst (.int 1))) (.som (.bin .add (.var 2) (.cst (.int 1)))) (.non))) (.cons (.sub (.var 0) (.cst (.int 2))) (.nil)))))) (.cons (.ifs (.call 0 (.cons (.var 7) (.nil))) (.cons (.ret (.var 7)) (.nil)) (.nil)) (.cons (.asg 8 (.blt .sum (.cons (.comp e_law_next_1 [9] (.one 9) (.seq (.sub (.var 7) (.cst (.int 1)))) (.non)) (.nil)))) (.cons (.ret (.ife (.and (.cmp .gt (.var 8) (.cst (.int 8))) (.cmp .gt (.sub (.var 4) (.cst (.int 2))) (.cst (.int 0)))) (.tup (.cons (.cst (.str "error")) (.cons (.cst (.str "TooMany")) (.nil)))) (.tup (.cons (.cst (.str "error")) (.cons (.cst (.str "Standstill")) (.nil)))))) (.nil)))))))))))
def N_law_next : List Str := ["_law_net_here", "_law_kind", "_law_event", "_law_place", "_law_arc", "_law_row", "_law_middle", "_law_made", "_law_back", "_law_some", "_law_one"]
def p_law_next : List Str := ["_law_net_here", "_law_kind", "_law_event", "_law_place", "_law_arc"]
def fs_law_next : List (Str × Nat) := [("is_net", 1)]
def ms_law_next : List (List SV → Dice → Res D) := [m_is_net]
def m_law_next : List SV → Dice → Res D := fnD (fun j => ms_law_next[j]?) 11 c_law_next
def e_law_no_less_0 : CE := .cmp .ge (.var 3) (.sub (.var 1) (.var 2))
def c_law_no_less : CB := .cons (.ret (.blt .all (.cons (.comp e_law_no_less_0 [2, 3] (.tup (.cons (.one 2) (.cons (.one 3) (.nil)))) (.enm (.var 0)) (.non)) (.nil)))) (.nil)
def N_law_no_less : List Str := ["_law_one", "_law_other", "_law_at", "_law_room"]
def p_law_no_less : List Str := ["_law_one", "_law_other"]
def fs_law_no_less : List (Str × Nat) := []
def ms_law_no_less : List (List SV → Dice → Res D) := []
def m_law_no_less : List SV → Dice → Res D := fnD (fun j => ms_law_no_less[j]?) 4 c_law_no_less
def t_law_no_start_0 : CO := .som (.cmp .ne (.sub (.var 2) (.cst (.int 0))) (.cst (.str "s")))
def e_law_no_start_1 : CE := .blt .tuple (.cons (.comp (.var 2) [2] (.one 2) (.seq (.var 1)) t_law_no_start_0) (.nil))
def c_law_no_start : CB := .cons (.ret (.tup (.cons (.sub (.var 0) (.cst (.int 0))) (.cons (.blt .tuple (.cons (.comp e_law_no_start_1 [1] (.one 1) (.seq (.sub (.var 0) (.cst (.int 1)))) (.non)) (.nil))) (.cons (.sub (.var 0) (.cst (.int 2))) (.nil)))))) (.nil)
def N_law_no_start : List Str := ["_law_net_here", "_law_row", "_law_arc"]
def p_law_no_start : List Str := ["_law_net_here"]
def fs_law_no_start : List (Str × Nat) := []
def ms_law_no_start : List (List SV → Dice → Res D) := []
def m_law_no_start : List SV → Dice → Res D := fnD (fun j => ms_law_no_start[j]?) 3 c_law_no_start
def e_law_otherwise_0 : CE := .blt .tuple (.cons (.blt .sorted (.cons (.var 4) (.nil))) (.nil))
def c_law_otherwise : CB := .cons (.asgO 2 (.comp e_law_otherwise_0 [4] (.one 4) (.seq (.sub (.var 1) (.cst (.int 1)))) (.non))) (.cons (.asg 3 (.call 0 (.cons (.dce 0) (.cons (.blt .len (.cons (.bor 2) (.nil))) (.nil))))) (.cons (.ifs (.and (.cmp .ne (.sub (.bor 2) (.var 3)) (.tup (.nil))) (.and (.cmp .lt (.blt .len (.cons (.sub (.bor 2) (.var 3)) (.nil))) (.cst (.int 4))) (.cmp .eq (.sub (.sub (.sub (.bor 2) (.var 3)) (.cst (.int 0))) (.cst (.int 2))) (.cst (.int 0))))) (.cons (.unp (.tup (.cons (.one 5) (.cons (.one 6) (.cons (.one 7) (.nil))))) (.sub (.sub (.bor 2) (.var 3)) (.cst (.int 0)))) (.cons (.setI 2 (.var 3) (.bin .add (.sub (.bor 2) (.var 3)) (.tup (.cons (.tup (.cons (.var 5) (.cons (.blt .max (.cons (.cst (.int 0)) (.cons (.bin .sub (.var 6) (.cst (.int 1))) (.nil)))) (.cons (.cst (.int 0)) (.nil))))) (.nil))))) (.nil))) (.nil)) (.cons (.ifs (.cmp .lt (.blt .len (.cons (.bor 2) (.nil))) (.cst (.int 5))) (.cons (.app 2 (.tup (.cons (.tup (.cons (.cst (.str "s")) (.cons (.cst (.int 3)) (.cons (.cst (.int 0)) (.nil))))) (.nil)))) (.nil)) (.nil)) (.cons (.ret (.call 1 (.cons (.dce 0) (.cons (.tup (.cons (.sub (.var 1) (.cst (.int 0))) (.cons (.blt .tuple (.cons (.bor 2) (.nil))) (.cons (.sub (.var 1) (.cst (.int 2))) (.nil))))) (.nil))))) (.nil)))))
def N_law_otherwise : List Str := ["_law_dice", "_law_net_here", "_law_rows", "_law_event", "_law_row", "_law_source", "_law_delay", "_law_back"]
def p_law_otherwise : List Str := ["_law_dice", "_law_net_here"]
def fs_law_otherwise : List (Str × Nat) := [("_law_roll", 2), ("_law_renamed", 2)]
def ms_law_otherwise : List (List SV → Dice → Res D) := [m_law_roll, m_law_renamed]
def m_law_otherwise : List SV → Dice → Res D := fnD (fun j => ms_law_otherwise[j]?) 8 c_law_otherwise
def c_law_overtaken : CB := .cons (.par [(2, false), (3, false)] (.cons (.call 0 (.cons (.dce 0) (.cons (.cst (.int 4)) (.nil)))) (.cons (.call 0 (.cons (.dce 0) (.cons (.cst (.int 9)) (.nil)))) (.nil)))) (.cons (.asgO 1 (.lst (.cons (.tup (.cons (.tup (.cons (.cst (.str "s")) (.cons (.call 0 (.cons (.dce 0) (.cons (.cst (.int 10)) (.nil)))) (.cons (.cst (.int 0)) (.nil))))) (.cons (.tup (.cons (.cst (.str "e0")) (.cons (.var 2) (.cons (.bin .add (.cst (.int 1)) (.call 0 (.cons (.dce 0) (.cons (.cst (.int 2)) (.nil))))) (.nil))))) (.nil)))) (.nil)))) (.cons (.app 1 (.tup (.cons (.tup (.cons (.cst (.str "s")) (.cons (.cst (.int 0)) (.cons (.call 0 (.cons (.dce 0) (.cons (.cst (.int 2)) (.nil)))) (.nil))))) (.cons (.tup (.cons (.cst (.str "e1")) (.cons (.var 3) (.cons (.bin .add (.cst (.int 1)) (.call 0 (.cons (.dce 0) (.cons (.cst (.int 2)) (.nil))))) (.nil))))) (.nil))))) (.cons (.app 1 (.tup (.cons (.tup (.cons (.cst (.str "e0")) (.cons (.call 0 (.cons (.dce 0) (.cons (.cst (.int 10)) (.nil)))) (.cons (.cst (.int 0)) (.nil))))) (.cons (.tup (.cons (.cst (.str "e1")) (.cons (.call 0 (.cons (.dce 0) (.cons (.cst (.int 3)) (.nil)))) (.cons (.call 0 (.cons (.dce 0) (.cons (.cst (.int 2)) (.nil)))) (.nil))))) (.nil))))) (.cons (.ret (.call 1 (.cons (.dce 0) (.cons (.tup (.cons (.cst (.int 0)) (.cons (.blt .tuple (.cons (.bor 1) (.nil))) (.cons (.tup (.cons (.cst (.int 2)) (.cons (.cst (.int 1)) (.nil)))) (.nil))))) (.nil))))) (.nil)))))
def N_law_overtaken : List Str := ["_law_dice", "_law_rows", "_law_one", "_law_two"]
def p_law_overtaken : List Str := ["_law_dice"]
def fs_law_overtaken : List (Str × Nat) := [("_law_roll", 2), ("_law_renamed", 2)]
def ms_law_overtaken : List (List SV → Dice → Res D) := [m_law_roll, m_law_renamed]
def m_law_overtaken : List SV → Dice → Res D := fnD (fun j => ms_law_overtaken[j]?) 4 c_law_overtaken
def c_law_put : CB := .cons (.ret (.tup (.cons (.sub (.var 0) (.cst (.int 0))) (.cons (.bin .add (.bin .add (.slc (.sub (.var 0) (.cst (.int 1))) (.non) (.som (.var 1))) (.tup (.cons (.bin .add (.sub (.sub (.var 0) (.cst (.int 1))) (.var 1)) (.tup (.cons (.var 2) (.nil)))) (.nil)))) (.slc (.sub (.var 0) (.cst (.int 1))) (.som (.bin .add (.var 1) (.cst (.int 1)))) (.non))) (.cons (.sub (.var 0) (.cst (.int 2))) (.nil)))))) (.nil)
def N_law_put : List Str := ["_law_net_here", "_law_event", "_law_arc"]
def p_law_put : List Str := ["_law_net_here", "_law_event", "_law_arc"]
def fs_law_put : List (Str × Nat) := []
def ms_law_put : List (List SV → Dice → Res D) := []
def m_law_put : List SV → Dice → Res D := fnD (fun j => ms_law_put[j]?) 3 c_law_put
def b_law_rings_0 : CB := .cons (.ifs (.cmp .eq (.sub (.var 9) (.cst (.int 0))) (.bin .add (.cst (.str "e")) (.blt .str (.cons (.var 2) (.nil))))) (.cons (.app 1 (.bin .add (.var 5) (.tup (.cons (.tup (.cons (.var 6) (.cons (.var 8) (.nil)))) (.nil))))) (.nil)) (.cons (.ifs (.and (.cmp .eq (.sub (.sub (.var 9) (.cst (.int 0))) (.cst (.int 0))) (.cst (.str "e"))) (.and (.cmp .gt (.blt .int (.cons (.slc (.sub (.var 9) (.cst (.int 0))) (.som (.cst (.int 1))) (.non)) (.nil))) (.var 2)) (.cmp .nin (.blt .int (.cons (.slc (.sub (.var 9) (.cst (.int 0))) (.som (.cst (.int 1))) (.non)) (.nil))) (.var 7)))) (.cons (.app 4 (.tup (.cons (.bin .add (.var 5) (.tup (.cons (.tup (.cons (.var 6) (.cons (.var 8) (.nil)))) (.nil)))) (.cons (.blt .int (.cons (.slc (.sub (.var 9) (.cst (.int 0))) (.som (.cst (.int 1))) (.non)) (.nil))) (.nil))))) (.nil)) (.nil)) (.nil))) (.nil)
def b_law_rings_1 : CB := .cons (.asg 7 (.bin .add (.comp (.var 10) [10, 11] (.tup (.cons (.one 10) (.cons (.one 11) (.nil)))) (.seq (.var 5)) (.non)) (.lst (.cons (.var 6) (.nil))))) (.cons (.fors (.tup (.cons (.one 8) (.cons (.one 9) (.nil)))) (.enm (.sub (.sub (.var 0) (.cst (.int 1))) (.var 6))) b_law_rings_0) (.nil))
def b_law_rings_2 : CB := .cons (.asgO 4 (.lst (.nil))) (.cons (.fors (.tup (.cons (.one 5) (.cons (.one 6) (.nil)))) (.seq (.var 3)) b_law_rings_1) (.cons (.frz 4) (.cons (.asg 3 (.var 4)) (.nil))))
def b_law_rings_3 : CB := .cons (.asg 3 (.lst (.cons (.tup (.cons (.tup (.nil)) (.cons (.var 2) (.nil)))) (.nil)))) (.cons (.whl (.cmp .ne (.var 3) (.lst (.nil))) b_law_rings_2) (.nil))
def c_law_rings : CB := .cons (.asgO 1 (.lst (.nil))) (.cons (.fors (.one 2) (.rng (.cst (.int 0)) (.blt .len (.cons (.sub (.var 0) (.cst (.int 1))) (.nil)))) b_law_rings_3) (.cons (.ret (.blt .sorted (.cons (.bor 1) (.nil)))) (.nil)))
def N_law_rings : List Str := ["_law_net_here", "_law_found", "_law_first", "_law_level", "_law_longer_ways", "_law_way", "_law_event", "_law_passed", "_law_place", "_law_arc", "_law_one", "_law_spot"]
def p_law_rings : List Str := ["_law_net_here"]
def fs_law_rings : List (Str × Nat) := []
def ms_law_rings : List (List SV → Dice → Res D) := []
def m_law_rings : List SV → Dice → Res D := fnD (fun j => ms_law_rings[j]?) 12 c_law_rings
def e_law_row_0 : CE := .ife (.cmp .eq (.call 0 (.cons (.dce 0) (.cons (.cst (.int 4)) (.nil)))) (.cst (.int 0))) (.cst .none) (.call 0 (.cons (.dce 0) (.cons (.cst (.int 9)) (.nil))))
def b_law_row_1 : CB := .cons (.asg 7 (.ife (.cmp .eq (.call 0 (.cons (.dce 0) (.cons (.cst (.int 2)) (.nil)))) (.cst (.int 0))) (.var 2) (.call 0 (.cons (.dce 0) (.cons (.cst (.int 5)) (.nil)))))) (.cons (.app 3 (.ife (.isN (.sub (.var 1) (.bin .add (.var 5) (.var 4)))) (.cst .none) (.var 7))) (.nil))
def c_law_row : CB := .cons (.par [(5, false), (6, false)] (.cons (.call 0 (.cons (.dce 0) (.cons (.cst (.int 4)) (.nil)))) (.cons (.bin .add (.cst (.int 1)) (.call 0 (.cons (.dce 0) (.cons (.cst (.int 4)) (.nil))))) (.nil)))) (.cons (.asg 1 (.comp e_law_row_0 [4] (.one 4) (.rng (.cst (.int 0)) (.bin .add (.var 5) (.var 6))) (.non))) (.cons (.asg 2 (.call 0 (.cons (.dce 0) (.cons (.cst (.int 5)) (.nil))))) (.cons (.asgO 3 (.lst (.nil))) (.cons (.fors (.one 4) (.rng (.cst (.int 0)) (.var 6)) b_law_row_1) (.cons (.ret (.tup (.cons (.var 5) (.cons (.blt .tuple (.cons (.var 1) (.nil))) (.cons (.blt .tuple (.cons (.bor 3) (.nil))) (.nil)))))) (.nil))))))
def N_law_row : List Str := ["_law_dice", "_law_numbers", "_law_one", "_law_rises", "_law_at_here", "_law_begin", "_law_step", "_law_rise_here"]
def p_law_row : List Str := ["_law_dice"]
def fs_law_row : List (Str × Nat) := [("_law_roll", 2)]
def ms_law_row : List (List SV → Dice → Res D) := [m_law_roll]
def m_law_row : List SV → Dice → Res D := fnD (fun j => ms_law_row[j]?) 8 c_law_row
def b_law_slowest_0 : CB := .cons (.ifs (.cmp .eq (.var 8) (.bin .add (.cst (.str "e")) (.blt .str (.cons (.var 2) (.nil))))) (.cons (.asg 11 (.tup (.cons (.bin .add (.var 6) (.var 9)) (.cons (.bin .add (.var 7) (.var 10)) (.nil))))) (.cons (.ifs (.or (.isN (.var 1)) (.cmp .gt (.bin .mul (.sub (.var 11) (.cst (.int 0))) (.sub (.var 1) (.cst (.int 1)))) (.bin .mul (.sub (.var 1) (.cst (.int 0))) (.sub (.var 11) (.cst (.int 1)))))) (.cons (.asg 1 (.var 11)) (.nil)) (.nil)) (.nil))) (.cons (.ifs (.and (.cmp .eq (.sub (.var 8) (.cst (.int 0))) (.cst (.str "e"))) (.and (.cmp .gt (.blt .int (.cons (.slc (.var 8) (.som (.cst (.int 1))) (.non)) (.nil))) (.var 2)) (.cmp .nin (.blt .int (.cons (.slc (.var 8) (.som (.cst (.int 1))) (.non)) (.nil))) (.var 5)))) (.cons (.app 4 (.tup (.cons (.bin .add (.var 5) (.tup (.cons (.blt .int (.cons (.slc (.var 8) (.som (.cst (.int 1))) (.non)) (.nil))) (.nil)))) (.cons (.bin .add (.var 6) (.var 9)) (.cons (.bin .add (.var 7) (.var 10)) (.nil)))))) (.nil)) (.nil)) (.nil))) (.nil)
def b_law_slowest_1 : CB := .cons (.fors (.tup (.cons (.one 8) (.cons (.one 9) (.cons (.one 10) (.nil))))) (.seq (.sub (.var 0) (.sub (.var 5) (.neg (.cst (.int 1)))))) b_law_slowest_0) (.nil)
def b_law_slowest_2 : CB := .cons (.asgO 4 (.lst (.nil))) (.cons (.fors (.tup (.cons (.one 5) (.cons (.one 6) (.cons (.one 7) (.nil))))) (.seq (.var 3)) b_law_slowest_1) (.cons (.frz 4) (.cons (.asg 3 (.var 4)) (.nil))))
def b_law_slowest_3 : CB := .cons (.asg 3 (.lst (.cons (.tup (.cons (.tup (.cons (.var 2) (.nil))) (.cons (.cst (.int 0)) (.cons (.cst (.int 0)) (.nil))))) (.nil)))) (.cons (.whl (.cmp .ne (.var 3) (.lst (.nil))) b_law_slowest_2) (.nil))
def c_law_slowest : CB := .cons (.asg 1 (.cst .none)) (.cons (.fors (.one 2) (.rng (.cst (.int 0)) (.blt .len (.cons (.var 0) (.nil)))) b_law_slowest_3) (.cons (.ret (.var 1)) (.nil)))
def N_law_slowest : List Str := ["_law_rows", "_law_best", "_law_first", "_law_level", "_law_longer", "_law_way", "_law_delay", "_law_back", "_law_source", "_law_more", "_law_rounds_here", "_law_pair"]
def p_law_slowest : List Str := ["_law_rows"]
def fs_law_slowest : List (Str × Nat) := []
def ms_law_slowest : List (List SV → Dice → Res D) := []
def m_law_slowest : List SV → Dice → Res D := fnD (fun j => ms_law_slowest[j]?) 12 c_law_slowest
def e_law_small_0 : CE := .bin .add (.cst (.str "u")) (.blt .str (.cons (.var 13) (.nil)))
def e_law_small_1 : CE := .bin .add (.cst (.str "e")) (.blt .str (.cons (.var 13) (.nil)))
def b_law_small_2 : CB := .cons (.asg 10 (.bin .add (.bin .add (.lst (.cons (.cst (.str "s")) (.nil))) (.comp e_law_small_0 [13] (.one 13) (.rng (.cst (.int 0)) (.var 2)) (.non))) (.comp e_law_small_1 [13] (.one 13) (.rng (.cst (.int 0)) (.var 7)) (.non)))) (.cons (.par [(11, false), (12, false)] (.cons (.sub (.var 10) (.call 0 (.cons (.dce 0) (.cons (.blt .len (.cons (.var 10) (.nil))) (.nil))))) (.cons (.call 0 (.cons (.dce 0) (.cons (.cst (.int 2)) (.nil)))) (.nil)))) (.cons (.ifs (.and (.cmp .eq (.sub (.var 11) (.cst (.int 0))) (.cst (.str "e"))) (.cmp .ge (.blt .int (.cons (.slc (.var 11) (.som (.cst (.int 1))) (.non)) (.nil))) (.var 5))) (.cons (.asg 12 (.cst (.int 1))) (.nil)) (.nil)) (.cons (.ifs (.cmp .le (.var 12) (.var 4)) (.cons (.asg 4 (.bin .sub (.var 4) (.var 12))) (.cons (.app 8 (.tup (.cons (.var 11) (.cons (.call 0 (.cons (.dce 0) (.cons (.cst (.int 10)) (.nil)))) (.cons (.var 12) (.nil)))))) (.nil))) (.nil)) (.nil))))
def b_law_small_3 : CB := .cons (.asgO 8 (.lst (.nil))) (.cons (.fors (.one 9) (.rng (.cst (.int 0)) (.bin .add (.cst (.int 1)) (.call 0 (.cons (.dce 0) (.cons (.cst (.int 2)) (.nil)))))) b_law_small_2) (.cons (.app 6 (.blt .tuple (.cons (.bor 8) (.nil)))) (.nil)))
def e_law_small_4 : CE := .call 0 (.cons (.dce 0) (.cons (.var 7) (.nil)))
def c_law_small : CB := .cons (.par [(6, true), (7, false)] (.cons (.lst (.nil)) (.cons (.bin .add (.cst (.int 1)) (.call 0 (.cons (.dce 0) (.cons (.var 1) (.nil))))) (.nil)))) (.cons (.asg 4 (.cst (.int 3))) (.cons (.fors (.one 5) (.rng (.cst (.int 0)) (.var 7)) b_law_small_3) (.cons (.ret (.tup (.cons (.var 2) (.cons (.blt .tuple (.cons (.bor 6) (.nil))) (.cons (.blt .tuple (.cons (.comp e_law_small_4 [9] (.one 9) (.rng (.cst (.int 0)) (.var 3)) (.non)) (.nil))) (.nil)))))) (.nil))))
def N_law_small : List Str := ["_law_dice", "_law_most", "_law_inputs", "_law_outputs", "_law_left", "_law_event", "_law_rows", "_law_many", "_law_row", "_law_turn", "_law_source", "_law_one", "_law_back", "_law_at_here"]
def p_law_small : List Str := ["_law_dice", "_law_most", "_law_inputs", "_law_outputs"]
def fs_law_small : List (Str × Nat) := [("_law_roll", 2)]
def ms_law_small : List (List SV → Dice → Res D) := [m_law_roll]
def m_law_small : List SV → Dice → Res D := fnD (fun j => ms_law_small[j]?) 14 c_law_small
def c_law_sources : CB := .cons (.ret (.lrng (.neg (.cst (.int 1))) (.sub (.var 0) (.cst (.int 0))))) (.nil)
def N_law_sources : List Str := ["_law_net_here"]
def p_law_sources : List Str := ["_law_net_here"]
def fs_law_sources : List (Str × Nat) := []
def ms_law_sources : List (List SV → Dice → Res D) := []
def m_law_sources : List SV → Dice → Res D := fnD (fun j => ms_law_sources[j]?) 1 c_law_sources
def b_law_streams_0 : CB := .cons (.app 5 (.ife (.cmp .eq (.call 0 (.cons (.dce 0) (.cons (.cst (.int 3)) (.nil)))) (.cst (.int 0))) (.cst .none) (.bin .sub (.call 0 (.cons (.dce 0) (.cons (.cst (.int 90)) (.nil)))) (.cst (.int 30))))) (.nil)
def b_law_streams_1 : CB := .cons (.asgO 5 (.lst (.nil))) (.cons (.fors (.one 6) (.rng (.cst (.int 0)) (.var 2)) b_law_streams_0) (.cons (.app 3 (.blt .tuple (.cons (.bor 5) (.nil)))) (.nil)))
def c_law_streams : CB := .cons (.asgO 3 (.lst (.nil))) (.cons (.fors (.one 4) (.rng (.cst (.int 0)) (.var 1)) b_law_streams_1) (.cons (.ret (.blt .tuple (.cons (.bor 3) (.nil)))) (.nil)))
def N_law_streams : List Str := ["_law_dice", "_law_many", "_law_rounds_here", "_law_found", "_law_turn", "_law_row", "_law_moment"]
def p_law_streams : List Str := ["_law_dice", "_law_many", "_law_rounds_here"]
def fs_law_streams : List (Str × Nat) := [("_law_roll", 2)]
def ms_law_streams : List (List SV → Dice → Res D) := [m_law_roll]
def m_law_streams : List SV → Dice → Res D := fnD (fun j => ms_law_streams[j]?) 7 c_law_streams
def e_law_sums_0 : CE := .sub (.sub (.sub (.var 0) (.cst (.int 1))) (.var 3)) (.var 4)
def e_law_sums_1 : CE := .sub (.var 5) (.cst (.int 1))
def e_law_sums_2 : CE := .sub (.var 5) (.cst (.int 2))
def c_law_sums : CB := .cons (.asg 2 (.comp e_law_sums_0 [3, 4] (.tup (.cons (.one 3) (.cons (.one 4) (.nil)))) (.seq (.var 1)) (.non))) (.cons (.ret (.tup (.cons (.blt .sum (.cons (.comp e_law_sums_1 [5] (.one 5) (.seq (.var 2)) (.non)) (.nil))) (.cons (.blt .sum (.cons (.comp e_law_sums_2 [5] (.one 5) (.seq (.var 2)) (.non)) (.nil))) (.nil))))) (.nil))
def N_law_sums : List Str := ["_law_net_here", "_law_ring", "_law_arcs", "_law_event", "_law_place", "_law_arc"]
def p_law_sums : List Str := ["_law_net_here", "_law_ring"]
def fs_law_sums : List (Str × Nat) := []
def ms_law_sums : List (List SV → Dice → Res D) := []
def m_law_sums : List SV → Dice → Res D := fnD (fun j => ms_law_sums[j]?) 6 c_law_sums
def b_law_turned_0 : CB := .cons (.asg 10 (.ife (.cmp .eq (.sub (.var 7) (.cst (.int 0))) (.cst (.str "e"))) (.bin .add (.cst (.str "e")) (.blt .str (.cons (.bin .mod (.bin .add (.blt .int (.cons (.slc (.var 7) (.som (.cst (.int 1))) (.non)) (.nil))) (.var 1)) (.var 2)) (.nil)))) (.var 7))) (.cons (.app 6 (.tup (.cons (.var 10) (.cons (.var 8) (.cons (.var 9) (.nil)))))) (.nil))
def b_law_turned_1 : CB := .cons (.asgO 6 (.lst (.nil))) (.cons (.fors (.tup (.cons (.one 7) (.cons (.one 8) (.cons (.one 9) (.nil))))) (.seq (.var 5)) b_law_turned_0) (.cons (.setI 3 (.bin .mod (.bin .add (.var 4) (.var 1)) (.var 2)) (.blt .tuple (.cons (.bor 6) (.nil)))) (.nil)))
def e_law_turned_2 : CE := .bin .mod (.bin .add (.var 11) (.var 1)) (.var 2)
def c_law_turned : CB := .cons (.asg 2 (.blt .len (.cons (.sub (.var 0) (.cst (.int 1))) (.nil)))) (.cons (.asgO 3 (.bin .mul (.lst (.cons (.tup (.nil)) (.nil))) (.var 2))) (.cons (.fors (.tup (.cons (.one 4) (.cons (.one 5) (.nil)))) (.enm (.sub (.var 0) (.cst (.int 1)))) b_law_turned_1) (.cons (.ret (.tup (.cons (.sub (.var 0) (.cst (.int 0))) (.cons (.blt .tuple (.cons (.bor 3) (.nil))) (.cons (.blt .tuple (.cons (.comp e_law_turned_2 [11] (.one 11) (.seq (.sub (.var 0) (.cst (.int 2)))) (.non)) (.nil))) (.nil)))))) (.nil))))
def N_law_turned : List Str := ["_law_net_here", "_law_turn", "_law_many", "_law_rows", "_law_event", "_law_row", "_law_some", "_law_source", "_law_delay", "_law_back", "_law_other", "_law_one"]
def p_law_turned : List Str := ["_law_net_here", "_law_turn"]
def fs_law_turned : List (Str × Nat) := []
def ms_law_turned : List (List SV → Dice → Res D) := []
def m_law_turned : List SV → Dice → Res D := fnD (fun j => ms_law_turned[j]?) 12 c_law_turned
def b_law_with_0 : CB := .cons (.setI 3 (.var 5) (.bin .add (.sub (.bor 3) (.var 5)) (.tup (.cons (.tup (.cons (.bin .add (.cst (.str "e")) (.blt .str (.cons (.var 6) (.nil)))) (.cons (.cst (.int 0)) (.cons (.sub (.var 2) (.var 4)) (.nil))))) (.nil))))) (.nil)
def c_law_with : CB := .cons (.asgO 3 (.blt .list (.cons (.sub (.var 0) (.cst (.int 1))) (.nil)))) (.cons (.fors (.tup (.cons (.one 4) (.cons (.tup (.cons (.one 5) (.cons (.one 6) (.nil)))) (.nil)))) (.enm (.var 1)) b_law_with_0) (.cons (.ret (.blt .tuple (.cons (.bor 3) (.nil)))) (.nil)))
def N_law_with : List Str := ["_law_net_here", "_law_stores", "_law_rooms", "_law_rows", "_law_at", "_law_giver", "_law_taker"]
def p_law_with : List Str := ["_law_net_here", "_law_stores", "_law_rooms"]
def fs_law_with : List (Str × Nat) := []
def ms_law_with : List (List SV → Dice → Res D) := []
def m_law_with : List SV → Dice → Res D := fnD (fun j => ms_law_with[j]?) 7 c_law_with
def c_law_without : CB := .cons (.asg 3 (.sub (.sub (.var 0) (.cst (.int 1))) (.var 1))) (.cons (.ret (.tup (.cons (.sub (.var 0) (.cst (.int 0))) (.cons (.bin .add (.bin .add (.slc (.sub (.var 0) (.cst (.int 1))) (.non) (.som (.var 1))) (.tup (.cons (.bin .add (.slc (.var 3) (.non) (.som (.var 2))) (.slc (.var 3) (.som (.bin .add (.var 2) (.cst (.int 1)))) (.non))) (.nil)))) (.slc (.sub (.var 0) (.cst (.int 1))) (.som (.bin .add (.var 1) (.cst (.int 1)))) (.non))) (.cons (.sub (.var 0) (.cst (.int 2))) (.nil)))))) (.nil))
def N_law_without : List Str := ["_law_net_here", "_law_event", "_law_place", "_law_row"]
def p_law_without : List Str := ["_law_net_here", "_law_event", "_law_place"]
def fs_law_without : List (Str × Nat) := []
def ms_law_without : List (List SV → Dice → Res D) := []
def m_law_without : List SV → Dice → Res D := fnD (fun j => ms_law_without[j]?) 4 c_law_without
def e_all_rooms_0 : CE := .bin .add (.var 4) (.tup (.cons (.var 5) (.nil)))
def b_all_rooms_1 : CB := .cons (.asg 3 (.bin .add (.var 3) (.comp e_all_rooms_0 [5] (.one 5) (.rng (.cst (.int 1)) (.bin .add (.cst (.int 6)) (.cst (.int 1)))) (.non)))) (.nil)
def b_all_rooms_2 : CB := .cons (.asg 3 (.lst (.nil))) (.cons (.fors (.one 4) (.seq (.var 1)) b_all_rooms_1) (.cons (.asg 1 (.var 3)) (.nil)))
def c_all_rooms : CB := .cons (.asg 1 (.lst (.cons (.tup (.nil)) (.nil)))) (.cons (.fors (.one 2) (.rng (.cst (.int 0)) (.var 0)) b_all_rooms_2) (.cons (.ret (.var 1)) (.nil)))
def N_all_rooms : List Str := ["many", "found", "turn", "longer", "row", "one"]
def p_all_rooms : List Str := ["many"]
def fs_all_rooms : List (Str × Nat) := []
def ms_all_rooms : List (List SV → Dice → Res D) := []
def m_all_rooms : List SV → Dice → Res D := fnD (fun j => ms_all_rooms[j]?) 6 c_all_rooms
def e_are_stores_0 : CE := .call 0 (.cons (.var 3) (.cons (.cst (.int 0)) (.cons (.bin .sub (.blt .len (.cons (.sub (.var 0) (.cst (.int 1))) (.nil))) (.cst (.int 1))) (.nil))))
def b_are_stores_1 : CB := .cons (.ifs (.or (.not (.blt .isTuple (.cons (.var 2) .nil))) (.cmp .ne (.blt .len (.cons (.var 2) (.nil))) (.cst (.int 2)))) (.cons (.ret (.cst (.bool false))) (.nil)) (.nil)) (.cons (.ifs (.not (.blt .all (.cons (.comp e_are_stores_0 [3] (.one 3) (.seq (.var 2)) (.non)) (.nil)))) (.cons (.ret (.cst (.bool false))) (.nil)) (.nil)) (.nil))
def c_are_stores : CB := .cons (.ifs (.or (.not (.blt .isTuple (.cons (.var 1) .nil))) (.not (.chain .le .le (.cst (.int 1)) (.blt .len (.cons (.var 1) (.nil))) (.cst (.int 2))))) (.cons (.ret (.cst (.bool false))) (.nil)) (.nil)) (.cons (.fors (.one 2) (.seq (.var 1)) b_are_stores_1) (.cons (.ret (.cst (.bool true))) (.nil)))
def N_are_stores : List Str := ["net", "value", "store", "one"]
def p_are_stores : List Str := ["net", "value"]
def fs_are_stores : List (Str × Nat) := [("is_whole", 3)]
def ms_are_stores : List (List SV → Dice → Res D) := [m_is_whole]
def m_are_stores : List SV → Dice → Res D := fnD (fun j => ms_are_stores[j]?) 4 c_are_stores
def c_need_net : CB := .cons (.ifs (.not (.call 0 (.cons (.var 0) (.nil)))) (.cons (.rai "InvalidNet") (.nil)) (.nil)) (.nil)
def N_need_net : List Str := ["net"]
def p_need_net : List Str := ["net"]
def fs_need_net : List (Str × Nat) := [("is_net", 1)]
def ms_need_net : List (List SV → Dice → Res D) := [m_is_net]
def m_need_net : List SV → Dice → Res D := fnD (fun j => ms_need_net[j]?) 1 c_need_net
def c_need_two : CB := .cons (.ex (.call 0 (.cons (.var 0) (.nil)))) (.cons (.ex (.call 0 (.cons (.var 1) (.nil)))) (.nil))
def N_need_two : List Str := ["net", "other"]
def p_need_two : List Str := ["net", "other"]
def fs_need_two : List (Str × Nat) := [("need_net", 1)]
def ms_need_two : List (List SV → Dice → Res D) := [m_need_net]
def m_need_two : List SV → Dice → Res D := fnD (fun j => ms_need_two[j]?) 2 c_need_two
def c_moved : CB := .cons (.ifs (.cmp .eq (.sub (.var 0) (.cst (.int 0))) (.cst (.str "e"))) (.cons (.ret (.bin .add (.cst (.str "e")) (.blt .str (.cons (.bin .add (.blt .int (.cons (.slc (.var 0) (.som (.cst (.int 1))) (.non)) (.nil))) (.var 1)) (.nil))))) (.nil)) (.nil)) (.cons (.ret (.ife (.cmp .eq (.sub (.var 0) (.cst (.int 0))) (.cst (.str "u"))) (.bin .add (.cst (.str "u")) (.blt .str (.cons (.bin .add (.blt .int (.cons (.slc (.var 0) (.som (.cst (.int 1))) (.non)) (.nil))) (.var 2)) (.nil)))) (.var 0))) (.nil))
def N_moved : List Str := ["source", "events", "inputs"]
def p_moved : List Str := ["source", "events", "inputs"]
def fs_moved : List (Str × Nat) := []
def ms_moved : List (List SV → Dice → Res D) := []
def m_moved : List SV → Dice → Res D := fnD (fun j => ms_moved[j]?) 3 c_moved
def c_checked : CB := .cons (.ifs (.and (.cmp .le (.blt .len (.cons (.sub (.var 0) (.cst (.int 1))) (.nil))) (.cst (.int 5))) (.isN (.call 0 (.cons (.sub (.var 0) (.cst (.int 1))) (.nil))))) (.cons (.rai "Standstill") (.nil)) (.nil)) (.cons (.ifs (.not (.call 1 (.cons (.var 0) (.nil)))) (.cons (.rai "TooMany") (.nil)) (.nil)) (.cons (.ret (.var 0)) (.nil)))
def N_checked : List Str := ["net"]
def p_checked : List Str := ["net"]
def fs_checked : List (Str × Nat) := [("order_of", 1), ("is_net", 1)]
def ms_checked : List (List SV → Dice → Res D) := [m_order_of, m_is_net]
def m_checked : List SV → Dice → Res D := fnD (fun j => ms_checked[j]?) 1 c_checked
def b_behind_0 : CB := .cons (.ifs (.cmp .eq (.sub (.var 6) (.cst (.int 0))) (.cst (.str "u"))) (.cons (.app 5 (.tup (.cons (.bin .add (.cst (.str "e")) (.blt .str (.cons (.sub (.sub (.var 0) (.cst (.int 2))) (.blt .int (.cons (.slc (.var 6) (.som (.cst (.int 1))) (.non)) (.nil)))) (.nil)))) (.cons (.var 7) (.cons (.var 8) (.nil)))))) (.nil)) (.cons (.app 5 (.tup (.cons (.call 1 (.cons (.var 6) (.cons (.var 3) (.cons (.cst (.int 0)) (.nil))))) (.cons (.var 7) (.cons (.var 8) (.nil)))))) (.nil))) (.nil)
def b_behind_1 : CB := .cons (.asgO 5 (.lst (.nil))) (.cons (.fors (.tup (.cons (.one 6) (.cons (.one 7) (.cons (.one 8) (.nil))))) (.seq (.var 2)) b_behind_0) (.cons (.app 4 (.blt .tuple (.cons (.bor 5) (.nil)))) (.nil)))
def e_behind_2 : CE := .bin .add (.var 9) (.var 3)
def c_behind : CB := .cons (.ex (.call 0 (.cons (.var 0) (.cons (.var 1) (.nil))))) (.cons (.ifs (.cmp .ne (.sub (.var 1) (.cst (.int 0))) (.blt .len (.cons (.sub (.var 0) (.cst (.int 2))) (.nil)))) (.cons (.rai "NoFit") (.nil)) (.nil)) (.cons (.par [(3, false), (4, true)] (.cons (.blt .len (.cons (.sub (.var 0) (.cst (.int 1))) (.nil))) (.cons (.lst (.nil)) (.nil)))) (.cons (.fors (.one 2) (.seq (.sub (.var 1) (.cst (.int 1)))) b_behind_1) (.cons (.ret (.call 2 (.cons (.tup (.cons (.sub (.var 0) (.cst (.int 0))) (.cons (.bin .add (.sub (.var 0) (.cst (.int 1))) (.blt .tuple (.cons (.bor 4) (.nil)))) (.cons (.blt .tuple (.cons (.comp e_behind_2 [9] (.one 9) (.seq (.sub (.var 1) (.cst (.int 2)))) (.non)) (.nil))) (.nil))))) (.nil)))) (.nil)))))
def N_behind : List Str := ["first", "second", "row", "many", "rows", "some", "source", "delay", "back", "one"]
def p_behind : List Str := ["first", "second"]
def fs_behind : List (Str × Nat) := [("need_two", 2), ("moved", 3), ("checked", 1)]
def ms_behind : List (List SV → Dice → Res D) := [m_need_two, m_moved, m_checked]
def m_behind : List SV → Dice → Res D := fnD (fun j => ms_behind[j]?) 10 c_behind
def e_moved_rows_0 : CE := .tup (.cons (.call 0 (.cons (.var 4) (.cons (.var 1) (.cons (.var 2) (.nil))))) (.cons (.var 5) (.cons (.var 6) (.nil))))
def e_moved_rows_1 : CE := .blt .tuple (.cons (.comp e_moved_rows_0 [4, 5, 6] (.tup (.cons (.one 4) (.cons (.one 5) (.cons (.one 6) (.nil))))) (.seq (.var 3)) (.non)) (.nil))
def c_moved_rows : CB := .cons (.ret (.blt .tuple (.cons (.comp e_moved_rows_1 [3] (.one 3) (.seq (.var 0)) (.non)) (.nil)))) (.nil)
def N_moved_rows : List Str := ["rows", "events", "inputs", "row", "source", "delay", "back"]
def p_moved_rows : List Str := ["rows", "events", "inputs"]
def fs_moved_rows : List (Str × Nat) := [("moved", 3)]
def ms_moved_rows : List (List SV → Dice → Res D) := [m_moved]
def m_moved_rows : List SV → Dice → Res D := fnD (fun j => ms_moved_rows[j]?) 7 c_moved_rows
def e_beside_0 : CE := .bin .add (.var 4) (.var 2)
def c_beside : CB := .cons (.ex (.call 0 (.cons (.var 0) (.cons (.var 1) (.nil))))) (.cons (.asg 2 (.blt .len (.cons (.sub (.var 0) (.cst (.int 1))) (.nil)))) (.cons (.asg 3 (.bin .add (.sub (.var 0) (.cst (.int 1))) (.call 1 (.cons (.sub (.var 1) (.cst (.int 1))) (.cons (.var 2) (.cons (.sub (.var 0) (.cst (.int 0))) (.nil))))))) (.cons (.ret (.call 2 (.cons (.tup (.cons (.bin .add (.sub (.var 0) (.cst (.int 0))) (.sub (.var 1) (.cst (.int 0)))) (.cons (.var 3) (.cons (.bin .add (.sub (.var 0) (.cst (.int 2))) (.blt .tuple (.cons (.comp e_beside_0 [4] (.one 4) (.seq (.sub (.var 1) (.cst (.int 2)))) (.non)) (.nil)))) (.nil))))) (.nil)))) (.nil))))
def N_beside : List Str := ["one", "other", "many", "rows", "event"]
def p_beside : List Str := ["one", "other"]
def fs_beside : List (Str × Nat) := [("need_two", 2), ("moved_rows", 3), ("checked", 1)]
def ms_beside : List (List SV → Dice → Res D) := [m_need_two, m_moved_rows, m_checked]
def m_beside : List SV → Dice → Res D := fnD (fun j => ms_beside[j]?) 5 c_beside
def b_divisor_0 : CB := .cons (.par [(0, false), (1, false)] (.cons (.var 1) (.cons (.bin .mod (.var 0) (.var 1)) (.nil)))) (.nil)
def c_divisor : CB := .cons (.whl (.cmp .ne (.var 1) (.cst (.int 0))) b_divisor_0) (.cons (.ret (.var 0)) (.nil))
def N_divisor : List Str := ["one", "other"]
def p_divisor : List Str := ["one", "other"]
def fs_divisor : List (Str × Nat) := []
def ms_divisor : List (List SV → Dice → Res D) := []
def m_divisor : List SV → Dice → Res D := fnD (fun j => ms_divisor[j]?) 2 c_divisor
def c_multiple : CB := .cons (.ret (.bin .fdiv (.bin .mul (.var 0) (.var 1)) (.call 0 (.cons (.var 0) (.cons (.var 1) (.nil)))))) (.nil)
def N_multiple : List Str := ["one", "other"]
def p_multiple : List Str := ["one", "other"]
def fs_multiple : List (Str × Nat) := [("divisor", 2)]
def ms_multiple : List (List SV → Dice → Res D) := [m_divisor]
def m_multiple : List SV → Dice → Res D := fnD (fun j => ms_multiple[j]?) 2 c_multiple
def c_bound_of : CB := .cons (.asg 2 (.call 0 (.cons (.blt .len (.cons (.sub (.var 0) (.cst (.int 2))) (.nil))) (.cons (.blt .len (.cons (.sub (.var 1) (.cst (.int 2))) (.nil))) (.nil))))) (.cons (.ret (.tup (.cons (.bin .add (.blt .max (.cons (.sub (.var 0) (.cst (.int 0))) (.cons (.sub (.var 1) (.cst (.int 0))) (.nil)))) (.bin .mul (.cst (.int 2)) (.var 2))) (.cons (.var 2) (.nil))))) (.nil))
def N_bound_of : List Str := ["one", "other", "step"]
def p_bound_of : List Str := ["one", "other"]
def fs_bound_of : List (Str × Nat) := [("multiple", 2)]
def ms_bound_of : List (List SV → Dice → Res D) := [m_multiple]
def m_bound_of : List SV → Dice → Res D := fnD (fun j => ms_bound_of[j]?) 3 c_bound_of
def c_number_at : CB := .cons (.ifs (.cmp .lt (.var 3) (.bin .add (.var 1) (.blt .len (.cons (.var 2) (.nil))))) (.cons (.ret (.sub (.var 0) (.var 3))) (.nil)) (.nil)) (.cons (.asg 4 (.bin .mod (.bin .sub (.var 3) (.var 1)) (.blt .len (.cons (.var 2) (.nil))))) (.cons (.ifs (.isN (.sub (.var 0) (.bin .add (.var 1) (.var 4)))) (.cons (.ret (.cst .none)) (.nil)) (.nil)) (.cons (.ret (.bin .add (.sub (.var 0) (.bin .add (.var 1) (.var 4))) (.bin .mul (.bin .fdiv (.bin .sub (.var 3) (.var 1)) (.blt .len (.cons (.var 2) (.nil)))) (.sub (.var 2) (.var 4))))) (.nil))))
def N_number_at : List Str := ["row", "begin", "rises", "place", "spot"]
def p_number_at : List Str := ["row", "begin", "rises", "place"]
def fs_number_at : List (Str × Nat) := []
def ms_number_at : List (List SV → Dice → Res D) := []
def m_number_at : List SV → Dice → Res D := fnD (fun j => ms_number_at[j]?) 5 c_number_at
def c_value_of : CB := .cons (.ret (.call 0 (.cons (.sub (.var 0) (.cst (.int 1))) (.cons (.sub (.var 0) (.cst (.int 0))) (.cons (.sub (.var 0) (.cst (.int 2))) (.cons (.var 1) (.nil))))))) (.nil)
def N_value_of : List Str := ["form", "place"]
def p_value_of : List Str := ["form", "place"]
def fs_value_of : List (Str × Nat) := [("number_at", 4)]
def ms_value_of : List (List SV → Dice → Res D) := [m_number_at]
def m_value_of : List SV → Dice → Res D := fnD (fun j => ms_value_of[j]?) 2 c_value_of
def b_broken_of_0 : CB := .cons (.asg 7 (.call 0 (.cons (.sub (.sub (.var 0) (.var 3)) (.cst (.int 0))) (.cons (.var 5) (.nil))))) (.cons (.ifs (.and (.notN (.var 6)) (.and (.notN (.var 7)) (.cmp .gt (.var 7) (.var 6)))) (.cons (.app 2 (.tup (.cons (.var 3) (.cons (.var 5) (.nil))))) (.nil)) (.nil)) (.nil))
def b_broken_of_1 : CB := .cons (.fors (.tup (.cons (.one 5) (.cons (.one 6) (.nil)))) (.enm (.var 4)) b_broken_of_0) (.nil)
def c_broken_of : CB := .cons (.asgO 2 (.lst (.nil))) (.cons (.fors (.tup (.cons (.one 3) (.cons (.one 4) (.nil)))) (.enm (.var 1)) b_broken_of_1) (.cons (.frz 2) (.cons (.ret (.var 2)) (.nil))))
def N_broken_of : List Str := ["answers", "dues", "found", "output", "row", "place", "due", "own"]
def p_broken_of : List Str := ["answers", "dues"]
def fs_broken_of : List (Str × Nat) := [("value_of", 2)]
def ms_broken_of : List (List SV → Dice → Res D) := [m_value_of]
def m_broken_of : List SV → Dice → Res D := fnD (fun j => ms_broken_of[j]?) 8 c_broken_of
def c_rise_between : CB := .cons (.ifs (.and (.isN (.var 0)) (.isN (.var 1))) (.cons (.ret (.cst .none)) (.nil)) (.nil)) (.cons (.ret (.ife (.or (.isN (.var 0)) (.isN (.var 1))) (.cst (.str "none")) (.bin .sub (.var 1) (.var 0)))) (.nil))
def N_rise_between : List Str := ["one", "other"]
def p_rise_between : List Str := ["one", "other"]
def fs_rise_between : List (Str × Nat) := []
def ms_rise_between : List (List SV → Dice → Res D) := []
def m_rise_between : List SV → Dice → Res D := fnD (fun j => ms_rise_between[j]?) 2 c_rise_between
def e_is_period_0 : CE := .call 0 (.cons (.var 0) (.cons (.var 1) (.cons (.var 2) (.cons (.bin .add (.var 1) (.var 5)) (.nil)))))
def b_is_period_1 : CB := .cons (.par [(6, false), (7, false)] (.cons (.call 1 (.cons (.sub (.var 4) (.var 5)) (.cons (.sub (.var 4) (.bin .add (.var 5) (.var 3))) (.nil)))) (.cons (.call 1 (.cons (.sub (.var 4) (.bin .add (.var 5) (.var 3))) (.cons (.sub (.var 4) (.bin .add (.var 5) (.bin .mul (.cst (.int 2)) (.var 3)))) (.nil)))) (.nil)))) (.cons (.ifs (.or (.cmp .eq (.var 6) (.cst (.str "none"))) (.cmp .ne (.var 6) (.var 7))) (.cons (.ret (.cst (.bool false))) (.nil)) (.nil)) (.nil))
def c_is_period : CB := .cons (.asg 4 (.comp e_is_period_0 [5] (.one 5) (.rng (.cst (.int 0)) (.bin .add (.bin .mul (.cst (.int 2)) (.blt .len (.cons (.var 2) (.nil)))) (.bin .mul (.cst (.int 2)) (.var 3)))) (.non))) (.cons (.fors (.one 5) (.rng (.cst (.int 0)) (.bin .mul (.cst (.int 2)) (.blt .len (.cons (.var 2) (.nil))))) b_is_period_1) (.cons (.ret (.cst (.bool true))) (.nil)))
def N_is_period : List Str := ["row", "begin", "rises", "step", "some", "at", "one", "two"]
def p_is_period : List Str := ["row", "begin", "rises", "step"]
def fs_is_period : List (Str × Nat) := [("number_at", 4), ("rise_between", 2)]
def ms_is_period : List (List SV → Dice → Res D) := [m_number_at, m_rise_between]
def m_is_period : List SV → Dice → Res D := fnD (fun j => ms_is_period[j]?) 8 c_is_period
def e_rises_from_0 : CE := .call 0 (.cons (.sub (.var 0) (.var 3)) (.cons (.sub (.var 0) (.bin .add (.var 3) (.var 2))) (.nil)))
def c_rises_from : CB := .cons (.ret (.comp e_rises_from_0 [3] (.one 3) (.rng (.var 1) (.bin .add (.var 1) (.var 2))) (.non))) (.nil)
def N_rises_from : List Str := ["row", "begin", "step", "at"]
def p_rises_from : List Str := ["row", "begin", "step"]
def fs_rises_from : List (Str × Nat) := [("rise_between", 2)]
def ms_rises_from : List (List SV → Dice → Res D) := [m_rise_between]
def m_rises_from : List SV → Dice → Res D := fnD (fun j => ms_rises_from[j]?) 4 c_rises_from
def t_canonical_0 : CO := .som (.and (.cmp .eq (.bin .mod (.blt .len (.cons (.var 2) (.nil))) (.var 7)) (.cst (.int 0))) (.call 0 (.cons (.var 0) (.cons (.var 1) (.cons (.var 2) (.cons (.var 7) (.nil)))))))
def e_canonical_1 : CE := .call 1 (.cons (.var 0) (.cons (.var 1) (.cons (.var 2) (.cons (.var 6) (.nil)))))
def b_canonical_2 : CB := .cons (.asg 1 (.bin .sub (.var 1) (.cst (.int 1)))) (.cons (.asg 5 (.bin .add (.lst (.cons (.sub (.var 5) (.neg (.cst (.int 1)))) (.nil))) (.slc (.var 5) (.non) (.som (.neg (.cst (.int 1))))))) (.nil))
def c_canonical : CB := .cons (.asg 3 (.sub (.comp (.var 7) [7] (.one 7) (.rng (.cst (.int 1)) (.bin .add (.blt .len (.cons (.var 2) (.nil))) (.cst (.int 1)))) t_canonical_0) (.cst (.int 0)))) (.cons (.asg 4 (.comp e_canonical_1 [6] (.one 6) (.rng (.cst (.int 0)) (.bin .add (.var 1) (.bin .mul (.cst (.int 2)) (.var 3)))) (.non))) (.cons (.asg 5 (.call 2 (.cons (.var 4) (.cons (.var 1) (.cons (.var 3) (.nil)))))) (.cons (.whl (.and (.cmp .gt (.var 1) (.cst (.int 0))) (.cmp .eq (.call 3 (.cons (.sub (.var 4) (.bin .sub (.var 1) (.cst (.int 1)))) (.cons (.sub (.var 4) (.bin .add (.bin .sub (.var 1) (.cst (.int 1))) (.var 3))) (.nil)))) (.sub (.var 5) (.neg (.cst (.int 1)))))) b_canonical_2) (.cons (.ret (.tup (.cons (.var 1) (.cons (.blt .tuple (.cons (.slc (.var 4) (.non) (.som (.bin .add (.var 1) (.var 3)))) (.nil))) (.cons (.blt .tuple (.cons (.var 5) (.nil))) (.nil)))))) (.nil)))))
def N_canonical : List Str := ["row", "begin", "rises", "step", "numbers", "news", "at", "one"]
def p_canonical : List Str := ["row", "begin", "rises"]
def fs_canonical : List (Str × Nat) := [("is_period", 4), ("number_at", 4), ("rises_from", 3), ("rise_between", 2)]
def ms_canonical : List (List SV → Dice → Res D) := [m_is_period, m_number_at, m_rises_from, m_rise_between]
def m_canonical : List SV → Dice → Res D := fnD (fun j => ms_canonical[j]?) 8 c_canonical
def b_rings_from_0 : CB := .cons (.asg 9 (.call 0 (.cons (.sub (.var 8) (.cst (.int 0))) (.nil)))) (.cons (.ifs (.cmp .eq (.var 9) (.var 1)) (.cons (.app 2 (.bin .add (.var 6) (.lst (.cons (.tup (.cons (.var 5) (.cons (.var 7) (.nil)))) (.nil))))) (.nil)) (.cons (.ifs (.and (.notN (.var 9)) (.and (.cmp .gt (.var 9) (.var 1)) (.and (.cmp .nin (.var 9) (.var 4)) (.cmp .ne (.var 9) (.var 5))))) (.cons (.app 3 (.tup (.cons (.var 9) (.cons (.bin .add (.var 6) (.lst (.cons (.tup (.cons (.var 5) (.cons (.var 7) (.nil)))) (.nil)))) (.nil))))) (.nil)) (.nil)) (.nil))) (.nil))
def b_rings_from_1 : CB := .cons (.popS (.tup (.cons (.one 5) (.cons (.one 6) (.nil)))) 3) (.cons (.asg 4 (.comp (.var 10) [10, 7] (.tup (.cons (.one 10) (.cons (.one 7) (.nil)))) (.seq (.var 6)) (.non))) (.cons (.fors (.tup (.cons (.one 7) (.cons (.one 8) (.nil)))) (.enm (.sub (.var 0) (.var 5))) b_rings_from_0) (.nil)))
def c_rings_from : CB := .cons (.par [(2, true), (3, true)] (.cons (.lst (.nil)) (.cons (.lst (.cons (.tup (.cons (.var 1) (.cons (.lst (.nil)) (.nil)))) (.nil))) (.nil)))) (.cons (.whl (.cmp .ne (.bor 3) (.lst (.nil))) b_rings_from_1) (.cons (.frz 2) (.cons (.ret (.var 2)) (.nil))))
def N_rings_from : List Str := ["rows", "first", "found", "waiting", "passed", "event", "way", "place", "arc", "source", "one"]
def p_rings_from : List Str := ["rows", "first"]
def fs_rings_from : List (Str × Nat) := [("event_of", 1)]
def ms_rings_from : List (List SV → Dice → Res D) := [m_event_of]
def m_rings_from : List SV → Dice → Res D := fnD (fun j => ms_rings_from[j]?) 11 c_rings_from
def e_rings_of_0 : CE := .blt .tuple (.cons (.var 3) (.nil))
def b_rings_of_1 : CB := .cons (.asg 1 (.bin .add (.var 1) (.comp e_rings_of_0 [3] (.one 3) (.seq (.call 0 (.cons (.var 0) (.cons (.var 2) (.nil))))) (.non)))) (.nil)
def c_rings_of : CB := .cons (.asg 1 (.lst (.nil))) (.cons (.fors (.one 2) (.rng (.cst (.int 0)) (.blt .len (.cons (.var 0) (.nil)))) b_rings_of_1) (.cons (.ret (.blt .sorted (.cons (.var 1) (.nil)))) (.nil)))
def N_rings_of : List Str := ["rows", "found", "first", "ring"]
def p_rings_of : List Str := ["rows"]
def fs_rings_of : List (Str × Nat) := [("rings_from", 2)]
def ms_rings_of : List (List SV → Dice → Res D) := [m_rings_from]
def m_rings_of : List SV → Dice → Res D := fnD (fun j => ms_rings_of[j]?) 4 c_rings_of
def e_measure_0 : CE := .sub (.sub (.var 0) (.var 3)) (.var 4)
def e_measure_1 : CE := .sub (.var 5) (.cst (.int 1))
def e_measure_2 : CE := .sub (.var 5) (.cst (.int 2))
def c_measure : CB := .cons (.asg 2 (.comp e_measure_0 [3, 4] (.tup (.cons (.one 3) (.cons (.one 4) (.nil)))) (.seq (.var 1)) (.non))) (.cons (.ret (.tup (.cons (.blt .sum (.cons (.comp e_measure_1 [5] (.one 5) (.seq (.var 2)) (.non)) (.nil))) (.cons (.blt .sum (.cons (.comp e_measure_2 [5] (.one 5) (.seq (.var 2)) (.non)) (.nil))) (.nil))))) (.nil))
def N_measure : List Str := ["rows", "ring", "arcs", "event", "place", "arc"]
def p_measure : List Str := ["rows", "ring"]
def fs_measure : List (Str × Nat) := []
def ms_measure : List (List SV → Dice → Res D) := []
def m_measure : List SV → Dice → Res D := fnD (fun j => ms_measure[j]?) 6 c_measure
def b_common_step_0 : CB := .cons (.asg 1 (.call 1 (.cons (.var 1) (.cons (.sub (.call 2 (.cons (.var 0) (.cons (.var 2) (.nil)))) (.cst (.int 1))) (.nil))))) (.nil)
def c_common_step : CB := .cons (.asg 1 (.cst (.int 1))) (.cons (.fors (.one 2) (.seq (.call 0 (.cons (.var 0) (.nil)))) b_common_step_0) (.cons (.ret (.var 1)) (.nil)))
def N_common_step : List Str := ["rows", "found", "ring"]
def p_common_step : List Str := ["rows"]
def fs_common_step : List (Str × Nat) := [("rings_of", 1), ("multiple", 2), ("measure", 2)]
def ms_common_step : List (List SV → Dice → Res D) := [m_rings_of, m_multiple, m_measure]
def m_common_step : List SV → Dice → Res D := fnD (fun j => ms_common_step[j]?) 3 c_common_step
def e_count_arcs_0 : CE := .blt .len (.cons (.var 1) (.nil))
def c_count_arcs : CB := .cons (.ex (.call 0 (.cons (.var 0) (.nil)))) (.cons (.ret (.blt .sum (.cons (.comp e_count_arcs_0 [1] (.one 1) (.seq (.sub (.var 0) (.cst (.int 1)))) (.non)) (.nil)))) (.nil))
def N_count_arcs : List Str := ["net", "row"]
def p_count_arcs : List Str := ["net"]
def fs_count_arcs : List (Str × Nat) := [("need_net", 1)]
def ms_count_arcs : List (List SV → Dice → Res D) := [m_need_net]
def m_count_arcs : List SV → Dice → Res D := fnD (fun j => ms_count_arcs[j]?) 2 c_count_arcs
def c_need_feed : CB := .cons (.ex (.call 0 (.cons (.var 0) (.nil)))) (.cons (.ifs (.or (.not (.call 1 (.cons (.var 1) (.cons (.cst (.int 0)) (.cons (.bin .sub (.blt .len (.cons (.sub (.var 0) (.cst (.int 2))) (.nil))) (.cst (.int 1))) (.nil)))))) (.not (.call 1 (.cons (.var 2) (.cons (.cst (.int 0)) (.cons (.bin .sub (.sub (.var 0) (.cst (.int 0))) (.cst (.int 1))) (.nil))))))) (.cons (.rai "InvalidInput") (.nil)) (.nil)) (.cons (.ifs (.or (.not (.call 1 (.cons (.var 3) (.cons (.cst (.int 0)) (.cons (.cst (.int 9)) (.nil)))))) (.not (.call 1 (.cons (.var 4) (.cons (.cst (.int 0)) (.cons (.cst (.int 3)) (.nil))))))) (.cons (.rai "InvalidNumber") (.nil)) (.nil)) (.nil)))
def N_need_feed : List Str := ["net", "output", "source", "delay", "back"]
def p_need_feed : List Str := ["net", "output", "source", "delay", "back"]
def fs_need_feed : List (Str × Nat) := [("need_net", 1), ("is_whole", 3)]
def ms_need_feed : List (List SV → Dice → Res D) := [m_need_net, m_is_whole]
def m_need_feed : List SV → Dice → Res D := fnD (fun j => ms_need_feed[j]?) 5 c_need_feed
def b_fed_back_0 : CB := .cons (.ifs (.cmp .eq (.var 8) (.bin .add (.cst (.str "u")) (.blt .str (.cons (.var 2) (.nil))))) (.cons (.app 7 (.tup (.cons (.bin .add (.cst (.str "e")) (.blt .str (.cons (.sub (.sub (.var 0) (.cst (.int 2))) (.var 1)) (.nil)))) (.cons (.bin .add (.var 9) (.var 3)) (.cons (.bin .add (.var 10) (.var 4)) (.nil)))))) (.nil)) (.cons (.ifs (.and (.cmp .eq (.sub (.var 8) (.cst (.int 0))) (.cst (.str "u"))) (.cmp .gt (.blt .int (.cons (.slc (.var 8) (.som (.cst (.int 1))) (.non)) (.nil))) (.var 2))) (.cons (.app 7 (.tup (.cons (.bin .add (.cst (.str "u")) (.blt .str (.cons (.bin .sub (.blt .int (.cons (.slc (.var 8) (.som (.cst (.int 1))) (.non)) (.nil))) (.cst (.int 1))) (.nil)))) (.cons (.var 9) (.cons (.var 10) (.nil)))))) (.nil)) (.cons (.app 7 (.tup (.cons (.var 8) (.cons (.var 9) (.cons (.var 10) (.nil)))))) (.nil))) (.nil))) (.nil)
def b_fed_back_1 : CB := .cons (.asgO 7 (.lst (.nil))) (.cons (.fors (.tup (.cons (.one 8) (.cons (.one 9) (.cons (.one 10) (.nil))))) (.seq (.var 6)) b_fed_back_0) (.cons (.app 5 (.blt .tuple (.cons (.bor 7) (.nil)))) (.nil)))
def c_fed_back : CB := .cons (.ex (.call 0 (.cons (.var 0) (.cons (.var 1) (.cons (.var 2) (.cons (.var 3) (.cons (.var 4) (.nil)))))))) (.cons (.asgO 5 (.lst (.nil))) (.cons (.fors (.one 6) (.seq (.sub (.var 0) (.cst (.int 1)))) b_fed_back_1) (.cons (.ret (.call 1 (.cons (.tup (.cons (.bin .sub (.sub (.var 0) (.cst (.int 0))) (.cst (.int 1))) (.cons (.blt .tuple (.cons (.bor 5) (.nil))) (.cons (.sub (.var 0) (.cst (.int 2))) (.nil))))) (.nil)))) (.nil))))
def N_fed_back : List Str := ["net", "output", "source", "delay", "back", "rows", "row", "some", "one", "more", "rounds"]
def p_fed_back : List Str := ["net", "output", "source", "delay", "back"]
def fs_fed_back : List (Str × Nat) := [("need_feed", 5), ("checked", 1)]
def ms_fed_back : List (List SV → Dice → Res D) := [m_need_feed, m_checked]
def m_fed_back : List SV → Dice → Res D := fnD (fun j => ms_fed_back[j]?) 11 c_fed_back
def c_is_time : CB := .cons (.ret (.or (.isN (.var 0)) (.call 0 (.cons (.var 0) (.cons (.neg (.bin .pow (.cst (.int 10)) (.cst (.int 9)))) (.cons (.bin .pow (.cst (.int 10)) (.cst (.int 9))) (.nil))))))) (.nil)
def N_is_time : List Str := ["value"]
def p_is_time : List Str := ["value"]
def fs_is_time : List (Str × Nat) := [("is_whole", 3)]
def ms_is_time : List (List SV → Dice → Res D) := [m_is_whole]
def m_is_time : List SV → Dice → Res D := fnD (fun j => ms_is_time[j]?) 1 c_is_time
def e_is_form_0 : CE := .call 1 (.cons (.var 5) (.nil))
def e_is_form_1 : CE := .cmp .ne (.isN (.sub (.var 2) (.bin .add (.var 1) (.var 4)))) (.isN (.var 5))
def c_is_form : CB := .cons (.ifs (.or (.not (.blt .isTuple (.cons (.var 0) .nil))) (.or (.cmp .ne (.blt .len (.cons (.var 0) (.nil))) (.cst (.int 3))) (.not (.call 0 (.cons (.sub (.var 0) (.cst (.int 0))) (.cons (.cst (.int 0)) (.cons (.bin .pow (.cst (.int 10)) (.cst (.int 6))) (.nil)))))))) (.cons (.ret (.cst (.bool false))) (.nil)) (.nil)) (.cons (.unp (.tup (.cons (.one 1) (.cons (.one 2) (.cons (.one 3) (.nil))))) (.var 0)) (.cons (.ifs (.or (.not (.blt .isTuple (.cons (.var 2) .nil))) (.or (.not (.blt .isTuple (.cons (.var 3) .nil))) (.cmp .eq (.var 3) (.tup (.nil))))) (.cons (.ret (.cst (.bool false))) (.nil)) (.nil)) (.cons (.ifs (.or (.cmp .ne (.blt .len (.cons (.var 2) (.nil))) (.bin .add (.var 1) (.blt .len (.cons (.var 3) (.nil))))) (.not (.blt .all (.cons (.comp e_is_form_0 [5] (.one 5) (.seq (.bin .add (.var 2) (.var 3))) (.non)) (.nil))))) (.cons (.ret (.cst (.bool false))) (.nil)) (.nil)) (.cons (.ifs (.blt .any (.cons (.comp e_is_form_1 [4, 5] (.tup (.cons (.one 4) (.cons (.one 5) (.nil)))) (.enm (.var 3)) (.non)) (.nil))) (.cons (.ret (.cst (.bool false))) (.nil)) (.nil)) (.cons (.ret (.cmp .eq (.call 2 (.cons (.blt .list (.cons (.var 2) (.nil))) (.cons (.var 1) (.cons (.blt .list (.cons (.var 3) (.nil))) (.nil))))) (.var 0))) (.nil))))))
def N_is_form : List Str := ["value", "begin", "numbers", "rises", "at", "one"]
def p_is_form : List Str := ["value"]
def fs_is_form : List (Str × Nat) := [("is_whole", 3), ("is_time", 1), ("canonical", 3)]
def ms_is_form : List (List SV → Dice → Res D) := [m_is_whole, m_is_time, m_canonical]
def m_is_form : List SV → Dice → Res D := fnD (fun j => ms_is_form[j]?) 6 c_is_form
def c_need_form : CB := .cons (.ifs (.not (.call 0 (.cons (.var 0) (.nil)))) (.cons (.rai "InvalidForm") (.nil)) (.nil)) (.nil)
def N_need_form : List Str := ["form"]
def p_need_form : List Str := ["form"]
def fs_need_form : List (Str × Nat) := [("is_form", 1)]
def ms_need_form : List (List SV → Dice → Res D) := [m_is_form]
def m_need_form : List SV → Dice → Res D := fnD (fun j => ms_need_form[j]?) 1 c_need_form
def b_first_unlike_0 : CB := .cons (.ifs (.cmp .ne (.call 1 (.cons (.var 0) (.cons (.var 2) (.nil)))) (.call 1 (.cons (.var 1) (.cons (.var 2) (.nil))))) (.cons (.ret (.var 2)) (.nil)) (.nil)) (.nil)
def c_first_unlike : CB := .cons (.fors (.one 2) (.rng (.cst (.int 0)) (.sub (.call 0 (.cons (.var 0) (.cons (.var 1) (.nil)))) (.cst (.int 0)))) b_first_unlike_0) (.cons (.ret (.cst .none)) (.nil))
def N_first_unlike : List Str := ["one", "other", "place"]
def p_first_unlike : List Str := ["one", "other"]
def fs_first_unlike : List (Str × Nat) := [("bound_of", 2), ("value_of", 2)]
def ms_first_unlike : List (List SV → Dice → Res D) := [m_bound_of, m_value_of]
def m_first_unlike : List SV → Dice → Res D := fnD (fun j => ms_first_unlike[j]?) 3 c_first_unlike
def c_first_difference : CB := .cons (.ex (.call 0 (.cons (.var 0) (.nil)))) (.cons (.ex (.call 0 (.cons (.var 1) (.nil)))) (.cons (.ret (.call 1 (.cons (.var 0) (.cons (.var 1) (.nil))))) (.nil)))
def N_first_difference : List Str := ["one", "other"]
def p_first_difference : List Str := ["one", "other"]
def fs_first_difference : List (Str × Nat) := [("need_form", 1), ("first_unlike", 2)]
def ms_first_difference : List (List SV → Dice → Res D) := [m_need_form, m_first_unlike]
def m_first_difference : List SV → Dice → Res D := fnD (fun j => ms_first_difference[j]?) 2 c_first_difference
def c_is_later : CB := .cons (.ret (.and (.notN (.var 0)) (.or (.isN (.var 1)) (.cmp .gt (.var 0) (.var 1))))) (.nil)
def N_is_later : List Str := ["one", "other"]
def p_is_later : List Str := ["one", "other"]
def fs_is_later : List (Str × Nat) := []
def ms_is_later : List (List SV → Dice → Res D) := []
def m_is_later : List SV → Dice → Res D := fnD (fun j => ms_is_later[j]?) 2 c_is_later
def b_first_past_0 : CB := .cons (.par [(6, false), (7, false)] (.cons (.call 1 (.cons (.var 0) (.cons (.var 3) (.nil)))) (.cons (.call 1 (.cons (.var 1) (.cons (.var 3) (.nil)))) (.nil)))) (.cons (.ifs (.call 2 (.cons (.var 6) (.cons (.var 7) (.nil)))) (.cons (.ret (.ife (.isN (.var 2)) (.var 3) (.blt .min (.cons (.var 2) (.cons (.var 3) (.nil)))))) (.nil)) (.nil)) (.cons (.ifs (.and (.cmp .ge (.var 3) (.bin .sub (.var 4) (.var 5))) (.notN (.var 6))) (.cons (.asg 8 (.bin .sub (.bin .sub (.call 1 (.cons (.var 0) (.cons (.bin .add (.var 3) (.var 5)) (.nil)))) (.var 6)) (.bin .sub (.call 1 (.cons (.var 1) (.cons (.bin .add (.var 3) (.var 5)) (.nil)))) (.var 7)))) (.cons (.ifs (.cmp .gt (.var 8) (.cst (.int 0))) (.cons (.asg 9 (.bin .add (.bin .fdiv (.bin .sub (.var 7) (.var 6)) (.var 8)) (.cst (.int 1)))) (.cons (.asg 2 (.ife (.isN (.var 2)) (.bin .add (.var 3) (.bin .mul (.var 9) (.var 5))) (.blt .min (.cons (.var 2) (.cons (.bin .add (.var 3) (.bin .mul (.var 9) (.var 5))) (.nil)))))) (.nil))) (.nil)) (.nil))) (.nil)) (.nil)))
def c_first_past : CB := .cons (.unp (.tup (.cons (.one 4) (.cons (.one 5) (.nil)))) (.call 0 (.cons (.var 0) (.cons (.var 1) (.nil))))) (.cons (.asg 2 (.cst .none)) (.cons (.fors (.one 3) (.rng (.cst (.int 0)) (.var 4)) b_first_past_0) (.cons (.ret (.var 2)) (.nil))))
def N_first_past : List Str := ["one", "other", "best", "place", "most", "step", "own", "far", "gain", "turns"]
def p_first_past : List Str := ["one", "other"]
def fs_first_past : List (Str × Nat) := [("bound_of", 2), ("value_of", 2), ("is_later", 2)]
def ms_first_past : List (List SV → Dice → Res D) := [m_bound_of, m_value_of, m_is_later]
def m_first_past : List SV → Dice → Res D := fnD (fun j => ms_first_past[j]?) 10 c_first_past
def c_first_later : CB := .cons (.ex (.call 0 (.cons (.var 0) (.nil)))) (.cons (.ex (.call 0 (.cons (.var 1) (.nil)))) (.cons (.ret (.call 1 (.cons (.var 0) (.cons (.var 1) (.nil))))) (.nil)))
def N_first_later : List Str := ["one", "other"]
def p_first_later : List Str := ["one", "other"]
def fs_first_later : List (Str × Nat) := [("need_form", 1), ("first_past", 2)]
def ms_first_later : List (List SV → Dice → Res D) := [m_need_form, m_first_past]
def m_first_later : List SV → Dice → Res D := fnD (fun j => ms_first_later[j]?) 2 c_first_later
def c_is_less : CB := .cons (.ret (.cmp .lt (.bin .mul (.sub (.var 0) (.cst (.int 0))) (.sub (.var 1) (.cst (.int 1)))) (.bin .mul (.sub (.var 1) (.cst (.int 0))) (.sub (.var 0) (.cst (.int 1)))))) (.nil)
def N_is_less : List Str := ["one", "other"]
def p_is_less : List Str := ["one", "other"]
def fs_is_less : List (Str × Nat) := []
def ms_is_less : List (List SV → Dice → Res D) := []
def m_is_less : List SV → Dice → Res D := fnD (fun j => ms_is_less[j]?) 2 c_is_less
def b_greatest_0 : CB := .cons (.asg 1 (.ife (.or (.isN (.var 1)) (.call 0 (.cons (.var 1) (.cons (.var 2) (.nil))))) (.var 2) (.var 1))) (.nil)
def c_greatest : CB := .cons (.asg 1 (.cst .none)) (.cons (.fors (.one 2) (.seq (.var 0)) b_greatest_0) (.cons (.ret (.var 1)) (.nil)))
def N_greatest : List Str := ["fractions", "found", "one"]
def p_greatest : List Str := ["fractions"]
def fs_greatest : List (Str × Nat) := [("is_less", 2)]
def ms_greatest : List (List SV → Dice → Res D) := [m_is_less]
def m_greatest : List SV → Dice → Res D := fnD (fun j => ms_greatest[j]?) 3 c_greatest
def m_reach_back : List SV → Dice → Res D := rbM m_event_of
def e_has_start_0 : CE := .cmp .eq (.var 3) (.cst (.str "s"))
def e_has_start_1 : CE := .blt .any (.cons (.comp e_has_start_0 [3, 4, 5] (.tup (.cons (.one 3) (.cons (.one 4) (.cons (.one 5) (.nil))))) (.seq (.sub (.var 0) (.var 2))) (.non)) (.nil))
def c_has_start : CB := .cons (.ret (.blt .any (.cons (.comp e_has_start_1 [2] (.one 2) (.seq (.call 0 (.cons (.var 0) (.cons (.var 1) (.nil))))) (.non)) (.nil)))) (.nil)
def N_has_start : List Str := ["rows", "event", "one", "source", "delay", "back"]
def p_has_start : List Str := ["rows", "event"]
def fs_has_start : List (Str × Nat) := [("reach_back", 2)]
def ms_has_start : List (List SV → Dice → Res D) := [m_reach_back]
def m_has_start : List SV → Dice → Res D := fnD (fun j => ms_has_start[j]?) 6 c_has_start
def c_lowest : CB := .cons (.asg 2 (.call 0 (.cons (.blt .abs (.cons (.var 0) (.nil))) (.cons (.var 1) (.nil))))) (.cons (.ret (.tup (.cons (.bin .fdiv (.var 0) (.var 2)) (.cons (.bin .fdiv (.var 1) (.var 2)) (.nil))))) (.nil))
def N_lowest : List Str := ["top", "bottom", "common"]
def p_lowest : List Str := ["top", "bottom"]
def fs_lowest : List (Str × Nat) := [("divisor", 2)]
def ms_lowest : List (List SV → Dice → Res D) := [m_divisor]
def m_lowest : List SV → Dice → Res D := fnD (fun j => ms_lowest[j]?) 3 c_lowest
def c_is_pace : CB := .cons (.ifs (.or (.not (.blt .isTuple (.cons (.var 0) .nil))) (.cmp .ne (.blt .len (.cons (.var 0) (.nil))) (.cst (.int 2)))) (.cons (.ret (.cst (.bool false))) (.nil)) (.nil)) (.cons (.ret (.and (.call 0 (.cons (.sub (.var 0) (.cst (.int 0))) (.cons (.cst (.int 0)) (.cons (.cst (.int 1000)) (.nil))))) (.and (.call 0 (.cons (.sub (.var 0) (.cst (.int 1))) (.cons (.cst (.int 1)) (.cons (.cst (.int 1000)) (.nil))))) (.cmp .eq (.call 1 (.cons (.sub (.var 0) (.cst (.int 0))) (.cons (.sub (.var 0) (.cst (.int 1))) (.nil)))) (.var 0))))) (.nil))
def N_is_pace : List Str := ["value"]
def p_is_pace : List Str := ["value"]
def fs_is_pace : List (Str × Nat) := [("is_whole", 3), ("lowest", 2)]
def ms_is_pace : List (List SV → Dice → Res D) := [m_is_whole, m_lowest]
def m_is_pace : List SV → Dice → Res D := fnD (fun j => ms_is_pace[j]?) 1 c_is_pace
def e_is_steady_0 : CE := .call 0 (.cons (.var 7) (.cons (.var 2) (.cons (.var 3) (.nil))))
def e_is_steady_1 : CE := .cmp .inn (.cst (.str "none")) (.var 14)
def b_is_steady_2 : CB := .cons (.ifs (.cmp .ne (.call 1 (.cons (.sub (.var 7) (.var 8)) (.cons (.sub (.var 7) (.bin .add (.var 8) (.var 3))) (.nil)))) (.sub (.sub (.var 5) (.var 6)) (.bin .mod (.bin .sub (.var 8) (.var 2)) (.var 3)))) (.cons (.ret (.cst (.bool false))) (.nil)) (.nil)) (.nil)
def b_is_steady_3 : CB := .cons (.fors (.one 8) (.rng (.bin .add (.var 2) (.var 3)) (.bin .add (.bin .add (.bin .add (.var 2) (.var 3)) (.var 4)) (.cst (.int 1)))) b_is_steady_2) (.nil)
def b_is_steady_4 : CB := .cons (.par [(15, false), (16, false)] (.cons (.sub (.sub (.var 5) (.var 9)) (.var 8)) (.cons (.sub (.sub (.var 5) (.var 13)) (.bin .mod (.bin .sub (.var 8) (.var 12)) (.var 3))) (.nil)))) (.cons (.ifs (.and (.notN (.var 16)) (.or (.isN (.var 15)) (.cmp .gt (.var 16) (.var 15)))) (.cons (.ret (.cst (.bool false))) (.nil)) (.nil)) (.nil))
def b_is_steady_5 : CB := .cons (.asg 13 (.call 2 (.cons (.var 10) (.nil)))) (.cons (.fors (.one 8) (.seq (.ife (.notN (.var 13)) (.lrng (.cst (.int 0)) (.var 3)) (.lst (.nil)))) b_is_steady_4) (.nil))
def b_is_steady_6 : CB := .cons (.fors (.tup (.cons (.one 10) (.cons (.one 11) (.cons (.one 12) (.nil))))) (.seq (.var 7)) b_is_steady_5) (.nil)
def c_is_steady : CB := .cons (.asg 5 (.comp e_is_steady_0 [7] (.one 7) (.seq (.var 1)) (.non))) (.cons (.ifs (.blt .any (.cons (.comp e_is_steady_1 [14] (.one 14) (.seq (.var 5)) (.non)) (.nil))) (.cons (.ret (.cst (.bool false))) (.nil)) (.nil)) (.cons (.fors (.tup (.cons (.one 6) (.cons (.one 7) (.nil)))) (.enm (.var 1)) b_is_steady_3) (.cons (.fors (.tup (.cons (.one 9) (.cons (.one 7) (.nil)))) (.enm (.var 0)) b_is_steady_6) (.cons (.ret (.cst (.bool true))) (.nil)))))
def N_is_steady : List Str := ["rows", "table", "begin", "step", "most_back", "rises", "at", "row", "number", "event", "source", "delay", "back", "one", "some", "own", "far"]
def p_is_steady : List Str := ["rows", "table", "begin", "step", "most_back"]
def fs_is_steady : List (Str × Nat) := [("rises_from", 3), ("rise_between", 2), ("event_of", 1)]
def ms_is_steady : List (List SV → Dice → Res D) := [m_rises_from, m_rise_between, m_event_of]
def m_is_steady : List SV → Dice → Res D := fnD (fun j => ms_is_steady[j]?) 17 c_is_steady
def c_ratio : CB := .cons (.unp (.tup (.cons (.one 2) (.cons (.one 3) (.nil)))) (.call 0 (.cons (.var 0) (.cons (.var 1) (.nil))))) (.cons (.ret (.call 1 (.cons (.var 2) (.cons (.var 3) (.nil))))) (.nil))
def N_ratio : List Str := ["rows", "ring", "delay", "back"]
def p_ratio : List Str := ["rows", "ring"]
def fs_ratio : List (Str × Nat) := [("measure", 2), ("lowest", 2)]
def ms_ratio : List (List SV → Dice → Res D) := [m_measure, m_lowest]
def m_ratio : List SV → Dice → Res D := fnD (fun j => ms_ratio[j]?) 4 c_ratio
def e_slowest_of_0 : CE := .call 2 (.cons (.var 0) (.cons (.var 1) (.nil)))
def c_slowest_of : CB := .cons (.ret (.call 0 (.cons (.comp e_slowest_of_0 [1] (.one 1) (.seq (.call 1 (.cons (.var 0) (.nil)))) (.non)) (.nil)))) (.nil)
def N_slowest_of : List Str := ["rows", "ring"]
def p_slowest_of : List Str := ["rows"]
def fs_slowest_of : List (Str × Nat) := [("greatest", 1), ("rings_of", 1), ("ratio", 2)]
def ms_slowest_of : List (List SV → Dice → Res D) := [m_greatest, m_rings_of, m_ratio]
def m_slowest_of : List SV → Dice → Res D := fnD (fun j => ms_slowest_of[j]?) 2 c_slowest_of
def b_with_rooms_0 : CB := .cons (.setI 3 (.var 5) (.bin .add (.sub (.bor 3) (.var 5)) (.tup (.cons (.tup (.cons (.bin .add (.cst (.str "e")) (.blt .str (.cons (.var 6) (.nil)))) (.cons (.cst (.int 0)) (.cons (.sub (.var 2) (.var 4)) (.nil))))) (.nil))))) (.nil)
def c_with_rooms : CB := .cons (.asgO 3 (.blt .list (.cons (.var 0) (.nil)))) (.cons (.fors (.tup (.cons (.one 4) (.cons (.tup (.cons (.one 5) (.cons (.one 6) (.nil)))) (.nil)))) (.enm (.var 1)) b_with_rooms_0) (.cons (.ret (.blt .tuple (.cons (.bor 3) (.nil)))) (.nil)))
def N_with_rooms : List Str := ["rows", "stores", "rooms", "found", "at", "giver", "taker"]
def p_with_rooms : List Str := ["rows", "stores", "rooms"]
def fs_with_rooms : List (Str × Nat) := []
def ms_with_rooms : List (List SV → Dice → Res D) := []
def m_with_rooms : List SV → Dice → Res D := fnD (fun j => ms_with_rooms[j]?) 7 c_with_rooms
def c_keeps : CB := .cons (.asg 4 (.call 0 (.cons (.call 1 (.cons (.var 0) (.cons (.var 1) (.cons (.var 2) (.nil))))) (.nil)))) (.cons (.ret (.or (.isN (.var 4)) (.not (.call 2 (.cons (.var 3) (.cons (.var 4) (.nil))))))) (.nil))
def N_keeps : List Str := ["rows", "stores", "rooms", "pace", "most"]
def p_keeps : List Str := ["rows", "stores", "rooms", "pace"]
def fs_keeps : List (Str × Nat) := [("slowest_of", 1), ("with_rooms", 3), ("is_less", 2)]
def ms_keeps : List (List SV → Dice → Res D) := [m_slowest_of, m_with_rooms, m_is_less]
def m_keeps : List SV → Dice → Res D := fnD (fun j => ms_keeps[j]?) 5 c_keeps
def c_later : CB := .cons (.ifs (.or (.isN (.var 0)) (.isN (.var 1))) (.cons (.ret (.ife (.isN (.var 0)) (.var 1) (.var 0))) (.nil)) (.nil)) (.cons (.ret (.blt .max (.cons (.var 0) (.cons (.var 1) (.nil))))) (.nil))
def N_later : List Str := ["one", "other"]
def p_later : List Str := ["one", "other"]
def fs_later : List (Str × Nat) := []
def ms_later : List (List SV → Dice → Res D) := []
def m_later : List SV → Dice → Res D := fnD (fun j => ms_later[j]?) 2 c_later
def b_latest_time_0 : CB := .cons (.asg 8 (.call 0 (.cons (.sub (.sub (.var 0) (.var 5)) (.bin .add (.var 2) (.cst (.int 1)))) (.cons (.bin .sub (.var 7) (.var 3)) (.nil))))) (.cons (.ifs (.and (.notN (.var 8)) (.notN (.sub (.var 6) (.var 7)))) (.cons (.asg 4 (.ife (.isN (.var 4)) (.bin .sub (.sub (.var 6) (.var 7)) (.var 8)) (.blt .min (.cons (.var 4) (.cons (.bin .sub (.sub (.var 6) (.var 7)) (.var 8)) (.nil)))))) (.nil)) (.nil)) (.nil))
def b_latest_time_1 : CB := .cons (.fors (.one 7) (.rng (.var 3) (.blt .len (.cons (.var 6) (.nil)))) b_latest_time_0) (.nil)
def c_latest_time : CB := .cons (.asg 4 (.cst .none)) (.cons (.fors (.tup (.cons (.one 5) (.cons (.one 6) (.nil)))) (.enm (.var 1)) b_latest_time_1) (.cons (.ret (.var 4)) (.nil)))
def N_latest_time : List Str := ["answers", "dues", "source", "place", "found", "output", "row", "later", "step"]
def p_latest_time : List Str := ["answers", "dues", "source", "place"]
def fs_latest_time : List (Str × Nat) := [("value_of", 2)]
def ms_latest_time : List (List SV → Dice → Res D) := [m_value_of]
def m_latest_time : List SV → Dice → Res D := fnD (fun j => ms_latest_time[j]?) 9 c_latest_time
def c_need_stores : CB := .cons (.ex (.call 0 (.cons (.var 0) (.nil)))) (.cons (.ifs (.not (.call 1 (.cons (.var 0) (.cons (.var 1) (.nil))))) (.cons (.rai "InvalidStores") (.nil)) (.nil)) (.nil))
def N_need_stores : List Str := ["net", "stores"]
def p_need_stores : List Str := ["net", "stores"]
def fs_need_stores : List (Str × Nat) := [("need_net", 1), ("are_stores", 2)]
def ms_need_stores : List (List SV → Dice → Res D) := [m_need_net, m_are_stores]
def m_need_stores : List SV → Dice → Res D := fnD (fun j => ms_need_stores[j]?) 2 c_need_stores
def t_least_rooms_0 : CO := .som (.call 3 (.cons (.sub (.var 0) (.cst (.int 1))) (.cons (.var 1) (.cons (.var 5) (.cons (.var 2) (.nil))))))
def e_least_rooms_1 : CE := .cmp .le (.var 9) (.sub (.var 5) (.var 8))
def t_least_rooms_2 : CO := .som (.and (.cmp .ne (.var 7) (.var 5)) (.blt .all (.cons (.comp e_least_rooms_1 [8, 9] (.tup (.cons (.one 8) (.cons (.one 9) (.nil)))) (.enm (.var 7)) (.non)) (.nil))))
def b_least_rooms_3 : CB := .cons (.asg 6 (.comp (.var 7) [7] (.one 7) (.seq (.var 3)) t_least_rooms_2)) (.cons (.ifs (.cmp .eq (.var 6) (.lst (.nil))) (.cons (.app 4 (.var 5)) (.nil)) (.nil)) (.nil))
def c_least_rooms : CB := .cons (.ex (.call 0 (.cons (.var 0) (.cons (.var 1) (.nil))))) (.cons (.ifs (.not (.call 1 (.cons (.var 2) (.nil)))) (.cons (.rai "InvalidNumber") (.nil)) (.nil)) (.cons (.asg 3 (.comp (.var 5) [5] (.one 5) (.seq (.call 2 (.cons (.blt .len (.cons (.var 1) (.nil))) (.nil)))) t_least_rooms_0)) (.cons (.asgO 4 (.lst (.nil))) (.cons (.fors (.one 5) (.seq (.var 3)) b_least_rooms_3) (.cons (.ret (.blt .tuple (.cons (.bor 4) (.nil)))) (.nil))))))
def N_least_rooms : List Str := ["net", "stores", "pace", "good", "found", "rooms", "lesser", "one", "at", "a"]
def p_least_rooms : List Str := ["net", "stores", "pace"]
def fs_least_rooms : List (Str × Nat) := [("need_stores", 2), ("is_pace", 1), ("all_rooms", 1), ("keeps", 4)]
def ms_least_rooms : List (List SV → Dice → Res D) := [m_need_stores, m_is_pace, m_all_rooms, m_keeps]
def m_least_rooms : List SV → Dice → Res D := fnD (fun j => ms_least_rooms[j]?) 10 c_least_rooms
def c_need_alike : CB := .cons (.ex (.call 0 (.cons (.var 0) (.cons (.var 1) (.nil))))) (.cons (.ifs (.or (.cmp .ne (.sub (.var 0) (.cst (.int 0))) (.sub (.var 1) (.cst (.int 0)))) (.cmp .ne (.blt .len (.cons (.sub (.var 0) (.cst (.int 2))) (.nil))) (.blt .len (.cons (.sub (.var 1) (.cst (.int 2))) (.nil))))) (.cons (.rai "NoFit") (.nil)) (.nil)) (.nil))
def N_need_alike : List Str := ["net", "other"]
def p_need_alike : List Str := ["net", "other"]
def fs_need_alike : List (Str × Nat) := [("need_two", 2)]
def ms_need_alike : List (List SV → Dice → Res D) := [m_need_two]
def m_need_alike : List SV → Dice → Res D := fnD (fun j => ms_need_alike[j]?) 2 c_need_alike
def e_need_dues_0 : CE := .or (.isN (.var 3)) (.call 1 (.cons (.var 3) (.cons (.neg (.bin .pow (.cst (.int 10)) (.cst (.int 6)))) (.cons (.bin .pow (.cst (.int 10)) (.cst (.int 6))) (.nil)))))
def b_need_dues_1 : CB := .cons (.ifs (.or (.not (.blt .isTuple (.cons (.var 2) .nil))) (.or (.not (.chain .le .le (.cst (.int 1)) (.blt .len (.cons (.var 2) (.nil))) (.cst (.int 20)))) (.cmp .ne (.blt .len (.cons (.var 2) (.nil))) (.blt .len (.cons (.sub (.var 1) (.cst (.int 0))) (.nil)))))) (.cons (.rai "InvalidDues") (.nil)) (.nil)) (.cons (.ifs (.not (.blt .all (.cons (.comp e_need_dues_0 [3] (.one 3) (.seq (.var 2)) (.non)) (.nil)))) (.cons (.rai "InvalidDues") (.nil)) (.nil)) (.nil))
def c_need_dues : CB := .cons (.ex (.call 0 (.cons (.var 0) (.nil)))) (.cons (.ifs (.or (.not (.blt .isTuple (.cons (.var 1) .nil))) (.cmp .ne (.blt .len (.cons (.var 1) (.nil))) (.blt .len (.cons (.sub (.var 0) (.cst (.int 2))) (.nil))))) (.cons (.rai "InvalidDues") (.nil)) (.nil)) (.cons (.fors (.one 2) (.seq (.var 1)) b_need_dues_1) (.nil)))
def N_need_dues : List Str := ["net", "dues", "row", "one"]
def p_need_dues : List Str := ["net", "dues"]
def fs_need_dues : List (Str × Nat) := [("need_net", 1), ("is_whole", 3)]
def ms_need_dues : List (List SV → Dice → Res D) := [m_need_net, m_is_whole]
def m_need_dues : List SV → Dice → Res D := fnD (fun j => ms_need_dues[j]?) 4 c_need_dues
def c_need_event : CB := .cons (.ex (.call 0 (.cons (.var 0) (.nil)))) (.cons (.ifs (.not (.call 1 (.cons (.var 1) (.cons (.cst (.int 0)) (.cons (.bin .sub (.blt .len (.cons (.sub (.var 0) (.cst (.int 1))) (.nil))) (.cst (.int 1))) (.nil)))))) (.cons (.rai "InvalidEvent") (.nil)) (.nil)) (.nil))
def N_need_event : List Str := ["net", "event"]
def p_need_event : List Str := ["net", "event"]
def fs_need_event : List (Str × Nat) := [("need_net", 1), ("is_whole", 3)]
def ms_need_event : List (List SV → Dice → Res D) := [m_need_net, m_is_whole]
def m_need_event : List SV → Dice → Res D := fnD (fun j => ms_need_event[j]?) 2 c_need_event
def c_need_number : CB := .cons (.ifs (.not (.call 0 (.cons (.var 0) (.cons (.var 1) (.cons (.var 2) (.nil)))))) (.cons (.rai "InvalidNumber") (.nil)) (.nil)) (.nil)
def N_need_number : List Str := ["value", "low", "high"]
def p_need_number : List Str := ["value", "low", "high"]
def fs_need_number : List (Str × Nat) := [("is_whole", 3)]
def ms_need_number : List (List SV → Dice → Res D) := [m_is_whole]
def m_need_number : List SV → Dice → Res D := fnD (fun j => ms_need_number[j]?) 3 c_need_number
def e_need_rooms_0 : CE := .call 0 (.cons (.var 2) (.cons (.cst (.int 1)) (.cons (.cst (.int 6)) (.nil))))
def c_need_rooms : CB := .cons (.ifs (.or (.not (.blt .isTuple (.cons (.var 1) .nil))) (.cmp .ne (.blt .len (.cons (.var 1) (.nil))) (.blt .len (.cons (.var 0) (.nil))))) (.cons (.rai "InvalidNumber") (.nil)) (.nil)) (.cons (.ifs (.not (.blt .all (.cons (.comp e_need_rooms_0 [2] (.one 2) (.seq (.var 1)) (.non)) (.nil)))) (.cons (.rai "InvalidNumber") (.nil)) (.nil)) (.nil))
def N_need_rooms : List Str := ["stores", "rooms", "one"]
def p_need_rooms : List Str := ["stores", "rooms"]
def fs_need_rooms : List (Str × Nat) := [("is_whole", 3)]
def ms_need_rooms : List (List SV → Dice → Res D) := [m_is_whole]
def m_need_rooms : List SV → Dice → Res D := fnD (fun j => ms_need_rooms[j]?) 3 c_need_rooms
def c_need_round : CB := .cons (.ifs (.not (.call 0 (.cons (.var 0) (.cons (.cst (.int 0)) (.cons (.var 1) (.nil)))))) (.cons (.rai "InvalidRound") (.nil)) (.nil)) (.nil)
def N_need_round : List Str := ["value", "most"]
def p_need_round : List Str := ["value", "most"]
def fs_need_round : List (Str × Nat) := [("is_whole", 3)]
def ms_need_round : List (List SV → Dice → Res D) := [m_is_whole]
def m_need_round : List SV → Dice → Res D := fnD (fun j => ms_need_round[j]?) 2 c_need_round
def e_need_streams_0 : CE := .or (.isN (.var 4)) (.call 2 (.cons (.var 4) (.cons (.neg (.bin .pow (.cst (.int 10)) (.cst (.int 6)))) (.cons (.bin .pow (.cst (.int 10)) (.cst (.int 6))) (.nil)))))
def b_need_streams_1 : CB := .cons (.ifs (.or (.not (.blt .isTuple (.cons (.var 3) .nil))) (.cmp .ne (.blt .len (.cons (.var 3) (.nil))) (.var 2))) (.cons (.rai "InvalidStreams") (.nil)) (.nil)) (.cons (.ifs (.not (.blt .all (.cons (.comp e_need_streams_0 [4] (.one 4) (.seq (.var 3)) (.non)) (.nil)))) (.cons (.rai "InvalidStreams") (.nil)) (.nil)) (.nil))
def c_need_streams : CB := .cons (.ex (.call 0 (.cons (.var 0) (.nil)))) (.cons (.ex (.call 1 (.cons (.var 2) (.cons (.cst (.int 200)) (.nil))))) (.cons (.ifs (.or (.not (.blt .isTuple (.cons (.var 1) .nil))) (.cmp .ne (.blt .len (.cons (.var 1) (.nil))) (.sub (.var 0) (.cst (.int 0))))) (.cons (.rai "InvalidStreams") (.nil)) (.nil)) (.cons (.fors (.one 3) (.seq (.var 1)) b_need_streams_1) (.nil))))
def N_need_streams : List Str := ["net", "streams", "rounds", "stream", "one"]
def p_need_streams : List Str := ["net", "streams", "rounds"]
def fs_need_streams : List (Str × Nat) := [("need_net", 1), ("need_round", 2), ("is_whole", 3)]
def ms_need_streams : List (List SV → Dice → Res D) := [m_need_net, m_need_round, m_is_whole]
def m_need_streams : List SV → Dice → Res D := fnD (fun j => ms_need_streams[j]?) 5 c_need_streams
def c_number : CB := .cons (.ex (.call 0 (.cons (.var 0) (.nil)))) (.cons (.ifs (.not (.call 1 (.cons (.var 1) (.cons (.cst (.int 0)) (.cons (.bin .pow (.cst (.int 10)) (.cst (.int 9))) (.nil)))))) (.cons (.rai "InvalidInput") (.nil)) (.nil)) (.cons (.ret (.call 2 (.cons (.var 0) (.cons (.var 1) (.nil))))) (.nil)))
def N_number : List Str := ["form", "place"]
def p_number : List Str := ["form", "place"]
def fs_number : List (Str × Nat) := [("need_form", 1), ("is_whole", 3), ("value_of", 2)]
def ms_number : List (List SV → Dice → Res D) := [m_need_form, m_is_whole, m_value_of]
def m_number : List SV → Dice → Res D := fnD (fun j => ms_number[j]?) 2 c_number
def c_number_of : CB := .cons (.ifs (.or (.cmp .ne (.blt .len (.cons (.var 0) (.nil))) (.cst (.int 1))) (.cmp .nin (.var 0) (.cst (.str "0123456789")))) (.cons (.rai "InvalidText") (.nil)) (.nil)) (.cons (.ret (.blt .int (.cons (.var 0) (.nil)))) (.nil))
def N_number_of : List Str := ["word"]
def p_number_of : List Str := ["word"]
def fs_number_of : List (Str × Nat) := []
def ms_number_of : List (List SV → Dice → Res D) := []
def m_number_of : List SV → Dice → Res D := fnD (fun j => ms_number_of[j]?) 1 c_number_of
def b_pace_0 : CB := .cons (.ifs (.and (.cmp .inn (.sub (.sub (.var 3) (.cst (.int 0))) (.cst (.int 0))) (.var 2)) (.call 3 (.cons (.var 4) (.cons (.sub (.sub (.var 3) (.cst (.int 0))) (.cst (.int 0))) (.nil))))) (.cons (.app 5 (.call 4 (.cons (.var 4) (.cons (.var 3) (.nil))))) (.nil)) (.nil)) (.nil)
def c_pace : CB := .cons (.ex (.call 0 (.cons (.var 0) (.cons (.var 1) (.nil))))) (.cons (.par [(4, false), (5, true)] (.cons (.sub (.var 0) (.cst (.int 1))) (.cons (.lst (.nil)) (.nil)))) (.cons (.asg 2 (.call 1 (.cons (.var 4) (.cons (.var 1) (.nil))))) (.cons (.fors (.one 3) (.seq (.call 2 (.cons (.var 4) (.nil)))) b_pace_0) (.cons (.frz 5) (.cons (.ret (.call 5 (.cons (.var 5) (.nil)))) (.nil))))))
def N_pace : List Str := ["net", "event", "back", "ring", "rows", "found"]
def p_pace : List Str := ["net", "event"]
def fs_pace : List (Str × Nat) := [("need_event", 2), ("reach_back", 2), ("rings_of", 1), ("has_start", 2), ("ratio", 2), ("greatest", 1)]
def ms_pace : List (List SV → Dice → Res D) := [m_need_event, m_reach_back, m_rings_of, m_has_start, m_ratio, m_greatest]
def m_pace : List SV → Dice → Res D := fnD (fun j => ms_pace[j]?) 6 c_pace
def c_rings : CB := .cons (.ex (.call 0 (.cons (.var 0) (.nil)))) (.cons (.ret (.blt .tuple (.cons (.call 1 (.cons (.sub (.var 0) (.cst (.int 1))) (.nil))) (.nil)))) (.nil))
def N_rings : List Str := ["net"]
def p_rings : List Str := ["net"]
def fs_rings : List (Str × Nat) := [("need_net", 1), ("rings_of", 1)]
def ms_rings : List (List SV → Dice → Res D) := [m_need_net, m_rings_of]
def m_rings : List SV → Dice → Res D := fnD (fun j => ms_rings[j]?) 1 c_rings
def c_slowest : CB := .cons (.ex (.call 0 (.cons (.var 0) (.nil)))) (.cons (.ret (.call 1 (.cons (.sub (.var 0) (.cst (.int 1))) (.nil)))) (.nil))
def N_slowest : List Str := ["net"]
def p_slowest : List Str := ["net"]
def fs_slowest : List (Str × Nat) := [("need_net", 1), ("slowest_of", 1)]
def ms_slowest : List (List SV → Dice → Res D) := [m_need_net, m_slowest_of]
def m_slowest : List SV → Dice → Res D := fnD (fun j => ms_slowest[j]?) 1 c_slowest
def t_slowest_rings_0 : CO := .som (.cmp .eq (.call 3 (.cons (.sub (.var 0) (.cst (.int 1))) (.cons (.var 2) (.nil)))) (.var 1))
def c_slowest_rings : CB := .cons (.ex (.call 0 (.cons (.var 0) (.nil)))) (.cons (.asg 1 (.call 1 (.cons (.sub (.var 0) (.cst (.int 1))) (.nil)))) (.cons (.ret (.blt .tuple (.cons (.comp (.var 2) [2] (.one 2) (.seq (.call 2 (.cons (.sub (.var 0) (.cst (.int 1))) (.nil)))) t_slowest_rings_0) (.nil)))) (.nil)))
def N_slowest_rings : List Str := ["net", "most", "ring"]
def p_slowest_rings : List Str := ["net"]
def fs_slowest_rings : List (Str × Nat) := [("need_net", 1), ("slowest_of", 1), ("rings_of", 1), ("ratio", 2)]
def ms_slowest_rings : List (List SV → Dice → Res D) := [m_need_net, m_slowest_of, m_rings_of, m_ratio]
def m_slowest_rings : List SV → Dice → Res D := fnD (fun j => ms_slowest_rings[j]?) 3 c_slowest_rings
def c_slowest_with : CB := .cons (.ex (.call 0 (.cons (.var 0) (.cons (.var 1) (.nil))))) (.cons (.ex (.call 1 (.cons (.var 1) (.cons (.var 2) (.nil))))) (.cons (.ret (.call 2 (.cons (.call 3 (.cons (.sub (.var 0) (.cst (.int 1))) (.cons (.var 1) (.cons (.var 2) (.nil))))) (.nil)))) (.nil)))
def N_slowest_with : List Str := ["net", "stores", "rooms"]
def p_slowest_with : List Str := ["net", "stores", "rooms"]
def fs_slowest_with : List (Str × Nat) := [("need_stores", 2), ("need_rooms", 2), ("slowest_of", 1), ("with_rooms", 3)]
def ms_slowest_with : List (List SV → Dice → Res D) := [m_need_stores, m_need_rooms, m_slowest_of, m_with_rooms]
def m_slowest_with : List SV → Dice → Res D := fnD (fun j => ms_slowest_with[j]?) 3 c_slowest_with
def e_sources_of_0 : CE := .bin .add (.cst (.str "u")) (.blt .str (.cons (.var 1) (.nil)))
def c_sources_of : CB := .cons (.ret (.bin .add (.lst (.cons (.cst (.str "s")) (.nil))) (.comp e_sources_of_0 [1] (.one 1) (.rng (.cst (.int 0)) (.sub (.var 0) (.cst (.int 0)))) (.non)))) (.nil)
def N_sources_of : List Str := ["net", "at"]
def p_sources_of : List Str := ["net"]
def fs_sources_of : List (Str × Nat) := []
def ms_sources_of : List (List SV → Dice → Res D) := []
def m_sources_of : List SV → Dice → Res D := fnD (fun j => ms_sources_of[j]?) 2 c_sources_of
def c_without_arc : CB := .cons (.asg 3 (.sub (.sub (.var 0) (.cst (.int 1))) (.var 1))) (.cons (.asg 4 (.bin .add (.bin .add (.slc (.sub (.var 0) (.cst (.int 1))) (.non) (.som (.var 1))) (.tup (.cons (.bin .add (.slc (.var 3) (.non) (.som (.var 2))) (.slc (.var 3) (.som (.bin .add (.var 2) (.cst (.int 1)))) (.non))) (.nil)))) (.slc (.sub (.var 0) (.cst (.int 1))) (.som (.bin .add (.var 1) (.cst (.int 1)))) (.non)))) (.cons (.ret (.tup (.cons (.sub (.var 0) (.cst (.int 0))) (.cons (.var 4) (.cons (.sub (.var 0) (.cst (.int 2))) (.nil)))))) (.nil)))
def N_without_arc : List Str := ["net", "event", "place", "row", "rows"]
def p_without_arc : List Str := ["net", "event", "place"]
def fs_without_arc : List (Str × Nat) := []
def ms_without_arc : List (List SV → Dice → Res D) := []
def m_without_arc : List SV → Dice → Res D := fnD (fun j => ms_without_arc[j]?) 5 c_without_arc
end Pg

/-! The law's own core (printed). -/
namespace Lw
open PySem PySem.Spec PyProof.Rows L2 Co Pg

def b_law_0 : CB := .cons (.unp (.tup (.cons (.one 8) (.cons (.one 9) (.nil)))) (.call 5 (.cons (.var 2) (.cons (.var 5) (.nil))))) (.cons (.ifs (.cmp .lt (.var 9) (.cst (.int 1))) (.cons (.ret (.cst (.bool false))) (.nil)) (.nil)) (.cons (.ifs (.or (.isN (.var 4)) (.cmp .gt (.bin .mul (.var 8) (.sub (.var 4) (.cst (.int 1)))) (.bin .mul (.sub (.var 4) (.cst (.int 0))) (.var 9)))) (.cons (.asg 4 (.tup (.cons (.var 8) (.cons (.var 9) (.nil))))) (.nil)) (.nil)) (.nil)))
def e_law_1 : CE := .and (.cmp .eq (.bin .mod (.sub (.var 6) (.cst (.int 0))) (.var 10)) (.cst (.int 0))) (.cmp .eq (.bin .mod (.sub (.var 6) (.cst (.int 1))) (.var 10)) (.cst (.int 0)))
def t_law_2 : CO := .som (.cmp .eq (.bin .mul (.sub (.call 5 (.cons (.var 2) (.cons (.var 5) (.nil)))) (.cst (.int 0))) (.sub (.var 4) (.cst (.int 1)))) (.bin .mul (.sub (.var 4) (.cst (.int 0))) (.sub (.call 5 (.cons (.var 2) (.cons (.var 5) (.nil)))) (.cst (.int 1)))))
def c_law : CB := .cons (.asg 2 (.ife (.cmp .gt (.call 0 (.cons (.dce 1) (.cons (.cst (.int 4)) (.nil)))) (.cst (.int 0))) (.call 1 (.cons (.dce 1) (.cons (.cst (.int 5)) (.cons (.cst (.int 1)) (.nil))))) (.call 2 (.cons (.dce 1) (.nil))))) (.cons (.asg 3 (.call 3 (.cons (.var 2) (.nil)))) (.cons (.ifs (.cmp .ne (.call 4 (.cons (.var 2) (.nil))) (.blt .tuple (.cons (.var 3) (.nil)))) (.cons (.ret (.cst (.bool false))) (.nil)) (.nil)) (.cons (.asg 4 (.cst .none)) (.cons (.fors (.one 5) (.seq (.var 3)) b_law_0) (.cons (.asg 6 (.call 6 (.cons (.var 2) (.nil)))) (.cons (.ifs (.cmp .ne (.isN (.var 6)) (.isN (.var 4))) (.cons (.ret (.cst (.bool false))) (.nil)) (.nil)) (.cons (.ifs (.notN (.var 4)) (.cons (.ifs (.cmp .ne (.bin .mul (.sub (.var 6) (.cst (.int 0))) (.sub (.var 4) (.cst (.int 1)))) (.bin .mul (.sub (.var 4) (.cst (.int 0))) (.sub (.var 6) (.cst (.int 1))))) (.cons (.ret (.cst (.bool false))) (.nil)) (.nil)) (.cons (.ifs (.blt .any (.cons (.comp e_law_1 [10] (.one 10) (.rng (.cst (.int 2)) (.cst (.int 9))) (.non)) (.nil))) (.cons (.ret (.cst (.bool false))) (.nil)) (.nil)) (.cons (.asg 7 (.comp (.var 5) [5] (.one 5) (.seq (.var 3)) t_law_2)) (.cons (.ifs (.cmp .ne (.call 7 (.cons (.var 2) (.nil))) (.blt .tuple (.cons (.var 7) (.nil)))) (.cons (.ret (.cst (.bool false))) (.nil)) (.nil)) (.nil))))) (.cons (.ifs (.cmp .ne (.call 7 (.cons (.var 2) (.nil))) (.tup (.nil))) (.cons (.ret (.cst (.bool false))) (.nil)) (.nil)) (.nil))) (.cons (.ifs (.cmp .ne (.told (.call 4 (.cons (.cst .none) (.nil)))) (.tup (.cons (.cst (.str "error")) (.cons (.cst (.str "InvalidNet")) (.nil))))) (.cons (.ret (.cst (.bool false))) (.nil)) (.nil)) (.nil)))))))))
def N_law : List Str := ["_law_script", "_law_dice", "_law_net_here", "_law_due", "_law_best", "_law_ring", "_law_told_here", "_law_most", "_law_delay", "_law_back", "_law_p"]
def fs_law : List (Str × Nat) := [("_law_roll", 2), ("_law_net", 3), ("_law_overtaken", 1), ("_law_rings", 1), ("rings", 1), ("_law_sums", 2), ("slowest", 1), ("slowest_rings", 1)]
def ms_law : List (List SV → Dice → Res D) := [m_law_roll, m_law_net, m_law_overtaken, m_law_rings, m_rings, m_law_sums, m_slowest, m_slowest_rings]
def i_dice : Nat := 1
end Lw

namespace Pg
open PySem PySem.Spec PyProof.Rows L2 Co
/-! the dice -/
theorem mulOk_b {i j : Int} (hi : 0 ≤ i) (hi2 : i < 2 ^ 400) (hj : 0 ≤ j) (hj2 : j < 2 ^ 400) : mulOk i j = true := by
  have e : (2 : Int) ^ 400 = ((2 ^ 400 : Nat) : Int) := by rw [Int.natCast_pow]; rfl
  rw [e] at hi2 hj2
  have h1 : i.natAbs < 2 ^ 4000 := Nat.lt_of_lt_of_le (show i.natAbs < 2 ^ 400 by generalize (2 : Nat) ^ 400 = z at hi2; omega) (Nat.pow_le_pow_right (by decide) (by decide))
  have h2 : j.natAbs < 2 ^ 4000 := Nat.lt_of_lt_of_le (show j.natAbs < 2 ^ 400 by generalize (2 : Nat) ^ 400 = z at hj2; omega) (Nat.pow_le_pow_right (by decide) (by decide))
  unfold mulOk
  simp only [Bool.or_eq_true, Bool.and_eq_true, decide_eq_true_eq]
  exact .inr ⟨h1, h2⟩
theorem lt400 {x y : Int} (h : x < y) (hy : y ≤ 2 ^ 400) : x < 2 ^ 400 := Int.lt_of_lt_of_le h hy
theorem drawn_ok (c k : Int) (s : Dice) : ∃ z : Int, 0 ≤ z ∧ m_law_drawn [.val (.int c), .val (.int k)] s = .ok (.int z) s := by
  obtain ⟨x1, hx1⟩ : ∃ x : Int, x = (c * 6364136223846793005 + (k + 1) * 1442695040888963407) % 340282366920938463463374607431768211507 := ⟨_, rfl⟩
  obtain ⟨x2, hx2⟩ : ∃ x : Int, x = (x1 * x1) % 340282366920938463463374607431768211297 := ⟨_, rfl⟩
  have a1 : 0 ≤ x1 := by rw [hx1]; exact Int.emod_nonneg _ (by decide)
  have a2 : x1 < 340282366920938463463374607431768211507 := by rw [hx1]; exact Int.emod_lt_of_pos _ (by decide)
  have b1 : 0 ≤ x2 := by rw [hx2]; exact Int.emod_nonneg _ (by decide)
  have b2 : x2 < 340282366920938463463374607431768211297 := by rw [hx2]; exact Int.emod_lt_of_pos _ (by decide)
  have m1 := bin_mul (i := c) (j := 6364136223846793005) (mulOk_r (by decide) (by decide))
  have m2 := bin_mul (i := k + 1) (j := 1442695040888963407) (mulOk_r (by decide) (by decide))
  have m3 := bin_mul (i := x1) (j := x1) (mulOk_b a1 (lt400 a2 (by decide)) a1 (lt400 a2 (by decide)))
  have q1 : binD .mod (.int (c * 6364136223846793005 + (k + 1) * 1442695040888963407)) (.int 340282366920938463463374607431768211507) = some (.int x1) := by rw [hx1]; exact bin_mod (by decide)
  have q2 : binD .mod (.int (x1 * x1)) (.int 340282366920938463463374607431768211297) = some (.int x2) := by rw [hx2]; exact bin_mod (by decide)
  clear hx1 hx2
  obtain ⟨x3, hx3⟩ : ∃ x : Int, x = x2 % 18446744073709551557 := ⟨_, rfl⟩
  obtain ⟨x4, hx4⟩ : ∃ x : Int, x = x2 / 18446744073709551557 := ⟨_, rfl⟩
  have q3 : binD .mod (.int x2) (.int 18446744073709551557) = some (.int x3) := by rw [hx3]; exact bin_mod (by decide)
  have q4 : binD .fdiv (.int x2) (.int 18446744073709551557) = some (.int x4) := by rw [hx4]; exact bin_fdiv (by decide) (small_4000 (by decide) (by decide))
  have c1 : 0 ≤ x3 + 1 := by omega
  have c2 : x3 + 1 < 18446744073709552000 := by omega
  have d1 : 0 ≤ x4 + 1 := by omega
  have d2 : x4 + 1 < 18446744073709552000 := by omega
  clear hx3 hx4
  have e1 : 0 ≤ (x3 + 1) * (x4 + 1) := Int.mul_nonneg c1 d1
  have e2 : (x3 + 1) * (x4 + 1) ≤ 18446744073709552000 * 18446744073709552000 := Int.mul_le_mul (Int.le_of_lt c2) (Int.le_of_lt d2) d1 (by decide)
  have m4 := bin_mul (i := x3 + 1) (j := x4 + 1) (mulOk_b c1 (lt400 c2 (by decide)) d1 (lt400 d2 (by decide)))
  have m5 := bin_mul (i := (x3 + 1) * (x4 + 1)) (j := x2) (mulOk_b e1 (Int.lt_of_le_of_lt e2 (by decide)) b1 (lt400 b2 (by decide)))
  have q5 : binD .mod (.int ((x3 + 1) * (x4 + 1) * x2)) (.int 340282366920938463463374607431768211507) = some (.int (((x3 + 1) * (x4 + 1) * x2) % 340282366920938463463374607431768211507)) := bin_mod (by decide)
  refine ⟨_, Int.emod_nonneg ((x3 + 1) * (x4 + 1) * x2) (show (340282366920938463463374607431768211507 : Int) ≠ 0 by decide), ?_⟩
  refine fn_ret ?_
  unfold c_law_drawn
  rw [xb_step (ρ' := [.val (.int c), .val (.int k), .val (.int x1)]) (s1 := s) (by simp [m1, m2, q1])]
  rw [xb_step (ρ' := [.val (.int c), .val (.int k), .val (.int x2)]) (s1 := s) (by simp [m3, q2])]
  rw [xb_step (ρ' := [.val (.int c), .val (.int k), .val (.int ((x3 + 1) * (x4 + 1) * x2))]) (s1 := s) (by simp [m4, m5, q3, q4])]
  simp [q5]
theorem roll_ok (n : Int) (s : Dice) (hn : 0 < n) (hz : n < 1000000) : ∃ (r : Int) (s' : Dice), m_law_roll [.dice, .val (.int n)] s = .ok (.int r) s' ∧ 0 ≤ r ∧ r < n := by
  have h4 := small_4000 (Int.le_of_lt hn) (by have e : (2 : Int) ^ 64 = 18446744073709551616 := by decide
                                              omega)
  have hp : binD .pow (.int 10) (.int 18) = some (.int 1000000000000000000) := rfl
  by_cases h : 1000000000000000000 ≤ s.1
  · refine ⟨s.1 % n, (s.1 / n, s.2), ?_, Int.emod_nonneg _ (by omega), Int.emod_lt_of_pos _ hn⟩
    refine fn_ret ?_
    simp [c_law_roll, hp, dget, dput, h, bin_mod hn, bin_fdiv hn h4]
  · obtain ⟨z, hz0, hd⟩ := drawn_ok s.1 (s.2 + 1) (s.1, s.2 + 1)
    refine ⟨z / 8 % n, (s.1, s.2 + 1), ?_, Int.emod_nonneg _ (by omega), Int.emod_lt_of_pos _ hn⟩
    refine fn_ret ?_
    have q8 : binD .fdiv (.int z) (.int 8) = some (.int (z / 8)) := bin_fdiv (by decide) (small_4000 (by decide) (by decide))
    simp [c_law_roll, ms_law_roll, hp, dget, dput, h, bin_mod hn, q8, hd]
theorem roll_nat (n : Nat) (s : Dice) (hn : 0 < n) (hz : n < 1000000) : ∃ (r : Nat) (s' : Dice), m_law_roll [.dice, .val (.int n)] s = .ok (.int r) s' ∧ r < n := by
  obtain ⟨r, s', h, h1, h2⟩ := roll_ok n s (by omega) (by omega)
  refine ⟨r.toNat, s', ?_, by omega⟩
  rw [h, Int.toNat_of_nonneg h1]
end Pg
/-! ### equality of plain data -/
namespace Co
open PySem PySem.Spec PyProof.Rows L2
mutual
/-- no bool, no dict -/
def pl : D → Bool
  | .none => true
  | .int _ => true
  | .str x => PyData.canLay0 (.str x)
  | .list ds => pls ds
  | .tuple ds => pls ds
  | _ => false
def pls : List D → Bool
  | [] => true
  | d :: ds => pl d && pls ds
end
mutual
theorem eqv_iff : ∀ x y : D, pl x = true → pl y = true → (PyData.eqv x y = true ↔ x = y)
  | .none, y, _, hy => by cases y <;> simp [PyData.eqv] <;> cases hy
  | .int i, y, _, hy => by cases y <;> simp [PyData.eqv] <;> cases hy
  | .str i, y, _, hy => by cases y <;> simp [PyData.eqv] <;> cases hy
  | .list xs, y, hx, hy => by
    cases y with
    | list ys =>
      have := eqvs_iff xs ys hx hy
      simp only [PyData.eqv, this, PyData.list.injEq]
    | _ => simp [PyData.eqv] <;> cases hy
  | .tuple xs, y, hx, hy => by
    cases y with
    | tuple ys =>
      have := eqvs_iff xs ys hx hy
      simp only [PyData.eqv, this, PyData.tuple.injEq]
    | _ => simp [PyData.eqv] <;> cases hy
  | .bool _, _, h, _ => by cases h
  | .dict _, _, h, _ => by cases h
theorem eqvs_iff : ∀ xs ys : List D, pls xs = true → pls ys = true → (PyData.eqvAll xs ys = true ↔ xs = ys)
  | [], [], _, _ => by simp [PyData.eqvAll]
  | [], _ :: _, _, _ => by simp [PyData.eqvAll]
  | _ :: _, [], _, _ => by simp [PyData.eqvAll]
  | x :: xs, y :: ys, hx, hy => by
    have hx : (pl x && pls xs) = true := hx
    have hy : (pl y && pls ys) = true := hy
    rw [Bool.and_eq_true] at hx hy
    simp only [PyData.eqvAll, Bool.and_eq_true, eqv_iff x y hx.1 hy.1, eqvs_iff xs ys hx.2 hy.2, List.cons.injEq]
end
mutual
theorem pl_ok : ∀ x : D, pl x = true → PyData.canLay0 x = true ∧ noDict x = true
  | .none, _ => ⟨rfl, rfl⟩
  | .int _, _ => ⟨rfl, rfl⟩
  | .str x, h => ⟨h, rfl⟩
  | .list xs, h => pls_ok xs h
  | .tuple xs, h => pls_ok xs h
theorem pls_ok : ∀ xs : List D, pls xs = true → PyData.canLayAll0 xs = true ∧ noDicts xs = true
  | [], _ => ⟨rfl, rfl⟩
  | x :: xs, h => by
    have h : (pl x && pls xs) = true := h
    rw [Bool.and_eq_true] at h
    obtain ⟨a, b⟩ := pl_ok x h.1
    obtain ⟨c, d⟩ := pls_ok xs h.2
    exact ⟨by show (PyData.canLay0 x && PyData.canLayAll0 xs) = true; rw [a, c]; rfl, by show (noDict x && noDicts xs) = true; rw [b, d]; rfl⟩
end
/-- plain, not too deep -/
structure Pl (n : Nat) (x : D) : Prop where
  p : pl x = true
  d : x.depth ≤ n
theorem Pl.mono {n m : Nat} {x : D} (h : Pl n x) (k : n ≤ m) : Pl m x := ⟨h.p, Nat.le_trans h.d k⟩
theorem pl_int (i : Int) : Pl 0 (.int i) := ⟨rfl, Nat.le_refl _⟩
theorem pl_none : Pl 0 .none := ⟨rfl, Nat.le_refl _⟩
theorem Pls.of {n : Nat} : ∀ {xs : List D}, (∀ x ∈ xs, Pl n x) → pls xs = true ∧ PyData.depthAll xs ≤ n
  | [], _ => ⟨rfl, Nat.zero_le _⟩
  | x :: xs, h => by
    obtain ⟨a, b⟩ := Pls.of (n := n) (xs := xs) fun y hy => h y (List.mem_cons_of_mem _ hy)
    obtain ⟨c, d⟩ := h x (List.mem_cons_self ..)
    exact ⟨by show (pl x && pls xs) = true; rw [c, a]; rfl, Nat.max_le.mpr ⟨d, b⟩⟩
theorem pl_tup {n : Nat} {xs : List D} (h : ∀ x ∈ xs, Pl n x) : Pl (n + 1) (.tuple xs) := ⟨(Pls.of h).1, Nat.succ_le_succ (Pls.of h).2⟩
theorem pl_list {n : Nat} {xs : List D} (h : ∀ x ∈ xs, Pl n x) : Pl (n + 1) (.list xs) := ⟨(Pls.of h).1, Nat.succ_le_succ (Pls.of h).2⟩
theorem Pl.shaped {x : D} (h : Pl 64 x) : SeqAt.shaped x = true := by
  unfold SeqAt.shaped
  rw [(pl_ok x h.p).1, Bool.true_and]
  exact decide_eq_true h.d
theorem eqD_pl {x y : D} (hx : Pl 64 x) (hy : Pl 64 y) : eqD x y = some (PyData.eqv x y) := by
  unfold eqD
  rw [if_pos ⟨⟨hx.shaped, (pl_ok x hx.p).2⟩, hy.shaped, (pl_ok y hy.p).2⟩]
theorem eqD_dec {x y : D} {q : Prop} [Decidable q] (hx : Pl 64 x) (hy : Pl 64 y) (h : x = y ↔ q) : eqD x y = some (decide q) := by
  rw [eqD_pl hx hy]
  congr 1
  rw [Bool.eq_iff_iff, eqv_iff x y hx.p hy.p, h, decide_eq_true_eq]
theorem eqD_t {x : D} (hx : Pl 64 x) : eqD x x = some true := by
  rw [eqD_pl hx hx]
  congr 1
  exact (eqv_iff x x hx.p hx.p).mpr rfl
theorem eqD_f {x y : D} (hx : Pl 64 x) (hy : Pl 64 y) (h : x ≠ y) : eqD x y = some false := by
  rw [eqD_pl hx hy]
  congr 1
  cases e : PyData.eqv x y with
  | false => rfl
  | true => exact absurd ((eqv_iff x y hx.p hy.p).mp e) h
/-! ### texts of slots -/
theorem atI_nat {α : Type} {xs : List α} {i : Nat} : atI xs (i : Int) = xs[i]? := by
  unfold atI ixN
  rw [if_pos (by omega)]
  by_cases h : i < xs.length
  · rw [if_pos (by omega)]
    rfl
  · rw [if_neg (by omega), List.getElem?_eq_none (by omega)]
    rfl
theorem rngD_len {lo : Int} {n : Nat} : (rngD lo n).length = n := by simp [rngD]
theorem rngD_succ {lo : Int} {n : Nat} : rngD lo (n + 1) = .int lo :: rngD (lo + 1) n := by
  unfold rngD
  rw [List.range_succ_eq_map, List.map_cons, List.map_map]
  congr 1
  · congr 1; omega
  · apply List.map_congr_left
    intro a _
    show PyData.int (lo + ((a + 1 : Nat) : Int)) = PyData.int (lo + 1 + a)
    congr 1
    omega
theorem rngOk_s {a b : Int} (h1 : -1000000000000 ≤ a) (h2 : a ≤ 1000000000000) (h3 : -1000000000000 ≤ b) (h4 : b ≤ 1000000000000) : rngOk a b = true := by
  unfold rngOk
  have e : (2 : Int) ^ 62 = 4611686018427387904 := by decide
  rw [e]
  simp only [Bool.and_eq_true, decide_eq_true_eq]
  omega
/-! ### comprehensions and loops over a range -/
theorem comp_rng {g : D → Dice → Res (Option D)} {x : Nat → D} {s : Dice} {P : Nat → Bool} : ∀ {n : Nat} {lo : Int} {k m : Nat}, (∀ i, i < n → g (.int (lo + (i : Nat))) s = .ok (if P (m + i) = true then some (x (m + i)) else none) s) → k + n ≤ sizeLine →
    compL (rngD lo n) g k s = .ok ((((List.range n).map (m + ·)).filter P).map x) s
  | 0, lo, k, m, h, hz => rfl
  | n + 1, lo, k, m, h, hz => by
    have h0 := h 0 (by omega)
    have e0 : lo + ((0 : Nat) : Int) = lo := by omega
    rw [e0, Nat.add_zero] at h0
    have ih := fun k hk => comp_rng (g := g) (x := x) (s := s) (P := P) (n := n) (lo := lo + 1) (k := k) (m := m + 1) (fun i hi => by
      have := h (i + 1) (by omega)
      have e1 : lo + ((i + 1 : Nat) : Int) = lo + 1 + (i : Nat) := by omega
      have e2 : m + (i + 1) = m + 1 + i := by omega
      rw [e1, e2] at this
      exact this) hk
    have el : (List.range (n + 1)).map (m + ·) = m :: (List.range n).map (m + 1 + ·) := by
      rw [List.range_succ_eq_map, List.map_cons, List.map_map]
      congr 1
      apply List.map_congr_left
      intro a _
      show m + (a + 1) = m + 1 + a
      omega
    rw [rngD_succ, compL_cons, h0, el, List.filter_cons]
    by_cases hp : P m = true
    · rw [if_pos hp, if_pos hp]
      show (if k < sizeLine then _ else _) = _
      rw [if_pos (by omega), ih (k + 1) (by omega)]
      rfl
    · rw [if_neg hp, if_neg hp]
      show compL _ _ _ _ = _
      rw [ih k (by omega)]
theorem comp_rng1 {g : D → Dice → Res (Option D)} {x : Nat → D} {s : Dice} {n : Nat} {lo : Int} (h : ∀ i, i < n → g (.int (lo + (i : Nat))) s = .ok (some (x i)) s) (hz : n ≤ sizeLine) :
    compL (rngD lo n) g 0 s = .ok ((List.range n).map x) s := by
  have := comp_rng (g := g) (x := x) (s := s) (P := fun _ => true) (n := n) (lo := lo) (k := 0) (m := 0) (fun i hi => by rw [h i hi, if_pos rfl, Nat.zero_add]) (by omega)
  rw [this]
  congr 1
  rw [List.filter_eq_self.mpr (fun _ _ => rfl), List.map_map]
  apply List.map_congr_left
  intro a _
  show x (0 + a) = x a
  rw [Nat.zero_add]
/-- a comprehension whose items may throw the dice -/
theorem comp_ex {g : D → Dice → Res (Option D)} {Q : D → D → Prop} : ∀ {ds : List D} {k : Nat} {s : Dice}, (∀ d ∈ ds, ∀ s, ∃ x s', g d s = .ok (some x) s' ∧ Q d x) → k + ds.length ≤ sizeLine → ∃ xs s', compL ds g k s = .ok xs s' ∧ Paired Q ds xs
  | [], k, s, h, hz => ⟨[], s, rfl, .nil⟩
  | d :: ds, k, s, h, hz => by
    rw [List.length_cons] at hz
    obtain ⟨x, s1, h1, q1⟩ := h d (List.mem_cons_self ..) s
    obtain ⟨xs, s2, h2, q2⟩ := comp_ex (g := g) (Q := Q) (ds := ds) (k := k + 1) (s := s1) (fun e he => h e (List.mem_cons_of_mem _ he)) (by omega)
    refine ⟨x :: xs, s2, ?_, .cons q1 q2⟩
    rw [compL_cons, h1]
    show (if k < sizeLine then _ else _) = _
    rw [if_pos (by omega), h2]
    rfl
/-- a loop over a range, all of it -/
theorem for_inv {f : D → Env → Dice → Out} {P : Nat → Env → Dice → Prop} : ∀ {n m : Nat} {lo : Int} {ρ : Env} {s : Dice}, (∀ i, i < n → ∀ ρ s, P (m + i) ρ s → ∃ ρ' s', f (.int (lo + (i : Nat))) ρ s = .nx ρ' s' ∧ P (m + i + 1) ρ' s') → P m ρ s →
    ∃ ρ' s', forL f (rngD lo n) ρ s = .nx ρ' s' ∧ P (m + n) ρ' s'
  | 0, m, lo, ρ, s, h, h0 => ⟨ρ, s, rfl, h0⟩
  | n + 1, m, lo, ρ, s, h, h0 => by
    obtain ⟨ρ1, s1, h1, p1⟩ := h 0 (by omega) ρ s h0
    have e0 : lo + ((0 : Nat) : Int) = lo := by omega
    rw [e0] at h1
    obtain ⟨ρ2, s2, h2, p2⟩ := for_inv (f := f) (P := P) (n := n) (m := m + 1) (lo := lo + 1) (ρ := ρ1) (s := s1) (fun i hi ρ s hp => by
      have e2 : m + 1 + i = m + (i + 1) := by omega
      rw [e2] at hp
      obtain ⟨ρ', s', a, b⟩ := h (i + 1) (by omega) ρ s hp
      have e1 : lo + ((i + 1 : Nat) : Int) = lo + 1 + (i : Nat) := by omega
      rw [e1] at a
      rw [e2]
      exact ⟨ρ', s', a, b⟩) p1
    refine ⟨ρ2, s2, ?_, ?_⟩
    · rw [rngD_succ, forL_cons, h1]
      exact h2
    · rwa [show m + (n + 1) = m + 1 + n by omega]
/-- a loop over any list -/
theorem for_list {f : D → Env → Dice → Out} {P : Env → Dice → Prop} : ∀ {ds : List D} {ρ : Env} {s : Dice}, (∀ d ∈ ds, ∀ ρ s, P ρ s → ∃ ρ' s', f d ρ s = .nx ρ' s' ∧ P ρ' s') → P ρ s → ∃ ρ' s', forL f ds ρ s = .nx ρ' s' ∧ P ρ' s'
  | [], ρ, s, h, h0 => ⟨ρ, s, rfl, h0⟩
  | d :: ds, ρ, s, h, h0 => by
    obtain ⟨ρ1, s1, h1, p1⟩ := h d (List.mem_cons_self ..) ρ s h0
    obtain ⟨ρ2, s2, h2, p2⟩ := for_list (f := f) (P := P) (ds := ds) (ρ := ρ1) (s := s1) (fun e he => h e (List.mem_cons_of_mem _ he)) p1
    exact ⟨ρ2, s2, by rw [forL_cons, h1]; exact h2, p2⟩
/-- a loop over a range that stops at the first place where q fails -/
theorem for_all {f : D → Env → Dice → Out} {P : Env → Prop} {q : Nat → Bool} {s : Dice} {d : D} : ∀ {n m : Nat} {lo : Int} {ρ : Env}, (∀ i, i < n → ∀ ρ, P ρ → if q (m + i) = true then ∃ ρ', f (.int (lo + (i : Nat))) ρ s = .nx ρ' s ∧ P ρ' else f (.int (lo + (i : Nat))) ρ s = .ret d s) → P ρ →
    if ((List.range n).map (m + ·)).all q = true then ∃ ρ', forL f (rngD lo n) ρ s = .nx ρ' s ∧ P ρ' else forL f (rngD lo n) ρ s = .ret d s
  | 0, m, lo, ρ, h, h0 => by
    rw [if_pos (show ((List.range 0).map (m + ·)).all q = true from rfl)]
    exact ⟨ρ, rfl, h0⟩
  | n + 1, m, lo, ρ, h, h0 => by
    have el : (List.range (n + 1)).map (m + ·) = m :: (List.range n).map (m + 1 + ·) := by
      rw [List.range_succ_eq_map, List.map_cons, List.map_map]
      congr 1
      apply List.map_congr_left
      intro a _
      show m + (a + 1) = m + 1 + a
      omega
    have h1 := h 0 (by omega) ρ h0
    have e0 : lo + ((0 : Nat) : Int) = lo := by omega
    rw [e0, Nat.add_zero] at h1
    rw [el, List.all_cons, rngD_succ, forL_cons]
    by_cases hq : q m = true
    · rw [if_pos hq] at h1
      obtain ⟨ρ1, h1, p1⟩ := h1
      rw [h1, hq, Bool.true_and]
      exact for_all (f := f) (P := P) (q := q) (s := s) (d := d) (n := n) (m := m + 1) (lo := lo + 1) (ρ := ρ1) (fun i hi ρ hp => by
        have := h (i + 1) (by omega) ρ hp
        have e1 : lo + ((i + 1 : Nat) : Int) = lo + 1 + (i : Nat) := by omega
        have e2 : m + (i + 1) = m + 1 + i := by omega
        rw [e1, e2] at this
        exact this) p1
    · rw [if_neg hq] at h1
      rw [h1]
      have : q m = false := by simpa using hq
      rw [this, Bool.false_and, if_neg (by decide)]
      rfl
/-! ### numbers that are no less than 0 -/
section
variable {a b : Nat}
theorem bin_addN : binD .add (.int a) (.int b) = some (.int ((a + b : Nat) : Int)) := by
  show some (PyData.int ((a : Int) + b)) = _
  congr 2
theorem bin_subN (h : b ≤ a) : binD .sub (.int a) (.int b) = some (.int ((a - b : Nat) : Int)) := by
  show some (PyData.int ((a : Int) - b)) = _
  congr 2
  omega
theorem bin_modN (h : 0 < b) : binD .mod (.int a) (.int b) = some (.int ((a % b : Nat) : Int)) := by
  rw [bin_mod (by omega)]
  rfl
theorem bin_fdivN (h : 0 < b) (h2 : b < 1000000000000) : binD .fdiv (.int a) (.int b) = some (.int ((a / b : Nat) : Int)) := by
  rw [bin_fdiv (by omega) (small_4000 (by omega) (by have e : (2 : Int) ^ 64 = 18446744073709551616 := by decide
                                                     omega))]
  rfl
theorem bin_mulN (h : a < 1000000000000) : binD .mul (.int a) (.int b) = some (.int ((a * b : Nat) : Int)) := by
  rw [bin_mul (mulOk_l (by omega) (by have e : (2 : Int) ^ 64 = 18446744073709551616 := by decide
                                      omega))]
  rfl
end
theorem two64 : (2 : Int) ^ 64 = 18446744073709551616 := by decide
/-- none, or an int -/
def oD : Option Int → D
  | none => .none
  | some i => .int i
theorem oD_inj {a b : Option Int} (h : oD a = oD b) : a = b := by
  cases a <;> cases b <;> first | rfl | cases h | skip
  rfl
theorem pl_oD (a : Option Int) : Pl 0 (oD a) := by
  cases a
  · exact pl_none
  · exact pl_int _
theorem map_oD_inj : ∀ {xs ys : List (Option Int)}, xs.map oD = ys.map oD → xs = ys
  | [], [], _ => rfl
  | [], _ :: _, h => by cases h
  | _ :: _, [], h => by cases h
  | x :: xs, y :: ys, h => by
    rw [List.map_cons, List.map_cons] at h
    injection h with h1 h2
    rw [oD_inj h1, map_oD_inj h2]
theorem atI_oD {xs : List (Option Int)} {i : Nat} (h : i < xs.length) : atI (xs.map oD) (i : Int) = some (oD (xs.getD i none)) := by
  rw [atI_nat, List.getElem?_map, List.getD_eq_getElem?_getD, List.getElem?_eq_getElem h]
  rfl
section
variable {G : Gam} {ρ : Env} {s : Dice} {a b e : CE} {vs : List Nat} {p : Pat} {it : CI} {t : CO} {st : CB}
theorem evI_rngN {lo n : Nat} {j : Int} (ha : ev G a ρ s = .ok (.int lo) s) (hb : ev G b ρ s = .ok (.int j) s) (e : j = ((lo + n : Nat) : Int)) (hz : lo + n ≤ 1000000000) : evI G (.rng a b) ρ s = .ok (rngD lo n) s := by
  rw [evI_rng, ha, Co.bind_ok, hb, Co.bind_ok]
  show (if rngOk lo j = true then _ else _) = _
  rw [if_pos (rngOk_s (by omega) (by omega) (by omega) (by omega))]
  have : (j - (lo : Int)).toNat = n := by omega
  rw [this]
theorem comp_all {x : Nat → D} {n : Nat} {lo : Int} (hi : evI G it ρ s = .ok (rngD lo n) s) (hn : n ≤ 100000) (h : ∀ i, i < n → itemS G e vs p t ρ (.int (lo + (i : Nat))) s = .ok (some (x i)) s) :
    ev G (.comp e vs p it t) ρ s = .ok (.list ((List.range n).map x)) s := by
  rw [ev_comp, hi, Co.bind_ok, comp_rng1 h (sz_le hn)]
  rfl
theorem comp_flt {x : Nat → D} {P : Nat → Bool} {n : Nat} {lo : Int} (hi : evI G it ρ s = .ok (rngD lo n) s) (hn : n ≤ 100000) (h : ∀ i, i < n → itemS G e vs p t ρ (.int (lo + (i : Nat))) s = .ok (if P i = true then some (x i) else none) s) :
    ev G (.comp e vs p it t) ρ s = .ok (.list (((List.range n).filter P).map x)) s := by
  rw [ev_comp, hi, Co.bind_ok, comp_rng (m := 0) (P := P) (x := x) (fun i hi => by rw [Nat.zero_add]; exact h i hi) (by have := sz_le hn; omega)]
  have : (List.range n).map (0 + ·) = List.range n := by
    rw [show ((0 + ·) : Nat → Nat) = id by funext z; exact Nat.zero_add z, List.map_id]
  rw [this]
  rfl
end
theorem fn_ret2 {G : Gam} {n : Nat} {b : CB} {vs : List SV} {ρ : Env} {s s1 : Dice} {d : D} (e : vs ++ List.replicate (n - vs.length) .no = ρ) (h : xb G b ρ s = .ret d s1) : fnD G n b vs s = .ok d s1 := fn_ret (by rw [e]; exact h)
end Co

/-! Plain theory: rows that go on by steps. -/
namespace Fm
abbrev Seq := Nat → Option Int
def v (x : Seq) (p : Nat) : Int := (x p).getD 0
def none? (x : Seq) (p : Nat) : Bool := (x p).isNone
/-- at p the row goes on by steps of s -/
def At (x : Seq) (s p : Nat) : Prop := none? x (p + s) = none? x p ∧ none? x (p + 2 * s) = none? x p ∧ v x (p + 2 * s) + v x p = 2 * v x (p + s)
instance {x : Seq} {s p : Nat} : Decidable (At x s p) := by unfold At; exact inferInstance
def Stp (x : Seq) (b s : Nat) : Prop := ∀ p, b ≤ p → At x s p
theorem Stp.mono {x : Seq} {b c s : Nat} (h : Stp x b s) (hb : b ≤ c) : Stp x c s := fun p hp => h p (Nat.le_trans hb hp)
theorem At.congr {x y : Seq} {s p : Nat} (h : ∀ q, x q = y q) : At x s p ↔ At y s p := by
  have : x = y := funext h
  rw [this]
section
variable {x : Seq} {b s L : Nat}
theorem Stp.nn (h : Stp x b s) : ∀ (k p : Nat), b ≤ p → none? x (p + k * s) = none? x p
  | 0, p, hp => by rw [Nat.zero_mul, Nat.add_zero]
  | k + 1, p, hp => by
    rw [Nat.succ_mul, ← Nat.add_assoc, (h (p + k * s) (by omega)).1, Stp.nn h k p hp]
theorem Stp.lin (h : Stp x b s) : ∀ (k p : Nat), b ≤ p → v x (p + k * s) = v x p + k * (v x (p + s) - v x p)
  | 0, p, hp => by rw [Nat.zero_mul, Nat.add_zero]; simp
  | 1, p, hp => by
    rw [Nat.one_mul]
    have : ((1 : Nat) : Int) = 1 := rfl
    rw [this, Int.one_mul]
    omega
  | k + 2, p, hp => by
    have a := Stp.lin h k p hp
    have c := Stp.lin h (k + 1) p hp
    have d := (h (p + k * s) (by omega)).2.2
    have e1 : p + k * s + 2 * s = p + (k + 2) * s := by rw [Nat.add_mul]; omega
    have e2 : p + k * s + s = p + (k + 1) * s := by rw [Nat.add_mul]; omega
    rw [e1, e2] at d
    generalize v x (p + s) - v x p = z at *
    have h1 : ((k + 1 : Nat) : Int) * z = k * z + z := by rw [Int.natCast_add, Int.add_mul]; simp
    have h2 : ((k + 2 : Nat) : Int) * z = k * z + 2 * z := by rw [Int.natCast_add, Int.add_mul]; rfl
    rw [h1] at c
    rw [h2]
    omega
/-- the rise -/
def ri (x : Seq) (s p : Nat) : Int := v x (p + s) - v x p
theorem Stp.ri_s (h : Stp x b s) {p : Nat} (hp : b ≤ p) : ri x s (p + s) = ri x s p := by
  have d := (h p hp).2.2
  have e : p + s + s = p + 2 * s := by omega
  unfold ri
  rw [e]
  omega
theorem ri_prop (h : Stp x b s) (hL : Stp x b L) {p : Nat} (hp : b ≤ p) : (L : Int) * ri x s p = s * ri x L p := by
  have a := h.lin L p hp
  have c := hL.lin s p hp
  rw [Nat.mul_comm L s] at a
  have : v x p + L * (v x (p + s) - v x p) = v x p + s * (v x (p + L) - v x p) := by rw [← a, ← c]
  unfold ri
  omega
theorem ri_L (h : Stp x b s) (hL : Stp x b L) (hs : 0 < L) {p : Nat} (hp : b ≤ p) : ri x s (p + L) = ri x s p := by
  have a := ri_prop h hL hp
  have c := ri_prop h hL (p := p + L) (by omega)
  rw [hL.ri_s hp, ← a] at c
  exact Int.eq_of_mul_eq_mul_left (by omega) c
theorem Stp.sub (h : Stp x b s) (hL : Stp x b L) (hs : 0 < s) (hl : s < L) : Stp x b (L - s) := by
  intro p hp
  have key : ∀ q, b ≤ q → v x (q + (L - s)) = v x q + ri x L q - ri x s q := fun q hq => by
    have a := h.ri_s (p := q + (L - s)) (by omega)
    have e1 : q + (L - s) + s = q + L := by omega
    rw [e1, ri_L h hL (by omega) hq] at a
    have c : ri x s (q + (L - s)) = v x (q + L) - v x (q + (L - s)) := by unfold ri; rw [e1]
    have d : ri x L q = v x (q + L) - v x q := rfl
    omega
  have nn : ∀ q, b ≤ q → none? x (q + (L - s)) = none? x q := fun q hq => by
    have a := (h (q + (L - s)) (by omega)).1
    have e1 : q + (L - s) + s = q + L := by omega
    rw [e1, (hL q hq).1] at a
    exact a.symm
  have k1 := key p hp
  have k2 := key (p + (L - s)) (by omega)
  have e2 : p + (L - s) + (L - s) = p + 2 * (L - s) := by omega
  have rs : ri x s (p + (L - s)) = ri x s p := by
    have a := h.ri_s (p := p + (L - s)) (by omega)
    have e1 : p + (L - s) + s = p + L := by omega
    rw [e1, ri_L h hL (by omega) hp] at a
    exact a.symm
  have rl : ri x L (p + (L - s)) = ri x L p := by
    have a := ri_L hL h hs (p := p + (L - s)) (by omega)
    have e1 : p + (L - s) + s = p + L := by omega
    rw [e1, hL.ri_s hp] at a
    exact a.symm
  rw [e2, rs, rl] at k2
  refine ⟨nn p hp, ?_, by omega⟩
  rw [← e2, nn _ (by omega), nn p hp]
/-- the least step divides every step -/
theorem least_dvd (h : Stp x b s) (hs : 0 < s) (hm : ∀ t, 0 < t → t < s → ¬ Stp x b t) : ∀ {L : Nat}, 0 < L → Stp x b L → s ∣ L := by
  intro L
  induction L using Nat.strongRecOn with
  | ind L ih =>
    intro h0 hL
    by_cases e : L = s
    · rw [e]; exact Nat.dvd_refl _
    · have hlt : s < L := by
        rcases Nat.lt_or_ge L s with q | q
        · exact absurd hL (hm L h0 q)
        · omega
      have d := ih (L - s) (by omega) (by omega) (h.sub hL hs hlt)
      have := Nat.dvd_add d (Nat.dvd_refl s)
      rwa [Nat.sub_add_cancel (Nat.le_of_lt hlt)] at this
/-- two rounds are enough -/
theorem window (hL : Stp x b L) (h0 : 0 < L) (h : ∀ p, b ≤ p → p < b + 2 * L → At x s p) : Stp x b s := by
  intro p
  induction p using Nat.strongRecOn with
  | ind p ih =>
    intro hp
    by_cases hlt : p < b + 2 * L
    · exact h p hp hlt
    · obtain ⟨q, rfl⟩ : ∃ q, p = q + 2 * L := ⟨p - 2 * L, by omega⟩
      obtain ⟨a1, a2, a3⟩ := ih q (by omega) (by omega)
      obtain ⟨b1, b2, b3⟩ := ih (q + L) (by omega) (by omega)
      obtain ⟨c1, c2, c3⟩ := hL q (by omega)
      obtain ⟨d1, d2, d3⟩ := hL (q + s) (by omega)
      obtain ⟨e1, e2, e3⟩ := hL (q + 2 * s) (by omega)
      have f1 : q + 2 * L + s = q + s + 2 * L := by omega
      have f2 : q + 2 * L + 2 * s = q + 2 * s + 2 * L := by omega
      have f3 : q + L + s = q + s + L := by omega
      have f4 : q + L + 2 * s = q + 2 * s + L := by omega
      rw [f3, f4] at b3
      refine ⟨?_, ?_, ?_⟩
      · rw [f1, d2, c2, a1]
      · rw [f2, e2, c2, a2]
      · rw [f1, f2]
        omega
/-- as far down as it goes on so -/
def down (x : Seq) (s : Nat) : Nat → Nat
  | 0 => 0
  | b + 1 => if At x s b then down x s b else b + 1
theorem down_le : ∀ b, down x s b ≤ b
  | 0 => Nat.le_refl _
  | b + 1 => by
    unfold down
    split
    · exact Nat.le_succ_of_le (down_le b)
    · exact Nat.le_refl _
theorem down_stp : ∀ {b}, Stp x b s → Stp x (down x s b) s
  | 0, h => h
  | b + 1, h => by
    unfold down
    split
    · rename_i q
      refine down_stp fun p hp => ?_
      by_cases e : p = b
      · rw [e]; exact q
      · exact h p (by omega)
    · exact h
theorem down_stop : ∀ {b c}, down x s b = c + 1 → ¬ At x s c
  | 0, c, h => by cases h
  | b + 1, c, h => by
    unfold down at h
    split at h
    · exact down_stop h
    · rename_i q
      cases h
      exact q
theorem down_self {b : Nat} (h : ∀ c, b = c + 1 → ¬ At x s c) : down x s b = b := by
  cases b with
  | zero => rfl
  | succ c =>
    unfold down
    rw [if_neg (h c rfl)]
theorem down_down (b : Nat) : down x s (down x s b) = down x s b := down_self fun c e => down_stop e
end
/-! ### forms -/
def numAt (b : Nat) (ns rs : List (Option Int)) (p : Nat) : Option Int :=
  if p < b + rs.length then ns.getD p none else (ns.getD (b + (p - b) % rs.length) none).map fun a => a + ((p - b) / rs.length : Nat) * (rs.getD ((p - b) % rs.length) none).getD 0
structure GF (b : Nat) (ns rs : List (Option Int)) : Prop where
  len : ns.length = b + rs.length
  pos : 0 < rs.length
  nn : ∀ i, i < rs.length → (ns.getD (b + i) none).isNone = (rs.getD i none).isNone
theorem numAt_q {b : Nat} {ns rs : List (Option Int)} (i q : Nat) (hi : i < rs.length) : numAt b ns rs (b + i + q * rs.length) = (ns.getD (b + i) none).map fun a => a + q * (rs.getD i none).getD 0 := by
  unfold numAt
  have e : b + i + q * rs.length - b = i + rs.length * q := by rw [Nat.mul_comm]; omega
  have h0 : 0 < rs.length := by omega
  have e1 : (i + rs.length * q) % rs.length = i := by rw [Nat.add_mul_mod_self_left, Nat.mod_eq_of_lt hi]
  have e2 : (i + rs.length * q) / rs.length = q := by rw [Nat.add_mul_div_left _ _ h0, Nat.div_eq_of_lt hi, Nat.zero_add]
  split
  · rename_i h
    have hq : q = 0 := by
      cases q with
      | zero => rfl
      | succ q => rw [Nat.succ_mul] at h; omega
    subst hq
    rw [Nat.zero_mul, Nat.add_zero]
    cases ns.getD (b + i) none with
    | none => rfl
    | some a => simp
  · rw [e, e1, e2]
theorem at_q {b L p : Nat} (h : b ≤ p) (h0 : 0 < L) : ∃ i q, i < L ∧ p = b + i + q * L := by
  refine ⟨(p - b) % L, (p - b) / L, Nat.mod_lt _ h0, ?_⟩
  have := Nat.mod_add_div (p - b) L
  rw [Nat.mul_comm] at this
  omega
theorem form_stp {b : Nat} {ns rs : List (Option Int)} (h0 : 0 < rs.length) : Stp (numAt b ns rs) b rs.length := by
  intro p hp
  obtain ⟨i, q, hi, rfl⟩ := at_q hp h0
  have e1 : b + i + q * rs.length + rs.length = b + i + (q + 1) * rs.length := by rw [Nat.succ_mul]; omega
  have e2 : b + i + q * rs.length + 2 * rs.length = b + i + (q + 2) * rs.length := by rw [Nat.add_mul]; omega
  unfold At none? v
  rw [e1, e2, numAt_q i q hi, numAt_q i (q + 1) hi, numAt_q i (q + 2) hi]
  cases ns.getD (b + i) none with
  | none => exact ⟨rfl, rfl, rfl⟩
  | some a =>
    refine ⟨rfl, rfl, ?_⟩
    show a + ((q + 2 : Nat) : Int) * _ + (a + (q : Int) * _) = 2 * (a + ((q + 1 : Nat) : Int) * _)
    generalize (rs.getD i none).getD 0 = z
    have h1 : ((q + 1 : Nat) : Int) * z = q * z + z := by rw [Int.natCast_add, Int.add_mul]; simp
    have h2 : ((q + 2 : Nat) : Int) * z = q * z + 2 * z := by rw [Int.natCast_add, Int.add_mul]; rfl
    rw [h1, h2]
    omega
def riO (x : Seq) (s p : Nat) : Option Int := match x p, x (p + s) with
  | some a, some c => some (c - a)
  | _, _ => none
def dueN (x : Seq) (f s : Nat) : List (Option Int) := (List.range (f + s)).map x
def dueR (x : Seq) (f s : Nat) : List (Option Int) := (List.range s).map fun i => riO x s (f + i)
theorem getD_map {α : Type} {g : Nat → Option α} {n i : Nat} (h : i < n) : ((List.range n).map g).getD i none = g i := by
  rw [List.getD_eq_getElem?_getD, List.getElem?_map, List.getElem?_range h]
  rfl
theorem riO_none {x : Seq} {b s p : Nat} (h : Stp x b s) (hp : b ≤ p) : (riO x s p).isNone = (x p).isNone := by
  have a := (h p hp).1
  unfold none? at a
  unfold riO
  cases h1 : x p with
  | none => rfl
  | some u =>
    cases h2 : x (p + s) with
    | none => rw [h1, h2] at a; cases a
    | some w => rfl
theorem due_gf {x : Seq} {f s : Nat} (h : Stp x f s) (hs : 0 < s) : GF f (dueN x f s) (dueR x f s) := by
  refine ⟨by simp [dueN, dueR], by simp [dueR]; exact hs, fun i hi => ?_⟩
  have hi : i < s := by simpa [dueR] using hi
  unfold dueN dueR
  rw [getD_map (by omega), getD_map hi, riO_none h (by omega)]
/-- a row is told by its form -/
theorem due_num {x : Seq} {f s : Nat} (h : Stp x f s) (hs : 0 < s) (p : Nat) : numAt f (dueN x f s) (dueR x f s) p = x p := by
  have el : (dueR x f s).length = s := by simp [dueR]
  by_cases hp : p < f + s
  · unfold numAt
    rw [el, if_pos hp]
    exact getD_map hp
  · obtain ⟨i, q, hi, rfl⟩ := at_q (b := f) (L := s) (p := p) (by omega) hs
    have := numAt_q (b := f) (ns := dueN x f s) (rs := dueR x f s) i q (by rw [el]; exact hi)
    rw [el] at this
    rw [this]
    unfold dueN dueR
    rw [getD_map (g := x) (n := f + s) (i := f + i) (by omega), getD_map hi]
    have nn := h.nn q (f + i) (by omega)
    have ln := h.lin q (f + i) (by omega)
    have n1 := (h (f + i) (by omega)).1
    unfold none? at nn n1
    unfold v at ln
    unfold riO
    cases h1 : x (f + i) with
    | none =>
      rw [h1] at nn
      cases h2 : x (f + i + q * s) with
      | none => rfl
      | some _ => rw [h2] at nn; cases nn
    | some a =>
      rw [h1] at nn n1
      cases h2 : x (f + i + q * s) with
      | none => rw [h2] at nn; cases nn
      | some c =>
        cases h3 : x (f + i + s) with
        | none => rw [h3] at n1; cases n1
        | some e =>
          rw [h1, h2, h3] at ln
          show some (a + (q : Int) * (e - a)) = some c
          exact congrArg some ln.symm
/-- the steps that the look at two rounds finds -/
def okS (x : Seq) (b L s : Nat) : Bool := decide (L % s = 0) && (List.range (2 * L)).all fun i => decide (At x s (b + i))
theorem okS_iff {x : Seq} {b L s : Nat} (hL : Stp x b L) (h0 : 0 < L) : okS x b L s = true ↔ s ∣ L ∧ Stp x b s := by
  unfold okS
  rw [Bool.and_eq_true, List.all_eq_true, decide_eq_true_eq]
  refine ⟨fun ⟨h1, h2⟩ => ⟨Nat.dvd_of_mod_eq_zero h1, window hL h0 fun p hp hl => ?_⟩, fun ⟨h1, h2⟩ => ⟨Nat.mod_eq_zero_of_dvd h1, fun i _ => decide_eq_true (h2 _ (by omega))⟩⟩
  have := of_decide_eq_true (h2 (p - b) (List.mem_range.mpr (by omega)))
  rwa [show b + (p - b) = p by omega] at this
/-- the least of them -/
def lst (x : Seq) (b L : Nat) : Nat := (((List.range L).map (· + 1)).filter (okS x b L)).headD L
theorem head_min {q : Nat → Bool} : ∀ {n k s : Nat}, (((List.range n).map (· + k)).filter q).head? = some s → k ≤ s ∧ s < k + n ∧ q s = true ∧ ∀ t, k ≤ t → t < s → q t = false := by
  intro n
  induction n with
  | zero => intro k s h; cases h
  | succ n ih =>
    intro k s h
    have e : (List.range (n + 1)).map (· + k) = k :: (List.range n).map (· + (k + 1)) := by
      rw [List.range_succ_eq_map, List.map_cons, List.map_map, Nat.zero_add]
      congr 1
      apply List.map_congr_left
      intro a _
      show a + 1 + k = a + (k + 1)
      omega
    rw [e, List.filter_cons] at h
    split at h
    · rename_i hq
      cases h
      exact ⟨Nat.le_refl _, by omega, hq, fun t h1 h2 => by omega⟩
    · rename_i hq
      obtain ⟨h1, h2, h3, h4⟩ := ih h
      refine ⟨by omega, by omega, h3, fun t h5 h6 => ?_⟩
      by_cases et : t = k
      · rw [et]; simpa using hq
      · exact h4 t (by omega) h6
theorem lst_mem {x : Seq} {b L : Nat} (hL : Stp x b L) (h0 : 0 < L) : (((List.range L).map (· + 1)).filter (okS x b L)).head? = some (lst x b L) := by
  unfold lst
  cases h : ((List.range L).map (· + 1)).filter (okS x b L) with
  | cons a r => rfl
  | nil =>
    have : L ∈ ((List.range L).map (· + 1)).filter (okS x b L) := by
      rw [List.mem_filter]
      exact ⟨List.mem_map.mpr ⟨L - 1, List.mem_range.mpr (by omega), by show L - 1 + 1 = L; omega⟩, (okS_iff hL h0).mpr ⟨Nat.dvd_refl _, hL⟩⟩
    rw [h] at this
    cases this
structure LeastS (x : Seq) (b s : Nat) : Prop where
  pos : 0 < s
  stp : Stp x b s
  min : ∀ t, 0 < t → t < s → ¬ Stp x b t
theorem lst_least {x : Seq} {b L : Nat} (hL : Stp x b L) (h0 : 0 < L) : LeastS x b (lst x b L) ∧ lst x b L ≤ L := by
  obtain ⟨h1, h2, h3, h4⟩ := head_min (lst_mem hL h0)
  obtain ⟨h5, h6⟩ := (okS_iff hL h0).mp h3
  -- the least step is a divisor, so it is found
  have ex : ∃ m, LeastS x b m ∧ m ≤ lst x b L := by
    have : ∀ n, ∀ s, s ≤ n → 0 < s → Stp x b s → ∃ m, LeastS x b m ∧ m ≤ s := by
      intro n
      induction n with
      | zero => intro s h1 h2; omega
      | succ n ih =>
        intro s h1 h2 h3
        rcases Classical.em (∃ t, 0 < t ∧ t < s ∧ Stp x b t) with ⟨t, a, c, d⟩ | hn
        · obtain ⟨m, e, f⟩ := ih t (by omega) a d
          exact ⟨m, e, by omega⟩
        · exact ⟨s, ⟨h2, h3, fun t a c d => hn ⟨t, a, c, d⟩⟩, Nat.le_refl _⟩
    exact this _ _ (Nat.le_refl _) (by omega) h6
  obtain ⟨m, lm, hm⟩ := ex
  have dv := least_dvd lm.stp lm.pos lm.min h0 hL
  have em : m = lst x b L := by
    rcases Nat.lt_or_ge m (lst x b L) with q | q
    · have := h4 m lm.pos q
      rw [(okS_iff hL h0).mpr ⟨dv, lm.stp⟩] at this
      cases this
    · omega
  rw [← em]
  exact ⟨lm, by have := Nat.le_of_dvd h0 dv; omega⟩
theorem LeastS.uniq {x : Seq} {b s t : Nat} (h : LeastS x b s) (g : LeastS x b t) : s = t := by
  rcases Nat.lt_trichotomy s t with q | q | q
  · exact absurd h.stp (g.min s h.pos q)
  · exact q
  · exact absurd g.stp (h.min t g.pos q)
theorem LeastS.down {x : Seq} {b f s : Nat} (h : LeastS x b s) (hf : f ≤ b) (hs : Stp x f s) : LeastS x f s := ⟨h.pos, hs, fun t h1 h2 h3 => h.min t h1 h2 (h3.mono hf)⟩
/-- the canonical form -/
def canB (x : Seq) (b L : Nat) : Nat := Fm.down x (lst x b L) b
theorem dueN_self {b : Nat} {ns rs : List (Option Int)} (g : GF b ns rs) : dueN (numAt b ns rs) b rs.length = ns := by
  apply List.ext_getElem?
  intro i
  unfold dueN
  rw [List.getElem?_map]
  by_cases hi : i < b + rs.length
  · rw [List.getElem?_range hi]
    show some (numAt b ns rs i) = _
    unfold numAt
    rw [if_pos hi, List.getElem?_eq_getElem (by rw [g.len]; exact hi), List.getD_eq_getElem?_getD, List.getElem?_eq_getElem (by rw [g.len]; exact hi)]
    rfl
  · rw [List.getElem?_eq_none (by simp; omega), List.getElem?_eq_none (by rw [g.len]; omega)]
    rfl
theorem dueR_self {b : Nat} {ns rs : List (Option Int)} (g : GF b ns rs) : dueR (numAt b ns rs) b rs.length = rs := by
  apply List.ext_getElem?
  intro i
  unfold dueR
  rw [List.getElem?_map]
  by_cases hi : i < rs.length
  · rw [List.getElem?_range hi, List.getElem?_eq_getElem hi]
    show some (riO _ _ (b + i)) = _
    have a0 := numAt_q (b := b) (ns := ns) (rs := rs) i 0 hi
    have a1 := numAt_q (b := b) (ns := ns) (rs := rs) i 1 hi
    rw [Nat.zero_mul, Nat.add_zero] at a0
    rw [Nat.one_mul] at a1
    have nn := g.nn i hi
    have er : rs.getD i none = rs[i] := by rw [List.getD_eq_getElem?_getD, List.getElem?_eq_getElem hi]; rfl
    rw [er] at nn a0 a1
    unfold riO
    rw [a0, a1]
    cases h1 : ns.getD (b + i) none with
    | none =>
      rw [h1] at nn
      cases h2 : rs[i] with
      | none => rfl
      | some z => rw [h2] at nn; cases nn
    | some a =>
      rw [h1] at nn
      cases h2 : rs[i] with
      | none => rw [h2] at nn; cases nn
      | some z =>
        simp
        omega
  · rw [List.getElem?_eq_none (by simp; omega), List.getElem?_eq_none (by omega)]
    rfl
/-- a form is canonical just then -/
theorem can_iff {b : Nat} {ns rs : List (Option Int)} (g : GF b ns rs) :
    (canB (numAt b ns rs) b rs.length = b ∧ dueN (numAt b ns rs) (canB (numAt b ns rs) b rs.length) (lst (numAt b ns rs) b rs.length) = ns ∧ dueR (numAt b ns rs) (canB (numAt b ns rs) b rs.length) (lst (numAt b ns rs) b rs.length) = rs) ↔
    (lst (numAt b ns rs) b rs.length = rs.length ∧ canB (numAt b ns rs) b rs.length = b) := by
  refine ⟨fun ⟨h1, h2, h3⟩ => ⟨?_, h1⟩, fun ⟨h1, h2⟩ => ?_⟩
  · have := congrArg List.length h3
    simpa [dueR] using this
  · rw [h2, h1]
    exact ⟨rfl, dueN_self g, dueR_self g⟩
end Fm

namespace Pg
open PySem PySem.Spec PyProof.Rows L2 Co Fm
theorem is_whole_ok (v lo hi : Int) (s : Dice) : m_is_whole [.val (.int v), .val (.int lo), .val (.int hi)] s = .ok (.bool (decide (lo ≤ v ∧ v ≤ hi))) s := by
  refine fn_ret ?_
  simp [c_is_whole]
  by_cases h : lo ≤ v <;> simp [h]
theorem rise_ok (a b : Option Int) (s : Dice) : m_rise_between [.val (oD a), .val (oD b)] s = .ok (match a, b with
    | none, none => .none
    | some a, some b => .int (b - a)
    | _, _ => .str "none") s := by
  refine fn_ret ?_
  cases a <;> cases b <;> simp [c_rise_between, oD]
theorem number_at_ok {w : List D → D} (hw : w = .list ∨ w = .tuple) {b : Nat} {ns rs : List (Option Int)} (g : GF b ns rs) (hL : rs.length ≤ 1000) (p : Nat) (hp : p ≤ 1000000000000) (s : Dice) :
    m_number_at [.val (w (ns.map oD)), .val (.int b), .val (w (rs.map oD)), .val (.int p)] s = .ok (oD (Fm.numAt b ns rs p)) s := by
  have hl : bltD .len [w (rs.map oD)] = some (.int (rs.length : Nat)) := by
    rcases hw with rfl | rfl <;> simp
  have hs : ∀ (xs : List (Option Int)) (i : Nat), i < xs.length → subD (w (xs.map oD)) (.int (i : Nat)) = some (oD (xs.getD i none)) := fun xs i h => by
    rcases hw with rfl | rfl <;> exact atI_oD h
  have h0 := g.pos
  refine fn_ret ?_
  by_cases h : p < b + rs.length
  · have e : Fm.numAt b ns rs p = ns.getD p none := by unfold Fm.numAt; rw [if_pos h]
    have h1 : (p : Int) < (b : Int) + rs.length := by omega
    rw [e]
    simp [c_number_at, hl, h1, hs ns p (by rw [g.len]; exact h)]
  · obtain ⟨d, hd⟩ : ∃ d, p = b + d := ⟨p - b, by omega⟩
    have e : Fm.numAt b ns rs p = (ns.getD (b + d % rs.length) none).map fun a => a + (d / rs.length : Nat) * (rs.getD (d % rs.length) none).getD 0 := by
      unfold Fm.numAt
      rw [if_neg h]
      have : p - b = d := by omega
      rw [this]
    rw [e]
    have h1 : ¬ (p : Int) < (b : Int) + rs.length := by omega
    have hm := Nat.mod_lt d h0
    have e1 : (p : Int) - b = d := by omega
    have e2 := bin_modN (a := d) h0
    have e3 := bin_fdivN (a := d) h0 (by omega)
    have s1 := hs ns (b + d % rs.length) (by rw [g.len]; omega)
    have s2 := hs rs (d % rs.length) hm
    have nn := g.nn _ hm
    have hdv : d / rs.length ≤ d := Nat.div_le_self _ _
    generalize d / rs.length = q at *
    generalize d % rs.length = r at *
    rw [Int.natCast_add] at s1
    cases h2 : ns.getD (b + r) none with
    | none =>
      rw [h2] at s1
      simp [c_number_at, hl, h1, e1, e2, s1, oD]
    | some a =>
      rw [h2] at s1 nn
      cases h3 : rs.getD r none with
      | none => rw [h3] at nn; cases nn
      | some z =>
        rw [h3] at s2
        have b5 : binD .mul (.int (q : Nat)) (.int z) = some (.int ((q : Nat) * z)) := bin_mul (mulOk_l (by omega) (by rw [two64]; omega))
        simp [c_number_at, hl, h1, e1, e2, e3, s1, s2, b5, oD]
end Pg

namespace Pg
open PySem PySem.Spec PyProof.Rows L2 Co Fm
/-- the rise as the program tells it -/
def rD (z : Str) : Option Int → Option Int → D
  | none, none => .none
  | some a, some b => .int (b - a)
  | _, _ => .str z
theorem rise_rD (a b : Option Int) (s : Dice) : m_rise_between [.val (oD a), .val (oD b)] s = .ok (rD "none" a b) s := by
  rw [rise_ok]
  cases a <;> cases b <;> rfl
theorem pl_rD {z : Str} (hz : PyData.canLay0 (.str z) = true) (a b : Option Int) : Pl 0 (rD z a b) := by
  cases a <;> cases b <;> first | exact pl_none | exact pl_int _ | exact ⟨hz, Nat.le_refl _⟩
theorem pl_no {z : Str} (hz : PyData.canLay0 (.str z) = true) : Pl 0 (.str z) := ⟨hz, Nat.le_refl _⟩
theorem at_rD {z : Str} {x : Seq} {t p : Nat} : At x t p ↔ ¬ (rD z (x p) (x (p + t)) = .str z ∨ rD z (x p) (x (p + t)) ≠ rD z (x (p + t)) (x (p + 2 * t))) := by
  unfold At none? v
  cases x p <;> cases x (p + t) <;> cases x (p + 2 * t) <;> simp [rD]
  omega
theorem getD_mapN {α : Type} {g : Nat → Option α} {n i : Nat} (h : i < n) : ((List.range n).map g).getD i none = g i := Fm.getD_map h
theorem sub_rng {g : Nat → D} {n i : Nat} (h : i < n) : subD (.list ((List.range n).map g)) (.int (i : Nat)) = some (g i) := by
  show atI _ _ = _
  rw [Co.atI_nat, List.getElem?_map, List.getElem?_range h]
  rfl
theorem is_period_ok {b : Nat} {ns rs : List (Option Int)} (g : GF b ns rs) (hL : rs.length ≤ 1000) (hb : b ≤ 1000000) (t : Nat) (ht : t ≤ rs.length) (s : Dice) :
    m_is_period [.val (.list (ns.map oD)), .val (.int b), .val (.list (rs.map oD)), .val (.int t)] s = .ok (.bool ((List.range (2 * rs.length)).all fun i => decide (At (Fm.numAt b ns rs) t (b + i)))) s := by
  refine fn_ret ?_
  obtain ⟨x, hx⟩ : ∃ x, x = Fm.numAt b ns rs := ⟨_, rfl⟩
  rw [← hx]
  have m1 : binD .mul (.int 2) (.int (rs.length : Nat)) = some (.int (2 * (rs.length : Nat))) := bin_mul (mulOk_l (by decide) (by decide))
  have m2 : binD .mul (.int 2) (.int (t : Nat)) = some (.int (2 * (t : Nat))) := bin_mul (mulOk_l (by decide) (by decide))
  have num : ∀ p : Nat, p ≤ 1000000000000 → m_number_at [.val (.list (ns.map oD)), .val (.int b), .val (.list (rs.map oD)), .val (.int p)] s = .ok (oD (x p)) s := fun p hp => by
    rw [hx]; exact number_at_ok (.inl rfl) g hL p hp s
  have e1 : ev (fun j => ms_is_period[j]?) (.comp e_is_period_0 [5] (.one 5) (.rng (.cst (.int 0)) (.bin .add (.bin .mul (.cst (.int 2)) (.blt .len (.cons (.var 2) (.nil)))) (.bin .mul (.cst (.int 2)) (.var 3)))) (.non))
      [.val (.list (ns.map oD)), .val (.int b), .val (.list (rs.map oD)), .val (.int t), .no, .no, .no, .no] s = .ok (.list ((List.range (2 * rs.length + 2 * t)).map fun i => oD (x (b + i)))) s := by
    refine comp_all (lo := ((0 : Nat) : Int)) (evI_rngN (lo := 0) (n := 2 * rs.length + 2 * t) rfl (j := 2 * (rs.length : Nat) + 2 * (t : Nat)) ?_ ?_ (by omega)) (by omega) fun i hi => ?_
    · simp [m1, m2]
    · omega
    · have := num (b + i) (by omega)
      rw [Int.natCast_add] at this
      simp [itemS, e_is_period_0, ms_is_period, this]
  unfold c_is_period
  rw [xb_step (ρ' := [.val (.list (ns.map oD)), .val (.int b), .val (.list (rs.map oD)), .val (.int t), .val (.list ((List.range (2 * rs.length + 2 * t)).map fun i => oD (x (b + i)))), .no, .no, .no]) (s1 := s) (by
    show xs _ (.asg 4 _) [.val (.list (ns.map oD)), .val (.int b), .val (.list (rs.map oD)), .val (.int t), .no, .no, .no, .no] s = _
    rw [xs_asg, e1]
    simp)]
  have lp := for_all (f := stepF (fun j => ms_is_period[j]?) (.one 5) b_is_period_1) (P := fun ρ => ∃ y5 y6 y7, ρ = [.val (.list (ns.map oD)), .val (.int b), .val (.list (rs.map oD)), .val (.int t), .val (.list ((List.range (2 * rs.length + 2 * t)).map fun i => oD (x (b + i)))), y5, y6, y7])
    (q := fun i => decide (At x t (b + i))) (s := s) (d := .bool false) (n := 2 * rs.length) (m := 0) (lo := 0)
    (ρ := [.val (.list (ns.map oD)), .val (.int b), .val (.list (rs.map oD)), .val (.int t), .val (.list ((List.range (2 * rs.length + 2 * t)).map fun i => oD (x (b + i)))), .no, .no, .no]) (fun i hi ρ ⟨y5, y6, y7, e⟩ => by
      subst e
      have q1 := sub_rng (g := fun i => oD (x (b + i))) (n := 2 * rs.length + 2 * t) (i := i) (by omega)
      have q2 := sub_rng (g := fun i => oD (x (b + i))) (n := 2 * rs.length + 2 * t) (i := i + t) (by omega)
      have q3 := sub_rng (g := fun i => oD (x (b + i))) (n := 2 * rs.length + 2 * t) (i := i + 2 * t) (by omega)
      rw [Int.natCast_add] at q2 q3
      have c2 : ((2 * t : Nat) : Int) = 2 * (t : Int) := by omega
      rw [c2] at q3
      have r1 := rise_rD (x (b + i)) (x (b + i + t)) s
      have r2 := rise_rD (x (b + i + t)) (x (b + i + 2 * t)) s
      have a1 : b + (i + t) = b + i + t := by omega
      have a2 : b + (i + 2 * t) = b + i + 2 * t := by omega
      rw [a1] at q2
      rw [a2] at q3
      have hA := at_rD (z := "none") (x := x) (t := t) (p := b + i)
      rw [Nat.zero_add]
      obtain ⟨u1, hu1⟩ : ∃ u, u = rD "none" (x (b + i)) (x (b + i + t)) := ⟨_, rfl⟩
      obtain ⟨u2, hu2⟩ : ∃ u, u = rD "none" (x (b + i + t)) (x (b + i + 2 * t)) := ⟨_, rfl⟩
      have p1 : Pl 64 u1 := hu1 ▸ (pl_rD (by decide +kernel) _ _).mono (by decide)
      have p2 : Pl 64 u2 := hu2 ▸ (pl_rD (by decide +kernel) _ _).mono (by decide)
      have p0 : Pl 64 (.str "none") := (pl_no (by decide +kernel)).mono (by decide)
      rw [← hu1] at r1 hA
      rw [← hu2] at r2 hA
      by_cases h1 : u1 = .str "none"
      · have hA : ¬ At x t (b + i) := fun z => (hA.mp z) (.inl h1)
        have E1 : eqD u1 (.str "none") = some true := by rw [h1]; exact eqD_t p0
        simp [stepF, b_is_period_1, ms_is_period, m2, q1, q2, q3, r1, r2, E1, hA]
      · have E1 := eqD_f p1 p0 h1
        by_cases h2 : u1 = u2
        · have hA : At x t (b + i) := hA.mpr fun z => z.elim h1 fun w => w h2
          have E2 : eqD u1 u2 = some true := by rw [h2]; exact eqD_t p2
          simp [stepF, b_is_period_1, ms_is_period, m2, q1, q2, q3, r1, r2, E1, E2, hA]
        · have hA : ¬ At x t (b + i) := fun z => (hA.mp z) (.inr h2)
          have E2 := eqD_f p1 p2 h2
          simp [stepF, b_is_period_1, ms_is_period, m2, q1, q2, q3, r1, r2, E1, E2, hA]) ⟨_, _, _, rfl⟩
  have z0 : (List.range (2 * rs.length)).map (0 + ·) = List.range (2 * rs.length) := by
    rw [show ((0 + ·) : Nat → Nat) = id by funext z; exact Nat.zero_add z, List.map_id]
  rw [z0] at lp
  have e2 : evI (fun j => ms_is_period[j]?) (.rng (.cst (.int 0)) (.bin .mul (.cst (.int 2)) (.blt .len (.cons (.var 2) (.nil))))) [.val (.list (ns.map oD)), .val (.int b), .val (.list (rs.map oD)), .val (.int t), .val (.list ((List.range (2 * rs.length + 2 * t)).map fun i => oD (x (b + i)))), .no, .no, .no] s = .ok (rngD ((0 : Nat) : Int) (2 * rs.length)) s :=
    evI_rngN (lo := 0) (n := 2 * rs.length) rfl (j := 2 * (rs.length : Nat)) (by simp [m1]) (by omega) (by omega)
  by_cases hq : ((List.range (2 * rs.length)).all fun i => decide (At x t (b + i))) = true
  · rw [if_pos hq] at lp
    obtain ⟨ρ', l1, y5, y6, y7, rfl⟩ := lp
    rw [xb_step (ρ' := [.val (.list (ns.map oD)), .val (.int b), .val (.list (rs.map oD)), .val (.int t), .val (.list ((List.range (2 * rs.length + 2 * t)).map fun i => oD (x (b + i)))), y5, y6, y7]) (s1 := s) (by
      rw [xs_fors, e2]
      exact l1)]
    rw [hq]
    simp
  · rw [if_neg hq] at lp
    rw [xb_ret (d := .bool false) (s1 := s) (by
      rw [xs_fors, e2]
      exact lp)]
    have : ((List.range (2 * rs.length)).all fun i => decide (At x t (b + i))) = false := by simpa using hq
    rw [this]
end Pg

namespace Pg
open PySem PySem.Spec PyProof.Rows L2 Co Fm
theorem rD_riO {z : Str} {x : Seq} {t p : Nat} (h : At x t p) : rD z (x p) (x (p + t)) = oD (riO x t p) := by
  have h1 := h.1
  unfold none? at h1
  unfold riO
  cases h2 : x p <;> cases h3 : x (p + t) <;> first | rfl | (rw [h2, h3] at h1; cases h1)
theorem last_rng {g : Nat → D} {n : Nat} (h : 0 < n) : atI ((List.range n).map g) (-1) = some (g (n - 1)) := by
  unfold atI ixN
  rw [if_neg (by decide), if_pos (by simp; omega)]
  show ((List.range n).map g)[((-1 : Int) + (((List.range n).map g).length : Nat)).toNat]? = _
  have e : ((-1 : Int) + (((List.range n).map g).length : Nat)).toNat = n - 1 := by simp; omega
  rw [e, List.getElem?_map, List.getElem?_range (by omega)]
  rfl
theorem take_rng {α : Type} {g : Nat → α} {n k : Nat} (h : k ≤ n) : ((List.range n).map g).take k = (List.range k).map g := by
  rw [← List.map_take, List.take_range, Nat.min_eq_left h]
theorem cut_to {g : Nat → D} {n k : Nat} (h : k ≤ n) : cutD ((List.range n).map g) none (some (k : Int)) = (List.range k).map g := by
  unfold Co.cutD
  rw [HT.sIx_none, HT.sIx_nat, List.drop_zero, Nat.sub_zero, List.length_map, List.length_range, Nat.min_eq_left h, take_rng h]
theorem cut_last {g : Nat → D} {n : Nat} : cutD ((List.range n).map g) none (some (-1)) = (List.range (n - 1)).map g := by
  unfold Co.cutD
  have e : HT.sIx ((List.range n).map g).length ((List.range n).map g).length (some (-1)) = n - 1 := by
    show (if (-1 : Int) < 0 then ((-1 : Int) + ((((List.range n).map g).length : Nat) : Int)).toNat else min (-1 : Int).toNat ((List.range n).map g).length) = _
    rw [if_pos (by decide), List.length_map, List.length_range]
    omega
  rw [e, HT.sIx_none, List.drop_zero, Nat.sub_zero, take_rng (by omega)]
theorem rises_ok {g : Nat → Option Int} {n b t : Nat} (h : b + 2 * t ≤ n) (hn : n ≤ 1000000) (ht : t ≤ 100000) (s : Dice) :
    m_rises_from [.val (.list ((List.range n).map fun i => oD (g i))), .val (.int b), .val (.int t)] s = .ok (.list ((List.range t).map fun i => rD "none" (g (b + i)) (g (b + i + t)))) s := by
  refine fn_ret ?_
  have e1 : ev (fun j => ms_rises_from[j]?) (.comp e_rises_from_0 [3] (.one 3) (.rng (.var 1) (.bin .add (.var 1) (.var 2))) (.non))
      [.val (.list ((List.range n).map fun i => oD (g i))), .val (.int b), .val (.int t), .no] s = .ok (.list ((List.range t).map fun i => rD "none" (g (b + i)) (g (b + i + t)))) s := by
    refine comp_all (lo := ((b : Nat) : Int)) (evI_rngN (lo := b) (n := t) rfl (j := (b : Int) + t) (by simp) (by omega) (by omega)) ht fun i hi => ?_
    have q1 := sub_rng (g := fun i => oD (g i)) (n := n) (i := b + i) (by omega)
    have q2 := sub_rng (g := fun i => oD (g i)) (n := n) (i := b + i + t) (by omega)
    have r1 := rise_rD (g (b + i)) (g (b + i + t)) s
    rw [Int.natCast_add] at q1
    rw [Int.natCast_add, Int.natCast_add] at q2
    simp [itemS, e_rises_from_0, ms_rises_from, q1, q2, r1]
  show xb _ c_rises_from [.val (.list ((List.range n).map fun i => oD (g i))), .val (.int b), .val (.int t), .no] s = _
  unfold c_rises_from
  rw [xb_ret (d := .list ((List.range t).map fun i => rD "none" (g (b + i)) (g (b + i + t)))) (s1 := s) (by rw [xs_ret, e1]; rfl)]
def formD (b : Nat) (ns rs : List (Option Int)) : D := .tuple [.int b, .tuple (ns.map oD), .tuple (rs.map oD)]
/-- the form of the row x from f on by steps of s -/
def dueD (x : Seq) (f s : Nat) : D := formD f (dueN x f s) (dueR x f s)
theorem fuel_big : 10000 < FUEL := by unfold FUEL; decide
def canE (ns rs : List (Option Int)) (x : Seq) (b t c : Nat) : Co.Env := [.val (.list (ns.map oD)), .val (.int (c : Nat)), .val (.list (rs.map oD)), .val (.int (t : Nat)), .val (.list ((List.range (b + 2 * t)).map fun i => oD (x i))), .val (.list ((List.range t).map fun i => oD (riO x t (c + i)))), .no, .no]
theorem can_loop {ns rs : List (Option Int)} {x : Seq} {b t : Nat} (tp : 0 < t) (ht : t ≤ 1000) (s : Dice) : ∀ c, c ≤ b → Stp x c t → ∀ n, c < n → whlL (fun ρ s => ev (fun j => ms_canonical[j]?) (.and (.cmp .gt (.var 1) (.cst (.int 0))) (.cmp .eq (.call 3 (.cons (.sub (.var 4) (.bin .sub (.var 1) (.cst (.int 1)))) (.cons (.sub (.var 4) (.bin .add (.bin .sub (.var 1) (.cst (.int 1))) (.var 3))) (.nil)))) (.sub (.var 5) (.neg (.cst (.int 1)))))) ρ s) (fun ρ s => xb (fun j => ms_canonical[j]?) b_canonical_2 ρ s) n (canE ns rs x b t c) s = .nx (canE ns rs x b t (Fm.down x t c)) s := by
    intro c
    induction c with
    | zero =>
      intro _ _ n hn
      obtain ⟨n, rfl⟩ : ∃ m, n = m + 1 := ⟨n - 1, by omega⟩
      rw [whl_f (s1 := s) (by simp [canE])]
      rfl
    | succ c ih =>
      intro hc hs n hn
      obtain ⟨n, rfl⟩ : ∃ m, n = m + 1 := ⟨n - 1, by omega⟩
      have q1 := sub_rng (g := fun i => oD (x i)) (n := b + 2 * t) (i := c) (by omega)
      have q2 := sub_rng (g := fun i => oD (x i)) (n := b + 2 * t) (i := c + t) (by omega)
      rw [Int.natCast_add] at q2
      have q3 : subD (.list ((List.range t).map fun i => oD (riO x t (c + 1 + i)))) (.int (-1)) = some (oD (riO x t (c + t))) := by
        show atI _ _ = _
        rw [last_rng tp, show c + 1 + (t - 1) = c + t by omega]
      have r1 := rise_rD (x c) (x (c + t)) s
      have hA := at_rD (z := "none") (x := x) (t := t) (p := c)
      have up := hs (c + t) (by omega)
      have e6 : rD "none" (x (c + t)) (x (c + 2 * t)) = oD (riO x t (c + t)) := by
        have := rD_riO (z := "none") up
        rwa [show c + t + t = c + 2 * t by omega] at this
      have e7 : oD (riO x t (c + t)) ≠ .str "none" := by
        cases riO x t (c + t) <;> exact fun z => by cases z
      rw [e6] at hA
      have c3 : (c : Int) + 1 - 1 = c := by omega
      have c4 : (0 : Int) < (c : Int) + 1 := by omega
      have p1 : Pl 64 (rD "none" (x c) (x (c + t))) := (pl_rD (by decide +kernel) _ _).mono (by decide)
      have p2 : Pl 64 (oD (riO x t (c + t))) := (pl_oD _).mono (by decide)
      by_cases h : rD "none" (x c) (x (c + t)) = oD (riO x t (c + t))
      · have hA : At x t c := hA.mpr fun z => z.elim (fun z => e7 (h ▸ z)) fun z => z h
        have E : eqD (rD "none" (x c) (x (c + t))) (oD (riO x t (c + t))) = some true := by rw [h]; exact eqD_t p2
        have sl : slcD (.list ((List.range t).map fun i => oD (riO x t (c + 1 + i)))) none (some (-1)) = some (.list ((List.range (t - 1)).map fun i => oD (riO x t (c + 1 + i)))) := by
          show some (PyData.list (cutD _ _ _)) = _
          rw [cut_last]
        have ad : binD .add (.list [oD (riO x t (c + t))]) (.list ((List.range (t - 1)).map fun i => oD (riO x t (c + 1 + i)))) = some (.list ((List.range t).map fun i => oD (riO x t (c + i)))) := by
          show (if 1 + ((List.range (t - 1)).map fun i => oD (riO x t (c + 1 + i))).length ≤ sizeLine then some (PyData.list _) else none) = _
          rw [if_pos (by rw [List.length_map, List.length_range]; exact sz_le (by omega))]
          refine congrArg (fun z => some (PyData.list z)) ?_
          obtain ⟨u, rfl⟩ : ∃ u, t = u + 1 := ⟨t - 1, by omega⟩
          rw [List.range_succ_eq_map, List.map_cons, List.map_map]
          refine congr (congrArg List.cons ?_) ?_
          · exact h.symm.trans (rD_riO (z := "none") hA)
          · show (List.range u).map _ = _
            apply List.map_congr_left
            intro i _
            show oD (riO x (u + 1) (c + 1 + i)) = oD (riO x (u + 1) (c + (i + 1)))
            rw [show c + 1 + i = c + (i + 1) by omega]
        rw [whl_t (ρ' := canE ns rs x b t c) (s1 := s) (s' := s) (by simp [canE, c3, c4, q1, q2, q3, r1, E, ms_canonical]) (by simp [canE, b_canonical_2, c3, q3, sl, ad])]
        rw [ih (by omega) (fun p hp => by
          by_cases z : p = c
          · rw [z]; exact hA
          · exact hs p (by omega)) n (by omega)]
        have ed : Fm.down x t (c + 1) = Fm.down x t c := if_pos hA
        rw [ed]
      · have hA : ¬ At x t c := fun z => (hA.mp z) (.inr h)
        have E := eqD_f p1 p2 h
        rw [whl_f (s1 := s) (by simp [canE, c3, c4, q1, q2, q3, r1, E, ms_canonical])]
        have ed : Fm.down x t (c + 1) = c + 1 := if_neg hA
        rw [ed]
theorem canonical_ok {b : Nat} {ns rs : List (Option Int)} (g : GF b ns rs) (hL : rs.length ≤ 1000) (hb : b ≤ 10000) (s : Dice) :
    m_canonical [.val (.list (ns.map oD)), .val (.int b), .val (.list (rs.map oD))] s = .ok (dueD (Fm.numAt b ns rs) (canB (Fm.numAt b ns rs) b rs.length) (lst (Fm.numAt b ns rs) b rs.length)) s := by
  obtain ⟨x, hx⟩ : ∃ x, x = Fm.numAt b ns rs := ⟨_, rfl⟩
  have hst : Stp x b rs.length := by rw [hx]; exact form_stp g.pos
  have h0 := g.pos
  obtain ⟨ls, lle⟩ := lst_least hst h0
  have hmem := lst_mem hst h0
  have num : ∀ p : Nat, p ≤ 1000000000000 → m_number_at [.val (.list (ns.map oD)), .val (.int b), .val (.list (rs.map oD)), .val (.int p)] s = .ok (oD (x p)) s := fun p hp => by
    rw [hx]; exact number_at_ok (.inl rfl) g hL p hp s
  have per : ∀ t : Nat, t ≤ rs.length → m_is_period [.val (.list (ns.map oD)), .val (.int b), .val (.list (rs.map oD)), .val (.int t)] s = .ok (.bool ((List.range (2 * rs.length)).all fun i => decide (At x t (b + i)))) s := fun t ht => by
    rw [hx]; exact is_period_ok g hL (by omega) t ht s
  rw [← hx]
  refine fn_ret2 (ρ := [.val (.list (ns.map oD)), .val (.int b), .val (.list (rs.map oD)), .no, .no, .no, .no, .no]) rfl ?_
  have e1 : ev (fun j => ms_canonical[j]?) (.comp (.var 7) [7] (.one 7) (.rng (.cst (.int 1)) (.bin .add (.blt .len (.cons (.var 2) (.nil))) (.cst (.int 1)))) t_canonical_0)
      [.val (.list (ns.map oD)), .val (.int b), .val (.list (rs.map oD)), .no, .no, .no, .no, .no] s = .ok (.list (((List.range rs.length).filter fun i => okS x b rs.length (i + 1)).map fun i => .int ((1 : Int) + (i : Nat)))) s := by
    refine comp_flt (lo := ((1 : Nat) : Int)) (evI_rngN (lo := 1) (n := rs.length) rfl (j := (rs.length : Int) + 1) (by simp) (by omega) (by omega)) (by omega) fun i hi => ?_
    have p1 := per (1 + i) (by omega)
    rw [Int.natCast_add] at p1
    have c1 : ((1 : Nat) : Int) = 1 := rfl
    rw [c1] at p1 ⊢
    have m1 := bin_modN (a := rs.length) (b := 1 + i) (by omega)
    rw [Int.natCast_add, c1] at m1
    have a1 : i + 1 = 1 + i := by omega
    rw [a1]
    unfold Fm.okS
    by_cases h1 : rs.length % (1 + i) = 0
    · by_cases h2 : ((List.range (2 * rs.length)).all fun j => decide (At x (1 + i) (b + j))) = true
      · rw [h2] at p1
        have d1 : (decide (rs.length % (1 + i) = 0) && (List.range (2 * rs.length)).all fun j => decide (At x (1 + i) (b + j))) = true := by rw [h2, decide_eq_true h1]; rfl
        rw [if_pos d1]
        rw [h1] at m1
        simp [itemS, t_canonical_0, ms_canonical, m1, p1]
      · have h2 : ((List.range (2 * rs.length)).all fun j => decide (At x (1 + i) (b + j))) = false := by simpa using h2
        rw [h2] at p1
        have d1 : ¬ (decide (rs.length % (1 + i) = 0) && (List.range (2 * rs.length)).all fun j => decide (At x (1 + i) (b + j))) = true := by rw [h2, decide_eq_true h1]; decide
        rw [if_neg d1]
        rw [h1] at m1
        simp [itemS, t_canonical_0, ms_canonical, m1, p1]
    · have d1 : ¬ (decide (rs.length % (1 + i) = 0) && (List.range (2 * rs.length)).all fun j => decide (At x (1 + i) (b + j))) = true := by rw [decide_eq_false h1, Bool.false_and]; exact Bool.false_ne_true
      rw [if_neg d1]
      have h1' : ¬ ((rs.length % (1 + i) : Nat) : Int) = 0 := by omega
      generalize rs.length % (1 + i) = z at m1 h1'
      have h1'' : ¬ z = 0 := by omega
      simp [itemS, t_canonical_0, ms_canonical, m1, h1', h1'']
  obtain ⟨t, et⟩ : ∃ t, t = lst x b rs.length := ⟨_, rfl⟩
  rw [← et] at ls lle hmem
  have tp := ls.pos
  have e2 : subD (.list (((List.range rs.length).filter fun i => okS x b rs.length (i + 1)).map fun i => .int ((1 : Int) + (i : Nat)))) (.int 0) = some (.int (t : Nat)) := by
    rw [List.filter_map] at hmem
    show atI _ ((0 : Nat) : Int) = _
    rw [Co.atI_nat]
    have e0 : okS x b rs.length ∘ (fun i => i + 1) = fun i => okS x b rs.length (i + 1) := rfl
    rw [e0] at hmem
    cases hq : (List.range rs.length).filter fun i => okS x b rs.length (i + 1) with
    | nil => rw [hq] at hmem; cases hmem
    | cons a r =>
      rw [hq] at hmem
      have : a + 1 = t := Option.some.inj hmem
      show some (PyData.int ((1 : Int) + (a : Nat))) = _
      have e9 : (1 : Int) + (a : Nat) = (t : Nat) := by omega
      rw [e9]
  have m2 : binD .mul (.int 2) (.int (t : Nat)) = some (.int (2 * (t : Nat))) := bin_mul (mulOk_l (by decide) (by decide))
  unfold c_canonical
  rw [xb_step (ρ' := [.val (.list (ns.map oD)), .val (.int b), .val (.list (rs.map oD)), .val (.int (t : Nat)), .no, .no, .no, .no]) (s1 := s) (by
    rw [xs_asg, ev_sub, e1]
    simp [e2])]
  have e3 : ev (fun j => ms_canonical[j]?) (.comp e_canonical_1 [6] (.one 6) (.rng (.cst (.int 0)) (.bin .add (.var 1) (.bin .mul (.cst (.int 2)) (.var 3)))) (.non))
      [.val (.list (ns.map oD)), .val (.int b), .val (.list (rs.map oD)), .val (.int (t : Nat)), .no, .no, .no, .no] s = .ok (.list ((List.range (b + 2 * t)).map fun i => oD (x i))) s := by
    refine comp_all (lo := ((0 : Nat) : Int)) (evI_rngN (lo := 0) (n := b + 2 * t) rfl (j := (b : Int) + 2 * (t : Nat)) (by simp [m2]) (by omega) (by omega)) (by omega) fun i hi => ?_
    have := num i (by omega)
    simp [itemS, e_canonical_1, ms_canonical, this]
  rw [xb_step (ρ' := [.val (.list (ns.map oD)), .val (.int b), .val (.list (rs.map oD)), .val (.int (t : Nat)), .val (.list ((List.range (b + 2 * t)).map fun i => oD (x i))), .no, .no, .no]) (s1 := s) (by
    rw [xs_asg, e3]
    simp)]
  have e4 := rises_ok (g := x) (n := b + 2 * t) (b := b) (t := t) (Nat.le_refl _) (by omega) (by omega) s
  have e5 : ((List.range t).map fun i => rD "none" (x (b + i)) (x (b + i + t))) = (List.range t).map fun i => oD (riO x t (b + i)) := by
    apply List.map_congr_left
    intro i _
    exact rD_riO (ls.stp (b + i) (by omega))
  rw [e5] at e4
  rw [xb_step (ρ' := canE ns rs x b t b) (s1 := s) (by simp [ms_canonical, e4, canE])]
  have wh := can_loop (ns := ns) (rs := rs) (x := x) (b := b) tp (by omega)
  have w1 := wh s b (Nat.le_refl _) ls.stp FUEL (Nat.lt_of_le_of_lt hb fuel_big)
  rw [xb_step (ρ' := canE ns rs x b t (Fm.down x t b)) (s1 := s) (by rw [xs_whl]; exact w1)]
  have hf : Fm.down x t b ≤ b := down_le b
  have ef : canB x b rs.length = Fm.down x t b := by unfold canB; rw [← et]
  rw [ef, ← et]
  generalize Fm.down x t b = f at hf
  have sl : slcD (.list ((List.range (b + 2 * t)).map fun i => oD (x i))) none (some ((f : Int) + t)) = some (.list ((List.range (f + t)).map fun i => oD (x i))) := by
    show some (PyData.list (cutD _ _ _)) = _
    have := cut_to (g := fun i => oD (x i)) (n := b + 2 * t) (k := f + t) (by omega)
    rw [Int.natCast_add] at this
    rw [this]
  rw [xb_ret (d := .tuple [.int f, .tuple ((List.range (f + t)).map fun i => oD (x i)), .tuple ((List.range t).map fun i => oD (riO x t (f + i)))]) (s1 := s) (by simp [canE, sl])]
  unfold dueD formD dueN dueR
  rw [List.map_map, List.map_map]
  rfl
end Pg

namespace Co
open PySem PySem.Spec PyProof.Rows L2
theorem comp_map {α : Type} {f x : α → D} {g : D → Dice → Res (Option D)} {s : Dice} : ∀ {l : List α} {k : Nat}, (∀ a ∈ l, g (f a) s = .ok (some (x a)) s) → k + l.length ≤ sizeLine → compL (l.map f) g k s = .ok (l.map x) s
  | [], _, _, _ => rfl
  | a :: l, k, h, hz => by
    rw [List.length_cons] at hz
    rw [List.map_cons, compL_cons, h a (List.mem_cons_self ..)]
    show (if k < sizeLine then _ else _) = _
    rw [if_pos (by omega), comp_map (fun b hb => h b (List.mem_cons_of_mem _ hb)) (by omega)]
    rfl
theorem comp_enm {ds : List D} {x : Nat → D} {g : D → Dice → Res (Option D)} {s : Dice} : ∀ {l : List D} {m k : Nat}, (∀ i d, l[i]? = some d → g (.tuple [.int ((m + i : Nat) : Int), d]) s = .ok (some (x (m + i))) s) → k + l.length ≤ sizeLine →
    compL (enmD m l) g k s = .ok (((List.range l.length).map (m + ·)).map x) s
  | [], m, k, _, _ => rfl
  | d :: l, m, k, h, hz => by
    rw [List.length_cons] at hz
    have h0 := h 0 d rfl
    rw [Nat.add_zero] at h0
    show compL (.tuple [.int (m : Nat), d] :: enmD (m + 1) l) g k s = _
    rw [compL_cons, h0]
    show (if k < sizeLine then _ else _) = _
    rw [if_pos (by omega), comp_enm (ds := ds) (l := l) (m := m + 1) (fun i e he => by
      have := h (i + 1) e he
      rwa [show m + (i + 1) = m + 1 + i by omega] at this) (by omega), List.length_cons, List.range_succ_eq_map, List.map_cons, List.map_cons, List.map_map, List.map_map, Nat.add_zero]
    show Res.ok (x m :: _) s = Res.ok (x m :: _) s
    rw [List.map_map]
    have : (List.range l.length).map (x ∘ fun y => m + 1 + y) = (List.range l.length).map (x ∘ ((fun y => m + y) ∘ Nat.succ)) := by
      apply List.map_congr_left
      intro a _
      show x (m + 1 + a) = x (m + (a + 1))
      rw [show m + 1 + a = m + (a + 1) by omega]
    rw [this]
    rfl
theorem bools_map {α : Type} {q : α → Bool} : ∀ {l : List α}, boolsD (l.map fun a => .bool (q a)) = some (l.map q)
  | [] => rfl
  | a :: l => by
    show (boolsD (l.map fun a => .bool (q a))).map (q a :: ·) = _
    rw [bools_map]
    rfl
@[simp] theorem eqD_bool {a b : Bool} : eqD (.bool a) (.bool b) = some (a == b) := by
  cases a <;> cases b <;> rfl
section
variable {G : Gam} {ρ : Co.Env} {s : Dice} {a b : CE} {x y : Bool}
theorem orE (h : ev G a ρ s = .ok (.bool x) s) (g : ev G b ρ s = .ok (.bool y) s) : ev G (.or a b) ρ s = .ok (.bool (x || y)) s := by
  rw [ev_or, h, asBool_ok]
  cases x
  · rw [if_neg (by decide), g, asBool_ok]; rfl
  · rfl
theorem andE (h : ev G a ρ s = .ok (.bool x) s) (g : ev G b ρ s = .ok (.bool y) s) : ev G (.and a b) ρ s = .ok (.bool (x && y)) s := by
  rw [ev_and, h, asBool_ok]
  cases x
  · rfl
  · rw [if_pos rfl, g, asBool_ok]; rfl
theorem notE (h : ev G a ρ s = .ok (.bool x) s) : ev G (.not a) ρ s = .ok (.bool (!x)) s := by
  rw [ev_not, h, asBool_ok]
theorem allE {α : Type} {l : List α} {q : α → Bool} (h : ev G a ρ s = .ok (.list (l.map fun a => .bool (q a))) s) : ev G (.blt .all (.cons a .nil)) ρ s = .ok (.bool (l.all q)) s := by
  rw [ev_blt, evL_cons, h, Co.bind_ok, evL_nil, Co.bind_ok, Co.bind_ok, blt_all_l, bools_map]
  show Res.ok (PyData.bool ((l.map q).all id)) s = _
  rw [List.all_map]
  rfl
theorem anyE {α : Type} {l : List α} {q : α → Bool} (h : ev G a ρ s = .ok (.list (l.map fun a => .bool (q a))) s) : ev G (.blt .any (.cons a .nil)) ρ s = .ok (.bool (l.any q)) s := by
  rw [ev_blt, evL_cons, h, Co.bind_ok, evL_nil, Co.bind_ok, Co.bind_ok, blt_any_l, bools_map]
  show Res.ok (PyData.bool ((l.map q).any id)) s = _
  rw [List.any_map]
  rfl
theorem ifT {c b1 b2 : _} (h : ev G c ρ s = .ok (.bool true) s) : xs G (.ifs c b1 b2) ρ s = xb G b1 ρ s := by
  rw [xs_ifs, h, out_ok]
theorem ifF {c b1 b2 : _} (h : ev G c ρ s = .ok (.bool false) s) : xs G (.ifs c b1 b2) ρ s = xb G b2 ρ s := by
  rw [xs_ifs, h, out_ok]
end
end Co
namespace Pg
open PySem PySem.Spec PyProof.Rows L2 Co Fm
theorem is_whole_no {d : D} {lo hi : Int} (s : Dice) (h : isIntD d = some (.bool false)) : m_is_whole [.val d, .val (.int lo), .val (.int hi)] s = .ok (.bool false) s := by
  refine fn_ret2 (ρ := [.val d, .val (.int lo), .val (.int hi)]) rfl ?_
  have h : bltD .isInt [d] = some (.bool false) := h
  simp [c_is_whole, h]
/-- small enough -/
def sm (a : Option Int) : Prop := ∀ i, a = some i → -1000000000 ≤ i ∧ i ≤ 1000000000
theorem is_time_ok {a : Option Int} (h : sm a) (s : Dice) : m_is_time [.val (oD a)] s = .ok (.bool true) s := by
  refine fn_ret2 (ρ := [.val (oD a)]) rfl ?_
  have hp : binD .pow (.int 10) (.int 9) = some (.int 1000000000) := rfl
  cases a with
  | none => simp [c_is_time, oD]
  | some i =>
    obtain ⟨h1, h2⟩ := h i rfl
    have w := is_whole_ok i (-1000000000) 1000000000 s
    rw [decide_eq_true ⟨h1, h2⟩] at w
    simp [c_is_time, ms_is_time, oD, hp, w]
theorem pl_form (b : Nat) (ns rs : List (Option Int)) : Pl 64 (formD b ns rs) := by
  refine (pl_tup (n := 1) fun x hx => ?_).mono (by decide)
  simp only [List.mem_cons, List.not_mem_nil, or_false] at hx
  rcases hx with rfl | rfl | rfl
  · exact (pl_int _).mono (by decide)
  · refine pl_tup fun x hx => ?_
    obtain ⟨a, _, rfl⟩ := List.mem_map.mp hx
    exact pl_oD a
  · refine pl_tup fun x hx => ?_
    obtain ⟨a, _, rfl⟩ := List.mem_map.mp hx
    exact pl_oD a
theorem formD_inj {b c : Nat} {ns ms rs qs : List (Option Int)} : formD b ns rs = formD c ms qs ↔ b = c ∧ ns = ms ∧ rs = qs := by
  refine ⟨fun h => ?_, fun ⟨h1, h2, h3⟩ => by rw [h1, h2, h3]⟩
  unfold formD at h
  injection h with h
  injection h with h1 h
  injection h with h2 h
  injection h with h3 _
  injection h1 with h1
  injection h2 with h2
  injection h3 with h3
  exact ⟨by omega, map_oD_inj h2, map_oD_inj h3⟩
/-- a form of fair size -/
structure FF (b : Nat) (ns rs : List (Option Int)) : Prop where
  g : GF b ns rs
  l : rs.length ≤ 1000
  b : b ≤ 10000
  n : ∀ a ∈ ns, sm a
  r : ∀ a ∈ rs, sm a
theorem sub3_0 {x y z : D} : subD (.tuple [x, y, z]) (.int 0) = some x := rfl
theorem sub3_1 {x y z : D} : subD (.tuple [x, y, z]) (.int 1) = some y := rfl
theorem sub3_2 {x y z : D} : subD (.tuple [x, y, z]) (.int 2) = some z := rfl
theorem is_form_ok {b : Nat} {ns rs : List (Option Int)} (F : FF b ns rs) (s : Dice) :
    m_is_form [.val (formD b ns rs)] s = .ok (.bool (decide (lst (Fm.numAt b ns rs) b rs.length = rs.length ∧ canB (Fm.numAt b ns rs) b rs.length = b))) s := by
  obtain ⟨V, hV⟩ : ∃ V, V = formD b ns rs := ⟨_, rfl⟩
  have hp : binD .pow (.int 10) (.int 6) = some (.int 1000000) := rfl
  have Fb := F.b
  have Fl := F.l
  have gl := F.g.len
  have w := is_whole_ok b 0 1000000 s
  rw [decide_eq_true ⟨by omega, by omega⟩] at w
  have t1 : bltD .isTuple [V] = some (.bool true) := by rw [hV]; rfl
  have t2 : bltD .len [V] = some (.int 3) := by rw [hV]; rfl
  have t3 : subD V (.int 0) = some (.int b) := by rw [hV]; rfl
  have pn : eqD (.tuple (rs.map oD)) (.tuple []) = some false := by
    refine eqD_f ((pl_tup (n := 0) fun x hx => ?_).mono (by decide)) ((pl_tup (n := 0) fun x hx => by cases hx).mono (by decide)) fun z => ?_
    · obtain ⟨a, _, rfl⟩ := List.mem_map.mp hx
      exact pl_oD a
    · have := F.g.pos
      injection z with z
      rw [List.map_eq_nil_iff] at z
      rw [z] at this
      exact absurd this (by decide)
  have ad : binD .add (.tuple (ns.map oD)) (.tuple (rs.map oD)) = some (.tuple ((ns ++ rs).map oD)) := by
    show (if _ then some (PyData.tuple _) else none) = _
    rw [if_pos (by rw [List.length_map, List.length_map]; exact sz_le (by omega)), List.map_append]
  have cn := canonical_ok F.g F.l F.b s
  rw [← hV]
  refine fn_ret2 (ρ := [.val V, .no, .no, .no, .no, .no]) rfl ?_
  unfold c_is_form
  rw [xb_step (ρ' := [.val V, .no, .no, .no, .no, .no]) (s1 := s) (by simp [ms_is_form, t1, t2, t3, hp, w])]
  rw [xb_step (ρ' := [.val V, .val (.int b), .val (.tuple (ns.map oD)), .val (.tuple (rs.map oD)), .no, .no]) (s1 := s) (by rw [hV]; simp [formD])]
  rw [xb_step (ρ' := [.val V, .val (.int b), .val (.tuple (ns.map oD)), .val (.tuple (rs.map oD)), .no, .no]) (s1 := s) (by simp [pn])]
  have c1 : ev (fun j => ms_is_form[j]?) (.comp e_is_form_0 [5] (.one 5) (.seq (.bin .add (.var 2) (.var 3))) (.non)) [.val V, .val (.int b), .val (.tuple (ns.map oD)), .val (.tuple (rs.map oD)), .no, .no] s = .ok (.list ((ns ++ rs).map fun _ => .bool true)) s := by
    rw [ev_comp]
    have e1 : evI (fun j => ms_is_form[j]?) (.seq (.bin .add (.var 2) (.var 3))) [.val V, .val (.int b), .val (.tuple (ns.map oD)), .val (.tuple (rs.map oD)), .no, .no] s = .ok ((ns ++ rs).map oD) s := by simp [ad, -List.map_append]
    rw [e1, Co.bind_ok, Co.comp_map (x := fun _ => PyData.bool true) (fun a ha => ?_) (by rw [List.length_append]; exact sz_le (by omega))]
    · rfl
    · have := is_time_ok (a := a) ((List.mem_append.mp ha).elim (F.n a) (F.r a)) s
      simp [itemS, e_is_form_0, ms_is_form, this]
  have c2 : ev (fun j => ms_is_form[j]?) (.blt .all (.cons (.comp e_is_form_0 [5] (.one 5) (.seq (.bin .add (.var 2) (.var 3))) (.non)) (.nil))) [.val V, .val (.int b), .val (.tuple (ns.map oD)), .val (.tuple (rs.map oD)), .no, .no] s = .ok (.bool true) s := by
    have := allE (q := fun _ => true) c1
    rw [this]
    simp
  have ln : (ns.length : Int) = (b : Int) + rs.length := by omega
  rw [xb_step (ρ' := [.val V, .val (.int b), .val (.tuple (ns.map oD)), .val (.tuple (rs.map oD)), .no, .no]) (s1 := s) (by
    rw [ifF (orE (x := false) (y := !true) (by simp [ln]) (notE c2))]
    rfl)]
  have c3 : ev (fun j => ms_is_form[j]?) (.comp e_is_form_1 [4, 5] (.tup (.cons (.one 4) (.cons (.one 5) (.nil)))) (.enm (.var 3)) (.non)) [.val V, .val (.int b), .val (.tuple (ns.map oD)), .val (.tuple (rs.map oD)), .no, .no] s = .ok (.list ((List.range rs.length).map fun _ => .bool false)) s := by
    rw [ev_comp]
    have e1 : evI (fun j => ms_is_form[j]?) (.enm (.var 3)) [.val V, .val (.int b), .val (.tuple (ns.map oD)), .val (.tuple (rs.map oD)), .no, .no] s = .ok (enmD 0 (rs.map oD)) s := by simp
    rw [e1, Co.bind_ok, comp_enm (ds := []) (x := fun _ => .bool false) (fun i d hd => ?_) (by rw [List.length_map]; exact sz_le (by omega)), List.length_map, List.map_map]
    · rfl
    · rw [List.getElem?_map] at hd
      have hi : i < rs.length := by
        rcases Nat.lt_or_ge i rs.length with q | q
        · exact q
        · rw [List.getElem?_eq_none q] at hd; cases hd
      have q1 : subD (.tuple (ns.map oD)) (.int ((b : Int) + i)) = some (oD (ns.getD (b + i) none)) := by
        have := atI_oD (xs := ns) (i := b + i) (by omega)
        rw [Int.natCast_add] at this
        exact this
      have nn := F.g.nn i hi
      have er : rs.getD i none = rs[i] := by rw [List.getD_eq_getElem?_getD, List.getElem?_eq_getElem hi]; rfl
      rw [List.getElem?_eq_getElem hi] at hd
      have hd : d = oD (rs.getD i none) := by rw [er]; exact (Option.some.inj hd).symm
      subst hd
      rw [Nat.zero_add]
      cases h1 : ns.getD (b + i) none <;> cases h2 : rs.getD i none
      · rw [h1] at q1
        have q1 : subD (.tuple (ns.map oD)) (.int ((b : Int) + i)) = some .none := q1
        simp [itemS, e_is_form_1, q1, oD]
      · rw [h1, h2] at nn; cases nn
      · rw [h1, h2] at nn; cases nn
      · rename_i u v
        rw [h1] at q1
        have q1 : subD (.tuple (ns.map oD)) (.int ((b : Int) + i)) = some (.int u) := q1
        simp [itemS, e_is_form_1, q1, oD]
  have c4 : ev (fun j => ms_is_form[j]?) (.blt .any (.cons (.comp e_is_form_1 [4, 5] (.tup (.cons (.one 4) (.cons (.one 5) (.nil)))) (.enm (.var 3)) (.non)) (.nil))) [.val V, .val (.int b), .val (.tuple (ns.map oD)), .val (.tuple (rs.map oD)), .no, .no] s = .ok (.bool false) s := by
    have := anyE (q := fun _ => false) c3
    rw [this]
    simp
  rw [xb_step (ρ' := [.val V, .val (.int b), .val (.tuple (ns.map oD)), .val (.tuple (rs.map oD)), .no, .no]) (s1 := s) (by
    rw [ifF c4]
    rfl)]
  have li : ∀ xs : List (Option Int), bltD .list [.tuple (xs.map oD)] = some (.list (xs.map oD)) := fun _ => rfl
  have fin : eqD (dueD (Fm.numAt b ns rs) (canB (Fm.numAt b ns rs) b rs.length) (lst (Fm.numAt b ns rs) b rs.length)) V = some (decide (lst (Fm.numAt b ns rs) b rs.length = rs.length ∧ canB (Fm.numAt b ns rs) b rs.length = b)) := by
    rw [hV]
    refine eqD_dec (pl_form ..) (pl_form ..) ?_
    unfold dueD
    rw [formD_inj]
    exact can_iff F.g
  rw [xb_ret (d := .bool (decide (lst (Fm.numAt b ns rs) b rs.length = rs.length ∧ canB (Fm.numAt b ns rs) b rs.length = b))) (s1 := s) (by
    rw [xs_ret, ev_cmp, ev_call]
    simp only [evA_blt, evA_var, ev_blt, evL_cons, evL_nil, ev_var, getV_0, getV_s, opt_some, Co.bind_ok, li, evA_nil]
    show ((((m_canonical [.val (.list (ns.map oD)), .val (.int b), .val (.list (rs.map oD))] s)).bind fun x s1 => _).out fun d s1 => _) = _
    rw [cn]
    simp only [Co.bind_ok, cmp_eq, fin, Option.map_some, opt_some, out_ok])]
/-- its own row's form is a form -/
theorem is_form_due {x : Seq} {f t : Nat} (l : LeastS x f t) (hf : ∀ c, f = c + 1 → ¬ At x t c) (h1 : t ≤ 1000) (h2 : f ≤ 10000) (hn : ∀ a ∈ dueN x f t, sm a) (hr : ∀ a ∈ dueR x f t, sm a) (s : Dice) : m_is_form [.val (dueD x f t)] s = .ok (.bool true) s := by
  have g := due_gf l.stp l.pos
  have er : (dueR x f t).length = t := by simp [dueR]
  have ex : Fm.numAt f (dueN x f t) (dueR x f t) = x := funext fun p => due_num l.stp l.pos p
  have := is_form_ok (b := f) (ns := dueN x f t) (rs := dueR x f t) ⟨g, by omega, h2, hn, hr⟩ s
  unfold dueD
  rw [this, ex, er]
  obtain ⟨ls, le⟩ := lst_least l.stp l.pos
  have e1 := ls.uniq l
  have e2 : canB x f t = f := by
    unfold canB
    rw [e1]
    exact down_self hf
  rw [decide_eq_true ⟨e1, e2⟩]
theorem number_ok {b : Nat} {ns rs : List (Option Int)} (F : FF b ns rs) {s : Dice} (hf : m_is_form [.val (formD b ns rs)] s = .ok (.bool true) s) (p : Nat) (hp : p ≤ 1000000000) : m_number [.val (formD b ns rs), .val (.int p)] s = .ok (oD (Fm.numAt b ns rs p)) s := by
  obtain ⟨V, hV⟩ : ∃ V, V = formD b ns rs := ⟨_, rfl⟩
  have t0 : subD V (.int 0) = some (.int b) := by rw [hV]; rfl
  have t1 : subD V (.int 1) = some (.tuple (ns.map oD)) := by rw [hV]; rfl
  have t2 : subD V (.int 2) = some (.tuple (rs.map oD)) := by rw [hV]; rfl
  rw [← hV] at hf ⊢
  have nf : m_need_form [.val V] s = .ok .none s := by
    unfold m_need_form
    refine fn_nx (ρ' := [.val V]) ?_
    show xb _ _ [.val V] s = _
    simp [c_need_form, ms_need_form, hf]
  have na := number_at_ok (w := .tuple) (.inr rfl) F.g F.l p (by omega) s
  have vo : m_value_of [.val V, .val (.int p)] s = .ok (oD (Fm.numAt b ns rs p)) s := by
    refine fn_ret2 (ρ := [.val V, .val (.int p)]) rfl ?_
    simp [c_value_of, ms_value_of, t0, t1, t2, na]
  have hpw : binD .pow (.int 10) (.int 9) = some (.int 1000000000) := rfl
  have w := is_whole_ok p 0 1000000000 s
  rw [decide_eq_true ⟨by omega, by omega⟩] at w
  refine fn_ret2 (ρ := [.val V, .val (.int p)]) rfl ?_
  simp [c_number, ms_number, nf, vo, hpw, w]
end Pg

/-! Nets, ways, rings: plain. -/
namespace Nt
inductive Src where
  | s
  | u (k : Nat)
  | e (k : Nat)
  deriving DecidableEq
def Src.ev : Src → Option Nat
  | .e k => some k
  | _ => none
structure Arc where
  src : Src
  dl : Int
  bk : Int
  deriving DecidableEq
abbrev Row := List Arc
structure Net where
  ins : Nat
  rows : List Row
  outs : List Nat
abbrev Way := List (Nat × Nat)
/-- the events that the arcs lead from -/
abbrev Gr := List (List (Option Nat))
def evs (rows : List Row) : Gr := rows.map fun r => r.map fun a => a.src.ev
def gat (g : Gr) (e p : Nat) : Option Nat := ((g[e]?).bind (·[p]?)).bind id

/-! ### ways that go on -/
def immL (first : Nat) (it : Nat × Way) : Nat → List (Option Nat) → List Way
  | _, [] => []
  | p, o :: r => if o = some first then (it.2 ++ [(it.1, p)]) :: immL first it (p + 1) r else immL first it (p + 1) r
def kidsL (first : Nat) (it : Nat × Way) : Nat → List (Option Nat) → List (Nat × Way)
  | _, [] => []
  | p, o :: r => match o with
    | none => kidsL first it (p + 1) r
    | some v => if v ≠ first ∧ first < v ∧ v ∉ it.2.map (·.1) ∧ v ≠ it.1 then (v, it.2 ++ [(it.1, p)]) :: kidsL first it (p + 1) r else kidsL first it (p + 1) r
def gr (g : Gr) (e : Nat) : List (Option Nat) := g.getD e []
def imm (g : Gr) (first : Nat) (it : Nat × Way) : List Way := immL first it 0 (gr g it.1)
def kids (g : Gr) (first : Nat) (it : Nat × Way) : List (Nat × Way) := kidsL first it 0 (gr g it.1)
def ext (g : Gr) (first : Nat) : Nat → Nat × Way → List Way
  | 0, _ => []
  | f + 1, it => imm g first it ++ (kids g first it).flatMap (ext g first f)
def tsz (g : Gr) (first : Nat) : Nat → Nat × Way → Nat
  | 0, _ => 0
  | f + 1, it => 1 + ((kids g first it).map (tsz g first f)).sum

/-- an item that may stand on the pile -/
structure OkIt (g : Gr) (first : Nat) (it : Nat × Way) : Prop where
  lt : it.1 < g.length
  wlt : ∀ x ∈ it.2, x.1 < g.length
  nd : (it.2.map (·.1) ++ [it.1]).Nodup
def OkG (g : Gr) : Prop := ∀ r ∈ g, ∀ o ∈ r, ∀ v, o = some v → v < g.length

theorem nodup_bound : ∀ (n : Nat) (l : List Nat), l.Nodup → (∀ x ∈ l, x < n) → l.length ≤ n
  | 0, l, _, h => by
    cases l with
    | nil => simp
    | cons a l => exact absurd (h a (List.mem_cons_self ..)) (by omega)
  | n + 1, l, nd, h => by
    have h1 : (l.erase n).length ≤ n := nodup_bound n (l.erase n) (nd.erase n) (fun x hx => by
      have := h x (List.mem_of_mem_erase hx)
      have hne : x ≠ n := fun e => by
        subst e
        exact (List.Nodup.not_mem_erase nd) hx
      omega)
    have h2 : l.length ≤ (l.erase n).length + 1 := by
      rw [List.length_erase]
      split <;> omega
    omega
theorem OkIt.len {g : Gr} {first : Nat} {it : Nat × Way} (h : OkIt g first it) : it.2.length + 1 ≤ g.length := by
  have := nodup_bound g.length _ h.nd (fun x hx => by
    rcases List.mem_append.mp hx with hx | hx
    · obtain ⟨y, hy, rfl⟩ := List.mem_map.mp hx
      exact h.wlt y hy
    · rw [List.mem_singleton.mp hx]; exact h.lt)
  simpa using this

theorem mem_immL {first : Nat} {it : Nat × Way} {w : Way} : ∀ {p : Nat} {os : List (Option Nat)}, w ∈ immL first it p os → ∃ i : Nat, os[i]? = some (some first) ∧ w = it.2 ++ [(it.1, p + i)]
  | _, [], h => by simp [immL] at h
  | p, o :: r, h => by
    unfold immL at h
    split at h
    · rename_i ho
      rcases List.mem_cons.mp h with h | h
      · exact ⟨0, by simp [ho], by simpa using h⟩
      · obtain ⟨i, e1, e2⟩ := mem_immL h
        exact ⟨i + 1, by simpa using e1, by rw [e2]; congr 3; omega⟩
    · obtain ⟨i, e1, e2⟩ := mem_immL h
      exact ⟨i + 1, by simpa using e1, by rw [e2]; congr 3; omega⟩
theorem immL_mem {first : Nat} {it : Nat × Way} : ∀ {p : Nat} {os : List (Option Nat)} {i : Nat}, os[i]? = some (some first) → (it.2 ++ [(it.1, p + i)]) ∈ immL first it p os
  | _, [], i, h => by simp at h
  | p, o :: r, 0, h => by
    simp at h
    unfold immL
    simp [h]
  | p, o :: r, i + 1, h => by
    have h' : r[i]? = some (some first) := by simpa using h
    have := immL_mem (it := it) (p := p + 1) h'
    have e : p + 1 + i = p + (i + 1) := by omega
    rw [e] at this
    unfold immL
    split
    · exact List.mem_cons_of_mem _ this
    · exact this
theorem mem_kidsL {first : Nat} {it k : Nat × Way} : ∀ {p : Nat} {os : List (Option Nat)}, k ∈ kidsL first it p os → ∃ (i v : Nat), os[i]? = some (some v) ∧ k = (v, it.2 ++ [(it.1, p + i)]) ∧ v ≠ first ∧ first < v ∧ v ∉ it.2.map (·.1) ∧ v ≠ it.1
  | _, [], h => by simp [kidsL] at h
  | p, o :: r, h => by
    have step : k ∈ kidsL first it (p + 1) r → ∃ (i v : Nat), (o :: r)[i]? = some (some v) ∧ k = (v, it.2 ++ [(it.1, p + i)]) ∧ v ≠ first ∧ first < v ∧ v ∉ it.2.map (·.1) ∧ v ≠ it.1 := fun h => by
      obtain ⟨i, v, e1, e2, e3⟩ := mem_kidsL h
      exact ⟨i + 1, v, by simpa using e1, by rw [e2]; congr 4; omega, e3⟩
    unfold kidsL at h
    cases o with
    | none => exact step h
    | some v =>
      dsimp only at h
      split at h
      · rename_i hc
        rcases List.mem_cons.mp h with h | h
        · exact ⟨0, v, by simp, by simpa using h, hc⟩
        · exact step h
      · exact step h
theorem kidsL_mem {first : Nat} {it : Nat × Way} : ∀ {p : Nat} {os : List (Option Nat)} {i v : Nat}, os[i]? = some (some v) → v ≠ first ∧ first < v ∧ v ∉ it.2.map (·.1) ∧ v ≠ it.1 → (v, it.2 ++ [(it.1, p + i)]) ∈ kidsL first it p os
  | _, [], i, v, h, _ => by simp at h
  | p, o :: r, 0, v, h, hc => by
    simp at h
    subst h
    unfold kidsL
    dsimp only
    rw [if_pos hc]
    exact List.mem_cons_self ..
  | p, o :: r, i + 1, v, h, hc => by
    have h' : r[i]? = some (some v) := by simpa using h
    have := kidsL_mem (it := it) (p := p + 1) h' hc
    have e : p + 1 + i = p + (i + 1) := by omega
    rw [e] at this
    unfold kidsL
    cases o with
    | none => exact this
    | some z =>
      dsimp only
      split
      · exact List.mem_cons_of_mem _ this
      · exact this
theorem gr_get {g : Gr} {e : Nat} {i : Nat} {o : Option Nat} (h : (gr g e)[i]? = some o) : ∃ r ∈ g, o ∈ r := by
  unfold gr at h
  cases q : g[e]? with
  | none => simp [List.getD, q] at h
  | some r =>
    simp [List.getD, q] at h
    exact ⟨r, List.mem_of_getElem? q, List.mem_of_getElem? h⟩
theorem gat_gr {g : Gr} {e i v : Nat} : gat g e i = some v ↔ (gr g e)[i]? = some (some v) := by
  unfold gat gr
  cases q : g[e]? with
  | none => simp [List.getD, q]
  | some r =>
    simp only [List.getD, q, Option.bind_some, Option.getD_some]
    cases q2 : r[i]? with
    | none => simp
    | some o => cases o <;> simp
theorem OkIt.kid {g : Gr} {first : Nat} {it k : Nat × Way} (hg : OkG g) (h : OkIt g first it) (hk : k ∈ kids g first it) : OkIt g first k ∧ k.2.length = it.2.length + 1 := by
  obtain ⟨i, v, e1, rfl, h1, h2, h3, h4⟩ := mem_kidsL hk
  obtain ⟨r, hr, ho⟩ := gr_get e1
  have hv := hg r hr _ ho v rfl
  refine ⟨⟨hv, fun x hx => ?_, ?_⟩, by simp⟩
  · rcases List.mem_append.mp hx with hx | hx
    · exact h.wlt x hx
    · rw [List.mem_singleton.mp hx]; exact h.lt
  · simp only [List.map_append, List.map_cons, List.map_nil]
    rw [List.nodup_append]
    refine ⟨h.nd, by simp, fun a ha b hb => ?_⟩
    rw [List.mem_singleton.mp hb]
    rintro rfl
    rcases List.mem_append.mp ha with ha | ha
    · exact h3 ha
    · exact h4 (List.mem_singleton.mp ha)
/-- what comes of an item -/
def E (g : Gr) (first : Nat) (it : Nat × Way) : List Way := ext g first (g.length - it.2.length) it
def Sz (g : Gr) (first : Nat) (it : Nat × Way) : Nat := tsz g first (g.length - it.2.length) it
theorem flatMap_congr' {α β : Type} {f h : α → List β} : ∀ {l : List α}, (∀ x ∈ l, f x = h x) → l.flatMap f = l.flatMap h
  | [], _ => rfl
  | a :: l, e => by
    rw [List.flatMap_cons, List.flatMap_cons, e a (List.mem_cons_self ..), flatMap_congr' fun x hx => e x (List.mem_cons_of_mem _ hx)]
theorem E_step {g : Gr} {first : Nat} {it : Nat × Way} (hg : OkG g) (h : OkIt g first it) : E g first it = imm g first it ++ (kids g first it).flatMap (E g first) := by
  have hl := h.len
  obtain ⟨m, hm⟩ : ∃ m, g.length - it.2.length = m + 1 := ⟨g.length - it.2.length - 1, by omega⟩
  unfold E
  rw [hm]
  show imm g first it ++ (kids g first it).flatMap (ext g first m) = _
  congr 1
  refine flatMap_congr' fun k hk => ?_
  have := (h.kid hg hk).2
  have e : g.length - k.2.length = m := by omega
  rw [e]
theorem Sz_step {g : Gr} {first : Nat} {it : Nat × Way} (hg : OkG g) (h : OkIt g first it) : Sz g first it = 1 + ((kids g first it).map (Sz g first)).sum := by
  have hl := h.len
  obtain ⟨m, hm⟩ : ∃ m, g.length - it.2.length = m + 1 := ⟨g.length - it.2.length - 1, by omega⟩
  unfold Sz
  rw [hm]
  show 1 + ((kids g first it).map (tsz g first m)).sum = _
  congr 2
  refine List.map_congr_left fun k hk => ?_
  have := (h.kid hg hk).2
  have e : g.length - k.2.length = m := by omega
  rw [e]
theorem kidsL_len {first : Nat} {it : Nat × Way} : ∀ {p : Nat} {os : List (Option Nat)}, (kidsL first it p os).length ≤ os.length
  | _, [] => by simp [kidsL]
  | p, o :: r => by
    have ih := kidsL_len (first := first) (it := it) (p := p + 1) (os := r)
    unfold kidsL
    cases o with
    | none => simp; omega
    | some v =>
      dsimp only
      split <;> simp <;> omega
theorem immL_len {first : Nat} {it : Nat × Way} : ∀ {p : Nat} {os : List (Option Nat)}, (immL first it p os).length ≤ os.length
  | _, [] => by simp [immL]
  | p, o :: r => by
    have ih := immL_len (first := first) (it := it) (p := p + 1) (os := r)
    unfold immL
    split <;> simp <;> omega
theorem gr_len {g : Gr} {b : Nat} (hb : ∀ r ∈ g, r.length ≤ b) (e : Nat) : (gr g e).length ≤ b := by
  unfold gr
  cases q : g[e]? with
  | none => simp [List.getD, q]
  | some r => simp [List.getD, q]; exact hb r (List.mem_of_getElem? q)
theorem sum_le {α : Type} {f : α → Nat} {c : Nat} : ∀ {l : List α}, (∀ x ∈ l, f x ≤ c) → (l.map f).sum ≤ l.length * c
  | [], _ => by simp
  | a :: l, h => by
    have h1 := h a (List.mem_cons_self ..)
    have h2 := sum_le fun x hx => h x (List.mem_cons_of_mem a hx)
    rw [List.map_cons, List.sum_cons, List.length_cons, Nat.succ_mul]
    omega
/-- the greatest size of a tree -/
def tb (b : Nat) : Nat → Nat
  | 0 => 0
  | f + 1 => 1 + b * tb b f
theorem tsz_le {g : Gr} {first b : Nat} (hb : ∀ r ∈ g, r.length ≤ b) : ∀ (f : Nat) (it : Nat × Way), tsz g first f it ≤ tb b f
  | 0, _ => Nat.le_refl _
  | f + 1, it => by
    have h1 : ((kids g first it).map (tsz g first f)).sum ≤ (kids g first it).length * tb b f := sum_le fun k _ => tsz_le hb f k
    have h2 : (kids g first it).length ≤ b := Nat.le_trans kidsL_len (gr_len hb _)
    have h3 := Nat.mul_le_mul_right (tb b f) h2
    show 1 + _ ≤ 1 + b * tb b f
    omega
theorem tb_mono {b : Nat} : ∀ {n m : Nat}, n ≤ m → tb b n ≤ tb b m
  | 0, _, _ => Nat.zero_le _
  | n + 1, 0, h => absurd h (by omega)
  | n + 1, m + 1, h => by
    show 1 + b * tb b n ≤ 1 + b * tb b m
    have := Nat.mul_le_mul_left b (tb_mono (b := b) (Nat.le_of_succ_le_succ h))
    omega
theorem Sz_le {g : Gr} {first b : Nat} (hb : ∀ r ∈ g, r.length ≤ b) (it : Nat × Way) : Sz g first it ≤ tb b g.length := Nat.le_trans (tsz_le hb _ _) (tb_mono (Nat.sub_le ..))

/-! ### the rings of a graph -/
def ringsFrom (g : Gr) (first : Nat) : List Way := E g first (first, [])
def ringsAll (g : Gr) : List Way := (List.range g.length).flatMap (ringsFrom g)
theorem OkIt.start {g : Gr} {first : Nat} (h : first < g.length) : OkIt g first (first, []) := ⟨h, fun x hx => (by cases hx), by simp⟩
/-- a chain of arcs from an event to another -/
inductive Ch (g : Gr) : Nat → Way → Nat → Prop where
  | nil (a : Nat) : Ch g a [] a
  | snoc {a e p v : Nat} {w : Way} (h : Ch g a w e) (k : gat g e p = some v) : Ch g a (w ++ [(e, p)]) v
theorem ext_chain {g : Gr} {first : Nat} : ∀ (f : Nat) (it : Nat × Way), Ch g first it.2 it.1 → ∀ w ∈ ext g first f it, w ≠ [] ∧ Ch g first w first
  | 0, _, _, w, h => by cases h
  | f + 1, it, c, w, h => by
    rcases List.mem_append.mp (show w ∈ imm g first it ++ (kids g first it).flatMap (ext g first f) from h) with h | h
    · obtain ⟨i, e1, rfl⟩ := mem_immL h
      refine ⟨by simp, .snoc c (gat_gr.mpr ?_)⟩
      simpa using e1
    · obtain ⟨k, hk, hw⟩ := List.mem_flatMap.mp h
      obtain ⟨i, v, e1, rfl, _⟩ := mem_kidsL hk
      refine ext_chain f _ (.snoc c (gat_gr.mpr ?_)) w hw
      simpa using e1
theorem rings_chain {g : Gr} {w : Way} (h : w ∈ ringsAll g) : ∃ first, first < g.length ∧ w ≠ [] ∧ Ch g first w first := by
  obtain ⟨first, h1, h2⟩ := List.mem_flatMap.mp h
  exact ⟨first, List.mem_range.mp h1, ext_chain _ _ (.nil _) w h2⟩
/-- a graph with more arcs behind those of another one -/
def LeG (g g' : Gr) : Prop := g.length = g'.length ∧ ∀ e i v, gat g e i = some v → gat g' e i = some v
theorem ext_mono {g g' : Gr} {first : Nat} (hl : LeG g g') : ∀ (f : Nat) (it : Nat × Way), ∀ w ∈ ext g first f it, w ∈ ext g' first f it
  | 0, _, w, h => by cases h
  | f + 1, it, w, h => by
    refine List.mem_append.mpr ?_
    rcases List.mem_append.mp (show w ∈ imm g first it ++ (kids g first it).flatMap (ext g first f) from h) with h | h
    · obtain ⟨i, e1, rfl⟩ := mem_immL h
      exact .inl (immL_mem (gat_gr.mp (hl.2 _ _ _ (gat_gr.mpr e1))))
    · obtain ⟨k, hk, hw⟩ := List.mem_flatMap.mp h
      obtain ⟨i, v, e1, rfl, hc⟩ := mem_kidsL hk
      exact .inr (List.mem_flatMap.mpr ⟨_, kidsL_mem (gat_gr.mp (hl.2 _ _ _ (gat_gr.mpr e1))) hc, ext_mono hl f _ w hw⟩)
theorem rings_mono {g g' : Gr} (hl : LeG g g') {w : Way} (h : w ∈ ringsAll g) : w ∈ ringsAll g' := by
  obtain ⟨first, h1, h2⟩ := List.mem_flatMap.mp h
  refine List.mem_flatMap.mpr ⟨first, by rw [← hl.1]; exact h1, ?_⟩
  unfold ringsFrom E at h2 ⊢
  rw [← hl.1]
  exact ext_mono hl _ _ w h2
end Nt

/-! Rings: piles, levels, sums. -/
namespace Nt
theorem perm_comm3 {α : Type} (a b c : List α) : (a ++ b ++ c).Perm (b ++ a ++ c) := (List.perm_append_comm).append_right c
/-- one at a time, from the end of a pile -/
def dfs (g : Gr) (first : Nat) : Nat → List Way → List (Nat × Way) → List Way
  | 0, found, _ => found
  | n + 1, found, waiting => match waiting.getLast? with
    | none => found
    | some it => dfs g first n (found ++ imm g first it) (waiting.dropLast ++ kids g first it)
theorem dropLast_getLast {α : Type} {l : List α} {a : α} (h : l.getLast? = some a) : l = l.dropLast ++ [a] := by
  rcases List.eq_nil_or_concat l with e | ⟨l', b, rfl⟩
  · subst e; cases h
  · rw [List.concat_eq_append] at h ⊢
    rw [List.getLast?_append] at h
    simp at h
    subst h
    simp
theorem dfs_perm {g : Gr} {first : Nat} (hg : OkG g) : ∀ (n : Nat) (found : List Way) (waiting : List (Nat × Way)), (∀ it ∈ waiting, OkIt g first it) → (waiting.map (Sz g first)).sum ≤ n → (dfs g first n found waiting).Perm (found ++ waiting.flatMap (E g first))
  | 0, found, waiting, ok, h => by
    cases waiting with
    | nil => simp [dfs]
    | cons it w =>
      have h1 := Sz_step hg (ok it (List.mem_cons_self ..))
      rw [List.map_cons, List.sum_cons] at h
      omega
  | n + 1, found, waiting, ok, h => by
    unfold dfs
    cases q : waiting.getLast? with
    | none =>
      have : waiting = [] := by
        cases waiting with
        | nil => rfl
        | cons a l => rw [List.getLast?_cons] at q; cases q
      subst this
      simp
    | some it =>
      dsimp only
      have e := dropLast_getLast q
      have hit : it ∈ waiting := by rw [e]; simp
      have okit := ok it hit
      have h1 := Sz_step hg okit
      have hs : (waiting.map (Sz g first)).sum = ((waiting.dropLast).map (Sz g first)).sum + Sz g first it := by
        conv => lhs; rw [e]
        simp
      refine (dfs_perm hg n _ _ (fun k hk => ?_) ?_).trans ?_
      · rcases List.mem_append.mp hk with hk | hk
        · exact ok k (List.dropLast_subset _ hk)
        · exact (okit.kid hg hk).1
      · rw [List.map_append, List.sum_append]
        omega
      · have e2 : waiting.flatMap (E g first) = (waiting.dropLast).flatMap (E g first) ++ (imm g first it ++ (kids g first it).flatMap (E g first)) := by
          conv => lhs; rw [e]
          rw [List.flatMap_append, List.flatMap_singleton, E_step hg okit]
        rw [e2, List.flatMap_append, List.append_assoc]
        refine List.Perm.append_left found ?_
        rw [← List.append_assoc, ← List.append_assoc]
        exact perm_comm3 _ _ _
/-- a level at a time -/
def bfs (g : Gr) (first : Nat) : Nat → List Way → List (Nat × Way) → List Way
  | 0, found, _ => found
  | n + 1, found, level => if level = [] then found else bfs g first n (found ++ level.flatMap (imm g first)) (level.flatMap (kids g first))
theorem lev_perm {g : Gr} {first : Nat} (hg : OkG g) : ∀ (level : List (Nat × Way)), (∀ it ∈ level, OkIt g first it) → (level.flatMap (E g first)).Perm (level.flatMap (imm g first) ++ (level.flatMap (kids g first)).flatMap (E g first))
  | [], _ => by simp
  | it :: r, ok => by
    rw [List.flatMap_cons, List.flatMap_cons, List.flatMap_cons, List.flatMap_append, E_step hg (ok it (List.mem_cons_self ..))]
    have ih := lev_perm hg r fun k hk => ok k (List.mem_cons_of_mem _ hk)
    refine (List.Perm.append_left _ ih).trans ?_
    rw [List.append_assoc, List.append_assoc]
    refine List.Perm.append_left _ ?_
    rw [← List.append_assoc, ← List.append_assoc]
    exact perm_comm3 _ _ _
theorem bfs_perm {g : Gr} {first : Nat} (hg : OkG g) : ∀ (n : Nat) (found : List Way) (level : List (Nat × Way)), (∀ it ∈ level, OkIt g first it) → (∀ it ∈ level, g.length < n + it.2.length) → (bfs g first n found level).Perm (found ++ level.flatMap (E g first))
  | 0, found, level, ok, h => by
    cases level with
    | nil => simp [bfs]
    | cons it w =>
      have h1 := (ok it (List.mem_cons_self ..)).len
      have h2 := h it (List.mem_cons_self ..)
      omega
  | n + 1, found, level, ok, h => by
    unfold bfs
    split
    · rename_i e; subst e; simp
    · refine (bfs_perm hg n _ _ (fun k hk => ?_) fun k hk => ?_).trans ?_
      · obtain ⟨it, hi, hk⟩ := List.mem_flatMap.mp hk
        exact ((ok it hi).kid hg hk).1
      · obtain ⟨it, hi, hk⟩ := List.mem_flatMap.mp hk
        have := ((ok it hi).kid hg hk).2
        have := h it hi
        omega
      · rw [List.append_assoc]
        exact List.Perm.append_left _ (lev_perm hg level ok).symm

/-! ### sums along a way -/
def rowAt (rows : List Row) (e : Nat) : Row := rows.getD e []
def arcAt (rows : List Row) (x : Nat × Nat) : Arc := (rowAt rows x.1).getD x.2 ⟨.s, 0, 0⟩
def dlS (rows : List Row) (w : Way) : Int := (w.map fun x => (arcAt rows x).dl).sum
def bkS (rows : List Row) (w : Way) : Int := (w.map fun x => (arcAt rows x).bk).sum
structure VRows (rows : List Row) : Prop where
  lt : ∀ r ∈ rows, ∀ a ∈ r, ∀ v, a.src = .e v → v < rows.length
  bk : ∀ r ∈ rows, ∀ a ∈ r, 0 ≤ a.bk
  rank : ∃ rk : Nat → Nat, ∀ e r, rows[e]? = some r → ∀ a ∈ r, ∀ v, a.src = .e v → a.bk = 0 → rk v < rk e
theorem gr_evs (rows : List Row) (e : Nat) : gr (evs rows) e = (rowAt rows e).map fun a => a.src.ev := by
  unfold gr evs rowAt List.getD
  rw [List.getElem?_map]
  cases rows[e]? <;> rfl
theorem ev_some {a : Arc} {v : Nat} : a.src.ev = some v ↔ a.src = .e v := by
  unfold Src.ev
  cases a.src <;> simp
theorem gat_evs {rows : List Row} {e p v : Nat} : gat (evs rows) e p = some v ↔ ∃ r a, rows[e]? = some r ∧ r[p]? = some a ∧ a.src = .e v := by
  rw [gat_gr, gr_evs, List.getElem?_map]
  unfold rowAt List.getD
  cases q : rows[e]? with
  | none => simp
  | some r =>
    cases q2 : r[p]? with
    | none => simp [q2]
    | some a => simp [q2, ev_some]
theorem arcAt_eq {rows : List Row} {e p : Nat} {r : Row} {a : Arc} (h1 : rows[e]? = some r) (h2 : r[p]? = some a) : arcAt rows (e, p) = a := by
  unfold arcAt rowAt List.getD
  simp [h1, h2]
theorem VRows.okG {rows : List Row} (h : VRows rows) : OkG (evs rows) := by
  intro r hr o ho v hv
  unfold evs at hr ⊢
  obtain ⟨r', hr', rfl⟩ := List.mem_map.mp hr
  obtain ⟨a, ha, rfl⟩ := List.mem_map.mp ho
  rw [List.length_map]
  exact h.lt r' hr' a ha v (ev_some.mp hv)
theorem Ch.bk_nonneg {rows : List Row} (hv : VRows rows) {a v : Nat} {w : Way} (h : Ch (evs rows) a w v) : 0 ≤ bkS rows w := by
  induction h with
  | nil => simp [bkS]
  | snoc h k ih =>
    obtain ⟨r, ar, h1, h2, h3⟩ := gat_evs.mp k
    have := hv.bk r (List.mem_of_getElem? h1) ar (List.mem_of_getElem? h2)
    unfold bkS at ih ⊢
    simp [arcAt_eq h1 h2]
    omega
theorem Ch.rank {rows : List Row} (hv : VRows rows) {rk : Nat → Nat} (hr : ∀ e r, rows[e]? = some r → ∀ a ∈ r, ∀ v, a.src = .e v → a.bk = 0 → rk v < rk e) {a v : Nat} {w : Way} (h : Ch (evs rows) a w v) : bkS rows w = 0 → rk v + w.length ≤ rk a := by
  induction h with
  | nil => simp
  | snoc h k ih =>
    intro h0
    obtain ⟨r, ar, h1, h2, h3⟩ := gat_evs.mp k
    have hb := hv.bk r (List.mem_of_getElem? h1) ar (List.mem_of_getElem? h2)
    have hn := h.bk_nonneg hv
    unfold bkS at ih hn h0
    simp [arcAt_eq h1 h2] at h0
    have hz : ar.bk = 0 := by omega
    have := ih (by omega)
    have := hr _ r h1 ar (List.mem_of_getElem? h2) _ h3 hz
    simp
    omega
theorem ring_bk {rows : List Row} (hv : VRows rows) {w : Way} (h : w ∈ ringsAll (evs rows)) : 1 ≤ bkS rows w := by
  obtain ⟨first, _, hne, c⟩ := rings_chain h
  have h0 := c.bk_nonneg hv
  obtain ⟨rk, hr⟩ := hv.rank
  by_cases h1 : bkS rows w = 0
  · have := c.rank hv hr h1
    cases w with
    | nil => exact absurd rfl hne
    | cons x w => simp at this; omega
  · omega
/-- every place of a chain is there -/
theorem Ch.there {rows : List Row} {a v : Nat} {w : Way} (h : Ch (evs rows) a w v) : ∀ x ∈ w, ∃ r ar u, rows[x.1]? = some r ∧ r[x.2]? = some ar ∧ ar.src = .e u := by
  induction h with
  | nil => intro x hx; cases hx
  | snoc h k ih =>
    intro x hx
    rcases List.mem_append.mp hx with hx | hx
    · exact ih x hx
    · rw [List.mem_singleton.mp hx]
      obtain ⟨r, ar, h1, h2, h3⟩ := gat_evs.mp k
      exact ⟨r, ar, _, h1, h2, h3⟩
/-! ### rooms -/
def putR (rows : List Row) (s : Nat × Nat) (r : Int) : List Row := rows.set s.1 (rowAt rows s.1 ++ [⟨.e s.2, 0, r⟩])
def withR : List Row → List (Nat × Nat) → List Int → List Row
  | rows, [], _ => rows
  | rows, _ :: _, [] => rows
  | rows, s :: ss, r :: rs => withR (putR rows s r) ss rs
theorem putR_len {rows : List Row} {s : Nat × Nat} {r : Int} : (putR rows s r).length = rows.length := by unfold putR; simp
theorem withR_len : ∀ {ss : List (Nat × Nat)} {rows : List Row} {rs : List Int}, (withR rows ss rs).length = rows.length
  | [], _, _ => rfl
  | _ :: _, _, [] => rfl
  | s :: ss, rows, r :: rs => by
    show (withR (putR rows s r) ss rs).length = _
    rw [withR_len, putR_len]
theorem putR_get {rows : List Row} {s : Nat × Nat} {r : Int} {e : Nat} {row : Row} (h : rows[e]? = some row) : (putR rows s r)[e]? = some (if e = s.1 then row ++ [⟨.e s.2, 0, r⟩] else row) := by
  unfold putR
  rw [List.getElem?_set]
  have hl := (List.getElem?_eq_some_iff.mp h).1
  by_cases he : s.1 = e
  · subst he
    simp [hl, rowAt, List.getD, h, (List.getElem?_eq_some_iff.mp h).2]
  · simp [he, Ne.symm he, h]
theorem putR_inv {rows : List Row} {s : Nat × Nat} {r : Int} {e : Nat} {row' : Row} (h : (putR rows s r)[e]? = some row') : ∃ row, rows[e]? = some row ∧ row' = (if e = s.1 then row ++ [⟨.e s.2, 0, r⟩] else row) := by
  have hl := (List.getElem?_eq_some_iff.mp h).1
  rw [putR_len] at hl
  have hr : rows[e]? = some rows[e] := List.getElem?_eq_getElem hl
  refine ⟨_, hr, ?_⟩
  have := putR_get (s := s) (r := r) hr
  rw [h] at this
  exact Option.some.inj this
theorem append_get {row : Row} {z : Arc} {i : Nat} {a : Arc} {c : Prop} [Decidable c] (h : row[i]? = some a) : (if c then row ++ [z] else row)[i]? = some a := by
  split
  · rw [List.getElem?_append_left (List.getElem?_eq_some_iff.mp h).1]; exact h
  · exact h
theorem putR_le {rows : List Row} {s : Nat × Nat} {r : Int} : LeG (evs rows) (evs (putR rows s r)) := by
  refine ⟨by unfold evs; rw [List.length_map, List.length_map, putR_len], fun e i v h => ?_⟩
  obtain ⟨row, a, h1, h2, h3⟩ := gat_evs.mp h
  exact gat_evs.mpr ⟨_, a, putR_get h1, append_get h2, h3⟩
theorem putR_arc {rows : List Row} {s : Nat × Nat} {r : Int} {x : Nat × Nat} {row : Row} {a : Arc} (h1 : rows[x.1]? = some row) (h2 : row[x.2]? = some a) : arcAt (putR rows s r) x = arcAt rows x := by
  have e1 := arcAt_eq (putR_get (s := s) (r := r) h1) (append_get (c := x.1 = s.1) (z := ⟨.e s.2, 0, r⟩) h2)
  have e2 := arcAt_eq h1 h2
  rw [show x = (x.1, x.2) from rfl, e1, e2]
theorem putR_V {rows : List Row} {s : Nat × Nat} {r : Int} (h : VRows rows) (hs : s.2 < rows.length) (hr : 1 ≤ r) : VRows (putR rows s r) := by
  have mem : ∀ row' ∈ putR rows s r, ∀ a ∈ row', (∃ row ∈ rows, a ∈ row) ∨ a = ⟨.e s.2, 0, r⟩ := fun row' h' a ha => by
    obtain ⟨e, he⟩ := List.mem_iff_getElem?.mp h'
    obtain ⟨row, h1, rfl⟩ := putR_inv he
    split at ha
    · rcases List.mem_append.mp ha with ha | ha
      · exact .inl ⟨row, List.mem_of_getElem? h1, ha⟩
      · exact .inr (List.mem_singleton.mp ha)
    · exact .inl ⟨row, List.mem_of_getElem? h1, ha⟩
  refine ⟨fun row' h' a ha v hv => ?_, fun row' h' a ha => ?_, ?_⟩
  · rw [putR_len]
    rcases mem row' h' a ha with ⟨row, h1, h2⟩ | e
    · exact h.lt row h1 a h2 v hv
    · subst e; cases hv; exact hs
  · rcases mem row' h' a ha with ⟨row, h1, h2⟩ | e
    · exact h.bk row h1 a h2
    · subst e; show 0 ≤ r; omega
  · obtain ⟨rk, hk⟩ := h.rank
    refine ⟨rk, fun e row' he a ha v hv hz => ?_⟩
    obtain ⟨row, h1, rfl⟩ := putR_inv he
    split at ha
    · rcases List.mem_append.mp ha with ha | ha
      · exact hk e row h1 a ha v hv hz
      · rw [List.mem_singleton.mp ha] at hz
        have : r = 0 := hz
        omega
    · exact hk e row h1 a ha v hv hz
theorem withR_V : ∀ {ss : List (Nat × Nat)} {rows : List Row} {rs : List Int}, VRows rows → (∀ s ∈ ss, s.2 < rows.length) → (∀ r ∈ rs, 1 ≤ r) → VRows (withR rows ss rs)
  | [], _, _, h, _, _ => h
  | _ :: _, _, [], h, _, _ => h
  | s :: ss, rows, r :: rs, h, hs, hr => by
    show VRows (withR (putR rows s r) ss rs)
    exact withR_V (putR_V h (hs s (List.mem_cons_self ..)) (hr r (List.mem_cons_self ..))) (fun s' h' => by rw [putR_len]; exact hs s' (List.mem_cons_of_mem _ h')) fun r' h' => hr r' (List.mem_cons_of_mem _ h')
/-- a pace p / q is kept by all rings -/
def Keeps (rows : List Row) (p q : Int) : Prop := ∀ w ∈ ringsAll (evs rows), dlS rows w * q ≤ p * bkS rows w
theorem sums_eq {rows rows' : List Row} {w : Way} (h : ∀ x ∈ w, arcAt rows' x = arcAt rows x) : dlS rows' w = dlS rows w ∧ bkS rows' w = bkS rows w := by
  unfold dlS bkS
  constructor <;> congr 1 <;> refine List.map_congr_left fun x hx => ?_ <;> rw [h x hx]
theorem keeps_put {rows : List Row} {s : Nat × Nat} {r p q : Int} (h : Keeps (putR rows s r) p q) : Keeps rows p q := fun w hw => by
  have h1 := h w (rings_mono putR_le hw)
  obtain ⟨first, _, _, c⟩ := rings_chain hw
  have e := sums_eq (rows' := putR rows s r) (rows := rows) (w := w) fun x hx => by
    obtain ⟨row, a, _, q1, q2, _⟩ := c.there x hx
    exact putR_arc q1 q2
  rw [e.1, e.2] at h1
  exact h1
theorem keeps_with : ∀ {ss : List (Nat × Nat)} {rows : List Row} {rs : List Int} {p q : Int}, Keeps (withR rows ss rs) p q → Keeps rows p q
  | [], _, _, _, _, h => h
  | _ :: _, _, [], _, _, h => h
  | s :: ss, rows, r :: rs, p, q, h => keeps_put (keeps_with (show Keeps (withR (putR rows s r) ss rs) p q from h))
/-- rows alike but for rounds back, which are no less -/
def LeB (rows rows' : List Row) : Prop := rows.length = rows'.length ∧ ∀ e, (rowAt rows e).length = (rowAt rows' e).length ∧ ∀ i, (arcAt rows (e, i)).src = (arcAt rows' (e, i)).src ∧ (arcAt rows (e, i)).dl = (arcAt rows' (e, i)).dl ∧ (arcAt rows (e, i)).bk ≤ (arcAt rows' (e, i)).bk
theorem LeB.refl (rows : List Row) : LeB rows rows := ⟨rfl, fun _ => ⟨rfl, fun _ => ⟨rfl, rfl, Int.le_refl _⟩⟩⟩
theorem rowAt_put {rows : List Row} {s : Nat × Nat} {r : Int} {e : Nat} : rowAt (putR rows s r) e = if e = s.1 ∧ e < rows.length then rowAt rows e ++ [⟨.e s.2, 0, r⟩] else rowAt rows e := by
  unfold rowAt List.getD
  by_cases hl : e < rows.length
  · have hr : rows[e]? = some rows[e] := List.getElem?_eq_getElem hl
    rw [putR_get hr, hr]
    simp [hl]
  · have h1 : rows[e]? = none := List.getElem?_eq_none (by omega)
    have h2 : (putR rows s r)[e]? = none := List.getElem?_eq_none (by rw [putR_len]; omega)
    rw [h1, h2]
    simp [hl]
theorem getD_append {α : Type} {l : List α} {z d : α} {i : Nat} : (l ++ [z]).getD i d = if i < l.length then l.getD i d else if i = l.length then z else d := by
  unfold List.getD
  by_cases h : i < l.length
  · rw [List.getElem?_append_left h]; simp [h]
  · rw [List.getElem?_append_right (by omega)]
    by_cases h2 : i = l.length
    · subst h2; simp
    · have : i - l.length ≠ 0 := by omega
      obtain ⟨m, hm⟩ : ∃ m, i - l.length = m + 1 := ⟨i - l.length - 1, by omega⟩
      simp [h, h2, hm]
theorem LeB.put {rows rows' : List Row} {s : Nat × Nat} {r r' : Int} (h : LeB rows rows') (hr : r ≤ r') : LeB (putR rows s r) (putR rows' s r') := by
  refine ⟨by rw [putR_len, putR_len, h.1], fun e => ?_⟩
  obtain ⟨hl, ha⟩ := h.2 e
  rw [rowAt_put, rowAt_put, ← h.1]
  refine ⟨by split <;> simp [hl], fun i => ?_⟩
  have ha := ha i
  unfold arcAt at ha ⊢
  dsimp only at ha ⊢
  rw [rowAt_put, rowAt_put, ← h.1]
  by_cases hc : e = s.1 ∧ e < rows.length
  · rw [if_pos hc, if_pos hc, getD_append, getD_append, ← hl]
    by_cases h1 : i < (rowAt rows e).length
    · rw [if_pos h1, if_pos h1]; exact ha
    · rw [if_neg h1, if_neg h1]
      by_cases h2 : i = (rowAt rows e).length
      · rw [if_pos h2, if_pos h2]; exact ⟨rfl, rfl, hr⟩
      · rw [if_neg h2, if_neg h2]; exact ⟨rfl, rfl, Int.le_refl _⟩
  · rw [if_neg hc, if_neg hc]; exact ha
inductive LeR : List Int → List Int → Prop where
  | nil : LeR [] []
  | cons {a b : Int} {as bs : List Int} (h : a ≤ b) (t : LeR as bs) : LeR (a :: as) (b :: bs)
theorem LeB.with : ∀ {ss : List (Nat × Nat)} {rows rows' : List Row} {rs rs' : List Int}, LeB rows rows' → LeR rs rs' → LeB (withR rows ss rs) (withR rows' ss rs')
  | [], _, _, _, _, h, _ => h
  | _ :: _, _, _, _, _, h, .nil => h
  | s :: ss, rows, rows', r :: rs, r' :: rs', h, .cons h1 h2 => LeB.with (ss := ss) (h.put h1) h2
theorem LeB.evs {rows rows' : List Row} (h : LeB rows rows') : evs rows = evs rows' := by
  apply List.ext_getElem?
  intro e
  unfold Nt.evs
  rw [List.getElem?_map, List.getElem?_map]
  by_cases hl : e < rows.length
  · have h1 : rows[e]? = some rows[e] := List.getElem?_eq_getElem hl
    have h2 : rows'[e]? = some (rows'[e]'(by rw [← h.1]; exact hl)) := List.getElem?_eq_getElem (by rw [← h.1]; exact hl)
    obtain ⟨hl2, ha⟩ := h.2 e
    unfold arcAt at ha
    dsimp only at ha
    have e1 : rowAt rows e = rows[e] := by unfold rowAt List.getD; rw [h1]; rfl
    have e2 : rowAt rows' e = rows'[e]'(by rw [← h.1]; exact hl) := by unfold rowAt List.getD; rw [h2]; rfl
    rw [h1, h2, Option.map_some, Option.map_some, ← e1, ← e2]
    congr 1
    apply List.ext_getElem?
    intro i
    rw [List.getElem?_map, List.getElem?_map]
    by_cases hi : i < (rowAt rows e).length
    · have g1 : (rowAt rows e)[i]? = some (rowAt rows e)[i] := List.getElem?_eq_getElem hi
      have g2 : (rowAt rows' e)[i]? = some ((rowAt rows' e)[i]'(by rw [← hl2]; exact hi)) := List.getElem?_eq_getElem (by rw [← hl2]; exact hi)
      have := (ha i).1
      unfold List.getD at this
      rw [g1, g2] at this
      rw [g1, g2]
      simp only [Option.getD_some] at this
      simp [this]
    · have g1 : (rowAt rows e)[i]? = none := List.getElem?_eq_none (by omega)
      have g2 : (rowAt rows' e)[i]? = none := List.getElem?_eq_none (by omega)
      rw [g1, g2]
  · have h1 : rows[e]? = none := List.getElem?_eq_none (by omega)
    have h2 : rows'[e]? = none := List.getElem?_eq_none (by rw [← h.1]; omega)
    rw [h1, h2]
theorem sum_map_le {α : Type} {f h : α → Int} : ∀ {l : List α}, (∀ x ∈ l, f x ≤ h x) → (l.map f).sum ≤ (l.map h).sum
  | [], _ => by simp
  | a :: l, e => by
    have h1 := e a (List.mem_cons_self ..)
    have h2 := sum_map_le fun x hx => e x (List.mem_cons_of_mem a hx)
    simp only [List.map_cons, List.sum_cons]
    omega
theorem LeB.keeps {rows rows' : List Row} {p q : Int} (h : LeB rows rows') (hp : 0 ≤ p) (k : Keeps rows p q) : Keeps rows' p q := fun w hw => by
  have hd : dlS rows' w = dlS rows w := by
    unfold dlS
    congr 1
    refine List.map_congr_left fun x _ => ?_
    exact ((h.2 x.1).2 x.2).2.1.symm
  have hb : bkS rows w ≤ bkS rows' w := sum_map_le fun x _ => ((h.2 x.1).2 x.2).2.2
  have := k w (by rw [h.evs]; exact hw)
  rw [hd]
  exact Int.le_trans this (Int.mul_le_mul_of_nonneg_left hb hp)
end Nt

/-! Nets as data; what the program's small defs tell of them. -/
namespace Pg
open PySem PySem.Spec PyProof.Rows L2 Co Nt
theorem ten {P : Nat → Prop} (h0 : P 0) (h1 : P 1) (h2 : P 2) (h3 : P 3) (h4 : P 4) (h5 : P 5) (h6 : P 6) (h7 : P 7) (h8 : P 8) (h9 : P 9) : ∀ k, k < 10 → P k
  | 0, _ => h0 | 1, _ => h1 | 2, _ => h2 | 3, _ => h3 | 4, _ => h4 | 5, _ => h5 | 6, _ => h6 | 7, _ => h7 | 8, _ => h8 | 9, _ => h9
  | n + 10, h => absurd h (by omega)
def dgS : Nat → Str
  | 0 => "0" | 1 => "1" | 2 => "2" | 3 => "3" | 4 => "4" | 5 => "5" | 6 => "6" | 7 => "7" | 8 => "8" | _ => "9"
def srcS : Src → Str
  | .s => "s"
  | .u k => match k with
    | 0 => "u0" | 1 => "u1" | 2 => "u2" | 3 => "u3" | 4 => "u4" | 5 => "u5" | 6 => "u6" | 7 => "u7" | 8 => "u8" | _ => "u9"
  | .e k => match k with
    | 0 => "e0" | 1 => "e1" | 2 => "e2" | 3 => "e3" | 4 => "e4" | 5 => "e5" | 6 => "e6" | 7 => "e7" | 8 => "e8" | _ => "e9"
/-- small enough to be told by one figure -/
def Sm : Src → Prop
  | .s => True
  | .u k => k < 10
  | .e k => k < 10
theorem str_dg : ∀ k, k < 10 → bltD .str [.int (k : Nat)] = some (.str (dgS k)) := by refine ten ?_ ?_ ?_ ?_ ?_ ?_ ?_ ?_ ?_ ?_ <;> kernel_rfl
theorem add_e : ∀ k, k < 10 → binD .add (.str "e") (.str (dgS k)) = some (.str (srcS (.e k))) := by refine ten ?_ ?_ ?_ ?_ ?_ ?_ ?_ ?_ ?_ ?_ <;> kernel_rfl
theorem add_u : ∀ k, k < 10 → binD .add (.str "u") (.str (dgS k)) = some (.str (srcS (.u k))) := by refine ten ?_ ?_ ?_ ?_ ?_ ?_ ?_ ?_ ?_ ?_ <;> kernel_rfl
theorem hd_e : ∀ k, k < 10 → subD (.str (srcS (.e k))) (.int 0) = some (.str "e") := by refine ten ?_ ?_ ?_ ?_ ?_ ?_ ?_ ?_ ?_ ?_ <;> kernel_rfl
theorem hd_u : ∀ k, k < 10 → subD (.str (srcS (.u k))) (.int 0) = some (.str "u") := by refine ten ?_ ?_ ?_ ?_ ?_ ?_ ?_ ?_ ?_ ?_ <;> kernel_rfl
theorem hd_s : subD (.str (srcS .s)) (.int 0) = some (.str "s") := by kernel_rfl
theorem tl_e : ∀ k, k < 10 → slcD (.str (srcS (.e k))) (some 1) none = some (.str (dgS k)) := by refine ten ?_ ?_ ?_ ?_ ?_ ?_ ?_ ?_ ?_ ?_ <;> kernel_rfl
theorem int_dg : ∀ k, k < 10 → bltD .int [.str (dgS k)] = some (.int (k : Nat)) := by refine ten ?_ ?_ ?_ ?_ ?_ ?_ ?_ ?_ ?_ ?_ <;> kernel_rfl
theorem pl_src : ∀ a, Sm a → Pl 0 (.str (srcS a))
  | .s, _ => ⟨by decide +kernel, Nat.le_refl _⟩
  | .u k, h => ten (P := fun k => Pl 0 (.str (srcS (.u k)))) ⟨by decide +kernel, Nat.le_refl _⟩ ⟨by decide +kernel, Nat.le_refl _⟩ ⟨by decide +kernel, Nat.le_refl _⟩ ⟨by decide +kernel, Nat.le_refl _⟩ ⟨by decide +kernel, Nat.le_refl _⟩ ⟨by decide +kernel, Nat.le_refl _⟩ ⟨by decide +kernel, Nat.le_refl _⟩ ⟨by decide +kernel, Nat.le_refl _⟩ ⟨by decide +kernel, Nat.le_refl _⟩ ⟨by decide +kernel, Nat.le_refl _⟩ k h
  | .e k, h => ten (P := fun k => Pl 0 (.str (srcS (.e k)))) ⟨by decide +kernel, Nat.le_refl _⟩ ⟨by decide +kernel, Nat.le_refl _⟩ ⟨by decide +kernel, Nat.le_refl _⟩ ⟨by decide +kernel, Nat.le_refl _⟩ ⟨by decide +kernel, Nat.le_refl _⟩ ⟨by decide +kernel, Nat.le_refl _⟩ ⟨by decide +kernel, Nat.le_refl _⟩ ⟨by decide +kernel, Nat.le_refl _⟩ ⟨by decide +kernel, Nat.le_refl _⟩ ⟨by decide +kernel, Nat.le_refl _⟩ k h
/-- the source told back -/
def srcB (x : Str) : Src := if x = "s" then .s else if x = "u0" then .u 0 else if x = "u1" then .u 1 else if x = "u2" then .u 2 else if x = "u3" then .u 3 else if x = "u4" then .u 4 else if x = "u5" then .u 5 else if x = "u6" then .u 6 else if x = "u7" then .u 7 else if x = "u8" then .u 8 else if x = "u9" then .u 9 else
  if x = "e0" then .e 0 else if x = "e1" then .e 1 else if x = "e2" then .e 2 else if x = "e3" then .e 3 else if x = "e4" then .e 4 else if x = "e5" then .e 5 else if x = "e6" then .e 6 else if x = "e7" then .e 7 else if x = "e8" then .e 8 else .e 9
theorem srcB_S : ∀ a, Sm a → srcB (srcS a) = a
  | .s, _ => by decide +kernel
  | .u k, h => ten (P := fun k => srcB (srcS (.u k)) = .u k) (by decide +kernel) (by decide +kernel) (by decide +kernel) (by decide +kernel) (by decide +kernel) (by decide +kernel) (by decide +kernel) (by decide +kernel) (by decide +kernel) (by decide +kernel) k h
  | .e k, h => ten (P := fun k => srcB (srcS (.e k)) = .e k) (by decide +kernel) (by decide +kernel) (by decide +kernel) (by decide +kernel) (by decide +kernel) (by decide +kernel) (by decide +kernel) (by decide +kernel) (by decide +kernel) (by decide +kernel) k h
theorem srcS_inj {a b : Src} (ha : Sm a) (hb : Sm b) (h : srcS a = srcS b) : a = b := by
  have := congrArg srcB h
  rwa [srcB_S a ha, srcB_S b hb] at this
theorem eq_src {a b : Src} (ha : Sm a) (hb : Sm b) : eqD (.str (srcS a)) (.str (srcS b)) = some (decide (a = b)) := by
  refine eqD_dec ((pl_src a ha).mono (by decide)) ((pl_src b hb).mono (by decide)) ?_
  constructor
  · intro h
    injection h with h
    exact srcS_inj ha hb h
  · intro h
    rw [h]
/-! ### data of nets -/
def srcD (a : Src) : D := .str (srcS a)
def arcD (a : Arc) : D := .tuple [srcD a.src, .int a.dl, .int a.bk]
def rowT (r : Nt.Row) : D := .tuple (r.map arcD)
def rowsT (rs : List Nt.Row) : D := .tuple (rs.map rowT)
def netD (n : Net) : D := .tuple [.int n.ins, rowsT n.rows, .tuple (n.outs.map fun o => .int ((o : Nat) : Int))]
/-- an event's number, or none -/
def evD (a : Src) : D := oD (a.ev.map fun k => ((k : Nat) : Int))
theorem event_of_ok {a : Src} (h : Sm a) (s : Dice) : m_event_of [.val (srcD a)] s = .ok (evD a) s := by
  refine fn_ret2 (ρ := [.val (srcD a)]) rfl ?_
  have e1 : eqD (.str "e") (.str "e") = some true := by kernel_rfl
  have e2 : eqD (.str "u") (.str "e") = some false := by kernel_rfl
  have e3 : eqD (.str "s") (.str "e") = some false := by kernel_rfl
  unfold srcD evD
  cases a with
  | s =>
    have h1 := hd_s
    generalize srcS .s = x at h1
    simp [c_event_of, h1, e3, Src.ev, oD]
  | u k =>
    have h1 := hd_u k h
    generalize srcS (.u k) = x at h1
    simp [c_event_of, h1, e2, Src.ev, oD]
  | e k =>
    have h1 := hd_e k h
    have h2 := tl_e k h
    have h3 := int_dg k h
    generalize srcS (.e k) = x at h1 h2
    generalize dgS k = y at h2 h3
    simp [c_event_of, h1, h2, h3, e1, Src.ev, oD]
end Pg

/-! Rings from an event: the pile walked. -/
namespace Pg
open PySem PySem.Spec PyProof.Rows L2 Co Nt
def nD (k : Nat) : D := .int (k : Nat)
def pairD (p : Nat × Nat) : D := .tuple [nD p.1, nD p.2]
def wayD (w : Way) : D := .list (w.map pairD)
def itD (it : Nat × Way) : D := .tuple [nD it.1, wayD it.2]
theorem pl_nD (k : Nat) : Pl 0 (nD k) := pl_int _
theorem pl_pair (p : Nat × Nat) : Pl 1 (pairD p) := pl_tup fun x hx => by
  simp only [List.mem_cons, List.not_mem_nil, or_false] at hx
  rcases hx with rfl | rfl <;> exact pl_nD _
theorem pl_way (w : Way) : Pl 2 (wayD w) := pl_list fun x hx => by
  obtain ⟨p, _, rfl⟩ := List.mem_map.mp hx
  exact pl_pair p
theorem pl_it (it : Nat × Way) : Pl 3 (itD it) := pl_tup fun x hx => by
  simp only [List.mem_cons, List.not_mem_nil, or_false] at hx
  rcases hx with rfl | rfl
  · exact (pl_nD _).mono (by decide)
  · exact pl_way _
theorem nin_ints {v : Nat} {l : List Nat} : cmpD .nin (.int (v : Nat)) (.list (l.map nD)) = some (decide (v ∉ l)) := by
  show (inD _ _).map (!·) = _
  unfold inD
  have h : flatD (.int (v : Nat)) = true ∧ (l.map nD).all flatD = true := ⟨rfl, by
    rw [List.all_eq_true]
    intro x hx
    obtain ⟨k, _, rfl⟩ := List.mem_map.mp hx
    rfl⟩
  rw [if_pos h]
  show some (!((l.map nD).any fun y => PyData.eqv y (.int (v : Nat)))) = _
  congr 1
  rw [List.any_map, Bool.eq_iff_iff]
  simp only [Bool.not_eq_true', List.any_eq_false, decide_eq_true_eq, Function.comp]
  constructor
  · intro h1 h2
    exact h1 v h2 ((eqv_iff _ _ rfl rfl).mpr rfl)
  · intro h1 x hx h2
    have := (eqv_iff (nD x) (.int (v : Nat)) rfl rfl).mp h2
    injection this with this
    have e : x = v := by omega
    exact h1 (e ▸ hx)
theorem kids_some {first v p : Nat} {it : Nat × Way} {r : List (Option Nat)} : kidsL first it p (some v :: r) = if v ≠ first ∧ first < v ∧ v ∉ it.2.map (·.1) ∧ v ≠ it.1 then (v, it.2 ++ [(it.1, p)]) :: kidsL first it (p + 1) r else kidsL first it (p + 1) r := rfl
/-- the slots while the pile is walked -/
abbrev RF (rows : D) (first : Nat) (F : List Way) (W : List (Nat × Way)) (y4 y5 y6 y7 y8 y9 y10 : SV) : Co.Env := [.val rows, .val (nD first), .own (F.map wayD), .own (W.map itD), y4, y5, y6, y7, y8, y9, y10]
theorem arcs_ok {rows : D} {first : Nat} {it : Nat × Way} (hl : it.2.length ≤ 100) (s : Dice) : ∀ (r : Nt.Row) (p : Nat) (F : List Way) (W : List (Nat × Way)) (y7 y8 y9 y10 : SV), (∀ a ∈ r, Sm a.src) → F.length + W.length + r.length ≤ 100000 → ∃ y7' y8' y9',
    forL (stepF (fun j => ms_rings_from[j]?) (.tup (.cons (.one 7) (.cons (.one 8) (.nil)))) b_rings_from_0) (enmD p (r.map arcD)) (RF rows first F W (.val (.list ((it.2.map (·.1)).map nD))) (.val (nD it.1)) (.val (wayD it.2)) y7 y8 y9 y10) s =
      .nx (RF rows first (F ++ immL first it p (r.map fun a => a.src.ev)) (W ++ kidsL first it p (r.map fun a => a.src.ev)) (.val (.list ((it.2.map (·.1)).map nD))) (.val (nD it.1)) (.val (wayD it.2)) y7' y8' y9' y10) s := by
  intro r
  induction r with
  | nil =>
    intro p F W y7 y8 y9 y10 _ _
    refine ⟨y7, y8, y9, ?_⟩
    show Out.nx _ s = Out.nx _ s
    simp [immL, kidsL]
  | cons a r ih =>
    intro p F W y7 y8 y9 y10 hs hz
    rw [List.length_cons] at hz
    have ha := hs a (List.mem_cons_self ..)
    have hr : ∀ a ∈ r, Sm a.src := fun b hb => hs b (List.mem_cons_of_mem _ hb)
    have ev := event_of_ok ha s
    have sub0 : subD (arcD a) (.int 0) = some (srcD a.src) := rfl
    have ad : binD .add (wayD it.2) (.list [.tuple [nD it.1, .int (p : Nat)]]) = some (wayD (it.2 ++ [(it.1, p)])) := by
      unfold wayD
      show (if _ then some (PyData.list _) else none) = _
      rw [if_pos (by rw [List.length_map]; exact sz_le (by simp; omega)), List.map_append]
      rfl
    have lF : (F.map wayD).length < sizeLine := by rw [List.length_map]; exact sz_lt (by omega)
    have lW : (W.map itD).length < sizeLine := by rw [List.length_map]; exact sz_lt (by omega)
    have go : ∀ (F' : List Way) (W' : List (Nat × Way)) (y9' : SV), F'.length + W'.length + r.length ≤ 100000 →
        immL first it p (a.src.ev :: r.map fun a => a.src.ev) = F'.drop F.length ++ immL first it (p + 1) (r.map fun a => a.src.ev) → F = F'.take F.length → kidsL first it p (a.src.ev :: r.map fun a => a.src.ev) = W'.drop W.length ++ kidsL first it (p + 1) (r.map fun a => a.src.ev) → W = W'.take W.length →
        stepF (fun j => ms_rings_from[j]?) (.tup (.cons (.one 7) (.cons (.one 8) (.nil)))) b_rings_from_0 (.tuple [.int (p : Nat), arcD a]) (RF rows first F W (.val (.list ((it.2.map (·.1)).map nD))) (.val (nD it.1)) (.val (wayD it.2)) y7 y8 y9 y10) s =
          .nx (RF rows first F' W' (.val (.list ((it.2.map (·.1)).map nD))) (.val (nD it.1)) (.val (wayD it.2)) (.val (.int (p : Nat))) (.val (arcD a)) y9' y10) s → ∃ y7' y8' y9',
        forL (stepF (fun j => ms_rings_from[j]?) (.tup (.cons (.one 7) (.cons (.one 8) (.nil)))) b_rings_from_0) (enmD p ((a :: r).map arcD)) (RF rows first F W (.val (.list ((it.2.map (·.1)).map nD))) (.val (nD it.1)) (.val (wayD it.2)) y7 y8 y9 y10) s =
          .nx (RF rows first (F ++ immL first it p ((a :: r).map fun a => a.src.ev)) (W ++ kidsL first it p ((a :: r).map fun a => a.src.ev)) (.val (.list ((it.2.map (·.1)).map nD))) (.val (nD it.1)) (.val (wayD it.2)) y7' y8' y9' y10) s := fun F' W' y9' hz' h1 h2 h3 h4 st => by
      obtain ⟨z7, z8, z9, l⟩ := ih (p + 1) F' W' (.val (.int (p : Nat))) (.val (arcD a)) y9' y10 hr hz'
      refine ⟨z7, z8, z9, ?_⟩
      show forL _ (.tuple [.int (p : Nat), arcD a] :: enmD (p + 1) (r.map arcD)) _ s = _
      rw [forL_cons, st, obind_nx, l, List.map_cons, h1, h3]
      have e1 : F' = F ++ F'.drop F.length := by
        have := List.take_append_drop F.length F'
        rw [← h2] at this
        exact this.symm
      have e2 : W' = W ++ W'.drop W.length := by
        have := List.take_append_drop W.length W'
        rw [← h4] at this
        exact this.symm
      rw [← List.append_assoc, ← List.append_assoc, ← e1, ← e2]
    have evd : evD a.src = oD (a.src.ev.map fun k => ((k : Nat) : Int)) := rfl
    cases hev : a.src.ev with
    | none =>
      rw [evd, hev] at ev
      have ev : m_event_of [.val (srcD a.src)] s = .ok .none s := ev
      have E : eqD .none (nD first) = some false := eqD_f (pl_none.mono (by decide)) ((pl_nD _).mono (by decide)) fun z => by cases z
      rw [hev] at go
      refine go F W (.val .none) (by omega) (by simp [immL]) (by simp) (by simp [kidsL]) (by simp) ?_
      generalize srcD a.src = sd at sub0 ev
      generalize arcD a = ad_ at sub0
      simp [RF, stepF, b_rings_from_0, ms_rings_from, sub0, ev, E]
    | some v =>
      rw [evd, hev] at ev
      have ev : m_event_of [.val (srcD a.src)] s = .ok (nD v) s := ev
      rw [hev] at go
      by_cases hf : v = first
      · subst hf
        have E : eqD (nD v) (nD v) = some true := eqD_t ((pl_nD _).mono (by decide))
        refine go (F ++ [it.2 ++ [(it.1, p)]]) W (.val (nD v)) (by simp; omega) (by simp [immL]) (by simp) (by simp [kidsL]) (by simp) ?_
        have em : (F ++ [it.2 ++ [(it.1, p)]]).map wayD = F.map wayD ++ [wayD (it.2 ++ [(it.1, p)])] := by simp
        unfold RF
        rw [em]
        generalize F.map wayD = FD at lF
        generalize W.map itD = WD at lW
        generalize wayD (it.2 ++ [(it.1, p)]) = nw at ad
        generalize wayD it.2 = ow at ad
        generalize nD it.1 = oe at ad
        generalize srcD a.src = sd at sub0 ev
        generalize arcD a = ad_ at sub0
        generalize nD v = vd at ev E
        simp [stepF, b_rings_from_0, ms_rings_from, sub0, ev, E, ad, lF]
      · have E : eqD (nD v) (nD first) = some false := eqD_f ((pl_nD _).mono (by decide)) ((pl_nD _).mono (by decide)) fun z => hf (by injection z with z; omega)
        have G : cmpD .gt (nD v) (nD first) = some (decide (first < v)) := by
          show some (decide ((first : Int) < v)) = _
          congr 1
          rw [Bool.eq_iff_iff, decide_eq_true_eq, decide_eq_true_eq]
          omega
        have NI : cmpD .nin (nD v) (.list ((it.2.map (·.1)).map nD)) = some (decide (v ∉ it.2.map (·.1))) := nin_ints
        have NE : eqD (nD v) (nD it.1) = some (decide (v = it.1)) := eqD_dec ((pl_nD _).mono (by decide)) ((pl_nD _).mono (by decide)) ⟨fun z => by injection z with z; omega, fun z => by rw [z]⟩
        by_cases hc : first < v ∧ v ∉ it.2.map (·.1) ∧ v ≠ it.1
        · refine go F (W ++ [(v, it.2 ++ [(it.1, p)])]) (.val (nD v)) (by simp; omega) (by simp [immL, hf]) (by simp) (by
            rw [kids_some, if_pos ⟨hf, hc⟩]
            simp) (by simp) ?_
          have em : (W ++ [(v, it.2 ++ [(it.1, p)])]).map itD = W.map itD ++ [.tuple [nD v, wayD (it.2 ++ [(it.1, p)])]] := by simp [itD]
          obtain ⟨h1, h2, h3⟩ := hc
          rw [decide_eq_true h1] at G
          rw [decide_eq_true h2] at NI
          rw [decide_eq_false h3] at NE
          unfold RF
          rw [em]
          generalize (PyData.list ((it.2.map (·.1)).map nD)) = pd at NI
          generalize F.map wayD = FD at lF
          generalize W.map itD = WD at lW
          generalize wayD (it.2 ++ [(it.1, p)]) = nw at ad
          generalize wayD it.2 = ow at ad
          generalize nD it.1 = oe at ad NE
          generalize srcD a.src = sd at sub0 ev
          generalize arcD a = ad_ at sub0
          have N0 : (match nD v with
            | PyData.none => Res.ok (PyData.bool false) s
            | x => Res.ok (PyData.bool true) s) = .ok (.bool true) s := rfl
          have NV : ∃ i : Int, nD v = .int i := ⟨_, rfl⟩
          obtain ⟨i, hi⟩ := NV
          rw [hi] at ev E G NI NE ⊢
          generalize nD first = fd at E G
          simp [stepF, b_rings_from_0, ms_rings_from, sub0, ev, E, G, NI, NE, ad, lW]
        · refine go F W (.val (nD v)) (by omega) (by simp [immL, hf]) (by simp) (by
            rw [kids_some, if_neg fun z => hc z.2]
            simp) (by simp) ?_
          have NV : ∃ i : Int, nD v = .int i := ⟨_, rfl⟩
          obtain ⟨i, hi⟩ := NV
          unfold RF
          generalize (PyData.list ((it.2.map (·.1)).map nD)) = pd at NI
          generalize F.map wayD = FD at lF
          generalize W.map itD = WD at lW
          generalize wayD (it.2 ++ [(it.1, p)]) = nw at ad
          generalize wayD it.2 = ow at ad
          generalize nD it.1 = oe at ad NE
          generalize srcD a.src = sd at sub0 ev
          generalize arcD a = ad_ at sub0
          rw [hi] at ev E G NI NE ⊢
          generalize nD first = fd at E G
          by_cases h1 : first < v
          · rw [decide_eq_true h1] at G
            by_cases h2 : v ∉ it.2.map (·.1)
            · rw [decide_eq_true h2] at NI
              have h3 : v = it.1 := Classical.byContradiction fun z => hc ⟨h1, h2, z⟩
              rw [decide_eq_true h3] at NE
              simp [stepF, b_rings_from_0, ms_rings_from, sub0, ev, E, G, NI, NE]
            · rw [decide_eq_false h2] at NI
              simp [stepF, b_rings_from_0, ms_rings_from, sub0, ev, E, G, NI]
          · rw [decide_eq_false h1] at G
            simp [stepF, b_rings_from_0, ms_rings_from, sub0, ev, E, G]
theorem both_len {first : Nat} {it : Nat × Way} : ∀ {p : Nat} {os : List (Option Nat)}, (immL first it p os).length + (kidsL first it p os).length ≤ os.length
  | _, [] => Nat.le_refl _
  | p, none :: r => by
    have := both_len (first := first) (it := it) (p := p + 1) (os := r)
    have e1 : immL first it p (none :: r) = immL first it (p + 1) r := by simp [immL]
    have e2 : kidsL first it p (none :: r) = kidsL first it (p + 1) r := rfl
    rw [e1, e2, List.length_cons]
    omega
  | p, some v :: r => by
    have := both_len (first := first) (it := it) (p := p + 1) (os := r)
    rw [kids_some, List.length_cons]
    by_cases hf : v = first
    · have e1 : immL first it p (some v :: r) = (it.2 ++ [(it.1, p)]) :: immL first it (p + 1) r := by simp [immL, hf]
      rw [e1, if_neg (fun z => z.1 hf), List.length_cons]
      omega
    · have e1 : immL first it p (some v :: r) = immL first it (p + 1) r := by simp [immL, hf]
      rw [e1]
      split
      · rw [List.length_cons]; omega
      · omega
/-- rows that are fit to be walked -/
structure RB (rows : List Nt.Row) : Prop where
  len : rows.length ≤ 5
  row : ∀ r ∈ rows, r.length ≤ 6
  sm : ∀ r ∈ rows, ∀ a ∈ r, Sm a.src
  ok : OkG (evs rows)
theorem evs_len (rows : List Nt.Row) : (evs rows).length = rows.length := by simp [evs]
theorem rings_loop {rows : List Nt.Row} (B : RB rows) {first : Nat} (s : Dice) : ∀ (n : Nat) (F : List Way) (W : List (Nat × Way)) (y4 y5 y6 y7 y8 y9 y10 : SV) (m : Nat), n < m → (∀ it ∈ W, OkIt (evs rows) first it) → (W.map (Sz (evs rows) first)).sum ≤ n → F.length + W.length + 6 * n ≤ 90000 → ∃ y4' y5' y6' y7' y8' y9' y10',
    whlL (fun ρ s => ev (fun j => ms_rings_from[j]?) (.cmp .ne (.bor 3) (.lst (.nil))) ρ s) (fun ρ s => xb (fun j => ms_rings_from[j]?) b_rings_from_1 ρ s) m (RF (rowsT rows) first F W y4 y5 y6 y7 y8 y9 y10) s =
      .nx (RF (rowsT rows) first (dfs (evs rows) first n F W) [] y4' y5' y6' y7' y8' y9' y10') s := by
  intro n
  induction n with
  | zero =>
    intro F W y4 y5 y6 y7 y8 y9 y10 m hm ok hs hz
    obtain ⟨m, rfl⟩ : ∃ j, m = j + 1 := ⟨m - 1, by omega⟩
    cases W with
    | cons it r =>
      have := Sz_step B.ok (ok it (List.mem_cons_self ..))
      rw [List.map_cons, List.sum_cons] at hs
      omega
    | nil =>
      have E : eqD (.list []) (.list []) = some true := rfl
      refine ⟨y4, y5, y6, y7, y8, y9, y10, ?_⟩
      rw [whl_f (s1 := s) (by simp [E])]
      rfl
  | succ n ih =>
    intro F W y4 y5 y6 y7 y8 y9 y10 m hm ok hs hz
    obtain ⟨m, rfl⟩ : ∃ j, m = j + 1 := ⟨m - 1, by omega⟩
    cases hl : W.getLast? with
    | none =>
      have eW : W = [] := List.getLast?_eq_none_iff.mp hl
      subst eW
      have E : eqD (.list []) (.list []) = some true := rfl
      refine ⟨y4, y5, y6, y7, y8, y9, y10, ?_⟩
      rw [whl_f (s1 := s) (by simp [E])]
      rfl
    | some it =>
      have eW := dropLast_getLast hl
      have hit : it ∈ W := by rw [eW]; simp
      have oi := ok it hit
      have il := oi.len
      have lt := oi.lt
      rw [evs_len] at il lt
      have Bl := B.len
      have E : eqD (.list (W.map itD)) (.list []) = some false := by
        refine eqD_f ((pl_list (n := 3) fun x hx => ?_).mono (by decide)) ((pl_list (n := 0) fun x hx => by cases hx).mono (by decide)) fun z => ?_
        · obtain ⟨i, _, rfl⟩ := List.mem_map.mp hx
          exact pl_it i
        · injection z with z
          rw [List.map_eq_nil_iff] at z
          rw [z] at hl
          cases hl
      -- the item is taken
      have gl : (W.map itD).getLast? = some (itD it) := by rw [List.getLast?_map, hl]; rfl
      have dl : (W.map itD).dropLast = W.dropLast.map itD := by rw [List.map_dropLast]
      obtain ⟨r, hr⟩ : ∃ r, rows[it.1]? = some r := ⟨rows[it.1], List.getElem?_eq_getElem lt⟩
      have rm : r ∈ rows := List.mem_of_getElem? hr
      have gr_ : gr (evs rows) it.1 = r.map fun a => a.src.ev := by
        rw [gr_evs]
        unfold rowAt
        rw [List.getD_eq_getElem?_getD, hr]
        rfl
      have wl : W.dropLast.length + 1 = W.length := by
        have := congrArg List.length eW
        rw [List.length_append] at this
        simpa using this.symm
      have rl := B.row r rm
      have bl := both_len (first := first) (it := it) (p := 0) (os := r.map fun a => a.src.ev)
      rw [List.length_map] at bl
      obtain ⟨z7, z8, z9, la⟩ := arcs_ok (rows := rowsT rows) (first := first) (it := it) (by omega) s r 0 F W.dropLast y7 y8 y9 y10 (B.sm r rm) (by omega)
      have im : imm (evs rows) first it = immL first it 0 (r.map fun a => a.src.ev) := by unfold imm; rw [gr_]
      have ki : kids (evs rows) first it = kidsL first it 0 (r.map fun a => a.src.ev) := by unfold kids; rw [gr_]
      rw [← im, ← ki] at la bl
      have cp : ev (fun j => ms_rings_from[j]?) (.comp (.var 10) [10, 7] (.tup (.cons (.one 10) (.cons (.one 7) (.nil)))) (.seq (.var 6)) (.non)) (RF (rowsT rows) first F W.dropLast y4 (.val (nD it.1)) (.val (wayD it.2)) y7 y8 y9 y10) s = .ok (.list ((it.2.map (·.1)).map nD)) s := by
        rw [ev_comp]
        have e1 : evI (fun j => ms_rings_from[j]?) (.seq (.var 6)) (RF (rowsT rows) first F W.dropLast y4 (.val (nD it.1)) (.val (wayD it.2)) y7 y8 y9 y10) s = .ok (it.2.map pairD) s := by simp [wayD]
        rw [e1, Co.bind_ok, Co.comp_map (x := fun p => nD p.1) (fun p _ => ?_) (by have := sz_le (n := it.2.length) (by omega); omega), List.map_map]
        · rfl
        · simp [itemS, pairD]
      have sb : subD (rowsT rows) (nD it.1) = some (rowT r) := by
        show atI (rows.map rowT) (it.1 : Nat) = _
        rw [Co.atI_nat, List.getElem?_map, hr]
        rfl
      have cond : ev (fun j => ms_rings_from[j]?) (.cmp .ne (.bor 3) (.lst (.nil))) (RF (rowsT rows) first F W y4 y5 y6 y7 y8 y9 y10) s = .ok (.bool true) s := by
        unfold RF
        generalize W.map itD = WD at E
        simp [E]
      have body : xb (fun j => ms_rings_from[j]?) b_rings_from_1 (RF (rowsT rows) first F W y4 y5 y6 y7 y8 y9 y10) s = .nx (RF (rowsT rows) first (F ++ imm (evs rows) first it) (W.dropLast ++ kids (evs rows) first it) (.val (.list ((it.2.map (·.1)).map nD))) (.val (nD it.1)) (.val (wayD it.2)) z7 z8 z9 y10) s := by
        unfold b_rings_from_1
        rw [xb_step (ρ' := RF (rowsT rows) first F W.dropLast y4 (.val (nD it.1)) (.val (wayD it.2)) y7 y8 y9 y10) (s1 := s) (by
          unfold RF
          rw [← dl]
          generalize W.map itD = WD at gl
          generalize F.map wayD = FD
          simp [gl, itD])]
        rw [xb_step (ρ' := RF (rowsT rows) first F W.dropLast (.val (.list ((it.2.map (·.1)).map nD))) (.val (nD it.1)) (.val (wayD it.2)) y7 y8 y9 y10) (s1 := s) (by
          rw [xs_asg, cp, out_ok]
          simp only [setS_0, setS_s, Option.map_some, oopt_some])]
        rw [xb_step (by
          rw [xs_fors, evI_enm, ev_sub]
          simp only [ev_var, getV_0, getV_s, opt_some, Co.bind_ok, sb]
          show forL _ (enmD 0 (r.map arcD)) _ s = _
          exact la)]
        rfl
      have sumW : (W.map (Sz (evs rows) first)).sum = (W.dropLast.map (Sz (evs rows) first)).sum + Sz (evs rows) first it := by
        conv => lhs; rw [eW]
        simp
      have st := Sz_step B.ok oi
      obtain ⟨w4, w5, w6, w7, w8, w9, w10, l⟩ := ih (F ++ imm (evs rows) first it) (W.dropLast ++ kids (evs rows) first it) (.val (.list ((it.2.map (·.1)).map nD))) (.val (nD it.1)) (.val (wayD it.2)) z7 z8 z9 y10 m (by omega) (fun k hk => by
        rcases List.mem_append.mp hk with h | h
        · exact ok k (by rw [eW]; exact List.mem_append_left _ h)
        · exact (oi.kid B.ok h).1) (by
        rw [List.map_append, List.sum_append]
        omega) (by
        rw [List.length_append, List.length_append]
        omega)
      refine ⟨w4, w5, w6, w7, w8, w9, w10, ?_⟩
      rw [whl_t cond body, l]
      have ed : dfs (evs rows) first (n + 1) F W = dfs (evs rows) first n (F ++ imm (evs rows) first it) (W.dropLast ++ kids (evs rows) first it) := by
        show (match W.getLast? with
          | none => F
          | some it => dfs (evs rows) first n (F ++ imm (evs rows) first it) (W.dropLast ++ kids (evs rows) first it)) = _
        rw [hl]
      rw [ed]
/-- the ways that the program finds, in its own order -/
def pile (rows : List Nt.Row) (first : Nat) : List Way := dfs (evs rows) first 9331 [] [(first, [])]
theorem sz_9331 {rows : List Nt.Row} (B : RB rows) (first : Nat) (it : Nat × Way) : Sz (evs rows) first it ≤ 9331 := by
  have h1 := Sz_le (g := evs rows) (first := first) (b := 6) (fun r hr => by
    obtain ⟨q, hq, rfl⟩ := List.mem_map.mp (show r ∈ rows.map fun r => r.map fun a => a.src.ev from hr)
    rw [List.length_map]
    exact B.row q hq) it
  rw [evs_len] at h1
  have h2 := tb_mono (b := 6) B.len
  have h3 : tb 6 5 ≤ 9331 := by decide
  omega
theorem pile_perm {rows : List Nt.Row} (B : RB rows) {first : Nat} (h : first < rows.length) : (pile rows first).Perm (ringsFrom (evs rows) first) := by
  have := dfs_perm (first := first) B.ok 9331 [] [(first, [])] (fun it hit => by
    rw [List.mem_singleton] at hit
    rw [hit]
    exact OkIt.start (by rw [evs_len]; exact h)) (by
    have := sz_9331 B first (first, [])
    simpa using this)
  unfold pile ringsFrom
  simpa using this
theorem fuel_9331 : 9331 < FUEL := by unfold FUEL; decide
theorem rings_from_ok {rows : List Nt.Row} (B : RB rows) {first : Nat} (h : first < rows.length) (s : Dice) : m_rings_from [.val (rowsT rows), .val (nD first)] s = .ok (.list ((pile rows first).map wayD)) s := by
  refine fn_ret2 (ρ := [.val (rowsT rows), .val (nD first), .no, .no, .no, .no, .no, .no, .no, .no, .no]) rfl ?_
  obtain ⟨y4, y5, y6, y7, y8, y9, y10, l⟩ := rings_loop B (first := first) s 9331 [] [(first, [])] .no .no .no .no .no .no .no FUEL fuel_9331 (fun it hit => by
    rw [List.mem_singleton] at hit
    rw [hit]
    exact OkIt.start (by rw [evs_len]; exact h)) (by
    have := sz_9331 B first (first, [])
    simpa using this) (by simp)
  unfold c_rings_from
  rw [xb_step (ρ' := RF (rowsT rows) first [] [(first, [])] .no .no .no .no .no .no .no) (s1 := s) (by simp [RF, itD, wayD])]
  rw [xb_step (by rw [xs_whl]; exact l)]
  show xb _ _ (RF (rowsT rows) first (pile rows first) [] y4 y5 y6 y7 y8 y9 y10) s = _
  generalize pile rows first = P
  unfold RF
  generalize P.map wayD = PD
  simp
end Pg

/-! All rings, sorted. -/
namespace Pg
open PySem PySem.Spec PyProof.Rows L2 Co Nt
def wayT (w : Way) : D := .tuple (w.map pairD)
theorem pl_wayT (w : Way) : Pl 2 (wayT w) := pl_tup fun x hx => by
  obtain ⟨p, _, rfl⟩ := List.mem_map.mp hx
  exact pl_pair p
theorem alike_pair (p q : Nat × Nat) : PySem.W.alike (pairD p) (pairD q) = true := rfl
theorem alike_ways : ∀ (w v : Way), PySem.W.alikeAll (w.map pairD) (v.map pairD) = true
  | [], _ => rfl
  | _ :: _, [] => rfl
  | p :: w, q :: v => by
    show (PySem.W.alike (pairD p) (pairD q) && PySem.W.alikeAll (w.map pairD) (v.map pairD)) = true
    rw [alike_pair, alike_ways w v]
    rfl
theorem sort_ways {ws : List Way} (hne : ∀ w ∈ ws, w ≠ []) (hl : ws.length ≤ 100000) : sortedD (.list (ws.map wayT)) = some (.list (sortD (ws.map wayT))) := by
  show (if sortOk (ws.map wayT) = true then some (PyData.list _) else none) = _
  rw [if_pos]
  unfold sortOk
  have h1 : ((ws.map wayT).all fun d => (ws.map wayT).all fun d' => PySem.W.alike d d') = true := by
    rw [List.all_eq_true]
    intro d hd
    rw [List.all_eq_true]
    intro d' hd'
    obtain ⟨w, _, rfl⟩ := List.mem_map.mp hd
    obtain ⟨v, _, rfl⟩ := List.mem_map.mp hd'
    exact alike_ways w v
  have h2 : (ws.map wayT).all noDict = true := by
    rw [List.all_eq_true]
    intro d hd
    obtain ⟨w, _, rfl⟩ := List.mem_map.mp hd
    exact (pl_ok _ (pl_wayT w).p).2
  have h3 : ((ws.map wayT).all fun d => match d with
    | .tuple (_ :: _) => true
    | _ => false) = true := by
    rw [List.all_eq_true]
    intro d hd
    obtain ⟨w, hw, rfl⟩ := List.mem_map.mp hd
    cases w with
    | nil => exact absurd rfl (hne _ hw)
    | cons p w => rfl
  have h4 : ((ws.map wayT).all fun d => decide (d.depth ≤ 20)) = true := by
    rw [List.all_eq_true]
    intro d hd
    obtain ⟨w, hw, rfl⟩ := List.mem_map.mp hd
    exact decide_eq_true (Nat.le_trans (pl_wayT w).d (by decide))
  simp only [Bool.and_eq_true, Bool.or_eq_true]
  exact ⟨⟨⟨⟨h1, h2⟩, .inl h3⟩, h4⟩, decide_eq_true (by rw [List.length_map]; exact sz_le hl)⟩
def piles (rows : List Nt.Row) (n : Nat) : List Way := (List.range n).flatMap (pile rows)
theorem piles_succ (rows : List Nt.Row) (n : Nat) : piles rows (n + 1) = piles rows n ++ pile rows n := by
  unfold piles
  rw [List.range_succ, List.flatMap_append]
  simp
theorem flat_le {α β : Type} {f : α → List β} {h : α → Nat} {c : Nat} : ∀ {l : List α}, (∀ x ∈ l, (f x).length ≤ c * h x) → (l.flatMap f).length ≤ c * (l.map h).sum
  | [], _ => by simp
  | x :: l, hx => by
    rw [List.flatMap_cons, List.length_append, List.map_cons, List.sum_cons, Nat.mul_add]
    exact Nat.add_le_add (hx x (List.mem_cons_self ..)) (flat_le fun y hy => hx y (List.mem_cons_of_mem _ hy))
theorem ext_len {g : Gr} {first b : Nat} (hb : ∀ r ∈ g, r.length ≤ b) : ∀ (f : Nat) (it : Nat × Way), (ext g first f it).length ≤ b * tsz g first f it
  | 0, it => by simp [ext]
  | f + 1, it => by
    have h1 : (imm g first it).length ≤ b := Nat.le_trans immL_len (gr_len hb _)
    have h2 := flat_le (f := ext g first f) (h := tsz g first f) (c := b) (l := kids g first it) fun k _ => ext_len hb f k
    show (imm g first it ++ (kids g first it).flatMap (ext g first f)).length ≤ b * (1 + ((kids g first it).map (tsz g first f)).sum)
    rw [List.length_append, Nat.mul_add, Nat.mul_one]
    exact Nat.add_le_add h1 h2
theorem pile_len {rows : List Nt.Row} (B : RB rows) {first : Nat} (h : first < rows.length) : (pile rows first).length ≤ 9330 := by
  rw [(pile_perm B h).length_eq]
  have hb : ∀ r ∈ evs rows, r.length ≤ 6 := fun r hr => by
    obtain ⟨q, hq, rfl⟩ := List.mem_map.mp (show r ∈ rows.map fun r => r.map fun a => a.src.ev from hr)
    rw [List.length_map]
    exact B.row q hq
  have h1 := ext_len (first := first) hb ((evs rows).length - ([] : Way).length) (first, [])
  have h2 := Sz_le (first := first) hb (first, [])
  rw [evs_len] at h2
  have h3 := tb_mono (b := 6) B.len
  have h4 : tb 6 5 = 1555 := by decide
  have h5 : (ringsFrom (evs rows) first).length ≤ 6 * Sz (evs rows) first (first, []) := h1
  omega
theorem piles_len {rows : List Nt.Row} (B : RB rows) : ∀ n, n ≤ rows.length → (piles rows n).length ≤ 9330 * n
  | 0, _ => by simp [piles]
  | n + 1, h => by
    rw [piles_succ, List.length_append]
    have := piles_len B n (by omega)
    have := pile_len B (first := n) (by omega)
    omega
theorem piles_ne {rows : List Nt.Row} (B : RB rows) {w : Way} (hw : w ∈ piles rows rows.length) : w ≠ [] := by
  unfold piles at hw
  rw [List.mem_flatMap] at hw
  obtain ⟨f, hf, hw⟩ := hw
  have hf := List.mem_range.mp hf
  have hm := (pile_perm B hf).mem_iff.mp hw
  have : w ∈ ringsAll (evs rows) := by
    unfold ringsAll
    rw [List.mem_flatMap]
    exact ⟨f, List.mem_range.mpr (by rw [evs_len]; exact hf), hm⟩
  exact (rings_chain this).choose_spec.2.1
theorem piles_perm {rows : List Nt.Row} (B : RB rows) : (piles rows rows.length).Perm (ringsAll (evs rows)) := by
  unfold piles ringsAll
  rw [evs_len]
  have : ∀ n, n ≤ rows.length → ((List.range n).flatMap (pile rows)).Perm ((List.range n).flatMap (ringsFrom (evs rows))) := by
    intro n
    induction n with
    | zero => intro _; exact List.Perm.refl _
    | succ n ih =>
      intro h
      rw [List.range_succ, List.flatMap_append, List.flatMap_append]
      refine (ih (by omega)).append ?_
      simpa using pile_perm B (first := n) (by omega)
  exact this _ (Nat.le_refl _)
theorem rings_of_ok {rows : List Nt.Row} (B : RB rows) (s : Dice) : m_rings_of [.val (rowsT rows)] s = .ok (.list (sortD ((piles rows rows.length).map wayT))) s := by
  have Bl := B.len
  have hs := sort_ways (ws := piles rows rows.length) (fun w hw => piles_ne B hw) (by have := piles_len B rows.length (Nat.le_refl _); omega)
  refine fn_ret2 (ρ := [.val (rowsT rows), .no, .no, .no]) rfl ?_
  unfold c_rings_of
  rw [xb_step (ρ' := [.val (rowsT rows), .val (.list []), .no, .no]) (s1 := s) (by simp)]
  obtain ⟨ρ1, s1, l1, es, y2, e⟩ := for_inv (f := stepF (fun j => ms_rings_of[j]?) (.one 2) b_rings_of_1) (P := fun m ρ s1 => s1 = s ∧ ∃ y2, ρ = [.val (rowsT rows), .val (.list ((piles rows m).map wayT)), y2, .no])
    (n := rows.length) (m := 0) (lo := ((0 : Nat) : Int)) (ρ := [.val (rowsT rows), .val (.list []), .no, .no]) (s := s) (fun i hi ρ s1 ⟨es, y2, e⟩ => by
      subst es
      subst e
      rw [Nat.zero_add]
      have z0 : ((0 : Nat) : Int) + (i : Nat) = (i : Nat) := by omega
      rw [z0]
      have rf := rings_from_ok B hi s1
      have pl_ := pile_len B hi
      have pls_ := piles_len B i (by omega)
      refine ⟨[.val (rowsT rows), .val (.list ((piles rows (i + 1)).map wayT)), .val (.int (i : Nat)), .no], s1, ?_, rfl, _, rfl⟩
      have cp : ev (fun j => ms_rings_of[j]?) (.comp e_rings_of_0 [3] (.one 3) (.seq (.call 0 (.cons (.var 0) (.cons (.var 2) (.nil))))) (.non)) [.val (rowsT rows), .val (.list ((piles rows i).map wayT)), .val (.int (i : Nat)), .no] s1 = .ok (.list ((pile rows i).map wayT)) s1 := by
        rw [ev_comp]
        have e1 : evI (fun j => ms_rings_of[j]?) (.seq (.call 0 (.cons (.var 0) (.cons (.var 2) (.nil))))) [.val (rowsT rows), .val (.list ((piles rows i).map wayT)), .val (.int (i : Nat)), .no] s1 = .ok ((pile rows i).map wayD) s1 := by
          rw [evI_seq, ev_call]
          simp only [evA_var, evA_nil, getV_0, getV_s, opt_some, Co.bind_ok]
          show (m_rings_from [.val (rowsT rows), .val (nD i)] s1).bind _ = _
          rw [rf]
          rfl
        rw [e1, Co.bind_ok, Co.comp_map (x := wayT) (fun w _ => ?_) (by have := sz_le (n := (pile rows i).length) (by omega); omega)]
        · rfl
        · simp [itemS, e_rings_of_0, wayD, wayT]
      have ad : binD .add (.list ((piles rows i).map wayT)) (.list ((pile rows i).map wayT)) = some (.list ((piles rows (i + 1)).map wayT)) := by
        show (if _ then some (PyData.list _) else none) = _
        rw [if_pos (by rw [List.length_map, List.length_map]; exact sz_le (by omega)), piles_succ, List.map_append]
      show (Out.opt (setP (.one 2) _ _) s1).bind _ = _
      rw [setP_one]
      simp only [setS_0, setS_s, Option.map_some, oopt_some, obind_nx]
      unfold b_rings_of_1
      rw [xb_step (ρ' := [.val (rowsT rows), .val (.list ((piles rows (i + 1)).map wayT)), .val (.int (i : Nat)), .no]) (s1 := s1) (by
        rw [xs_asg, ev_bin, ev_var]
        simp only [getV_0, getV_s, opt_some, Co.bind_ok]
        rw [cp, Co.bind_ok, ad]
        simp only [opt_some, out_ok, setS_0, setS_s, Option.map_some, oopt_some])]
      rfl) ⟨rfl, .no, rfl⟩
  subst es
  subst e
  rw [Nat.zero_add] at l1
  have e2 : evI (fun j => ms_rings_of[j]?) (.rng (.cst (.int 0)) (.blt .len (.cons (.var 0) (.nil)))) [.val (rowsT rows), .val (.list []), .no, .no] s1 = .ok (rngD ((0 : Nat) : Int) rows.length) s1 :=
    evI_rngN (lo := 0) (n := rows.length) rfl (j := (rows.length : Nat)) (by simp [rowsT]) (by omega) (by omega)
  rw [xb_step (by rw [xs_fors, e2]; exact l1)]
  generalize (piles rows rows.length).map wayT = PP at hs
  have hs : bltD .sorted [.list PP] = some (.list (sortD PP)) := hs
  simp [hs]
end Pg

/-! Fractions, their greatest; what a ring measures. -/
namespace Pg
open PySem PySem.Spec PyProof.Rows L2 Co Nt
theorem div_loop (G : Gam) (s : Dice) : ∀ (n : Nat) (x y : Int), 0 ≤ x → 0 ≤ y → y.toNat < n →
    whlL (fun ρ s => ev G (.cmp .ne (.var 1) (.cst (.int 0))) ρ s) (fun ρ s => xb G (.cons (.par [(0, false), (1, false)] (.cons (.var 1) (.cons (.bin .mod (.var 0) (.var 1)) .nil))) .nil) ρ s) n [.val (.int x), .val (.int y)] s = .nx [.val (.int (Int.gcd x y)), .val (.int 0)] s
  | 0, x, y, _, _, h => absurd h (by omega)
  | n + 1, x, y, hx, hy, h => by
    by_cases h0 : y = 0
    · subst h0
      rw [whl_f (by simp; rfl)]
      simp
      omega
    · have hp : 0 < y := by omega
      rw [whl_t (ρ' := [.val (.int y), .val (.int (x % y))]) (by simp [h0]; rfl) (by simp [bin_mod hp]; rfl)]
      rw [div_loop G _ n y (x % y) hy (Int.emod_nonneg _ h0) (by have := Int.emod_lt_of_pos x hp; omega)]
      have : Int.gcd y (x % y) = Int.gcd x y := by
        obtain ⟨m, rfl⟩ := Int.eq_ofNat_of_zero_le hx
        obtain ⟨k, rfl⟩ := Int.eq_ofNat_of_zero_le hy
        show Nat.gcd k ((m % k : Nat)) = Nat.gcd m k
        rw [Nat.gcd_comm k, ← Nat.gcd_rec, Nat.gcd_comm]
      rw [this]
theorem divisor_ok (x y : Int) (s : Dice) (hx : 0 ≤ x) (hy : 0 ≤ y) (hz : y < 1000000) : m_divisor [.val (.int x), .val (.int y)] s = .ok (.int (Int.gcd x y)) s := by
  refine fn_ret ((xb_step (ρ' := [.val (.int (Int.gcd x y)), .val (.int 0)]) ?_).trans (xb_ret rfl))
  exact div_loop (fun j => ms_divisor[j]?) s FUEL x y hx hy (by unfold FUEL; omega)
theorem lowest_ok (x y : Int) (s : Dice) (hx : 0 ≤ x) (hy : 0 < y) (hz : y < 1000000) : m_lowest [.val (.int x), .val (.int y)] s = .ok (.tuple [.int (x / Int.gcd x y), .int (y / Int.gcd x y)]) s := by
  have hg : 0 < (Int.gcd x y : Int) := by
    have := Int.gcd_pos_of_ne_zero_right x (Int.ne_of_gt hy)
    omega
  have hl : (Int.gcd x y : Int) ≤ y := Int.le_of_dvd hy (Int.gcd_dvd_right ..)
  have h4 := small_4000 (Int.le_of_lt hg) (by omega)
  have hn : ¬ x < 0 := by omega
  refine fn_ret ?_
  simp [c_lowest, ms_lowest, hn, divisor_ok x y s hx (Int.le_of_lt hy) hz, bin_fdiv hg h4]
theorem is_less_ok (p q r t : Int) (s : Dice) (h1 : mulOk p t = true) (h2 : mulOk r q = true) : m_is_less [.val (.tuple [.int p, .int q]), .val (.tuple [.int r, .int t])] s = .ok (.bool (decide (p * t < r * q))) s := by
  refine fn_ret ?_
  simp [c_is_less, subD, atI, ixN, bin_mul h1, bin_mul h2]
/-- the greatest of fractions, the first of those that are so -/
def grF : Option (Int × Int) → List (Int × Int) → Option (Int × Int)
  | f, [] => f
  | none, x :: r => grF (some x) r
  | some f, x :: r => grF (some (if f.1 * x.2 < x.1 * f.2 then x else f)) r
def frD (x : Int × Int) : D := .tuple [.int x.1, .int x.2]
def frO : Option (Int × Int) → D
  | none => .none
  | some x => frD x
def smF (x : Int × Int) : Prop := 0 ≤ x.1 ∧ x.1 < 2 ^ 64 ∧ 0 ≤ x.2 ∧ x.2 < 2 ^ 64
theorem gr_loop (s : Dice) : ∀ (xs : List (Int × Int)) (f : Option (Int × Int)) (y z : SV), (∀ x ∈ xs, smF x) → (∀ x, f = some x → smF x) →
    ∃ z', forL (stepF (fun j => ms_greatest[j]?) (.one 2) (.cons (.asg 1 (.ife (.or (.isN (.var 1)) (.call 0 (.cons (.var 1) (.cons (.var 2) (.nil))))) (.var 2) (.var 1))) (.nil))) (xs.map frD) [y, .val (frO f), z] s = .nx [y, .val (frO (grF f xs)), z'] s
  | [], f, y, z, _, _ => by cases f <;> exact ⟨z, rfl⟩
  | x :: xs, f, y, z, h, hf => by
    have hx := h x (List.mem_cons_self ..)
    cases f with
    | none =>
      obtain ⟨z', hz⟩ := gr_loop s xs (some x) y (.val (frD x)) (fun w hw => h w (List.mem_cons_of_mem _ hw)) (fun w e => by cases e; exact hx)
      refine ⟨z', ?_⟩
      rw [List.map_cons, forL_cons]
      simp [stepF, frO, grF] at hz ⊢
      exact hz
    | some f =>
      have hff := hf f rfl
      obtain ⟨z', hz⟩ := gr_loop s xs (some (if f.1 * x.2 < x.1 * f.2 then x else f)) y (.val (frD x)) (fun w hw => h w (List.mem_cons_of_mem _ hw)) (fun w e => by cases e; split <;> assumption)
      refine ⟨z', ?_⟩
      rw [List.map_cons, forL_cons]
      have hl := is_less_ok f.1 f.2 x.1 x.2 s (mulOk_l hff.1 hff.2.1) (mulOk_l hx.1 hx.2.1)
      have st : stepF (fun j => ms_greatest[j]?) (.one 2) (.cons (.asg 1 (.ife (.or (.isN (.var 1)) (.call 0 (.cons (.var 1) (.cons (.var 2) (.nil))))) (.var 2) (.var 1))) (.nil)) (frD x) [y, .val (frD f), z] s = .nx [y, .val (frD (if f.1 * x.2 < x.1 * f.2 then x else f)), .val (frD x)] s := by
        by_cases hc : f.1 * x.2 < x.1 * f.2
        · simp [stepF, frD, ms_greatest, hl, hc]
        · simp [stepF, frD, ms_greatest, hl, hc]
      show (stepF _ _ _ (frD x) [y, .val (frD f), z] s).bind _ = _
      rw [st]
      exact hz
theorem greatest_ok (xs : List (Int × Int)) (s : Dice) (h : ∀ x ∈ xs, smF x) : m_greatest [.val (.list (xs.map frD))] s = .ok (frO (grF none xs)) s := by
  obtain ⟨z', hz⟩ := gr_loop s xs none (.val (.list (xs.map frD))) .no h (fun _ e => by cases e)
  refine fn_ret ?_
  show xb _ (.cons _ (.cons (.fors _ _ _) _)) [.val (.list (xs.map frD)), .no, .no] s = _
  rw [xb_step (ρ' := [.val (.list (xs.map frD)), .val .none, .no]) (s1 := s) (by simp)]
  rw [xb_step (ρ' := [.val (.list (xs.map frD)), .val (frO (grF none xs)), z']) (s1 := s) (by rw [xs_fors]; simp; exact hz)]
  simp
theorem ints_map {α : Type} {q : α → Int} : ∀ {l : List α}, intsD (l.map fun a => .int (q a)) = some (l.map q)
  | [] => rfl
  | a :: l => by
    show (intsD (l.map fun a => .int (q a))).map (q a :: ·) = _
    rw [ints_map]
    rfl
/-- the places of a way are there -/
def There (rows : List Nt.Row) (w : Way) : Prop := ∀ x ∈ w, x.1 < rows.length ∧ x.2 < (rowAt rows x.1).length
theorem measure_ok {rows : List Nt.Row} {w : Way} (h : There rows w) (hw : w.length ≤ 1000) (s : Dice) : m_measure [.val (rowsT rows), .val (wayT w)] s = .ok (.tuple [.int (dlS rows w), .int (bkS rows w)]) s := by
  refine fn_ret2 (ρ := [.val (rowsT rows), .val (wayT w), .no, .no, .no, .no]) rfl ?_
  have c1 : ev (fun j => ms_measure[j]?) (.comp e_measure_0 [3, 4] (.tup (.cons (.one 3) (.cons (.one 4) (.nil)))) (.seq (.var 1)) (.non)) [.val (rowsT rows), .val (wayT w), .no, .no, .no, .no] s = .ok (.list (w.map fun x => arcD (arcAt rows x))) s := by
    rw [ev_comp]
    have e1 : evI (fun j => ms_measure[j]?) (.seq (.var 1)) [.val (rowsT rows), .val (wayT w), .no, .no, .no, .no] s = .ok (w.map pairD) s := by simp [wayT]
    rw [e1, Co.bind_ok, Co.comp_map (x := fun x => arcD (arcAt rows x)) (fun x hx => ?_) (by have := sz_le (n := w.length) (by omega); omega)]
    · rfl
    · obtain ⟨h1, h2⟩ := h x hx
      have q1 : subD (rowsT rows) (.int (x.1 : Nat)) = some (rowT (rowAt rows x.1)) := by
        show atI (rows.map rowT) (x.1 : Nat) = _
        rw [Co.atI_nat, List.getElem?_map, List.getElem?_eq_getElem h1]
        unfold rowAt
        rw [List.getD_eq_getElem?_getD, List.getElem?_eq_getElem h1]
        rfl
      have q2 : subD (rowT (rowAt rows x.1)) (.int (x.2 : Nat)) = some (arcD (arcAt rows x)) := by
        show atI ((rowAt rows x.1).map arcD) (x.2 : Nat) = _
        rw [Co.atI_nat, List.getElem?_map, List.getElem?_eq_getElem h2]
        unfold arcAt
        rw [List.getD_eq_getElem?_getD, List.getElem?_eq_getElem h2]
        rfl
      generalize rowsT rows = RR at q1
      generalize rowT (rowAt rows x.1) = r1 at q1 q2
      simp [itemS, e_measure_0, pairD, nD, q1, q2]
  unfold c_measure
  rw [xb_step (ρ' := [.val (rowsT rows), .val (wayT w), .val (.list (w.map fun x => arcD (arcAt rows x))), .no, .no, .no]) (s1 := s) (by
    rw [xs_asg, c1, out_ok]
    simp only [setS_0, setS_s, Option.map_some, oopt_some])]
  have part : ∀ (e : CE) (q : Arc → Int), (∀ a : Arc, itemS (fun j => ms_measure[j]?) e [5] (.one 5) (.non) [.val (rowsT rows), .val (wayT w), .val (.list (w.map fun x => arcD (arcAt rows x))), .no, .no, .no] (arcD a) s = .ok (some (.int (q a))) s) →
      ev (fun j => ms_measure[j]?) (.blt .sum (.cons (.comp e [5] (.one 5) (.seq (.var 2)) (.non)) (.nil))) [.val (rowsT rows), .val (wayT w), .val (.list (w.map fun x => arcD (arcAt rows x))), .no, .no, .no] s = .ok (.int ((w.map fun x => q (arcAt rows x)).sum)) s := fun e q hq => by
    have e1 : evI (fun j => ms_measure[j]?) (.seq (.var 2)) [.val (rowsT rows), .val (wayT w), .val (.list (w.map fun x => arcD (arcAt rows x))), .no, .no, .no] s = .ok (w.map fun x => arcD (arcAt rows x)) s := by
      rw [evI_seq, ev_var]
      rfl
    rw [ev_blt, evL_cons, ev_comp, e1, Co.bind_ok, Co.comp_map (x := fun x => .int (q (arcAt rows x))) (fun x _ => hq _) (by have := sz_le (n := w.length) (by omega); omega), Co.bind_ok, Co.bind_ok, evL_nil, Co.bind_ok, Co.bind_ok, blt_sum_l, ints_map]
    rfl
  have p1 := part e_measure_1 (fun a => a.dl) (fun a => by
    have q : subD (arcD a) (.int 1) = some (.int a.dl) := rfl
    generalize arcD a = ad at q
    simp [itemS, e_measure_1, q])
  have p2 := part e_measure_2 (fun a => a.bk) (fun a => by
    have q : subD (arcD a) (.int 2) = some (.int a.bk) := rfl
    generalize arcD a = ad at q
    simp [itemS, e_measure_2, q])
  rw [xb_ret (d := .tuple [.int (dlS rows w), .int (bkS rows w)]) (s1 := s) (by
    rw [xs_ret]
    simp only [ev_tup, evL_cons, evL_nil, p1, p2, Co.bind_ok]
    rw [if_pos (show ([_, _] : List D).length ≤ sizeLine from sz2)]
    rfl)]
end Pg

/-! The rings in the program's order; the slowest. -/
namespace Pg
open PySem PySem.Spec PyProof.Rows L2 Co Nt
/-- the rings as the program sorts them -/
def ringsP (rows : List Nt.Row) : List Way := (piles rows rows.length).mergeSort fun a b => PySem.W.dataLe false id (wayT a) (wayT b)
theorem ringsP_D (rows : List Nt.Row) : (ringsP rows).map wayT = sortD ((piles rows rows.length).map wayT) := List.map_mergeSort fun _ _ _ _ => rfl
theorem ringsP_perm {rows : List Nt.Row} (B : RB rows) : (ringsP rows).Perm (ringsAll (evs rows)) := (List.mergeSort_perm _ _).trans (piles_perm B)
theorem rings_of_P {rows : List Nt.Row} (B : RB rows) (s : Dice) : m_rings_of [.val (rowsT rows)] s = .ok (.list ((ringsP rows).map wayT)) s := by
  rw [rings_of_ok B s, ringsP_D]
theorem way_there {rows : List Nt.Row} {w : Way} (h : w ∈ ringsAll (evs rows)) : There rows w := by
  obtain ⟨f, _, _, hc⟩ := rings_chain h
  intro x hx
  obtain ⟨r, ar, u, h1, h2, _⟩ := hc.there x hx
  have l1 := (List.getElem?_eq_some_iff.mp h1).1
  refine ⟨l1, ?_⟩
  unfold rowAt
  rw [List.getD_eq_getElem?_getD, h1]
  exact (List.getElem?_eq_some_iff.mp h2).1
def ratF (rows : List Nt.Row) (w : Way) : Int × Int := (dlS rows w / Int.gcd (dlS rows w) (bkS rows w), bkS rows w / Int.gcd (dlS rows w) (bkS rows w))
theorem ratio_ok {rows : List Nt.Row} {w : Way} (h : There rows w) (hw : w.length ≤ 1000) (h0 : 0 ≤ dlS rows w) (h1 : 0 < bkS rows w) (h2 : bkS rows w < 1000000) (s : Dice) : m_ratio [.val (rowsT rows), .val (wayT w)] s = .ok (frD (ratF rows w)) s := by
  have me := measure_ok h hw s
  have lo := lowest_ok (dlS rows w) (bkS rows w) s h0 h1 h2
  unfold ratF frD
  generalize rowsT rows = RR at *
  generalize wayT w = WW at *
  refine fn_ret2 (ρ := [.val RR, .val WW, .no, .no]) rfl ?_
  simp [c_ratio, ms_ratio, me, lo]
theorem ext_short {g : Gr} {first : Nat} (hg : OkG g) : ∀ (f : Nat) (it : Nat × Way), OkIt g first it → ∀ w ∈ ext g first f it, w.length ≤ g.length
  | 0, it, _, w, hw => by cases hw
  | f + 1, it, ho, w, hw => by
    rcases List.mem_append.mp (show w ∈ imm g first it ++ (kids g first it).flatMap (ext g first f) from hw) with h | h
    · obtain ⟨i, _, rfl⟩ := mem_immL h
      have := ho.len
      simp
      omega
    · rw [List.mem_flatMap] at h
      obtain ⟨k, hk, h⟩ := h
      exact ext_short hg f k (ho.kid hg hk).1 w h
theorem ring_short {rows : List Nt.Row} (B : RB rows) {w : Way} (h : w ∈ ringsAll (evs rows)) : w.length ≤ 5 := by
  unfold ringsAll at h
  rw [List.mem_flatMap] at h
  obtain ⟨f, hf, h⟩ := h
  have hf := List.mem_range.mp hf
  have := ext_short B.ok _ _ (OkIt.start hf) w h
  have Bl := B.len
  rw [evs_len] at this
  omega
/-- rows of a net, of a few arcs more at most -/
structure NB (rows : List Nt.Row) : Prop where
  rb : RB rows
  v : VRows rows
  d : ∀ r ∈ rows, ∀ a ∈ r, 0 ≤ a.dl ∧ a.dl ≤ 100 ∧ a.bk ≤ 100
theorem sum_bd {α : Type} {q : α → Int} {c : Int} : ∀ {l : List α}, (∀ x ∈ l, 0 ≤ q x ∧ q x ≤ c) → 0 ≤ (l.map q).sum ∧ (l.map q).sum ≤ l.length * c
  | [], _ => by simp
  | x :: l, h => by
    obtain ⟨h1, h2⟩ := h x (List.mem_cons_self ..)
    obtain ⟨h3, h4⟩ := sum_bd (q := q) (c := c) fun y hy => h y (List.mem_cons_of_mem _ hy)
    rw [List.map_cons, List.sum_cons, List.length_cons]
    refine ⟨by omega, ?_⟩
    have : ((l.length + 1 : Nat) : Int) * c = l.length * c + c := by rw [Int.natCast_add, Int.add_mul]; simp
    omega
theorem arc_in {rows : List Nt.Row} {x : Nat × Nat} (h : x.1 < rows.length ∧ x.2 < (rowAt rows x.1).length) : ∃ r ∈ rows, arcAt rows x ∈ r := by
  refine ⟨rows[x.1], List.getElem_mem h.1, ?_⟩
  have e : rowAt rows x.1 = rows[x.1] := by
    unfold rowAt
    rw [List.getD_eq_getElem?_getD, List.getElem?_eq_getElem h.1]
    rfl
  unfold arcAt
  rw [List.getD_eq_getElem?_getD, List.getElem?_eq_getElem h.2]
  show (rowAt rows x.1)[x.2]'h.2 ∈ rows[x.1]
  exact e ▸ (List.getElem_mem h.2 : (rowAt rows x.1)[x.2]'h.2 ∈ rowAt rows x.1)
theorem ring_bd {rows : List Nt.Row} (N : NB rows) {w : Way} (h : w ∈ ringsAll (evs rows)) : There rows w ∧ w.length ≤ 5 ∧ 0 ≤ dlS rows w ∧ dlS rows w ≤ 500 ∧ 1 ≤ bkS rows w ∧ bkS rows w ≤ 500 := by
  have th := way_there h
  have sh := ring_short N.rb h
  obtain ⟨d1, d2⟩ := sum_bd (q := fun x => (arcAt rows x).dl) (c := 100) (l := w) fun x hx => by
    obtain ⟨r, hr, ha⟩ := arc_in (th x hx)
    have := N.d r hr _ ha
    exact ⟨this.1, this.2.1⟩
  obtain ⟨b1, b2⟩ := sum_bd (q := fun x => (arcAt rows x).bk) (c := 100) (l := w) fun x hx => by
    obtain ⟨r, hr, ha⟩ := arc_in (th x hx)
    exact ⟨N.v.bk r hr _ ha, (N.d r hr _ ha).2.2⟩
  have rb := ring_bk N.v h
  have hd : dlS rows w = (w.map fun x => (arcAt rows x).dl).sum := rfl
  have hb : bkS rows w = (w.map fun x => (arcAt rows x).bk).sum := rfl
  refine ⟨th, sh, ?_, ?_, rb, ?_⟩ <;> omega
theorem rat_small {rows : List Nt.Row} (N : NB rows) {w : Way} (h : w ∈ ringsAll (evs rows)) : smF (ratF rows w) := by
  obtain ⟨_, _, h1, h2, h3, h4⟩ := ring_bd N h
  unfold smF ratF
  have g0 : (0 : Int) ≤ (Int.gcd (dlS rows w) (bkS rows w) : Nat) := by omega
  have a1 := Int.ediv_nonneg h1 g0
  have a2 := Int.ediv_le_self (Int.gcd (dlS rows w) (bkS rows w) : Nat) h1
  have a3 := Int.ediv_nonneg (show 0 ≤ bkS rows w by omega) g0
  have a4 := Int.ediv_le_self (Int.gcd (dlS rows w) (bkS rows w) : Nat) (show 0 ≤ bkS rows w by omega)
  rw [two64]
  refine ⟨a1, ?_, a3, ?_⟩ <;> omega
/-- the slowest of all rings, as the program finds it -/
def slowP (rows : List Nt.Row) : Option (Int × Int) := grF none ((ringsP rows).map (ratF rows))
theorem slowest_of_ok {rows : List Nt.Row} (N : NB rows) (s : Dice) : m_slowest_of [.val (rowsT rows)] s = .ok (frO (slowP rows)) s := by
  have mem : ∀ w ∈ ringsP rows, w ∈ ringsAll (evs rows) := fun w hw => (ringsP_perm N.rb).mem_iff.mp hw
  have hl : (ringsP rows).length ≤ 100000 := by
    unfold ringsP
    rw [List.length_mergeSort]
    have := piles_len N.rb rows.length (Nat.le_refl _)
    have := N.rb.len
    omega
  have gr_ok := greatest_ok ((ringsP rows).map (ratF rows)) s fun x hx => by
    obtain ⟨w, hw, rfl⟩ := List.mem_map.mp hx
    exact rat_small N (mem w hw)
  have ro := rings_of_P N.rb s
  refine fn_ret2 (ρ := [.val (rowsT rows), .no]) rfl ?_
  have cp : ev (fun j => ms_slowest_of[j]?) (.comp e_slowest_of_0 [1] (.one 1) (.seq (.call 1 (.cons (.var 0) (.nil)))) (.non)) [.val (rowsT rows), .no] s = .ok (.list (((ringsP rows).map (ratF rows)).map frD)) s := by
    rw [ev_comp]
    have e1 : evI (fun j => ms_slowest_of[j]?) (.seq (.call 1 (.cons (.var 0) (.nil)))) [.val (rowsT rows), .no] s = .ok ((ringsP rows).map wayT) s := by
      rw [evI_seq, ev_call]
      simp only [evA_var, evA_nil, getV_0, getV_s, opt_some, Co.bind_ok]
      show (m_rings_of [.val (rowsT rows)] s).bind _ = _
      rw [ro]
      rfl
    rw [e1, Co.bind_ok, Co.comp_map (x := fun w => frD (ratF rows w)) (fun w hw => ?_) (by have := sz_le hl; omega), List.map_map]
    · rfl
    · obtain ⟨t1, t2, t3, t4, t5, t6⟩ := ring_bd N (mem w hw)
      have ra := ratio_ok t1 (by omega) t3 (by omega) (by omega) s
      generalize rowsT rows = RR at ra
      generalize wayT w = WW at ra
      simp [itemS, e_slowest_of_0, ms_slowest_of, ra]
  unfold c_slowest_of
  rw [xb_ret (d := frO (slowP rows)) (s1 := s) (by
    rw [xs_ret, ev_call]
    show ((evA _ (.cons (.comp e_slowest_of_0 [1] (.one 1) (.seq (.call 1 (.cons (.var 0) (.nil)))) (.non)) .nil) _ s).bind _).out _ = _
    rw [evA_comp, cp, Co.bind_ok, evA_nil, Co.bind_ok, Co.bind_ok]
    show (m_greatest [.val (.list (((ringsP rows).map (ratF rows)).map frD))] s).out _ = _
    rw [gr_ok]
    rfl)]
end Pg

namespace Co
open PySem PySem.Spec PyProof.Rows L2
/-- a comprehension over a range whose items throw the dice -/
theorem comp_exN {β : Type} [Inhabited β] {f : β → D} {Q : Nat → β → Prop} {g : D → Dice → Res (Option D)} : ∀ {n m : Nat} {lo : Int} {k : Nat} {s : Dice}, (∀ i, i < n → ∀ s, ∃ z s', g (.int (lo + (i : Nat))) s = .ok (some (f z)) s' ∧ Q (m + i) z) → k + n ≤ sizeLine →
    ∃ (zs : List β) (s' : Dice), compL (rngD lo n) g k s = .ok (zs.map f) s' ∧ zs.length = n ∧ ∀ i (h : i < zs.length), Q (m + i) zs[i]
  | 0, m, lo, k, s, h, hz => ⟨[], s, rfl, rfl, fun i h => absurd h (Nat.not_lt_zero _)⟩
  | n + 1, m, lo, k, s, h, hz => by
    obtain ⟨z, s1, h1, q1⟩ := h 0 (by omega) s
    have e0 : lo + ((0 : Nat) : Int) = lo := by omega
    rw [e0] at h1
    obtain ⟨zs, s2, h2, l2, q2⟩ := comp_exN (f := f) (Q := Q) (g := g) (n := n) (m := m + 1) (lo := lo + 1) (k := k + 1) (s := s1) (fun i hi s => by
      obtain ⟨z, s', a, b⟩ := h (i + 1) (by omega) s
      have e1 : lo + ((i + 1 : Nat) : Int) = lo + 1 + (i : Nat) := by omega
      have e2 : m + (i + 1) = m + 1 + i := by omega
      rw [e1] at a
      rw [e2] at b
      exact ⟨z, s', a, b⟩) (by omega)
    refine ⟨z :: zs, s2, ?_, by rw [List.length_cons, l2], fun i hi => ?_⟩
    · rw [rngD_succ, compL_cons, h1]
      show (if k < sizeLine then _ else _) = _
      rw [if_pos (by omega), h2]
      rfl
    · cases i with
      | zero => exact q1
      | succ i =>
        rw [show m + (i + 1) = m + 1 + i by omega]
        exact q2 i (by rw [List.length_cons] at hi; omega)
theorem rep_one {n : Nat} {x : D} : repD n [x] = List.replicate n x := by
  unfold repD
  induction n with
  | zero => rfl
  | succ n ih =>
    rw [List.replicate_succ, List.flatten_cons, ih, List.replicate_succ]
    rfl
theorem eqE {G : Gam} {ρ : Co.Env} {s s1 s2 : Dice} {a b : CE} {x y : D} {z : Bool} (h : ev G a ρ s = .ok x s1) (g : ev G b ρ s1 = .ok y s2) (e : eqD x y = some z) : ev G (.cmp .eq a b) ρ s = .ok (.bool z) s2 := by
  rw [ev_cmp, h, Co.bind_ok, g, Co.bind_ok, cmp_eq, e]
  rfl
theorem neE {G : Gam} {ρ : Co.Env} {s s1 s2 : Dice} {a b : CE} {x y : D} {z : Bool} (h : ev G a ρ s = .ok x s1) (g : ev G b ρ s1 = .ok y s2) (e : eqD x y = some z) : ev G (.cmp .ne a b) ρ s = .ok (.bool (!z)) s2 := by
  rw [ev_cmp, h, Co.bind_ok, g, Co.bind_ok, cmp_ne, e]
  rfl
end Co
namespace Pg
open PySem PySem.Spec PyProof.Rows L2 Co Fm
@[simp] theorem oD_n : oD none = .none := rfl
@[simp] theorem oD_s {i : Int} : oD (some i) = .int i := rfl
theorem roll_n (n : Int) (s : Dice) (hn : 0 < n) (hz : n < 1000000) : ∃ (r : Nat) (s' : Dice), m_law_roll [.dice, .val (.int n)] s = .ok (.int r) s' ∧ (r : Int) < n := by
  obtain ⟨r, s', h, h1, h2⟩ := roll_ok n s hn hz
  refine ⟨r.toNat, s', ?_, by omega⟩
  rw [h, Int.toNat_of_nonneg h1]
theorem law_at_ok {b : Nat} {ns rs : List (Option Int)} (g : GF b ns rs) (hL : rs.length ≤ 1000) (p : Nat) (hp : p ≤ 1000000000000) (s : Dice) :
    m_law_at [.val (formD b ns rs), .val (.int p)] s = .ok (oD (Fm.numAt b ns rs p)) s := by
  obtain ⟨V, hV⟩ : ∃ V, V = formD b ns rs := ⟨_, rfl⟩
  have h0 := g.pos
  have gl := g.len
  have hs : ∀ (xs : List (Option Int)) (i : Nat), i < xs.length → subD (.tuple (xs.map oD)) (.int (i : Nat)) = some (oD (xs.getD i none)) := fun xs i h => atI_oD h
  rw [← hV]
  refine fn_ret2 (ρ := [.val V, .val (.int p), .no, .no, .no, .no]) rfl ?_
  unfold c_law_at
  rw [xb_step (ρ' := [.val V, .val (.int p), .no, .val (.int b), .val (.tuple (ns.map oD)), .val (.tuple (rs.map oD))]) (s1 := s) (by rw [hV]; simp [formD])]
  by_cases h : p < b + rs.length
  · have e : Fm.numAt b ns rs p = ns.getD p none := by unfold Fm.numAt; rw [if_pos h]
    have h1 : p < ns.length := by omega
    have q1 := hs ns p h1
    rw [e]
    simp [-List.getD_eq_getElem?_getD, h1, q1]
  · obtain ⟨d, hd⟩ : ∃ d, p = b + d := ⟨p - b, by omega⟩
    have e : Fm.numAt b ns rs p = (ns.getD (b + d % rs.length) none).map fun a => a + (d / rs.length : Nat) * (rs.getD (d % rs.length) none).getD 0 := by
      unfold Fm.numAt
      rw [if_neg h]
      have : p - b = d := by omega
      rw [this]
    rw [e]
    have h1 : ¬ p < ns.length := by omega
    have hm := Nat.mod_lt d h0
    have e1 : (p : Int) - b = d := by omega
    have e2 := bin_modN (a := d) h0
    have e3 := bin_fdivN (a := d) h0 (by omega)
    have s1 := hs ns (b + d % rs.length) (by rw [g.len]; omega)
    have s2 := hs rs (d % rs.length) hm
    have nn := g.nn _ hm
    have hdv : d / rs.length ≤ d := Nat.div_le_self _ _
    generalize d / rs.length = q at *
    generalize d % rs.length = r at *
    rw [Int.natCast_add] at s1
    cases h2 : ns.getD (b + r) none with
    | none =>
      rw [h2] at nn
      cases h3 : rs.getD r none with
      | some z => rw [h3] at nn; cases nn
      | none =>
        rw [h3] at s2
        simp [h1, e1, e2, s2, oD]
    | some a =>
      rw [h2] at s1 nn
      cases h3 : rs.getD r none with
      | none => rw [h3] at nn; cases nn
      | some z =>
        rw [h3] at s2
        have b5 : binD .mul (.int (q : Nat)) (.int z) = some (.int ((q : Nat) * z)) := bin_mul (mulOk_l (by omega) (by rw [two64]; omega))
        simp [h1, e1, e2, e3, s1, s2, b5, oD]
/-- as far as the row is long -/
def goes (x : Seq) (n b t : Nat) : Bool := (List.range (n - 2 * t - b)).all fun i => decide (At x t (b + i))
theorem goes_ok {x : Seq} {n b t : Nat} (hn : n ≤ 100000) (ht : b + 2 * t ≤ n) (s : Dice) : m_law_goes_on [.val (.list ((List.range n).map fun i => oD (x i))), .val (.int b), .val (.int t)] s = .ok (.bool (goes x n b t)) s := by
  have m2 : binD .mul (.int 2) (.int (t : Nat)) = some (.int (2 * (t : Nat))) := bin_mul (mulOk_l (by decide) (by decide))
  refine fn_ret2 (ρ := [.val (.list ((List.range n).map fun i => oD (x i))), .val (.int b), .val (.int t), .no, .no, .no, .no]) rfl ?_
  have lp := for_all (f := stepF (fun j => ms_law_goes_on[j]?) (.one 3) b_law_goes_on_0) (P := fun ρ => ∃ y3 y4 y5 y6, ρ = [.val (.list ((List.range n).map fun i => oD (x i))), .val (.int b), .val (.int t), y3, y4, y5, y6])
    (q := fun i => decide (At x t (b + i))) (s := s) (d := .bool false) (n := n - 2 * t - b) (m := 0) (lo := b)
    (ρ := [.val (.list ((List.range n).map fun i => oD (x i))), .val (.int b), .val (.int t), .no, .no, .no, .no]) (fun i hi ρ ⟨y3, y4, y5, y6, e⟩ => by
      subst e
      have q1 := sub_rng (g := fun i => oD (x i)) (n := n) (i := b + i) (by omega)
      have q2 := sub_rng (g := fun i => oD (x i)) (n := n) (i := b + i + t) (by omega)
      have q3 := sub_rng (g := fun i => oD (x i)) (n := n) (i := b + i + 2 * t) (by omega)
      have c2 : ((2 * t : Nat) : Int) = 2 * (t : Int) := by omega
      rw [Int.natCast_add] at q1
      rw [Int.natCast_add, Int.natCast_add] at q2 q3
      rw [c2] at q3
      rw [Nat.zero_add]
      have hA : At x t (b + i) ↔ (x (b + i + t)).isNone = (x (b + i)).isNone ∧ (x (b + i + 2 * t)).isNone = (x (b + i)).isNone ∧ v x (b + i + 2 * t) + v x (b + i) = 2 * v x (b + i + t) := Iff.rfl
      unfold v at hA
      cases h1 : x (b + i) <;> cases h2 : x (b + i + t) <;> cases h3 : x (b + i + 2 * t) <;> rw [h1, h2, h3] at hA <;> simp only [h1, h2, h3, oD_n, oD_s] at q1 q2 q3 <;> simp at hA
      · simp [stepF, b_law_goes_on_0, m2, q1, q2, q3, hA]
      · simp [stepF, b_law_goes_on_0, m2, q1, q2, q3, hA]
      · simp [stepF, b_law_goes_on_0, m2, q1, q2, q3, hA]
      · simp [stepF, b_law_goes_on_0, m2, q1, q2, q3, hA]
      · simp [stepF, b_law_goes_on_0, m2, q1, q2, q3, hA]
      · simp [stepF, b_law_goes_on_0, m2, q1, q2, q3, hA]
      · simp [stepF, b_law_goes_on_0, m2, q1, q2, q3, hA]
      · rename_i u w z
        by_cases h : z + u = 2 * w
        · have h' : w - u = z - w := by omega
          simp [stepF, b_law_goes_on_0, m2, q1, q2, q3, hA, h, h']
        · have h' : ¬ w - u = z - w := by omega
          simp [stepF, b_law_goes_on_0, m2, q1, q2, q3, hA, h, h']) ⟨_, _, _, _, rfl⟩
  have z0 : (List.range (n - 2 * t - b)).map (0 + ·) = List.range (n - 2 * t - b) := by
    rw [show ((0 + ·) : Nat → Nat) = id by funext z; exact Nat.zero_add z, List.map_id]
  rw [z0] at lp
  have e2 : evI (fun j => ms_law_goes_on[j]?) (.rng (.var 1) (.bin .sub (.blt .len (.cons (.var 0) (.nil))) (.bin .mul (.cst (.int 2)) (.var 2)))) [.val (.list ((List.range n).map fun i => oD (x i))), .val (.int b), .val (.int t), .no, .no, .no, .no] s = .ok (rngD ((b : Nat) : Int) (n - 2 * t - b)) s :=
    evI_rngN (lo := b) (n := n - 2 * t - b) rfl (j := (n : Int) - 2 * (t : Nat)) (by simp [m2]) (by omega) (by omega)
  unfold c_law_goes_on goes
  by_cases hq : ((List.range (n - 2 * t - b)).all fun i => decide (At x t (b + i))) = true
  · rw [if_pos hq] at lp
    obtain ⟨ρ', l1, y3, y4, y5, y6, rfl⟩ := lp
    rw [xb_step (ρ' := [.val (.list ((List.range n).map fun i => oD (x i))), .val (.int b), .val (.int t), y3, y4, y5, y6]) (s1 := s) (by
      rw [xs_fors, e2]
      exact l1)]
    rw [hq]
    simp
  · rw [if_neg hq] at lp
    rw [xb_ret (d := .bool false) (s1 := s) (by
      rw [xs_fors, e2]
      exact lp)]
    have : ((List.range (n - 2 * t - b)).all fun i => decide (At x t (b + i))) = false := by simpa using hq
    rw [this]
theorem goes_iff {x : Seq} {n b t L : Nat} (hL : Stp x b L) (h0 : 0 < L) (hn : b + 2 * L + 2 * t ≤ n) : goes x n b t = true ↔ Stp x b t := by
  unfold goes
  rw [List.all_eq_true]
  refine ⟨fun h => window hL h0 fun p hp hl => ?_, fun h i _ => decide_eq_true (h _ (by omega))⟩
  have := of_decide_eq_true (h (p - b) (List.mem_range.mpr (by omega)))
  rwa [show b + (p - b) = p by omega] at this
theorem goes_down {x : Seq} {n c t : Nat} (h : Stp x (c + 1) t) (hn : c + 2 * t < n) : goes x n c t = decide (At x t c) := by
  unfold goes
  rw [Bool.eq_iff_iff, List.all_eq_true, decide_eq_true_eq]
  refine ⟨fun h => ?_, fun a i _ => decide_eq_true ?_⟩
  · exact of_decide_eq_true (h 0 (List.mem_range.mpr (by omega)))
  · by_cases e : i = 0
    · rw [e]; exact a
    · exact h _ (by omega)
end Pg

namespace Co
open PySem PySem.Spec PyProof.Rows L2
theorem fn_exc2 {G : Gam} {n : Nat} {b : CB} {vs : List SV} {ρ : Co.Env} {s s1 : Dice} {c : Str} (e : vs ++ List.replicate (n - vs.length) .no = ρ) (h : xb G b ρ s = .exc c s1) : fnD G n b vs s = .exc c s1 := by
  unfold fnD
  rw [e, h]
theorem xb_exc {G : Gam} {ρ : Co.Env} {s s1 : Dice} {st : CS} {a : CB} {c : Str} (h : xs G st ρ s = .exc c s1) : xb G (.cons st a) ρ s = .exc c s1 := by
  rw [xb_cons, h]
  rfl
theorem orT {G : Gam} {ρ : Co.Env} {s s1 : Dice} {a b : CE} (h : ev G a ρ s = .ok (.bool true) s1) : ev G (.or a b) ρ s = .ok (.bool true) s1 := by
  rw [ev_or, h, asBool_ok]
  rfl
end Co
namespace Pg
open PySem PySem.Spec PyProof.Rows L2 Co Fm
section
variable {V : D} {s : Dice}
theorem pow6 : binD .pow (.int 10) (.int 6) = some (.int 1000000) := rfl
theorem pow9 : binD .pow (.int 10) (.int 9) = some (.int 1000000000) := rfl
theorem isf_no (h : isTupleD V = some (.bool false)) : m_is_form [.val V] s = .ok (.bool false) s := by
  have h : bltD .isTuple [V] = some (.bool false) := h
  refine fn_ret2 (ρ := [.val V, .no, .no, .no, .no, .no]) rfl ?_
  unfold c_is_form
  rw [xb_ret (d := .bool false) (s1 := s) (by simp [h])]
theorem isf_len {xs : List D} (h : xs.length ≠ 3) : m_is_form [.val (.tuple xs)] s = .ok (.bool false) s := by
  have h : ¬ ((xs.length : Nat) : Int) = 3 := by omega
  refine fn_ret2 (ρ := [.val (.tuple xs), .no, .no, .no, .no, .no]) rfl ?_
  unfold c_is_form
  rw [xb_ret (d := .bool false) (s1 := s) (by
    rw [ifT (orE (x := false) (y := true) (by simp) (orT ?_))]
    · simp
    · rw [ev_cmp]
      simp
      omega)]
theorem isf_first {x y z : D} (h : m_is_whole [.val x, .val (.int 0), .val (.int 1000000)] s = .ok (.bool false) s) : m_is_form [.val (.tuple [x, y, z])] s = .ok (.bool false) s := by
  have q := sub3_0 (x := x) (y := y) (z := z)
  refine fn_ret2 (ρ := [.val (.tuple [x, y, z]), .no, .no, .no, .no, .no]) rfl ?_
  unfold c_is_form
  rw [xb_ret (d := .bool false) (s1 := s) (by simp [ms_is_form, q, pow6, h])]
/-- the first look is passed -/
theorem isf_go {b : Nat} {y z d : D} (hb : b ≤ 1000000) (h : xb (fun j => ms_is_form[j]?) (match c_is_form with
    | .cons _ (.cons _ r) => r
    | r => r) [.val (.tuple [.int b, y, z]), .val (.int b), .val y, .val z, .no, .no] s = .ret d s) : m_is_form [.val (.tuple [.int b, y, z])] s = .ok d s := by
  have w := is_whole_ok b 0 1000000 s
  rw [decide_eq_true ⟨by omega, by omega⟩] at w
  have q := sub3_0 (x := .int b) (y := y) (z := z)
  refine fn_ret2 (ρ := [.val (.tuple [.int b, y, z]), .no, .no, .no, .no, .no]) rfl ?_
  unfold c_is_form at h ⊢
  dsimp only at h
  rw [xb_step (ρ' := [.val (.tuple [.int b, y, z]), .no, .no, .no, .no, .no]) (s1 := s) (by simp [ms_is_form, q, pow6, w])]
  rw [xb_step (ρ' := [.val (.tuple [.int b, y, z]), .val (.int b), .val y, .val z, .no, .no]) (s1 := s) (by simp)]
  exact h
theorem isf_y {b : Nat} {y z : D} (hb : b ≤ 1000000) (h : isTupleD y = some (.bool false)) : m_is_form [.val (.tuple [.int b, y, z])] s = .ok (.bool false) s := by
  have h : bltD .isTuple [y] = some (.bool false) := h
  refine isf_go hb ?_
  unfold c_is_form
  dsimp only
  rw [xb_ret (d := .bool false) (s1 := s) (by simp [h])]
theorem isf_z {b : Nat} {ys : List D} (hb : b ≤ 1000000) : m_is_form [.val (.tuple [.int b, .tuple ys, .tuple []])] s = .ok (.bool false) s := by
  have h : eqD (.tuple []) (.tuple []) = some true := rfl
  refine isf_go hb ?_
  unfold c_is_form
  dsimp only
  rw [xb_ret (d := .bool false) (s1 := s) (by simp [h])]
theorem isf_go2 {b : Nat} {ys zs : List D} {d : D} (hb : b ≤ 1000000) (hz : eqD (.tuple zs) (.tuple []) = some false) (h : xb (fun j => ms_is_form[j]?) (match c_is_form with
    | .cons _ (.cons _ (.cons _ r)) => r
    | r => r) [.val (.tuple [.int b, .tuple ys, .tuple zs]), .val (.int b), .val (.tuple ys), .val (.tuple zs), .no, .no] s = .ret d s) : m_is_form [.val (.tuple [.int b, .tuple ys, .tuple zs])] s = .ok d s := by
  refine isf_go hb ?_
  unfold c_is_form at h ⊢
  dsimp only at h ⊢
  rw [xb_step (ρ' := [.val (.tuple [.int b, .tuple ys, .tuple zs]), .val (.int b), .val (.tuple ys), .val (.tuple zs), .no, .no]) (s1 := s) (by simp [hz])]
  exact h
theorem isf_mis {b : Nat} {ys zs : List D} (hb : b ≤ 1000000) (hz : eqD (.tuple zs) (.tuple []) = some false) (hl : ys.length ≠ b + zs.length) : m_is_form [.val (.tuple [.int b, .tuple ys, .tuple zs])] s = .ok (.bool false) s := by
  refine isf_go2 hb hz ?_
  unfold c_is_form
  dsimp only
  rw [xb_ret (d := .bool false) (s1 := s) (by
    rw [ifT (orT ?_)]
    · simp
    · rw [ev_cmp]
      simp
      omega)]
theorem ctimes {ys zs : List D} {q : D → Bool} {V B : D} (hs : ys.length + zs.length ≤ 100000) (h : ∀ d ∈ ys ++ zs, m_is_time [.val d] s = .ok (.bool (q d)) s) :
    ev (fun j => ms_is_form[j]?) (.blt .all (.cons (.comp e_is_form_0 [5] (.one 5) (.seq (.bin .add (.var 2) (.var 3))) (.non)) (.nil))) [.val V, .val B, .val (.tuple ys), .val (.tuple zs), .no, .no] s = .ok (.bool ((ys ++ zs).all q)) s := by
  refine allE ?_
  have ad : binD .add (.tuple ys) (.tuple zs) = some (.tuple (ys ++ zs)) := by
    show (if _ then some (PyData.tuple _) else none) = _
    rw [if_pos (sz_le hs)]
  rw [ev_comp]
  have e1 : evI (fun j => ms_is_form[j]?) (.seq (.bin .add (.var 2) (.var 3))) [.val V, .val B, .val (.tuple ys), .val (.tuple zs), .no, .no] s = .ok ((ys ++ zs).map id) s := by simp [ad]
  rw [e1, Co.bind_ok, Co.comp_map (x := fun d => PyData.bool (q d)) (fun a ha => ?_) (by rw [List.length_append]; exact sz_le (by omega))]
  · rfl
  · have := h a ha
    simp [itemS, e_is_form_0, ms_is_form, this]
theorem isf_time {b : Nat} {ys zs : List D} {q : D → Bool} (hb : b ≤ 1000000) (hz : eqD (.tuple zs) (.tuple []) = some false) (hl : ys.length = b + zs.length) (hs : ys.length + zs.length ≤ 100000) (h : ∀ d ∈ ys ++ zs, m_is_time [.val d] s = .ok (.bool (q d)) s) (hq : (ys ++ zs).all q = false) :
    m_is_form [.val (.tuple [.int b, .tuple ys, .tuple zs])] s = .ok (.bool false) s := by
  refine isf_go2 hb hz ?_
  unfold c_is_form
  dsimp only
  have ct := ctimes (V := .tuple [.int b, .tuple ys, .tuple zs]) (B := .int b) hs h
  rw [hq] at ct
  have ln : ((ys.length : Nat) : Int) = (b : Int) + zs.length := by omega
  rw [xb_ret (d := .bool false) (s1 := s) (by
    rw [ifT (orE (x := false) (y := !false) (by simp [ln]) (notE ct))]
    simp)]
theorem isf_none {b : Nat} {ns rs : List (Option Int)} (hb : b ≤ 10000) (hl : ns.length = b + rs.length) (hL : rs.length ≤ 1000) (h0 : 0 < rs.length) (hn : ∀ a ∈ ns ++ rs, sm a) (hx : ∃ i, i < rs.length ∧ (ns.getD (b + i) none).isNone ≠ (rs.getD i none).isNone) :
    m_is_form [.val (formD b ns rs)] s = .ok (.bool false) s := by
  have hz : eqD (.tuple (rs.map oD)) (.tuple []) = some false := by
    refine eqD_f ((pl_tup (n := 0) fun x hx => ?_).mono (by decide)) ((pl_tup (n := 0) fun x hx => by cases hx).mono (by decide)) fun z => ?_
    · obtain ⟨a, _, rfl⟩ := List.mem_map.mp hx
      exact pl_oD a
    · injection z with z
      rw [List.map_eq_nil_iff] at z
      rw [z] at h0
      exact absurd h0 (by decide)
  refine isf_go2 (by omega) hz ?_
  unfold c_is_form
  dsimp only
  have ct := ctimes (s := s) (V := formD b ns rs) (B := .int b) (ys := ns.map oD) (zs := rs.map oD) (q := fun _ => true) (by rw [List.length_map, List.length_map]; omega) (fun d hd => by
    rw [← List.map_append] at hd
    obtain ⟨a, ha, rfl⟩ := List.mem_map.mp hd
    exact is_time_ok (hn a ha) s)
  have c1 : (ns.map oD ++ rs.map oD).all (fun _ => true) = true := by simp
  rw [c1] at ct
  unfold formD at ct
  have ln : (ns.length : Int) = (b : Int) + rs.length := by omega
  rw [xb_step (ρ' := [.val (.tuple [.int b, .tuple (ns.map oD), .tuple (rs.map oD)]), .val (.int b), .val (.tuple (ns.map oD)), .val (.tuple (rs.map oD)), .no, .no]) (s1 := s) (by
    rw [ifF (orE (x := false) (y := !true) (by simp [ln]) (notE ct))]
    rfl)]
  have c3 : ev (fun j => ms_is_form[j]?) (.comp e_is_form_1 [4, 5] (.tup (.cons (.one 4) (.cons (.one 5) (.nil)))) (.enm (.var 3)) (.non)) [.val (.tuple [.int b, .tuple (ns.map oD), .tuple (rs.map oD)]), .val (.int b), .val (.tuple (ns.map oD)), .val (.tuple (rs.map oD)), .no, .no] s =
      .ok (.list ((List.range rs.length).map fun i => .bool (!((ns.getD (b + i) none).isNone == (rs.getD i none).isNone)))) s := by
    rw [ev_comp]
    have e1 : evI (fun j => ms_is_form[j]?) (.enm (.var 3)) [.val (.tuple [.int b, .tuple (ns.map oD), .tuple (rs.map oD)]), .val (.int b), .val (.tuple (ns.map oD)), .val (.tuple (rs.map oD)), .no, .no] s = .ok (enmD 0 (rs.map oD)) s := by simp
    rw [e1, Co.bind_ok, comp_enm (ds := []) (x := fun i => .bool (!((ns.getD (b + i) none).isNone == (rs.getD i none).isNone))) (fun i d hd => ?_) (by rw [List.length_map]; exact sz_le (by omega)), List.length_map]
    · have : (List.range rs.length).map (0 + ·) = List.range rs.length := by
        rw [show ((0 + ·) : Nat → Nat) = id by funext z; exact Nat.zero_add z, List.map_id]
      rw [this]
      rfl
    · rw [List.getElem?_map] at hd
      have hi : i < rs.length := by
        rcases Nat.lt_or_ge i rs.length with q | q
        · exact q
        · rw [List.getElem?_eq_none q] at hd; cases hd
      have q1 : subD (.tuple (ns.map oD)) (.int ((b : Int) + i)) = some (oD (ns.getD (b + i) none)) := by
        have := atI_oD (xs := ns) (i := b + i) (by omega)
        rw [Int.natCast_add] at this
        exact this
      have er : rs.getD i none = rs[i] := by rw [List.getD_eq_getElem?_getD, List.getElem?_eq_getElem hi]; rfl
      rw [List.getElem?_eq_getElem hi] at hd
      have hd : d = oD (rs.getD i none) := by rw [er]; exact (Option.some.inj hd).symm
      subst hd
      rw [Nat.zero_add]
      generalize ns.getD (b + i) none = u at *
      generalize rs.getD i none = w at *
      cases u <;> cases w <;> simp only [oD_n, oD_s] at q1 ⊢ <;> simp [itemS, e_is_form_1, q1]
  have c4 := anyE c3
  have an : ((List.range rs.length).any fun i => !((ns.getD (b + i) none).isNone == (rs.getD i none).isNone)) = true := by
    rw [List.any_eq_true]
    obtain ⟨i, hi, h⟩ := hx
    refine ⟨i, List.mem_range.mpr hi, ?_⟩
    simpa using h
  rw [an] at c4
  rw [xb_ret (d := .bool false) (s1 := s) (by
    rw [ifT c4]
    simp)]
theorem number_bad {p : D} (h : m_is_form [.val V] s = .ok (.bool false) s) : m_number [.val V, .val p] s = .exc "InvalidForm" s := by
  have nf : m_need_form [.val V] s = .exc "InvalidForm" s := by
    refine fn_exc2 (ρ := [.val V]) rfl ?_
    unfold c_need_form
    rw [xb_exc (c := "InvalidForm") (s1 := s) (by
      rw [ifT (notE (x := false) (by simp [ms_need_form, h]))]
      rfl)]
  refine fn_exc2 (ρ := [.val V, .val p]) rfl ?_
  unfold c_number
  rw [xb_exc (c := "InvalidForm") (s1 := s) (by simp [ms_number, nf])]
theorem number_input {p : D} (h : m_is_form [.val V] s = .ok (.bool true) s) (w : m_is_whole [.val p, .val (.int 0), .val (.int 1000000000)] s = .ok (.bool false) s) : m_number [.val V, .val p] s = .exc "InvalidInput" s := by
  have nf : m_need_form [.val V] s = .ok .none s := by
    unfold m_need_form
    refine fn_nx (ρ' := [.val V]) ?_
    show xb _ _ [.val V] s = _
    simp [c_need_form, ms_need_form, h]
  refine fn_exc2 (ρ := [.val V, .val p]) rfl ?_
  unfold c_number
  rw [xb_step (ρ' := [.val V, .val p]) (s1 := s) (by simp [ms_number, nf])]
  rw [xb_exc (c := "InvalidInput") (s1 := s) (by
    rw [ifT (notE (x := false) (by simp [ms_number, pow9, w]))]
    rfl)]
theorem is_whole_bool {b : Bool} {lo hi : Int} : m_is_whole [.val (.bool b), .val (.int lo), .val (.int hi)] s = .ok (.bool false) s := by
  have h1 : bltD .isInt [.bool b] = some (.bool true) := rfl
  have h2 : bltD .isBool [.bool b] = some (.bool true) := rfl
  refine fn_ret2 (ρ := [.val (.bool b), .val (.int lo), .val (.int hi)]) rfl ?_
  simp [c_is_whole, h1, h2]
theorem is_time_bool {b : Bool} : m_is_time [.val (.bool b)] s = .ok (.bool false) s := by
  have w := is_whole_bool (b := b) (lo := -1000000000) (hi := 1000000000) (s := s)
  refine fn_ret2 (ρ := [.val (.bool b)]) rfl ?_
  simp [c_is_time, ms_is_time, pow9, w]
end
end Pg

/-! What is a net: the program's look. -/
namespace Pg
open PySem PySem.Spec PyProof.Rows L2 Co Nt
/-- a source of a net of i inputs, n events -/
def SrcOk (i n : Nat) : Src → Prop
  | .s => True
  | .u k => k < i
  | .e k => k < n
theorem SrcOk.sm {i n : Nat} (hi : i ≤ 2) (hn : n ≤ 5) : ∀ {a : Src}, SrcOk i n a → Sm a
  | .s, _ => trivial
  | .u k, h => by have h : k < i := h; show k < 10; omega
  | .e k, h => by have h : k < n := h; show k < 10; omega
theorem is_source_ok {a : Src} {i n : Nat} (hi : i ≤ 2) (hn : n ≤ 5) (h : SrcOk i n a) (s : Dice) : m_is_source [.val (srcD a), .val (.int (i : Nat)), .val (.int (n : Nat))] s = .ok (.bool true) s := by
  have sm := h.sm hi hn
  have es := eq_src sm (b := .s) trivial
  have c1 : ev (fun j => ms_is_source[j]?) (.comp e_is_source_0 [3] (.one 3) (.rng (.cst (.int 0)) (.var 1)) (.non)) [.val (srcD a), .val (.int (i : Nat)), .val (.int (n : Nat)), .no] s = .ok (.list ((List.range i).map fun k => srcD (.u k))) s := by
    refine comp_all (lo := ((0 : Nat) : Int)) (evI_rngN (lo := 0) (n := i) rfl (j := (i : Nat)) (by simp) (by omega) (by omega)) (by omega) fun k hk => ?_
    have z0 : ((0 : Nat) : Int) + (k : Nat) = (k : Nat) := by omega
    rw [z0]
    have h1 := str_dg k (by omega)
    have h2 := add_u k (by omega)
    unfold srcD
    generalize srcS (.u k) = x at h2
    generalize dgS k = y at h1 h2
    simp [itemS, e_is_source_0, h1, h2]
  have c2 : ev (fun j => ms_is_source[j]?) (.comp e_is_source_1 [3] (.one 3) (.rng (.cst (.int 0)) (.var 2)) (.non)) [.val (srcD a), .val (.int (i : Nat)), .val (.int (n : Nat)), .no] s = .ok (.list ((List.range n).map fun k => srcD (.e k))) s := by
    refine comp_all (lo := ((0 : Nat) : Int)) (evI_rngN (lo := 0) (n := n) rfl (j := (n : Nat)) (by simp) (by omega) (by omega)) (by omega) fun k hk => ?_
    have z0 : ((0 : Nat) : Int) + (k : Nat) = (k : Nat) := by omega
    rw [z0]
    have h1 := str_dg k (by omega)
    have h2 := add_e k (by omega)
    unfold srcD
    generalize srcS (.e k) = x at h2
    generalize dgS k = y at h1 h2
    simp [itemS, e_is_source_1, h1, h2]
  have ad : binD .add (.list ((List.range i).map fun k => srcD (.u k))) (.list ((List.range n).map fun k => srcD (.e k))) = some (.list (((List.range i).map fun k => srcD (.u k)) ++ ((List.range n).map fun k => srcD (.e k)))) := by
    show (if _ then some (PyData.list _) else none) = _
    rw [if_pos (by rw [List.length_map, List.length_map, List.length_range, List.length_range]; exact sz_le (by omega))]
  have isin : a ≠ .s → cmpD .inn (srcD a) (.list (((List.range i).map fun k => srcD (.u k)) ++ ((List.range n).map fun k => srcD (.e k)))) = some true := fun hs => by
    show inD _ _ = _
    unfold inD
    rw [if_pos ⟨rfl, by
      rw [List.all_eq_true]
      intro x hx
      rcases List.mem_append.mp hx with h | h
      · obtain ⟨k, _, rfl⟩ := List.mem_map.mp h; rfl
      · obtain ⟨k, _, rfl⟩ := List.mem_map.mp h; rfl⟩]
    refine congrArg some ?_
    rw [List.any_eq_true]
    refine ⟨srcD a, ?_, (eqv_iff _ _ (pl_src a sm).p (pl_src a sm).p).mpr rfl⟩
    cases a with
    | s => exact absurd rfl hs
    | u k => exact List.mem_append_left _ (List.mem_map.mpr ⟨k, List.mem_range.mpr h, rfl⟩)
    | e k => exact List.mem_append_right _ (List.mem_map.mpr ⟨k, List.mem_range.mpr h, rfl⟩)
  have is1 : bltD .isStr [srcD a] = some (.bool true) := rfl
  have es : eqD (srcD a) (.str "s") = some (decide (a = .s)) := es
  refine fn_ret2 (ρ := [.val (srcD a), .val (.int (i : Nat)), .val (.int (n : Nat)), .no]) rfl ?_
  unfold c_is_source
  rw [xb_step (ρ' := [.val (srcD a), .val (.int (i : Nat)), .val (.int (n : Nat)), .no]) (s1 := s) (by
    generalize srcD a = sd at is1
    simp [is1])]
  by_cases hs : a = .s
  · rw [decide_eq_true hs] at es
    rw [xb_ret (d := .bool true) (s1 := s) (by
      rw [xs_ret, orT (eqE (x := srcD a) (y := .str "s") (s1 := s) rfl rfl es)]
      rfl)]
  · rw [decide_eq_false hs] at es
    rw [xb_ret (d := .bool true) (s1 := s) (by
      rw [xs_ret, orE (x := false) (y := true) (eqE (x := srcD a) (y := .str "s") (s1 := s) rfl rfl es) ?_]
      · rfl
      · rw [ev_cmp, ev_var]
        simp only [getV_0, opt_some, Co.bind_ok]
        rw [ev_bin, c1, Co.bind_ok, c2, Co.bind_ok, ad]
        simp only [opt_some, Co.bind_ok, isin hs, Option.map_some])]
structure ArcOk (i n : Nat) (a : Arc) : Prop where
  src : SrcOk i n a.src
  d0 : 0 ≤ a.dl
  d9 : a.dl ≤ 9
  b0 : 0 ≤ a.bk
  b3 : a.bk ≤ 3
theorem is_arc_ok {a : Arc} {i n : Nat} (hi : i ≤ 2) (hn : n ≤ 5) (h : ArcOk i n a) (s : Dice) : m_is_arc [.val (arcD a), .val (.int (i : Nat)), .val (.int (n : Nat))] s = .ok (.bool true) s := by
  have so := is_source_ok hi hn h.src s
  have w1 := is_whole_ok a.dl 0 9 s
  rw [decide_eq_true ⟨h.d0, h.d9⟩] at w1
  have w2 := is_whole_ok a.bk 0 3 s
  rw [decide_eq_true ⟨h.b0, h.b3⟩] at w2
  have t1 : bltD .isTuple [arcD a] = some (.bool true) := rfl
  have t2 : bltD .len [arcD a] = some (.int 3) := rfl
  have s0 : subD (arcD a) (.int 0) = some (srcD a.src) := rfl
  have s1 : subD (arcD a) (.int 1) = some (.int a.dl) := rfl
  have s2 : subD (arcD a) (.int 2) = some (.int a.bk) := rfl
  generalize arcD a = ad at *
  generalize srcD a.src = sd at *
  refine fn_ret2 (ρ := [.val ad, .val (.int (i : Nat)), .val (.int (n : Nat))]) rfl ?_
  unfold c_is_arc
  rw [xb_step (ρ' := [.val ad, .val (.int (i : Nat)), .val (.int (n : Nat))]) (s1 := s) (by simp [ms_is_arc, t1, t2, s0, so])]
  simp [ms_is_arc, s1, s2, w1, w2]
theorem is_row_ok {r : Nt.Row} {i n : Nat} (hi : i ≤ 2) (hn : n ≤ 5) (hl : r.length ≤ 4) (h : ∀ a ∈ r, ArcOk i n a) (s : Dice) : m_is_row [.val (rowT r), .val (.int (i : Nat)), .val (.int (n : Nat))] s = .ok (.bool true) s := by
  have t1 : bltD .isTuple [rowT r] = some (.bool true) := rfl
  have t2 : bltD .len [rowT r] = some (.int ((r.length : Nat) : Int)) := by
    show some (PyData.int (((r.map arcD).length : Nat) : Int)) = _
    rw [List.length_map]
  have c1 : ev (fun j => ms_is_row[j]?) (.comp e_is_row_0 [3] (.one 3) (.seq (.var 0)) (.non)) [.val (rowT r), .val (.int (i : Nat)), .val (.int (n : Nat)), .no] s = .ok (.list (r.map fun _ => .bool true)) s := by
    rw [ev_comp]
    have e1 : evI (fun j => ms_is_row[j]?) (.seq (.var 0)) [.val (rowT r), .val (.int (i : Nat)), .val (.int (n : Nat)), .no] s = .ok (r.map arcD) s := by
      rw [evI_seq, ev_var]
      rfl
    rw [e1, Co.bind_ok, Co.comp_map (x := fun _ => PyData.bool true) (fun a ha => ?_) (by have := sz_le (n := r.length) (by omega); omega)]
    · rfl
    · have := is_arc_ok hi hn (h a ha) s
      generalize arcD a = ad at this
      simp [itemS, e_is_row_0, ms_is_row, this]
  have c2 := allE (q := fun _ => true) c1
  have a1 : r.all (fun _ => true) = true := by simp
  rw [a1] at c2
  have l4 : ((r.length : Nat) : Int) ≤ 4 := by omega
  have l4' : r.length ≤ 4 := hl
  refine fn_ret2 (ρ := [.val (rowT r), .val (.int (i : Nat)), .val (.int (n : Nat)), .no]) rfl ?_
  unfold c_is_row
  rw [xb_ret (d := .bool true) (s1 := s) (by
    rw [xs_ret, andE (x := true) (y := true) ?_ (andE (x := true) (y := true) ?_ c2)]
    · rfl
    · generalize rowT r = rt at t1
      simp [t1]
    · generalize rowT r = rt at t2
      simp [t2, l4, l4'])]
/-- a shaped net -/
structure ShOk (N : Net) : Prop where
  ins : N.ins ≤ 2
  r1 : 1 ≤ N.rows.length
  r5 : N.rows.length ≤ 5
  row : ∀ r ∈ N.rows, r.length ≤ 4
  arc : ∀ r ∈ N.rows, ∀ a ∈ r, ArcOk N.ins N.rows.length a
  o1 : 1 ≤ N.outs.length
  o3 : N.outs.length ≤ 3
  out : ∀ o ∈ N.outs, o < N.rows.length
theorem is_shaped_ok {N : Net} (h : ShOk N) (s : Dice) : m_is_shaped [.val (netD N)] s = .ok (.bool true) s := by
  have h1 := h.ins; have h2 := h.r1; have h3 := h.r5; have h4 := h.o1; have h5 := h.o3
  have w := is_whole_ok N.ins 0 2 s
  rw [decide_eq_true ⟨by omega, by omega⟩] at w
  obtain ⟨V, hV⟩ : ∃ V, V = netD N := ⟨_, rfl⟩
  have t1 : bltD .isTuple [V] = some (.bool true) := by rw [hV]; rfl
  have t2 : bltD .len [V] = some (.int 3) := by rw [hV]; rfl
  have t3 : subD V (.int 0) = some (.int N.ins) := by rw [hV]; rfl
  obtain ⟨O, hO⟩ : ∃ O : D, O = .tuple (N.outs.map fun o => .int ((o : Nat) : Int)) := ⟨_, rfl⟩
  obtain ⟨R, hR⟩ : ∃ R : D, R = rowsT N.rows := ⟨_, rfl⟩
  have r1 : bltD .isTuple [R] = some (.bool true) := by rw [hR]; rfl
  have r2 : bltD .len [R] = some (.int ((N.rows.length : Nat) : Int)) := by
    rw [hR]
    show some (PyData.int (((N.rows.map rowT).length : Nat) : Int)) = _
    rw [List.length_map]
  have o1 : bltD .isTuple [O] = some (.bool true) := by rw [hO]; rfl
  have o2 : bltD .len [O] = some (.int ((N.outs.length : Nat) : Int)) := by
    rw [hO]
    show some (PyData.int (((N.outs.map fun o => PyData.int ((o : Nat) : Int)).length : Nat) : Int)) = _
    rw [List.length_map]
  have c1 : ev (fun j => ms_is_shaped[j]?) (.comp e_is_shaped_0 [5] (.one 5) (.seq (.var 2)) (.non)) [.val V, .val (.int N.ins), .val R, .val O, .no, .no] s = .ok (.list (N.rows.map fun _ => .bool true)) s := by
    rw [ev_comp]
    have e1 : evI (fun j => ms_is_shaped[j]?) (.seq (.var 2)) [.val V, .val (.int N.ins), .val R, .val O, .no, .no] s = .ok (N.rows.map rowT) s := by
      rw [evI_seq, ev_var, hR]
      rfl
    rw [e1, Co.bind_ok, Co.comp_map (x := fun _ => PyData.bool true) (fun r hr => ?_) (by have := sz_le (n := N.rows.length) (by omega); omega)]
    · rfl
    · have := is_row_ok h1 h3 (h.row r hr) (h.arc r hr) s
      generalize rowT r = rt at this
      simp [itemS, e_is_shaped_0, ms_is_shaped, r2, this]
  have c2 := allE (q := fun _ => true) c1
  have a1 : N.rows.all (fun _ => true) = true := by simp
  rw [a1] at c2
  have c3 : ev (fun j => ms_is_shaped[j]?) (.comp e_is_shaped_1 [4] (.one 4) (.seq (.var 3)) (.non)) [.val V, .val (.int N.ins), .val R, .val O, .no, .no] s = .ok (.list (N.outs.map fun _ => .bool true)) s := by
    rw [ev_comp]
    have e1 : evI (fun j => ms_is_shaped[j]?) (.seq (.var 3)) [.val V, .val (.int N.ins), .val R, .val O, .no, .no] s = .ok (N.outs.map fun o => .int ((o : Nat) : Int)) s := by
      rw [evI_seq, ev_var, hO]
      rfl
    rw [e1, Co.bind_ok, Co.comp_map (x := fun _ => PyData.bool true) (fun o ho => ?_) (by have := sz_le (n := N.outs.length) (by omega); omega)]
    · rfl
    · have lt := h.out o ho
      have w2 := is_whole_ok o 0 ((N.rows.length : Int) - 1) s
      rw [decide_eq_true ⟨by omega, by omega⟩] at w2
      simp [itemS, e_is_shaped_1, ms_is_shaped, r2, w2]
  have c4 := allE (q := fun _ => true) c3
  have a2 : N.outs.all (fun _ => true) = true := by simp
  rw [a2] at c4
  rw [← hV]
  refine fn_ret2 (ρ := [.val V, .no, .no, .no, .no, .no]) rfl ?_
  unfold c_is_shaped
  rw [xb_step (ρ' := [.val V, .no, .no, .no, .no, .no]) (s1 := s) (by simp [ms_is_shaped, t1, t2, t3, w])]
  rw [xb_step (ρ' := [.val V, .val (.int N.ins), .val R, .val O, .no, .no]) (s1 := s) (by rw [hV, hR, hO]; simp [netD])]
  have g1 : (1 : Int) ≤ (N.rows.length : Nat) := by omega
  have g2 : ((N.rows.length : Nat) : Int) ≤ 5 := by omega
  have g1' : 0 < N.rows.length := by omega
  have g3 : (1 : Int) ≤ (N.outs.length : Nat) := by omega
  have g4 : ((N.outs.length : Nat) : Int) ≤ 3 := by omega
  rw [xb_step (ρ' := [.val V, .val (.int N.ins), .val R, .val O, .no, .no]) (s1 := s) (by simp [r1, r2, g1, g2])]
  rw [xb_step (ρ' := [.val V, .val (.int N.ins), .val R, .val O, .no, .no]) (s1 := s) (by rw [ifF (notE c2)]; rfl)]
  rw [xb_step (ρ' := [.val V, .val (.int N.ins), .val R, .val O, .no, .no]) (s1 := s) (by simp [o1, o2, g3, g4])]
  rw [xb_ret (d := .bool true) (s1 := s) (by rw [xs_ret, c4]; rfl)]
end Pg

/-! What is a net: rounds back, the order. -/
namespace Pg
open PySem PySem.Spec PyProof.Rows L2 Co Nt
def rowBk (r : Nt.Row) : Int := (r.map fun a => a.bk).sum
def allBk (rows : List Nt.Row) : Int := (rows.map rowBk).sum
theorem sumE {α : Type} {G : Gam} {ρ : Co.Env} {s : Dice} {a : CE} {l : List α} {q : α → Int} (h : ev G a ρ s = .ok (.list (l.map fun x => .int (q x))) s) : ev G (.blt .sum (.cons a .nil)) ρ s = .ok (.int (l.map q).sum) s := by
  rw [ev_blt, evL_cons, h, Co.bind_ok, evL_nil, Co.bind_ok, Co.bind_ok, blt_sum_l, ints_map]
  rfl
theorem all_back_ok {rows : List Nt.Row} (hl : rows.length ≤ 1000) (hr : ∀ r ∈ rows, r.length ≤ 1000) (s : Dice) : m_all_back [.val (rowsT rows)] s = .ok (.int (allBk rows)) s := by
  refine fn_ret2 (ρ := [.val (rowsT rows), .no, .no, .no, .no]) rfl ?_
  have c1 : ev (fun j => ms_all_back[j]?) (.comp e_all_back_0 [1] (.one 1) (.seq (.var 0)) (.non)) [.val (rowsT rows), .no, .no, .no, .no] s = .ok (.list (rows.map fun r => .int (rowBk r))) s := by
    rw [ev_comp]
    have e1 : evI (fun j => ms_all_back[j]?) (.seq (.var 0)) [.val (rowsT rows), .no, .no, .no, .no] s = .ok (rows.map rowT) s := by
      rw [evI_seq, ev_var]
      rfl
    rw [e1, Co.bind_ok, Co.comp_map (x := fun r => PyData.int (rowBk r)) (fun r hr_ => ?_) (by have := sz_le (n := rows.length) (by omega); omega)]
    · rfl
    · have rl := hr r hr_
      have c2 : ev (fun j => ms_all_back[j]?) (.comp (.var 4) [2, 3, 4] (.tup (.cons (.one 2) (.cons (.one 3) (.cons (.one 4) (.nil))))) (.seq (.var 1)) (.non)) [.val (rowsT rows), .val (rowT r), .no, .no, .no] s = .ok (.list (r.map fun a => .int a.bk)) s := by
        rw [ev_comp]
        have e1 : evI (fun j => ms_all_back[j]?) (.seq (.var 1)) [.val (rowsT rows), .val (rowT r), .no, .no, .no] s = .ok (r.map arcD) s := by
          rw [evI_seq, ev_var]
          rfl
        rw [e1, Co.bind_ok, Co.comp_map (x := fun a => PyData.int a.bk) (fun a _ => ?_) (by have := sz_le (n := r.length) (by omega); omega)]
        · rfl
        · simp [itemS, arcD]
      have c3 := sumE c2
      unfold itemS
      rw [setP_one]
      simp only [wipeE_c, wipeE_n, List.set_cons_succ, List.set_cons_zero, setS_0, setS_s, Option.map_some, evT_non, asBoolR_ok]
      rw [if_pos trivial]
      unfold e_all_back_0
      rw [c3]
      rfl
  unfold c_all_back
  rw [xb_ret (d := .int (allBk rows)) (s1 := s) (by rw [xs_ret, sumE c1]; rfl)]
theorem comp_fm {α : Type} {f x : α → D} {P : α → Bool} {g : D → Dice → Res (Option D)} {s : Dice} : ∀ {l : List α} {k : Nat}, (∀ a ∈ l, g (f a) s = .ok (if P a = true then some (x a) else none) s) → k + l.length ≤ sizeLine → compL (l.map f) g k s = .ok ((l.filter P).map x) s
  | [], _, _, _ => rfl
  | a :: l, k, h, hz => by
    rw [List.length_cons] at hz
    rw [List.map_cons, compL_cons, h a (List.mem_cons_self ..), List.filter_cons]
    by_cases hp : P a = true
    · rw [if_pos hp, if_pos hp]
      show (if k < sizeLine then _ else _) = _
      rw [if_pos (by omega), comp_fm (fun b hb => h b (List.mem_cons_of_mem _ hb)) (by omega)]
      rfl
    · rw [if_neg hp, if_neg hp]
      show compL _ _ _ _ = _
      rw [comp_fm (fun b hb => h b (List.mem_cons_of_mem _ hb)) (by omega)]
/-- the events of the same round that a row waits for -/
def sameO (r : Nt.Row) : List (Option Nat) := (r.filter fun a => decide (a.bk = 0)).map fun a => a.src.ev
def sameE (r : Nt.Row) : List Nat := (sameO r).filterMap id
theorem filter_some : ∀ (l : List (Option Nat)), (l.filter fun o => o.isSome).map (fun o => oD (o.map fun k => ((k : Nat) : Int))) = (l.filterMap id).map nD
  | [] => rfl
  | none :: l => by
    show (l.filter fun o => o.isSome).map _ = _
    exact filter_some l
  | some v :: l => by
    show oD _ :: (l.filter fun o => o.isSome).map _ = nD v :: (l.filterMap id).map nD
    rw [filter_some l]
    rfl
def sameD (r : Nt.Row) : D := .list ((sameE r).map nD)
theorem same_round_ok {rows : List Nt.Row} (B : RB rows) (s : Dice) : m_same_round [.val (rowsT rows)] s = .ok (.list (rows.map sameD)) s := by
  have Bl := B.len
  have lp : ∀ (rs : List Nt.Row) (F : List D) (y2 y3 : SV), (∀ r ∈ rs, r ∈ rows) → F.length + rs.length ≤ 1000 → ∃ y2' y3', forL (stepF (fun j => ms_same_round[j]?) (.one 2) b_same_round_3) (rs.map rowT) [.val (rowsT rows), .own F, y2, y3, .no, .no, .no, .no] s =
      .nx [.val (rowsT rows), .own (F ++ rs.map sameD), y2', y3', .no, .no, .no, .no] s := by
    intro rs
    induction rs with
    | nil => intro F y2 y3 _ _; exact ⟨y2, y3, by simp⟩
    | cons r rs ih =>
      intro F y2 y3 hm hz
      rw [List.length_cons] at hz
      have rm := hm r (List.mem_cons_self ..)
      have rl := B.row r rm
      have c1 : ev (fun j => ms_same_round[j]?) (.comp e_same_round_0 [4, 5, 6] (.tup (.cons (.one 4) (.cons (.one 5) (.cons (.one 6) (.nil))))) (.seq (.var 2)) t_same_round_1) [.val (rowsT rows), .own F, .val (rowT r), y3, .no, .no, .no, .no] s = .ok (.list ((sameO r).map fun o => oD (o.map fun k => ((k : Nat) : Int)))) s := by
        rw [ev_comp]
        have e1 : evI (fun j => ms_same_round[j]?) (.seq (.var 2)) [.val (rowsT rows), .own F, .val (rowT r), y3, .no, .no, .no, .no] s = .ok (r.map arcD) s := by
          rw [evI_seq, ev_var]
          rfl
        rw [e1, Co.bind_ok, comp_fm (x := fun a => evD a.src) (P := fun a => decide (a.bk = 0)) (fun a ha => ?_) (by have := sz_le (n := r.length) (by omega); omega)]
        · unfold sameO
          rw [List.map_map]
          rfl
        · have ev := event_of_ok (B.sm r rm a ha) s
          unfold arcD
          generalize srcD a.src = sd at ev
          generalize evD a.src = ed at ev
          by_cases hb : a.bk = 0
          · simp [itemS, e_same_round_0, t_same_round_1, ms_same_round, hb, ev]
          · simp [itemS, e_same_round_0, t_same_round_1, ms_same_round, hb]
      have sl : (sameO r).length ≤ 6 := by
        unfold sameO
        rw [List.length_map]
        exact Nat.le_trans (List.length_filter_le ..) rl
      have c2 : ∀ y7, ev (fun j => ms_same_round[j]?) (.comp (.var 7) [7] (.one 7) (.seq (.var 3)) t_same_round_2) [.val (rowsT rows), .own F, .val (rowT r), .val (.list ((sameO r).map fun o => oD (o.map fun k => ((k : Nat) : Int)))), .no, .no, .no, y7] s = .ok (sameD r) s := fun y7 => by
        rw [ev_comp]
        have e1 : evI (fun j => ms_same_round[j]?) (.seq (.var 3)) [.val (rowsT rows), .own F, .val (rowT r), .val (.list ((sameO r).map fun o => oD (o.map fun k => ((k : Nat) : Int)))), .no, .no, .no, y7] s = .ok ((sameO r).map fun o => oD (o.map fun k => ((k : Nat) : Int))) s := by
          rw [evI_seq, ev_var]
          rfl
        rw [e1, Co.bind_ok, comp_fm (x := fun o => oD (o.map fun k => ((k : Nat) : Int))) (P := fun o => o.isSome) (fun o _ => ?_) (by have := sz_le (n := (sameO r).length) (by omega); omega), filter_some]
        · rfl
        · cases o <;> simp [itemS, t_same_round_2, oD]
      obtain ⟨y2', y3', l⟩ := ih (F ++ [sameD r]) (.val (rowT r)) (.val (.list ((sameO r).map fun o => oD (o.map fun k => ((k : Nat) : Int))))) (fun q hq => hm q (List.mem_cons_of_mem _ hq)) (by rw [List.length_append, List.length_cons, List.length_nil]; omega)
      refine ⟨y2', y3', ?_⟩
      have st : stepF (fun j => ms_same_round[j]?) (.one 2) b_same_round_3 (rowT r) [.val (rowsT rows), .own F, y2, y3, .no, .no, .no, .no] s = .nx [.val (rowsT rows), .own (F ++ [sameD r]), .val (rowT r), .val (.list ((sameO r).map fun o => oD (o.map fun k => ((k : Nat) : Int)))), .no, .no, .no, .no] s := by
        show (Out.opt (setP (.one 2) _ _) s).bind _ = _
        rw [setP_one]
        simp only [setS_0, setS_s, Option.map_some, oopt_some, obind_nx]
        unfold b_same_round_3
        rw [xb_step (ρ' := [.val (rowsT rows), .own F, .val (rowT r), .val (.list ((sameO r).map fun o => oD (o.map fun k => ((k : Nat) : Int)))), .no, .no, .no, .no]) (s1 := s) (by
          rw [xs_asg, c1, out_ok]
          simp only [setS_0, setS_s, Option.map_some, oopt_some])]
        have lF : F.length < sizeLine := sz_lt (by omega)
        rw [xb_step (ρ' := [.val (rowsT rows), .own (F ++ [sameD r]), .val (rowT r), .val (.list ((sameO r).map fun o => oD (o.map fun k => ((k : Nat) : Int)))), .no, .no, .no, .no]) (s1 := s) (by
          rw [xs_app]
          simp only [getO_0, getO_s]
          rw [c2, out_ok]
          rw [if_pos lF]
          simp only [setS_0, setS_s, Option.map_some, oopt_some])]
        rfl
      rw [List.map_cons, forL_cons, st, obind_nx, l, List.map_cons, List.append_assoc]
      rfl
  obtain ⟨y2, y3, l⟩ := lp rows [] .no .no (fun _ h => h) (by simp; omega)
  refine fn_ret2 (ρ := [.val (rowsT rows), .no, .no, .no, .no, .no, .no, .no]) rfl ?_
  unfold c_same_round
  rw [xb_step (ρ' := [.val (rowsT rows), .own [], .no, .no, .no, .no, .no, .no]) (s1 := s) (by simp)]
  have e1 : evI (fun j => ms_same_round[j]?) (.seq (.var 0)) [.val (rowsT rows), .own [], .no, .no, .no, .no, .no, .no] s = .ok (rows.map rowT) s := by
    rw [evI_seq, ev_var]
    rfl
  rw [xb_step (by rw [xs_fors, e1]; exact l)]
  rw [List.nil_append]
  generalize rows.map sameD = PP
  simp
end Pg

/-! The least rooms. -/
namespace Nt
theorem LeR.refl : ∀ l : List Int, LeR l l
  | [] => .nil
  | a :: l => .cons (Int.le_refl a) (LeR.refl l)
theorem LeR.trans : ∀ {a b c : List Int}, LeR a b → LeR b c → LeR a c
  | _, _, _, .nil, .nil => .nil
  | _, _, _, .cons h t, .cons h' t' => .cons (Int.le_trans h h') (t.trans t')
theorem LeR.sum : ∀ {a b : List Int}, LeR a b → a.sum ≤ b.sum
  | _, _, .nil => Int.le_refl _
  | _, _, .cons h t => by
    have := t.sum
    simp only [List.sum_cons]
    omega
theorem LeR.eq : ∀ {a b : List Int}, LeR a b → b.sum ≤ a.sum → a = b
  | _, _, .nil, _ => rfl
  | _, _, .cons h t, e => by
    have h1 := t.sum
    simp only [List.sum_cons] at e
    rw [t.eq (by omega)]
    congr 1
    omega
def leB : List Int → List Int → Bool
  | [], [] => true
  | a :: as, b :: bs => decide (a ≤ b) && leB as bs
  | _, _ => false
theorem leB_iff : ∀ {a b : List Int}, leB a b = true ↔ LeR a b
  | [], [] => ⟨fun _ => .nil, fun _ => rfl⟩
  | [], _ :: _ => ⟨fun h => (by cases h), fun h => (by cases h)⟩
  | _ :: _, [] => ⟨fun h => (by cases h), fun h => (by cases h)⟩
  | a :: as, b :: bs => by
    unfold leB
    rw [Bool.and_eq_true, decide_eq_true_eq, leB_iff]
    exact ⟨fun ⟨h, t⟩ => .cons h t, fun h => by cases h with | cons h t => exact ⟨h, t⟩⟩
def six : List Int := [1, 2, 3, 4, 5, 6]
def allR : Nat → List (List Int)
  | 0 => [[]]
  | n + 1 => (allR n).flatMap fun row => six.map fun o => row ++ [o]
def lesser (good : List (List Int)) (r : List Int) : List (List Int) := good.filter fun o => decide (o ≠ r) && leB o r
def leastOf (good : List (List Int)) : List (List Int) := good.filter fun r => (lesser good r).isEmpty
def least (P : List Int → Bool) (n : Nat) : List (List Int) := leastOf ((allR n).filter P)
section
variable {P : List Int → Bool} {n : Nat}
theorem mem_least {t : List Int} : t ∈ least P n ↔ t ∈ allR n ∧ P t = true ∧ ∀ o ∈ allR n, P o = true → LeR o t → o = t := by
  unfold least leastOf
  rw [List.mem_filter, List.mem_filter]
  constructor
  · rintro ⟨⟨h1, h2⟩, h3⟩
    refine ⟨h1, h2, fun o ho hp hl => ?_⟩
    by_cases e : o = t
    · exact e
    · have : o ∈ lesser ((allR n).filter P) t := by
        unfold lesser
        rw [List.mem_filter, List.mem_filter, Bool.and_eq_true, decide_eq_true_eq]
        exact ⟨⟨ho, hp⟩, e, leB_iff.mpr hl⟩
      rw [List.isEmpty_iff.mp h3] at this
      cases this
  · rintro ⟨h1, h2, h3⟩
    refine ⟨⟨h1, h2⟩, ?_⟩
    rw [List.isEmpty_iff]
    unfold lesser
    rw [List.filter_eq_nil_iff]
    intro o ho
    obtain ⟨ho, hp⟩ := List.mem_filter.mp ho
    rw [Bool.and_eq_true, decide_eq_true_eq]
    rintro ⟨hne, hl⟩
    exact hne (h3 o ho hp (leB_iff.mp hl))
theorem least_below : ∀ (m : Nat) {x : List Int}, x ∈ allR n → P x = true → (x.sum).toNat ≤ m → (∀ y ∈ allR n, 0 ≤ y.sum) → ∃ t ∈ least P n, LeR t x
  | m, x, hx, hp, hm, hs => by
    by_cases h : ∃ o ∈ allR n, P o = true ∧ LeR o x ∧ o ≠ x
    · obtain ⟨o, ho, hpo, hl, hne⟩ := h
      have h1 := hl.sum
      have h2 : o.sum < x.sum := by
        by_cases h : o.sum < x.sum
        · exact h
        · exact absurd (hl.eq (by omega)) hne
      have h3 := hs o ho
      match m, hm with
      | 0, hm => omega
      | m + 1, hm =>
        obtain ⟨t, ht, htl⟩ := least_below m ho hpo (by omega) hs
        exact ⟨t, ht, htl.trans hl⟩
    · refine ⟨x, mem_least.mpr ⟨hx, hp, fun o ho hpo hl => ?_⟩, LeR.refl x⟩
      by_cases e : o = x
      · exact e
      · exact absurd ⟨o, ho, hpo, hl, e⟩ h
theorem mem_allR_succ {x : List Int} : x ∈ allR (n + 1) ↔ ∃ r ∈ allR n, ∃ o ∈ six, x = r ++ [o] := by
  show x ∈ (allR n).flatMap _ ↔ _
  rw [List.mem_flatMap]
  constructor
  · rintro ⟨r, hr, h⟩
    obtain ⟨o, ho, rfl⟩ := List.mem_map.mp h
    exact ⟨r, hr, o, ho, rfl⟩
  · rintro ⟨r, hr, o, ho, rfl⟩
    exact ⟨r, hr, List.mem_map.mpr ⟨o, ho, rfl⟩⟩
theorem six_iff {o : Int} : o ∈ six ↔ 1 ≤ o ∧ o ≤ 6 := by
  unfold six
  simp
  omega
theorem allR_bd : ∀ {n : Nat} {x : List Int}, x ∈ allR n → x.length = n ∧ ∀ o ∈ x, 1 ≤ o ∧ o ≤ 6
  | 0, x, h => by
    have : x = [] := by simpa [allR] using h
    subst this
    exact ⟨rfl, fun o ho => by cases ho⟩
  | n + 1, x, h => by
    obtain ⟨r, hr, o, ho, rfl⟩ := mem_allR_succ.mp h
    obtain ⟨h1, h2⟩ := allR_bd hr
    refine ⟨by simp [h1], fun z hz => ?_⟩
    rcases List.mem_append.mp hz with hz | hz
    · exact h2 z hz
    · rw [List.mem_singleton.mp hz]; exact six_iff.mp ho
theorem sum_nonneg : ∀ {x : List Int}, (∀ o ∈ x, 1 ≤ o ∧ o ≤ 6) → 0 ≤ x.sum
  | [], _ => by simp
  | a :: l, h => by
    have h1 := h a (List.mem_cons_self ..)
    have h2 := sum_nonneg fun o ho => h o (List.mem_cons_of_mem a ho)
    simp only [List.sum_cons]
    omega
theorem P_iff_least (mono : ∀ x ∈ allR n, ∀ y ∈ allR n, LeR x y → P x = true → P y = true) {x : List Int} (hx : x ∈ allR n) : P x = true ↔ ∃ t ∈ least P n, LeR t x := by
  constructor
  · exact fun hp => least_below _ hx hp (Nat.le_refl _) fun y hy => sum_nonneg (allR_bd hy).2
  · rintro ⟨t, ht, hl⟩
    have h := mem_least.mp ht
    exact mono t h.1 x hx hl h.2.1
theorem least_apart {t t' : List Int} (h : t ∈ least P n) (h' : t' ∈ least P n) (hl : LeR t' t) : t' = t :=
  (mem_least.mp h).2.2 t' (mem_least.mp h').1 (mem_least.mp h').2.1 hl
/-- the order of lists of ints -/
def ltL : List Int → List Int → Bool
  | [], [] => false
  | [], _ :: _ => true
  | _ :: _, [] => false
  | a :: as, b :: bs => decide (a < b) || (decide (a = b) && ltL as bs)
theorem ltL_irrefl : ∀ l, ltL l l = false
  | [] => rfl
  | a :: l => by unfold ltL; simp [ltL_irrefl l]
theorem ltL_append {o o' : Int} : ∀ {r : List Int}, o < o' → ltL (r ++ [o]) (r ++ [o']) = true
  | [], h => by simp [ltL, h]
  | a :: r, h => by
    show (decide (a < a) || (decide (a = a) && ltL (r ++ [o]) (r ++ [o']))) = true
    simp [ltL_append h]
theorem ltL_left {x y : List Int} : ∀ {r r' : List Int}, r.length = r'.length → ltL r r' = true → ltL (r ++ x) (r' ++ y) = true
  | [], [], _, h => by cases h
  | [], _ :: _, h, _ => by cases h
  | _ :: _, [], h, _ => by cases h
  | a :: r, b :: r', hl, h => by
    unfold ltL at h
    show (decide (a < b) || (decide (a = b) && ltL (r ++ x) (r' ++ y))) = true
    rw [Bool.or_eq_true, Bool.and_eq_true, decide_eq_true_eq, decide_eq_true_eq] at h ⊢
    rcases h with h | ⟨h1, h2⟩
    · exact .inl h
    · exact .inr ⟨h1, ltL_left (by simpa using hl) h2⟩
theorem allR_asc : ∀ n, (allR n).Pairwise fun x y => ltL x y = true
  | 0 => by simp [allR]
  | n + 1 => by
    show ((allR n).flatMap _).Pairwise _
    rw [List.pairwise_flatMap]
    refine ⟨fun r hr => ?_, ?_⟩
    · rw [List.pairwise_map]
      refine List.Pairwise.imp (R := fun a b : Int => a < b) (fun h => ltL_append h) (by unfold six; decide)
    · have ih := allR_asc n
      refine ih.imp_of_mem fun {r r'} hr hr' h => ?_
      intro x hx y hy
      obtain ⟨o, _, rfl⟩ := List.mem_map.mp hx
      obtain ⟨o', _, rfl⟩ := List.mem_map.mp hy
      exact ltL_left (by rw [(allR_bd hr).1, (allR_bd hr').1]) h
theorem least_asc : (least P n).Pairwise fun x y => ltL x y = true := by
  unfold least leastOf
  exact ((allR_asc n).filter _).filter _
theorem least_nodup : (least P n).Nodup := by
  refine List.Pairwise.imp (fun {x y} h e => ?_) (least_asc (P := P) (n := n))
  subst e
  rw [ltL_irrefl] at h
  cases h
theorem least_one : (least P 1).length ≤ 1 := by
  match h : least P 1 with
  | [] => simp
  | [_] => simp
  | a :: b :: l =>
    have nd := least_nodup (P := P) (n := 1)
    have ha : a ∈ least P 1 := by rw [h]; simp
    have hb : b ∈ least P 1 := by rw [h]; simp
    have la := (allR_bd (mem_least.mp ha).1).1
    have lb := (allR_bd (mem_least.mp hb).1).1
    match a, la, b, lb with
    | [x], _, [y], _ =>
      rcases Int.le_total x y with q | q
      · have := least_apart hb ha (.cons q .nil)
        rw [h, this] at nd
        simp at nd
      · have := least_apart ha hb (.cons q .nil)
        rw [h, this] at nd
        simp at nd
end
end Nt

/-! Orders of events in a round. -/
namespace Nt
def freeL (W : List (List Nat)) (n : Nat) (found : List Nat) : List Nat := (List.range n).filter fun a => decide (a ∉ found) && (W.getD a []).all fun o => decide (o ∈ found)
def ordF (W : List (List Nat)) (n : Nat) : Nat → List Nat → Option (List Nat)
  | 0, found => some found
  | f + 1, found => match (freeL W n found).head? with
    | none => none
    | some a => ordF W n f (found ++ [a])
/-- each behind those that it waits for -/
inductive Topo (W : List (List Nat)) (n : Nat) : List Nat → Prop where
  | nil : Topo W n []
  | snoc {l : List Nat} {a : Nat} (h : Topo W n l) (lt : a < n) (nin : a ∉ l) (w : ∀ o ∈ W.getD a [], o ∈ l) : Topo W n (l ++ [a])
theorem mem_free {W : List (List Nat)} {n a : Nat} {found : List Nat} : a ∈ freeL W n found ↔ a < n ∧ a ∉ found ∧ ∀ o ∈ W.getD a [], o ∈ found := by
  unfold freeL
  rw [List.mem_filter, List.mem_range, Bool.and_eq_true, decide_eq_true_eq, List.all_eq_true]
  simp only [decide_eq_true_eq]
theorem head_mem {α : Type} {l : List α} {a : α} (h : l.head? = some a) : a ∈ l := List.mem_of_head? h
theorem ordF_topo {W : List (List Nat)} {n : Nat} : ∀ (f : Nat) (found l : List Nat), Topo W n found → ordF W n f found = some l → Topo W n l ∧ l.length = found.length + f
  | 0, found, l, h, e => by
    have : found = l := by unfold ordF at e; exact Option.some.inj e
    subst this
    exact ⟨h, rfl⟩
  | f + 1, found, l, h, e => by
    unfold ordF at e
    cases q : (freeL W n found).head? with
    | none => rw [q] at e; cases e
    | some a =>
      rw [q] at e
      obtain ⟨h1, h2, h3⟩ := mem_free.mp (head_mem q)
      obtain ⟨t, len⟩ := ordF_topo f (found ++ [a]) l (.snoc h h1 h2 h3) e
      refine ⟨t, ?_⟩
      rw [len, List.length_append, List.length_singleton]
      omega
theorem Topo.nd {W : List (List Nat)} {n : Nat} {l : List Nat} (h : Topo W n l) : l.Nodup := by
  induction h with
  | nil => simp
  | snoc h lt nin w ih =>
    rw [List.nodup_append]
    refine ⟨ih, by simp, fun a ha b hb => ?_⟩
    rw [List.mem_singleton.mp hb]
    rintro rfl
    exact nin ha
theorem Topo.lt {W : List (List Nat)} {n : Nat} {l : List Nat} (h : Topo W n l) : ∀ a ∈ l, a < n := by
  induction h with
  | nil => intro a ha; cases ha
  | snoc h lt nin w ih =>
    intro a ha
    rcases List.mem_append.mp ha with ha | ha
    · exact ih a ha
    · rw [List.mem_singleton.mp ha]; exact lt
theorem Topo.waits {W : List (List Nat)} {n : Nat} {l : List Nat} (h : Topo W n l) : ∀ a ∈ l, ∀ o ∈ W.getD a [], o ∈ l := by
  induction h with
  | nil => intro a ha; cases ha
  | snoc h lt nin w ih =>
    intro a ha o ho
    rcases List.mem_append.mp ha with ha | ha
    · exact List.mem_append_left _ (ih a ha o ho)
    · rw [List.mem_singleton.mp ha] at ho
      exact List.mem_append_left _ (w o ho)
/-- the place in an order -/
def placeIn (l : List Nat) (a : Nat) : Nat := l.findIdx fun b => decide (b = a)
theorem place_app {l : List Nat} {a b : Nat} (h : a ∈ l) : placeIn (l ++ [b]) a = placeIn l a := by
  unfold placeIn
  rw [List.findIdx_append, if_pos]
  exact List.findIdx_lt_length_of_exists ⟨a, h, by simp⟩
theorem place_lt {l : List Nat} {a : Nat} (h : a ∈ l) : placeIn l a < l.length := List.findIdx_lt_length_of_exists ⟨a, h, by simp⟩
theorem place_last {l : List Nat} {a : Nat} (h : a ∉ l) : placeIn (l ++ [a]) a = l.length := by
  unfold placeIn
  rw [List.findIdx_append, if_neg]
  · simp
  · intro q
    rw [List.findIdx_lt_length] at q
    obtain ⟨x, hx, e⟩ := q
    have : x = a := by simpa using e
    exact h (this ▸ hx)
theorem Topo.rank {W : List (List Nat)} {n : Nat} {l : List Nat} (h : Topo W n l) : ∀ a ∈ l, ∀ o ∈ W.getD a [], placeIn l o < placeIn l a := by
  induction h with
  | nil => intro a ha; cases ha
  | @snoc l b h lt nin w ih =>
    intro a ha o ho
    rcases List.mem_append.mp ha with ha | ha
    · have := ih a ha o ho
      rw [place_app ha, place_app (h.waits a ha o ho)]
      exact this
    · rw [List.mem_singleton.mp ha] at ho ⊢
      rw [place_last nin, place_app (w o ho)]
      exact place_lt (w o ho)
theorem full_mem {l : List Nat} {n : Nat} (nd : l.Nodup) (lt : ∀ a ∈ l, a < n) (len : l.length = n) : ∀ a, a < n → a ∈ l := by
  intro a ha
  refine Classical.byContradiction fun h => ?_
  have := nodup_bound n (a :: l) (List.nodup_cons.mpr ⟨h, nd⟩) (fun x hx => by
    rcases List.mem_cons.mp hx with rfl | hx
    · exact ha
    · exact lt x hx)
  rw [List.length_cons] at this
  omega
theorem least_of {n : Nat} {P : Nat → Prop} (rk : Nat → Nat) (h : ∃ a, a < n ∧ P a) : ∃ a, a < n ∧ P a ∧ ∀ b, b < n → P b → rk a ≤ rk b := by
  have : ∀ m a, rk a ≤ m → a < n → P a → ∃ a, a < n ∧ P a ∧ ∀ b, b < n → P b → rk a ≤ rk b := by
    intro m
    induction m with
    | zero => intro a h0 h1 h2; exact ⟨a, h1, h2, fun b _ _ => by omega⟩
    | succ m ih =>
      intro a h0 h1 h2
      by_cases q : ∃ b, b < n ∧ P b ∧ rk b < rk a
      · obtain ⟨b, b1, b2, b3⟩ := q
        exact ih b (by omega) b1 b2
      · refine ⟨a, h1, h2, fun b b1 b2 => ?_⟩
        refine Classical.byContradiction fun z => q ⟨b, b1, b2, by omega⟩
  obtain ⟨a, h1, h2⟩ := h
  exact this (rk a) a (Nat.le_refl _) h1 h2
theorem nd_len : ∀ {l m : List Nat}, l.Nodup → (∀ a ∈ l, a ∈ m) → l.length ≤ m.length
  | [], _, _, _ => Nat.zero_le _
  | a :: l, m, nd, h => by
    have ha := h a (List.mem_cons_self ..)
    obtain ⟨n1, n2⟩ := List.nodup_cons.mp nd
    have ih := nd_len (l := l) (m := m.erase a) n2 fun b hb => (List.mem_erase_of_ne fun e : b = a => n1 (by rw [← e]; exact hb)).mpr (h b (List.mem_cons_of_mem _ hb))
    rw [List.length_erase_of_mem ha] at ih
    have := List.length_pos_of_mem ha
    rw [List.length_cons]
    omega
theorem ordF_some {W : List (List Nat)} {n : Nat} {rk : Nat → Nat} (hr : ∀ a, a < n → ∀ o ∈ W.getD a [], o < n ∧ rk o < rk a) : ∀ (f : Nat) (found : List Nat), Topo W n found → found.length + f ≤ n → ∃ l, ordF W n f found = some l
  | 0, found, _, _ => ⟨found, rfl⟩
  | f + 1, found, h, hl => by
    have ex : ∃ a, a < n ∧ a ∉ found := by
      refine Classical.byContradiction fun z => ?_
      have sub : ∀ a, a < n → a ∈ found := fun a ha => Classical.byContradiction fun q => z ⟨a, ha, q⟩
      have hs : (List.range n).length ≤ found.length := by
        exact nd_len (List.nodup_range (n := n)) fun a ha => sub a (List.mem_range.mp ha)
      rw [List.length_range] at hs
      omega
    obtain ⟨a, a1, a2, a3⟩ := least_of rk ex
    have hf : a ∈ freeL W n found := mem_free.mpr ⟨a1, a2, fun o ho => Classical.byContradiction fun q => by
      obtain ⟨o1, o2⟩ := hr a a1 o ho
      have := a3 o o1 q
      omega⟩
    unfold ordF
    cases q : (freeL W n found).head? with
    | none =>
      rw [List.head?_eq_none_iff] at q
      rw [q] at hf
      cases hf
    | some b =>
      obtain ⟨h1, h2, h3⟩ := mem_free.mp (head_mem q)
      exact ordF_some hr f (found ++ [b]) (.snoc h h1 h2 h3) (by rw [List.length_append, List.length_singleton]; omega)
/-- the order of a net's events, if there is one -/
def ordN (W : List (List Nat)) : Option (List Nat) := ordF W W.length W.length []
theorem ordN_some {W : List (List Nat)} {l : List Nat} (h : ordN W = some l) : Topo W W.length l ∧ l.length = W.length := by
  have := ordF_topo _ _ _ .nil h
  simpa using this
theorem ordN_iff {W : List (List Nat)} (hw : ∀ a, a < W.length → ∀ o ∈ W.getD a [], o < W.length) : (ordN W).isSome = true ↔ ∃ rk : Nat → Nat, ∀ a, a < W.length → ∀ o ∈ W.getD a [], rk o < rk a := by
  constructor
  · intro h
    obtain ⟨l, hl⟩ := Option.isSome_iff_exists.mp h
    obtain ⟨t, len⟩ := ordN_some hl
    exact ⟨placeIn l, fun a ha o ho => t.rank a (full_mem t.nd t.lt len a ha) o ho⟩
  · rintro ⟨rk, h⟩
    obtain ⟨l, hl⟩ := ordF_some (W := W) (n := W.length) (rk := rk) (fun a ha o ho => ⟨hw a ha o ho, h a ha o ho⟩) W.length [] .nil (by simp)
    rw [show ordN W = some l from hl]
    rfl
end Nt

/-! What must hold behind a computation (with a continuation that stays a letter). -/
namespace Co
open PySem PySem.Spec PyProof.Rows L2
@[irreducible] def WE {α : Type} (r : Res α) (K : α → Dice → Prop) : Prop :=
  match r with
  | .ok a s => K a s
  | _ => False
@[irreducible] def WO (o : Out) (K : Env → Dice → Prop) (R : D → Dice → Prop) : Prop :=
  match o with
  | .nx ρ s => K ρ s
  | .ret d s => R d s
  | _ => False
theorem itT {c : Prop} [Decidable c] {a b : Prop} (h : c) (k : a) : if c then a else b := by rw [if_pos h]; exact k
theorem itF {c : Prop} [Decidable c] {a b : Prop} (h : ¬ c) (k : b) : if c then a else b := by rw [if_neg h]; exact k
@[irreducible] def WB (d : D) (K : Bool → Prop) : Prop :=
  match d with
  | .bool b => K b
  | _ => False
section
variable {α β : Type} {K : α → Dice → Prop} {a : α} {s : Dice}
@[simp] theorem WE_ok : WE (.ok a s) K = K a s := by unfold WE; rfl
@[simp] theorem WE_bad : WE (.bad : Res α) K = False := by unfold WE; rfl
@[simp] theorem WE_exc {c : Str} : WE (.exc c s : Res α) K = False := by unfold WE; rfl
@[simp] theorem WE_bind {r : Res β} {f : β → Dice → Res α} : WE (r.bind f) K = WE r fun b s => WE (f b s) K := by unfold WE; cases r <;> rfl
@[simp] theorem WE_nox {r : Res α} : WE r.nox K = WE r K := by unfold WE; cases r <;> rfl
@[simp] theorem WE_ite {c : Prop} [Decidable c] {x y : Res α} : WE (if c then x else y) K = if c then WE x K else WE y K := by split <;> rfl
theorem WE_iff {r : Res α} : WE r K ↔ ∃ a s, r = .ok a s ∧ K a s := by
  unfold WE
  constructor
  · intro h
    cases r with
    | ok a s => exact ⟨a, s, rfl, h⟩
    | exc c s => exact False.elim h
    | bad => exact False.elim h
  · rintro ⟨a, s, rfl, h⟩
    exact h
theorem WE_mono {r : Res α} {K' : α → Dice → Prop} (h : WE r K) (k : ∀ a s, K a s → K' a s) : WE r K' := by
  unfold WE at h ⊢
  cases r with
  | ok a s => exact k a s h
  | exc c s => exact False.elim h
  | bad => exact False.elim h
/-- as letters: what holds of each result is enough -/
theorem WE_cps {r : Res α} (h : WE r K) {K' : α → Dice → Prop} (k : ∀ a s, K a s → K' a s) : WE r K' := WE_mono h k
end
@[simp] theorem WB_b {b : Bool} {K : Bool → Prop} : WB (.bool b) K = K b := by unfold WB; rfl
section
variable {K : D → Dice → Prop} {s : Dice}
@[simp] theorem WE_asBool {r : Res D} {f : Bool → Dice → Res D} : WE (asBool r f) K = WE r fun d s => WB d fun b => WE (f b s) K := by
  unfold WE WB
  cases r with
  | ok d s => cases d <;> rfl
  | exc c s => rfl
  | bad => rfl
end
@[simp] theorem WE_asBoolR {α : Type} {K : α → Dice → Prop} {r : Res D} {f : Bool → Dice → Res α} : WE (asBoolR r f) K = WE r fun d s => WB d fun b => WE (f b s) K := by
  unfold WE WB
  cases r with
  | ok d s => cases d <;> rfl
  | exc c s => rfl
  | bad => rfl
section
variable {K : Env → Dice → Prop} {R : D → Dice → Prop} {ρ : Env} {s : Dice} {G : Gam}
@[simp] theorem WO_nx : WO (.nx ρ s) K R = K ρ s := by unfold WO; rfl
@[simp] theorem WO_ret {d : D} : WO (.ret d s) K R = R d s := by unfold WO; rfl
@[simp] theorem WO_bad : WO .bad K R = False := by unfold WO; rfl
@[simp] theorem WO_exc {c : Str} : WO (.exc c s) K R = False := by unfold WO; rfl
@[simp] theorem WO_bind {o : Out} {f : Env → Dice → Out} : WO (o.bind f) K R = WO o (fun ρ s => WO (f ρ s) K R) R := by unfold WO; cases o <;> rfl
@[simp] theorem WO_out {α : Type} {r : Res α} {f : α → Dice → Out} : WO (r.out f) K R = WE r fun a s => WO (f a s) K R := by unfold WO WE; cases r <;> rfl
@[simp] theorem WO_ite {c : Prop} [Decidable c] {x y : Out} : WO (if c then x else y) K R = if c then WO x K R else WO y K R := by split <;> rfl
theorem WO_iff {o : Out} : WO o K R ↔ (∃ ρ s, o = .nx ρ s ∧ K ρ s) ∨ ∃ d s, o = .ret d s ∧ R d s := by
  unfold WO
  constructor
  · intro h
    cases o with
    | nx ρ s => exact .inl ⟨ρ, s, rfl, h⟩
    | ret d s => exact .inr ⟨d, s, rfl, h⟩
    | exc c s => exact False.elim h
    | bad => exact False.elim h
  · rintro (⟨ρ, s, rfl, h⟩ | ⟨d, s, rfl, h⟩) <;> exact h
theorem WO_mono {o : Out} {K' : Env → Dice → Prop} {R' : D → Dice → Prop} (h : WO o K R) (k : ∀ ρ s, K ρ s → K' ρ s) (r : ∀ d s, R d s → R' d s) : WO o K' R' := by
  unfold WO at h ⊢
  cases o with
  | nx ρ s => exact k ρ s h
  | ret d s => exact r d s h
  | exc c s => exact False.elim h
  | bad => exact False.elim h
/-- a block that is not opened by itself -/
@[irreducible] def WX (G : Gam) (b : CB) (ρ : Env) (s : Dice) (K : Env → Dice → Prop) (R : D → Dice → Prop) : Prop := WO (xb G b ρ s) K R
/-- what stands in an option -/
@[irreducible] def WP {α : Type} (o : Option α) (K : α → Prop) : Prop :=
  match o with
  | some a => K a
  | none => False
@[simp] theorem WP_some {α : Type} {a : α} {K : α → Prop} : WP (some a) K = K a := by unfold WP; rfl
@[simp] theorem WP_none {α : Type} {K : α → Prop} : WP none K = False := by unfold WP; rfl
/-- the next statement -/
theorem sc {c : CS} {r : CB} (h : WO (xs G c ρ s) (fun ρ' s' => WX G r ρ' s' K R) R) : WX G (.cons c r) ρ s K R := by
  unfold WX at h ⊢
  rw [xb_cons, WO_bind]
  exact h
theorem sn (h : K ρ s) : WX G .nil ρ s K R := by unfold WX WO; exact h
/-- a test: its two ways are not opened -/
@[simp] theorem WO_ifs {c : CE} {a b : CB} : WO (xs G (.ifs c a b) ρ s) K R = WE (ev G c ρ s) fun d s1 => WB d fun z => if z = true then WX G a ρ s1 K R else WX G b ρ s1 K R := by
  rw [xs_ifs, WO_out]
  unfold WE WB WX WO
  cases ev G c ρ s with
  | ok d s1 =>
    cases d with
    | bool z => cases z <;> rfl
    | _ => rfl
  | exc _ _ => rfl
  | bad => rfl
/-- a test as the next statement -/
theorem si {c : CE} {a b r : CB} (h : WE (ev G c ρ s) fun d s1 => WB d fun z => if z = true then WX G a ρ s1 (fun ρ' s' => WX G r ρ' s' K R) R else WX G b ρ s1 (fun ρ' s' => WX G r ρ' s' K R) R) : WX G (.cons (.ifs c a b) r) ρ s K R := by
  refine sc ?_
  rw [WO_ifs]
  exact h
@[simp] theorem WO_optS {o : Option Env} : WO (Out.opt o s) K R = WP o fun ρ' => K ρ' s := by unfold WO WP; cases o <;> rfl
@[simp] theorem WE_optS {α : Type} {o : Option α} {K : α → Dice → Prop} : WE (Res.opt o s) K = WP o fun a => K a s := by unfold WE WP; cases o <;> rfl
theorem WO_step {p : Pat} {b : CB} {d : D} : WO (stepF G p b d ρ s) K R = WP (setP p d ρ) fun ρ' => WX G b ρ' s K R := by
  unfold stepF
  rw [WO_bind, WO_optS]
  unfold WX
  rfl
theorem WE_item {e : CE} {vs : List Nat} {p : Pat} {t : CO} {d : D} {K : Option D → Dice → Prop} : WE (itemS G e vs p t ρ d s) K = WP (setP p d (wipeE ρ vs)) fun ρ' => WE (evT G t ρ' s) fun d s3 => WB d fun b => if b = true then WE (ev G e ρ' s3) fun x s4 => K (some x) s4 else K none s3 := by
  unfold itemS
  cases setP p d (wipeE ρ vs) with
  | none => simp only [WE_bad, WP_none]
  | some ρ' =>
    simp only [WE_nox, WE_asBoolR, WE_ite, WE_bind, WE_ok, WP_some]
theorem fn_wp {n : Nat} {b : CB} {vs : List SV} {ρ : Env} {s : Dice} {K : D → Dice → Prop} (e : vs ++ List.replicate (n - vs.length) .no = ρ) (h : WX G b ρ s (fun _ s' => K .none s') K) : WE (fnD G n b vs s) K := by
  subst e
  unfold fnD
  unfold WX WO at h
  unfold WE
  cases q : xb G b (vs ++ List.replicate (n - vs.length) .no) s with
  | nx ρ' s' => rw [q] at h; exact h
  | ret d s' => rw [q] at h; exact h
  | exc c s' => rw [q] at h; exact False.elim h
  | bad => rw [q] at h; exact False.elim h
end
/-- a block without its first statements -/
def dropB : Nat → CB → CB
  | 0, b => b
  | n + 1, b => match b with
    | .cons _ r => dropB n r
    | .nil => .nil
/-- what is walked (use simp [-evI_seq, -evI_enm]) -/
def itsD : D → Option (List D)
  | .list xs => some xs
  | .tuple xs => some xs
  | .dict xs => some (xs.map (·.1))
  | _ => none
def enmD? : D → Option (List D)
  | .list xs => some xs
  | .tuple xs => some xs
  | _ => none
@[simp] theorem itsD_l {xs : List D} : itsD (.list xs) = some xs := Eq.trans rfl rfl
@[simp] theorem itsD_t {xs : List D} : itsD (.tuple xs) = some xs := Eq.trans rfl rfl
@[simp] theorem enmD_l {xs : List D} : enmD? (.list xs) = some xs := Eq.trans rfl rfl
@[simp] theorem enmD_t {xs : List D} : enmD? (.tuple xs) = some xs := Eq.trans rfl rfl
@[simp] theorem WE_seq {G : Gam} {a : CE} {ρ : Env} {s : Dice} {K : List D → Dice → Prop} : WE (evI G (.seq a) ρ s) K = WE (ev G a ρ s) fun d s1 => WP (itsD d) fun ds => K ds s1 := by
  rw [evI_seq]
  cases ev G a ρ s with
  | ok d s1 => cases d <;> simp [itsD]
  | exc _ _ => simp
  | bad => simp
@[simp] theorem WE_enm {G : Gam} {a : CE} {ρ : Env} {s : Dice} {K : List D → Dice → Prop} : WE (evI G (.enm a) ρ s) K = WE (ev G a ρ s) fun d s1 => WP (enmD? d) fun ds => K (enmD 0 ds) s1 := by
  rw [evI_enm]
  cases ev G a ρ s with
  | ok d s1 => cases d <;> simp [enmD?]
  | exc _ _ => simp
  | bad => simp
/-! ### loops -/
section
variable {f : D → Env → Dice → Out} {K : Env → Dice → Prop} {R : D → Dice → Prop}
/-- over what is left -/
theorem for_wp {I : List D → Env → Dice → Prop} (step : ∀ d r ρ s (K : Env → Dice → Prop), I (d :: r) ρ s → (∀ ρ' s', I r ρ' s' → K ρ' s') → WO (f d ρ s) K R) : ∀ {ds : List D} {ρ : Env} {s : Dice} (h0 : I ds ρ s) (fin : ∀ ρ s, I [] ρ s → K ρ s), WO (forL f ds ρ s) K R
  | [], ρ, s, h0, fin => by rw [forL_nil, WO_nx]; exact fin ρ s h0
  | d :: r, ρ, s, h0, fin => by
    rw [forL_cons, WO_bind]
    exact step d r ρ s _ h0 fun ρ' s' h => for_wp step h fin
/-- a range -/
theorem for_rng {I : Nat → Env → Dice → Prop} {n : Nat} {lo : Int} (step : ∀ i, i < n → ∀ ρ s (K : Env → Dice → Prop), I i ρ s → (∀ ρ' s', I (i + 1) ρ' s' → K ρ' s') → WO (f (.int (lo + (i : Nat))) ρ s) K R) {ρ : Env} {s : Dice} (h0 : I 0 ρ s) (fin : ∀ ρ s, I n ρ s → K ρ s) : WO (forL f (rngD lo n) ρ s) K R := by
  have : ∀ m k, k + m = n → ∀ ρ s, I k ρ s → WO (forL f (rngD (lo + (k : Nat)) m) ρ s) K R := by
    intro m
    induction m with
    | zero =>
      intro k hk ρ s h
      have : k = n := by omega
      subst this
      rw [show rngD (lo + (k : Nat)) 0 = [] from rfl, forL_nil, WO_nx]
      exact fin ρ s h
    | succ m ih =>
      intro k hk ρ s h
      rw [rngD_succ, forL_cons, WO_bind]
      refine step k (by omega) ρ s _ h fun ρ' s' h' => ?_
      have := ih (k + 1) (by omega) ρ' s' h'
      rw [show lo + ((k + 1 : Nat) : Int) = lo + (k : Nat) + 1 by omega] at this
      exact this
  have := this n 0 (by omega) ρ s h0
  rwa [show lo + ((0 : Nat) : Int) = lo by omega] at this
/-- a mapped list, by what is done and what is left -/
theorem for_map {α : Type} {g : α → D} {I : List α → Env → Dice → Prop} {l : List α} (step : ∀ d a r, l = d ++ a :: r → ∀ ρ s (K : Env → Dice → Prop), I d ρ s → (∀ ρ' s', I (d ++ [a]) ρ' s' → K ρ' s') → WO (f (g a) ρ s) K R) {ρ : Env} {s : Dice} (h0 : I [] ρ s) (fin : ∀ ρ s, I l ρ s → K ρ s) : WO (forL f (l.map g) ρ s) K R := by
  have : ∀ r d, l = d ++ r → ∀ ρ s, I d ρ s → WO (forL f (r.map g) ρ s) K R := by
    intro r
    induction r with
    | nil =>
      intro d hd ρ s h
      have : l = d := by simpa using hd
      subst this
      rw [List.map_nil]
      first
        | rw [forL_nil, WO_nx]; exact fin ρ s h
        | (rw [show ∀ n, enmD n [] = [] from fun _ => rfl, forL_nil, WO_nx]; exact fin ρ s h)
    | cons a r ih =>
      intro d hd ρ s h
      rw [List.map_cons, forL_cons, WO_bind]
      exact step d a r hd ρ s _ h fun ρ' s' h' => ih (d ++ [a]) (by rw [hd]; simp) ρ' s' h'
  exact this l [] rfl ρ s h0
/-- the same of enumerate -/
theorem for_enm {α : Type} {g : α → D} {I : List α → Env → Dice → Prop} {l : List α} (step : ∀ d a r, l = d ++ a :: r → ∀ ρ s (K : Env → Dice → Prop), I d ρ s → (∀ ρ' s', I (d ++ [a]) ρ' s' → K ρ' s') → WO (f (.tuple [.int (d.length : Nat), g a]) ρ s) K R) {ρ : Env} {s : Dice} (h0 : I [] ρ s) (fin : ∀ ρ s, I l ρ s → K ρ s) : WO (forL f (enmD 0 (l.map g)) ρ s) K R := by
  have : ∀ r d, l = d ++ r → ∀ ρ s, I d ρ s → WO (forL f (enmD d.length (r.map g)) ρ s) K R := by
    intro r
    induction r with
    | nil =>
      intro d hd ρ s h
      have : l = d := by simpa using hd
      subst this
      rw [List.map_nil]
      first
        | rw [forL_nil, WO_nx]; exact fin ρ s h
        | (rw [show ∀ n, enmD n [] = [] from fun _ => rfl, forL_nil, WO_nx]; exact fin ρ s h)
    | cons a r ih =>
      intro d hd ρ s h
      show WO (forL f (.tuple [.int (d.length : Nat), g a] :: enmD (d.length + 1) (r.map g)) ρ s) K R
      rw [forL_cons, WO_bind]
      refine step d a r hd ρ s _ h fun ρ' s' h' => ?_
      have := ih (d ++ [a]) (by rw [hd]; simp) ρ' s' h'
      rwa [List.length_append, List.length_singleton] at this
  exact this l [] rfl ρ s h0
/-- a while loop, by a measure -/
theorem whl_wp {c : Env → Dice → Res D} {f : Env → Dice → Out} {I : Nat → Env → Dice → Prop} (step : ∀ k ρ s (K' : Env → Dice → Prop), I k ρ s → (∀ ρ' s' j, j < k → I j ρ' s' → K' ρ' s') → WE (c ρ s) fun d s1 => WB d fun b => if b = true then WO (f ρ s1) K' R else K ρ s1) : ∀ (m k : Nat) {ρ : Env} {s : Dice}, k < m → I k ρ s → WO (whlL c f m ρ s) K R
  | 0, k, ρ, s, hm, _ => absurd hm (by omega)
  | m + 1, k, ρ, s, hm, h0 => by
    have st := step k ρ s (fun ρ' s' => WO (whlL c f m ρ' s') K R) h0 fun ρ' s' j hj hi => whl_wp step m j (by omega) hi
    show WO ((c ρ s).out fun d s1 => match d with
      | .bool true => (f ρ s1).bind fun ρ' s' => whlL c f m ρ' s'
      | .bool false => .nx ρ s1
      | _ => .bad) K R
    rw [WO_out]
    refine WE_mono st fun d s1 h => ?_
    cases d with
    | bool b =>
      rw [WB_b] at h
      cases b with
      | true =>
        have h : WO (f ρ s1) (fun ρ' s' => WO (whlL c f m ρ' s') K R) R := h
        show WO ((f ρ s1).bind _) K R
        rw [WO_bind]
        exact h
      | false =>
        show WO (.nx ρ s1) K R
        rw [WO_nx]
        exact h
    | _ => unfold WB at h; exact False.elim h
/-- the same, as a statement -/
theorem swhl {G : Gam} {c : CE} {b : CB} {I : Nat → Env → Dice → Prop} (step : ∀ k ρ s (K' : Env → Dice → Prop), I k ρ s → (∀ ρ' s' j, j < k → I j ρ' s' → K' ρ' s') → WE (ev G c ρ s) fun d s1 => WB d fun z => if z = true then WX G b ρ s1 K' R else K ρ s1) (k : Nat) {ρ : Env} {s : Dice} (hk : k < 100000) (h : I k ρ s) : WO (xs G (.whl c b) ρ s) K R := by
  rw [xs_whl]
  unfold WX at step
  exact whl_wp (f := fun ρ s => xb G b ρ s) step FUEL k (by unfold FUEL; omega) h
end
/-! ### comprehensions -/
section
variable {g : D → Dice → Res (Option D)} {K : List D → Dice → Prop}
/-- over a range, the dice thrown -/
theorem comp_rngW {β : Type} [Inhabited β] {e : β → D} {Q : Nat → β → Prop} {n : Nat} {lo : Int} {s : Dice} (hz : n ≤ 100000) (h : ∀ i, i < n → ∀ s (K : Option D → Dice → Prop), (∀ z s', Q i z → K (some (e z)) s') → WE (g (.int (lo + (i : Nat))) s) K) (k : ∀ (zs : List β) s', zs.length = n → (∀ i (h : i < zs.length), Q i zs[i]) → K (zs.map e) s') : WE (compL (rngD lo n) g 0 s) K := by
  obtain ⟨zs, s', h1, h2, h3⟩ := comp_exN (f := e) (Q := Q) (g := g) (n := n) (m := 0) (lo := lo) (k := 0) (s := s) (fun i hi s => by
    have := h i hi s (fun o s' => ∃ z, o = some (e z) ∧ Q i z) fun z s' q => ⟨z, rfl, q⟩
    obtain ⟨o, s', h1, z, rfl, q⟩ := WE_iff.mp this
    exact ⟨z, s', h1, by rwa [Nat.zero_add]⟩) (by have := sz_le hz; omega)
  rw [h1, WE_ok]
  exact k zs s' h2 fun i hi => by have := h3 i hi; rwa [Nat.zero_add] at this
/-- over a mapped list, no dice -/
theorem comp_mapW {α : Type} {f x : α → D} {P : α → Bool} {l : List α} {s : Dice} (hz : l.length ≤ 100000) (h : ∀ a ∈ l, ∀ (K : Option D → Dice → Prop), (if P a = true then K (some (x a)) s else K none s) → WE (g (f a) s) K) (k : K ((l.filter P).map x) s) : WE (compL (l.map f) g 0 s) K := by
  have h : ∀ a ∈ l, g (f a) s = .ok (if P a = true then some (x a) else none) s := fun a ha => by
    obtain ⟨o, s', h1, h2, h3⟩ := WE_iff.mp (h a ha (fun o s' => o = (if P a = true then some (x a) else none) ∧ s' = s) (by split <;> exact ⟨rfl, rfl⟩))
    rw [h1, h2, h3]
  have : ∀ (l : List α) (k : Nat), (∀ a ∈ l, g (f a) s = .ok (if P a = true then some (x a) else none) s) → k + l.length ≤ sizeLine → compL (l.map f) g k s = .ok ((l.filter P).map x) s := by
    intro l
    induction l with
    | nil => intro k _ _; rfl
    | cons a l ih =>
      intro k h hz
      rw [List.length_cons] at hz
      rw [List.map_cons, compL_cons, h a (List.mem_cons_self ..), List.filter_cons]
      by_cases hp : P a = true
      · rw [if_pos hp, if_pos hp]
        show (if k < sizeLine then _ else _) = _
        rw [if_pos (by omega), ih (k + 1) (fun b hb => h b (List.mem_cons_of_mem _ hb)) (by omega)]
        rfl
      · rw [if_neg hp, if_neg hp]
        show compL _ _ _ _ = _
        rw [ih k (fun b hb => h b (List.mem_cons_of_mem _ hb)) (by omega)]
  rw [this l 0 h (by have := sz_le hz; omega), WE_ok]
  exact k
theorem comp_allW {α : Type} {f x : α → D} {l : List α} {s : Dice} (hz : l.length ≤ 100000) (h : ∀ a ∈ l, ∀ (K : Option D → Dice → Prop), K (some (x a)) s → WE (g (f a) s) K) (k : K (l.map x) s) : WE (compL (l.map f) g 0 s) K := by
  refine comp_mapW (P := fun _ => true) (x := x) hz (fun a ha K hk => h a ha K (by rwa [if_pos rfl] at hk)) ?_
  rw [List.filter_eq_self.mpr fun _ _ => rfl]
  exact k
theorem comp_rnW {x : Nat → D} {P : Nat → Bool} {n : Nat} {lo : Int} {s : Dice} (hz : n ≤ 100000) (h : ∀ i, i < n → ∀ (K : Option D → Dice → Prop), (if P i = true then K (some (x i)) s else K none s) → WE (g (.int (lo + (i : Nat))) s) K) (k : K (((List.range n).filter P).map x) s) : WE (compL (rngD lo n) g 0 s) K := by
  refine comp_mapW (f := fun i : Nat => .int (lo + (i : Nat))) (l := List.range n) (P := P) (x := x) (by rw [List.length_range]; exact hz) (fun a ha => h a (List.mem_range.mp ha)) k
theorem comp_raW {x : Nat → D} {n : Nat} {lo : Int} {s : Dice} (hz : n ≤ 100000) (h : ∀ i, i < n → ∀ (K : Option D → Dice → Prop), K (some (x i)) s → WE (g (.int (lo + (i : Nat))) s) K) (k : K ((List.range n).map x) s) : WE (compL (rngD lo n) g 0 s) K :=
  comp_allW (f := fun i : Nat => .int (lo + (i : Nat))) (l := List.range n) (by rw [List.length_range]; exact hz) (fun a ha => h a (List.mem_range.mp ha)) k
theorem WE_eq {α : Type} {r : Res α} {x : α} {s : Dice} (h : WE r fun a s' => a = x ∧ s' = s) : r = .ok x s := by
  obtain ⟨a, s', h1, rfl, rfl⟩ := WE_iff.mp h
  exact h1
end
/-! ### what the small builtins give of lists -/
theorem boolsD_map {α : Type} {q : α → Bool} : ∀ {l : List α}, boolsD (l.map fun a => .bool (q a)) = some (l.map q)
  | [] => rfl
  | a :: l => by
    show (boolsD (l.map fun a => .bool (q a))).map (q a :: ·) = _
    rw [boolsD_map]
    rfl
theorem intsD_map {α : Type} {q : α → Int} : ∀ {l : List α}, intsD (l.map fun a => .int (q a)) = some (l.map q)
  | [] => rfl
  | a :: l => by
    show (intsD (l.map fun a => .int (q a))).map (q a :: ·) = _
    rw [intsD_map]
    rfl
theorem bin_rep {x : D} {n : Nat} (h : n ≤ 100000) : binD .mul (.list [x]) (.int (n : Nat)) = some (.list (List.replicate n x)) := by
  unfold binD
  dsimp only
  have e1 : ((n : Nat) : Int).toNat = n := by omega
  have e63 : (2 : Int) ^ 63 = 9223372036854775808 := by decide
  rw [e1, if_pos ⟨by rw [e63]; omega, by rw [e63]; omega, by rw [List.length_cons, List.length_nil, Nat.zero_add, Nat.one_mul]; exact sz_le h⟩, rep_one]
@[simp] theorem sub_l0 {a : D} {r : List D} : subD (.list (a :: r)) (.int 0) = some a := by
  show atI (a :: r) ((0 : Nat) : Int) = _
  rw [atI_nat]
  rfl
@[simp] theorem sub_t0 {a : D} {r : List D} : subD (.tuple (a :: r)) (.int 0) = some a := by
  show atI (a :: r) ((0 : Nat) : Int) = _
  rw [atI_nat]
  rfl
@[simp] theorem sub_t1 {a b : D} {r : List D} : subD (.tuple (a :: b :: r)) (.int 1) = some b := by
  show atI (a :: b :: r) ((1 : Nat) : Int) = _
  rw [atI_nat]
  rfl
@[simp] theorem sub_t2 {a b c : D} {r : List D} : subD (.tuple (a :: b :: c :: r)) (.int 2) = some c := by
  show atI (a :: b :: c :: r) ((2 : Nat) : Int) = _
  rw [atI_nat]
  rfl
@[simp] theorem sub_l1 {a b : D} {r : List D} : subD (.list (a :: b :: r)) (.int 1) = some b := by
  show atI (a :: b :: r) ((1 : Nat) : Int) = _
  rw [atI_nat]
  rfl
@[simp] theorem sub_l2 {a b c : D} {r : List D} : subD (.list (a :: b :: c :: r)) (.int 2) = some c := by
  show atI (a :: b :: c :: r) ((2 : Nat) : Int) = _
  rw [atI_nat]
  rfl
theorem sub_lN {xs : List D} {i : Nat} : subD (.list xs) (.int (i : Nat)) = xs[i]? := atI_nat
theorem sub_tN {xs : List D} {i : Nat} : subD (.tuple xs) (.int (i : Nat)) = xs[i]? := atI_nat
end Co
namespace Pg
open PySem PySem.Spec PyProof.Rows L2 Co
/-- a throw -/
theorem roll_w {n : Int} {s : Dice} {K : D → Dice → Prop} (hn : 0 < n) (hz : n < 1000000) (k : ∀ (r : Nat) s', (r : Int) < n → K (.int r) s') : WE (m_law_roll [.dice, .val (.int n)] s) K := by
  obtain ⟨r, s', h, b⟩ := roll_n n s hn hz
  rw [h, WE_ok]
  exact k r s' b
end Pg

/-! What is a net: the order; is_net, need_net. -/
namespace Pg
open PySem PySem.Spec PyProof.Rows L2 Co Nt
/-- an order, or none -/
def ordD : Option (List Nat) → D
  | none => .none
  | some l => .list (l.map nD)
def waitsR (rows : List Nt.Row) : List (List Nat) := rows.map sameE
theorem waits_get {rows : List Nt.Row} {e : Nat} : (waitsR rows).getD e [] = sameE (rowAt rows e) := by
  unfold waitsR rowAt List.getD
  rw [List.getElem?_map]
  cases rows[e]? <;> rfl
theorem mem_same {r : Nt.Row} {v : Nat} : v ∈ sameE r ↔ ∃ a ∈ r, a.bk = 0 ∧ a.src = .e v := by
  unfold sameE sameO
  rw [List.mem_filterMap]
  constructor
  · rintro ⟨o, ho, e⟩
    obtain ⟨a, ha, rfl⟩ := List.mem_map.mp ho
    rw [List.mem_filter, decide_eq_true_eq] at ha
    exact ⟨a, ha.1, ha.2, ev_some.mp e⟩
  · rintro ⟨a, ha, hb, hs⟩
    exact ⟨a.src.ev, List.mem_map.mpr ⟨a, List.mem_filter.mpr ⟨ha, decide_eq_true hb⟩, rfl⟩, ev_some.mpr hs⟩
theorem in_ints {v : Nat} {l : List Nat} : cmpD .inn (.int (v : Nat)) (.list (l.map nD)) = some (decide (v ∈ l)) := by
  have h := nin_ints (v := v) (l := l)
  have e : cmpD .nin (.int (v : Nat)) (.list (l.map nD)) = (cmpD .inn (.int (v : Nat)) (.list (l.map nD))).map (!·) := rfl
  rw [e] at h
  cases q : cmpD .inn (.int (v : Nat)) (.list (l.map nD)) with
  | none => rw [q] at h; cases h
  | some b =>
    rw [q] at h
    have : (!b) = decide (v ∉ l) := Option.some.inj h
    congr 1
    cases b <;> simp at this ⊢ <;> exact this
theorem order_w {rows : List Nt.Row} (B : RB rows) {s : Dice} {K : D → Dice → Prop} (k : K (ordD (ordN (waitsR rows))) s) : WE (m_order_of [.val (rowsT rows)] s) K := by
  have Bl := B.len
  refine fn_wp (ρ := [.val (rowsT rows), .no, .no, .no, .no, .no]) rfl ?_
  unfold c_order_of
  have sr := same_round_ok B s
  have lr : bltD .len [rowsT rows] = some (.int ((rows.length : Nat) : Int)) := by
    show some (PyData.int (((rows.map rowT).length : Nat) : Int)) = _
    rw [List.length_map]
  have lw : (waitsR rows).length = rows.length := by unfold waitsR; rw [List.length_map]
  refine sc ?_
  simp [ms_order_of, sr]
  refine sc ?_
  refine swhl (I := fun k ρ s' => s' = s ∧ ∃ found y3, ρ = [.val (rowsT rows), .val (.list (rows.map sameD)), .own (found.map nD), y3, .no, .no] ∧ found.length + k = rows.length ∧ ordF (waitsR rows) rows.length k found = ordN (waitsR rows)) ?_ rows.length (by omega) ⟨rfl, [], _, rfl, by simp, by unfold ordN; rw [lw]⟩
  rintro k' ρ s' K' ⟨rfl, found, y3, rfl, hl, ho⟩ hk
  simp [lr]
  by_cases hlt : found.length < rows.length
  · refine itT hlt ?_
    cases k' with
    | zero => omega
    | succ j =>
    unfold b_order_of_2
    refine sc ?_
    have ro := rngOk_s (a := 0) (b := rows.length) (by omega) (by omega) (by omega) (by omega)
    simp [lr, ro]
    refine comp_rnW (x := nD) (P := fun a => decide (a ∉ found) && ((waitsR rows).getD a []).all fun o => decide (o ∈ found)) (by omega) (fun i hi K hk => ?_) ?_
    · have sb : subD (.list (rows.map sameD)) (.int (i : Nat)) = some (sameD (rowAt rows i)) := by
        show atI (rows.map sameD) (i : Nat) = _
        rw [Co.atI_nat, List.getElem?_map]
        unfold rowAt
        rw [List.getD_eq_getElem?_getD, List.getElem?_eq_getElem hi]
        rfl
      have ni := nin_ints (v := i) (l := found)
      rw [waits_get] at hk
      rw [WE_item]
      simp [t_order_of_1, sb, ni]
      by_cases h1 : i ∈ found
      · simp [h1] at hk ⊢
        exact hk
      · simp [h1] at hk ⊢
        unfold sameD
        simp only [evI_seq, Co.bind_ok, Co.WE_ok]
        have hz : (sameE (rowAt rows i)).length ≤ 100000 := by
          unfold sameE
          refine Nat.le_trans (List.length_filterMap_le ..) ?_
          unfold sameO
          rw [List.length_map]
          refine Nat.le_trans (List.length_filter_le ..) ?_
          have : rowAt rows i ∈ rows := by
            unfold rowAt
            rw [List.getD_eq_getElem?_getD, List.getElem?_eq_getElem hi]
            exact List.getElem_mem hi
          have := B.row _ this
          omega
        refine comp_allW (x := fun o => .bool (decide (o ∈ found))) hz (fun o ho K hk => ?_) ?_
        · have := in_ints (v := o) (l := found)
          rw [WE_item]
          unfold nD at this ⊢
          simp [e_order_of_0, this]
          exact hk
        · simp [boolsD_map]
          exact hk
    · refine si ?_
      have fe : ((List.range rows.length).filter fun a => decide (a ∉ found) && ((waitsR rows).getD a []).all fun o => decide (o ∈ found)) = freeL (waitsR rows) rows.length found := rfl
      rw [fe]
      have oe : ordF (waitsR rows) rows.length (j + 1) found = match (freeL (waitsR rows) rows.length found).head? with
        | none => none
        | some a => ordF (waitsR rows) rows.length j (found ++ [a]) := rfl
      rw [oe] at ho
      generalize freeL (waitsR rows) rows.length found = fl at ho ⊢
      cases fl with
      | nil =>
        have E : eqD (.list []) (.list []) = some true := rfl
        simp [E]
        refine sc ?_
        simp
        have : ordN (waitsR rows) = none := ho.symm
        rw [this] at k
        exact k
      | cons a fl =>
        have E : eqD (.list ((a :: fl).map nD)) (.list []) = some false := by
          refine eqD_f ((pl_list (n := 0) fun x hx => ?_).mono (by decide)) ((pl_list (n := 0) fun x hx => by cases hx).mono (by decide)) fun z => by cases z
          obtain ⟨i, _, rfl⟩ := List.mem_map.mp hx
          exact pl_nD i
        have lz : found.length < sizeLine := sz_lt (by omega)
        rw [List.map_cons] at E ⊢
        simp [E]
        refine sn ?_
        refine sc ?_
        simp [lz]
        refine sn ?_
        refine hk _ _ j (by omega) ⟨rfl, found ++ [a], _, by rw [List.map_append]; rfl, by rw [List.length_append, List.length_singleton]; omega, ho⟩
  · refine itF hlt ?_
    have : k' = 0 := by omega
    subst this
    refine sc ?_
    simp
    refine sc ?_
    simp
    have : ordN (waitsR rows) = some found := ho.symm
    rw [this] at k
    exact k
/-- a net -/
structure NetOk (N : Net) : Prop where
  sh : ShOk N
  bk : allBk N.rows ≤ 8
  ord : (ordN (waitsR N.rows)).isSome = true
theorem ShOk.rb {N : Net} (h : ShOk N) : RB N.rows := by
  refine ⟨h.r5, fun r hr => ?_, fun r hr a ha => ?_, ?_⟩
  · have := h.row r hr; omega
  · exact (h.arc r hr a ha).src.sm h.ins h.r5
  · intro r hr o ho v hv
    obtain ⟨q, hq, rfl⟩ := List.mem_map.mp (show r ∈ N.rows.map fun r => r.map fun a => a.src.ev from hr)
    obtain ⟨a, ha, rfl⟩ := List.mem_map.mp ho
    rw [evs_len]
    have := (h.arc q hq a ha).src
    rw [ev_some.mp hv] at this
    exact this
theorem ShOk.wlt {N : Net} (h : ShOk N) : ∀ a, a < (waitsR N.rows).length → ∀ o ∈ (waitsR N.rows).getD a [], o < (waitsR N.rows).length := by
  intro a ha o ho
  have lw : (waitsR N.rows).length = N.rows.length := by unfold waitsR; rw [List.length_map]
  rw [lw] at ha ⊢
  rw [waits_get] at ho
  obtain ⟨c, hc, _, hs⟩ := mem_same.mp ho
  have hm : rowAt N.rows a ∈ N.rows := by
    unfold rowAt
    rw [List.getD_eq_getElem?_getD, List.getElem?_eq_getElem ha]
    exact List.getElem_mem ha
  have := (h.arc _ hm c hc).src
  rw [hs] at this
  exact this
/-- an order is there if the events can be ranked -/
theorem ShOk.ord_iff {N : Net} (h : ShOk N) : (ordN (waitsR N.rows)).isSome = true ↔ ∃ rk : Nat → Nat, ∀ e r, N.rows[e]? = some r → ∀ a ∈ r, ∀ v, a.src = .e v → a.bk = 0 → rk v < rk e := by
  rw [ordN_iff h.wlt]
  have lw : (waitsR N.rows).length = N.rows.length := by unfold waitsR; rw [List.length_map]
  constructor
  · rintro ⟨rk, hr⟩
    refine ⟨rk, fun e r he a ha v hs hb => ?_⟩
    have hl := (List.getElem?_eq_some_iff.mp he).1
    refine hr e (by omega) v ?_
    rw [waits_get]
    unfold rowAt
    rw [List.getD_eq_getElem?_getD, he]
    exact mem_same.mpr ⟨a, ha, hb, hs⟩
  · rintro ⟨rk, hr⟩
    refine ⟨rk, fun e he v hv => ?_⟩
    rw [waits_get] at hv
    obtain ⟨a, ha, hb, hs⟩ := mem_same.mp hv
    rw [lw] at he
    refine hr e (rowAt N.rows e) ?_ a ha v hs hb
    unfold rowAt
    rw [List.getD_eq_getElem?_getD, List.getElem?_eq_getElem he]
    rfl
theorem NetOk.nb {N : Net} (h : NetOk N) : NB N.rows := by
  refine ⟨h.sh.rb, ⟨fun r hr a ha v hv => ?_, fun r hr a ha => (h.sh.arc r hr a ha).b0, h.sh.ord_iff.mp h.ord⟩, fun r hr a ha => ?_⟩
  · have := (h.sh.arc r hr a ha).src
    rw [hv] at this
    exact this
  · have := h.sh.arc r hr a ha
    have h1 := this.d0; have h2 := this.d9; have h3 := this.b3
    omega
@[simp] theorem its_rows {rows : List Nt.Row} : itsD (rowsT rows) = some (rows.map rowT) := Eq.trans rfl rfl
@[simp] theorem enm_rows {rows : List Nt.Row} : enmD? (rowsT rows) = some (rows.map rowT) := Eq.trans rfl rfl
@[simp] theorem its_row {r : Nt.Row} : itsD (rowT r) = some (r.map arcD) := Eq.trans rfl rfl
@[simp] theorem enm_row {r : Nt.Row} : enmD? (rowT r) = some (r.map arcD) := Eq.trans rfl rfl
theorem len_rows {rows : List Nt.Row} : bltD .len [rowsT rows] = some (.int ((rows.length : Nat) : Int)) := by
  show some (PyData.int (((rows.map rowT).length : Nat) : Int)) = _
  rw [List.length_map]
theorem len_row {r : Nt.Row} : bltD .len [rowT r] = some (.int ((r.length : Nat) : Int)) := by
  show some (PyData.int (((r.map arcD).length : Nat) : Int)) = _
  rw [List.length_map]
@[simp] theorem net_0 {N : Net} : subD (netD N) (.int 0) = some (.int N.ins) := by unfold netD; rw [sub_t0]
@[simp] theorem net_1 {N : Net} : subD (netD N) (.int 1) = some (rowsT N.rows) := by unfold netD; rw [sub_t1]
@[simp] theorem net_2 {N : Net} : subD (netD N) (.int 2) = some (.tuple (N.outs.map nD)) := by unfold netD; rw [sub_t2]; rfl
theorem is_net_ok {N : Net} (h : NetOk N) (s : Dice) : m_is_net [.val (netD N)] s = .ok (.bool true) s := by
  have i1 := is_shaped_ok h.sh s
  have i2 := all_back_ok (rows := N.rows) (by have := h.sh.r5; omega) (fun r hr => by have := h.sh.row r hr; omega) s
  have hb := h.bk
  refine WE_eq (fn_wp (ρ := [.val (netD N)]) rfl ?_)
  unfold c_is_net
  refine sc ?_
  simp [ms_is_net, i1, i2, hb]
  refine order_w h.sh.rb ?_
  cases q : ordN (waitsR N.rows) with
  | none => have := h.ord; rw [q] at this; cases this
  | some l => simp [ordD]
theorem need_net_ok {N : Net} (h : NetOk N) (s : Dice) : m_need_net [.val (netD N)] s = .ok .none s := by
  have i1 := is_net_ok h s
  refine WE_eq (fn_wp (ρ := [.val (netD N)]) rfl ?_)
  unfold c_need_net
  refine si ?_
  simp [ms_need_net, i1]
  refine sn (sn ?_)
  simp
end Pg

/-! The law's nets: numbered otherwise, drawn. -/
namespace Pg
open PySem PySem.Spec PyProof.Rows L2 Co Nt
def rotS (t n : Nat) : Src → Src
  | .e k => .e ((k + t) % n)
  | a => a
def rotA (t n : Nat) (a : Arc) : Arc := ⟨rotS t n a.src, a.dl, a.bk⟩
def rotR (t n : Nat) (r : Nt.Row) : Nt.Row := r.map (rotA t n)
def rotRows (t : Nat) (rows : List Nt.Row) : List Nt.Row := (List.range rows.length).map fun i => rotR t rows.length (rowAt rows ((i + rows.length - t) % rows.length))
def rotN (t : Nat) (N : Net) : Net := ⟨N.ins, rotRows t N.rows, N.outs.map fun o => (o + t) % N.rows.length⟩
theorem hd_src {a : Src} (h : Sm a) : ∃ x, subD (srcD a) (.int 0) = some x ∧ eqD x (.str "e") = some a.ev.isSome := by
  cases a with
  | s => exact ⟨_, hd_s, by kernel_rfl⟩
  | u k => exact ⟨_, hd_u k h, by kernel_rfl⟩
  | e k => exact ⟨_, hd_e k h, by kernel_rfl⟩
theorem mod_undo {i n t : Nat} (hi : i < n) (ht : t < n) : ((i + n - t) % n + t) % n = i := by
  by_cases h : t ≤ i
  · have : (i + n - t) % n = i - t := by
      rw [show i + n - t = (i - t) + n by omega, Nat.add_mod_right, Nat.mod_eq_of_lt (by omega)]
    rw [this, show i - t + t = i by omega, Nat.mod_eq_of_lt hi]
  · have : (i + n - t) % n = i + n - t := Nat.mod_eq_of_lt (by omega)
    rw [this, show i + n - t + t = i + n by omega, Nat.add_mod_right, Nat.mod_eq_of_lt hi]
theorem mod_undo2 {i n t : Nat} (hi : i < n) (ht : t < n) : ((i + t) % n + n - t) % n = i := by
  by_cases h : i + t < n
  · rw [Nat.mod_eq_of_lt h, show i + t + n - t = i + n by omega, Nat.add_mod_right, Nat.mod_eq_of_lt hi]
  · have : (i + t) % n = i + t - n := by
      have e : i + t = (i + t - n) + n := by omega
      rw [e, Nat.add_mod_right, Nat.mod_eq_of_lt (by omega)]
      omega
    rw [this, show i + t - n + n - t = i by omega, Nat.mod_eq_of_lt hi]
theorem renamed_w {N : Net} (h : NetOk N) {s : Dice} {K : D → Dice → Prop} (k0 : ∀ s', K (netD N) s') (k : ∀ t, t < N.rows.length → ∀ s', K (netD (rotN t N)) s') : WE (m_law_renamed [.dice, .val (netD N)] s) K := by
  have n1 := h.sh.r1
  have n5 := h.sh.r5
  have ln := len_rows (rows := N.rows)
  obtain ⟨n, hn⟩ : ∃ n, n = N.rows.length := ⟨_, rfl⟩
  rw [← hn] at ln k n1 n5
  refine fn_wp (ρ := [.dice, .val (netD N), .no, .no, .no, .no, .no, .no, .no, .no, .no, .no]) rfl ?_
  unfold c_law_renamed
  refine sc ?_
  simp [ln]
  refine si ?_
  simp [ms_law_renamed]
  refine roll_w (by decide) (by decide) fun r s1 hr => ?_
  simp
  by_cases r0 : r = 0
  · refine itT r0 ?_
    refine sc ?_
    simp
    exact k0 s1
  refine itF r0 (sn ?_)
  refine sc ?_
  simp
  refine roll_w (by omega) (by omega) fun t s2 ht => ?_
  have ht : t < n := by omega
  refine sc ?_
  have rp := bin_rep (x := .tuple []) (n := n) (by omega)
  simp [rp]
  refine sc ?_
  simp [-evI_seq, -evI_enm]
  refine for_enm (g := rowT) (I := fun d ρ s' => s' = s2 ∧ ∃ X : List Nt.Row, X.length = n ∧ (∀ j, j < d.length → X[(j + t) % n]? = some (rotR t n (rowAt N.rows j))) ∧ ∃ y5 y6 y7 y8 y9 y10, ρ = [.dice, .val (netD N), .val (.int n), .val (.int t), .own (X.map rowT), y5, y6, y7, y8, y9, y10, .no]) ?_ ⟨rfl, List.replicate n [], by simp, fun j hj => by simp at hj, _, _, _, _, _, _, by rw [List.map_replicate]; rfl⟩ ?_
  · rintro d r rest e ρ s' K' ⟨rfl, X, hX, hj, y5, y6, y7, y8, y9, y10, rfl⟩ hk
    rw [WO_step]
    have dl : d.length < n := by rw [hn, e]; simp
    have ra : rowAt N.rows d.length = r := by
      unfold rowAt
      rw [List.getD_eq_getElem?_getD, e]
      simp
    have rm : r ∈ N.rows := by rw [e]; simp
    have rl := h.sh.row r rm
    simp
    unfold b_law_renamed_1
    refine sc ?_
    simp
    refine sc ?_
    simp [-evI_seq, -evI_enm]
    refine for_map (g := arcD) (I := fun d' ρ s'' => s'' = s' ∧ ∃ y8 y9 y10, ρ = [.dice, .val (netD N), .val (.int n), .val (.int t), .own (X.map rowT), .val (.int d.length), .val (rowT r), .own ((rotR t n d').map arcD), y8, y9, y10, .no]) ?_ ⟨rfl, _, _, _, rfl⟩ ?_
    · rintro d' a rest' e' ρ s'' K'' ⟨rfl, y8, y9, y10, rfl⟩ hk'
      have am : a ∈ r := by rw [e']; simp
      have as := (h.sh.arc r rm a am).src
      have sm := as.sm h.sh.ins h.sh.r5
      obtain ⟨x, x1, x2⟩ := hd_src sm
      have dz : d'.length < sizeLine := sz_lt (by rw [e'] at rl; simp at rl; omega)
      rw [WO_step]
      unfold arcD
      simp
      unfold b_law_renamed_0
      refine si ?_
      simp [x1, x2]
      obtain ⟨src, dl_, bk_⟩ := a
      have mr : ∀ b, (rotR t n (d' ++ [b])).map arcD = (rotR t n d').map arcD ++ [arcD (rotA t n b)] := fun b => by
        unfold rotR
        rw [List.map_append, List.map_append]
        rfl
      have dz' : ((rotR t n d').map arcD).length < sizeLine := by
        unfold rotR
        rw [List.length_map, List.length_map]
        exact dz
      cases src with
      | e c =>
        have t1 := tl_e c sm
        have t2 := int_dg c sm
        have ml := Nat.mod_lt (c + t) n1
        have t3 := str_dg ((c + t) % n) (by omega)
        have t4 := add_e ((c + t) % n) (by omega)
        have md : binD .mod (.int ((c : Int) + (t : Int))) (.int n) = some (.int (((c + t) % n : Nat) : Int)) := bin_modN (a := c + t) (by omega)
        refine itT rfl ?_
        refine sc ?_
        unfold srcD
        simp only [ev_bin, ev_cst, ev_blt, evL_cons, evL_nil, ev_slc, evO_som, evO_non, ev_var, getV_0, getV_s, opt_some, Co.bind_ok, t1, t2, t3, t4, bin_add, md, xs_asg, out_ok, setS_0, setS_s, Option.map_some, oopt_some, WO_nx]
        refine sn (sc ?_)
        simp at dz' ⊢
        simp [dz']
        refine sn (hk' _ _ ⟨rfl, _, _, _, by rw [mr]; rfl⟩)
      | s =>
        refine itF (fun z => by cases z) (sn (sc ?_))
        simp at dz' ⊢
        simp [dz']
        refine sn (hk' _ _ ⟨rfl, _, _, _, by rw [mr]; rfl⟩)
      | u c =>
        refine itF (fun z => by cases z) (sn (sc ?_))
        simp at dz' ⊢
        simp [dz']
        refine sn (hk' _ _ ⟨rfl, _, _, _, by rw [mr]; rfl⟩)
    · rintro ρ s'' ⟨rfl, y8, y9, y10, rfl⟩
      refine sc ?_
      have md : binD .mod (.int ((d.length : Int) + (t : Int))) (.int n) = some (.int (((d.length + t) % n : Nat) : Int)) := bin_modN (a := d.length + t) (by omega)
      have ml := Nat.mod_lt (d.length + t) n1
      have ij : ixN (X.map rowT).length (((d.length + t) % n : Nat) : Int) = some ((d.length + t) % n) := by
        unfold ixN
        rw [if_pos (by omega), if_pos (by rw [List.length_map]; omega)]
        rfl
      rw [List.length_map] at ij
      simp only [xs_setI, ev_blt, evL_cons, evL_nil, ev_bor, getB_0o, getB_s, opt_some, Co.bind_ok, blt_tuple_l, out_ok, getO_0, getO_s, ev_bin, ev_var, getV_0, getV_s, bin_add, md, List.length_map, ij, setS_0, setS_s, Option.map_some, oopt_some, WO_nx]
      refine sn (hk _ _ ⟨rfl, X.set ((d.length + t) % n) (rotR t n r), by rw [List.length_set, hX], fun j hj' => ?_, _, _, _, _, _, _, by rw [List.map_set]; rfl⟩)
      · rw [List.length_append, List.length_singleton] at hj'
        by_cases ej : j = d.length
        · subst ej
          rw [List.getElem?_set_self (by omega), ra]
        · have : (j + t) % n ≠ (d.length + t) % n := fun z => by
            have a1 := mod_undo2 (i := j) (n := n) (t := t) (by omega) ht
            have a2 := mod_undo2 (i := d.length) (n := n) (t := t) (by omega) ht
            rw [z, a2] at a1
            exact ej a1.symm
          rw [List.getElem?_set_ne (Ne.symm this)]
          exact hj j (by omega)
  · rintro ρ s' ⟨rfl, X, hX, hj, y5, y6, y7, y8, y9, y10, rfl⟩
    have eX : X = rotRows t N.rows := by
      apply List.ext_getElem?
      intro i
      unfold rotRows
      rw [← hn]
      by_cases hi : i < n
      · have h1 := hj ((i + n - t) % n) (by rw [← hn]; exact Nat.mod_lt _ n1)
        rw [mod_undo hi ht] at h1
        rw [h1, List.getElem?_map, List.getElem?_range hi]
        rfl
      · rw [List.getElem?_eq_none (by omega), List.getElem?_eq_none (by rw [List.length_map, List.length_range]; omega)]
    subst eX
    refine sc ?_
    simp [-evI_seq, -evI_enm]
    refine comp_allW (f := nD) (x := fun o => nD ((o + t) % n)) (by have := h.sh.o3; omega) (fun o ho K hk => ?_) ?_
    · have md : binD .mod (.int ((o : Int) + (t : Int))) (.int n) = some (.int (((o + t) % n : Nat) : Int)) := bin_modN (a := o + t) (by omega)
      rw [WE_item]
      unfold nD at hk ⊢
      simp [e_law_renamed_2, md]
      exact hk
    · have := k t ht s'
      unfold rotN netD at this
      rw [List.map_map] at this
      rw [← hn] at this
      exact this
theorem rot_len {t : Nat} {rows : List Nt.Row} : (rotRows t rows).length = rows.length := by
  unfold rotRows
  rw [List.length_map, List.length_range]
theorem rot_get {t e : Nat} {rows : List Nt.Row} {r : Nt.Row} (h : (rotRows t rows)[e]? = some r) (n1 : 0 < rows.length) : e < rows.length ∧ ∃ q, rows[(e + rows.length - t) % rows.length]? = some q ∧ r = rotR t rows.length q := by
  have hl := (List.getElem?_eq_some_iff.mp h).1
  rw [rot_len] at hl
  refine ⟨hl, ?_⟩
  unfold rotRows at h
  rw [List.getElem?_map, List.getElem?_range hl] at h
  have ml := Nat.mod_lt (e + rows.length - t) n1
  refine ⟨rows[(e + rows.length - t) % rows.length], List.getElem?_eq_getElem ml, ?_⟩
  have e2 : rotR t rows.length (rowAt rows ((e + rows.length - t) % rows.length)) = r := Option.some.inj h
  rw [← e2]
  unfold rowAt
  rw [List.getD_eq_getElem?_getD, List.getElem?_eq_getElem ml]
  rfl
theorem rot_mem {t : Nat} {rows : List Nt.Row} {r : Nt.Row} (h : r ∈ rotRows t rows) (n1 : 0 < rows.length) : ∃ q ∈ rows, r = rotR t rows.length q := by
  obtain ⟨i, hi⟩ := List.mem_iff_getElem?.mp h
  obtain ⟨_, q, h1, h2⟩ := rot_get hi n1
  exact ⟨q, List.mem_of_getElem? h1, h2⟩
theorem rot_perm {t : Nat} {rows : List Nt.Row} (n1 : 0 < rows.length) (ht : t < rows.length) : (rotRows t rows).Perm (rows.map (rotR t rows.length)) := by
  have : rotRows t rows = (rows.drop (rows.length - t) ++ rows.take (rows.length - t)).map (rotR t rows.length) := by
    apply List.ext_getElem?
    intro i
    unfold rotRows
    by_cases hi : i < rows.length
    · rw [List.getElem?_map, List.getElem?_range hi, List.getElem?_map]
      have hm := Nat.mod_lt (i + rows.length - t) n1
      have : (rows.drop (rows.length - t) ++ rows.take (rows.length - t))[i]? = rows[(i + rows.length - t) % rows.length]? := by
        by_cases h : i < t
        · rw [List.getElem?_append_left (by rw [List.length_drop]; omega), List.getElem?_drop, Nat.mod_eq_of_lt (by omega)]
          congr 1
          omega
        · rw [List.getElem?_append_right (by rw [List.length_drop]; omega), List.length_drop, List.getElem?_take, if_pos (by omega)]
          rw [show i + rows.length - t = (i - t) + rows.length by omega, Nat.add_mod_right, Nat.mod_eq_of_lt (by omega)]
          congr 1
          omega
      rw [this, List.getElem?_eq_getElem hm]
      show some (rotR t rows.length (rowAt rows ((i + rows.length - t) % rows.length))) = some _
      unfold rowAt
      rw [List.getD_eq_getElem?_getD, List.getElem?_eq_getElem hm]
      rfl
    · rw [List.getElem?_eq_none (by rw [List.length_map, List.length_range]; omega), List.getElem?_eq_none (by rw [List.length_map, List.length_append, List.length_drop, List.length_take]; omega)]
  rw [this]
  refine List.Perm.map _ ?_
  refine (List.perm_append_comm).trans ?_
  rw [List.take_append_drop]
theorem sum_perm {l m : List Int} (h : l.Perm m) : l.sum = m.sum := by
  induction h with
  | nil => rfl
  | cons x _ ih => rw [List.sum_cons, List.sum_cons, ih]
  | swap x y l => rw [List.sum_cons, List.sum_cons, List.sum_cons, List.sum_cons]; omega
  | trans _ _ h1 h2 => rw [h1, h2]
theorem rot_bk {t : Nat} {rows : List Nt.Row} (n1 : 0 < rows.length) (ht : t < rows.length) : allBk (rotRows t rows) = allBk rows := by
  unfold allBk
  rw [sum_perm ((rot_perm n1 ht).map rowBk), List.map_map]
  congr 1
  refine List.map_congr_left fun r _ => ?_
  show rowBk (rotR t rows.length r) = rowBk r
  unfold rowBk rotR
  rw [List.map_map]
  rfl
theorem rotN_ok {t : Nat} {N : Net} (h : NetOk N) (ht : t < N.rows.length) : NetOk (rotN t N) := by
  have n1 := h.sh.r1
  have rl : (rotN t N).rows.length = N.rows.length := rot_len
  have sh : ShOk (rotN t N) := by
    refine ⟨h.sh.ins, by rw [rl]; exact n1, by rw [rl]; exact h.sh.r5, fun r hr => ?_, fun r hr a ha => ?_, ?_, ?_, fun o ho => ?_⟩
    · obtain ⟨q, hq, rfl⟩ := rot_mem hr n1
      have := h.sh.row q hq
      unfold rotR
      rw [List.length_map]
      exact this
    · obtain ⟨q, hq, rfl⟩ := rot_mem hr n1
      obtain ⟨b, hb, rfl⟩ := List.mem_map.mp ha
      have := h.sh.arc q hq b hb
      refine ⟨?_, this.d0, this.d9, this.b0, this.b3⟩
      rw [rl]
      have s := this.src
      show SrcOk _ _ (rotS t N.rows.length b.src)
      cases hb : b.src with
      | s => exact trivial
      | u c => rw [hb] at s; exact s
      | e c => exact Nat.mod_lt _ n1
    · show 1 ≤ (N.outs.map _).length
      rw [List.length_map]; exact h.sh.o1
    · show (N.outs.map _).length ≤ 3
      rw [List.length_map]; exact h.sh.o3
    · obtain ⟨p, hp, rfl⟩ := List.mem_map.mp ho
      rw [rl]
      exact Nat.mod_lt _ n1
  refine ⟨sh, ?_, ?_⟩
  · show allBk (rotRows t N.rows) ≤ 8
    rw [rot_bk n1 ht]
    exact h.bk
  · rw [sh.ord_iff]
    obtain ⟨rk, hr⟩ := h.sh.ord_iff.mp h.ord
    refine ⟨fun e => rk ((e + N.rows.length - t) % N.rows.length), fun e r he a ha v hs hb => ?_⟩
    obtain ⟨hl, q, h1, rfl⟩ := rot_get he n1
    obtain ⟨b, hb', rfl⟩ := List.mem_map.mp ha
    have s : rotS t N.rows.length b.src = .e v := hs
    cases hc : b.src with
    | s => rw [hc] at s; cases s
    | u c => rw [hc] at s; cases s
    | e c =>
      rw [hc] at s
      have ev : (c + t) % N.rows.length = v := by injection s
      have cl : c < N.rows.length := by
        have := (h.sh.arc q (List.mem_of_getElem? h1) b hb').src
        rw [hc] at this
        exact this
      have := hr _ q h1 b hb' c hc hb
      rw [← ev]
      show rk (((c + t) % N.rows.length + N.rows.length - t) % N.rows.length) < _
      rw [mod_undo2 cl ht]
      exact this
theorem renamed_n {N : Net} (h : NetOk N) {s : Dice} {K : D → Dice → Prop} (k : ∀ M s', NetOk M → M.ins = N.ins → M.rows.length = N.rows.length → M.outs.length = N.outs.length → K (netD M) s') : WE (m_law_renamed [.dice, .val (netD N)] s) K :=
  renamed_w h (fun s' => k N s' h rfl rfl rfl) fun t ht s' => k _ s' (rotN_ok h ht) rfl rot_len (by show (N.outs.map _).length = _; rw [List.length_map])
end Pg

/-! The law's nets, drawn. -/
namespace Pg
open PySem PySem.Spec PyProof.Rows L2 Co Nt
/-- what is drawn of a row -/
def DrA (g n e : Nat) (a : Arc) : Prop := ArcOk g n a ∧ ∀ v, a.src = .e v → a.bk = 0 → v < e
theorem back_of {r : Nat} (h : r < 6) : ∃ b : Nat, subD (.list [.int 0, .int 1, .int 1, .int 2, .int 0, .int 3]) (.int (r : Nat)) = some (.int (b : Nat)) ∧ b ≤ 3 := by
  rw [sub_lN]
  match r, h with
  | 0, _ => exact ⟨0, rfl, by decide⟩
  | 1, _ => exact ⟨1, rfl, by decide⟩
  | 2, _ => exact ⟨1, rfl, by decide⟩
  | 3, _ => exact ⟨2, rfl, by decide⟩
  | 4, _ => exact ⟨0, rfl, by decide⟩
  | 5, _ => exact ⟨3, rfl, by decide⟩
abbrev EN (most inp y3 y4 : SV) (n g : Nat) (X : List Nt.Row) (L : Int) (r : List Arc) (y10 y11 y12 y13 : SV) : Co.Env :=
  [.dice, most, inp, y3, y4, .val (.int (n : Nat)), .val (.int (g : Nat)), .own (X.map rowT), .val (.int L), .own (r.map arcD), y10, y11, y12, y13]
section
variable {G : Gam} {most inp y4 : SV} {n g e : Nat} {X : List Nt.Row} {R : D → Dice → Prop}
theorem net_arc (g0 : G 0 = some m_law_roll) (hn : 1 ≤ n) (hn5 : n ≤ 5) (hg : g ≤ 2) {r : List Arc} {L : Int} {y10 y11 y12 y13 : SV} {s : Dice} {K : Co.Env → Dice → Prop} (hr : r.length ≤ 100) (hL : 0 ≤ L)
    (k : ∀ (r' : List Arc) (L' : Int) y11 y12 y13 s', 0 ≤ L' → rowBk r' + L' = rowBk r + L → r'.length ≤ r.length + 1 → (∀ a ∈ r', a ∈ r ∨ DrA g n e a) → K (EN most inp (.val (.int (e : Nat))) y4 n g X L' r' y10 y11 y12 y13) s') :
    WX G b_law_net_0 (EN most inp (.val (.int (e : Nat))) y4 n g X L r y10 y11 y12 y13) s K R := by
  have last : ∀ (a : Src) (b : Nat) y12 s, SrcOk g n a → b ≤ 3 → (∀ v, a = .e v → b = 0 → v < e) → WX G (dropB 6 b_law_net_0) (EN most inp (.val (.int (e : Nat))) y4 n g X L r y10 (.val (.int (b : Nat))) y12 (.val (srcD a))) s K R := by
    intro a b y12 s ha hb hv
    unfold b_law_net_0 EN
    simp only [dropB]
    refine si ?_
    simp
    by_cases hl : (b : Int) ≤ L
    · refine itT hl ?_
      refine sc ?_
      simp
      refine sc ?_
      simp [g0]
      refine roll_w (by decide) (by decide) fun d s1 hd => ?_
      have dz : r.length < sizeLine := sz_lt (by omega)
      simp [dz]
      refine sn (sn ?_)
      have := k (r ++ [⟨a, d, b⟩]) (L - b) (.val (.int b)) y12 (.val (srcD a)) s1 (by omega) (by
        unfold rowBk
        rw [List.map_append, List.sum_append]
        simp
        omega) (by simp) (fun c hc => by
        rcases List.mem_append.mp hc with hc | hc
        · exact .inl hc
        · rw [List.mem_singleton.mp hc]
          exact .inr ⟨⟨ha, by show (0 : Int) ≤ (d : Nat); omega, by show ((d : Nat) : Int) ≤ 9; omega, by show (0 : Int) ≤ (b : Nat); omega, by show ((b : Nat) : Int) ≤ 3; omega⟩, fun v hs hz => hv v hs (by have hz : ((b : Nat) : Int) = 0 := hz; omega)⟩)
      unfold EN at this
      rw [List.map_append] at this
      exact this
    · refine itF hl (sn (sn ?_))
      exact k r L _ _ _ s hL rfl (by omega) fun a ha => .inl ha
  have five : ∀ (a : Src) (b : Nat) y12 s, SrcOk g n a → b ≤ 3 → WX G (dropB 5 b_law_net_0) (EN most inp (.val (.int (e : Nat))) y4 n g X L r y10 (.val (.int (b : Nat))) y12 (.val (srcD a))) s K R := by
    intro a b y12 s ha hb
    have sm := ha.sm hg hn5
    obtain ⟨x, x1, x2⟩ := hd_src sm
    unfold b_law_net_0 EN
    simp only [dropB]
    refine si ?_
    simp [x1, x2]
    cases a with
    | s => 
      refine itF (fun z => by cases z) (sn ?_)
      exact last _ b y12 s ha hb fun v z => by cases z
    | u c =>
      refine itF (fun z => by cases z) (sn ?_)
      exact last _ b y12 s ha hb fun v z => by cases z
    | e c =>
      have t1 := tl_e c sm
      have t2 := int_dg c sm
      refine itT rfl ?_
      unfold srcD
      simp [t1, t2]
      by_cases h : e ≤ c ∧ b = 0
      · refine itT h.1 ?_
        refine itT h.2 ?_
        refine sc ?_
        simp
        refine sn ?_
        exact last (.e c) 1 y12 s ha (by decide) fun v _ z => by cases z
      · have fin := last (.e c) b y12 s ha hb fun v z hb0 => by
          have : c = v := by injection z
          subst this
          refine Classical.byContradiction fun q => h ⟨by omega, hb0⟩
        by_cases h1 : e ≤ c
        · refine itT h1 ?_
          refine itF (fun z => h ⟨h1, z⟩) (sn ?_)
          exact fin
        · refine itF h1 (sn ?_)
          exact fin
  unfold b_law_net_0 EN
  refine sc ?_
  simp [g0]
  refine roll_w (by decide) (by decide) fun r1 s1 h1 => ?_
  obtain ⟨b, hb, b3⟩ := back_of (r := r1) (by omega)
  simp [hb]
  refine sc ?_
  simp [g0]
  refine roll_w (by decide) (by decide) fun p s2 h2 => ?_
  refine sc ?_
  simp [g0]
  refine roll_w (by omega) (by omega) fun v s3 h3 => ?_
  have hv : v < n := by omega
  have t3 := str_dg v (by omega)
  have t4 := add_e v (by omega)
  simp [t3, t4]
  refine si ?_
  simp
  by_cases p0 : p = 0
  · refine itT p0 (sc ?_)
    simp
    refine sn (si ?_)
    have p1 : ¬ (p : Int) = 1 := by omega
    simp [p1]
    refine sn ?_
    exact five .s b _ s3 trivial b3
  · refine itF p0 (sn (si ?_))
    simp
    by_cases p1 : (p : Int) = 1
    · refine itT p1 ?_
      by_cases g1 : 0 < g
      · refine itT g1 (sc ?_)
        simp [g0]
        refine roll_w (by omega) (by omega) fun w s4 h4 => ?_
        have hw : w < g := by omega
        have t5 := str_dg w (by omega)
        have t6 := add_u w (by omega)
        simp [t5, t6]
        refine sn ?_
        exact five (.u w) b _ s4 hw b3
      · refine itF g1 (sn ?_)
        exact five (.e v) b _ s3 hv b3
    · refine itF p1 (sn ?_)
      exact five (.e v) b _ s3 hv b3
/-- what is drawn of rows -/
def DrX (g n : Nat) (X : List Nt.Row) : Prop := ∀ e r, X[e]? = some r → r.length ≤ 4 ∧ ∀ a ∈ r, DrA g n e a
theorem net_row (g0 : G 0 = some m_law_roll) (hn : 1 ≤ n) (hn5 : n ≤ 5) (hg : g ≤ 2) {L : Int} {y9 y10 y11 y12 y13 : SV} {s : Dice} {K : Co.Env → Dice → Prop} (he : X.length = e) (he5 : e < n) (hX : DrX g n X) (hX3 : ∀ r ∈ X, r.length ≤ 3) (hL : 0 ≤ L) (hs : allBk X + L = 8)
    (k : ∀ (X' : List Nt.Row) (L' : Int) y9 y10 y11 y12 y13 s', X'.length = e + 1 → DrX g n X' → (∀ r ∈ X', r.length ≤ 3) → 0 ≤ L' → allBk X' + L' = 8 → K [.dice, most, inp, .val (.int (e : Nat)), y4, .val (.int (n : Nat)), .val (.int (g : Nat)), .own (X'.map rowT), .val (.int L'), y9, y10, y11, y12, y13] s') :
    WX G b_law_net_1 [.dice, most, inp, .val (.int (e : Nat)), y4, .val (.int (n : Nat)), .val (.int (g : Nat)), .own (X.map rowT), .val (.int L), y9, y10, y11, y12, y13] s K R := by
  unfold b_law_net_1
  refine sc ?_
  simp
  refine sc ?_
  simp [g0]
  refine roll_w (by decide) (by decide) fun m s1 hm => ?_
  have ro := rngOk_s (a := 0) (b := m) (by omega) (by omega) (by omega) (by omega)
  simp [ro]
  refine for_rng (n := m) (lo := 0) (I := fun j ρ s' => ∃ (r : List Arc) (L' : Int) (y10 y11 y12 y13 : SV), ρ = EN most inp (.val (.int (e : Nat))) y4 n g X L' r y10 y11 y12 y13 ∧ r.length ≤ j ∧ 0 ≤ L' ∧ rowBk r + L' = L ∧ ∀ a ∈ r, DrA g n e a) ?_ ⟨[], L, _, _, _, _, rfl, by simp, hL, by simp [rowBk], fun a ha => by cases ha⟩ ?_
  · rintro j hj ρ s' K' ⟨r, L', y10, y11, y12, y13, rfl, hr, hL', hsum, hd⟩ hk
    rw [WO_step]
    unfold EN
    simp
    refine net_arc g0 hn hn5 hg (by omega) hL' fun r' L2 y11 y12 y13 s2 h1 h2 h3 h4 => ?_
    refine hk _ _ ⟨r', L2, _, _, _, _, rfl, by omega, h1, by omega, fun a ha => ?_⟩
    rcases h4 a ha with h | h
    · exact hd a h
    · exact h
  · rintro ρ s' ⟨r, L', y10, y11, y12, y13, rfl, hr, hL', hsum, hd⟩
    refine sc ?_
    have xz : X.length < sizeLine := sz_lt (by omega)
    unfold EN
    simp [xz]
    refine sn ?_
    have := k (X ++ [r]) L' (.own (r.map arcD)) y10 y11 y12 y13 s' (by rw [List.length_append, List.length_singleton, he]) (fun e' r' h => by
      rw [List.getElem?_append] at h
      split at h
      · exact hX e' r' h
      · rename_i hl
        have h2 := (List.getElem?_eq_some_iff.mp h).1
        rw [List.length_singleton] at h2
        have e1 : e' = e := by omega
        subst e1
        rw [show e' - X.length = 0 by omega] at h
        have e2 : r = r' := by simpa using h
        subst e2
        exact ⟨by omega, hd⟩) (fun r' hr' => by
      rcases List.mem_append.mp hr' with h | h
      · exact hX3 r' h
      · rw [List.mem_singleton.mp h]; omega) hL' (by
      unfold allBk at hs ⊢
      rw [List.map_append, List.sum_append]
      simp
      omega)
    rw [List.map_append] at this
    exact this
end
theorem law_net_w {most inp : Nat} (h1 : 1 ≤ most) (h5 : most ≤ 5) (h2 : inp ≤ 2) {s : Dice} {K : D → Dice → Prop} (k : ∀ N s', NetOk N → N.rows.length ≤ most → N.ins ≤ inp → N.outs.length ≤ 2 → K (netD N) s') : WE (m_law_net [.dice, .val (.int (most : Nat)), .val (.int (inp : Nat))] s) K := by
  refine fn_wp (ρ := [.dice, .val (.int (most : Nat)), .val (.int (inp : Nat)), .no, .no, .no, .no, .no, .no, .no, .no, .no, .no, .no]) rfl ?_
  generalize hG : (fun j : Nat => ms_law_net[j]?) = G
  have g0 : G 0 = some m_law_roll := by rw [← hG]; rfl
  have g1 : G 1 = some m_law_renamed := by rw [← hG]; rfl
  unfold c_law_net
  refine sc ?_
  simp [g0]
  refine roll_w (by omega) (by omega) fun n' s1 hn' => ?_
  simp
  refine roll_w (by omega) (by omega) fun g s2 hg => ?_
  obtain ⟨n, hn⟩ : ∃ n : Nat, n = 1 + n' := ⟨_, rfl⟩
  have ni : (1 : Int) + (n' : Nat) = (n : Nat) := by omega
  rw [ni]
  have n1 : 1 ≤ n := by omega
  have n5 : n ≤ 5 := by omega
  have gi : g ≤ inp := by omega
  have g2 : g ≤ 2 := by omega
  have ro := rngOk_s (a := 0) (b := n) (by omega) (by omega) (by omega) (by omega)
  refine sc ?_
  simp
  refine sc ?_
  simp [ro]
  refine for_rng (n := n) (lo := 0) (I := fun j ρ s' => ∃ (X : List Nt.Row) (L' : Int) (y3 y9 y10 y11 y12 y13 : SV), ρ = [.dice, .val (.int (most : Nat)), .val (.int (inp : Nat)), y3, .no, .val (.int (n : Nat)), .val (.int (g : Nat)), .own (X.map rowT), .val (.int L'), y9, y10, y11, y12, y13] ∧ X.length = j ∧ DrX g n X ∧ (∀ r ∈ X, r.length ≤ 3) ∧ 0 ≤ L' ∧ allBk X + L' = 8) ?_ ⟨[], 8, _, _, _, _, _, _, rfl, rfl, fun e r h => (by simp at h), fun r h => (by cases h), by decide, by simp [allBk]⟩ ?_
  · rintro j hj ρ s' K' ⟨X, L', y3, y9, y10, y11, y12, y13, rfl, hl, hX, hX3, hL, hs⟩ hk
    rw [WO_step]
    simp
    refine net_row g0 n1 n5 g2 hl hj hX hX3 hL hs fun X' L2 y9 y10 y11 y12 y13 s2 q1 q2 q3 q4 q5 => ?_
    exact hk _ _ ⟨X', L2, _, _, _, _, _, _, rfl, q1, q2, q3, q4, q5⟩
  · rintro ρ s' ⟨X, L', y3, y9, y10, y11, y12, y13, rfl, hl, hX, hX3, hL, hs⟩
    have fin : ∀ (X : List Nt.Row) s', X.length = n → DrX g n X → allBk X ≤ 8 → WX G (dropB 4 c_law_net) [.dice, .val (.int (most : Nat)), .val (.int (inp : Nat)), y3, .no, .val (.int (n : Nat)), .val (.int (g : Nat)), .own (X.map rowT), .val (.int L'), y9, y10, y11, y12, y13] s' (fun _ s' => K .none s') K := by
      intro X s' hl hX hb
      unfold c_law_net
      simp only [dropB]
      refine sc ?_
      simp [g0]
      refine roll_w (by decide) (by decide) fun m s3 hm => ?_
      obtain ⟨q, hq⟩ : ∃ q : Nat, q = 1 + m := ⟨_, rfl⟩
      have qi : (1 : Int) + (m : Nat) = (q : Nat) := by omega
      have ro2 := rngOk_s (a := 0) (b := q) (by omega) (by omega) (by omega) (by omega)
      simp [qi, ro2]
      refine comp_rngW (β := Nat) (e := nD) (Q := fun _ o => o < n) (by omega) (fun i hi s K hk => ?_) fun os s4 ol ob => ?_
      · rw [WE_item]
        simp [e_law_net_2, g0]
        refine roll_w (by omega) (by omega) fun o s5 ho => ?_
        exact hk o s5 (by omega)
      · refine sc ?_
        simp [g1]
        have sh : ShOk ⟨g, X, os⟩ := by
          refine ⟨by show g ≤ 2; omega, by show 1 ≤ X.length; omega, by show X.length ≤ 5; omega, fun r hr => ?_, fun r hr a ha => ?_, by show 1 ≤ os.length; omega, by show os.length ≤ 3; omega, fun o ho => ?_⟩
          · obtain ⟨e, he⟩ := List.mem_iff_getElem?.mp hr
            exact (hX e r he).1
          · obtain ⟨e, he⟩ := List.mem_iff_getElem?.mp hr
            show ArcOk g X.length a
            rw [hl]
            exact ((hX e r he).2 a ha).1
          · obtain ⟨e, he⟩ := List.mem_iff_getElem?.mp ho
            obtain ⟨hle, rfl⟩ := List.getElem?_eq_some_iff.mp he
            show os[e] < X.length
            rw [hl]
            exact ob e hle
        have ok : NetOk ⟨g, X, os⟩ := ⟨sh, hb, sh.ord_iff.mpr ⟨id, fun e r he a ha v hv hz => ((hX e r he).2 a ha).2 v hv hz⟩⟩
        have := renamed_n ok (s := s4) (K := K) fun M s' hM h1 h2 h3 => k M s' hM (by rw [h2]; show X.length ≤ most; omega) (by rw [h1]; exact gi) (by rw [h3]; show os.length ≤ 2; omega)
        exact this
    have hXb : allBk X ≤ 8 := by omega
    refine si ?_
    simp [g0]
    refine roll_w (by decide) (by decide) fun c s3 hc => ?_
    simp
    obtain ⟨r, X', rfl⟩ : ∃ r X', X = r :: X' := by
      cases X with
      | nil => simp at hl; omega
      | cons r X' => exact ⟨r, X', rfl⟩
    have lr := len_row (r := r)
    by_cases hc0 : 0 < c
    · refine itT hc0 ?_
      simp [lr]
      by_cases h4 : r.length < 4
      · refine itT (by omega) ?_
        refine sc ?_
        simp [g0]
        refine roll_w (by decide) (by decide) fun d s4 hd => ?_
        have ad : binD .add (rowT r) (.tuple [.tuple [.str "s", .int d, .int 0]]) = some (rowT (r ++ [⟨.s, d, 0⟩])) := by
          unfold rowT
          show (if _ then some (PyData.tuple _) else none) = _
          rw [if_pos (by rw [List.length_map]; exact sz_le (by rw [List.length_cons, List.length_nil]; omega)), List.map_append]
          rfl
        have ij : ixN (X'.length + 1) 0 = some 0 := by
          unfold ixN
          rw [if_pos (by omega), if_pos (by omega)]
          rfl
        simp [ad, ij]
        refine sn ?_
        have z := hX 0 r rfl
        refine fin ((r ++ [⟨.s, d, 0⟩]) :: X') s4 hl (fun e r' h => ?_) ?_
        · cases e with
          | zero =>
            have e2 : r ++ [⟨.s, d, 0⟩] = r' := by simpa using h
            subst e2
            refine ⟨by simp; omega, fun a ha => ?_⟩
            rcases List.mem_append.mp ha with ha | ha
            · exact z.2 a ha
            · rw [List.mem_singleton.mp ha]
              exact ⟨⟨trivial, by show (0 : Int) ≤ (d : Nat); omega, by show ((d : Nat) : Int) ≤ 9; omega, by show (0 : Int) ≤ 0; decide, by show (0 : Int) ≤ 3; decide⟩, fun v hv => by cases hv⟩
          | succ e => exact hX (e + 1) r' h
        · have e1 : allBk ((r ++ [⟨.s, d, 0⟩]) :: X') = allBk (r :: X') := by
            have e2 : rowBk (r ++ [⟨.s, d, 0⟩]) = rowBk r := by
              unfold rowBk
              rw [List.map_append, List.sum_append]
              simp
            unfold allBk
            rw [List.map_cons, List.map_cons, List.sum_cons, List.sum_cons, e2]
          rw [e1]
          exact hXb
      · refine itF (by omega) (sn ?_)
        exact fin _ s3 hl hX hXb
    · refine itF hc0 ?_
      simp
      refine sn ?_
      exact fin _ s3 hl hX hXb
theorem overtaken_w {s : Dice} {K : D → Dice → Prop} (k : ∀ N s', NetOk N → N.rows.length = 3 → N.ins = 0 → N.outs.length = 2 → K (netD N) s') : WE (m_law_overtaken [.dice] s) K := by
  refine fn_wp (ρ := [.dice, .no, .no, .no]) rfl ?_
  generalize hG : (fun j : Nat => ms_law_overtaken[j]?) = G
  have g0 : G 0 = some m_law_roll := by rw [← hG]; rfl
  have g1 : G 1 = some m_law_renamed := by rw [← hG]; rfl
  unfold c_law_overtaken
  refine sc ?_
  simp [g0]
  refine roll_w (by decide) (by decide) fun d1 s1 h1 => ?_
  refine roll_w (by decide) (by decide) fun d2 s2 h2 => ?_
  try simp
  refine sc ?_
  simp [g0]
  refine roll_w (by decide) (by decide) fun d3 s3 h3 => ?_
  refine roll_w (by decide) (by decide) fun b1 s4 h4 => ?_
  try simp
  refine sc ?_
  simp [g0]
  refine roll_w (by decide) (by decide) fun b2 s5 h5 => ?_
  refine roll_w (by decide) (by decide) fun b3 s6 h6 => ?_
  try simp
  refine sc ?_
  simp [g0]
  refine roll_w (by decide) (by decide) fun d4 s7 h7 => ?_
  refine roll_w (by decide) (by decide) fun d5 s8 h8 => ?_
  refine roll_w (by decide) (by decide) fun b4 s9 h9 => ?_
  try simp
  refine sc ?_
  simp [g1]
  have sh : ShOk ⟨0, [[⟨.s, d3, 0⟩, ⟨.e 0, d1, 1 + b1⟩], [⟨.s, 0, b2⟩, ⟨.e 1, d2, 1 + b3⟩], [⟨.e 0, d4, 0⟩, ⟨.e 1, d5, b4⟩]], [2, 1]⟩ := by
    refine ⟨by simp, by simp, by simp, fun r hr => ?_, fun r hr a ha => ?_, by simp, by simp, by simp⟩
    · simp at hr
      rcases hr with rfl | rfl | rfl <;> simp
    · simp at hr
      rcases hr with rfl | rfl | rfl <;> simp at ha <;> rcases ha with rfl | rfl <;> refine ⟨?_, ?_, ?_, ?_, ?_⟩ <;> simp [SrcOk] <;> omega
  have ok : NetOk ⟨0, [[⟨.s, d3, 0⟩, ⟨.e 0, d1, 1 + b1⟩], [⟨.s, 0, b2⟩, ⟨.e 1, d2, 1 + b3⟩], [⟨.e 0, d4, 0⟩, ⟨.e 1, d5, b4⟩]], [2, 1]⟩ := by
    refine ⟨sh, by simp [allBk, rowBk]; omega, sh.ord_iff.mpr ⟨id, fun e r he a ha v hv hz => ?_⟩⟩
    match e, he with
    | 0, he =>
      have e1 := Option.some.inj he
      subst e1
      simp at ha
      rcases ha with rfl | rfl
      · cases hv
      · have hz : (1 : Int) + (b1 : Nat) = 0 := hz
        omega
    | 1, he =>
      have e1 := Option.some.inj he
      subst e1
      simp at ha
      rcases ha with rfl | rfl
      · cases hv
      · have hz : (1 : Int) + (b3 : Nat) = 0 := hz
        omega
    | 2, he =>
      have e1 := Option.some.inj he
      subst e1
      simp at ha
      rcases ha with rfl | rfl
      · cases hv; decide
      · cases hv; decide
    | e + 3, he => simp at he
  have := renamed_n ok (s := s9) (K := K) fun M s' hM q1 q2 q3 => k M s' hM q2 q1 q3
  exact this
end Pg

/-! Ways sorted; the law's own rings. -/
namespace Pg
open PySem PySem.Spec PyProof.Rows L2 Co Nt
def flatW (w : Way) : List Nat := w.flatMap fun p => [p.1, p.2]
theorem flatW_inj : ∀ {a b : Way}, flatW a = flatW b → a = b
  | [], [], _ => rfl
  | [], _ :: _, h => by cases h
  | _ :: _, [], h => by cases h
  | (a1, a2) :: a, (b1, b2) :: b, h => by
    have h : a1 :: a2 :: flatW a = b1 :: b2 :: flatW b := h
    injection h with h1 h
    injection h with h2 h
    rw [h1, h2, flatW_inj h]
theorem lt_ways : ∀ (a b : Way), PySem.W.rowLt (a.map pairD) (b.map pairD) = decide (flatW a < flatW b)
  | [], [] => by
    have e : PySem.W.rowLt [] [] = false := lex_irrefl _
    simp [e, flatW]
  | [], q :: b => by
    have e : PySem.W.rowLt [] (pairD q :: b.map pairD) = true := by
      unfold PySem.W.rowLt
      rw [PySem.W.toks_all_cons]
      simp only [PySem.W.keyToksAll]
      rw [lex_diff (O := itemOrd) (by simp)]
      rfl
    simpa [flatW] using e
  | p :: a, [] => by
    have e : PySem.W.rowLt (pairD p :: a.map pairD) [] = false := by
      unfold PySem.W.rowLt
      rw [PySem.W.toks_all_cons]
      simp only [PySem.W.keyToksAll]
      rw [lex_diff (O := itemOrd) (by simp)]
      rfl
    simpa [flatW] using e
  | p :: a, q :: b => by
    have e : PySem.W.rowLt (pairD p :: a.map pairD) (pairD q :: b.map pairD) = if p = q then PySem.W.rowLt (a.map pairD) (b.map pairD) else decide (p.1 < q.1 ∨ (p.1 = q.1 ∧ p.2 < q.2)) := by
      unfold PySem.W.rowLt
      rw [PySem.W.dataLt_cons (alike_pair p q)]
      have e1 := eqv_iff (pairD p) (pairD q) (pl_pair p).p (pl_pair q).p
      have e2 : pairD p = pairD q ↔ p = q := by
        constructor
        · intro h
          injection h with h
          injection h with h1 h
          injection h with h2 h
          injection h1 with h1
          injection h2 with h2
          exact Prod.ext (by omega) (by omega)
        · intro h
          rw [h]
      by_cases h : p = q
      · rw [if_pos (e1.mpr (e2.mpr h)), if_pos h]
      · rw [if_neg (fun z => h (e2.mp (e1.mp z))), if_neg h]
        have e3 : PySem.W.dataLt (pairD p) (pairD q) = decide ((p.1 : Int) < q.1 ∨ ((p.1 : Int) = q.1 ∧ (p.2 : Int) < q.2)) := PySem.W.dataLt_ii _ _ _ _
        rw [e3]
        congr 1
        apply propext
        omega
    show PySem.W.rowLt (pairD p :: a.map pairD) (pairD q :: b.map pairD) = _
    rw [e, lt_ways a b]
    show _ = decide (p.1 :: p.2 :: flatW a < q.1 :: q.2 :: flatW b)
    obtain ⟨p1, p2⟩ := p
    obtain ⟨q1, q2⟩ := q
    by_cases h : (p1, p2) = (q1, q2)
    · rw [if_pos h]
      injection h with h1 h2
      subst h1 h2
      simp [List.cons_lt_cons_iff]
    · rw [if_neg h]
      have h : ¬ (p1 = q1 ∧ p2 = q2) := fun z => h (by rw [z.1, z.2])
      simp only [List.cons_lt_cons_iff]
      congr 1
      apply propext
      by_cases h1 : p1 = q1 <;> by_cases h2 : p2 = q2 <;> simp_all
def leW (a b : Way) : Bool := decide (flatW a ≤ flatW b)
theorem dataLe_way (a b : Way) : PySem.W.dataLe false id (wayT a) (wayT b) = leW a b := by
  show (!PySem.W.dataLt (wayT b) (wayT a)) = _
  have : PySem.W.dataLt (wayT b) (wayT a) = PySem.W.rowLt (b.map pairD) (a.map pairD) := PySem.W.dataLt_tuple _ _
  rw [this, lt_ways]
  unfold leW
  by_cases h : flatW b < flatW a
  · have h' : ¬ flatW a ≤ flatW b := fun r => List.not_lt.mpr r h
    simp [h, h']
  · have h' : flatW a ≤ flatW b := List.not_lt.mp h
    simp [h, h']
def sortW (ws : List Way) : List Way := ws.mergeSort leW
theorem sortW_D (ws : List Way) : sortD (ws.map wayT) = (sortW ws).map wayT := by
  unfold sortD sortW
  exact (List.map_mergeSort fun a _ b _ => (dataLe_way a b).symm).symm
theorem leW_trans (a b c : Way) (h1 : leW a b = true) (h2 : leW b c = true) : leW a c = true := by
  unfold leW at *
  rw [decide_eq_true_eq] at *
  exact List.le_trans h1 h2
theorem leW_total (a b : Way) : (leW a b || leW b a) = true := by
  unfold leW
  rw [Bool.or_eq_true, decide_eq_true_eq, decide_eq_true_eq]
  exact List.le_total _ _
theorem sortW_perm {a b : List Way} (h : a.Perm b) : sortW a = sortW b := by
  refine List.Perm.eq_of_pairwise (le := fun a b => leW a b = true) (fun a b _ _ h1 h2 => ?_) (List.pairwise_mergeSort leW_trans leW_total a) (List.pairwise_mergeSort leW_trans leW_total b) ((List.mergeSort_perm _ _).trans (h.trans (List.mergeSort_perm _ _).symm))
  unfold leW at h1 h2
  rw [decide_eq_true_eq] at h1 h2
  exact flatW_inj (List.le_antisymm h1 h2)
theorem ringsP_sort {rows : List Nt.Row} (B : RB rows) : ringsP rows = sortW (ringsAll (evs rows)) := by
  have e : ringsP rows = sortW (piles rows rows.length) := by
    unfold ringsP sortW
    congr 1
    funext a b
    exact dataLe_way a b
  rw [e]
  exact sortW_perm (piles_perm B)
end Pg

/-! The law's own rings, walked. -/
namespace Pg
open PySem PySem.Spec PyProof.Rows L2 Co Nt
/-- an item of a level -/
def litD (it : Nat × Way) : D := .tuple [wayT it.2, nD it.1]
theorem immL_app {first : Nat} {it : Nat × Way} : ∀ {p : Nat} {a b : List (Option Nat)}, immL first it p (a ++ b) = immL first it p a ++ immL first it (p + a.length) b
  | p, [], b => rfl
  | p, o :: a, b => by
    have ih := immL_app (first := first) (it := it) (p := p + 1) (a := a) (b := b)
    rw [show p + (o :: a).length = p + 1 + a.length by rw [List.length_cons]; omega, List.cons_append]
    have st : ∀ l, immL first it p (o :: l) = if o = some first then (it.2 ++ [(it.1, p)]) :: immL first it (p + 1) l else immL first it (p + 1) l := fun _ => rfl
    rw [st, st, ih]
    split <;> rfl
theorem kidsL_app {first : Nat} {it : Nat × Way} : ∀ {p : Nat} {a b : List (Option Nat)}, kidsL first it p (a ++ b) = kidsL first it p a ++ kidsL first it (p + a.length) b
  | p, [], b => rfl
  | p, o :: a, b => by
    have ih := kidsL_app (first := first) (it := it) (p := p + 1) (a := a) (b := b)
    rw [show p + (o :: a).length = p + 1 + a.length by rw [List.length_cons]; omega, List.cons_append]
    cases o with
    | none => exact ih
    | some v =>
      rw [kids_some, kids_some, ih]
      split <;> rfl
theorem way_add {w : Way} {e p : Nat} (h : w.length ≤ 100) : binD .add (wayT w) (.tuple [.tuple [.int (e : Nat), .int (p : Nat)]]) = some (wayT (w ++ [(e, p)])) := by
  unfold wayT
  show (if _ then some (PyData.tuple _) else none) = _
  rw [if_pos (by rw [List.length_map]; exact sz_le (by rw [List.length_cons, List.length_nil]; omega)), List.map_append]
  rfl
theorem tl_src {c : Nat} (h : c < 10) : slcD (srcD (.e c)) (some 1) none = some (.str (dgS c)) := tl_e c h
@[simp] theorem its_way {w : Way} : itsD (wayT w) = some (w.map pairD) := Eq.trans rfl rfl
@[simp] theorem enm_rowsD {r : Nt.Row} : enmD? (rowT r) = some (r.map arcD) := Eq.trans rfl rfl
@[simp] theorem arc_0 {a : Arc} : subD (arcD a) (.int 0) = some (srcD a.src) := by unfold arcD; rw [sub_t0]
@[simp] theorem arc_1 {a : Arc} : subD (arcD a) (.int 1) = some (.int a.dl) := by unfold arcD; rw [sub_t1]
@[simp] theorem arc_2 {a : Arc} : subD (arcD a) (.int 2) = some (.int a.bk) := by unfold arcD; rw [sub_t2]
@[simp] theorem setP_arc {ps : PatL} {a : Arc} {ρ : Co.Env} : setP (.tup ps) (arcD a) ρ = setPs ps [srcD a.src, .int a.dl, .int a.bk] ρ := Eq.trans rfl rfl
@[simp] theorem setP_lit {ps : PatL} {it : Nat × Way} {ρ : Co.Env} : setP (.tup ps) (litD it) ρ = setPs ps [wayT it.2, .int (it.1 : Nat)] ρ := Eq.trans rfl rfl
@[simp] theorem setP_pair {ps : PatL} {p : Nat × Nat} {ρ : Co.Env} : setP (.tup ps) (pairD p) ρ = setPs ps [.int (p.1 : Nat), .int (p.2 : Nat)] ρ := Eq.trans rfl rfl
theorem sub_rows {rows : List Nt.Row} {e : Nat} (h : e < rows.length) : subD (rowsT rows) (.int (e : Nat)) = some (rowT (rowAt rows e)) := by
  unfold rowsT
  rw [sub_tN, List.getElem?_map]
  unfold rowAt
  rw [List.getD_eq_getElem?_getD, List.getElem?_eq_getElem h]
  rfl
theorem sub_row {rows : List Nt.Row} {e p : Nat} (h : p < (rowAt rows e).length) : subD (rowT (rowAt rows e)) (.int (p : Nat)) = some (arcD (arcAt rows (e, p))) := by
  unfold rowT
  rw [sub_tN, List.getElem?_map]
  unfold arcAt
  rw [List.getD_eq_getElem?_getD, List.getElem?_eq_getElem h]
  rfl
theorem rowAt_mem {rows : List Nt.Row} {e : Nat} (h : e < rows.length) : rowAt rows e ∈ rows := by
  unfold rowAt
  rw [List.getD_eq_getElem?_getD, List.getElem?_eq_getElem h]
  exact List.getElem_mem h
section
variable {G : Gam} {N : Net} {R : D → Dice → Prop}
abbrev EL (N : Net) (F : List Way) (first : Nat) (lv : SV) (W : List (Nat × Way)) (y5 y6 y7 y8 y9 : SV) : Co.Env := [.val (netD N), .own (F.map wayT), .val (.int (first : Nat)), lv, .own (W.map litD), y5, y6, y7, y8, y9, .no, .no]
theorem imm1 {first : Nat} {it : Nat × Way} {p : Nat} : immL first it p [some first] = [it.2 ++ [(it.1, p)]] := by
  have st : ∀ o l, immL first it p (o :: l) = if o = some first then (it.2 ++ [(it.1, p)]) :: immL first it (p + 1) l else immL first it (p + 1) l := fun _ _ => rfl
  rw [st, if_pos rfl]
  rfl
theorem imm0 {first : Nat} {it : Nat × Way} {p : Nat} {o : Option Nat} (h : o ≠ some first) : immL first it p [o] = [] := by
  have st : ∀ o l, immL first it p (o :: l) = if o = some first then (it.2 ++ [(it.1, p)]) :: immL first it (p + 1) l else immL first it (p + 1) l := fun _ _ => rfl
  rw [st, if_neg h]
  rfl
/-- the arcs of one event -/
theorem lr_arcs (B : RB N.rows) {first : Nat} (hf : first < 10) {it : Nat × Way} (hw : it.2.length ≤ 50) {F : List Way} {W : List (Nat × Way)} {lv y8 y9 : SV} {s : Dice} {r : Nt.Row} (hr : r ∈ N.rows) (hz : F.length + W.length + r.length ≤ 90000) {pd : D} (hpd : pd = .list ((it.2.map (·.1) ++ [it.1]).map nD)) {K : Co.Env → Dice → Prop}
    (k : ∀ y8 y9, K (EL N (F ++ immL first it 0 (r.map fun a => a.src.ev)) first lv (W ++ kidsL first it 0 (r.map fun a => a.src.ev)) (.val (wayT it.2)) (.val (.int (it.1 : Nat))) (.val pd) y8 y9) s) :
    WO (forL (stepF G (.tup (.cons (.one 8) (.cons (.one 9) (.nil)))) b_law_rings_0) (enmD 0 (r.map arcD)) (EL N F first lv W (.val (wayT it.2)) (.val (.int (it.1 : Nat))) (.val pd) y8 y9) s) K R := by
  refine for_enm (g := arcD) (I := fun d ρ s' => s' = s ∧ ∃ y8 y9, ρ = EL N (F ++ immL first it 0 (d.map fun a => a.src.ev)) first lv (W ++ kidsL first it 0 (d.map fun a => a.src.ev)) (.val (wayT it.2)) (.val (.int (it.1 : Nat))) (.val pd) y8 y9) ?_ ⟨rfl, y8, y9, by simp [immL, kidsL]⟩ ?_
  · rintro d a rest e ρ s' K' ⟨rfl, y8, y9, rfl⟩ hk
    have am : a ∈ r := by rw [e]; simp
    have sm := B.sm r hr a am
    have dl : d.length < r.length := by rw [e]; simp
    have hb := both_len (first := first) (it := it) (p := 0) (os := d.map fun a => a.src.ev)
    rw [List.length_map] at hb
    rw [List.map_append, List.map_singleton, immL_app, kidsL_app, List.length_map, Nat.zero_add, ← List.append_assoc, ← List.append_assoc] at hk
    have sd := str_dg first hf
    have ae := add_e first hf
    have E := eq_src sm (b := .e first) hf
    have E : eqD (srcD a.src) (.str (srcS (.e first))) = some (decide (a.src = .e first)) := E
    obtain ⟨x, x1, x2⟩ := hd_src sm
    have wa := way_add (w := it.2) (e := it.1) (p := d.length) (by omega)
    have lF : (F ++ immL first it 0 (d.map fun a => a.src.ev)).length < sizeLine := sz_lt (by rw [List.length_append]; omega)
    have lW : (W ++ kidsL first it 0 (d.map fun a => a.src.ev)).length < sizeLine := sz_lt (by rw [List.length_append]; omega)
    generalize hF : F ++ immL first it 0 (d.map fun a => a.src.ev) = F' at *
    generalize hW : W ++ kidsL first it 0 (d.map fun a => a.src.ev) = W' at *
    rw [WO_step]
    unfold EL
    simp
    unfold b_law_rings_0
    refine si ?_
    simp [sd, ae, E]
    by_cases h1 : a.src = .e first
    · refine itT h1 (sc ?_)
      simp [wa, lF]
      refine sn (sn ?_)
      rw [h1] at hk
      refine hk _ _ ⟨rfl, .val (.int (d.length : Nat)), .val (arcD a), ?_⟩
      have k0 : kidsL first it d.length [(Src.e first).ev] = [] := by
        show kidsL first it d.length [some first] = []
        rw [kids_some, if_neg (fun z => z.1 rfl)]
        rfl
      rw [k0, show (Src.e first).ev = some first from rfl, imm1, List.append_nil]
      unfold EL
      rw [List.map_append]
      rfl
    · have i0 : immL first it d.length [a.src.ev] = [] := imm0 fun z => h1 (ev_some.mp z)
      rw [i0, List.append_nil] at hk
      refine itF h1 (si ?_)
      simp [x1, x2]
      have no : kidsL first it d.length [a.src.ev] = [] → K' [.val (netD N), .own (F'.map wayT), .val (.int (first : Nat)), lv, .own (W'.map litD), .val (wayT it.2), .val (.int (it.1 : Nat)), .val pd, .val (.int (d.length : Nat)), .val (arcD a), .no, .no] s' := fun z => hk _ _ ⟨rfl, .val (.int (d.length : Nat)), .val (arcD a), by rw [z, List.append_nil]⟩
      cases hs : a.src with
      | s =>
        refine itF (fun z => by cases z) (sn (sn (sn ?_)))
        exact no (by rw [hs]; rfl)
      | u c =>
        refine itF (fun z => by cases z) (sn (sn (sn ?_)))
        exact no (by rw [hs]; rfl)
      | e c =>
        rw [hs] at sm
        have c10 : c < 10 := sm
        have t1 := tl_src c10
        have t2 := int_dg c c10
        have NI : cmpD .nin (.int (c : Nat)) pd = some (decide (c ∉ it.2.map (·.1) ++ [it.1])) := by rw [hpd]; exact nin_ints
        have cf : c ≠ first := fun z => h1 (by rw [hs, z])
        have kd : kidsL first it d.length [a.src.ev] = if first < c ∧ c ∉ it.2.map (·.1) ++ [it.1] then [(c, it.2 ++ [(it.1, d.length)])] else [] := by
          rw [hs]
          show kidsL first it d.length [some c] = _
          rw [kids_some]
          by_cases q : first < c ∧ c ∉ it.2.map (·.1) ++ [it.1]
          · rw [if_pos q, if_pos ⟨cf, q.1, fun z => q.2 (List.mem_append_left _ z), fun z => q.2 (List.mem_append_right _ (by rw [z]; simp))⟩]
            rfl
          · rw [if_neg q, if_neg]
            · rfl
            · rintro ⟨_, q1, q2, q3⟩
              refine q ⟨q1, fun z => ?_⟩
              rcases List.mem_append.mp z with z | z
              · exact q2 z
              · exact q3 (List.mem_singleton.mp z)
        refine itT rfl ?_
        simp only [t1, t2, hs, Co.WP_some]
        by_cases q1 : first < c
        · have q1' : (first : Int) < (c : Int) := by omega
          simp only [cmp_gt, decide_eq_true q1', Option.map_some, Co.WP_some, Co.WB_b]
          refine itT trivial ?_
          by_cases q2 : c ∉ it.2.map (·.1) ++ [it.1]
          · rw [if_pos ⟨q1, q2⟩] at kd
            rw [kd] at hk
            rw [decide_eq_true q2] at NI
            simp [NI]
            refine sc ?_
            simp [t1, t2, hs, wa, lW]
            refine sn (sn (sn ?_))
            refine hk _ _ ⟨rfl, .val (.int (d.length : Nat)), .val (arcD a), ?_⟩
            unfold EL
            rw [List.map_append]
            rfl
          · rw [if_neg (fun z => q2 z.2)] at kd
            rw [decide_eq_false q2] at NI
            simp [NI]
            refine sn (sn (sn ?_))
            exact no kd
        · rw [if_neg (fun z => q1 z.1)] at kd
          have q1' : ¬ (first : Int) < (c : Int) := by omega
          simp [q1']
          refine sn (sn (sn ?_))
          exact no kd
  · rintro ρ s' ⟨rfl, y8, y9, rfl⟩
    exact k y8 y9
theorem size_kids {g : Gr} {first : Nat} (hg : OkG g) : ∀ {lev : List (Nat × Way)}, (∀ it ∈ lev, OkIt g first it) → (lev.map (Sz g first)).sum = lev.length + ((lev.flatMap (kids g first)).map (Sz g first)).sum
  | [], _ => rfl
  | it :: r, h => by
    have h1 := Sz_step hg (h it (List.mem_cons_self ..))
    have h2 := size_kids hg (lev := r) fun k hk => h k (List.mem_cons_of_mem _ hk)
    rw [List.map_cons, List.sum_cons, h1, h2, List.flatMap_cons, List.map_append, List.sum_append, List.length_cons]
    omega
theorem imm_len {g : Gr} {first b : Nat} (hb : ∀ r ∈ g, r.length ≤ b) : ∀ {lev : List (Nat × Way)}, (lev.flatMap (imm g first)).length ≤ b * lev.length
  | [] => by simp
  | it :: r => by
    have h1 : (imm g first it).length ≤ b := Nat.le_trans immL_len (gr_len hb _)
    have h2 := imm_len (g := g) (first := first) hb (lev := r)
    rw [List.flatMap_cons, List.length_append, List.length_cons, Nat.mul_add, Nat.mul_one]
    omega
theorem Sz_pos {g : Gr} {first : Nat} (hg : OkG g) {lev : List (Nat × Way)} (h : ∀ it ∈ lev, OkIt g first it) : lev.length ≤ (lev.map (Sz g first)).sum := by
  have := size_kids hg h
  omega
theorem row_le {rows : List Nt.Row} (B : RB rows) : ∀ r ∈ evs rows, r.length ≤ 6 := fun r hr => by
  obtain ⟨q, hq, rfl⟩ := List.mem_map.mp (show r ∈ rows.map fun r => r.map fun a => a.src.ev from hr)
  rw [List.length_map]
  exact B.row q hq
theorem kids_le {rows : List Nt.Row} (B : RB rows) {first : Nat} {it : Nat × Way} : (imm (evs rows) first it).length + (kids (evs rows) first it).length ≤ 6 :=
  Nat.le_trans both_len (gr_len (row_le B) _)
/-- one level -/
theorem lr_level (B : RB N.rows) {first : Nat} (hf : first < N.rows.length) {lev : List (Nat × Way)} (hl : ∀ it ∈ lev, OkIt (evs N.rows) first it) {F : List Way} {lv y5 y6 y7 y8 y9 : SV} {s : Dice} (hz : F.length + 12 * lev.length ≤ 80000) {K : Co.Env → Dice → Prop}
    (k : ∀ y5 y6 y7 y8 y9, K (EL N (F ++ lev.flatMap (imm (evs N.rows) first)) first lv (lev.flatMap (kids (evs N.rows) first)) y5 y6 y7 y8 y9) s) :
    WO (forL (stepF G (.tup (.cons (.one 5) (.cons (.one 6) (.nil)))) b_law_rings_1) (lev.map litD) (EL N F first lv [] y5 y6 y7 y8 y9) s) K R := by
  have Bl := B.len
  have hb := row_le B
  refine for_map (g := litD) (I := fun d ρ s' => s' = s ∧ ∃ y5 y6 y7 y8 y9, ρ = EL N (F ++ d.flatMap (imm (evs N.rows) first)) first lv (d.flatMap (kids (evs N.rows) first)) y5 y6 y7 y8 y9) ?_ ⟨rfl, y5, y6, y7, y8, y9, by simp⟩ ?_
  · rintro d it rest e ρ s' K' ⟨rfl, y5, y6, y7, y8, y9, rfl⟩ hk
    have oi := hl it (by rw [e]; simp)
    have il := oi.len
    have lt := oi.lt
    rw [evs_len] at il lt
    have dl : d.length < lev.length := by rw [e]; simp
    have rl := B.row _ (rowAt_mem lt)
    have gr_ : gr (evs N.rows) it.1 = (rowAt N.rows it.1).map fun a => a.src.ev := gr_evs _ _
    have i1 := imm_len (g := evs N.rows) (first := first) hb (lev := d)
    have i2 : (d.flatMap (kids (evs N.rows) first)).length ≤ 6 * d.length := by
      clear hk i1 e dl
      induction d with
      | nil => simp
      | cons a d ih =>
        have := kids_le B (first := first) (it := a)
        rw [List.flatMap_cons, List.length_append, List.length_cons]
        omega
    have F8 : (F ++ d.flatMap (imm (evs N.rows) first)).length ≤ 80000 - 6 := by rw [List.length_append]; omega
    have eF : F ++ (d ++ [it]).flatMap (imm (evs N.rows) first) = F ++ d.flatMap (imm (evs N.rows) first) ++ imm (evs N.rows) first it := by
      rw [List.flatMap_append, List.flatMap_singleton, List.append_assoc]
    have eW : (d ++ [it]).flatMap (kids (evs N.rows) first) = d.flatMap (kids (evs N.rows) first) ++ kids (evs N.rows) first it := by
      rw [List.flatMap_append, List.flatMap_singleton]
    rw [eF, eW] at hk
    have lF : (F ++ d.flatMap (imm (evs N.rows) first)).length + (d.flatMap (kids (evs N.rows) first)).length + 6 ≤ 90000 := by
      rw [List.length_append]
      have : F.length + 12 * lev.length ≤ 80000 := hz
      omega
    generalize F ++ d.flatMap (imm (evs N.rows) first) = F' at *
    generalize d.flatMap (kids (evs N.rows) first) = W' at *
    rw [WO_step]
    unfold EL
    simp
    unfold b_law_rings_1
    refine sc ?_
    simp [-evI_seq, -evI_enm]
    refine comp_allW (x := fun p => nD p.1) (by omega) (fun p hp K hk => ?_) ?_
    · rw [WE_item]
      unfold pairD nD
      simp
      exact hk
    · have sz : it.2.length + 1 ≤ sizeLine := sz_le (by omega)
      have ad : binD .add (.list (it.2.map fun p => nD p.1)) (.list [.int (it.1 : Nat)]) = some (.list ((it.2.map (·.1) ++ [it.1]).map nD)) := by
        show (if _ then some (PyData.list _) else none) = _
        rw [if_pos (by rw [List.length_map]; exact sz), List.map_append, List.map_map]
        rfl
      obtain ⟨pd, hpd⟩ : ∃ pd : D, pd = .list ((it.2.map (·.1) ++ [it.1]).map nD) := ⟨_, rfl⟩
      rw [← hpd] at ad
      simp only [ad, Co.WP_some]
      refine sc ?_
      simp [-evI_seq, -evI_enm, sub_rows lt]
      refine lr_arcs (first := first) (it := it) B (by omega) (by omega) (rowAt_mem lt) ?_ hpd ?_
      · omega
      · intro y8 y9
        refine sn (hk _ _ ⟨rfl, _, _, _, _, _, by unfold imm kids; rw [gr_]⟩)
  · rintro ρ s' ⟨rfl, y5, y6, y7, y8, y9, rfl⟩
    exact k _ _ _ _ _
/-- from one event on -/
theorem lr_from (B : RB N.rows) {first : Nat} (hf : first < N.rows.length) {F : List Way} {y3 y4 y5 y6 y7 y8 y9 : SV} {s : Dice} (hz : F.length ≤ 50000) {K : Co.Env → Dice → Prop}
    (k : ∀ (F' : List Way) y3 y4 y5 y6 y7 y8 y9, F'.Perm (F ++ ringsFrom (evs N.rows) first) → K [.val (netD N), .own (F'.map wayT), .val (.int (first : Nat)), y3, y4, y5, y6, y7, y8, y9, .no, .no] s) :
    WX G b_law_rings_3 [.val (netD N), .own (F.map wayT), .val (.int (first : Nat)), y3, y4, y5, y6, y7, y8, y9, .no, .no] s K R := by
  have Bl := B.len
  have bp := bfs_perm (g := evs N.rows) (first := first) B.ok (N.rows.length + 1) F [(first, [])] (fun it hit => by
    rw [List.mem_singleton] at hit
    rw [hit]
    exact OkIt.start (by rw [evs_len]; exact hf)) (fun it hit => by
    rw [List.mem_singleton] at hit
    rw [hit, evs_len]
    simp)
  have eF : ([(first, [])] : List (Nat × Way)).flatMap (E (evs N.rows) first) = ringsFrom (evs N.rows) first := by simp [ringsFrom]
  rw [eF] at bp
  have hs0 := Sz_le (g := evs N.rows) (first := first) (row_le B) (first, [])
  rw [evs_len] at hs0
  have hs1 := tb_mono (b := 6) Bl
  have hs2 : tb 6 5 = 1555 := by decide
  unfold b_law_rings_3
  refine sc ?_
  simp
  refine sc ?_
  refine swhl (I := fun k ρ s' => s' = s ∧ ∃ (F' : List Way) (lev : List (Nat × Way)) (y4 y5 y6 y7 y8 y9 : SV), ρ = [.val (netD N), .own (F'.map wayT), .val (.int (first : Nat)), .val (.list (lev.map litD)), y4, y5, y6, y7, y8, y9, .no, .no] ∧ bfs (evs N.rows) first k F' lev = bfs (evs N.rows) first (N.rows.length + 1) F [(first, [])] ∧ (∀ it ∈ lev, OkIt (evs N.rows) first it) ∧ (∀ it ∈ lev, N.rows.length < k + it.2.length) ∧ F'.length + 6 * (lev.map (Sz (evs N.rows) first)).sum ≤ 60000 ∧ (lev.map (Sz (evs N.rows) first)).sum ≤ 1555) ?_ (N.rows.length + 1) (by omega) ⟨rfl, F, [(first, [])], y4, y5, y6, y7, y8, y9, rfl, rfl, fun it hit => ?_, fun it hit => ?_, ?_, ?_⟩
  · rintro k' ρ s' K' ⟨rfl, F', lev, y4, y5, y6, y7, y8, y9, rfl, hb, hl, hk', hz', hz2⟩ hk
    cases lev with
    | nil =>
      have E : eqD (.list []) (.list []) = some true := rfl
      simp [E]
      refine sn (k F' _ _ _ _ _ _ _ ?_)
      have : bfs (evs N.rows) first k' F' [] = F' := by
        cases k' with
        | zero => rfl
        | succ k' => rfl
      rw [this] at hb
      rw [hb]
      exact bp
    | cons it lev =>
      obtain ⟨lv, hlv⟩ : ∃ lv, lv = it :: lev := ⟨_, rfl⟩
      rw [← hlv] at hl hk' hb hz' hz2 ⊢
      have itm : it ∈ lv := by rw [hlv]; simp
      have E : eqD (.list (lv.map litD)) (.list []) = some false := by
        refine eqD_f ((pl_list (n := 3) fun x hx => ?_).mono (by decide)) ((pl_list (n := 0) fun x hx => by cases hx).mono (by decide)) fun z => by rw [hlv] at z; cases z
        obtain ⟨i, _, rfl⟩ := List.mem_map.mp hx
        refine pl_tup fun y hy => ?_
        simp only [List.mem_cons, List.not_mem_nil, or_false] at hy
        rcases hy with rfl | rfl
        · exact pl_wayT _
        · exact (pl_nD _).mono (by decide)
      have kp : k' ≠ 0 := by
        rintro rfl
        have := (hl it itm).len
        have := hk' it itm
        rw [evs_len] at *
        omega
      obtain ⟨m, hm⟩ : ∃ m, k' = m + 1 := ⟨k' - 1, by omega⟩
      subst hm
      have sp := size_kids B.ok hl
      have bs : bfs (evs N.rows) first (m + 1) F' lv = bfs (evs N.rows) first m (F' ++ lv.flatMap (imm (evs N.rows) first)) (lv.flatMap (kids (evs N.rows) first)) := by
        show (if lv = [] then F' else _) = _
        rw [if_neg (by rw [hlv]; simp)]
      rw [bs] at hb
      have il := imm_len (g := evs N.rows) (first := first) (row_le B) (lev := lv)
      simp [E]
      unfold b_law_rings_2
      refine sc ?_
      simp
      refine sc ?_
      simp [-evI_seq, -evI_enm]
      refine lr_level B hf hl (by omega) fun y5 y6 y7 y8 y9 => ?_
      refine sc ?_
      unfold EL
      have nk : ∀ it ∈ lv.flatMap (kids (evs N.rows) first), OkIt (evs N.rows) first it := fun k hk => by
        obtain ⟨i, hi, hk⟩ := List.mem_flatMap.mp hk
        exact ((hl i hi).kid B.ok hk).1
      have nk2 : ∀ it ∈ lv.flatMap (kids (evs N.rows) first), N.rows.length < m + it.2.length := fun k hk => by
        obtain ⟨i, hi, hk⟩ := List.mem_flatMap.mp hk
        have := ((hl i hi).kid B.ok hk).2
        have := hk' i hi
        omega
      have nz : (F' ++ lv.flatMap (imm (evs N.rows) first)).length + 6 * ((lv.flatMap (kids (evs N.rows) first)).map (Sz (evs N.rows) first)).sum ≤ 60000 := by
        rw [List.length_append]
        omega
      have nz2 : ((lv.flatMap (kids (evs N.rows) first)).map (Sz (evs N.rows) first)).sum ≤ 1555 := by omega
      generalize F' ++ lv.flatMap (imm (evs N.rows) first) = F2 at *
      generalize lv.flatMap (kids (evs N.rows) first) = W2 at *
      simp
      refine sc ?_
      simp
      exact sn (hk _ _ m (by omega) ⟨rfl, F2, W2, _, _, _, _, _, _, rfl, hb, nk, nk2, nz, nz2⟩)
  · rw [List.mem_singleton] at hit
    rw [hit]
    exact OkIt.start (by rw [evs_len]; exact hf)
  · rw [List.mem_singleton] at hit
    rw [hit]
    simp
  · rw [List.map_singleton, List.sum_singleton]
    omega
  · rw [List.map_singleton, List.sum_singleton]
    omega
theorem law_rings_w (h : NetOk N) {s : Dice} {K : D → Dice → Prop} (k : K (.list ((sortW (ringsAll (evs N.rows))).map wayT)) s) : WE (m_law_rings [.val (netD N)] s) K := by
  have B := h.sh.rb
  have Bl := B.len
  have ro := rngOk_s (a := 0) (b := N.rows.length) (by omega) (by omega) (by omega) (by omega)
  refine fn_wp (ρ := [.val (netD N), .no, .no, .no, .no, .no, .no, .no, .no, .no, .no, .no]) rfl ?_
  unfold c_law_rings
  refine sc ?_
  simp
  refine sc ?_
  simp [len_rows, ro]
  refine for_rng (n := N.rows.length) (lo := 0) (I := fun i ρ s' => s' = s ∧ ∃ (F : List Way) (y2 y3 y4 y5 y6 y7 y8 y9 : SV), ρ = [.val (netD N), .own (F.map wayT), y2, y3, y4, y5, y6, y7, y8, y9, .no, .no] ∧ F.Perm ((List.range i).flatMap (ringsFrom (evs N.rows)))) ?_ ⟨rfl, [], _, _, _, _, _, _, _, _, rfl, by simp⟩ ?_
  · rintro i hi ρ s' K' ⟨rfl, F, y2, y3, y4, y5, y6, y7, y8, y9, rfl, hF⟩ hk
    rw [WO_step]
    simp
    have Fl : F.length ≤ 50000 := by
      have e1 := hF.length_eq
      have := piles_len B i (by omega)
      have e2 : (piles N.rows i).length = ((List.range i).flatMap (ringsFrom (evs N.rows))).length := by
        unfold piles
        refine List.Perm.length_eq ?_
        have : ∀ n, n ≤ N.rows.length → ((List.range n).flatMap (pile N.rows)).Perm ((List.range n).flatMap (ringsFrom (evs N.rows))) := by
          intro n
          induction n with
          | zero => intro _; exact List.Perm.refl _
          | succ n ih =>
            intro h
            rw [List.range_succ, List.flatMap_append, List.flatMap_append]
            refine (ih (by omega)).append ?_
            simpa using pile_perm B (first := n) (by omega)
        exact this i (by omega)
      omega
    refine lr_from B hi Fl fun F' y3 y4 y5 y6 y7 y8 y9 hp => ?_
    refine hk _ _ ⟨rfl, F', _, _, _, _, _, _, _, _, rfl, ?_⟩
    rw [List.range_succ, List.flatMap_append, List.flatMap_singleton]
    exact hp.trans (hF.append_right _)
  · rintro ρ s' ⟨rfl, F, y2, y3, y4, y5, y6, y7, y8, y9, rfl, hF⟩
    have hp : F.Perm (ringsAll (evs N.rows)) := by
      unfold ringsAll
      rw [evs_len]
      exact hF
    have hs := sort_ways (ws := F) (fun w hw => (rings_chain (hp.mem_iff.mp hw)).choose_spec.2.1) (by
      rw [hp.length_eq, ← (piles_perm B).length_eq]
      have := piles_len B N.rows.length (Nat.le_refl _)
      omega)
    rw [sortW_D, sortW_perm hp] at hs
    have hs : bltD .sorted [.list (F.map wayT)] = some (.list ((sortW (ringsAll (evs N.rows))).map wayT)) := hs
    refine sc ?_
    simp [hs]
    exact k
end
end Pg

/-! Greatest fractions. -/
namespace Nt
/-- the greatest of fractions, the first of those that are so -/
def grG : Option (Int × Int) → List (Int × Int) → Option (Int × Int)
  | f, [] => f
  | none, x :: r => grG (some x) r
  | some f, x :: r => grG (some (if f.1 * x.2 < x.1 * f.2 then x else f)) r
theorem le_chain {a b c d e f : Int} (hb : 0 < b) (hd : 0 < d) (hf : 0 < f) (h1 : a * d ≤ c * b) (h2 : c * f ≤ e * d) : a * f ≤ e * b := by
  have h3 : a * d * f ≤ c * b * f := Int.mul_le_mul_of_nonneg_right h1 (Int.le_of_lt hf)
  have h4 : c * f * b ≤ e * d * b := Int.mul_le_mul_of_nonneg_right h2 (Int.le_of_lt hb)
  have e1 : a * d * f = a * f * d := by rw [Int.mul_assoc, Int.mul_comm d, ← Int.mul_assoc]
  have e2 : c * b * f = c * f * b := by rw [Int.mul_assoc, Int.mul_comm b, ← Int.mul_assoc]
  have e3 : e * d * b = e * b * d := by rw [Int.mul_assoc, Int.mul_comm d, ← Int.mul_assoc]
  exact Int.le_of_mul_le_mul_right (show a * f * d ≤ e * b * d by omega) hd
/-- m is in the list, or was there ahead of it; none is greater -/
theorem grG_some : ∀ {xs : List (Int × Int)} {f : Int × Int}, (∀ x ∈ xs, 0 < x.2) → 0 < f.2 → ∃ m, grG (some f) xs = some m ∧ 0 < m.2 ∧ (m = f ∨ m ∈ xs) ∧ f.1 * m.2 ≤ m.1 * f.2 ∧ ∀ x ∈ xs, x.1 * m.2 ≤ m.1 * x.2
  | [], f, _, hf => ⟨f, rfl, hf, .inl rfl, Int.le_refl _, fun x hx => by cases hx⟩
  | x :: xs, f, h, hf => by
    have hx := h x (List.mem_cons_self ..)
    have hr : ∀ y ∈ xs, 0 < y.2 := fun y hy => h y (List.mem_cons_of_mem _ hy)
    by_cases hc : f.1 * x.2 < x.1 * f.2
    · obtain ⟨m, h1, h2, h3, h4, h5⟩ := grG_some (xs := xs) (f := x) hr hx
      refine ⟨m, ?_, h2, ?_, ?_, fun y hy => ?_⟩
      · show grG (some (if f.1 * x.2 < x.1 * f.2 then x else f)) xs = _
        rw [if_pos hc]
        exact h1
      · rcases h3 with h3 | h3
        · exact .inr (h3 ▸ List.mem_cons_self ..)
        · exact .inr (List.mem_cons_of_mem _ h3)
      · exact le_chain hf hx h2 (Int.le_of_lt hc) h4
      · rcases List.mem_cons.mp hy with rfl | hy
        · exact h4
        · exact h5 y hy
    · obtain ⟨m, h1, h2, h3, h4, h5⟩ := grG_some (xs := xs) (f := f) hr hf
      refine ⟨m, ?_, h2, ?_, h4, fun y hy => ?_⟩
      · show grG (some (if f.1 * x.2 < x.1 * f.2 then x else f)) xs = _
        rw [if_neg hc]
        exact h1
      · rcases h3 with h3 | h3
        · exact .inl h3
        · exact .inr (List.mem_cons_of_mem _ h3)
      · rcases List.mem_cons.mp hy with rfl | hy
        · exact le_chain hx hf h2 (by omega) h4
        · exact h5 y hy
theorem grG_none {xs : List (Int × Int)} (h : ∀ x ∈ xs, 0 < x.2) : (xs = [] ∧ grG none xs = none) ∨ ∃ m, grG none xs = some m ∧ 0 < m.2 ∧ m ∈ xs ∧ ∀ x ∈ xs, x.1 * m.2 ≤ m.1 * x.2 := by
  cases xs with
  | nil => exact .inl ⟨rfl, rfl⟩
  | cons x xs =>
    obtain ⟨m, h1, h2, h3, h4, h5⟩ := grG_some (xs := xs) (f := x) (fun y hy => h y (List.mem_cons_of_mem _ hy)) (h x (List.mem_cons_self ..))
    refine .inr ⟨m, h1, h2, ?_, fun y hy => ?_⟩
    · rcases h3 with h3 | h3
      · exact h3 ▸ List.mem_cons_self ..
      · exact List.mem_cons_of_mem _ h3
    · rcases List.mem_cons.mp hy with rfl | hy
      · exact h4
      · exact h5 y hy
theorem grG_snoc : ∀ {xs : List (Int × Int)} {f : Option (Int × Int)} {x : Int × Int}, grG f (xs ++ [x]) = match grG f xs with
    | none => some x
    | some m => some (if m.1 * x.2 < x.1 * m.2 then x else m)
  | [], none, x => rfl
  | [], some f, x => rfl
  | y :: xs, none, x => grG_snoc (xs := xs) (f := some y)
  | y :: xs, some f, x => grG_snoc (xs := xs) (f := some (if f.1 * y.2 < y.1 * f.2 then y else f))
/-- in lowest terms -/
def Low (x : Int × Int) : Prop := 0 ≤ x.1 ∧ 0 < x.2 ∧ Int.gcd x.1 x.2 = 1
theorem low_eq {x y : Int × Int} (hx : Low x) (hy : Low y) (h : x.1 * y.2 = y.1 * x.2) : x = y := by
  obtain ⟨a, b⟩ := x
  obtain ⟨c, d⟩ := y
  obtain ⟨h1, h2, h3⟩ := hx
  obtain ⟨g1, g2, g3⟩ := hy
  dsimp only at *
  obtain ⟨a, rfl⟩ := Int.eq_ofNat_of_zero_le h1
  obtain ⟨b, rfl⟩ := Int.eq_ofNat_of_zero_le (Int.le_of_lt h2)
  obtain ⟨c, rfl⟩ := Int.eq_ofNat_of_zero_le g1
  obtain ⟨d, rfl⟩ := Int.eq_ofNat_of_zero_le (Int.le_of_lt g2)
  have h3 : Nat.gcd a b = 1 := h3
  have g3 : Nat.gcd c d = 1 := g3
  have e : a * d = c * b := by exact_mod_cast h
  have b0 : 0 < b := by omega
  have d0 : 0 < d := by omega
  have bd : b ∣ d := by
    have : b ∣ a * d := ⟨c, by rw [e, Nat.mul_comm]⟩
    exact (Nat.Coprime.symm h3).dvd_of_dvd_mul_left this
  have db : d ∣ b := by
    have : d ∣ c * b := ⟨a, by rw [← e, Nat.mul_comm]⟩
    exact (Nat.Coprime.symm g3).dvd_of_dvd_mul_left this
  have ebd : b = d := Nat.dvd_antisymm bd db
  subst ebd
  have : a = c := Nat.eq_of_mul_eq_mul_right b0 e
  subst this
  rfl
def lowF (d b : Int) : Int × Int := (d / Int.gcd d b, b / Int.gcd d b)
theorem lowF_ok {d b : Int} (h0 : 0 ≤ d) (h1 : 0 < b) : Low (lowF d b) ∧ ∃ g : Int, 0 < g ∧ d = g * (lowF d b).1 ∧ b = g * (lowF d b).2 := by
  obtain ⟨d, rfl⟩ := Int.eq_ofNat_of_zero_le h0
  obtain ⟨b, rfl⟩ := Int.eq_ofNat_of_zero_le (Int.le_of_lt h1)
  have b0 : 0 < b := by omega
  have g0 : 0 < Nat.gcd d b := Nat.gcd_pos_of_pos_right _ b0
  have hd := Nat.gcd_dvd_left d b
  have hb := Nat.gcd_dvd_right d b
  have e1 : (lowF (d : Int) b) = (((d / Nat.gcd d b : Nat) : Int), ((b / Nat.gcd d b : Nat) : Int)) := rfl
  rw [e1]
  refine ⟨⟨Int.natCast_nonneg _, ?_, ?_⟩, ((Nat.gcd d b : Nat) : Int), by omega, ?_, ?_⟩
  · have := Nat.div_pos (Nat.le_of_dvd b0 hb) g0
    show (0 : Int) < ((b / Nat.gcd d b : Nat) : Int)
    exact Int.natCast_pos.mpr this
  · show Nat.gcd (d / Nat.gcd d b) (b / Nat.gcd d b) = 1
    exact Nat.gcd_div_gcd_div_gcd_of_pos_right b0
  · have := Nat.mul_div_cancel' hd
    show (d : Int) = ((Nat.gcd d b : Nat) : Int) * ((d / Nat.gcd d b : Nat) : Int)
    exact_mod_cast this.symm
  · have := Nat.mul_div_cancel' hb
    show (b : Int) = ((Nat.gcd d b : Nat) : Int) * ((b / Nat.gcd d b : Nat) : Int)
    exact_mod_cast this.symm
/-- a greatest one of sums, and of the same in lowest terms -/
theorem gr_low {xs : List (Int × Int)} (h : ∀ x ∈ xs, 0 ≤ x.1 ∧ 0 < x.2) {m f : Int × Int} (hm : grG none xs = some m) (hf : grG none (xs.map fun x => lowF x.1 x.2) = some f) : Low f ∧ 0 ≤ m.1 ∧ 0 < m.2 ∧ f.1 * m.2 = m.1 * f.2 := by
  have hx : ∀ x ∈ xs, 0 < x.2 := fun x hx => (h x hx).2
  rcases grG_none hx with ⟨_, z⟩ | ⟨m', q1, q2, q3, q4⟩
  · rw [z] at hm; cases hm
  rw [hm] at q1
  cases Option.some.inj q1
  have hl : ∀ y ∈ xs.map (fun x => lowF x.1 x.2), 0 < y.2 := fun y hy => by
    obtain ⟨x, hx, rfl⟩ := List.mem_map.mp hy
    exact (lowF_ok (h x hx).1 (h x hx).2).1.2.1
  rcases grG_none hl with ⟨_, z⟩ | ⟨f', p1, p2, p3, p4⟩
  · rw [z] at hf; cases hf
  rw [hf] at p1
  cases Option.some.inj p1
  obtain ⟨w, hw, rfl⟩ := List.mem_map.mp p3
  obtain ⟨lw, g, g0, e1, e2⟩ := lowF_ok (h w hw).1 (h w hw).2
  refine ⟨lw, (h m q3).1, q2, ?_⟩
  obtain ⟨lm, k, k0, f1, f2⟩ := lowF_ok (h m q3).1 (h m q3).2
  have a1 := q4 w hw
  have a2 := p4 (lowF m.1 m.2) (List.mem_map.mpr ⟨m, q3, rfl⟩)
  generalize lowF w.1 w.2 = u at *
  generalize lowF m.1 m.2 = v at *
  rw [e1, e2] at a1
  have b1 : u.1 * m.2 ≤ m.1 * u.2 := by
    have : g * (u.1 * m.2) ≤ g * (m.1 * u.2) := by
      have z1 : g * u.1 * m.2 = g * (u.1 * m.2) := Int.mul_assoc ..
      have z2 : m.1 * (g * u.2) = g * (m.1 * u.2) := by rw [← Int.mul_assoc, Int.mul_comm m.1, Int.mul_assoc]
      omega
    exact Int.le_of_mul_le_mul_left this g0
  have b2 : m.1 * u.2 ≤ u.1 * m.2 := by
    have z1 : m.1 * u.2 = k * (v.1 * u.2) := by rw [f1, Int.mul_assoc]
    have z2 : u.1 * m.2 = k * (u.1 * v.2) := by rw [f2, ← Int.mul_assoc, Int.mul_comm u.1, Int.mul_assoc]
    rw [z1, z2]
    exact Int.mul_le_mul_of_nonneg_left a2 (Int.le_of_lt k0)
  omega
/-- as great as the greatest -/
theorem low_iff {d b : Int} (h0 : 0 ≤ d) (h1 : 0 < b) {f m : Int × Int} (hf : Low f) (hm : 0 < m.2) (e : f.1 * m.2 = m.1 * f.2) : lowF d b = f ↔ d * m.2 = m.1 * b := by
  obtain ⟨lw, g, g0, e1, e2⟩ := lowF_ok h0 h1
  generalize lowF d b = u at *
  constructor
  · rintro rfl
    rw [e1, e2]
    have : g * u.1 * m.2 = m.1 * (g * u.2) := by
      rw [Int.mul_assoc, e, ← Int.mul_assoc, Int.mul_comm g, Int.mul_assoc]
    exact this
  · intro h
    refine low_eq lw hf ?_
    rw [e1, e2] at h
    have h' : u.1 * m.2 = m.1 * u.2 := by
      have : g * (u.1 * m.2) = g * (m.1 * u.2) := by
        rw [← Int.mul_assoc, h, ← Int.mul_assoc, Int.mul_comm m.1, Int.mul_assoc]
      exact Int.eq_of_mul_eq_mul_left (Int.ne_of_gt g0) this
    have : m.2 * (u.1 * f.2) = m.2 * (f.1 * u.2) := by
      have z1 : m.2 * (u.1 * f.2) = u.1 * m.2 * f.2 := by rw [← Int.mul_assoc, Int.mul_comm m.2]
      have z2 : m.2 * (f.1 * u.2) = f.1 * m.2 * u.2 := by rw [← Int.mul_assoc, Int.mul_comm m.2]
      rw [z1, z2, h', e, Int.mul_assoc, Int.mul_assoc, Int.mul_comm u.2]
    exact Int.eq_of_mul_eq_mul_left (Int.ne_of_gt hm) this
end Nt

/-! rings, slowest, slowest_rings; what a net is not. -/
namespace Co
open PySem PySem.Spec PyProof.Rows L2
@[simp] theorem ev_told {G : Gam} {e : CE} {ρ : Env} {s : Dice} : ev G (.told e) ρ s = toldR (ev G e ρ s) := Eq.trans rfl rfl
@[simp] theorem told_ok {d : D} {s : Dice} : toldR (.ok d s) = .ok d s := Eq.trans rfl rfl
theorem told_exc {c : Str} {s : Dice} (h : kinds.contains c = true) : toldR (.exc c s) = .ok (.tuple [.str "error", .str c]) s := by
  show (if kinds.contains c = true then _ else _) = _
  rw [if_pos h]
@[simp] theorem told_Net {s : Dice} : toldR (.exc "InvalidNet" s) = .ok (.tuple [.str "error", .str "InvalidNet"]) s := told_exc (by decide +kernel)
@[simp] theorem told_Streams {s : Dice} : toldR (.exc "InvalidStreams" s) = .ok (.tuple [.str "error", .str "InvalidStreams"]) s := told_exc (by decide +kernel)
@[simp] theorem told_Round {s : Dice} : toldR (.exc "InvalidRound" s) = .ok (.tuple [.str "error", .str "InvalidRound"]) s := told_exc (by decide +kernel)
@[simp] theorem told_Event {s : Dice} : toldR (.exc "InvalidEvent" s) = .ok (.tuple [.str "error", .str "InvalidEvent"]) s := told_exc (by decide +kernel)
@[simp] theorem told_Input {s : Dice} : toldR (.exc "InvalidInput" s) = .ok (.tuple [.str "error", .str "InvalidInput"]) s := told_exc (by decide +kernel)
@[simp] theorem told_Arc {s : Dice} : toldR (.exc "InvalidArc" s) = .ok (.tuple [.str "error", .str "InvalidArc"]) s := told_exc (by decide +kernel)
@[simp] theorem told_Number {s : Dice} : toldR (.exc "InvalidNumber" s) = .ok (.tuple [.str "error", .str "InvalidNumber"]) s := told_exc (by decide +kernel)
@[simp] theorem told_Form {s : Dice} : toldR (.exc "InvalidForm" s) = .ok (.tuple [.str "error", .str "InvalidForm"]) s := told_exc (by decide +kernel)
@[simp] theorem told_Stores {s : Dice} : toldR (.exc "InvalidStores" s) = .ok (.tuple [.str "error", .str "InvalidStores"]) s := told_exc (by decide +kernel)
@[simp] theorem told_Dues {s : Dice} : toldR (.exc "InvalidDues" s) = .ok (.tuple [.str "error", .str "InvalidDues"]) s := told_exc (by decide +kernel)
@[simp] theorem told_Text {s : Dice} : toldR (.exc "InvalidText" s) = .ok (.tuple [.str "error", .str "InvalidText"]) s := told_exc (by decide +kernel)
@[simp] theorem told_Stand {s : Dice} : toldR (.exc "Standstill" s) = .ok (.tuple [.str "error", .str "Standstill"]) s := told_exc (by decide +kernel)
@[simp] theorem told_NoTime {s : Dice} : toldR (.exc "NoTime" s) = .ok (.tuple [.str "error", .str "NoTime"]) s := told_exc (by decide +kernel)
@[simp] theorem told_Broken {s : Dice} : toldR (.exc "Broken" s) = .ok (.tuple [.str "error", .str "Broken"]) s := told_exc (by decide +kernel)
@[simp] theorem told_NoFit {s : Dice} : toldR (.exc "NoFit" s) = .ok (.tuple [.str "error", .str "NoFit"]) s := told_exc (by decide +kernel)
@[simp] theorem told_Many {s : Dice} : toldR (.exc "TooMany" s) = .ok (.tuple [.str "error", .str "TooMany"]) s := told_exc (by decide +kernel)
@[simp] theorem told_Undo {s : Dice} : toldR (.exc "NothingToUndo" s) = .ok (.tuple [.str "error", .str "NothingToUndo"]) s := told_exc (by decide +kernel)
/-- two errors told -/
theorem eq_errT {c : Str} (h : PyData.canLay0 (.str c) = true) : eqD (.tuple [.str "error", .str c]) (.tuple [.str "error", .str c]) = some true := by
  refine eqD_t ((pl_tup (n := 0) fun x hx => ?_).mono (by decide))
  simp only [List.mem_cons, List.not_mem_nil, or_false] at hx
  rcases hx with rfl | rfl
  · exact ⟨by decide +kernel, Nat.le_refl _⟩
  · exact ⟨h, Nat.le_refl _⟩
/-- a law's body falls through -/
theorem WX_nx {G : Gam} {b : CB} {ρ : Env} {s : Dice} (h : WX G b ρ s (fun _ _ => True) (fun _ _ => False)) : ∃ ρ' s', xb G b ρ s = .nx ρ' s' := by
  unfold WX at h
  rcases WO_iff.mp h with ⟨ρ', s', e, _⟩ | ⟨_, _, _, z⟩
  · exact ⟨ρ', s', e⟩
  · exact False.elim z
/-- an exception out of the first statement -/
theorem xb_exc1 {G : Gam} {st : CS} {a : CB} {ρ : Env} {s s1 : Dice} {c : Str} (h : xs G st ρ s = .exc c s1) : xb G (.cons st a) ρ s = .exc c s1 := by
  rw [xb_cons, h]
  rfl
theorem fn_exc1 {G : Gam} {n : Nat} {b : CB} {vs : List SV} {ρ : Env} {s s1 : Dice} {c : Str} (e : vs ++ List.replicate (n - vs.length) .no = ρ) (h : xb G b ρ s = .exc c s1) : fnD G n b vs s = .exc c s1 := by
  subst e
  unfold fnD
  rw [h]
end Co
namespace Pg
open PySem PySem.Spec PyProof.Rows L2 Co Nt
/-- what the program takes for no net -/
def NoNet (V : D) : Prop := ∀ s, m_is_net [.val V] s = .ok (.bool false) s
theorem noNet_need {V : D} (h : NoNet V) (s : Dice) : m_need_net [.val V] s = .exc "InvalidNet" s := by
  have := h s
  refine fn_exc1 (ρ := [.val V]) rfl ?_
  unfold c_need_net
  simp [ms_need_net, this]
  rfl
theorem noNet_none : NoNet .none := fun s => by
  have : m_is_shaped [.val .none] s = .ok (.bool false) s := by
    refine WE_eq (fn_wp (ρ := [.val .none, .no, .no, .no, .no, .no]) rfl ?_)
    unfold c_is_shaped
    refine si ?_
    have e : bltD .isTuple [.none] = some (.bool false) := rfl
    simp [e]
    refine sc ?_
    simp
  refine WE_eq (fn_wp (ρ := [.val .none]) rfl ?_)
  unfold c_is_net
  refine sc ?_
  simp [ms_is_net, this]
theorem rings_bad {V : D} (h : NoNet V) (s : Dice) : m_rings [.val V] s = .exc "InvalidNet" s := by
  have := noNet_need h s
  refine fn_exc1 (ρ := [.val V]) rfl ?_
  unfold c_rings
  exact xb_exc1 (by simp [ms_rings, this])
section
variable {N : Net}
theorem rings_ok (h : NetOk N) (s : Dice) : m_rings [.val (netD N)] s = .ok (.tuple ((ringsP N.rows).map wayT)) s := by
  have n1 := need_net_ok h s
  have n2 := rings_of_P h.sh.rb s
  refine WE_eq (fn_wp (ρ := [.val (netD N)]) rfl ?_)
  unfold c_rings
  refine sc ?_
  simp [ms_rings, n1]
  refine sc ?_
  simp [n2]
theorem slowest_ok (h : NetOk N) (s : Dice) : m_slowest [.val (netD N)] s = .ok (frO (slowP N.rows)) s := by
  have n1 := need_net_ok h s
  have n2 := slowest_of_ok h.nb s
  refine WE_eq (fn_wp (ρ := [.val (netD N)]) rfl ?_)
  unfold c_slowest
  refine sc ?_
  simp [ms_slowest, n1]
  refine sc ?_
  simp [n2]
theorem pl_fr (x : Int × Int) : Pl 1 (frD x) := pl_tup fun y hy => by
  simp only [List.mem_cons, List.not_mem_nil, or_false] at hy
  rcases hy with rfl | rfl <;> exact pl_int _
theorem frD_inj {x y : Int × Int} (h : frD x = frD y) : x = y := by
  injection h with h
  injection h with h1 h
  injection h with h2 h
  injection h1 with h1
  injection h2 with h2
  exact Prod.ext h1 h2
theorem eq_frO (x : Int × Int) (y : Option (Int × Int)) : eqD (frD x) (frO y) = some (decide (some x = y)) := by
  cases y with
  | none =>
    refine eqD_dec ((pl_fr x).mono (by decide)) (pl_none.mono (by decide)) ⟨fun z => (by cases z), fun z => (by cases z)⟩
  | some y => exact eqD_dec ((pl_fr x).mono (by decide)) ((pl_fr y).mono (by decide)) ⟨fun z => (by rw [frD_inj z]), fun z => (by injection z with z; rw [z]; rfl)⟩
theorem ringsP_mem (h : NetOk N) {w : Way} (hw : w ∈ ringsP N.rows) : w ∈ ringsAll (evs N.rows) := (ringsP_perm h.sh.rb).mem_iff.mp hw
theorem ringsP_len (h : NetOk N) : (ringsP N.rows).length ≤ 100000 := by
  unfold ringsP
  rw [List.length_mergeSort]
  have := piles_len h.sh.rb N.rows.length (Nat.le_refl _)
  have := h.sh.rb.len
  omega
theorem slowest_rings_ok (h : NetOk N) (s : Dice) : m_slowest_rings [.val (netD N)] s = .ok (.tuple (((ringsP N.rows).filter fun w => decide (some (ratF N.rows w) = slowP N.rows)).map wayT)) s := by
  have n1 := need_net_ok h s
  have n2 := slowest_of_ok h.nb s
  have n3 := rings_of_P h.sh.rb s
  refine WE_eq (fn_wp (ρ := [.val (netD N), .no, .no]) rfl ?_)
  unfold c_slowest_rings
  refine sc ?_
  simp [ms_slowest_rings, n1]
  refine sc ?_
  simp [n2]
  refine sc ?_
  simp [n3]
  refine comp_mapW (P := fun w => decide (some (ratF N.rows w) = slowP N.rows)) (x := wayT) (ringsP_len h) (fun w hw K hk => ?_) ?_
  · obtain ⟨t1, t2, t3, t4, t5, t6⟩ := ring_bd h.nb (ringsP_mem h hw)
    have ra := ratio_ok t1 (by omega) t3 (by omega) (by omega) s
    have E := eq_frO (ratF N.rows w) (slowP N.rows)
    rw [WE_item]
    simp [t_slowest_rings_0, ra, E]
    simpa using hk
  · simp
theorem law_sums_w {w : Way} (h : There N.rows w) (hw : w.length ≤ 1000) {s : Dice} {K : D → Dice → Prop} (k : K (.tuple [.int (dlS N.rows w), .int (bkS N.rows w)]) s) : WE (m_law_sums [.val (netD N), .val (wayT w)] s) K := by
  refine fn_wp (ρ := [.val (netD N), .val (wayT w), .no, .no, .no, .no]) rfl ?_
  unfold c_law_sums
  refine sc ?_
  simp [-evI_seq, -evI_enm]
  refine comp_allW (x := fun x => arcD (arcAt N.rows x)) (by omega) (fun x hx K hk => ?_) ?_
  · obtain ⟨h1, h2⟩ := h x hx
    rw [WE_item]
    simp [e_law_sums_0, sub_rows h1, sub_row h2]
    exact hk
  · refine sc ?_
    simp [-evI_seq, -evI_enm]
    refine comp_allW (x := fun x => .int (arcAt N.rows x).dl) (by omega) (fun x hx K hk => ?_) ?_
    · rw [WE_item]
      simp [e_law_sums_1]
      exact hk
    · simp [-evI_seq, -evI_enm, intsD_map]
      refine comp_allW (x := fun x => .int (arcAt N.rows x).bk) (by omega) (fun x hx K hk => ?_) ?_
      · rw [WE_item]
        simp [e_law_sums_2]
        exact hk
      · simp [intsD_map]
        exact k
end
theorem grF_eq : ∀ (xs : List (Int × Int)) (f : Option (Int × Int)), grF f xs = grG f xs
  | [], none => rfl
  | [], some _ => rfl
  | x :: xs, none => grF_eq xs (some x)
  | x :: xs, some f => grF_eq xs (some (if f.1 * x.2 < x.1 * f.2 then x else f))
def sumF (rows : List Nt.Row) (w : Way) : Int × Int := (dlS rows w, bkS rows w)
end Pg

namespace Lw
open PySem PySem.Spec PyProof.Rows L2 Co Pg Nt
abbrev GG : Gam := fun j => ms_law[j]?
section
variable {G : Gam} {N : Net}
theorem best_w (g5 : G 5 = some m_law_sums) (h : NetOk N) {y6 y7 y8 y9 y10 : SV} {s : Dice} {K : Co.Env → Dice → Prop} {R : D → Dice → Prop}
    (k : ∀ y5 y8 y9, K [.no, .dice, .val (netD N), .val (.list ((ringsP N.rows).map wayT)), .val (frO (grG none ((ringsP N.rows).map (sumF N.rows)))), y5, y6, y7, y8, y9, y10] s) :
    WO (forL (stepF G (.one 5) b_law_0) ((ringsP N.rows).map wayT) [.no, .dice, .val (netD N), .val (.list ((ringsP N.rows).map wayT)), .val .none, .no, y6, y7, y8, y9, y10] s) K R := by
  refine for_map (g := wayT) (I := fun d ρ s' => s' = s ∧ ∃ y5 y8 y9, ρ = [.no, .dice, .val (netD N), .val (.list ((ringsP N.rows).map wayT)), .val (frO (grG none (d.map (sumF N.rows)))), y5, y6, y7, y8, y9, y10]) ?_ ⟨rfl, _, _, _, rfl⟩ ?_
  · rintro d w rest e ρ s' K' ⟨rfl, y5, y8, y9, rfl⟩ hk
    obtain ⟨t1, t2, t3, t4, t5, t6⟩ := ring_bd h.nb (ringsP_mem h (show w ∈ ringsP N.rows by rw [e]; simp))
    rw [List.map_append, List.map_singleton, grG_snoc] at hk
    have hd : ∀ x ∈ d, 0 ≤ dlS N.rows x ∧ dlS N.rows x ≤ 500 ∧ 1 ≤ bkS N.rows x ∧ bkS N.rows x ≤ 500 := fun x hx => by
      obtain ⟨_, _, q⟩ := ring_bd h.nb (ringsP_mem h (show x ∈ ringsP N.rows by rw [e]; exact List.mem_append_left _ hx))
      exact q
    have gb : ∀ m, grG none (d.map (sumF N.rows)) = some m → 0 ≤ m.1 ∧ m.1 ≤ 500 ∧ 1 ≤ m.2 ∧ m.2 ≤ 500 := fun m hm => by
      rcases grG_none (xs := d.map (sumF N.rows)) (fun x hx => by
        obtain ⟨y, hy, rfl⟩ := List.mem_map.mp hx
        have := hd y hy
        show 0 < bkS N.rows y
        omega) with ⟨_, z⟩ | ⟨m', q1, _, q3, _⟩
      · rw [z] at hm; cases hm
      · rw [hm] at q1
        cases Option.some.inj q1
        obtain ⟨y, hy, rfl⟩ := List.mem_map.mp q3
        exact hd y hy
    rw [WO_step]
    simp
    unfold b_law_0
    refine sc ?_
    simp [g5]
    refine law_sums_w t1 (by omega) ?_
    simp
    refine si ?_
    have b1 : ¬ bkS N.rows w < 1 := by omega
    simp [b1]
    refine sn (si ?_)
    cases hg : grG none (d.map (sumF N.rows)) with
    | none =>
      rw [hg] at hk
      simp [frO]
      refine sc ?_
      simp
      exact sn (sn (hk _ _ ⟨rfl, _, _, _, rfl⟩))
    | some m =>
      obtain ⟨m1, m2, m3, m4⟩ := gb m hg
      rw [hg] at hk
      have q1 := bin_mul (mulOk_l (i := dlS N.rows w) (j := m.2) t3 (by rw [two64]; omega))
      have q2 := bin_mul (mulOk_l (i := m.1) (j := bkS N.rows w) m1 (by rw [two64]; omega))
      simp [frO, frD, q1, q2]
      by_cases hc : m.1 * bkS N.rows w < dlS N.rows w * m.2
      · refine itT hc (sc ?_)
        simp
        refine sn (sn (hk _ _ ⟨rfl, .val (wayT w), .val (.int (dlS N.rows w)), .val (.int (bkS N.rows w)), ?_⟩))
        have : m.1 * (sumF N.rows w).2 < (sumF N.rows w).1 * m.2 := hc
        simp only [if_pos this]
        rfl
      · refine itF hc (sn (sn (hk _ _ ⟨rfl, .val (wayT w), .val (.int (dlS N.rows w)), .val (.int (bkS N.rows w)), ?_⟩)))
        have : ¬ m.1 * (sumF N.rows w).2 < (sumF N.rows w).1 * m.2 := hc
        simp only [if_neg this]
        rfl
  · rintro ρ s' ⟨rfl, y5, y8, y9, rfl⟩
    exact k _ _ _
end
theorem main_w {N : Net} (h : NetOk N) (s : Dice) : WX GG (dropB 1 c_law) [.no, .dice, .val (netD N), .no, .no, .no, .no, .no, .no, .no, .no] s (fun _ _ => True) (fun _ _ => False) := by
  have g3 : GG 3 = some m_law_rings := rfl
  have g4 : GG 4 = some m_rings := rfl
  have g5 : GG 5 = some m_law_sums := rfl
  have g6 : GG 6 = some m_slowest := rfl
  have g7 : GG 7 = some m_slowest_rings := rfl
  generalize GG = G at *
  have rs := ringsP_sort h.sh.rb
  unfold c_law
  simp only [dropB]
  refine sc ?_
  simp [g3]
  refine law_rings_w h ?_
  rw [← rs]
  refine si ?_
  have ro := rings_ok h s
  have E : eqD (.tuple ((ringsP N.rows).map wayT)) (.tuple ((ringsP N.rows).map wayT)) = some true := eqD_t ((pl_tup (n := 2) fun x hx => by
    obtain ⟨w, _, rfl⟩ := List.mem_map.mp hx
    exact pl_wayT w).mono (by decide))
  simp [g4, ro, E]
  refine sn (sc ?_)
  simp
  refine sc ?_
  simp [-evI_seq, -evI_enm]
  refine best_w g5 h fun y5 y8 y9 => ?_
  refine sc ?_
  have so := slowest_ok h s
  simp [g6, so]
  have mem : ∀ w ∈ ringsP N.rows, There N.rows w ∧ w.length ≤ 5 ∧ 0 ≤ dlS N.rows w ∧ dlS N.rows w ≤ 500 ∧ 1 ≤ bkS N.rows w ∧ bkS N.rows w ≤ 500 := fun w hw => ring_bd h.nb (ringsP_mem h hw)
  have pos : ∀ x ∈ (ringsP N.rows).map (sumF N.rows), 0 ≤ x.1 ∧ 0 < x.2 := fun x hx => by
    obtain ⟨w, hw, rfl⟩ := List.mem_map.mp hx
    obtain ⟨_, _, q1, q2, q3, q4⟩ := mem w hw
    exact ⟨q1, by show 0 < bkS N.rows w; omega⟩
  have es : slowP N.rows = grG none (((ringsP N.rows).map (sumF N.rows)).map fun x => lowF x.1 x.2) := by
    unfold slowP
    rw [grF_eq, List.map_map]
    rfl
  have sr := slowest_rings_ok h s
  have Ebt : eqD (.bool true) (.bool true) = some true := by kernel_rfl
  have Ebf : eqD (.bool false) (.bool false) = some true := by kernel_rfl
  have Er := eq_errT (c := "InvalidNet") (by decide +kernel)
  have rb := rings_bad noNet_none s
  have last : ∀ y3 y4 y5 y6 y7 y8 y9 y10, WX G (dropB 8 c_law) [.no, .dice, .val (netD N), y3, y4, y5, y6, y7, y8, y9, y10] s (fun _ _ => True) (fun _ _ => False) := by
    intro y3 y4 y5 y6 y7 y8 y9 y10
    unfold c_law
    simp only [dropB]
    refine si ?_
    simp [g4, rb, Er]
    exact sn (sn trivial)
  rcases grG_none (fun x hx => (pos x hx).2) with ⟨z1, z2⟩ | ⟨m, m1, m2, m3, m4⟩
  · have z0 : ringsP N.rows = [] := by simpa using z1
    have e1 : slowP N.rows = none := by rw [es, z1]; rfl
    rw [z0] at sr
    rw [z2, e1]
    have Ee : eqD (.tuple []) (.tuple []) = some true := by kernel_rfl
    refine si ?_
    simp [frO, Ebt]
    refine sn (si ?_)
    simp
    refine si ?_
    simp [g7, sr, Ee]
    refine sn (sn ?_)
    exact last _ _ _ _ _ _ _ _
  · have e1 : ∃ f, slowP N.rows = some f := by
      rw [es]
      rcases grG_none (xs := ((ringsP N.rows).map (sumF N.rows)).map fun x => lowF x.1 x.2) (fun x hx => by
        obtain ⟨y, hy, rfl⟩ := List.mem_map.mp hx
        exact (lowF_ok (pos y hy).1 (pos y hy).2).1.2.1) with ⟨z, _⟩ | ⟨f, hf, _⟩
      · simp at z
        rw [z] at m3
        cases m3
      · exact ⟨f, hf⟩
    obtain ⟨f, hf⟩ := e1
    have hf2 := hf
    rw [es] at hf2
    obtain ⟨lf, q1, q2, q3⟩ := gr_low pos m1 hf2
    obtain ⟨w0, hw0, em⟩ := List.mem_map.mp m3
    obtain ⟨_, _, c1, c2, c3, c4⟩ := mem w0 hw0
    have fs : smF f := by
      rcases grG_none (xs := ((ringsP N.rows).map (sumF N.rows)).map fun x => lowF x.1 x.2) (fun x hx => by
        obtain ⟨y, hy, rfl⟩ := List.mem_map.mp hx
        exact (lowF_ok (pos y hy).1 (pos y hy).2).1.2.1) with ⟨_, z⟩ | ⟨f', hf', _, q, _⟩
      · rw [z] at hf2; cases hf2
      · rw [hf2] at hf'
        cases Option.some.inj hf'
        rw [List.map_map] at q
        obtain ⟨y, hy, rfl⟩ := List.mem_map.mp q
        exact rat_small h.nb (ringsP_mem h hy)
    have hm1 : m.1 ≤ 500 := by rw [← em]; exact c2
    have hm2 : m.2 ≤ 500 := by rw [← em]; exact c4
    have p1 := bin_mul (mulOk_l (i := f.1) (j := m.2) fs.1 fs.2.1)
    have p2 := bin_mul (mulOk_l (i := m.1) (j := f.2) q1 (by rw [two64]; omega))
    rw [m1, hf]
    refine si ?_
    simp [frO, frD, Ebf]
    refine sn (si ?_)
    simp
    refine si ?_
    simp [p1, p2, q3]
    refine sn (si ?_)
    have ro := rngOk_s (a := 2) (b := 9) (by omega) (by omega) (by omega) (by omega)
    simp [ro]
    have l0 := lf.1
    have l1 := lf.2.1
    refine comp_raW (n := 7) (x := fun i => .bool (decide (f.1 % (2 + (i : Nat)) = 0) && decide (f.2 % (2 + (i : Nat)) = 0))) (by omega) (fun i hi K hk => ?_) ?_
    · rw [WE_item]
      have md1 : binD .mod (.int f.1) (.int (2 + (i : Nat))) = some (.int (f.1 % (2 + (i : Nat)))) := bin_mod (by omega)
      have md2 : binD .mod (.int f.2) (.int (2 + (i : Nat))) = some (.int (f.2 % (2 + (i : Nat)))) := bin_mod (by omega)
      simp [e_law_1, md1, md2]
      by_cases r1 : f.1 % (2 + (i : Nat)) = 0
      · simp only [if_pos r1]
        rw [decide_eq_true r1, Bool.true_and] at hk
        exact hk
      · simp only [if_neg r1]
        rw [decide_eq_false r1, Bool.false_and] at hk
        exact hk
    · have no : ∀ i, i < 7 → (decide (f.1 % (2 + (i : Nat)) = 0) && decide (f.2 % (2 + (i : Nat)) = 0)) = false := fun i hi => by
        rw [Bool.and_eq_false_iff]
        refine Classical.byContradiction fun z => ?_
        have z1 : f.1 % (2 + (i : Nat)) = 0 := Classical.byContradiction fun q => z (.inl (decide_eq_false q))
        have z2 : f.2 % (2 + (i : Nat)) = 0 := Classical.byContradiction fun q => z (.inr (decide_eq_false q))
        have d1 := Int.dvd_of_emod_eq_zero z1
        have d2 := Int.dvd_of_emod_eq_zero z2
        have e : (2 : Int) + (i : Nat) = ((2 + i : Nat) : Int) := by omega
        rw [e] at d1 d2
        have t : ((2 + i : Nat) : Int) ∣ ((Int.gcd f.1 f.2 : Nat) : Int) := Int.dvd_coe_gcd d1 d2
        rw [lf.2.2] at t
        have t2 := Int.le_of_dvd (show (0 : Int) < ((1 : Nat) : Int) by decide) t
        omega
      have bd : boolsD ((List.range 7).map fun i => .bool (decide (f.1 % (2 + (i : Nat)) = 0) && decide (f.2 % (2 + (i : Nat)) = 0))) = some ((List.range 7).map fun i => (decide (f.1 % (2 + (i : Nat)) = 0) && decide (f.2 % (2 + (i : Nat)) = 0))) := boolsD_map
      have an : ((List.range 7).map fun i => (decide (f.1 % (2 + (i : Nat)) = 0) && decide (f.2 % (2 + (i : Nat)) = 0))).any id = false := by
        rw [List.any_eq_false]
        intro x hx
        obtain ⟨i, hi, rfl⟩ := List.mem_map.mp hx
        rw [id, no i (List.mem_range.mp hi)]
        decide
      rw [bd]
      simp only [Option.map_some, Co.WP_some, an, Co.WB_b]
      refine itF (by decide) (sn (sc ?_))
      simp [-evI_seq, -evI_enm]
      refine comp_mapW (P := fun w => decide (dlS N.rows w * m.2 = m.1 * bkS N.rows w)) (x := wayT) (ringsP_len h) (fun w hw K hk => ?_) ?_
      · obtain ⟨t1, t2, t3, t4, t5, t6⟩ := mem w hw
        have p3 := bin_mul (mulOk_l (i := dlS N.rows w) (j := m.2) t3 (by rw [two64]; omega))
        have p4 := bin_mul (mulOk_l (i := m.1) (j := bkS N.rows w) q1 (by rw [two64]; omega))
        rw [WE_item]
        simp [t_law_2, g5]
        refine law_sums_w t1 (by omega) ?_
        simp [p3]
        refine law_sums_w t1 (by omega) ?_
        simp [p4]
        simpa using hk
      · have ef : ((ringsP N.rows).filter fun w => decide (some (ratF N.rows w) = slowP N.rows)) = (ringsP N.rows).filter fun w => decide (dlS N.rows w * m.2 = m.1 * bkS N.rows w) := by
          apply List.filter_congr
          intro w hw
          obtain ⟨t1, t2, t3, t4, t5, t6⟩ := mem w hw
          rw [hf]
          congr 1
          apply propext
          have := low_iff (d := dlS N.rows w) (b := bkS N.rows w) t3 (by omega) lf q2 q3
          rw [← this]
          constructor
          · intro z; exact Option.some.inj z
          · intro z; rw [← z]; rfl
        rw [ef] at sr
        have E2 : eqD (.tuple (((ringsP N.rows).filter fun w => decide (dlS N.rows w * m.2 = m.1 * bkS N.rows w)).map wayT)) (.tuple (((ringsP N.rows).filter fun w => decide (dlS N.rows w * m.2 = m.1 * bkS N.rows w)).map wayT)) = some true := eqD_t ((pl_tup (n := 2) fun x hx => by
          obtain ⟨w, _, rfl⟩ := List.mem_map.mp hx
          exact pl_wayT w).mono (by decide))
        refine si ?_
        simp [g7, sr, E2]
        refine sn (sn ?_)
        exact last _ _ _ _ _ _ _ _
theorem pureLaw (s : Dice) : ∃ ρ' s', xb (fun j => ms_law[j]?) c_law (diceEnv N_law.length i_dice) s = .nx ρ' s' := by
  refine WX_nx (G := GG) ?_
  have ee : diceEnv N_law.length i_dice = [.no, .dice, .no, .no, .no, .no, .no, .no, .no, .no, .no] := rfl
  rw [ee]
  have g0 : GG 0 = some m_law_roll := rfl
  have g1 : GG 1 = some m_law_net := rfl
  have g2 : GG 2 = some m_law_overtaken := rfl
  have main := fun N h s => main_w (N := N) h s
  generalize GG = G at *
  unfold c_law at main ⊢
  refine sc ?_
  simp [g0]
  refine roll_w (by decide) (by decide) fun r s1 hr => ?_
  simp
  by_cases r0 : 0 < r
  · refine itT r0 ?_
    simp [g1]
    refine law_net_w (most := 5) (inp := 1) (by decide) (by decide) (by decide) fun N s2 h _ _ _ => ?_
    exact main N h s2
  · refine itF r0 ?_
    simp [g2]
    refine overtaken_w fun N s2 h _ _ _ => ?_
    exact main N h s2
end Lw

/-! Core T: what a law needs to tell its lambdas. -/
namespace Co
open PySem PySem.Spec PyProof.Rows L2 L2H HotX CoH
/-- isinstance's facts of an exception class, all in one -/
def excB (K : PySem.W.Frag) (D : Addr) : Bool :=
  decide (PySem.W.findIn K (.ref D) "__getattribute__" = some (some (.builtin "BaseException.__getattribute__"))) && decide (PySem.W.findIn K (.ref D) "__getattr__" = some none) && decide (PySem.W.subIn K (.ref D) (.type "BaseException") = some true) && PySem.W.hasDictIn K D && decide (PySem.W.findIn K (.ref D) "__class__" = some (some (.builtin "object.__class__"))) &&
  decide (PySem.W.specialIn K (.builtin "object.__class__") "__get__" = some (some (.builtin "getset_descriptor.__get__"))) && decide (PySem.W.takesIn K (.builtin "object.__class__") = some true) && decide (PySem.W.mroIn K D (.type "object") = some true)
theorem excB_ok {K : PySem.W.Frag} {D : Addr} (h : excB K D = true) : ExcC K D := by
  unfold excB at h
  simp only [Bool.and_eq_true, decide_eq_true_eq] at h
  obtain ⟨⟨⟨⟨⟨⟨⟨h1, h2⟩, h3⟩, h4⟩, h5⟩, h6⟩, h7⟩, h8⟩ := h
  exact ⟨h1, h2, h3, h4, h5, h6, h7, h8⟩
/-- all that is asked of the classes -/
def kindsB (K : PySem.W.Frag) : Bool := kinds.all fun c => excB K (He.ga K c) && (kinds.all fun d => decide (PySem.W.kitOne K (.ref (He.ga K c)) (.ref (He.ga K d)) = some (decide (c = d)))) && decide (PySem.W.kitOne K (.ref (He.ga K c)) (.type "ValueError") = some true) && decide (PySem.W.exmOne K (.ref (He.ga K c)) (.ref (He.ga K "RoundError")) = some true)
theorem kindsB_ok {K : PySem.W.Frag} {mg : Str → Option Value} (h : kindsB K = true) (g : ∀ c ∈ kinds, mg c = some (.ref (He.ga K c))) : ExF K mg (fun x => He.ga K x) ∧ ∀ c ∈ kinds, PySem.W.exmOne K (.ref (He.ga K c)) (.ref (He.ga K "RoundError")) = some true := by
  unfold kindsB at h
  simp only [List.all_eq_true, Bool.and_eq_true, decide_eq_true_eq] at h
  exact ⟨⟨g, fun c hc => excB_ok (h c hc).1.1.1, fun c hc d hd => (h c hc).1.1.2 d hd, fun c hc => (h c hc).1.2⟩, fun c hc => (h c hc).2⟩
section
variable {P : Program} {w : World} {K : PySem.W.Frag} {mg : Str → Option Value} {base : Heap}
/-- the lookups in _law_term's scope -/
def termC (sc : Scope) : Bool :=
  decide (sc.names.lookup ("_law_e" : Str) = some .local) && decide (sc.names.lookup ("_law_flags" : Str) = some .local) && decide (sc.names.lookup ("_law_kinds" : Str) = some .local) && gnames.all fun x => decide (sc.names.lookup x = some .globalImplicit)
abbrev NT_term : List Str := ["_law_e", "_law_flags", "_law_kinds", "_law_flag"]
theorem fnT_law {params : Arguments} {body : List Stmt} {scope sc : Scope} {f : Addr} {fd : FuncData} {k : Nat} (F : FunD K "_law_term" "_law_term" params body scope [] [] f fd) (hb : Binds K fd ["_law_e"] [])
    (hS : (scopeC NT_term ["_law_e"] scope && termC scope && blkC NT_term scope sc [("_law_flag", 3)] && decide ((relS sc scope).names.lookup ("_law_flag" : Str) = some .local) && decide ((relS sc scope).names.lookup ("int" : Str) = some .globalImplicit)) = true)
    (ex : ExF K mg (fun x => He.ga K x)) (bl : ∀ x : Str, x ∈ (["isinstance", "sum", "int", "ValueError"] : List Str) → mg x = none)
    {e1 e2 e3 e4 e5 k1 k2 k3 : List Expr} {e6 : Expr}
    {q1 q2 q3 q4 q5 q6 q7 q8 q9 q10 q11 q12 q13 q14 q15 q16 q17 q18 q19 q20 q21 q22 q23 q24 q25 q26 q27 q28 q29 q30 q31 q32 q33 q34 q35 q36 q37 q38 q39 q40 q41 q42 q43 q44 q45 q46 q47 q48 q49 q50 q51 q52 q53 q54 q55 q56 q57 q58 q59 q60 q61 q62 q63 q64 q65 q66 q67 q68 q69 q70 : Pos} {j1 j2 j3 j4 j5 j6 j7 : Nat}
    (hB : body = [.Assign [.Name "_law_flags" q1] (.List e1 q2) q3,
      .Assign [.Name "_law_flags" q4] (.BinOp (.Name "_law_flags" q7) .Add (.List e2 q5) q8) q6,
      .Assign [.Name "_law_flags" q9] (.BinOp (.Name "_law_flags" q12) .Add (.List e3 q10) q13) q11,
      .Assign [.Name "_law_flags" q14] (.BinOp (.Name "_law_flags" q17) .Add (.List e4 q15) q18) q16,
      .Assign [.Name "_law_flags" q19] (.BinOp (.Name "_law_flags" q22) .Add (.List e5 q20) q23) q21,
      .Expr (.Call (.Attribute (.Name "_law_flags" q25) "append" q26) [e6] [] q27) q28,
      .Assign [.Name "_law_kinds" q29] (.List k1 q30) q31,
      .Assign [.Name "_law_kinds" q32] (.BinOp (.Name "_law_kinds" q35) .Add (.List k2 q33) q36) q34,
      .Assign [.Name "_law_kinds" q37] (.BinOp (.Name "_law_kinds" q40) .Add (.List k3 q38) q41) q39,
      .If (.BoolOp .Or [.Compare (.Call (.Name "sum" q42) [.ListComp (.Call (.Name "int" q43) [.Name "_law_flag" q44] [] q45) [⟨.Name "_law_flag" q46, .Name "_law_flags" q47, [], 0⟩] sc q48] [] q49) [.NotEq] [.Constant (.int 1) j1 q50] q51,
        .UnaryOp .Not (.Call (.Name "isinstance" q52) [.Name "_law_e" q53, .Name "ValueError" q54] [] q55) q56] q57) [.Return (some (.Tuple [.Constant (.str "error") j2 q58, .Constant (.str "other") j3 q59] j4 q60)) q61] [] q62,
      .Return (some (.Tuple [.Constant (.str "error") j5 q63, .Subscript (.Name "_law_kinds" q64) (.Call (.Attribute (.Name "_law_flags" q65) "index" q66) [.Constant (.bool true) j6 q24] [] q67) q68] j7 q69)) q70])
    (h1 : isList e1 = some gF1) (h2 : isList e2 = some gF2) (h3 : isList e3 = some gF3)
    (h4 : isList e4 = some gF4) (h5 : isList e5 = some gF5) (h6 : isOne e6 = some ("NothingToUndo" : Str))
    (g1 : strL k1 = some gK1) (g2 : strL k2 = some gK2) (g3 : strL k3 = some gK3)
    (hl : (q26.endLine == q27.line) = true) (hl2 : (q66.endLine == q67.line) = true) :
    FnT P w K mg base (L2N.CX P w) (k + 1) f (fun x => He.ga K x) := by
  haveI : TabT := ⟨[]⟩
  simp only [Bool.and_eq_true, decide_eq_true_eq] at hS
  obtain ⟨⟨⟨⟨s1, s2⟩, s3⟩, s4⟩, s5⟩ := hS
  unfold termC at s2
  simp only [Bool.and_eq_true, decide_eq_true_eq, List.all_eq_true] at s2
  obtain ⟨⟨⟨t1, t2⟩, t3⟩, t4⟩ := s2
  have S := scopeC_ok s1
  subst hB
  refine fnT_of F S hb fun X p c eK eM eS eN hot un hp hc hz hf => ?_
  refine term_ps ⟨hp, hot, un, by rw [eN]; exact S.nd, eN, by rw [eK, eM]; exact ex, hc, hz, hf, by rw [eM]; exact bl, by rw [eS]; exact t1, by rw [eS]; exact t2, by rw [eS]; exact t3, by rw [eS]; exact t4⟩ (by rw [eN, eS]; exact blkOk_by s3) (by rw [eS]; exact s4) (by rw [eS]; exact s5) h1 h2 h3 h4 h5 h6 g1 g2 g3 hl hl2 (isOne_star h6 _)
end
section
variable [TabT] {P : Program} {w : World} {K : PySem.W.Frag} {mg : Str → Option Value} {base : Heap} {G : Gam} {N : List Str} {scope : Scope} {fs : List (Str × Nat)} {cs : List (Str × Int)} {xs : List Str} {f : Addr}
/-- the telling, in a law's own round -/
theorem told_law {g : Addr} {j k : Nat} (hf : Fnz P w K mg base G (fun x => He.ga K x) (j + 1) fs) (hk : j + 3 ≤ k) (hmL : mg "_law_told" = some (.ref g)) (gl : glC ⟨scope, N, fun _ => true, fs, cs, xs, true⟩ "_law_told" = true)
    {pg : Arguments} {bg : List Stmt} {sg : Scope} {fdg : FuncData} (Fg : FunD K "_law_told" "_law_told" pg bg sg [] [] g fdg) (bd : Binds K fdg ["_law_deed"] [])
    {q1 q2 q3 q4 q5 q6 q7 q8 q9 q10 : Pos} (hB : bg = [.Try [.Return (some (.Call (.Name "_law_deed" q1) [] [] q2)) q3] [.ExceptHandler (some (.Name "RoundError" q4)) (some "_law_e") [.Return (some (.Call (.Name "_law_term" q5) [.Name "_law_e" q6] [] q7)) q8] q9] [] [] q10])
    (hS : (scopeC ["_law_deed", "_law_e"] ["_law_deed"] sg && decide (sg.names.lookup ("_law_deed" : Str) = some .local) && decide (sg.names.lookup ("_law_e" : Str) = some .local) && decide (sg.names.lookup ("RoundError" : Str) = some .globalImplicit) && decide (sg.names.lookup ("_law_term" : Str) = some .globalImplicit)) = true)
    (mR : mg "RoundError" = some (.ref (He.ga K "RoundError"))) {fT : Addr} (FT : FnT P w K mg base (L2N.CX P w) (j + 1) fT (fun x => He.ga K x)) (mT : mg "_law_term" = some (.ref fT)) (kT : PySem.W.keepIn K (.ref fT) = true)
    (hex : ∀ c ∈ kinds, PySem.W.exmOne K (.ref (He.ga K c)) (.ref (He.ga K "RoundError")) = some true)
    {c Pt : Addr} (TB : LamX.TabB base mg c Pt) (hts : TabT.ts = [(Pt, ("law.<locals>.<lambda>" : Str))])
    {cdv : Value} (hcd : cdv = .ref c) {A : Around} {outer : List PySem.Env} {s : Shared} {H : Hp} {E : XK} (hr : Room k (A.deeper (envOfC "law" scope s.heap.objs.size f cdv))) :
    ToldC (cxOf (L2N.CX P w) P w K mg base N "law" scope f cdv A outer s H E) G (fun x => He.ga K x) ⟨scope, N, fun _ => true, fs, cs, xs, true⟩ := by
  simp only [Bool.and_eq_true, decide_eq_true_eq] at hS
  obtain ⟨⟨⟨⟨s1, s2⟩, s3⟩, s4⟩, s5⟩ := hS
  obtain ⟨oc, od, dV, kV, doc, pm, an, cdg, ct, osl, efd, lk, hcg, _, _⟩ := Fg.ex
  subst efd
  subst hB
  refine ⟨j + 1, hr.mono hk, fun i p h => ?_, fun {T params body scope t p lpos pos} hT hg L hn hbody => ⟨He.ga K "RoundError", hex, ?_⟩⟩
  · obtain ⟨fa, fd, ps, mf, h1, h2, h3, h4, h5, h6⟩ := hf i p h
    exact ⟨fa, fd, ps, mf, h1, h2, h3, h4, h5, h6⟩
  · have en := noPar_eq hn
    subst en
    subst hT
    rw [hts]
    exact pe_told hg hmL Fg.kp lk hcg bd (scopeC_ok s1) s2 s3 s4 s5 mR FT mT kT TB hcd (List.mem_singleton.mpr rfl) (fun p hp _ => by rw [List.mem_singleton.mp hp]; rfl) (hr.mono hk) L rfl (fun _ _ _ _ _ => rfl) hbody
end
end Co

namespace Lw
open PySem PySem.Spec PyProof.Rows L2 Co Pg
def top (i : Nat) : Stmt := PySem.Challenge.pw_roundnets_k07_whole_rings.main.body.getD i (.Pass ⟨0, 0, 0, 0⟩)
def d_is_whole : He.DefD := ⟨("is_whole", none), "is_whole", "is_whole", defArgs (top 22), defBody (top 22), defScope (top 22), [], []⟩
def d_event_of : He.DefD := ⟨("event_of", none), "event_of", "event_of", defArgs (top 23), defBody (top 23), defScope (top 23), [], []⟩
def d_is_source : He.DefD := ⟨("is_source", none), "is_source", "is_source", defArgs (top 24), defBody (top 24), defScope (top 24), [], []⟩
def d_is_arc : He.DefD := ⟨("is_arc", none), "is_arc", "is_arc", defArgs (top 25), defBody (top 25), defScope (top 25), [], []⟩
def d_is_row : He.DefD := ⟨("is_row", none), "is_row", "is_row", defArgs (top 26), defBody (top 26), defScope (top 26), [], []⟩
def d_is_shaped : He.DefD := ⟨("is_shaped", none), "is_shaped", "is_shaped", defArgs (top 27), defBody (top 27), defScope (top 27), [], []⟩
def d_same_round : He.DefD := ⟨("same_round", none), "same_round", "same_round", defArgs (top 28), defBody (top 28), defScope (top 28), [], []⟩
def d_order_of : He.DefD := ⟨("order_of", none), "order_of", "order_of", defArgs (top 29), defBody (top 29), defScope (top 29), [], []⟩
def d_all_back : He.DefD := ⟨("all_back", none), "all_back", "all_back", defArgs (top 30), defBody (top 30), defScope (top 30), [], []⟩
def d_is_net : He.DefD := ⟨("is_net", none), "is_net", "is_net", defArgs (top 31), defBody (top 31), defScope (top 31), [], []⟩
def d_need_net : He.DefD := ⟨("need_net", none), "need_net", "need_net", defArgs (top 32), defBody (top 32), defScope (top 32), [], []⟩
def d_divisor : He.DefD := ⟨("divisor", none), "divisor", "divisor", defArgs (top 34), defBody (top 34), defScope (top 34), [], []⟩
def d_lowest : He.DefD := ⟨("lowest", none), "lowest", "lowest", defArgs (top 35), defBody (top 35), defScope (top 35), [], []⟩
def d_rings_from : He.DefD := ⟨("rings_from", none), "rings_from", "rings_from", defArgs (top 36), defBody (top 36), defScope (top 36), [], []⟩
def d_rings_of : He.DefD := ⟨("rings_of", none), "rings_of", "rings_of", defArgs (top 37), defBody (top 37), defScope (top 37), [], []⟩
def d_rings : He.DefD := ⟨("rings", none), "rings", "rings", defArgs (top 38), defBody (top 38), defScope (top 38), [], []⟩
def d_measure : He.DefD := ⟨("measure", none), "measure", "measure", defArgs (top 39), defBody (top 39), defScope (top 39), [], []⟩
def d_ratio : He.DefD := ⟨("ratio", none), "ratio", "ratio", defArgs (top 40), defBody (top 40), defScope (top 40), [], []⟩
def d_is_less : He.DefD := ⟨("is_less", none), "is_less", "is_less", defArgs (top 41), defBody (top 41), defScope (top 41), [], []⟩
def d_greatest : He.DefD := ⟨("greatest", none), "greatest", "greatest", defArgs (top 42), defBody (top 42), defScope (top 42), [], []⟩
def d_slowest_of : He.DefD := ⟨("slowest_of", none), "slowest_of", "slowest_of", defArgs (top 43), defBody (top 43), defScope (top 43), [], []⟩
def d_slowest : He.DefD := ⟨("slowest", none), "slowest", "slowest", defArgs (top 44), defBody (top 44), defScope (top 44), [], []⟩
def d_slowest_rings : He.DefD := ⟨("slowest_rings", none), "slowest_rings", "slowest_rings", defArgs (top 45), defBody (top 45), defScope (top 45), [], []⟩
def d_law_cell : He.DefD := ⟨("_law_cell", none), "_law_cell", "_law_cell", defArgs (top 47), defBody (top 47), defScope (top 47), [], []⟩
def d_law_drawn : He.DefD := ⟨("_law_drawn", none), "_law_drawn", "_law_drawn", defArgs (top 48), defBody (top 48), defScope (top 48), [], []⟩
def d_law_roll : He.DefD := ⟨("_law_roll", none), "_law_roll", "_law_roll", defArgs (top 49), defBody (top 49), defScope (top 49), [], []⟩
def d_law_rounds : He.DefD := ⟨("_law_rounds", none), "_law_rounds", "_law_rounds", defArgs (top 50), defBody (top 50), defScope (top 50), [], []⟩
def d_law_term : He.DefD := ⟨("_law_term", none), "_law_term", "_law_term", defArgs (top 51), defBody (top 51), defScope (top 51), [], []⟩
def d_law_told : He.DefD := ⟨("_law_told", none), "_law_told", "_law_told", defArgs (top 52), defBody (top 52), defScope (top 52), [], []⟩
def d_law_net : He.DefD := ⟨("_law_net", none), "_law_net", "_law_net", defArgs (top 53), defBody (top 53), defScope (top 53), [], []⟩
def d_law_renamed : He.DefD := ⟨("_law_renamed", none), "_law_renamed", "_law_renamed", defArgs (top 54), defBody (top 54), defScope (top 54), [], []⟩
def d_law_overtaken : He.DefD := ⟨("_law_overtaken", none), "_law_overtaken", "_law_overtaken", defArgs (top 55), defBody (top 55), defScope (top 55), [], []⟩
def d_law_rings : He.DefD := ⟨("_law_rings", none), "_law_rings", "_law_rings", defArgs (top 56), defBody (top 56), defScope (top 56), [], []⟩
def d_law_sums : He.DefD := ⟨("_law_sums", none), "_law_sums", "_law_sums", defArgs (top 57), defBody (top 57), defScope (top 57), [], []⟩
def d_law : He.DefD := ⟨("law", none), "law", "law", defArgs (top 58), defBody (top 58), defScope (top 58), [], []⟩
def fn : List He.DefD := [d_is_whole, d_event_of, d_is_source, d_is_arc, d_is_row, d_is_shaped, d_same_round, d_order_of, d_all_back, d_is_net, d_need_net, d_divisor, d_lowest, d_rings_from, d_rings_of, d_rings, d_measure, d_ratio, d_is_less, d_greatest, d_slowest_of, d_slowest, d_slowest_rings, d_law_cell, d_law_drawn, d_law_roll, d_law_rounds, d_law_term, d_law_told, d_law_net, d_law_renamed, d_law_overtaken, d_law_rings, d_law_sums, d_law]
def fa : List He.Fa := [.glo "is_whole", .glo "event_of", .glo "is_source", .glo "is_arc", .glo "is_row", .glo "is_shaped", .glo "same_round", .glo "order_of", .glo "all_back", .glo "is_net", .glo "need_net", .glo "divisor", .glo "lowest", .glo "rings_from", .glo "rings_of", .glo "rings", .glo "measure", .glo "ratio", .glo "is_less", .glo "greatest", .glo "slowest_of", .glo "slowest", .glo "slowest_rings", .glo "_law_cell", .glo "_law_drawn", .glo "_law_roll", .glo "_law_rounds", .glo "_law_term", .glo "_law_told", .glo "_law_net", .glo "_law_renamed", .glo "_law_overtaken", .glo "_law_rings", .glo "_law_sums", .glo "law", .glo "InvalidNet", .glo "InvalidStreams", .glo "InvalidRound", .glo "InvalidEvent", .glo "InvalidInput", .glo "InvalidArc", .glo "InvalidNumber", .glo "InvalidForm", .glo "InvalidStores", .glo "InvalidDues", .glo "InvalidText", .glo "Standstill", .glo "NoTime", .glo "Broken", .glo "NoFit", .glo "TooMany", .glo "NothingToUndo", .glo "RoundError", .exc "InvalidNet", .free "len", .free "int", .free "str", .free "tuple", .free "list", .free "sorted", .free "sum", .free "min", .free "max", .free "all", .free "any", .free "abs", .free "isinstance", .free "bool", .free "range", .free "enumerate", .free "ValueError", .int "MOST_EVENTS" 5, .int "MOST_BACK" 8]
def nm0 : List PySem.Str := ["RoundError", "InvalidNet", "InvalidStreams", "InvalidRound", "InvalidEvent", "InvalidInput", "InvalidArc", "InvalidNumber", "InvalidForm", "InvalidStores", "InvalidDues", "InvalidText", "Standstill", "NoTime", "Broken", "NoFit", "TooMany", "NothingToUndo", "is_whole", "event_of", "is_source", "is_arc", "is_row", "is_shaped", "same_round", "order_of", "all_back", "is_net", "need_net", "divisor"]
def nm1 : List PySem.Str := ["lowest", "rings_from", "rings_of", "rings", "measure", "ratio", "is_less", "greatest", "slowest_of", "slowest", "slowest_rings", "_law_cell", "_law_drawn", "_law_roll", "_law_rounds", "_law_term", "_law_told", "_law_net", "_law_renamed", "_law_overtaken", "_law_rings", "_law_sums", "MOST_EVENTS", "MOST_BACK"]
def names : List PySem.Str := nm0 ++ nm1
abbrev R : PySem.W.OpenRow := PySem.W.OpenLaw.row PySem.Challenge.rw_roundnets_k07_whole_rings
abbrev tf : List He.Defn := [("law", none)]
abbrev hk : PySem.W.Hook := He.hookX 4 fa fn [] tf kindsB
def ob (s : PySem.W.SharedT) : He.AlX := He.obsX 4 fa fn [] tf kindsB (HandSHeadRun.getT s)
theorem ob_eq (s : PySem.W.SharedT) : ob s = hk.obs s.abs := He.obsX_eq (HandSHeadRun.getT_eq s)
theorem run (w : World) : HandSHeadRun.RunEq R (PySem.W.view R.prog [58]) hk ob 20000 names w := by
  intro os
  kernel_rfl
def cs : List (Str × Int) := [("MOST_EVENTS", 5), ("MOST_BACK", 8)]
def xs : List Str := ["InvalidNet"]
theorem k_law_drawn : defC N_law_drawn p_law_drawn fs_law_drawn cs xs c_law_drawn d_law_drawn.scope d_law_drawn.body = true := by decide +kernel
theorem k_law_roll : defC N_law_roll p_law_roll fs_law_roll cs xs c_law_roll d_law_roll.scope d_law_roll.body = true := by decide +kernel
theorem k_law_renamed : defC N_law_renamed p_law_renamed fs_law_renamed cs xs c_law_renamed d_law_renamed.scope d_law_renamed.body = true := by decide +kernel
theorem k_law_net : defC N_law_net p_law_net fs_law_net cs xs c_law_net d_law_net.scope d_law_net.body = true := by decide +kernel
theorem k_law_overtaken : defC N_law_overtaken p_law_overtaken fs_law_overtaken cs xs c_law_overtaken d_law_overtaken.scope d_law_overtaken.body = true := by decide +kernel
theorem k_law_rings : defC N_law_rings p_law_rings fs_law_rings cs xs c_law_rings d_law_rings.scope d_law_rings.body = true := by decide +kernel
theorem k_is_whole : defC N_is_whole p_is_whole fs_is_whole cs xs c_is_whole d_is_whole.scope d_is_whole.body = true := by decide +kernel
theorem k_is_source : defC N_is_source p_is_source fs_is_source cs xs c_is_source d_is_source.scope d_is_source.body = true := by decide +kernel
theorem k_is_arc : defC N_is_arc p_is_arc fs_is_arc cs xs c_is_arc d_is_arc.scope d_is_arc.body = true := by decide +kernel
theorem k_is_row : defC N_is_row p_is_row fs_is_row cs xs c_is_row d_is_row.scope d_is_row.body = true := by decide +kernel
theorem k_is_shaped : defC N_is_shaped p_is_shaped fs_is_shaped cs xs c_is_shaped d_is_shaped.scope d_is_shaped.body = true := by decide +kernel
theorem k_all_back : defC N_all_back p_all_back fs_all_back cs xs c_all_back d_all_back.scope d_all_back.body = true := by decide +kernel
theorem k_event_of : defC N_event_of p_event_of fs_event_of cs xs c_event_of d_event_of.scope d_event_of.body = true := by decide +kernel
theorem k_same_round : defC N_same_round p_same_round fs_same_round cs xs c_same_round d_same_round.scope d_same_round.body = true := by decide +kernel
theorem k_order_of : defC N_order_of p_order_of fs_order_of cs xs c_order_of d_order_of.scope d_order_of.body = true := by decide +kernel
theorem k_is_net : defC N_is_net p_is_net fs_is_net cs xs c_is_net d_is_net.scope d_is_net.body = true := by decide +kernel
theorem k_need_net : defC N_need_net p_need_net fs_need_net cs xs c_need_net d_need_net.scope d_need_net.body = true := by decide +kernel
theorem k_rings_from : defC N_rings_from p_rings_from fs_rings_from cs xs c_rings_from d_rings_from.scope d_rings_from.body = true := by decide +kernel
theorem k_rings_of : defC N_rings_of p_rings_of fs_rings_of cs xs c_rings_of d_rings_of.scope d_rings_of.body = true := by decide +kernel
theorem k_rings : defC N_rings p_rings fs_rings cs xs c_rings d_rings.scope d_rings.body = true := by decide +kernel
theorem k_law_sums : defC N_law_sums p_law_sums fs_law_sums cs xs c_law_sums d_law_sums.scope d_law_sums.body = true := by decide +kernel
theorem k_is_less : defC N_is_less p_is_less fs_is_less cs xs c_is_less d_is_less.scope d_is_less.body = true := by decide +kernel
theorem k_greatest : defC N_greatest p_greatest fs_greatest cs xs c_greatest d_greatest.scope d_greatest.body = true := by decide +kernel
theorem k_measure : defC N_measure p_measure fs_measure cs xs c_measure d_measure.scope d_measure.body = true := by decide +kernel
theorem k_divisor : defC N_divisor p_divisor fs_divisor cs xs c_divisor d_divisor.scope d_divisor.body = true := by decide +kernel
theorem k_lowest : defC N_lowest p_lowest fs_lowest cs xs c_lowest d_lowest.scope d_lowest.body = true := by decide +kernel
theorem k_ratio : defC N_ratio p_ratio fs_ratio cs xs c_ratio d_ratio.scope d_ratio.body = true := by decide +kernel
theorem k_slowest_of : defC N_slowest_of p_slowest_of fs_slowest_of cs xs c_slowest_of d_slowest_of.scope d_slowest_of.body = true := by decide +kernel
theorem k_slowest : defC N_slowest p_slowest fs_slowest cs xs c_slowest d_slowest.scope d_slowest.body = true := by decide +kernel
theorem k_slowest_rings : defC N_slowest_rings p_slowest_rings fs_slowest_rings cs xs c_slowest_rings d_slowest_rings.scope d_slowest_rings.body = true := by decide +kernel
def bodyFor : List Stmt → List Stmt
  | [.For _ _ b _ _, _] => b
  | _ => []
abbrev S_law : Sc := ⟨d_law.scope, N_law, fun _ => true, fs_law, cs, xs, true⟩
theorem k_law : (scopeC N_law ["_law_script"] d_law.scope && okBk S_law c_law (bodyFor d_law.body) && okL S_law i_dice "_law_dice" && okN S_law 0 "_law_script" && glC S_law "_law_rounds" && glC S_law "_law_told") = true := by decide +kernel
end Lw

namespace Lw
open PySem PySem.Spec PyProof.Rows L2 Co Pg

theorem facts {P : Program} {w : World} {K : PySem.W.Frag} {h : Heap} {mg : Str → Option Value} {f : Addr} (X : K.In h) (G : h.Ns mainGlobals mg) (hfa : mg ("law" : Str) = some (.ref f)) (c : He.SaysD fa fn K) (hkb : kindsB K = true) :
    ∃ fd : FuncData, (∀ (s : Shared) (v : Value), BindsTo s fd ⟨[v], []⟩ [("_law_script", v)]) ∧ ∀ base : Heap, K.In base → base.Ns mainGlobals mg → LamX.TabB base mg (He.cT K ("law", none)).1 (He.cT K ("law", none)).2 → FnOk P w K mg base (L2N.CX P w) 10 f fd ["_law_script"] (@spLaw ⟨[((He.cT K ("law", none)).2, "law.<locals>.<lambda>")]⟩ K) := by
  letI TT : TabT := ⟨[((He.cT K ("law", none)).2, "law.<locals>.<lambda>")]⟩
  obtain ⟨fd, F⟩ := c.def_ 34 (d := d_law) rfl
  have e := hfa.symm.trans (He.glo_ok X G (c.fact 34 (f := .glo "law") rfl))
  cases e
  have b := FunD.bindsA (ps := ["_law_script"]) F fun _ _ _ _ _ _ us hl => match us, hl with | [_], _ => rfl
  refine ⟨fd, fun s v => b s [v] rfl, fun base _ _ TB => ?_⟩
  have hb : Bls mg := by
    intro x hx
    simp only [List.mem_cons, List.not_mem_nil, or_false] at hx
    rcases hx with rfl | rfl | rfl | rfl | rfl | rfl | rfl | rfl | rfl | rfl | rfl | rfl | rfl | rfl | rfl | rfl
    · exact He.free_ok X G (c.fact 54 (f := .free "len") rfl)
    · exact He.free_ok X G (c.fact 55 (f := .free "int") rfl)
    · exact He.free_ok X G (c.fact 56 (f := .free "str") rfl)
    · exact He.free_ok X G (c.fact 57 (f := .free "tuple") rfl)
    · exact He.free_ok X G (c.fact 58 (f := .free "list") rfl)
    · exact He.free_ok X G (c.fact 59 (f := .free "sorted") rfl)
    · exact He.free_ok X G (c.fact 60 (f := .free "sum") rfl)
    · exact He.free_ok X G (c.fact 61 (f := .free "min") rfl)
    · exact He.free_ok X G (c.fact 62 (f := .free "max") rfl)
    · exact He.free_ok X G (c.fact 63 (f := .free "all") rfl)
    · exact He.free_ok X G (c.fact 64 (f := .free "any") rfl)
    · exact He.free_ok X G (c.fact 65 (f := .free "abs") rfl)
    · exact He.free_ok X G (c.fact 66 (f := .free "isinstance") rfl)
    · exact He.free_ok X G (c.fact 67 (f := .free "bool") rfl)
    · exact He.free_ok X G (c.fact 68 (f := .free "range") rfl)
    · exact He.free_ok X G (c.fact 69 (f := .free "enumerate") rfl)
  have hc : Css mg cs := by
    intro p hp
    simp only [cs, List.mem_cons, List.not_mem_nil, or_false] at hp
    rcases hp with rfl | rfl
    · exact He.int_ok X G (c.fact 71 (f := .int "MOST_EVENTS" 5) rfl)
    · exact He.int_ok X G (c.fact 72 (f := .int "MOST_BACK" 8) rfl)
  let cl : Str → Addr := fun x => He.ga K x
  have hX : Rxs K mg cl xs := by
    intro x hx
    simp only [xs, List.mem_cons, List.not_mem_nil, or_false] at hx
    rcases hx with rfl
    · exact ⟨He.glo_ok X G (c.fact 35 (f := .glo "InvalidNet") rfl), He.exc_ok (c.fact 53 (f := .exc "InvalidNet") rfl)⟩
  obtain ⟨fd_law_drawn, F_law_drawn⟩ := c.def_ 24 (d := d_law_drawn) rfl
  have H_law_drawn : Has P w K mg base cl 1 "_law_drawn" 2 m_law_drawn := co_has (k := 0) F_law_drawn (He.glo_ok X G (c.fact 24 (f := .glo "_law_drawn") rfl)) hb hc hX k_law_drawn (fs := fs_law_drawn) (ms := ms_law_drawn) (.nil) (fun _ _ _ _ _ _ us hl => match us, hl with | [_, _], _ => rfl)
  obtain ⟨fd_law_roll, F_law_roll⟩ := c.def_ 25 (d := d_law_roll) rfl
  have H_law_roll : Has P w K mg base cl 2 "_law_roll" 2 m_law_roll := co_has (k := 1) F_law_roll (He.glo_ok X G (c.fact 25 (f := .glo "_law_roll") rfl)) hb hc hX k_law_roll (fs := fs_law_roll) (ms := ms_law_roll) (.cons H_law_drawn (by decide) (.nil)) (fun _ _ _ _ _ _ us hl => match us, hl with | [_, _], _ => rfl)
  obtain ⟨fd_law_renamed, F_law_renamed⟩ := c.def_ 30 (d := d_law_renamed) rfl
  have H_law_renamed : Has P w K mg base cl 3 "_law_renamed" 2 m_law_renamed := co_has (k := 2) F_law_renamed (He.glo_ok X G (c.fact 30 (f := .glo "_law_renamed") rfl)) hb hc hX k_law_renamed (fs := fs_law_renamed) (ms := ms_law_renamed) (.cons H_law_roll (by decide) (.nil)) (fun _ _ _ _ _ _ us hl => match us, hl with | [_, _], _ => rfl)
  obtain ⟨fd_law_net, F_law_net⟩ := c.def_ 29 (d := d_law_net) rfl
  have H_law_net : Has P w K mg base cl 4 "_law_net" 3 m_law_net := co_has (k := 3) F_law_net (He.glo_ok X G (c.fact 29 (f := .glo "_law_net") rfl)) hb hc hX k_law_net (fs := fs_law_net) (ms := ms_law_net) (.cons H_law_roll (by decide) (.cons H_law_renamed (by decide) (.nil))) (fun _ _ _ _ _ _ us hl => match us, hl with | [_, _, _], _ => rfl)
  obtain ⟨fd_law_overtaken, F_law_overtaken⟩ := c.def_ 31 (d := d_law_overtaken) rfl
  have H_law_overtaken : Has P w K mg base cl 4 "_law_overtaken" 1 m_law_overtaken := co_has (k := 3) F_law_overtaken (He.glo_ok X G (c.fact 31 (f := .glo "_law_overtaken") rfl)) hb hc hX k_law_overtaken (fs := fs_law_overtaken) (ms := ms_law_overtaken) (.cons H_law_roll (by decide) (.cons H_law_renamed (by decide) (.nil))) (fun _ _ _ _ _ _ us hl => match us, hl with | [_], _ => rfl)
  obtain ⟨fd_law_rings, F_law_rings⟩ := c.def_ 32 (d := d_law_rings) rfl
  have H_law_rings : Has P w K mg base cl 1 "_law_rings" 1 m_law_rings := co_has (k := 0) F_law_rings (He.glo_ok X G (c.fact 32 (f := .glo "_law_rings") rfl)) hb hc hX k_law_rings (fs := fs_law_rings) (ms := ms_law_rings) (.nil) (fun _ _ _ _ _ _ us hl => match us, hl with | [_], _ => rfl)
  obtain ⟨fd_is_whole, F_is_whole⟩ := c.def_ 0 (d := d_is_whole) rfl
  have H_is_whole : Has P w K mg base cl 1 "is_whole" 3 m_is_whole := co_has (k := 0) F_is_whole (He.glo_ok X G (c.fact 0 (f := .glo "is_whole") rfl)) hb hc hX k_is_whole (fs := fs_is_whole) (ms := ms_is_whole) (.nil) (fun _ _ _ _ _ _ us hl => match us, hl with | [_, _, _], _ => rfl)
  obtain ⟨fd_is_source, F_is_source⟩ := c.def_ 2 (d := d_is_source) rfl
  have H_is_source : Has P w K mg base cl 1 "is_source" 3 m_is_source := co_has (k := 0) F_is_source (He.glo_ok X G (c.fact 2 (f := .glo "is_source") rfl)) hb hc hX k_is_source (fs := fs_is_source) (ms := ms_is_source) (.nil) (fun _ _ _ _ _ _ us hl => match us, hl with | [_, _, _], _ => rfl)
  obtain ⟨fd_is_arc, F_is_arc⟩ := c.def_ 3 (d := d_is_arc) rfl
  have H_is_arc : Has P w K mg base cl 2 "is_arc" 3 m_is_arc := co_has (k := 1) F_is_arc (He.glo_ok X G (c.fact 3 (f := .glo "is_arc") rfl)) hb hc hX k_is_arc (fs := fs_is_arc) (ms := ms_is_arc) (.cons H_is_source (by decide) (.cons H_is_whole (by decide) (.nil))) (fun _ _ _ _ _ _ us hl => match us, hl with | [_, _, _], _ => rfl)
  obtain ⟨fd_is_row, F_is_row⟩ := c.def_ 4 (d := d_is_row) rfl
  have H_is_row : Has P w K mg base cl 3 "is_row" 3 m_is_row := co_has (k := 2) F_is_row (He.glo_ok X G (c.fact 4 (f := .glo "is_row") rfl)) hb hc hX k_is_row (fs := fs_is_row) (ms := ms_is_row) (.cons H_is_arc (by decide) (.nil)) (fun _ _ _ _ _ _ us hl => match us, hl with | [_, _, _], _ => rfl)
  obtain ⟨fd_is_shaped, F_is_shaped⟩ := c.def_ 5 (d := d_is_shaped) rfl
  have H_is_shaped : Has P w K mg base cl 4 "is_shaped" 1 m_is_shaped := co_has (k := 3) F_is_shaped (He.glo_ok X G (c.fact 5 (f := .glo "is_shaped") rfl)) hb hc hX k_is_shaped (fs := fs_is_shaped) (ms := ms_is_shaped) (.cons H_is_whole (by decide) (.cons H_is_row (by decide) (.nil))) (fun _ _ _ _ _ _ us hl => match us, hl with | [_], _ => rfl)
  obtain ⟨fd_all_back, F_all_back⟩ := c.def_ 8 (d := d_all_back) rfl
  have H_all_back : Has P w K mg base cl 1 "all_back" 1 m_all_back := co_has (k := 0) F_all_back (He.glo_ok X G (c.fact 8 (f := .glo "all_back") rfl)) hb hc hX k_all_back (fs := fs_all_back) (ms := ms_all_back) (.nil) (fun _ _ _ _ _ _ us hl => match us, hl with | [_], _ => rfl)
  obtain ⟨fd_event_of, F_event_of⟩ := c.def_ 1 (d := d_event_of) rfl
  have H_event_of : Has P w K mg base cl 1 "event_of" 1 m_event_of := co_has (k := 0) F_event_of (He.glo_ok X G (c.fact 1 (f := .glo "event_of") rfl)) hb hc hX k_event_of (fs := fs_event_of) (ms := ms_event_of) (.nil) (fun _ _ _ _ _ _ us hl => match us, hl with | [_], _ => rfl)
  obtain ⟨fd_same_round, F_same_round⟩ := c.def_ 6 (d := d_same_round) rfl
  have H_same_round : Has P w K mg base cl 2 "same_round" 1 m_same_round := co_has (k := 1) F_same_round (He.glo_ok X G (c.fact 6 (f := .glo "same_round") rfl)) hb hc hX k_same_round (fs := fs_same_round) (ms := ms_same_round) (.cons H_event_of (by decide) (.nil)) (fun _ _ _ _ _ _ us hl => match us, hl with | [_], _ => rfl)
  obtain ⟨fd_order_of, F_order_of⟩ := c.def_ 7 (d := d_order_of) rfl
  have H_order_of : Has P w K mg base cl 3 "order_of" 1 m_order_of := co_has (k := 2) F_order_of (He.glo_ok X G (c.fact 7 (f := .glo "order_of") rfl)) hb hc hX k_order_of (fs := fs_order_of) (ms := ms_order_of) (.cons H_same_round (by decide) (.nil)) (fun _ _ _ _ _ _ us hl => match us, hl with | [_], _ => rfl)
  obtain ⟨fd_is_net, F_is_net⟩ := c.def_ 9 (d := d_is_net) rfl
  have H_is_net : Has P w K mg base cl 5 "is_net" 1 m_is_net := co_has (k := 4) F_is_net (He.glo_ok X G (c.fact 9 (f := .glo "is_net") rfl)) hb hc hX k_is_net (fs := fs_is_net) (ms := ms_is_net) (.cons H_is_shaped (by decide) (.cons H_all_back (by decide) (.cons H_order_of (by decide) (.nil)))) (fun _ _ _ _ _ _ us hl => match us, hl with | [_], _ => rfl)
  obtain ⟨fd_need_net, F_need_net⟩ := c.def_ 10 (d := d_need_net) rfl
  have H_need_net : Has P w K mg base cl 6 "need_net" 1 m_need_net := co_has (k := 5) F_need_net (He.glo_ok X G (c.fact 10 (f := .glo "need_net") rfl)) hb hc hX k_need_net (fs := fs_need_net) (ms := ms_need_net) (.cons H_is_net (by decide) (.nil)) (fun _ _ _ _ _ _ us hl => match us, hl with | [_], _ => rfl)
  obtain ⟨fd_rings_from, F_rings_from⟩ := c.def_ 13 (d := d_rings_from) rfl
  have H_rings_from : Has P w K mg base cl 2 "rings_from" 2 m_rings_from := co_has (k := 1) F_rings_from (He.glo_ok X G (c.fact 13 (f := .glo "rings_from") rfl)) hb hc hX k_rings_from (fs := fs_rings_from) (ms := ms_rings_from) (.cons H_event_of (by decide) (.nil)) (fun _ _ _ _ _ _ us hl => match us, hl with | [_, _], _ => rfl)
  obtain ⟨fd_rings_of, F_rings_of⟩ := c.def_ 14 (d := d_rings_of) rfl
  have H_rings_of : Has P w K mg base cl 3 "rings_of" 1 m_rings_of := co_has (k := 2) F_rings_of (He.glo_ok X G (c.fact 14 (f := .glo "rings_of") rfl)) hb hc hX k_rings_of (fs := fs_rings_of) (ms := ms_rings_of) (.cons H_rings_from (by decide) (.nil)) (fun _ _ _ _ _ _ us hl => match us, hl with | [_], _ => rfl)
  obtain ⟨fd_rings, F_rings⟩ := c.def_ 15 (d := d_rings) rfl
  have H_rings : Has P w K mg base cl 7 "rings" 1 m_rings := co_has (k := 6) F_rings (He.glo_ok X G (c.fact 15 (f := .glo "rings") rfl)) hb hc hX k_rings (fs := fs_rings) (ms := ms_rings) (.cons H_need_net (by decide) (.cons H_rings_of (by decide) (.nil))) (fun _ _ _ _ _ _ us hl => match us, hl with | [_], _ => rfl)
  obtain ⟨fd_law_sums, F_law_sums⟩ := c.def_ 33 (d := d_law_sums) rfl
  have H_law_sums : Has P w K mg base cl 1 "_law_sums" 2 m_law_sums := co_has (k := 0) F_law_sums (He.glo_ok X G (c.fact 33 (f := .glo "_law_sums") rfl)) hb hc hX k_law_sums (fs := fs_law_sums) (ms := ms_law_sums) (.nil) (fun _ _ _ _ _ _ us hl => match us, hl with | [_, _], _ => rfl)
  obtain ⟨fd_is_less, F_is_less⟩ := c.def_ 18 (d := d_is_less) rfl
  have H_is_less : Has P w K mg base cl 1 "is_less" 2 m_is_less := co_has (k := 0) F_is_less (He.glo_ok X G (c.fact 18 (f := .glo "is_less") rfl)) hb hc hX k_is_less (fs := fs_is_less) (ms := ms_is_less) (.nil) (fun _ _ _ _ _ _ us hl => match us, hl with | [_, _], _ => rfl)
  obtain ⟨fd_greatest, F_greatest⟩ := c.def_ 19 (d := d_greatest) rfl
  have H_greatest : Has P w K mg base cl 2 "greatest" 1 m_greatest := co_has (k := 1) F_greatest (He.glo_ok X G (c.fact 19 (f := .glo "greatest") rfl)) hb hc hX k_greatest (fs := fs_greatest) (ms := ms_greatest) (.cons H_is_less (by decide) (.nil)) (fun _ _ _ _ _ _ us hl => match us, hl with | [_], _ => rfl)
  obtain ⟨fd_measure, F_measure⟩ := c.def_ 16 (d := d_measure) rfl
  have H_measure : Has P w K mg base cl 1 "measure" 2 m_measure := co_has (k := 0) F_measure (He.glo_ok X G (c.fact 16 (f := .glo "measure") rfl)) hb hc hX k_measure (fs := fs_measure) (ms := ms_measure) (.nil) (fun _ _ _ _ _ _ us hl => match us, hl with | [_, _], _ => rfl)
  obtain ⟨fd_divisor, F_divisor⟩ := c.def_ 11 (d := d_divisor) rfl
  have H_divisor : Has P w K mg base cl 1 "divisor" 2 m_divisor := co_has (k := 0) F_divisor (He.glo_ok X G (c.fact 11 (f := .glo "divisor") rfl)) hb hc hX k_divisor (fs := fs_divisor) (ms := ms_divisor) (.nil) (fun _ _ _ _ _ _ us hl => match us, hl with | [_, _], _ => rfl)
  obtain ⟨fd_lowest, F_lowest⟩ := c.def_ 12 (d := d_lowest) rfl
  have H_lowest : Has P w K mg base cl 2 "lowest" 2 m_lowest := co_has (k := 1) F_lowest (He.glo_ok X G (c.fact 12 (f := .glo "lowest") rfl)) hb hc hX k_lowest (fs := fs_lowest) (ms := ms_lowest) (.cons H_divisor (by decide) (.nil)) (fun _ _ _ _ _ _ us hl => match us, hl with | [_, _], _ => rfl)
  obtain ⟨fd_ratio, F_ratio⟩ := c.def_ 17 (d := d_ratio) rfl
  have H_ratio : Has P w K mg base cl 3 "ratio" 2 m_ratio := co_has (k := 2) F_ratio (He.glo_ok X G (c.fact 17 (f := .glo "ratio") rfl)) hb hc hX k_ratio (fs := fs_ratio) (ms := ms_ratio) (.cons H_measure (by decide) (.cons H_lowest (by decide) (.nil))) (fun _ _ _ _ _ _ us hl => match us, hl with | [_, _], _ => rfl)
  obtain ⟨fd_slowest_of, F_slowest_of⟩ := c.def_ 20 (d := d_slowest_of) rfl
  have H_slowest_of : Has P w K mg base cl 4 "slowest_of" 1 m_slowest_of := co_has (k := 3) F_slowest_of (He.glo_ok X G (c.fact 20 (f := .glo "slowest_of") rfl)) hb hc hX k_slowest_of (fs := fs_slowest_of) (ms := ms_slowest_of) (.cons H_greatest (by decide) (.cons H_rings_of (by decide) (.cons H_ratio (by decide) (.nil)))) (fun _ _ _ _ _ _ us hl => match us, hl with | [_], _ => rfl)
  obtain ⟨fd_slowest, F_slowest⟩ := c.def_ 21 (d := d_slowest) rfl
  have H_slowest : Has P w K mg base cl 7 "slowest" 1 m_slowest := co_has (k := 6) F_slowest (He.glo_ok X G (c.fact 21 (f := .glo "slowest") rfl)) hb hc hX k_slowest (fs := fs_slowest) (ms := ms_slowest) (.cons H_need_net (by decide) (.cons H_slowest_of (by decide) (.nil))) (fun _ _ _ _ _ _ us hl => match us, hl with | [_], _ => rfl)
  obtain ⟨fd_slowest_rings, F_slowest_rings⟩ := c.def_ 22 (d := d_slowest_rings) rfl
  have H_slowest_rings : Has P w K mg base cl 7 "slowest_rings" 1 m_slowest_rings := co_has (k := 6) F_slowest_rings (He.glo_ok X G (c.fact 22 (f := .glo "slowest_rings") rfl)) hb hc hX k_slowest_rings (fs := fs_slowest_rings) (ms := ms_slowest_rings) (.cons H_need_net (by decide) (.cons H_slowest_of (by decide) (.cons H_rings_of (by decide) (.cons H_ratio (by decide) (.nil))))) (fun _ _ _ _ _ _ us hl => match us, hl with | [_], _ => rfl)
  obtain ⟨fd_law_cell, F_law_cell⟩ := c.def_ 23 (d := d_law_cell) rfl
  obtain ⟨fd_law_rounds, F_law_rounds⟩ := c.def_ 26 (d := d_law_rounds) rfl
  obtain ⟨fd_law_term, F_law_term⟩ := c.def_ 27 (d := d_law_term) rfl
  obtain ⟨fd_law_told, F_law_told⟩ := c.def_ 28 (d := d_law_told) rfl
  have H_cell := ok_cell (P := P) (w := w) (base := base) F_law_cell (scopeC_ok (by decide +kernel)) hb (by decide +kernel) (by decide +kernel) (by decide +kernel) rfl
  have H_rounds := ok_rounds F_law_rounds (scopeC_ok (by decide +kernel)) hb (by decide +kernel) (by decide +kernel) (by decide +kernel) (blkOk_by (by decide +kernel)) (.inr (by decide +kernel)) (by decide +kernel) (by decide +kernel) H_cell (He.glo_ok X G (c.fact 23 (f := .glo "_law_cell") rfl)) F_law_cell.kp (F_law_cell.bindsN (fun _ _ _ _ _ _ us hl => match us, hl with | [_, _], _ => rfl)) rfl
  have kl := k_law
  simp only [Bool.and_eq_true] at kl
  have gk : ∀ x ∈ Co.kinds, mg x = some (.ref (He.ga K x)) := by
    intro x hx
    simp only [Co.kinds, List.mem_cons, List.not_mem_nil, or_false] at hx
    rcases hx with rfl | rfl | rfl | rfl | rfl | rfl | rfl | rfl | rfl | rfl | rfl | rfl | rfl | rfl | rfl | rfl | rfl
    · exact He.glo_ok X G (c.fact 35 (f := .glo "InvalidNet") rfl)
    · exact He.glo_ok X G (c.fact 36 (f := .glo "InvalidStreams") rfl)
    · exact He.glo_ok X G (c.fact 37 (f := .glo "InvalidRound") rfl)
    · exact He.glo_ok X G (c.fact 38 (f := .glo "InvalidEvent") rfl)
    · exact He.glo_ok X G (c.fact 39 (f := .glo "InvalidInput") rfl)
    · exact He.glo_ok X G (c.fact 40 (f := .glo "InvalidArc") rfl)
    · exact He.glo_ok X G (c.fact 41 (f := .glo "InvalidNumber") rfl)
    · exact He.glo_ok X G (c.fact 42 (f := .glo "InvalidForm") rfl)
    · exact He.glo_ok X G (c.fact 43 (f := .glo "InvalidStores") rfl)
    · exact He.glo_ok X G (c.fact 44 (f := .glo "InvalidDues") rfl)
    · exact He.glo_ok X G (c.fact 45 (f := .glo "InvalidText") rfl)
    · exact He.glo_ok X G (c.fact 46 (f := .glo "Standstill") rfl)
    · exact He.glo_ok X G (c.fact 47 (f := .glo "NoTime") rfl)
    · exact He.glo_ok X G (c.fact 48 (f := .glo "Broken") rfl)
    · exact He.glo_ok X G (c.fact 49 (f := .glo "NoFit") rfl)
    · exact He.glo_ok X G (c.fact 50 (f := .glo "TooMany") rfl)
    · exact He.glo_ok X G (c.fact 51 (f := .glo "NothingToUndo") rfl)
  have bt : ∀ x : Str, x ∈ (["isinstance", "sum", "int", "ValueError"] : List Str) → mg x = none := by
    intro x hx
    simp only [List.mem_cons, List.not_mem_nil, or_false] at hx
    rcases hx with rfl | rfl | rfl | rfl
    · exact He.free_ok X G (c.fact 66 (f := .free "isinstance") rfl)
    · exact He.free_ok X G (c.fact 60 (f := .free "sum") rfl)
    · exact He.free_ok X G (c.fact 55 (f := .free "int") rfl)
    · exact He.free_ok X G (c.fact 70 (f := .free "ValueError") rfl)
  obtain ⟨ex, hex⟩ := kindsB_ok hkb gk
  have FT : CoH.FnT P w K mg base (L2N.CX P w) 7 (He.fAd K d_law_term.at_) (fun x => He.ga K x) := by
    refine fnT_law (k := 6) F_law_term (F_law_term.bindsN (fun _ _ _ _ _ _ us hl => match us, hl with | [_], _ => rfl)) ?_ ex bt rfl ?_ ?_ ?_ ?_ ?_ ?_ ?_ ?_ ?_ ?_ ?_ <;> decide +kernel
  obtain ⟨⟨⟨⟨⟨k1, k2⟩, k3⟩, k4⟩, k5⟩, k6⟩ := kl
  have hf := Hass.fnz (P := P) (w := w) (K := K) (mg := mg) (base := base) (cl := cl) (k := 7) (fs := fs_law) (ms := ms_law) (.cons H_law_roll (by decide) (.cons H_law_net (by decide) (.cons H_law_overtaken (by decide) (.cons H_law_rings (by decide) (.cons H_rings (by decide) (.cons H_law_sums (by decide) (.cons H_slowest (by decide) (.cons H_slowest_rings (by decide) (.nil)))))))))
  have told : true = true → ∀ (cdv : Value) (A : Around) (outer : List PySem.Env) (s : Shared) (H : Hp) (E : XK), (∃ oc od dV kV doc pm an ct osl, fd = PySem.W.fnOf "law" "law" d_law.params d_law.body d_law.scope dV kV doc pm an cdv ct ∧ K.lookup (He.fAd K d_law.at_) = some ⟨oc, od, .func fd, osl⟩ ∧ PySem.W.codeIn K cdv "law" = true) → Room 9 (A.deeper (envOfC "law" d_law.scope s.heap.objs.size (He.fAd K d_law.at_) cdv)) →
      ToldC (cxOf (L2N.CX P w) P w K mg base N_law "law" d_law.scope (He.fAd K d_law.at_) cdv A outer s H E) (fun j => ms_law[j]?) cl S_law := by
    rintro _ cdv A outer s H E ⟨oc, od, dV, kV, doc, pm, an, ct, osl, efd, lk, hcd⟩ hr
    obtain ⟨cc, ecd⟩ := He.codeIn_ref hcd
    have ec : He.codeOf K ("law", none) = cc := He.codeOf_eq lk (by rw [efd]; exact ecd)
    have TB' : LamX.TabB base mg cc (He.cT K ("law", none)).2 := by
      rw [← ec]
      exact TB
    exact told_law (j := 6) (k := 9) (f := He.fAd K d_law.at_) (N := N_law) (A := A) (outer := outer) (s := s) (H := H) (E := E) hf (by decide) (He.glo_ok X G (c.fact 28 (f := .glo "_law_told") rfl)) k6 F_law_told (F_law_told.bindsN (fun _ _ _ _ _ _ us hl => match us, hl with | [_], _ => rfl)) rfl (by decide +kernel) (He.glo_ok X G (c.fact 52 (f := .glo "RoundError") rfl)) FT (He.glo_ok X G (c.fact 27 (f := .glo "_law_term") rfl)) F_law_term.kp hex TB' rfl ecd hr
  exact ok_lawX (k := 9) (cl := cl) (tl := true) F (scopeC_ok k1) (Hass.fnz (.cons H_law_roll (by decide) (.cons H_law_net (by decide) (.cons H_law_overtaken (by decide) (.cons H_law_rings (by decide) (.cons H_rings (by decide) (.cons H_law_sums (by decide) (.cons H_slowest (by decide) (.cons H_slowest_rings (by decide) (.nil)))))))))) hb hc hX (by decide) H_rounds (He.glo_ok X G (c.fact 26 (f := .glo "_law_rounds") rfl)) F_law_rounds.kp (F_law_rounds.bindsN (fun _ _ _ _ _ _ us hl => match us, hl with | [_, _], _ => rfl)) told rfl (by decide) (by decide) k2 k3 k4 k5 pureLaw
end Lw
open PySem PySem.W PySem.Calls PyProof.Rows
theorem PySem.Challenge.cw_roundnets_k07_whole_rings_holds : PySem.Challenge.rw_roundnets_k07_whole_rings.Holds := by
  w_on; o_law
  refine HandSHeadRun.head_any (r := OpenLaw.row PySem.Challenge.rw_roundnets_k07_whole_rings) (q := view (OpenLaw.row PySem.Challenge.rw_roundnets_k07_whole_rings).prog [58]) (H := Lw.hk) (ob := Lw.ob) (M := 20000) (loose := Lw.names) (d := HandSHeadRun.topDef (OpenLaw.row PySem.Challenge.rw_roundnets_k07_whole_rings).prog 58) (kwd := []) Lw.ob_eq
    (by kernel_rfl) (fun s => by kernel_rfl) Lw.run (by kernel_rfl) (by kernel_rfl) (by kernel_rfl) (by rfl) (by first | assumption | decide +kernel) (by decide +kernel) ⟨rfl, rfl, rfl, rfl, rfl, by decide +kernel⟩ ?hw ?hc
  case hw => w_witness2
  case hc =>
    refine Co.walk_lawT (l := PySem.Challenge.rw_roundnets_k07_whole_rings) (n := 63) (k := 10) (x := "_law_script") rfl (by decide) (by kernel_rfl) ⟨rfl, by decide, by decide⟩ ?F
    intro w mg fa h Y G hmg0
    obtain ⟨K, KX, c⟩ := Y
    have hmg : mg ("law" : PySem.Str) = some (.ref fa) := by
      have e : (HandSHeadRun.topDef (OpenLaw.row PySem.Challenge.rw_roundnets_k07_whole_rings).prog 58).name = ("law" : PySem.Str) := by kernel_rfl
      rw [← e]
      exact hmg0
    obtain ⟨fd, hb, hF⟩ := Lw.facts (P := (PySem.Challenge.rw_roundnets_k07_whole_rings).prog) (w := w) KX G hmg c.t.d c.more
    exact ⟨K, fd, _, _, _, KX, hb, c.empty _ (List.mem_singleton.mpr rfl), c.out _ (List.mem_singleton.mpr rfl), c.hd _ (List.mem_singleton.mpr rfl), hF⟩

