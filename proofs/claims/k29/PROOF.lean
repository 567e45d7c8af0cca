import PyProof.Rows.All
import Wide.All
import OpenK.AllK
import Wide.FinOn
import PySem.Syntax
import HandS.Comp
import HandS.ForMost
import HandS.DictTup
import KE.KeyNested
import KE.KDictDisplayH
import KE.KDictCopyH
import PyProof.DictRoadsH
import HandS.ForExc
import HandS.IsInst
import HandS.Wide
import HandS.TryOnly
import HandS.ExcIs
import HandS.HotCalls
import HandS.TupAny
import HandS.HeadHook1
import HandS.More
import HandS.Lambda
import HandS.Flow
import Lean
import KE.KStateDown
import HandS.Defaults
import HandS.Head0
import HandS.Head1
import HandS.Head2
import HandS.HeadEnd
import HandS.HeadHook2
import HandS.HeadWalk
import KE.KNestM
import PySem.Challenge.RW_soundwell_k29_whole_unfolded_to_the_end
set_option Elab.async false
set_option linter.all false
set_option maxRecDepth 100000
set_option maxHeartbeats 0
section
set_option maxHeartbeats 1000000
namespace Ev
open PySem

/-! ## pure values -/
inductive PV where
  | non | bl (b : Bool) | int (i : Int) | str (x : List Nat)
  | tup (xs : List PV) | lst (xs : List PV) | dct (ks vs : List PV)
  | obj (c : String) (fs : List PV)
inductive Sl where
  | val (v : PV) | cell (n : Nat)
inductive Cell where
  | lst (xs : List PV) | dct (ks vs : List PV) | sdc (ks : List (List Nat)) (vs : List PV)
abbrev Store := List (Option Cell)
abbrev Lo := List (Option Sl)
structure Exn where
  cls : String
  pay : PV
inductive Out (α : Type) where
  | ok (a : α) (S : Store) | err (e : Exn) (S : Store) | stuck
def Out.bind {α β : Type} (o : Out α) (f : α → Store → Out β) : Out β := match o with
  | .ok a S => f a S
  | .err e S => .err e S
  | .stuck => .stuck
@[simp] theorem Out.bind_ok {α β : Type} (a : α) (S : Store) (f : α → Store → Out β) : (Out.ok a S).bind f = f a S := rfl
@[simp] theorem Out.bind_err {α β : Type} (e : Exn) (S : Store) (f : α → Store → Out β) : (Out.err e S : Out α).bind f = .err e S := rfl
@[simp] theorem Out.bind_stuck {α β : Type} (f : α → Store → Out β) : (Out.stuck : Out α).bind f = .stuck := rfl

/-! ## equality of data -/
mutual
def eqv : PV → PV → Bool
  | .non, .non => true
  | .bl a, .bl b => a == b
  | .bl a, .int j => (if a then 1 else 0) == j
  | .int i, .bl b => i == (if b then 1 else 0)
  | .int i, .int j => i == j
  | .str x, .str y => x == y
  | .lst xs, .lst ys => eqvs xs ys
  | .tup xs, .tup ys => eqvs xs ys
  | _, _ => false
def eqvs : List PV → List PV → Bool
  | [], [] => true
  | x :: xs, y :: ys => eqv x y && eqvs xs ys
  | _, _ => false
end
mutual
def dat : PV → Bool
  | .tup xs => dats xs
  | .lst xs => dats xs
  | .dct _ _ => false
  | .obj _ _ => false
  | _ => true
def dats : List PV → Bool
  | [] => true
  | x :: xs => dat x && dats xs
end
mutual
def pd : PV → Nat
  | .tup xs => pds xs + 1
  | .lst xs => pds xs + 1
  | _ => 0
def pds : List PV → Nat
  | [] => 0
  | x :: xs => max (pd x) (pds xs)
end
def okd (a b : PV) : Bool := dat a && dat b && (decide (pd a ≤ 150) || decide (pd b ≤ 150))

/-! ## dicts -/
mutual
/-- data that can be a key -/
def hsh : PV → Bool
  | .tup xs => hshs xs
  | .lst _ => false
  | .dct _ _ => false
  | .obj _ _ => false
  | _ => true
def hshs : List PV → Bool
  | [] => true
  | x :: xs => hsh x && hshs xs
end
def keyOk (p : PV) : Bool := match p with
  | .tup xs => hshs xs && decide (pds xs + 1 ≤ 8)
  | _ => false
def dgetP : List PV → List PV → PV → Option PV
  | k' :: ks, v :: vs, k => if eqv k' k then some v else dgetP ks vs k
  | _, _, _ => none
def dsetP : List PV → List PV → PV → PV → List PV
  | k' :: ks, v' :: vs, k, v => (if eqv k' k then v else v') :: dsetP ks vs k v
  | _, _, _, _ => []
/-- the dict behind d[k] = x -/
def dputP (ks xs : List PV) (k x : PV) : List PV × List PV := if (dgetP ks xs k).isSome then (ks, dsetP ks xs k x) else (ks ++ [k], xs ++ [x])
/-- neither a list nor a dict nor an object -/
def plainV : PV → Bool
  | .lst _ => false
  | .dct _ _ => false
  | .obj _ _ => false
  | _ => true
/-! ## objects, dicts of texts -/
/-- the fields of a class, in the order in which it is made -/
def fldNames : String → List String
  | "Sentence" => ["given", "claim"]
  | _ => []
def fldAt : List String → List PV → String → Option PV
  | n :: ns, v :: vs, f => if n = f then some v else fldAt ns vs f
  | _, _, _ => none
/-- isinstance of a class of the program's own -/
def isoP (c : String) : PV → Option Bool
  | .obj d _ => if d = c then some true else none
  | .dct _ _ => none
  | _ => some false
def sgetP : List (List Nat) → List PV → List Nat → Option PV
  | k :: ks, v :: vs, x => if k = x then some v else sgetP ks vs x
  | _, _, _ => none
def sputP (ks : List (List Nat)) (vs : List PV) (x : List Nat) (v : PV) : List (List Nat) × List PV := if (sgetP ks vs x).isSome then (ks, (ks.zip vs).map fun p => if p.1 = x then v else p.2) else (ks ++ [x], vs ++ [v])
/-- texts by their signs' numbers, a beginning ahead -/
def leS : List Nat → List Nat → Bool
  | [], _ => true
  | _ :: _, [] => false
  | a :: x, b :: y => if a < b then true else if b < a then false else leS x y
def insS (x : List Nat) : List (List Nat) → List (List Nat)
  | [] => [x]
  | y :: r => if leS x y then x :: y :: r else y :: insS x r
def sortP : List (List Nat) → List (List Nat)
  | [] => []
  | x :: r => insS x (sortP r)
/-! ## primitives -/
def lim : Nat := 16777216
def wid : Int := 1606938044258990275541962092341162602522202993782792835301376
def two64 : Int := 18446744073709551616
inductive BO where
  | add | sub | mul | fdiv | mod | pow | shl
  deriving DecidableEq
def BO.op : BO → Operator
  | .add => .Add | .sub => .Sub | .mul => .Mult | .fdiv => .FloorDiv | .mod => .Mod | .pow => .Pow | .shl => .LShift
inductive CO where
  | eq | ne | lt | le | gt | ge | isn | ntn | in_ | nin
  deriving DecidableEq
def CO.op : CO → CmpOp
  | .eq => .Eq | .ne => .NotEq | .lt => .Lt | .le => .LtE | .gt => .Gt | .ge => .GtE | .isn => .Is | .ntn => .IsNot | .in_ => .In | .nin => .NotIn
inductive Ty where
  | tuple | str | int | bool | list | dict
  deriving DecidableEq
def Ty.nm : Ty → String
  | .tuple => "tuple" | .str => "str" | .int => "int" | .bool => "bool" | .list => "list" | .dict => "dict"
inductive Prim where
  | bin (o : BO) | cmp (o : CO) | neg | tup | lst | sub | sl00 | sl01 | sl10
  | isi (t : Ty) | len | str | int | max2 | min2 | all | list | tuple | count | join | get2 | dict0
  deriving DecidableEq
def mulOk (i j : Int) : Bool := (decide (-two64 < i) && decide (i < two64)) || (decide (-two64 < j) && decide (j < two64)) || (decide (-wid < i) && decide (i < wid) && decide (-wid < j) && decide (j < wid))
def powOk (i j : Int) : Bool := decide (0 ≤ j) && decide (j ≤ 1000) && decide (-two64 < i) && decide (i < two64)
def binP : BO → PV → PV → Option PV
  | .add, .int i, .int j => some (.int (i + j))
  | .add, .str x, .str y => if x.length + y.length ≤ lim then some (.str (x ++ y)) else none
  | .add, .lst x, .lst y => if x.length + y.length ≤ lim then some (.lst (x ++ y)) else none
  | .add, .tup x, .tup y => if x.length + y.length ≤ lim then some (.tup (x ++ y)) else none
  | .sub, .int i, .int j => some (.int (i - j))
  | .mul, .int i, .int j => if mulOk i j then some (.int (i * j)) else none
  | .fdiv, .int i, .int j => if 0 < j ∧ j < wid then some (.int (i / j)) else none
  | .mod, .int i, .int j => if 0 < j then some (.int (i % j)) else none
  | .pow, .int i, .int j => if powOk i j then some (.int (i ^ j.toNat)) else none
  | .shl, .int i, .int j => if powOk i j then some (.int (i * 2 ^ j.toNat)) else none
  | _, _, _ => none
def isNon : PV → Bool
  | .non => true
  | _ => false
def cmpP : CO → PV → PV → Option Bool
  | .eq, a, b => if okd a b then some (eqv a b) else none
  | .ne, a, b => if okd a b then some (!eqv a b) else none
  | .lt, .int i, .int j => some (decide (i < j))
  | .le, .int i, .int j => some (decide (i ≤ j))
  | .gt, .int i, .int j => some (decide (j < i))
  | .ge, .int i, .int j => some (decide (j ≤ i))
  | .isn, a, .non => some (isNon a)
  | .ntn, a, .non => some (!isNon a)
  | .in_, a, .lst ys => if ys.all (fun y => okd y a) then some (ys.any fun y => eqv y a) else none
  | .in_, a, .tup ys => if ys.all (fun y => okd y a) then some (ys.any fun y => eqv y a) else none
  | .in_, .str [c], .str ys => some (decide (c ∈ ys))
  | .nin, a, .lst ys => if ys.all (fun y => okd y a) then some (!ys.any fun y => eqv y a) else none
  | .nin, a, .tup ys => if ys.all (fun y => okd y a) then some (!ys.any fun y => eqv y a) else none
  | .nin, .str [c], .str ys => some (!decide (c ∈ ys))
  | _, _, _ => none
/-- the place that an index means -/
def ixp (n : Nat) (i : Int) : Option Nat := if 0 ≤ i then (if i < n then some i.toNat else none) else if -(n : Int) ≤ i then some (i + n).toNat else none
def atp {α : Type} (xs : List α) (i : Int) : Option α := (ixp xs.length i).bind fun j => xs[j]?
def subP : PV → PV → Option PV
  | .tup xs, .int i => atp xs i
  | .lst xs, .int i => atp xs i
  | .str x, .int i => if x.length ≤ lim then (atp x i).map fun c => .str [c] else none
  | .dct ks vs, k => if keyOk k then dgetP ks vs k else none
  | _, _ => none
def cl (n : Nat) (i : Int) : Nat := if i < 0 then (i + n).toNat else min i.toNat n
def cutp {α : Type} (xs : List α) (lo hi : Nat) : List α := (xs.drop lo).take (hi - lo)
def slP : PV → Option Int → Option Int → Option PV
  | .str x, lo, hi => if x.length ≤ lim then some (.str (cutp x ((lo.map (cl x.length)).getD 0) ((hi.map (cl x.length)).getD x.length))) else none
  | .lst x, lo, hi => some (.lst (cutp x ((lo.map (cl x.length)).getD 0) ((hi.map (cl x.length)).getD x.length)))
  | .tup x, lo, hi => some (.tup (cutp x ((lo.map (cl x.length)).getD 0) ((hi.map (cl x.length)).getD x.length)))
  | _, _, _ => none
def isiP : Ty → PV → Option Bool
  | t, .non => some false
  | t, .bl _ => some (t == .bool || t == .int)
  | t, .int _ => some (t == .int)
  | t, .str _ => some (t == .str)
  | t, .tup _ => some (t == .tuple)
  | t, .lst _ => some (t == .list)
  | _, _ => none
def numText (i : Int) : List Nat := (Str.ofString (toString i)).cps.toList
def truth : PV → Option Bool
  | .non => some false
  | .bl b => some b
  | .int i => some (i != 0)
  | .str x => if x.length ≤ lim then some (!x.isEmpty) else none
  | .tup xs => some (!xs.isEmpty)
  | .lst xs => some (!xs.isEmpty)
  | _ => none
def allTrue : List PV → Option Bool
  | [] => some true
  | .bl b :: r => (allTrue r).map fun c => b && c
  | _ => none
def strsOf : List PV → Option (List (List Nat))
  | [] => some []
  | .str x :: r => (strsOf r).map (x :: ·)
  | _ => none
def joinp (sep : List Nat) : List (List Nat) → List Nat
  | [] => []
  | [x] => x
  | x :: y :: r => x ++ sep ++ joinp sep (y :: r)
def on1 (f : PV → Option PV) : List PV → Option PV
  | [a] => f a
  | _ => none
def on2 (f : PV → PV → Option PV) : List PV → Option PV
  | [a, b] => f a b
  | _ => none
def negP : PV → Option PV
  | .int i => some (.int (-i))
  | _ => none
def sl01P (a : PV) : PV → Option PV
  | .int j => slP a none (some j)
  | _ => none
def sl10P (a : PV) : PV → Option PV
  | .int i => slP a (some i) none
  | _ => none
def lenP : PV → Option PV
  | .str x => if x.length ≤ lim then some (.int x.length) else none
  | .tup x => some (.int x.length)
  | .lst x => some (.int x.length)
  | .dct ks _ => some (.int ks.length)
  | _ => none
def strP : PV → Option PV
  | .int i => if -wid < i ∧ i < wid then some (.str (numText i)) else none
  | _ => none
/-- what figures write -/
def digVal (x : List Nat) : Nat := x.foldl (fun a c => a * 10 + (c - 48)) 0
def intP : PV → Option PV
  | .int i => some (.int i)
  | .bl b => some (.int (if b then 1 else 0))
  | .str x => if (x.all fun c => decide (48 ≤ c) && decide (c ≤ 57)) = true ∧ x ≠ [] ∧ x.length ≤ 600 then some (.int (digVal x)) else none
  | _ => none
def maxP : PV → PV → Option PV
  | .int i, .int j => some (.int (if j > i then j else i))
  | _, _ => none
def minP : PV → PV → Option PV
  | .int i, .int j => some (.int (if j < i then j else i))
  | _, _ => none
def allP : PV → Option PV
  | .lst xs => (allTrue xs).map .bl
  | _ => none
def listP : PV → Option PV
  | .lst xs => some (.lst xs)
  | .tup xs => some (.lst xs)
  | .str x => if x.length ≤ lim then some (.lst (x.map fun c => .str [c])) else none
  | _ => none
def tupleP : PV → Option PV
  | .lst xs => some (.tup xs)
  | .tup xs => some (.tup xs)
  | _ => none
def countP (l a : PV) : Option PV := match l with
  | .lst xs => if xs.all (fun y => okd y a) then some (.int (xs.countP fun y => eqv y a)) else none
  | _ => none
def joinP : PV → PV → Option PV
  | .str sep, .lst xs => (strsOf xs).bind fun ys => if (joinp sep ys).length + sep.length ≤ lim then some (.str (joinp sep ys)) else none
  | _, _ => none
def get2P : List PV → Option PV
  | [.dct ks vs, k, d] => if keyOk k && plainV d then some ((dgetP ks vs k).getD d) else none
  | _ => none
def dict0P : List PV → Option PV
  | [] => some (.dct [] [])
  | _ => none
def primP : Prim → List PV → Option PV
  | .bin o => on2 (binP o)
  | .cmp o => on2 fun a b => (cmpP o a b).map .bl
  | .neg => on1 negP
  | .tup => fun xs => if xs.length ≤ lim then some (.tup xs) else none
  | .lst => fun xs => if xs.length ≤ lim then some (.lst xs) else none
  | .sub => on2 subP
  | .sl00 => on1 fun a => slP a none none
  | .sl01 => on2 sl01P
  | .sl10 => on2 sl10P
  | .isi t => on1 fun a => (isiP t a).map .bl
  | .len => on1 lenP
  | .str => on1 strP
  | .int => on1 intP
  | .max2 => on2 maxP
  | .min2 => on2 minP
  | .all => on1 allP
  | .list => on1 listP
  | .tuple => on1 tupleP
  | .count => on2 countP
  | .join => on2 joinP
  | .get2 => get2P
  | .dict0 => dict0P
/-- those that may look into a cell -/
def borrows : Prim → Bool
  | .sub | .len | .list | .join | .isi _ | .cmp .eq | .cmp .ne | .get2 => true
  | _ => false
/-- those that need a calm context -/
def calmP : Prim → Bool
  | .max2 | .min2 | .all | .list | .tuple | .join => true
  | _ => false

/-! ## the core language -/
mutual
inductive CE where
  | var (i : Nat) | gl (x : String) | int (i : Int) | str (x : List Nat) | bl (b : Bool) | non
  | prim (p : Prim) (es : List CE)
  | meth (p : Prim) (o : CE) (es : List CE)
  | sl11 (a i j : CE)
  | and_ (es : List CE) | or_ (es : List CE) | not_ (e : CE) | ife (c a b : CE)
  | cmp2 (o o' : CO) (a b c : CE)
  | call (f : String) (es : List CE)
  | lc (i : Nat) (it : IT) (elt : CE) (cnd : List CE)
  | mv (i : Nat)
  | hot (f : String) (i : Nat)
  | isE (i : Nat) (c : String)
  | lrep (es : List CE) (n : Nat)
  | dlit (k v : CE)
  | mk (c : String) (es : List CE)
  | fld (e : CE) (c f : String)
  | isO (e : CE) (c : String)
  | subS (i : Nat) (k : CE)
  | sortS (i : Nat)
  | lrepN (es : List CE) (e : CE)
  | lam (f : String) (b : CE)
inductive IT where
  | seq (e : CE) | range (es : List CE) | rev (e : CE)
end
inductive CS where
  | asg (i : Nat) (e : CE) | asgT (is : List Nat) (e : CE) | new (i : Nat) (e : CE)
  | expr (e : CE) | ret (e : CE)
  | ifs (c : CE) (t e : List CS)
  | for_ (i : Nat) (it : IT) (b : List CS)
  | whl (c : CE) (b : List CS)
  | raise (c : String) (m : List Nat)
  | app (i : Nat) (e : CE) | sto (i : Nat) (k e : CE)
  | newS (i : Nat) | stoS (i : Nat) (k e : CE) | forT (is : List Nat) (it : IT) (b : List CS)
  | try_ (b : List CS) (c : String) (x : Option Nat) (s : List CS)
  | cont | brk | pass
  | frz (s : CS) (i : Nat)
structure Def where
  nm : List String
  np : Nat
  body : List CS

/-! ## the evaluator -/
def deref (S : Store) : Sl → Option PV
  | .val v => some v
  | .cell n => match S[n]? with
    | some (some (.lst xs)) => some (.lst xs)
    | some (some (.dct ks vs)) => some (.dct ks vs)
    | _ => none
def valOf : Sl → Option PV
  | .val v => some v
  | .cell _ => none
def mapO {α β : Type} (f : α → Option β) : List α → Option (List β)
  | [] => some []
  | a :: r => match f a with
    | some b => (mapO f r).map (b :: ·)
    | none => none
/-- what a method's receiver has to be -/
def recv : Prim → PV → Bool
  | .count, .lst _ => true
  | .join, .str _ => true
  | .get2, .dct _ _ => true
  | _, _ => false
def recvOk (p : Prim) (s : Sl) (S : Store) : Bool := match (if borrows p then deref S s else valOf s) with
  | some v => recv p v
  | none => false
def intOf : Sl → Option Int
  | .val (.int i) => some i
  | _ => none
/-- run a primitive on what its parts came to -/
def primGo (p : Prim) (sls : List Sl) (S : Store) : Out Sl :=
  match (if borrows p then mapO (deref S) sls else mapO valOf sls) with
    | some pvs => (match primP p pvs with
      | some v => .ok (.val v) S
      | none => .stuck)
    | none => .stuck
def liftV (o : Option PV) (S : Store) : Out Sl := match o with
  | some v => .ok (.val v) S
  | none => .stuck
def rangeList (lo : Int) (n : Nat) : List PV := (List.range n).map fun (k : Nat) => PV.int (lo + (k : Int))
def small (i : Int) : Bool := decide (-1000000000 ≤ i) && decide (i ≤ 1000000000)
def rangeP : List PV → Option (List PV)
  | [.int j] => if small j then some (rangeList 0 j.toNat) else none
  | [.int i, .int j] => if small i && small j then some (rangeList i (j - i).toNat) else none
  | [.int i, .int j, .int (-1)] => if small i && small j then some ((List.range (i - j).toNat).map fun (k : Nat) => PV.int (i - (k : Int))) else none
  | [.int i, .int j, .int 2] => if small i && small j then some ((List.range ((j - i + 1) / 2).toNat).map fun (k : Nat) => PV.int (i + (k : Int) * 2)) else none
  | _ => none
def itemsP : PV → Option (List PV)
  | .lst xs => some xs
  | .tup xs => some xs
  | .str x => if x.length ≤ lim then some (x.map fun c => .str [c]) else none
  | _ => none
/-- the turns of a comprehension -/
def lcGo (f : PV → Store → Out Sl) (c : PV → Store → Out Bool) : List PV → List PV → Store → Out Sl
  | [], acc, S => .ok (.val (.lst acc)) S
  | x :: r, acc, S => match c x S with
    | .ok b S1 => if b then (if acc.length < lim then (match f x S1 with
        | .ok (.val v) S2 => lcGo f c r (acc ++ [v]) S2
        | _ => .stuck) else .stuck) else lcGo f c r acc S1
    | _ => .stuck
abbrev CallF := String → List Sl → Store → Out PV
/-- what is around: whether the context is calm; the class of the exception at hand; what defs come to; the module's constants; what a def of the exception at hand comes to -/
structure Cfg where
  cm : Bool
  hx : Option (String × Nat)
  C : CallF
  G : String → Option PV
  hv : String → String → Option PV
  sub : String → String → Bool
  has : String → Bool
  xc : String → Bool
  xh : String → Bool
  isx : String → String → Option Bool
  nw : Bool
  CN : CallF
  cls : String → Bool
  lam : String → (Store → Out PV) → Store → Out PV
  CL : CallF
  CLN : CallF
/-- what is around in a lambda's body: two frames deeper -/
def Cfg.low (g : Cfg) : Cfg := { g with hx := none, C := g.CL, CN := g.CLN, nw := false, lam := fun _ _ _ => .stuck }
def valGo (s : Sl) (S : Store) : Out PV := match s with
  | .val v => .ok v S
  | .cell _ => .stuck
def okOnly (o : Out PV) : Out Sl := match o with
  | .ok v S => .ok (.val v) S
  | _ => .stuck
def look (σ : Lo) (i : Nat) (S : Store) : Out Sl := match σ[i]? with
  | some (some s) => .ok s S
  | _ => .stuck
def move (σ : Lo) (i : Nat) (S : Store) : Out Sl := match σ[i]? with
  | some (some (.cell n)) => (match S[n]? with
    | some (some (.lst xs)) => .ok (.val (.lst xs)) (S.set n none)
    | some (some (.dct ks vs)) => .ok (.val (.dct ks vs)) (S.set n none)
    | _ => .stuck)
  | _ => .stuck
def truthOf (s : Sl) (S : Store) : Out Bool := match s with
  | .val v => (match truth v with
    | some b => .ok b S
    | none => .stuck)
  | .cell _ => .stuck
def dlitGo (s t : Sl) (S : Store) : Out Sl := match s, t with
  | .val a, .val b => if keyOk a then .ok (.val (.dct [a] [b])) S else .stuck
  | _, _ => .stuck
def cmpGo (o : CO) (a b : Sl) (S : Store) : Out Bool := match a, b with
  | .val x, .val y => (match cmpP o x y with
    | some r => .ok r S
    | none => .stuck)
  | _, _ => .stuck
def mkGo (c : String) (sls : List Sl) (S : Store) : Out Sl := match mapO valOf sls with
  | some vs => if vs.length = (fldNames c).length then .ok (.val (.obj c vs)) S else .stuck
  | none => .stuck
def fldGo (c f : String) (s : Sl) (S : Store) : Out Sl := match s with
  | .val (.obj d vs) => if d = c then liftV (fldAt (fldNames c) vs f) S else .stuck
  | _ => .stuck
def isoGo (c : String) (s : Sl) (S : Store) : Out Sl := match s with
  | .val v => liftV ((isoP c v).map .bl) S
  | .cell _ => .stuck
def cellAt (σ : Lo) (i : Nat) : Option Nat := match σ[i]? with
  | some (some (.cell n)) => some n
  | _ => none
def subSGo (n : Nat) (s : Sl) (S : Store) : Out Sl := match s, S[n]? with
  | .val (.str x), some (some (.sdc ks vs)) => liftV (sgetP ks vs x) S
  | _, _ => .stuck
def sortSGo (n : Nat) (S : Store) : Out Sl := match S[n]? with
  | some (some (.sdc ks vs)) => if ks.length < 64 then .ok (.val (.lst ((sortP ks).map .str))) S else .stuck
  | _ => .stuck
def lrepGo (xs : List PV) (s : Sl) (S : Store) : Out Sl := match s with
  | .val (.int j) => if xs.length * j.toNat ≤ lim ∧ 0 ≤ j ∧ j ≤ 1000000 then .ok (.val (.lst (List.replicate j.toNat xs).flatten)) S else .stuck
  | _ => .stuck
mutual
def ev (g : Cfg) : CE → Lo → Store → Out Sl
  | .var i, σ, S => look σ i S
  | .gl x, _, S => liftV (g.G x) S
  | .int i, _, S => .ok (.val (.int i)) S
  | .str x, _, S => .ok (.val (.str x)) S
  | .bl b, _, S => .ok (.val (.bl b)) S
  | .non, _, S => .ok (.val .non) S
  | .prim p es, σ, S => if !g.cm && calmP p then .stuck else (evs g es σ S).bind fun sls S1 => primGo p sls S1
  | .meth p o es, σ, S => if !g.cm && calmP p then .stuck else (ev g o σ S).bind fun s S1 => if recvOk p s S1 then (evs g es σ S1).bind fun sls S2 => primGo p (s :: sls) S2 else .stuck
  | .sl11 a i j, σ, S => (ev g a σ S).bind fun s S1 => (ev g i σ S1).bind fun x S2 => match intOf x with
    | some lo => (ev g j σ S2).bind fun y S3 => (match intOf y, valOf s with
      | some hi, some v => liftV (slP v (some lo) (some hi)) S3
      | _, _ => .stuck)
    | none => .stuck
  | .and_ es, σ, S => evAnd g es σ S
  | .or_ es, σ, S => evOr g es σ S
  | .not_ e, σ, S => (ev g e σ S).bind fun s S1 => match s with
    | .val (.bl b) => .ok (.val (.bl (!b))) S1
    | _ => .stuck
  | .ife c a b, σ, S => (ev g c σ S).bind fun s S1 => (truthOf s S1).bind fun t S2 => if t then ev g a σ S2 else ev g b σ S2
  | .cmp2 o o' a b c, σ, S => (ev g a σ S).bind fun x S1 => (ev g b σ S1).bind fun y S2 => (cmpGo o x y S2).bind fun t S3 =>
      if t then (ev g c σ S3).bind fun z S4 => (cmpGo o' y z S4).bind fun t' S5 => .ok (.val (.bl t')) S5 else .ok (.val (.bl false)) S3
  | .call f es, σ, S => if g.cm && g.has f then (evs g es σ S).bind fun sls S1 => (g.C f sls S1).bind fun v S2 => .ok (.val v) S2 else .stuck
  | .lc i it elt cnd, σ, S => if g.cm then (evIt g it σ S).bind fun xs S1 => lcGo (fun x S2 => ev g elt (σ.set i (some (.val x))) S2)
      (fun x S2 => evTs g cnd (σ.set i (some (.val x))) S2) xs [] S1 else .stuck
  | .mv i, σ, S => move σ i S
  | .hot f i, _, S => (match g.hx with
    | some c => if c.2 = i then liftV (g.hv f c.1) S else .stuck
    | none => .stuck)
  | .isE i d, _, S => (match g.hx with
    | some c => if c.2 = i then liftV ((g.isx c.1 d).map .bl) S else .stuck
    | none => .stuck)
  | .lrep es n, σ, S => (evs g es σ S).bind fun sls S1 => (match mapO valOf sls with
    | some xs => if xs.length ≤ lim ∧ xs.length * n ≤ lim ∧ n ≤ 1000000 then .ok (.val (.lst (List.replicate n xs).flatten)) S1 else .stuck
    | none => .stuck)
  | .dlit k v, σ, S => (match ev g k σ S with
    | .ok s S1 => (match ev g v σ S1 with
      | .ok t S2 => dlitGo s t S2
      | _ => .stuck)
    | _ => .stuck)
  | .mk c es, σ, S => if g.cm && g.cls c then (evs g es σ S).bind fun sls S1 => mkGo c sls S1 else .stuck
  | .fld e c f, σ, S => if g.cls c then (ev g e σ S).bind fun s S1 => fldGo c f s S1 else .stuck
  | .isO e c, σ, S => if g.cls c then (ev g e σ S).bind fun s S1 => isoGo c s S1 else .stuck
  | .subS i k, σ, S => (match cellAt σ i with
    | some n => (ev g k σ S).bind fun s S1 => subSGo n s S1
    | none => .stuck)
  | .sortS i, σ, S => (match cellAt σ i with
    | some n => if g.cm then sortSGo n S else .stuck
    | none => .stuck)
  | .lrepN es e, σ, S => (evs g es σ S).bind fun sls S1 => (match mapO valOf sls with
    | some xs => if xs.length ≤ lim then (ev g e σ S1).bind fun s S2 => lrepGo xs s S2 else .stuck
    | none => .stuck)
  | .lam f b, σ, S => if g.cm then okOnly (g.lam f (fun S1 => (ev g.low b σ S1).bind valGo) S) else .stuck
def evs (g : Cfg) : List CE → Lo → Store → Out (List Sl)
  | [], _, S => .ok [] S
  | e :: r, σ, S => (ev g e σ S).bind fun s S1 => (evs g r σ S1).bind fun t S2 => .ok (s :: t) S2
/-- all but the last are truths -/
def evAnd (g : Cfg) : List CE → Lo → Store → Out Sl
  | [], _, _ => .stuck
  | [e], σ, S => ev g e σ S
  | e :: e' :: r, σ, S => (ev g e σ S).bind fun s S1 => match s with
    | .val (.bl b) => if b then evAnd g (e' :: r) σ S1 else .ok (.val (.bl false)) S1
    | _ => .stuck
def evOr (g : Cfg) : List CE → Lo → Store → Out Sl
  | [], _, _ => .stuck
  | [e], σ, S => ev g e σ S
  | e :: e' :: r, σ, S => (ev g e σ S).bind fun s S1 => match s with
    | .val (.bl b) => if b then .ok (.val (.bl true)) S1 else evOr g (e' :: r) σ S1
    | _ => .stuck
def evTs (g : Cfg) : List CE → Lo → Store → Out Bool
  | [], _, S => .ok true S
  | [e], σ, S => (ev g e σ S).bind fun s S1 => truthOf s S1
  | _, _, _ => .stuck
def evIt (g : Cfg) : IT → Lo → Store → Out (List PV)
  | .seq e, σ, S => (ev g e σ S).bind fun s S1 => match s with
    | .val v => (match itemsP v with
      | some xs => .ok xs S1
      | none => .stuck)
    | .cell _ => .stuck
  | .range es, σ, S => (evs g es σ S).bind fun sls S1 => match mapO valOf sls with
    | some pvs => (match rangeP pvs with
      | some xs => .ok xs S1
      | none => .stuck)
    | none => .stuck
  | .rev e, σ, S => (ev g e σ S).bind fun s S1 => match s with
    | .val (.lst xs) => .ok xs.reverse S1
    | _ => .stuck
end

/-! ## statements -/
inductive SO where
  | next (σ : Lo) (S : Store) | ret (v : PV) (S : Store) | brk (σ : Lo) (S : Store) | cont (σ : Lo) (S : Store)
  | err (e : Exn) (σ : Lo) (S : Store) | stuck
/-- an expression's outcome goes on -/
def Out.thn {α : Type} (o : Out α) (σ : Lo) (f : α → Store → SO) : SO := match o with
  | .ok a S => f a S
  | .err e S => .err e σ S
  | .stuck => .stuck
@[simp] theorem Out.thn_ok {α : Type} (a : α) (S : Store) (σ : Lo) (f : α → Store → SO) : (Out.ok a S).thn σ f = f a S := rfl
@[simp] theorem Out.thn_err {α : Type} (e : Exn) (S : Store) (σ : Lo) (f : α → Store → SO) : (Out.err e S : Out α).thn σ f = .err e σ S := rfl
@[simp] theorem Out.thn_stuck {α : Type} (σ : Lo) (f : α → Store → SO) : (Out.stuck : Out α).thn σ f = .stuck := rfl
def SO.seq (o : SO) (f : Lo → Store → SO) : SO := match o with
  | .next σ S => f σ S
  | o => o
@[simp] theorem SO.seq_next (σ : Lo) (S : Store) (f : Lo → Store → SO) : (SO.next σ S).seq f = f σ S := rfl
@[simp] theorem SO.seq_ret (v : PV) (S : Store) (f : Lo → Store → SO) : (SO.ret v S).seq f = .ret v S := rfl
@[simp] theorem SO.seq_brk (σ : Lo) (S : Store) (f : Lo → Store → SO) : (SO.brk σ S).seq f = .brk σ S := rfl
@[simp] theorem SO.seq_cont (σ : Lo) (S : Store) (f : Lo → Store → SO) : (SO.cont σ S).seq f = .cont σ S := rfl
@[simp] theorem SO.seq_err (e : Exn) (σ : Lo) (S : Store) (f : Lo → Store → SO) : (SO.err e σ S).seq f = .err e σ S := rfl
@[simp] theorem SO.seq_stuck (f : Lo → Store → SO) : SO.stuck.seq f = .stuck := rfl
/-- a turn's outcome, then the rest of the loop -/
def SO.turn (o : SO) (f : Lo → Store → SO) : SO := match o with
  | .next σ S => f σ S
  | .cont σ S => f σ S
  | .brk σ S => .next σ S
  | o => o
@[simp] theorem SO.turn_next (σ : Lo) (S : Store) (f : Lo → Store → SO) : (SO.next σ S).turn f = f σ S := rfl
@[simp] theorem SO.turn_cont (σ : Lo) (S : Store) (f : Lo → Store → SO) : (SO.cont σ S).turn f = f σ S := rfl
@[simp] theorem SO.turn_brk (σ : Lo) (S : Store) (f : Lo → Store → SO) : (SO.brk σ S).turn f = .next σ S := rfl
@[simp] theorem SO.turn_ret (v : PV) (S : Store) (f : Lo → Store → SO) : (SO.ret v S).turn f = .ret v S := rfl
@[simp] theorem SO.turn_err (e : Exn) (σ : Lo) (S : Store) (f : Lo → Store → SO) : (SO.err e σ S).turn f = .err e σ S := rfl
@[simp] theorem SO.turn_stuck (f : Lo → Store → SO) : SO.stuck.turn f = .stuck := rfl
def forGo (i : Nat) (b : Lo → Store → SO) : List PV → Lo → Store → SO
  | [], σ, S => .next σ S
  | x :: r, σ, S => (b (σ.set i (some (.val x))) S).turn fun σ' S' => forGo i b r σ' S'
def setAll (σ : Lo) : List Nat → List PV → Option Lo
  | [], [] => some σ
  | i :: is, x :: xs => setAll (σ.set i (some (.val x))) is xs
  | _, _ => none
def forTGo (is : List Nat) (b : Lo → Store → SO) : List PV → Lo → Store → SO
  | [], σ, S => .next σ S
  | x :: r, σ, S => match x with
    | .tup ps => (match setAll σ is ps with
      | some σ1 => (b σ1 S).turn fun σ' S' => forTGo is b r σ' S'
      | none => .stuck)
    | _ => .stuck
def whGo (c : Lo → Store → Out Bool) (b : Lo → Store → SO) : Nat → Lo → Store → SO
  | 0, _, _ => .stuck
  | n + 1, σ, S => (c σ S).thn σ fun t S1 => if t then (b σ S1).turn fun σ' S' => whGo c b n σ' S' else .next σ S1
def turns : Nat := 1000000
def cellOf : PV → Option Cell
  | .lst xs => some (.lst xs)
  | .dct ks vs => some (.dct ks vs)
  | _ => none
def appGo (σ : Lo) (i : Nat) (v : PV) (S : Store) : SO := match σ[i]? with
  | some (some (.cell n)) => (match S[n]? with
    | some (some (.lst xs)) => if xs.length < lim then .next σ (S.set n (some (.lst (xs ++ [v])))) else .stuck
    | _ => .stuck)
  | _ => .stuck
def liveL (σ : Lo) (i : Nat) (S : Store) : Bool := match σ[i]? with
  | some (some (.cell n)) => (match S[n]? with
    | some (some (.lst _)) => true
    | _ => false)
  | _ => false
def liveD (σ : Lo) (i : Nat) (S : Store) : Bool := match σ[i]? with
  | some (some (.cell n)) => (match S[n]? with
    | some (some (.dct _ _)) => true
    | _ => false)
  | _ => false
/-- d[t] = s -/
def stoGo (σ : Lo) (i : Nat) (t s : Sl) (S : Store) : SO := match σ[i]?, t, s with
  | some (some (.cell n)), .val k, .val v => (match S[n]? with
    | some (some (.dct ks xs)) => if keyOk k && decide (ks.length < lim) then .next σ (S.set n (some (.dct (dputP ks xs k v).1 (dputP ks xs k v).2))) else .stuck
    | _ => .stuck)
  | _, _, _ => .stuck
def liveSd (σ : Lo) (i : Nat) (S : Store) : Bool := match σ[i]? with
  | some (some (.cell n)) => (match S[n]? with
    | some (some (.sdc _ _)) => true
    | _ => false)
  | _ => false
/-- d[t] = s, t a text -/
def stoSGo (σ : Lo) (i : Nat) (t s : Sl) (S : Store) : SO := match σ[i]?, t, s with
  | some (some (.cell n)), .val (.str x), .val v => (match S[n]? with
    | some (some (.sdc ks xs)) => if ks.length < lim then .next σ (S.set n (some (.sdc (sputP ks xs x v).1 (sputP ks xs x v).2))) else .stuck
    | _ => .stuck)
  | _, _, _ => .stuck
/-- forms that make a new object -/
def frE : CE → Bool
  | .prim .lst _ => true
  | .prim (.bin .add) _ => true
  | .lc _ _ _ _ => true
  | .prim .dict0 _ => true
  | .dlit _ _ => true
  | _ => false
/-- a new list or dict alone -/
def lstOnly : Out Sl → Out Sl
  | .ok (.val (.lst xs)) S => .ok (.val (.lst xs)) S
  | .ok (.val (.dct ks xs)) S => .ok (.val (.dct ks xs)) S
  | .err e S => .err e S
  | _ => .stuck
/-- an expression that makes a new list; a call is run so that what it returns is new -/
def evN (g : Cfg) (e : CE) (σ : Lo) (S : Store) : Out Sl := match e with
  | .call f es => if g.cm && g.has f then (evs g es σ S).bind fun sls S1 => lstOnly ((g.CN f sls S1).bind fun v S2 => .ok (.val v) S2) else .stuck
  | e => if frE e then lstOnly (ev g e σ S) else .stuck
def unset (σ : Lo) : Option Nat → Lo
  | some i => σ.set i none
  | none => σ
/-- a list in a cell that is not written any more -/
def frzGo (i : Nat) (σ : Lo) (S : Store) : SO := match σ[i]? with
  | some (some (.cell n)) => (match S[n]? with
    | some (some (.lst xs)) => .next (σ.set i (some (.val (.lst xs)))) (S.set n none)
    | _ => .stuck)
  | _ => .stuck
mutual
def ex (g : Cfg) : CS → Lo → Store → SO
  | .asg i e, σ, S => if g.hx.any (fun c => c.2 == i) then .stuck else (ev g e σ S).thn σ fun s S1 => .next (σ.set i (some s)) S1
  | .asgT is e, σ, S => if g.cm then (ev g e σ S).thn σ fun s S1 => (match s with
    | .val (.tup xs) => (match setAll σ is xs with
      | some σ' => .next σ' S1
      | none => .stuck)
    | _ => .stuck) else .stuck
  | .new i e, σ, S => if g.hx.isSome then .stuck else (evN g e σ S).thn σ fun s S1 => (match s with
    | .val v => (match cellOf v with
      | some c => .next (σ.set i (some (.cell S1.length))) (S1 ++ [some c])
      | none => .stuck)
    | .cell _ => .stuck)
  | .expr e, σ, S => (ev g e σ S).thn σ fun _ S1 => .next σ S1
  | .ret e, σ, S => (if g.nw then evN g e σ S else ev g e σ S).thn σ fun s S1 => (match s with
    | .val v => .ret v S1
    | .cell _ => .stuck)
  | .ifs c t e, σ, S => ((ev g c σ S).bind fun s S1 => truthOf s S1).thn σ fun b S1 => if b then exs g t σ S1 else exs g e σ S1
  | .for_ i it b, σ, S => if g.cm then (evIt g it σ S).thn σ fun xs S1 => forGo i (fun σ' S' => exs g b σ' S') xs σ S1 else .stuck
  | .whl c b, σ, S => if g.cm then whGo (fun σ' S' => (ev g c σ' S').bind fun s S1 => truthOf s S1) (fun σ' S' => exs g b σ' S') turns σ S else .stuck
  | .raise c m, σ, S => if g.cm && g.xc c then .err ⟨c, .non⟩ σ S else .stuck
  | .app i e, σ, S => if liveL σ i S then (ev g e σ S).thn σ fun s S1 => (match s with
    | .val v => appGo σ i v S1
    | .cell _ => .stuck) else .stuck
  | .sto i k e, σ, S => (ev g e σ S).thn σ fun s S1 => if liveD σ i S1 then (ev g k σ S1).thn σ fun t S2 => stoGo σ i t s S2 else .stuck
  | .newS i, σ, S => if g.hx.isSome then .stuck else .next (σ.set i (some (.cell S.length))) (S ++ [some (.sdc [] [])])
  | .stoS i k e, σ, S => (ev g e σ S).thn σ fun s S1 => if liveSd σ i S1 then (ev g k σ S1).thn σ fun t S2 => stoSGo σ i t s S2 else .stuck
  | .forT is it b, σ, S => if g.cm then (evIt g it σ S).thn σ fun xs S1 => forTGo is (fun σ' S' => exs g b σ' S') xs σ S1 else .stuck
  | .try_ b c x s, σ, S => if g.cm && g.xh c then (match exs g b σ S with
    | .err e σ' S' => if !g.xc e.cls then .stuck else if g.sub e.cls c then (match exs { g with cm := false, hx := x.map fun i => (e.cls, i) } s (unset σ' x) S' with
        | .next σ2 S2 => .next (unset σ2 x) S2
        | .ret v S2 => .ret v S2
        | _ => .stuck) else .err e σ' S'
    | o => o) else .stuck
  | .cont, σ, S => .cont σ S
  | .brk, σ, S => .brk σ S
  | .pass, σ, S => .next σ S
  | .frz s i, σ, S => (ex g s σ S).seq fun σ' S' => frzGo i σ' S'
def exs (g : Cfg) : List CS → Lo → Store → SO
  | [], σ, S => .next σ S
  | s :: r, σ, S => (ex g s σ S).seq fun σ' S' => exs g r σ' S'
end

/-! ## defs -/
/-- a def that tries what it is handed: its names, whether it returns what comes, the class that it takes, the exception's slot, the suite, what stands behind -/
structure LDef where
  nm : List String
  ret : Bool
  cls : String
  x : Nat
  suite : List CS
  rest : List CS
structure Prog where
  D : String → Option Def
  HD : String → Option Def
  G : String → Option PV
  sub : String → String → Bool
  xc : String → Bool
  xh : String → Bool
  isx : String → String → Option Bool
  cls : String → Bool
  LD : String → Option LDef
def begins (d : Def) (as : List Sl) : Lo := as.map some ++ List.replicate (d.nm.length - d.np) none
def ends (n : Nat) : SO → Out PV
  | .ret v S => .ok v (S.take n)
  | .next _ S => .ok .non (S.take n)
  | .err e _ S => .err e (S.take n)
  | _ => .stuck
def flat : PV → Bool
  | .non | .bl _ | .int _ | .str _ => true
  | _ => false
/-- what is around in a def that is handed the exception at hand, of the class c -/
def hotG (P : Prog) (c : String) : Cfg := ⟨false, some (c, 0), fun _ _ _ => .stuck, P.G, fun _ _ => none, P.sub, fun _ => false, P.xc, P.xh, P.isx, false, fun _ _ _ => .stuck, P.cls, fun _ _ _ => .stuck, fun _ _ _ => .stuck, fun _ _ _ => .stuck⟩
/-- what such a def comes to -/
def hotV (P : Prog) (f c : String) : Option PV := match P.HD f with
  | some d => if d.np = 1 then (match exs (hotG P c) d.body (List.replicate d.nm.length none) [] with
    | .ret v _ => if flat v then some v else none
    | _ => none) else none
  | none => none
/-- what falls off a def's end, or returns; a def that is to return a new list does not fall off its end -/
def endsB (b : Bool) (n : Nat) (o : SO) : Out PV := match b, o with
  | true, .next _ _ => .stuck
  | _, o => ends n o
/-- what is around in a def that is handed a lambda -/
def lamG (P : Prog) : Cfg := ⟨true, none, fun _ _ _ => .stuck, P.G, hotV P, P.sub, fun _ => false, P.xc, P.xh, P.isx, false, fun _ _ _ => .stuck, P.cls, fun _ _ _ => .stuck, fun _ _ _ => .stuck, fun _ _ _ => .stuck⟩
def retOnly (n : Nat) : SO → Out PV
  | .ret v S => .ok v (S.take n)
  | _ => .stuck
def lamB (P : Prog) (f : String) (F : Store → Out PV) (S : Store) : Out PV := match P.LD f with
  | some d => (match F S with
    | .ok v S1 => if d.ret then .ok v (S1.take S.length) else retOnly S.length (exs (lamG P) d.rest (List.replicate d.nm.length none) S1)
    | .err e S1 => if P.xc e.cls && P.sub e.cls d.cls then retOnly S.length (exs { lamG P with cm := false, hx := some (e.cls, d.x) } d.suite (List.replicate d.nm.length none) S1) else .stuck
    | .stuck => .stuck)
  | none => .stuck
def lamN (P : Prog) (n : Nat) (f : String) (F : Store → Out PV) (S : Store) : Out PV := if 2 ≤ n then lamB P f F S else .stuck
def callB (P : Prog) : Nat → Bool → CallF
  | 0, _, _, _, _ => .stuck
  | n + 1, b, f, as, S => match P.D f with
    | some d => if as.length = d.np then endsB b S.length (exs ⟨true, none, callB P n false, P.G, hotV P, P.sub, fun x => (P.D x).isSome, P.xc, P.xh, P.isx, b, callB P n true, P.cls, lamN P n, callB P (n - 2) false, callB P (n - 2) true⟩ d.body (begins d as) S) else .stuck
    | none => .stuck
def call (P : Prog) (n : Nat) : CallF := callB P n false

end Ev
end
section
set_option maxHeartbeats 1000000
namespace Ev
open PySem
/-! ## the text that a core stands for -/
def S' (x : String) : Str := Str.ofString x
def vis (sc : Scope) (x : Str) : Bool := match sc.names.lookup x with
  | some .local | some .cell | some .free => true
  | _ => false
def locB (sc : Scope) (x : Str) : Bool := match sc.names.lookup x with
  | some .local => true
  | _ => false
def cellB (sc : Scope) (x : Str) : Bool := match sc.names.lookup x with
  | some .cell => true
  | _ => false
def glo (sc : Scope) (x : Str) : Bool := match sc.names.lookup x with
  | some .globalImplicit => true
  | _ => false
def plain (x : Str) : Bool := !(x == S' "__debug__") && !(x == S' "__classdict__") && !(x == S' "__name__")
def isName (sc : Scope) (x : String) : Expr → Bool
  | .Name y _ => y == S' x && glo sc y && plain y
  | _ => false
def isVar (N : List Str) (sc : Scope) (i : Nat) : Expr → Bool
  | .Name y _ => N[i]? == some y && vis sc y && plain y
  | _ => false
/-- a name that may be stored: a local of the block, or (own) a cell that the block made -/
def isTgt (N : List Str) (sc : Scope) (i : Nat) : Expr → Bool
  | .Name y _ => N[i]? == some y && (locB sc y || cellB sc y)
  | _ => false
def isLocal (N : List Str) (sc : Scope) (i : Nat) : Expr → Bool
  | .Name y _ => N[i]? == some y && locB sc y
  | _ => false
def areTgts (N : List Str) (sc : Scope) : List Nat → List Expr → Bool
  | [], [] => true
  | i :: is, e :: es => isTgt N sc i e && areTgts N sc is es
  | _, _ => false
def call1 (sc : Scope) (x : String) : Expr → Option (List Expr)
  | .Call f [a] [] _ => if isName sc x f then some [a] else none
  | _ => none
def call2 (sc : Scope) (x : String) : Expr → Option (List Expr)
  | .Call f [a, b] [] _ => if isName sc x f then some [a, b] else none
  | _ => none
def notCall : Expr → Bool
  | .Call _ _ _ _ => false
  | _ => true
def meth1 (m : String) : Expr → Option (List Expr)
  | .Call (.Attribute o n q) [a] [] r => if n == S' m && q.endLine == r.line && notCall o then some [o, a] else none
  | _ => none
def meth2 (m : String) : Expr → Option (List Expr)
  | .Call (.Attribute o n q) [a, b] [] r => if n == S' m && q.endLine == r.line && notCall o then some [o, a, b] else none
  | _ => none
def notSet : Expr → Bool
  | .Set _ _ _ => false
  | _ => true
def notSlice : Expr → Bool
  | .Slice _ _ _ _ => false
  | _ => true
/-- the parts of a text that is of a primitive's form -/
def parts (sc : Scope) : Prim → Expr → Option (List Expr)
  | .bin o, e => (match e with
    | .BinOp a op b _ => if op == o.op then some [a, b] else none
    | _ => none)
  | .cmp o, e => (match e with
    | .Compare a [op] [b] _ => if op == o.op && notSet b then some [a, b] else none
    | _ => none)
  | .neg, e => (match e with
    | .UnaryOp .USub a _ => some [a]
    | _ => none)
  | .tup, e => (match e with
    | .Tuple es _ _ => some es
    | _ => none)
  | .lst, e => (match e with
    | .List es _ => some es
    | _ => none)
  | .sub, e => (match e with
    | .Subscript a b _ => if notSlice b then some [a, b] else none
    | _ => none)
  | .sl00, e => (match e with
    | .Subscript a (.Slice none none none _) _ => some [a]
    | _ => none)
  | .sl01, e => (match e with
    | .Subscript a (.Slice none (some j) none _) _ => some [a, j]
    | _ => none)
  | .sl10, e => (match e with
    | .Subscript a (.Slice (some i) none none _) _ => some [a, i]
    | _ => none)
  | .isi t, e => (match e with
    | .Call f [a, b] [] _ => if isName sc "isinstance" f && isName sc t.nm b then some [a] else none
    | _ => none)
  | .len, e => call1 sc "len" e
  | .str, e => call1 sc "str" e
  | .int, e => call1 sc "int" e
  | .max2, e => call2 sc "max" e
  | .min2, e => call2 sc "min" e
  | .all, e => call1 sc "all" e
  | .list, e => call1 sc "list" e
  | .tuple, e => call1 sc "tuple" e
  | .count, _ => none
  | .join, _ => none
  | .get2, _ => none
  | .dict0, e => (match e with
    | .Dict [] [] _ => some []
    | _ => none)
def mparts : Prim → Expr → Option (List Expr)
  | .count, e => meth1 "count" e
  | .join, e => meth1 "join" e
  | .get2, e => meth2 "get" e
  | _, _ => none
def rangeParts (sc : Scope) : Expr → Option (List Expr)
  | .Call f as [] _ => if isName sc "range" f && decide (1 ≤ as.length) && decide (as.length ≤ 3) then some as else none
  | _ => none
/-- a lambda without parameters -/
def noPar (a : Arguments) : Bool := a.posonlyargs.isEmpty && a.args.isEmpty && a.vararg.isNone && a.kwonlyargs.isEmpty && a.kw_defaults.isEmpty && a.kwarg.isNone && a.defaults.isEmpty
/-- its names: captured ones and globals -/
def lamSc (sc scope : Scope) : Bool :=
  decide (scope.kind = .function) && !scope.isCoroutine && !scope.isGenerator && scope.names.all fun y => !decide (y.2 = .local) && !decide (y.2 = .cell) && (!decide (y.2 = .free) || decide (sc.names.lookup y.1 = some .cell) || decide (sc.names.lookup y.1 = some .free))
def nameAt (N : List Str) (i : Nat) : Str := (N[i]?).getD (S' "")
mutual
def mt (N : List Str) : Scope → CE → Expr → Bool
  | sc, .var i, e => isVar N sc i e
  | sc, .gl x, e => isName sc x e
  | _, .int i, e => (match e with | .Constant (.int j) _ _ => i == j | _ => false)
  | _, .str x, e => (match e with | .Constant (.str y) _ _ => y == ⟨x.toArray⟩ | _ => false)
  | _, .bl b, e => (match e with | .Constant (.bool c) _ _ => b == c | _ => false)
  | _, .non, e => (match e with | .Constant .none _ _ => true | _ => false)
  | sc, .prim p es, e => (match parts sc p e with
    | some as => mts N sc es as
    | none => false)
  | sc, .meth p o es, e => (match mparts p e with
    | some (a :: as) => mt N sc o a && mts N sc es as
    | _ => false)
  | sc, .sl11 a i j, e => (match e with
    | .Subscript x (.Slice (some y) (some z) none _) _ => mt N sc a x && mt N sc i y && mt N sc j z
    | _ => false)
  | sc, .and_ es, e => (match e with | .BoolOp .And as _ => mts N sc es as | _ => false)
  | sc, .or_ es, e => (match e with | .BoolOp .Or as _ => mts N sc es as | _ => false)
  | sc, .not_ c, e => (match e with | .UnaryOp .Not a _ => mt N sc c a | _ => false)
  | sc, .ife c a b, e => (match e with | .IfExp t x y _ => mt N sc c t && mt N sc a x && mt N sc b y | _ => false)
  | sc, .cmp2 o o' a b c, e => (match e with
    | .Compare x [p, p'] [y, z] _ => p == o.op && p' == o'.op && notSet z && mt N sc a x && mt N sc b y && mt N sc c z
    | _ => false)
  | sc, .call f es, e => (match e with | .Call g as [] _ => isName sc f g && mts N sc es as | _ => false)
  | sc, .lc i it elt cnd, e => (match e with
    | .ListComp x [⟨tg, iter, ifs, a⟩] scope _ => a == 0 && isLocal N (L2.relS scope sc) i tg && L2.blkC N sc scope [(nameAt N i, i)] && mtI N sc it iter && mt N (L2.relS scope sc) elt x && mts N (L2.relS scope sc) cnd ifs
    | _ => false)
  | sc, .mv i, e => isVar N sc i e
  | sc, .hot f i, e => (match e with | .Call g [a] [] _ => isName sc f g && isVar N sc i a | _ => false)
  | sc, .isE i d, e => (match e with | .Call g [a, b] [] _ => isName sc "isinstance" g && isVar N sc i a && isName sc d b | _ => false)
  | sc, .lrep es n, e => (match e with | .BinOp (.List as _) .Mult (.Constant (.int j) _ _) _ => j == (n : Int) && mts N sc es as | _ => false)
  | sc, .dlit k v, e => (match e with | .Dict [some a] [b] _ => mt N sc k a && mt N sc v b | _ => false)
  | sc, .mk c es, e => (match e with | .Call g (a :: as) [] _ => isName sc c g && mts N sc es (a :: as) | _ => false)
  | sc, .fld c d f, e => (match e with | .Attribute o n _ => n == S' f && notCall o && (fldNames d).contains f && mt N sc c o | _ => false)
  | sc, .isO c d, e => (match e with | .Call g [a, b] [] _ => isName sc "isinstance" g && isName sc d b && mt N sc c a | _ => false)
  | sc, .subS i k, e => (match e with | .Subscript o a _ => isVar N sc i o && notSlice a && mt N sc k a | _ => false)
  | sc, .sortS i, e => (match e with | .Call g [a] [] _ => isName sc "sorted" g && isVar N sc i a | _ => false)
  | sc, .lam f b, e => (match e with | .Call g [.Lambda ps x scope _] [] _ => isName sc f g && noPar ps && lamSc sc scope && mt N scope b x | _ => false)
  | sc, .lrepN es c, e => (match e with | .BinOp (.List as _) .Mult r _ => mts N sc es as && mt N sc c r | _ => false)
def mts (N : List Str) : Scope → List CE → List Expr → Bool
  | _, [], [] => true
  | sc, c :: cs, e :: es => mt N sc c e && mts N sc cs es
  | _, _, _ => false
def mtI (N : List Str) : Scope → IT → Expr → Bool
  | sc, .seq c, e => mt N sc c e
  | sc, .range es, e => (match rangeParts sc e with
    | some as => mts N sc es as
    | none => false)
  | sc, .rev c, e => (match call1 sc "reversed" e with
    | some [a] => mt N sc c a
    | _ => false)
end
def notTup : Expr → Bool
  | .Tuple _ _ _ => false
  | _ => true
def isComp : Expr → Bool
  | .ListComp _ _ _ _ | .SetComp _ _ _ _ | .DictComp _ _ _ _ _ => true
  | _ => false
mutual
def mtS (N : List Str) (sc : Scope) : CS → Stmt → Bool
  | .asg i e, s => (match s with | .Assign [t] v _ => isTgt N sc i t && mt N sc e v | _ => false)
  | .asgT is e, s => (match s with | .Assign [.Tuple ts _ _] v _ => areTgts N sc is ts && mt N sc e v && !isComp v && notTup v | _ => false)
  | .new i e, s => (match s with | .Assign [t] v _ => isTgt N sc i t && mt N sc e v | _ => false)
  | .expr e, s => (match s with | .Expr v _ => mt N sc e v && !isComp v | _ => false)
  | .ret e, s => (match s with | .Return (some v) _ => mt N sc e v | _ => false)
  | .ifs c t e, s => (match s with | .If v a b _ => mt N sc c v && mtSs N sc t a && mtSs N sc e b | _ => false)
  | .for_ i it b, s => (match s with | .For t v a [] _ => isTgt N sc i t && mtI N sc it v && mtSs N sc b a | _ => false)
  | .whl c b, s => (match s with | .While v a [] _ => mt N sc c v && mtSs N sc b a | _ => false)
  | .raise c m, s => (match s with
    | .Raise (some (.Call f [.Constant (.str y) _ _] [] _)) none _ => isName sc c f && y == ⟨m.toArray⟩
    | _ => false)
  | .app i e, s => (match s with
    | .Expr (.Call (.Attribute o n q) [a] [] r) _ => n == S' "append" && q.endLine == r.line && isVar N sc i o && mt N sc e a
    | _ => false)
  | .sto i k e, s => (match s with
    | .Assign [.Subscript o a _] v _ => isVar N sc i o && mt N sc k a && mt N sc e v && notSlice a && !isComp v
    | _ => false)
  | .newS i, s => (match s with | .Assign [t] (.Dict [] [] _) _ => isTgt N sc i t | _ => false)
  | .stoS i k e, s => (match s with
    | .Assign [.Subscript o a _] v _ => isVar N sc i o && mt N sc k a && mt N sc e v && notSlice a && !isComp v
    | _ => false)
  | .forT is it b, s => (match s with | .For (.Tuple ts _ _) v a [] _ => areTgts N sc is ts && mtI N sc it v && mtSs N sc b a | _ => false)
  | .try_ b c x u, s => (match s with
    | .Try a [.ExceptHandler (some f) n h _] [] [] _ => isName sc c f && (match x, n with
      | none, none => true
      | some i, some y => N[i]? == some y && locB sc y
      | _, _ => false) && mtSs N sc b a && mtSs N sc u h && !h.isEmpty
    | _ => false)
  | .cont, s => (match s with | .Continue _ => true | _ => false)
  | .brk, s => (match s with | .Break _ => true | _ => false)
  | .pass, s => (match s with | .Pass _ => true | _ => false)
  | .frz c i, s => mtS N sc c s
def mtSs (N : List Str) (sc : Scope) : List CS → List Stmt → Bool
  | [], [] => true
  | c :: cs, s :: ss => mtS N sc c s && mtSs N sc cs ss
  | _, _ => false
end
/-- a(), or return a() -/
def actB (ret : Bool) (a : Str) : Stmt → Bool
  | .Return (some (.Call (.Name y _) [] [] _)) _ => ret && y == a
  | .Expr (.Call (.Name y _) [] [] _) _ => !ret && y == a
  | _ => false
/-- a def that tries what it is handed -/
def mtL (d : LDef) (N : List Str) (a : Str) (sc : Scope) : List Stmt → Bool
  | .Try [t] [.ExceptHandler (some f) (some y) h _] [] [] _ :: r => isName sc d.cls f && (N[d.x]? == some y && locB sc y) && actB d.ret a t && mtSs N sc d.suite h && !h.isEmpty && mtSs N sc d.rest r
  | _ => false
end Ev
end
section
set_option maxHeartbeats 1000000
namespace Ev
open PySem PySem.Spec PyProof.Rows L2

abbrev Sx := L2.St
/-! ## dicts whose keys are tuples of texts, whole numbers and tuples -/
/-- an entry: the key, where its tuple lies, the value -/
abbrev NEnt := NestedKey × Addr × V
mutual
/-- a value is a key, by what is tracked -/
def NKey (K : PySem.W.Frag) (H : Hp) : NestedKey → V → Prop
  | .none, v => v = .non
  | .num i, v => v = .int i ∨ ∃ b : Bool, v = .bl b ∧ i = (if b then 1 else 0)
  | .text x, v => v = .str x
  | .tup ks, v => ∃ a vs, v = .ref a ∧ SqT K H a vs ∧ NKeys K H ks vs
def NKeys (K : PySem.W.Frag) (H : Hp) : List NestedKey → List V → Prop
  | [], vs => vs = []
  | k :: ks, vs => ∃ v r, vs = v :: r ∧ NKey K H k v ∧ NKeys K H ks r
end
def entR (p : NEnt) (q : NestedKey × Addr × Value) : Prop := p.1 = q.1 ∧ p.2.1 = q.2.1 ∧ RelV p.2.2 q.2.2
/-- a dict, by its entries -/
def DctO (w : World) (a : Addr) (es : List NEnt) : HO := .ext fun h => es.length ≤ sizeLine ∧ (a == sysModules) = false ∧ (es.map (·.1)).Nodup ∧
  ∃ xs : List (NestedKey × Addr × Value), Paired entR es xs ∧ ∃ o ar ep, h.get? a = some o ∧ o.ExactDict ∧ o.data = .dict ar ep ∧ ar.toList = xs.map fun x => (⟨x.1.hash w, .ref x.2.1, x.2.2⟩ : DictEntry)
section
variable {X : Cx} {pins : List (Addr × Obj)} {σ : Sx} {H : Hp} {s : Shared}
mutual
theorem NKey.is (I : Inv X pins σ H s) : ∀ (k : NestedKey) (v : V) (u : Value), NKey X.K H k v → RelV v u → NestedIs s.heap k u
  | .none, v, u, h, r => by
    have h : v = .non := h
    subst h
    cases (show u = .none from r)
    exact .none
  | .num i, v, u, h, r => by
    rcases h with h | ⟨b, h, e⟩
    · subst h
      obtain ⟨t, rfl⟩ := r
      exact .int i t
    · subst h
      cases (show u = .bool b from r)
      exact .bool e
  | .text x, v, u, h, r => by
    have h : v = .str x := h
    subst h
    obtain ⟨t, rfl⟩ := r
    exact .text x t
  | .tup ks, v, u, h, r => by
    obtain ⟨a, vs, rfl, hs, hk⟩ := h
    cases (show u = .ref a from r)
    rcases hs with hs | ⟨o, its, n, e1, e2, e3, _, hv⟩
    · obtain ⟨_, its, rv, o, e1, e2, n, e3⟩ := (show ObjOk X.prog X.w H s.heap a (.tup vs) from hs.ok I.hok)
      exact .tup e1 e2 e3 (NKeys.is I ks vs _ hk (by simpa using rv))
    · exact .tup (I.kIn a o e1) e2 e3 (NKeys.is I ks vs _ hk hv)
theorem NKeys.is (I : Inv X pins σ H s) : ∀ (ks : List NestedKey) (vs : List V) (us : List Value), NKeys X.K H ks vs → Vals vs us → NestedAll s.heap ks us
  | [], vs, us, h, r => by
    have h : vs = [] := h
    subst h
    cases r
    exact .nil
  | k :: ks, vs, us, h, r => by
    obtain ⟨v, rest, rfl, h1, h2⟩ := h
    cases r with
    | cons r1 r2 => exact .cons (NKey.is I k v _ h1 r1) (NKeys.is I ks rest _ h2 r2)
end
/-- the keys of a dict's entries -/
def EntsOk (K : PySem.W.Frag) (H : Hp) (es : List NEnt) : Prop := ∀ e ∈ es, NKey K H e.1 (.ref e.2.1) ∧ e.1.depth ≤ 8
theorem Paired.mem2 {α β : Type} {F : α → β → Prop} : ∀ {l : List α} {m : List β}, Paired F l m → ∀ y ∈ m, ∃ x ∈ l, F x y
  | _, _, .nil, y, hy => by cases hy
  | _, _, .cons r t, y, hy => by
    rcases List.mem_cons.mp hy with rfl | hy
    · exact ⟨_, List.mem_cons_self, r⟩
    · obtain ⟨x, hx, hf⟩ := Paired.mem2 t y hy
      exact ⟨x, List.mem_cons_of_mem _ hx, hf⟩
theorem entR_keys : ∀ {es : List NEnt} {xs : List (NestedKey × Addr × Value)}, Paired entR es xs → es.map (·.1) = xs.map (·.1)
  | _, _, .nil => rfl
  | _, _, .cons r t => by rw [List.map_cons, List.map_cons, r.1, entR_keys t]
theorem dn_of {a : Addr} {es : List NEnt} (I : Inv X pins σ H s) (e : H a = some (DctO X.w a es)) (hk : EntsOk X.K H es) : es.length ≤ sizeLine ∧ (a == sysModules) = false ∧
    ∃ xs, Paired entR es xs ∧ s.heap.DictOfH (nestedKind X.prog X.w) a xs := by
  obtain ⟨⟨z, y, nd, xs, r, o, ar, ep, h1, h2, h3, h4⟩, _⟩ := (show ObjOk X.prog X.w H s.heap a (.ext _) from I.hok a _ e)
  refine ⟨z, y, xs, r, o, ar, ep, h1, h2, h3, h4, fun x hx => ?_, ?_⟩
  · obtain ⟨p, hp, q1, q2, q3⟩ := Paired.mem2 r x hx
    obtain ⟨k1, k2⟩ := hk p hp
    rw [← q1, ← q2]
    exact ⟨NKey.is I _ _ _ k1 rfl, k2⟩
  · rw [← entR_keys r]; exact nd
def valN (es : List NEnt) (k : NestedKey) : Option V := (es.find? fun x => decide (x.1 = k)).map (·.2.2)
def putN (es : List NEnt) (k : NestedKey) (a : Addr) (v : V) : List NEnt := if (valN es k).isSome then es.map (fun x => if x.1 = k then (x.1, x.2.1, v) else x) else es ++ [(k, a, v)]
theorem entR_val (k : NestedKey) : ∀ {es : List NEnt} {xs : List (NestedKey × Addr × Value)}, Paired entR es xs → RelO (valN es k) ((atKey xs k).map (·.2))
  | _, _, .nil => by show RelO none none; trivial
  | _, _, .cons (a := p) (b := q) r t => by
    have ih := entR_val k t
    unfold valN atKey at *
    rw [List.find?_cons, List.find?_cons]
    by_cases c : q.1 = k
    · rw [show decide (p.1 = k) = true by simp [r.1, c], show decide (q.1 = k) = true by simp [c]]
      exact r.2.2
    · rw [show decide (p.1 = k) = false by simp [r.1, c], show decide (q.1 = k) = false by simp [c]]
      exact ih
theorem entR_put {k : NestedKey} {a : Addr} {v : V} {u : Value} (rv : RelV v u) {es : List NEnt} {xs : List (NestedKey × Addr × Value)} (h : Paired entR es xs) : Paired entR (putN es k a v) (storedH xs k a u) := by
  have hs : (valN es k).isSome = (atKey xs k).isSome := by
    have := (entR_val k h).isSome_eq
    rw [Option.isSome_map] at this
    exact this
  unfold putN storedH
  rw [hs]
  split
  · have go : ∀ {es : List NEnt} {xs : List (NestedKey × Addr × Value)}, Paired entR es xs → Paired entR (es.map fun x => if x.1 = k then (x.1, x.2.1, v) else x) (xs.map (putAt k u)) := by
      intro es xs h
      induction h with
      | nil => exact .nil
      | @cons p q ps qs r t ih =>
        rw [List.map_cons, List.map_cons]
        refine .cons ?_ ih
        unfold putAt
        by_cases c : q.1 = k
        · rw [if_pos (r.1.trans c), if_pos c]
          exact ⟨r.1, r.2.1, rv⟩
        · rw [if_neg (fun z => c (r.1.symm.trans z)), if_neg c]
          exact r
    exact go h
  · have go : ∀ {es : List NEnt} {xs : List (NestedKey × Addr × Value)}, Paired entR es xs → Paired entR (es ++ [(k, a, v)]) (xs ++ [(k, a, u)]) := by
      intro es xs h
      induction h with
      | nil => exact .cons ⟨rfl, rfl, rv⟩ .nil
      | cons r t ih => exact .cons r ih
    exact go h
theorem putN_len (es : List NEnt) (k : NestedKey) (a : Addr) (v : V) : (putN es k a v).length ≤ es.length + 1 := by
  unfold putN
  split
  · rw [List.length_map]; omega
  · rw [List.length_append, List.length_singleton]; omega
/-- what a dict holds at a key -/
def DGetN (X : Cx) (H : Hp) (a : Addr) (y : V) (r : Option V) : Prop := ∃ es k b, H a = some (DctO X.w a es) ∧ EntsOk X.K H es ∧ y = .ref b ∧ NKey X.K H k (.ref b) ∧ k.depth ≤ 8 ∧ r = valN es k
/-- the heap behind d[y] = v -/
def DPutN (X : Cx) (H : Hp) (a : Addr) (y v : V) (H' : Hp) : Prop := ∃ es k b, H a = some (DctO X.w a es) ∧ EntsOk X.K H es ∧ y = .ref b ∧ NKey X.K H k (.ref b) ∧ k.depth ≤ 8 ∧ es.length < sizeLine ∧ H' = upd H a (DctO X.w a (putN es k b v))
theorem room8 {P : Program} {w : World} {A : Around} (hu : A.units + 9 < cLine) : (nestedKind P w).room A.in1 := by
  show A.units + 1 + 8 < cLine
  omega
theorem isKey {k : NestedKey} {b : Addr} (I : Inv X pins σ H s) (h : NKey X.K H k (.ref b)) (hd : k.depth ≤ 8) : (nestedKind X.prog X.w).is s.heap k b := ⟨NKey.is I k _ _ h rfl, hd⟩
theorem dn_type {a : Addr} {y : V} {r : Option V} (I : Inv X pins σ H s) (g : DGetN X H a y r) : s.TypeIs (.ref a) "dict" := by
  obtain ⟨es, k, b, e, hk, _⟩ := g
  obtain ⟨_, _, xs, _, dd⟩ := dn_of I e hk
  exact dd.typeIs
theorem dn_getItem {A : Around} {E : Value → Shared → Prop} {a : Addr} {y v : V} {u : Value} {Q : Value → Shared → Prop} (hu : A.units + 9 < cLine) (I : Inv X pins σ H s) (g : DGetN X H a y (some v)) (ry : RelV y u) (h : ∀ w' s', Inv X pins σ H s' → RelV v w' → Q w' s') :
    wpAny (model X.prog X.w) A (getItem (.ref a) u) Q E s := by
  obtain ⟨es, k, b, e, hk, rfl, kb, kd, l⟩ := g
  cases (show u = Value.ref b from ry)
  obtain ⟨_, _, xs, rel, dd⟩ := dn_of I e hk
  obtain ⟨w', hw, rw'⟩ := RelO.some_of (v := v) (o := (atKey xs k).map (·.2)) (by rw [l]; exact entR_val k rel)
  obtain ⟨p, hp, hp2⟩ := Option.map_eq_some_iff.mp hw
  refine wpAny_getItem_heap (room8 hu) (isKey I kb kd) dd hp ?_
  rw [hp2]
  exact h w' _ (I.tok _) rw'
theorem dn_get2 {A : Around} {E : Value → Shared → Prop} {a : Addr} {y z : V} {o : Option V} {u r : Value} {Q : Value → Shared → Prop} (hu : A.units + 9 < cLine) (I : Inv X pins σ H s) (g : DGetN X H a y o) (ry : RelV y u) (rz : RelV z r) (h : ∀ w' s', Inv X pins σ H s' → RelV (o.getD z) w' → Q w' s') :
    wpAny (model X.prog X.w) A (PySem.call (.builtin "dict.get") [.ref a, u, r]) Q E s := by
  obtain ⟨es, k, b, e, hk, rfl, kb, kd, l⟩ := g
  cases (show u = Value.ref b from ry)
  obtain ⟨_, hd, xs, rel, dd⟩ := dn_of I e hk
  refine call_meetsIn PySem.F.slot_dict_get dd.typeIs PySem.F.entry_dict_get (PySem.F.args_dict_get_3 ..) (meetsH_dict_get_default (nestedKind X.prog X.w) a b hd r) ⟨room8 hu, k, xs, isKey I kb kd, dd, h _ _ (I.tok _) ?_⟩
  rw [l]
  exact (entR_val k rel).getD rz
mutual
theorem NKey.keeps {K : PySem.W.Frag} {H H' : Hp} (kp : ∀ b vs, Rd H b (.tup vs) → Rd H' b (.tup vs)) : ∀ (k : NestedKey) (v : V), NKey K H k v → NKey K H' k v
  | .none, v, h => h
  | .num i, v, h => h
  | .text x, v, h => h
  | .tup ks, v, h => by
    obtain ⟨a, vs, e, hs, hk⟩ := h
    refine ⟨a, vs, e, ?_, NKeys.keeps kp ks vs hk⟩
    rcases hs with hs | hs
    · exact .inl (kp a vs hs)
    · exact .inr hs
theorem NKeys.keeps {K : PySem.W.Frag} {H H' : Hp} (kp : ∀ b vs, Rd H b (.tup vs) → Rd H' b (.tup vs)) : ∀ (ks : List NestedKey) (vs : List V), NKeys K H ks vs → NKeys K H' ks vs
  | [], vs, h => h
  | k :: ks, vs, h => by
    obtain ⟨v, r, e, h1, h2⟩ := h
    exact ⟨v, r, e, NKey.keeps kp k v h1, NKeys.keeps kp ks r h2⟩
end
/-- tuples stay when a dict is rewritten -/
theorem tups_upd {a : Addr} {φ : Heap → Prop} {o : HO} (e : H a = some (.ext φ)) : ∀ b vs, Rd H b (.tup vs) → Rd (upd H a o) b (.tup vs) := fun b vs h => by
  have ne : b ≠ a := fun z => by
    subst z
    rcases h with h | ⟨o', h⟩ <;> rw [e] at h <;> cases h
  rcases h with h | ⟨o', h⟩
  · exact .inl (by rw [upd_ne ne]; exact h)
  · exact .inr ⟨o', by rw [upd_ne ne]; exact h⟩
theorem dct_ok {P : Program} {w : World} {H' : Hp} {h' : Heap} {a : Addr} {es : List NEnt} {xs : List (NestedKey × Addr × Value)} (hz : es.length ≤ sizeLine) (hd : (a == sysModules) = false) (rel : Paired entR es xs) (dd : h'.DictOfH (nestedKind P w) a xs) : ObjOk P w H' h' a (DctO w a es) := by
  obtain ⟨o, ar, ep, h1, h2, h3, h4, _, h5⟩ := dd
  refine ⟨⟨hz, hd, by rw [entR_keys rel]; exact h5, xs, rel, o, ar, ep, h1, h2, h3, h4⟩, ⟨o, h1⟩, fun g1 g2 hp hk => ?_⟩
  obtain ⟨z1, z2, z3, ys, z4, o', ar', ep', y1, y2, y3, y4⟩ := hp
  exact ⟨z1, z2, z3, ys, z4, o', ar', ep', hk o' y1, y2, y3, y4⟩
theorem dn_setItem {A : Around} {E : Value → Shared → Prop} {a : Addr} {y v : V} {u r : Value} {H' : Hp} {Q : Unit → Shared → Prop} (hu : A.units + 9 < cLine) (I : Inv X pins σ H s) (g : DPutN X H a y v H') (ry : RelV y u) (rv : RelV v r) (h : ∀ s', Inv X pins σ H' s' → Q () s') :
    wpAny (model X.prog X.w) A (setItem (.ref a) u r) Q E s := by
  obtain ⟨es, k, b, e, hk, rfl, kb, kd, hl, rfl⟩ := g
  cases (show u = Value.ref b from ry)
  obtain ⟨z, hd, xs, rel, dd⟩ := dn_of I e hk
  have hz : xs.length ≤ sizeLine := by rw [← Paired.length rel]; exact z
  refine wpAny_setItem_heap (hsz := hz) (room8 hu) (isKey I kb kd) dd fun h' dd' hs => h _ ?_
  have he : ∃ q, h'.get? a = some q := let ⟨q, _, _, hq, _⟩ := dd'; ⟨q, hq⟩
  exact d_write I (by rw [e]; exact True.intro) hs he (dct_ok (Nat.le_trans (putN_len es k b v) hl) hd (entR_put rv rel) dd')
end
/-! ### rules -/
def tDGetN (X : Cx) (td ty : TE) : TE := fun σ H Q => td σ H fun x H1 => ty σ H1 fun y H2 => ∃ a v, x = .ref a ∧ DGetN X H2 a y (some v) ∧ Q v H2
def sDPutN (X : Cx) (td ty tv : TE) : TS := fun D σ H => tv σ H fun v H1 => td σ H1 fun x H2 => ty σ H2 fun y H3 => ∃ a H4, x = .ref a ∧ DPutN X H3 a y v H4 ∧ D.nx σ H4
section
variable {X : Cx} {o i value : Expr} {pos pos' : Pos} {td ty tv : TE}
theorem pe_dgetN (hu : X.A.units + 9 < cLine) (ho : PE X o td) (hi : PE X i ty) (hs : NoSl i) : PE X (.Subscript o i pos) (tDGetN X td ty) := by
  refine ⟨fun pins s σ H Q I h => subD_of PySem.F.slot_dict_getitem.lookup hs (thn (ho.run pins s σ H _ I h) fun u s1 z1 => ?_)⟩
  obtain ⟨x, H1, I1, rx, q1⟩ := z1
  refine thn (hi.run pins s1 σ H1 _ I1 q1) fun iv s2 z2 => ?_
  obtain ⟨y, H2, I2, ry, a, v, rfl, g, q2⟩ := z2
  obtain rfl : u = Value.ref a := rx
  exact ⟨dn_type I2 g, dn_getItem hu I2 g ry fun w' s3 I3 rw' => ⟨v, H2, I3, rw', q2⟩⟩
theorem ps_dputN (hu : X.A.units + 9 < cLine) (ho : PE X o td) (hi : PE X i ty) (hv : PE X value tv) (hs : swapsWith value (some (.Subscript o i pos')) pos.line X.env = pure false) : PS X (.Assign [.Subscript o i pos'] value pos) (sDPutN X td ty tv) := by
  refine ⟨fun pins s σ H D I h => wpAny_Assign_Subscript (thn (hv.run pins s σ H _ I h) fun r s1 z1 => ?_) hs⟩
  obtain ⟨v, H1, I1, rv, q1⟩ := z1
  refine thn (ho.run pins s1 σ H1 _ I1 q1) fun u s2 z2 => ?_
  obtain ⟨x, H2, I2, rx, q2⟩ := z2
  refine thn (hi.run pins s2 σ H2 _ I2 q2) fun iv s3 z3 => ?_
  obtain ⟨y, H3, I3, ry, a, H4, rfl, g, q3⟩ := z3
  obtain rfl : u = Value.ref a := rx
  exact dn_setItem hu I3 g ry rv fun s4 I4 => ⟨σ, H4, I4, q3⟩
/-- d.get(y, z) -/
def rGetN (X : Cx) : V → List V → Hp → VK → Prop := fun x xs H Q => ∃ a y z r, x = .ref a ∧ xs = [y, z] ∧ DGetN X H a y r ∧ Q (r.getD z) H
theorem mt_getN (hu : X.A.units + 9 < cLine) : MtR X "dict.get" (rGetN X) := by
  intro pins s σ H x xs v us Q I rx rxs h
  obtain ⟨a, y, z, r, rfl, rfl, g, q⟩ := h
  cases rx
  obtain ⟨u1, u2, rfl, r1, r2⟩ := vals2 rxs
  exact dn_get2 hu I g r1 r2 fun w' s' I' rw' => ⟨r.getD z, H, I', rw', q⟩
/-- {} -/
theorem dct_empty {P : Program} {w : World} {H : Hp} (h : Heap) (hb : sysModules < h.objs.size) : ObjOk P w H (h.push { cls := .type "dict", data := .dict #[] }) h.objs.size (DctO w h.objs.size []) := by
  refine ⟨⟨Nat.zero_le _, beq_eq_false_iff_ne.mpr (Ne.symm (Nat.ne_of_lt hb)), List.nodup_nil, [], .nil, _, #[], 0, Heap.get?_push_size _ rfl, ⟨rfl, rfl, rfl⟩, rfl, rfl⟩, ⟨_, Heap.get?_push_size _ rfl⟩, fun g1 g2 hp hk => ?_⟩
  obtain ⟨z1, z2, z3, ys, z4, o', ar', ep', y1, y2, y3, y4⟩ := hp
  exact ⟨z1, z2, z3, ys, z4, o', ar', ep', hk o' y1, y2, y3, y4⟩
def tDNewN (X : Cx) : TE := fun _ H Q => ∀ p, H p = none → Q (.ref p) (upd H p (DctO X.w p []))
theorem pe_dnewN : PE X (.Dict [] [] pos) (tDNewN X) := by
  refine ⟨fun pins s σ H Q I h => wpAny_Dict_empty ⟨.ref s.heap.objs.size, _, ?_, rfl, h _ (I.hok.fresh (Nat.le_refl _))⟩⟩
  exact I.laid (t' := s.toks) (fun _ _ q => Heap.get?_push_of_some _ q) (Nat.le_refl _) (dct_empty s.heap I.big)
/-- d[y], from the values -/
def rGetI (X : Cx) : R2 := fun x y H Q => ∃ a v, x = .ref a ∧ DGetN X H a y (some v) ∧ Q v H
theorem ix_dctN (hu : X.A.units + 9 < cLine) : IxR X (rGetI X) := by
  intro value slice pins s σ H x y v u Q I rx ry h hs
  obtain ⟨a, w, rfl, g, q⟩ := h
  obtain rfl : v = Value.ref a := rx
  have hT := dn_type I g
  unfold subscriptTail
  refine wpAny_bind ?_
  rw [getitemInPython_of_ne hT.not_modules]
  refine wpAny_bind (wpAny_specialOf hT PySem.F.slot_dict_getitem.lookup ?_)
  have main := dn_getItem (A := X.A) (E := X.xe) hu I g ry (Q := EP X pins σ Q) fun w' s3 I3 rw' => ⟨w, H, I3, rw', q⟩
  have fin : wpAny (model X.prog X.w) X.A (subscripted slice false (.ref a) u) (fun r s₃ => wpAny (model X.prog X.w) X.A (letTemporaryGo value (.ref a) r >>= fun _ => pure r) (EP X pins σ Q) X.xe s₃) X.xe s := by
    rw [hs]
    exact wpAny_operating (wpAny_mono main (fun r s3 h3 => wpAny_bind (wpAny_letTemporaryGo (wpAny_pure h3))) fun _ _ z => z)
  first
    | exact wpAny_pure (wpAny_bind fin)
    | exact wpAny_bind (wpAny_pure (wpAny_bind fin))
    | exact wpAny_bind fin
theorem IxR.or {r r' : R2} (h : IxR X r) (h' : IxR X r') : IxR X fun x y H Q => r x y H Q ∨ r' x y H Q := by
  intro value slice pins s σ H x y v u Q I rx ry z hs
  rcases z with z | z
  · exact h value slice pins s σ H x y v u Q I rx ry z hs
  · exact h' value slice pins s σ H x y v u Q I rx ry z hs
/-- len(d) -/
def rLenN (X : Cx) : List V → Hp → VK → Prop := fun vs H Q => ∃ a es, vs = [.ref a] ∧ H a = some (DctO X.w a es) ∧ Q (.int es.length) H
theorem call_lenN : CallR X (.builtin "len") (rLenN X) := by
  intro pins s σ H xs us Q I rs h
  obtain ⟨a, es, rfl, e, q⟩ := h
  obtain ⟨u, rfl, ru⟩ := vals1 rs
  obtain rfl : u = Value.ref a := ru
  obtain ⟨⟨hz, y, nd, xs, r, o, ar, ep, h1, h2, h3, h4⟩, _⟩ := (show ObjOk X.prog X.w H s.heap a (.ext _) from I.hok a _ e)
  have hsz : ar.size = es.length := by
    rw [← Array.length_toList, h4, List.length_map]
    exact (Paired.length r).symm
  have hraw : s.heap.DictRaw a ar ep := ⟨o, h1, h2, h3⟩
  have hl : es.length ≤ sizeLine := hz
  rw [sizeLine_eq] at hl
  refine PyProof.Rows.call_len_slot (n := es.length) hraw.typeIs PySem.F.slot_dict_len (fun Q' hq => call_len_raw y hraw (by rw [hsz]; exact hq)) (by omega) (by omega) ?_
  exact ⟨.int es.length, H, I.tok _, ⟨_, rfl⟩, q⟩
/-- {k: v}; the new dict stands empty while the pair is made -/
def tDispN (X : Cx) (tk tv : TE) : TE := fun σ H Q => ∀ p, H p = none → tk σ (upd H p (DctO X.w p [])) fun y H1 => tv σ H1 fun v H2 => H2 p = some (DctO X.w p []) ∧ ∃ k b, y = .ref b ∧ NKey X.K H2 k (.ref b) ∧ k.depth ≤ 8 ∧ Q (.ref p) (upd H2 p (DctO X.w p [(k, b, v)]))
theorem pe_dispN {ke ve : Expr} {tk : TE} (hu : X.A.units + 9 < cLine) (hk : PE X ke tk) (hv : PE X ve tv) : PE X (.Dict [some ke] [ve] pos) (tDispN X tk tv) := by
  refine ⟨fun pins s σ H Q I h => ?_⟩
  have hn := I.hok.fresh (Nat.le_refl s.heap.objs.size)
  have I1 := I.laid (t' := s.toks) (fun _ _ q => Heap.get?_push_of_some _ q) (Nat.le_refl _) (dct_empty s.heap I.big)
  have q0 := h _ hn
  have hroom : (nestedKind X.prog X.w).room X.A := by
    show X.A.units + 8 < cLine
    omega
  rw [arm_eval_Dict, zip_pairTrees [some ke] [ve] X.env pos rfl rfl, dictDisplay_pairs (pairTrees [some ke] [ve] X.env pos) (by intro z; cases z) (show 1 < 17 by decide)]
  refine wpAny_bind (wpAny_standAt (wpAny_bind (wpAny_subDictH (knd := nestedKind X.prog X.w) hroom (show 1 ≤ 15 by decide) (pairTrees_cons_walk (thn (hk.run pins _ σ _ _ I1 q0) fun u s1 z1 => ?_)))))
  obtain ⟨y, H1, J1, ry, q1⟩ := z1
  refine thn (hv.run pins s1 σ H1 _ J1 q1) fun r s2 z2 => pairTrees_nil_walk ?_
  obtain ⟨v, H2, J2, rv, e, k, b, rfl, kb, kd, q2⟩ := z2
  cases (show u = Value.ref b from ry)
  obtain ⟨z, hd, xs, rel, dd⟩ := dn_of J2 e (fun e he => by cases he)
  cases rel
  refine ⟨[(k, b, r)], ⟨rfl, rfl, isKey J2 kb kd, trivial⟩, dd, fun h' tk dd' hs => wpAny_pure ⟨.ref s.heap.objs.size, _, ?_, rfl, q2⟩⟩
  have he : ∃ q, h'.get? s.heap.objs.size = some q := let ⟨q, _, _, hq, _⟩ := dd'; ⟨q, hq⟩
  exact d_write J2 (by rw [e]; exact True.intro) hs he (dct_ok (show 1 ≤ sizeLine by rw [sizeLine_eq]; decide) hd (.cons ⟨rfl, rfl, rv⟩ .nil) dd')
/-- what stands for a dict -/
def IsDN (X : Cx) (H : Hp) (x : V) : Prop := ∃ a es, x = .ref a ∧ H a = some (DctO X.w a es)
theorem isDN_at {pins : List (Addr × Obj)} {σ : Sx} {H : Hp} {s : Shared} {a : Addr} {es : List NEnt} (I : Inv X pins σ H s) (e : H a = some (DctO X.w a es)) : s.TypeIs (.ref a) "dict" ∧ ∀ b, Value.ref a = .ref b → ∃ ob, s.heap.get? b = some ob ∧ ob.dict = none := by
  obtain ⟨⟨z, y, nd, xs, r, o, ar, ep, h1, h2, h3, h4⟩, _⟩ := (show ObjOk X.prog X.w H s.heap a (.ext _) from I.hok a _ e)
  refine ⟨⟨o, h1, h2.1⟩, fun b q => ?_⟩
  cases q
  exact ⟨o, h1, h2.2.1⟩
/-- d.get(y, z) -/
def tGet2N (X : Cx) (td ty tz : TE) : TE := fun σ H Q => td σ H fun x H1 => IsDN X H1 x ∧ ty σ H1 fun y H2 => tz σ H2 fun z H3 => ∃ a r, x = .ref a ∧ DGetN X H3 a y r ∧ Q (r.getD z) H3
theorem pe_get2N {e f : Expr} {tz : TE} {apos cpos : Pos} (hu : X.A.units + 9 < cLine) (ho : PE X o td) (he : PE X e ty) (hf : PE X f tz) (m : M2 X o "get" apos e f cpos) : PE X (.Call (.Attribute o "get" apos) [e, f] [] cpos) (tGet2N X td ty tz) := by
  refine ⟨fun pins s σ H Q I h => ?_⟩
  refine wpAny_Call_method m.base m.few m.line PySem.F.plainAttrs_dict PySem.F.slot_dict_get PySem.F.type_dict_get (thn (ho.run pins s σ H _ I h) fun u s1 z1 => ?_)
  obtain ⟨x, H1, I1, rx, ⟨a, es, rfl, e1⟩, q1⟩ := z1
  obtain rfl : u = Value.ref a := rx
  obtain ⟨t1, t2⟩ := isDN_at I1 e1
  refine ⟨t1, t2, ?_⟩
  rw [m.trees]
  refine Calls.callWith_builtin rfl (Calls.evalArgs_plain (Calls.spliced_cons (thn (he.run pins s1 σ H1 _ I1 q1) fun iv s2 z2 => ?_)))
  obtain ⟨y, H2, I2, ry, q2⟩ := z2
  refine Calls.spliced_cons (thn (hf.run pins s2 σ H2 _ I2 q2) fun fv s3 z3 => Calls.spliced_nil ?_)
  obtain ⟨z, H3, I3, rz, a', r, ea, g, q3⟩ := z3
  cases ea
  exact dn_get2 hu I3 g ry rz fun w' s4 I4 rw' => ⟨_, H3, I4, rw', q3⟩
end
end Ev
end
section
set_option maxHeartbeats 1000000
namespace Ev
open PySem PySem.Spec PyProof.Rows L2

/-- the world at hand -/
class WW where
  w : World
  tb : List (Addr × Str)
/-! ## kinds of objects -/
def NT (o : HO) : Prop := ∀ ps, o ≠ .tbl ps
/-- neither a table nor a code object -/
def Plain (o : HO) : Prop := NT o ∧ ∀ c q, o ≠ LamX.CodeO c q
theorem plain_lst (vs : List V) : Plain (.lst vs) := ⟨(by intro _ h; cases h), fun _ _ h => by cases h⟩
theorem plain_dK (vs) : Plain (.dK vs) := ⟨(by intro _ h; cases h), fun _ _ h => by cases h⟩
theorem nt_dct (w : World) (a : Addr) (es : List NEnt) : NT (DctO w a es) := by intro _ h; cases h
theorem nt_code (a : Addr) (q : Str) : NT (LamX.CodeO a q) := by intro _ h; cases h
theorem plain_dct (w : World) (a : Addr) (es : List NEnt) : Plain (DctO w a es) := by
  refine ⟨nt_dct w a es, fun c q h => ?_⟩
  unfold DctO LamX.CodeO at h
  injection h with h
  have ob : ∃ ob : Obj, ob.data = .fields #[.none, .str q 0] := ⟨{ cls := .none, data := .fields #[.none, .str q 0] }, rfl⟩
  obtain ⟨ob, hob⟩ := ob
  have hg : ∀ b o, ({ objs := Array.replicate (c + 1) ob } : Heap).get? b = some o → o = ob := fun b o e => by
    unfold Heap.get? at e
    simp only [Array.getElem?_replicate] at e
    by_cases hb : b < c + 1
    · rw [if_pos hb] at e
      obtain ⟨k1, k2, k3, k4⟩ := ob
      cases hob
      exact (Option.some.inj e).symm
    · rw [if_neg hb] at e
      cases e
  have h0 := congrFun h ({ objs := Array.replicate (c + 1) ob } : Heap)
  have hc : ({ objs := Array.replicate (c + 1) ob } : Heap).get? c = some ob := by
    unfold Heap.get?
    simp only [Array.getElem?_replicate]
    rw [if_pos (Nat.lt_succ_self c)]
    obtain ⟨k1, k2, k3, k4⟩ := ob
    cases hob
    rfl
  have := h0.mpr ⟨ob, _, 0, hc, hob, rfl⟩
  obtain ⟨_, _, _, _, _, o, ar, ep, e1, _, e2, _⟩ := this
  rw [hg _ _ e1, hob] at e2
  cases e2
theorem tabs_upd {T : List (Addr × Str)} {H : Hp} {l : Addr} {o1 : HO} (t : LamX.Tabs T H) (h : ∀ o, H l = some o → Plain o) : LamX.Tabs T (upd H l o1) := fun p hp => by
  obtain ⟨ps, h1, h2, h3⟩ := t p hp
  refine ⟨ps, ?_, h2, fun pos cv hc => ?_⟩
  · have z : p.1 ≠ l := fun z => (h _ (by rw [← z]; exact h1)).1 ps rfl
    rw [upd_ne z]
    exact h1
  · obtain ⟨c, e1, e2⟩ := h3 pos cv hc
    refine ⟨c, e1, ?_⟩
    have z : c ≠ l := fun z => (h _ (by rw [← z]; exact e2)).2 _ _ rfl
    rw [upd_ne z]
    exact e2
theorem tabs_new {T : List (Addr × Str)} {H : Hp} {l : Addr} {o1 : HO} (t : LamX.Tabs T H) (h : H l = none) : LamX.Tabs T (upd H l o1) := tabs_upd t fun o e => by rw [h] at e; cases e
variable [WW]
/-! ## what stands for a pure value -/
def toStr (x : List Nat) : Str := ⟨x.toArray⟩
/-- the cells' addresses; those that are kept, but that nothing else may be -/
structure Ads where
  ad : List Addr
  rs : List Addr
def Live (L : Ads) (S : Store) (a : Addr) : Prop := ∃ (n : Nat) (c : Cell), S[n]? = some (some c) ∧ L.ad[n]? = some a
def Lv (L : Ads) (S : Store) (a : Addr) : Prop := Live L S a ∨ a ∈ L.rs
/-- a tuple (a list) that is never written again: tracked and not live, or of the written part -/
def TupAt (K : PySem.W.Frag) (H : Hp) (W : Addr → Prop) (a : Addr) (vs : List V) : Prop :=
  (Rd H a (.tup vs) ∧ ¬ W a) ∨ ∃ (o : Obj) (its : Array Value) (n : Nat), K.lookup a = some o ∧ o.cls = .type "tuple" ∧ o.data = .seq its n ∧ its.size ≤ sizeLine ∧ Vals vs its.toList
def LstAt (K : PySem.W.Frag) (H : Hp) (W : Addr → Prop) (a : Addr) (vs : List V) : Prop :=
  (Rd H a (.lst vs) ∧ ¬ W a) ∨ ∃ (o : Obj) (its : Array Value) (n : Nat), K.lookup a = some o ∧ o.cls = .type "list" ∧ o.dict = none ∧ o.data = .seq its n ∧ its.size ≤ sizeLine ∧ Vals vs its.toList
mutual
/-- a datum as a dict's key -/
def nkOf : PV → Option NestedKey
  | .non => some .none
  | .bl b => some (.num (if b then 1 else 0))
  | .int i => some (.num i)
  | .str x => some (.text (toStr x))
  | .tup xs => (nksOf xs).map .tup
  | _ => none
def nksOf : List PV → Option (List NestedKey)
  | [] => some []
  | x :: xs => (nkOf x).bind fun k => (nksOf xs).map (k :: ·)
end
/-- the class of a name; its fields -/
def clsA (K : PySem.W.Frag) (c : String) : Addr := He.ga K (Str.ofString c)
def fldS (c : String) : List Str := (fldNames c).map Str.ofString
/-- the keys of entries are those of some data -/
def KeysOf (ks : List PV) (es : List NEnt) : Prop := ks.map nkOf = es.map (fun e => some e.1) ∧ ∀ e ∈ es, e.1.depth ≤ 8
mutual
def Rep (K : PySem.W.Frag) (H : Hp) (W : Addr → Prop) : PV → V → Prop
  | .non, v => v = .non
  | .bl b, v => v = .bl b
  | .int i, v => v = .int i
  | .str x, v => v = .str (toStr x)
  | .tup xs, v => ∃ a vs, v = .ref a ∧ TupAt K H W a vs ∧ Reps K H W xs vs
  | .lst xs, v => ∃ a vs, v = .ref a ∧ LstAt K H W a vs ∧ Reps K H W xs vs
  | .dct ks xs, v => ∃ a es, v = .ref a ∧ (H a = some (DctO WW.w a es) ∧ ¬ W a) ∧ KeysOf ks es ∧ Reps K H W ks (es.map fun e => .ref e.2.1) ∧ Reps K H W xs (es.map fun e => e.2.2)
  | .obj c fs, v => ∃ a dx vs, v = .ref a ∧ (H a = some (.ins (clsA K c) dx ((fldS c).zip vs)) ∧ ¬ W a) ∧ fs.length = (fldNames c).length ∧ Reps K H W fs vs
def Reps (K : PySem.W.Frag) (H : Hp) (W : Addr → Prop) : List PV → List V → Prop
  | [], vs => vs = []
  | x :: xs, vs => ∃ v r, vs = v :: r ∧ Rep K H W x v ∧ Reps K H W xs r
end
/-- what a step keeps -/
def Keeps (H : Hp) (W : Addr → Prop) (H' : Hp) (W' : Addr → Prop) : Prop := ∀ a o, NT o → H a = some o → ¬ W a → H' a = some o ∧ ¬ W' a
section
variable {K : PySem.W.Frag} {H H' : Hp} {W W' : Addr → Prop}
theorem TupAt.sq {a : Addr} {vs : List V} (h : TupAt K H W a vs) : SqT K H a vs := by
  rcases h with h | h
  · exact .inl h.1
  · exact .inr h
theorem LstAt.sq {a : Addr} {vs : List V} (h : LstAt K H W a vs) : SqL K H a vs := by
  rcases h with h | h
  · exact .inl h.1
  · exact .inr h
theorem Rd.keeps {a : Addr} {u : HO} (h : Rd H a u) (nu : NT u) (nw : ¬ W a) (k : Keeps H W H' W') : Rd H' a u ∧ ¬ W' a := by
  rcases h with h | ⟨o, h⟩
  · exact ⟨.inl (k a _ nu h nw).1, (k a _ nu h nw).2⟩
  · exact ⟨.inr ⟨o, (k a _ (by intro _ h; cases h) h nw).1⟩, (k a _ (by intro _ h; cases h) h nw).2⟩
theorem TupAt.keeps {a : Addr} {vs : List V} (h : TupAt K H W a vs) (k : Keeps H W H' W') : TupAt K H' W' a vs := by
  rcases h with ⟨h1, h2⟩ | h
  · exact .inl (Rd.keeps h1 (by intro _ h; cases h) h2 k)
  · exact .inr h
theorem LstAt.keeps {a : Addr} {vs : List V} (h : LstAt K H W a vs) (k : Keeps H W H' W') : LstAt K H' W' a vs := by
  rcases h with ⟨h1, h2⟩ | h
  · exact .inl (Rd.keeps h1 (by intro _ h; cases h) h2 k)
  · exact .inr h
mutual
theorem Rep.keeps (k : Keeps H W H' W') : ∀ (p : PV) (v : V), Rep K H W p v → Rep K H' W' p v
  | .non, _, h => h
  | .bl _, _, h => h
  | .int _, _, h => h
  | .str _, _, h => h
  | .tup xs, v, h => by
    obtain ⟨a, vs, e, h1, h2⟩ := h
    exact ⟨a, vs, e, h1.keeps k, Reps.keeps k xs vs h2⟩
  | .lst xs, v, h => by
    obtain ⟨a, vs, e, h1, h2⟩ := h
    exact ⟨a, vs, e, h1.keeps k, Reps.keeps k xs vs h2⟩
  | .dct ks xs, v, h => by
    obtain ⟨a, es, e, h1, h2, h3, h4⟩ := h
    exact ⟨a, es, e, k a _ (nt_dct _ _ _) h1.1 h1.2, h2, Reps.keeps k ks _ h3, Reps.keeps k xs _ h4⟩
  | .obj c fs, v, h => by
    obtain ⟨a, dx, vs, e, h1, h2, h3⟩ := h
    exact ⟨a, dx, vs, e, k a _ (by intro _ h; cases h) h1.1 h1.2, h2, Reps.keeps k fs vs h3⟩
theorem Reps.keeps (k : Keeps H W H' W') : ∀ (p : List PV) (v : List V), Reps K H W p v → Reps K H' W' p v
  | [], _, h => h
  | x :: xs, vs, h => by
    obtain ⟨v, r, e, h1, h2⟩ := h
    exact ⟨v, r, e, Rep.keeps k x v h1, Reps.keeps k xs r h2⟩
end
theorem Reps.length : ∀ {p : List PV} {v : List V}, Reps K H W p v → p.length = v.length
  | [], _, h => by cases h; rfl
  | x :: xs, vs, h => by
    obtain ⟨v, r, e, h1, h2⟩ := h
    rw [e, List.length_cons, List.length_cons, Reps.length h2]
theorem Reps.get : ∀ {p : List PV} {v : List V} {i : Nat} {x : PV}, Reps K H W p v → p[i]? = some x → ∃ u, v[i]? = some u ∧ Rep K H W x u
  | [], _, _, _, _, e => by simp at e
  | x :: xs, vs, i, y, h, e => by
    obtain ⟨v, r, ev, h1, h2⟩ := h
    subst ev
    cases i with
    | zero => simp at e; subst e; exact ⟨v, rfl, h1⟩
    | succ i => simpa using Reps.get (i := i) h2 (by simpa using e)
theorem Reps.append : ∀ {p q : List PV} {v w : List V}, Reps K H W p v → Reps K H W q w → Reps K H W (p ++ q) (v ++ w)
  | [], _, _, _, h, h' => by cases h; exact h'
  | x :: xs, _, _, _, h, h' => by
    obtain ⟨v, r, ev, h1, h2⟩ := h
    subst ev
    exact ⟨v, _, rfl, h1, Reps.append h2 h'⟩
theorem Reps.take : ∀ {p : List PV} {v : List V} (n : Nat), Reps K H W p v → Reps K H W (p.take n) (v.take n)
  | _, _, 0, _ => rfl
  | [], _, n + 1, h => by cases h; rfl
  | x :: xs, _, n + 1, h => by
    obtain ⟨v, r, ev, h1, h2⟩ := h
    subst ev
    exact ⟨v, _, rfl, h1, Reps.take n h2⟩
theorem Reps.drop : ∀ {p : List PV} {v : List V} (n : Nat), Reps K H W p v → Reps K H W (p.drop n) (v.drop n)
  | _, _, 0, h => h
  | [], _, n + 1, h => by cases h; rfl
  | x :: xs, _, n + 1, h => by
    obtain ⟨v, r, ev, h1, h2⟩ := h
    subst ev
    exact Reps.drop n h2
theorem Reps.snoc {p : List PV} {v : List V} {x : PV} {u : V} (h : Reps K H W p v) (hx : Rep K H W x u) : Reps K H W (p ++ [x]) (v ++ [u]) :=
  Reps.append h ⟨u, [], rfl, hx, rfl⟩
end

/-! ## the store -/
def CellRep (K : PySem.W.Frag) (H : Hp) (W : Addr → Prop) : Cell → Addr → Prop
  | .lst xs, a => ∃ vs, H a = some (.lst vs) ∧ Reps K H W xs vs
  | .dct ks xs, a => ∃ es, H a = some (DctO WW.w a es) ∧ KeysOf ks es ∧ Reps K H W ks (es.map fun e => .ref e.2.1) ∧ Reps K H W xs (es.map fun e => e.2.2)
  | .sdc ks xs, a => ∃ kvs, H a = some (.dK kvs) ∧ kvs.map (·.1) = ks.map (fun x => Sum.inr (toStr x)) ∧ Reps K H W xs (kvs.map (·.2))
structure Heaps (K : PySem.W.Frag) (H : Hp) (L : Ads) (S : Store) : Prop where
  len : L.ad.length = S.length
  res : ∀ a ∈ L.rs, ∃ o, H a = some o ∧ Plain o
  sep : ∀ a ∈ L.rs, ¬ Live L S a
  cell : ∀ (n : Nat) (c : Cell) (a : Addr), S[n]? = some (some c) → L.ad[n]? = some a → CellRep K H (Lv L S) c a
  inj : ∀ (m n : Nat) (c d : Cell) (a : Addr), S[m]? = some (some c) → S[n]? = some (some d) → L.ad[m]? = some a → L.ad[n]? = some a → m = n
  tbs : LamX.Tabs WW.tb H
structure Step (H : Hp) (L : Ads) (S : Store) (H' : Hp) (L' : Ads) (S' : Store) : Prop where
  kept : Keeps H (Live L S) H' (Live L' S')
  pre : ∃ t, L'.ad = L.ad ++ t
  rs : L'.rs = L.rs
theorem Step.keep {H : Hp} {L : Ads} {S : Store} {H' : Hp} {L' : Ads} {S' : Store} (st : Step H L S H' L' S') : Keeps H (Lv L S) H' (Lv L' S') := fun a o nt e n => by
  obtain ⟨h1, h2⟩ := st.kept a o nt e fun l => n (.inl l)
  refine ⟨h1, fun l => ?_⟩
  rcases l with l | l
  · exact h2 l
  · rw [st.rs] at l
    exact n (.inr l)
def RepS (K : PySem.W.Frag) (H : Hp) (L : Ads) (S : Store) : Sl → V → Prop
  | .val p, v => Rep K H (Lv L S) p v
  | .cell n, v => ∃ a, L.ad[n]? = some a ∧ v = .ref a
def RepSs (K : PySem.W.Frag) (H : Hp) (L : Ads) (S : Store) : List Sl → List V → Prop
  | [], vs => vs = []
  | x :: xs, vs => ∃ v r, vs = v :: r ∧ RepS K H L S x v ∧ RepSs K H L S xs r
/-- the slots -/
def Slots (K : PySem.W.Frag) (H : Hp) (L : Ads) (S : Store) (σp : Lo) (σ : Sx) : Prop :=
  σp.length = σ.length ∧ ∀ (i : Nat) (s : Sl), σp[i]? = some (some s) → ∃ v, σ[i]? = some (some v) ∧ RepS K H L S s v
section
variable {K : PySem.W.Frag} {H H' H3 : Hp} {L L' L3 : Ads} {S S' S3 : Store}
theorem Step.refl : Step H L S H L S := ⟨fun _ _ _ h n => ⟨h, n⟩, ⟨[], by simp⟩, rfl⟩
theorem Step.trans (a : Step H L S H' L' S') (b : Step H' L' S' H3 L3 S3) : Step H L S H3 L3 S3 := by
  refine ⟨fun x o nt h n => ?_, ?_, b.rs.trans a.rs⟩
  · obtain ⟨h1, n1⟩ := a.kept x o nt h n
    exact b.kept x o nt h1 n1
  · obtain ⟨t, e⟩ := a.pre
    obtain ⟨u, e2⟩ := b.pre
    exact ⟨t ++ u, by rw [e2, e, List.append_assoc]⟩
theorem RepS.step (st : Step H L S H' L' S') : ∀ {s : Sl} {v : V}, RepS K H L S s v → RepS K H' L' S' s v
  | .val p, v, h => Rep.keeps st.keep p v h
  | .cell n, v, h => by
    obtain ⟨a, e, ev⟩ := h
    obtain ⟨t, et⟩ := st.pre
    refine ⟨a, ?_, ev⟩
    rw [et]
    exact (List.getElem?_append_left (List.getElem?_eq_some_iff.mp e).1).trans e
theorem RepSs.step (st : Step H L S H' L' S') : ∀ {s : List Sl} {v : List V}, RepSs K H L S s v → RepSs K H' L' S' s v
  | [], _, h => h
  | x :: xs, vs, h => by
    obtain ⟨v, r, e, h1, h2⟩ := h
    exact ⟨v, r, e, h1.step st, RepSs.step st h2⟩
theorem Slots.step (st : Step H L S H' L' S') {σp : Lo} {σ : Sx} (h : Slots K H L S σp σ) : Slots K H' L' S' σp σ :=
  ⟨h.1, fun i s e => by
    obtain ⟨v, ev, r⟩ := h.2 i s e
    exact ⟨v, ev, r.step st⟩⟩
theorem Slots.set {σp : Lo} {σ : Sx} (h : Slots K H L S σp σ) {s : Sl} {v : V} (r : RepS K H L S s v) (i : Nat) : Slots K H L S (σp.set i (some s)) (σ.set i (some v)) := by
  refine ⟨by simp [h.1], fun j s' e => ?_⟩
  by_cases hj : i = j
  · subst hj
    by_cases hl : i < σp.length
    · rw [List.getElem?_set_self hl] at e
      cases e
      exact ⟨v, List.getElem?_set_self (by rw [← h.1]; exact hl), r⟩
    · rw [List.getElem?_eq_none (by simpa using hl)] at e
      cases e
  · rw [List.getElem?_set_ne hj] at e
    obtain ⟨v', ev, r'⟩ := h.2 j s' e
    exact ⟨v', by rw [List.getElem?_set_ne hj]; exact ev, r'⟩
theorem Slots.unset {σp : Lo} {σ : Sx} (h : Slots K H L S σp σ) (i : Nat) (o : Option V) : Slots K H L S (σp.set i none) (σ.set i o) := by
  refine ⟨by simp [h.1], fun j s' e => ?_⟩
  by_cases hj : i = j
  · subst hj
    by_cases hl : i < σp.length
    · rw [List.getElem?_set_self hl] at e
      cases e
    · rw [List.getElem?_eq_none (by simpa using hl)] at e
      cases e
  · rw [List.getElem?_set_ne hj] at e
    obtain ⟨v', ev, r'⟩ := h.2 j s' e
    exact ⟨v', by rw [List.getElem?_set_ne hj]; exact ev, r'⟩
/-- what is live is tracked -/
theorem Heaps.liveP (h : Heaps K H L S) {a : Addr} (l : Live L S a) : ∃ o, H a = some o ∧ Plain o := by
  obtain ⟨n, c, e1, e2⟩ := l
  have q := h.cell n c a e1 e2
  cases c with
  | lst xs => obtain ⟨vs, e, _⟩ := q; exact ⟨_, e, plain_lst _⟩
  | dct ks vs => obtain ⟨es, e, _⟩ := q; exact ⟨_, e, plain_dct _ _ _⟩
  | sdc ks vs => obtain ⟨es, e, _⟩ := q; exact ⟨_, e, plain_dK _⟩
theorem Heaps.live (h : Heaps K H L S) {a : Addr} (l : Live L S a) : ∃ o, H a = some o := by
  obtain ⟨o, e, _⟩ := h.liveP l
  exact ⟨o, e⟩
theorem Heaps.lvP (h : Heaps K H L S) {a : Addr} (l : Lv L S a) : ∃ o, H a = some o ∧ Plain o := by
  rcases l with l | l
  · exact h.liveP l
  · exact h.res a l
theorem Heaps.lv (h : Heaps K H L S) {a : Addr} (l : Lv L S a) : ∃ o, H a = some o := by
  obtain ⟨o, e, _⟩ := h.lvP l
  exact ⟨o, e⟩
theorem CellRep.keeps {W W' : Addr → Prop} {c : Cell} {a : Addr} (h : CellRep K H W c a) (k : Keeps H W H' W') (e : ∀ o, H a = some o → H' a = some o) : CellRep K H' W' c a := by
  cases c with
  | lst xs => obtain ⟨vs, e1, r⟩ := h; exact ⟨vs, e _ e1, Reps.keeps k xs vs r⟩
  | dct ks vs => obtain ⟨es, e1, h2, h3, h4⟩ := h; exact ⟨es, e _ e1, h2, Reps.keeps k ks _ h3, Reps.keeps k vs _ h4⟩
  | sdc ks vs => obtain ⟨es, e1, h2, h3⟩ := h; exact ⟨es, e _ e1, h2, Reps.keeps k vs _ h3⟩
/-- a new object is laid -/
theorem Heaps.laid {p : Addr} {o : HO} (h : Heaps K H L S) (n : H p = none) : Heaps K (upd H p o) L S ∧ Step H L S (upd H p o) L S := by
  have st : Step H L S (upd H p o) L S := ⟨fun a u _ e nl => ⟨by rw [upd_ne (ne_of_none e n)]; exact e, nl⟩, ⟨[], by simp⟩, rfl⟩
  refine ⟨⟨h.len, fun a ha => ?_, h.sep, fun m c a e1 e2 => ?_, h.inj, tabs_new h.tbs n⟩, st⟩
  · obtain ⟨u, e, pl⟩ := h.res a ha
    exact ⟨u, by rw [upd_ne (ne_of_none e n)]; exact e, pl⟩
  refine (h.cell m c a e1 e2).keeps st.keep fun u e => ?_
  rw [upd_ne (ne_of_none e n)]
  exact e
/-- more is laid -/
theorem Heaps.more (h : Heaps K H L S) (m : ∀ b o, NT o → H b = some o → H' b = some o) (t : LamX.Tabs WW.tb H') : Heaps K H' L S ∧ Step H L S H' L S := by
  have st : Step H L S H' L S := ⟨fun a u nt e nl => ⟨m a u nt e, nl⟩, ⟨[], by simp⟩, rfl⟩
  refine ⟨⟨h.len, fun a ha => ?_, h.sep, fun n c a e1 e2 => (h.cell n c a e1 e2).keeps st.keep fun o e => ?_, h.inj, t⟩, st⟩
  · obtain ⟨u, e, pl⟩ := h.res a ha
    exact ⟨u, m a u pl.1 e, pl⟩
  · obtain ⟨u, e', pl⟩ := h.liveP ⟨n, c, e1, e2⟩
    rw [e] at e'
    cases e'
    exact m a o pl.1 e
theorem live_set {n : Nat} {c c' : Cell} {a : Addr} (h : S[n]? = some (some c)) : Live L (S.set n (some c')) a ↔ Live L S a := by
  have hn : n < S.length := (List.getElem?_eq_some_iff.mp h).1
  constructor
  · rintro ⟨m, d, e1, e2⟩
    by_cases z : n = m
    · subst z; exact ⟨n, c, h, e2⟩
    · rw [List.getElem?_set_ne z] at e1; exact ⟨m, d, e1, e2⟩
  · rintro ⟨m, d, e1, e2⟩
    by_cases z : n = m
    · subst z; exact ⟨n, c', List.getElem?_set_self hn, e2⟩
    · exact ⟨m, d, by rw [List.getElem?_set_ne z]; exact e1, e2⟩
/-- a live cell is rewritten -/
theorem Heaps.writeC (h : Heaps K H L S) {n : Nat} {l : Addr} {c0 c1 : Cell} {o1 : HO} (e1 : S[n]? = some (some c0)) (e2 : L.ad[n]? = some l) (r : ∀ H' W', Keeps H (Lv L S) H' W' → H' l = some o1 → CellRep K H' W' c1 l) :
    Heaps K (upd H l o1) L (S.set n (some c1)) ∧ Step H L S (upd H l o1) L (S.set n (some c1)) := by
  have hn : n < S.length := (List.getElem?_eq_some_iff.mp e1).1
  have lv : ∀ a, Lv L (S.set n (some c1)) a ↔ Lv L S a := fun a => or_congr (live_set e1) Iff.rfl
  have ll : Live L S l := ⟨n, _, e1, e2⟩
  have st : Step H L S (upd H l o1) L (S.set n (some c1)) := by
    refine ⟨fun a o _ ea na => ?_, ⟨[], by simp⟩, rfl⟩
    have : a ≠ l := fun z => na (by rw [z]; exact ll)
    exact ⟨by rw [upd_ne this]; exact ea, fun z => na ((live_set e1).mp z)⟩
  refine ⟨⟨by rw [List.length_set]; exact h.len, fun a ha => ?_, fun a ha z => h.sep a ha ((live_set e1).mp z), fun m c a q1 q2 => ?_, fun m m' c d a q1 q2 q3 q4 => ?_, tabs_upd h.tbs fun o e => ?_⟩, st⟩
  rotate_right
  · obtain ⟨u, e', pl⟩ := h.liveP ll
    rw [e] at e'
    cases e'
    exact pl
  · have : a ≠ l := fun z => h.sep a ha (by rw [z]; exact ll)
    obtain ⟨u, e, pl⟩ := h.res a ha
    exact ⟨u, by rw [upd_ne this]; exact e, pl⟩
  · by_cases z : n = m
    · subst z
      rw [List.getElem?_set_self hn] at q1
      cases q1
      rw [e2] at q2
      cases q2
      exact r _ _ st.keep upd_same
    · rw [List.getElem?_set_ne z] at q1
      have : a ≠ l := fun y => z (h.inj n m _ _ a e1 q1 (by rw [y]; exact e2) q2)
      exact (h.cell m c a q1 q2).keeps st.keep fun u e => by rw [upd_ne this]; exact e
  · have up : ∀ {k : Nat} {c : Cell}, (S.set n (some c1))[k]? = some (some c) → ∃ c', S[k]? = some (some c') := fun {k c} q => by
      by_cases z : n = k
      · subst z; exact ⟨_, e1⟩
      · rw [List.getElem?_set_ne z] at q; exact ⟨_, q⟩
    obtain ⟨c', p1⟩ := up q1
    obtain ⟨d', p2⟩ := up q2
    exact h.inj m m' c' d' a p1 p2 q3 q4
/-- a live list is rewritten -/
theorem Heaps.write (h : Heaps K H L S) {n : Nat} {l : Addr} {xs xs' : List PV} {vs' : List V} (e1 : S[n]? = some (some (.lst xs))) (e2 : L.ad[n]? = some l) (r : Reps K H (Lv L S) xs' vs') :
    Heaps K (upd H l (.lst vs')) L (S.set n (some (.lst xs'))) ∧ Step H L S (upd H l (.lst vs')) L (S.set n (some (.lst xs'))) :=
  h.writeC e1 e2 fun H' W' k e => ⟨vs', e, Reps.keeps k xs' vs' r⟩
theorem live_snoc {a b : Addr} {c : Cell} (hl : L.ad.length = S.length) : Live ⟨L.ad ++ [a], L.rs⟩ (S ++ [some c]) b ↔ Live L S b ∨ b = a := by
  constructor
  · rintro ⟨m, d, e1, e2⟩
    have e2 : (L.ad ++ [a])[m]? = some b := e2
    by_cases z : m < S.length
    · rw [List.getElem?_append_left z] at e1
      rw [List.getElem?_append_left (by omega)] at e2
      exact .inl ⟨m, d, e1, e2⟩
    · have hm : m < (S ++ [some c]).length := (List.getElem?_eq_some_iff.mp e1).1
      rw [List.length_append, List.length_singleton] at hm
      have : m = L.ad.length := by omega
      subst this
      rw [List.getElem?_append_right (Nat.le_refl _), Nat.sub_self] at e2
      cases e2
      exact .inr rfl
  · rintro (⟨m, d, e1, e2⟩ | z)
    · refine ⟨m, d, ?_, ?_⟩
      · rw [List.getElem?_append_left (List.getElem?_eq_some_iff.mp e1).1]; exact e1
      · show (L.ad ++ [a])[m]? = some b
        rw [List.getElem?_append_left (List.getElem?_eq_some_iff.mp e2).1]; exact e2
    · subst z
      refine ⟨S.length, c, ?_, ?_⟩
      · rw [List.getElem?_append_right (Nat.le_refl _), Nat.sub_self]; rfl
      · show (L.ad ++ [b])[S.length]? = some b
        rw [← hl, List.getElem?_append_right (Nat.le_refl _), Nat.sub_self]; rfl
/-- what is held becomes a cell -/
theorem Heaps.bornC {D : Addr} {R : List Addr} {c0 : Cell} (h : Heaps K H L S) (er : L.rs = D :: R) (nr : D ∉ R) (r : CellRep K H (Lv L S) c0 D) : Heaps K H ⟨L.ad ++ [D], R⟩ (S ++ [some c0]) := by
  have hD : D ∈ L.rs := by rw [er]; exact List.mem_cons_self
  have nD := h.sep D hD
  have lv : ∀ b, Lv ⟨L.ad ++ [D], R⟩ (S ++ [some c0]) b ↔ Lv L S b := fun b => by
    unfold Lv
    rw [show Live ⟨L.ad ++ [D], R⟩ (S ++ [some c0]) b ↔ Live L S b ∨ b = D from live_snoc (L := ⟨L.ad, R⟩) h.len, er, List.mem_cons, or_assoc]
  have kp : Keeps H (Lv L S) H (Lv ⟨L.ad ++ [D], R⟩ (S ++ [some c0])) := fun a o _ ea na => ⟨ea, fun z => na ((lv a).mp z)⟩
  have at_ : ∀ {m : Nat} {c : Cell} {a : Addr}, (S ++ [some c0])[m]? = some (some c) → (L.ad ++ [D])[m]? = some a → (S[m]? = some (some c) ∧ L.ad[m]? = some a) ∨ (m = S.length ∧ c = c0 ∧ a = D) := fun {m c a} q1 q2 => by
    by_cases z : m < S.length
    · rw [List.getElem?_append_left z] at q1
      rw [List.getElem?_append_left (by rw [h.len]; exact z)] at q2
      exact .inl ⟨q1, q2⟩
    · have hm : m < (S ++ [some c0]).length := (List.getElem?_eq_some_iff.mp q1).1
      rw [List.length_append, List.length_singleton] at hm
      have hm' : m = S.length := by omega
      subst hm'
      rw [List.getElem?_append_right (Nat.le_refl _), Nat.sub_self] at q1
      rw [← h.len, List.getElem?_append_right (Nat.le_refl _), Nat.sub_self] at q2
      cases q1
      cases q2
      exact .inr ⟨rfl, rfl, rfl⟩
  refine ⟨?_, fun a ha => h.res a (by rw [er]; exact List.mem_cons_of_mem _ ha), fun a ha z => ?_, fun m c a q1 q2 => ?_, fun m m' c d a q1 q2 q3 q4 => ?_, h.tbs⟩
  · show (L.ad ++ [D]).length = _
    rw [List.length_append, List.length_append, h.len]
    rfl
  · rcases (live_snoc (L := ⟨L.ad, R⟩) h.len).mp z with z | z
    · exact h.sep a (by rw [er]; exact List.mem_cons_of_mem _ ha) z
    · rw [z] at ha; exact nr ha
  · rcases at_ q1 q2 with ⟨p1, p2⟩ | ⟨_, rfl, rfl⟩
    · exact (h.cell m c a p1 p2).keeps kp fun _ z => z
    · exact r.keeps kp fun _ z => z
  · rcases at_ q1 q3 with ⟨p1, p2⟩ | ⟨rfl, _, rfl⟩ <;> rcases at_ q2 q4 with ⟨p3, p4⟩ | ⟨z, _, y⟩
    · exact h.inj m m' c d a p1 p3 p2 p4
    · subst y; exact absurd ⟨m, c, p1, p2⟩ nD
    · exact absurd ⟨m', d, p3, p4⟩ nD
    · exact z.symm
theorem Heaps.born {D : Addr} {R : List Addr} {xs : List PV} {vs : List V} (h : Heaps K H L S) (er : L.rs = D :: R) (nr : D ∉ R) (e : H D = some (.lst vs)) (r : Reps K H (Lv L S) xs vs) : Heaps K H ⟨L.ad ++ [D], R⟩ (S ++ [some (.lst xs)]) :=
  h.bornC er nr ⟨vs, e, r⟩
end
section
variable {K : PySem.W.Frag} {H : Hp} {L : Ads} {S : Store} {D : Addr}
abbrev Ads.hold (L : Ads) (D : Addr) : Ads := ⟨L.ad, D :: L.rs⟩
theorem Keeps.hold {H' : Hp} {L' : Ads} {S' : Store} (k : Keeps H (Live L S) H' (Live L' S')) (hD : H D = none) (e : L'.rs = D :: L.rs) : Keeps H (Lv L S) H' (Lv L' S') := fun a o nt ea n => by
  obtain ⟨h1, h2⟩ := k a o nt ea fun l => n (.inl l)
  refine ⟨h1, fun l => ?_⟩
  rcases l with l | l
  · exact h2 l
  · rw [e] at l
    rcases List.mem_cons.mp l with z | z
    · rw [z, hD] at ea
      cases ea
    · exact n (.inr z)
theorem live_hold {a : Addr} : Live (L.hold D) S a ↔ Live L S a := Iff.rfl
theorem Heaps.hold (h : Heaps K H L S) (hD : H D = none) (o : HO) (po : Plain o) : Heaps K (upd H D o) (L.hold D) S ∧ Keeps H (Live L S) (upd H D o) (Live (L.hold D) S) := by
  have kp : Keeps H (Live L S) (upd H D o) (Live (L.hold D) S) := fun a u _ e n => ⟨by rw [upd_ne (ne_of_none e hD)]; exact e, n⟩
  refine ⟨⟨h.len, fun a ha => ?_, fun a ha l => ?_, fun n c a e1 e2 => ?_, h.inj, tabs_new h.tbs hD⟩, kp⟩
  · rcases List.mem_cons.mp ha with z | z
    · exact ⟨o, by rw [z]; exact upd_same, po⟩
    · obtain ⟨u, e, pl⟩ := h.res a z
      exact ⟨u, by rw [upd_ne (ne_of_none e hD)]; exact e, pl⟩
  · rcases List.mem_cons.mp ha with z | z
    · obtain ⟨u, e⟩ := h.live (a := a) l
      rw [z, hD] at e
      cases e
    · exact h.sep a z l
  · refine (h.cell n c a e1 e2).keeps (kp.hold hD rfl) fun u e => ?_
    rw [upd_ne (ne_of_none e hD)]
    exact e
/-- the list grows -/
theorem Heaps.grow {R : List Addr} (h : Heaps K H L S) (e : L.rs = D :: R) (o : HO) (po : Plain o) : Heaps K (upd H D o) L S ∧ Keeps H (Lv L S) (upd H D o) (Lv L S) := by
  have mD : D ∈ L.rs := by rw [e]; exact List.mem_cons_self
  have kp : Keeps H (Lv L S) (upd H D o) (Lv L S) := fun a u _ ea n => ⟨by rw [upd_ne fun z => n (.inr (by rw [z]; exact mD))]; exact ea, n⟩
  refine ⟨⟨h.len, fun a ha => ?_, h.sep, fun n c a e1 e2 => ?_, h.inj, tabs_upd h.tbs fun u ea => ?_⟩, kp⟩
  rotate_right
  · obtain ⟨u', e', pl⟩ := h.res D mD
    rw [ea] at e'
    cases e'
    exact pl
  · obtain ⟨u, ea, pl⟩ := h.res a ha
    by_cases z : a = D
    · exact ⟨o, by rw [z]; exact upd_same, po⟩
    · exact ⟨u, by rw [upd_ne z]; exact ea, pl⟩
  · refine (h.cell n c a e1 e2).keeps kp fun u ea => ?_
    rw [upd_ne fun z => h.sep D mD (by rw [← z]; exact ⟨n, c, e1, e2⟩)]
    exact ea
/-- what is held is let go -/
theorem Heaps.drop {R : List Addr} (h : Heaps K H L S) (e : L.rs = D :: R) : Heaps K H ⟨L.ad, R⟩ S ∧ Keeps H (Lv L S) H (Lv ⟨L.ad, R⟩ S) := by
  have down : Keeps H (Lv L S) H (Lv ⟨L.ad, R⟩ S) := fun b o _ eb nb => ⟨eb, fun l => nb (by rcases l with l | l; exact .inl l; exact .inr (by rw [e]; exact List.mem_cons_of_mem _ l))⟩
  exact ⟨⟨h.len, fun a ha => h.res a (by rw [e]; exact List.mem_cons_of_mem _ ha), fun a ha => h.sep a (by rw [e]; exact List.mem_cons_of_mem _ ha), fun n cc a a1 a2 => (h.cell n cc a a1 a2).keeps down fun _ z => z, h.inj, h.tbs⟩, down⟩
theorem Slots.hold {H' : Hp} {L' : Ads} {σp : Lo} {σ : Sx} (h : Slots K H L S σp σ) (k : Keeps H (Lv L S) H' (Lv L' S)) (e : L'.ad = L.ad) : Slots K H' L' S σp σ :=
  ⟨h.1, fun i s es => by
    obtain ⟨v, ev, r⟩ := h.2 i s es
    refine ⟨v, ev, ?_⟩
    cases s with
    | val p => exact Rep.keeps k p v r
    | cell n => obtain ⟨a, ea, ev⟩ := r; exact ⟨a, by rw [e]; exact ea, ev⟩⟩
end
end Ev
end
section
set_option maxHeartbeats 1000000
namespace Ev
open PySem PySem.Spec PyProof.Rows L2
variable [WW]

/-! ## keys and entries -/
mutual
theorem nk_depth : ∀ (p : PV), hsh p = true → ∃ k, nkOf p = some k ∧ k.depth = pd p
  | .non, _ => ⟨.none, rfl, rfl⟩
  | .bl b, _ => ⟨_, rfl, rfl⟩
  | .int i, _ => ⟨_, rfl, rfl⟩
  | .str x, _ => ⟨_, rfl, rfl⟩
  | .tup xs, h => by
    obtain ⟨ks, e, d⟩ := nks_depth xs (by simpa only [hsh] using h)
    refine ⟨.tup ks, by simp only [nkOf, e, Option.map_some], ?_⟩
    simp only [NestedKey.depth, d, pd]
  | .lst _, h => by simp [hsh] at h
  | .dct _ _, h => by simp [hsh] at h
  | .obj _ _, h => by simp [hsh] at h
theorem nks_depth : ∀ (ps : List PV), hshs ps = true → ∃ ks, nksOf ps = some ks ∧ NestedKey.depthAll ks = pds ps
  | [], _ => ⟨[], rfl, rfl⟩
  | x :: xs, h => by
    simp only [hshs, Bool.and_eq_true] at h
    obtain ⟨k, e1, d1⟩ := nk_depth x h.1
    obtain ⟨ks, e2, d2⟩ := nks_depth xs h.2
    refine ⟨k :: ks, by simp only [nksOf, e1, e2, Option.bind_some, Option.map_some], ?_⟩
    simp only [NestedKey.depthAll, d1, d2, pds]
end
theorem keyOk_nk {p : PV} (h : keyOk p = true) : ∃ k, nkOf p = some k ∧ k.depth ≤ 8 := by
  cases p with
  | tup xs =>
    simp only [keyOk, Bool.and_eq_true, decide_eq_true_eq] at h
    obtain ⟨k, e, d⟩ := nk_depth (.tup xs) (by simpa only [hsh] using h.1)
    exact ⟨k, e, by rw [d]; simp only [pd]; exact h.2⟩
  | _ => cases h
theorem toStr_inj2 {x y : List Nat} (h : toStr x = toStr y) : x = y := by
  have := congrArg (fun z : Str => z.cps.toList) h
  simpa [toStr] using this
theorem map_some_inv {α β : Type} {o : Option α} {f : α → β} {b : β} (h : o.map f = some b) : ∃ a, o = some a ∧ f a = b := by
  cases o with
  | none => cases h
  | some a => cases h; exact ⟨a, rfl, rfl⟩
theorem nks_inv {x : PV} {xs : List PV} {ks : List NestedKey} (h : nksOf (x :: xs) = some ks) : ∃ k r, ks = k :: r ∧ nkOf x = some k ∧ nksOf xs = some r := by
  simp only [nksOf] at h
  cases e : nkOf x with
  | none => rw [e] at h; cases h
  | some k =>
    rw [e, Option.bind_some] at h
    obtain ⟨r, e2, rfl⟩ := map_some_inv h
    exact ⟨k, r, rfl, rfl, e2⟩
mutual
theorem eqv_nk : ∀ (p q : PV) (a b : NestedKey), nkOf p = some a → nkOf q = some b → eqv p q = NestedKey.beq a b
  | .non, q, a, b, h1, h2 => by
    cases h1
    cases q with
    | tup ys => obtain ⟨ks, _, rfl⟩ := map_some_inv h2; rfl
    | lst _ => cases h2
    | dct _ _ => cases h2
    | obj _ _ => cases h2
    | _ => cases h2; rfl
  | .bl c, q, a, b, h1, h2 => by
    cases h1
    cases q with
    | tup ys => obtain ⟨ks, _, rfl⟩ := map_some_inv h2; rfl
    | bl d => cases h2; cases c <;> cases d <;> rfl
    | int j => cases h2; simp only [eqv, NestedKey.beq]; rw [Bool.eq_iff_iff]; simp
    | lst _ => cases h2
    | dct _ _ => cases h2
    | obj _ _ => cases h2
    | _ => cases h2; rfl
  | .int i, q, a, b, h1, h2 => by
    cases h1
    cases q with
    | tup ys => obtain ⟨ks, _, rfl⟩ := map_some_inv h2; rfl
    | bl d => cases h2; simp only [eqv, NestedKey.beq]; rw [Bool.eq_iff_iff]; simp
    | int j => cases h2; simp only [eqv, NestedKey.beq]; rw [Bool.eq_iff_iff]; simp
    | lst _ => cases h2
    | dct _ _ => cases h2
    | obj _ _ => cases h2
    | _ => cases h2; rfl
  | .str x, q, a, b, h1, h2 => by
    cases h1
    cases q with
    | tup ys => obtain ⟨ks, _, rfl⟩ := map_some_inv h2; rfl
    | str y =>
      cases h2
      simp only [eqv, NestedKey.beq]
      rw [Bool.eq_iff_iff]
      simp only [beq_iff_eq, decide_eq_true_eq]
      exact ⟨fun z => by rw [z], toStr_inj2⟩
    | lst _ => cases h2
    | dct _ _ => cases h2
    | obj _ _ => cases h2
    | _ => cases h2; rfl
  | .tup xs, q, a, b, h1, h2 => by
    obtain ⟨ks, e1, rfl⟩ := map_some_inv h1
    cases q with
    | tup ys =>
      obtain ⟨js, e2, rfl⟩ := map_some_inv h2
      simp only [eqv, NestedKey.beq]
      exact eqvs_nk xs ys ks js e1 e2
    | lst _ => cases h2
    | dct _ _ => cases h2
    | obj _ _ => cases h2
    | _ => cases h2; rfl
  | .lst _, q, a, b, h1, h2 => by cases h1
  | .dct _ _, q, a, b, h1, h2 => by cases h1
  | .obj _ _, q, a, b, h1, h2 => by cases h1
theorem eqvs_nk : ∀ (ps qs : List PV) (a b : List NestedKey), nksOf ps = some a → nksOf qs = some b → eqvs ps qs = NestedKey.beqAll a b
  | [], qs, a, b, h1, h2 => by
    cases h1
    cases qs with
    | nil => cases h2; rfl
    | cons y ys => obtain ⟨k, r, rfl, _, _⟩ := nks_inv h2; rfl
  | x :: xs, qs, a, b, h1, h2 => by
    obtain ⟨k, r, rfl, e1, e2⟩ := nks_inv h1
    cases qs with
    | nil => cases h2; rfl
    | cons y ys =>
      obtain ⟨j, t, rfl, e3, e4⟩ := nks_inv h2
      simp only [eqvs, NestedKey.beqAll, eqv_nk x y k j e1 e3, eqvs_nk xs ys r t e2 e4]
end
section
variable {K : PySem.W.Frag} {H : Hp} {W : Addr → Prop}
mutual
theorem rep_nkey : ∀ (p : PV) (v : V) (k : NestedKey), Rep K H W p v → nkOf p = some k → NKey K H k v
  | .non, v, k, h, e => by cases e; exact h
  | .bl b, v, k, h, e => by cases e; exact .inr ⟨b, h, rfl⟩
  | .int i, v, k, h, e => by cases e; exact .inl h
  | .str x, v, k, h, e => by cases e; exact h
  | .tup xs, v, k, h, e => by
    obtain ⟨ks, e1, rfl⟩ := map_some_inv e
    obtain ⟨a, vs, ev, h1, h2⟩ := h
    exact ⟨a, vs, ev, h1.sq, reps_nkey xs vs ks h2 e1⟩
  | .lst _, v, k, h, e => by cases e
  | .dct _ _, v, k, h, e => by cases e
  | .obj _ _, v, k, h, e => by cases e
theorem reps_nkey : ∀ (ps : List PV) (vs : List V) (ks : List NestedKey), Reps K H W ps vs → nksOf ps = some ks → NKeys K H ks vs
  | [], vs, ks, h, e => by cases e; exact h
  | x :: xs, vs, ks, h, e => by
    obtain ⟨k, r, rfl, e1, e2⟩ := nks_inv e
    obtain ⟨v, t, rfl, h1, h2⟩ := h
    exact ⟨v, t, rfl, rep_nkey x v k h1 e1, reps_nkey xs t r h2 e2⟩
end
theorem ents_ok : ∀ {ks : List PV} {es : List NEnt}, KeysOf ks es → Reps K H W ks (es.map fun e => V.ref e.2.1) → EntsOk K H es
  | [], es, h, r => by
    have he : es = [] := by have := h.1; cases es with | nil => rfl | cons a b => simp at this
    subst he
    intro e h; cases h
  | k :: ks, es, h, r => by
    cases es with
    | nil => have := h.1; simp at this
    | cons e es =>
      obtain ⟨h1, h2⟩ := h
      simp only [List.map_cons, List.cons.injEq] at h1
      obtain ⟨v, t, ev, r1, r2⟩ := r
      simp only [List.map_cons, List.cons.injEq] at ev
      obtain ⟨rfl, rfl⟩ := ev
      intro x hx
      rcases List.mem_cons.mp hx with rfl | hx
      · exact ⟨rep_nkey k _ _ r1 h1.1, h2 _ List.mem_cons_self⟩
      · exact ents_ok (ks := ks) (es := es) ⟨h1.2, fun e he => h2 e (List.mem_cons_of_mem _ he)⟩ r2 x hx
/-- what a dict holds, as data and as entries -/
theorem dget_rep {k : PV} {kk : NestedKey} (hk : nkOf k = some kk) : ∀ {ks xs : List PV} {es : List NEnt}, ks.map nkOf = es.map (fun e => some e.1) → Reps K H W xs (es.map fun e => e.2.2) →
    match dgetP ks xs k with
    | some v => ∃ u, valN es kk = some u ∧ Rep K H W v u
    | none => valN es kk = none
  | [], xs, es, h, r => by
    have he : es = [] := by cases es with | nil => rfl | cons a b => simp at h
    subst he
    simp only [dgetP]
    rfl
  | k' :: ks, xs, es, h, r => by
    cases es with
    | nil => simp at h
    | cons e es =>
      simp only [List.map_cons, List.cons.injEq] at h
      cases xs with
      | nil => cases r
      | cons x xs =>
        obtain ⟨v, t, ev, r1, r2⟩ := r
        simp only [List.map_cons, List.cons.injEq] at ev
        obtain ⟨rfl, rfl⟩ := ev
        have q := eqv_nk k' k e.1 kk h.1 hk
        rw [← NestedKey.decide_eq] at q
        simp only [dgetP, q]
        unfold valN
        rw [List.find?_cons]
        by_cases c : e.1 = kk
        · simp only [c, decide_true, if_true, Option.map_some]
          exact ⟨_, rfl, r1⟩
        · simp only [c, decide_false, Bool.false_eq_true, if_false]
          exact dget_rep hk h.2 r2
theorem Reps.one {x : PV} {v : V} (h : Rep K H W x v) : Reps K H W [x] [v] := ⟨v, [], rfl, h, rfl⟩
theorem repl_keys (kk : NestedKey) (v : V) : ∀ es : List NEnt, (es.map fun x => if x.1 = kk then (x.1, x.2.1, v) else x).map (fun e => some e.1) = es.map (fun e => some e.1) ∧ (es.map fun x => if x.1 = kk then (x.1, x.2.1, v) else x).map (fun e => V.ref e.2.1) = es.map (fun e => V.ref e.2.1)
  | [] => ⟨rfl, rfl⟩
  | e :: es => by
    obtain ⟨h1, h2⟩ := repl_keys kk v es
    simp only [List.map_cons]
    rw [h1, h2]
    by_cases c : e.1 = kk <;> simp [c]
theorem dset_rep {k : PV} {kk : NestedKey} (hk : nkOf k = some kk) {x : PV} {v : V} (rx : Rep K H W x v) : ∀ {ks xs : List PV} {es : List NEnt}, ks.map nkOf = es.map (fun e => some e.1) → Reps K H W xs (es.map fun e => e.2.2) →
    Reps K H W (dsetP ks xs k x) ((es.map fun x => if x.1 = kk then (x.1, x.2.1, v) else x).map fun e => e.2.2)
  | [], xs, es, h, r => by
    have he : es = [] := by cases es with | nil => rfl | cons a b => simp at h
    subst he
    simp only [dsetP]
    rfl
  | k' :: ks, xs, es, h, r => by
    cases es with
    | nil => simp at h
    | cons e es =>
      simp only [List.map_cons, List.cons.injEq] at h
      cases xs with
      | nil => cases r
      | cons y xs =>
        obtain ⟨u, t, ev, r1, r2⟩ := r
        simp only [List.map_cons, List.cons.injEq] at ev
        obtain ⟨rfl, rfl⟩ := ev
        have q := eqv_nk k' k e.1 kk h.1 hk
        rw [← NestedKey.decide_eq] at q
        simp only [dsetP, q, List.map_cons]
        refine ⟨_, _, rfl, ?_, dset_rep hk rx h.2 r2⟩
        by_cases c : e.1 = kk
        · simp only [c, decide_true, if_true]; exact rx
        · simp only [c, decide_false, Bool.false_eq_true, if_false]; exact r1
theorem dput_rep {k : PV} {kk : NestedKey} {b : Addr} {x : PV} {v : V} {ks xs : List PV} {es : List NEnt} (hk : nkOf k = some kk) (kd : kk.depth ≤ 8) (rk : Rep K H W k (.ref b)) (rx : Rep K H W x v) (h : KeysOf ks es) (h1 : Reps K H W ks (es.map fun e => V.ref e.2.1)) (h2 : Reps K H W xs (es.map fun e => e.2.2)) :
    KeysOf (dputP ks xs k x).1 (putN es kk b v) ∧ Reps K H W (dputP ks xs k x).1 ((putN es kk b v).map fun e => V.ref e.2.1) ∧ Reps K H W (dputP ks xs k x).2 ((putN es kk b v).map fun e => e.2.2) := by
  have g := dget_rep hk h.1 h2
  unfold dputP putN
  cases e : dgetP ks xs k with
  | some y =>
    rw [e] at g
    obtain ⟨u, g1, _⟩ := g
    rw [g1]
    simp only [Option.isSome_some, if_true]
    obtain ⟨r1, r2⟩ := repl_keys kk v es
    refine ⟨⟨by rw [r1]; exact h.1, fun z hz => ?_⟩, by rw [r2]; exact h1, dset_rep hk rx h.1 h2⟩
    obtain ⟨y', hy, rfl⟩ := List.mem_map.mp hz
    have := h.2 y' hy
    split
    · exact this
    · exact this
  | none =>
    rw [e] at g
    have g : valN es kk = none := g
    rw [g]
    simp only [Option.isSome_none, Bool.false_eq_true, if_false]
    refine ⟨⟨?_, fun z hz => ?_⟩, ?_, ?_⟩
    · rw [List.map_append, List.map_append, h.1]
      simp [hk]
    · rcases List.mem_append.mp hz with hz | hz
      · exact h.2 z hz
      · rw [List.mem_singleton.mp hz]; exact kd
    · rw [List.map_append]
      exact h1.append (Reps.one rk)
    · rw [List.map_append]
      exact h2.append (Reps.one rx)
end
end Ev
end
section
set_option maxHeartbeats 1000000
namespace Ev
open PySem PySem.Spec PyProof.Rows L2
variable [WW]

/-! ## values as they stand in the heap, and their equality -/
mutual
def Con (h : Heap) : PV → Value → Prop
  | .non, v => v = .none
  | .bl b, v => v = .bool b
  | .int i, v => ∃ t, v = .int i t
  | .str x, v => ∃ t, v = .str (toStr x) t
  | .tup xs, v => ∃ (a : Addr) (vs : List Value), v = .ref a ∧ h.IsTuple a vs.toArray ∧ Cons h xs vs
  | .lst xs, v => ∃ (a : Addr) (vs : List Value), v = .ref a ∧ h.IsList a vs.toArray ∧ Cons h xs vs
  | .dct _ _, _ => False
  | .obj _ _, _ => False
def Cons (h : Heap) : List PV → List Value → Prop
  | [], vs => vs = []
  | x :: xs, vs => ∃ v r, vs = v :: r ∧ Con h x v ∧ Cons h xs r
end
section
variable {X : Cx} {pins : List (Addr × Obj)} {σ : Sx} {H : Hp} {s : Shared} {W : Addr → Prop}
mutual
theorem Rep.con (I : Inv X pins σ H s) : ∀ (p : PV) (v : V) (u : Value), dat p = true → Rep X.K H W p v → RelV v u → Con s.heap p u
  | .non, v, u, _, h, r => by cases h; exact r
  | .bl b, v, u, _, h, r => by cases h; exact r
  | .int i, v, u, _, h, r => by cases h; exact r
  | .str x, v, u, _, h, r => by cases h; exact r
  | .tup xs, v, u, d, h, r => by
    obtain ⟨a, vs, rfl, h1, h2⟩ := h
    cases r
    obtain ⟨its, rv, p, _⟩ := I.tuple h1.sq
    exact ⟨a, its, rfl, p, Reps.con I xs vs its d h2 rv⟩
  | .lst xs, v, u, d, h, r => by
    obtain ⟨a, vs, rfl, h1, h2⟩ := h
    cases r
    obtain ⟨its, rv, p, _⟩ := I.list h1.sq
    exact ⟨a, its, rfl, p.isList, Reps.con I xs vs its d h2 rv⟩
  | .dct _ _, _, _, d, _, _ => by cases d
  | .obj _ _, _, _, d, _, _ => by cases d
theorem Reps.con (I : Inv X pins σ H s) : ∀ (p : List PV) (v : List V) (u : List Value), dats p = true → Reps X.K H W p v → Vals v u → Cons s.heap p u
  | [], _, _, _, h, r => by cases h; cases r; rfl
  | x :: xs, _, _, d, h, r => by
    simp only [dats, Bool.and_eq_true] at d
    obtain ⟨v, t, rfl, h1, h2⟩ := h
    cases r with
    | cons r1 r2 => exact ⟨_, _, rfl, Rep.con I x v _ d.1 h1 r1, Reps.con I xs t _ d.2 h2 r2⟩
end
end
theorem Cons.length {h : Heap} : ∀ {p : List PV} {v : List Value}, Cons h p v → v.length = p.length
  | [], _, e => by cases e; rfl
  | x :: xs, _, e => by
    obtain ⟨v, r, rfl, _, h2⟩ := e
    rw [List.length_cons, List.length_cons, Cons.length h2]
theorem list_tuple_ne {h : Heap} {a : Addr} {x y : Array Value} (l : h.IsList a x) (t : h.IsTuple a y) : False := by
  obtain ⟨o, e, c, _⟩ := l
  obtain ⟨o', e', c', _⟩ := t
  rw [e] at e'
  cases e'
  rw [c] at c'
  exact absurd c' (by simp)
theorem isList_inj {h : Heap} {a : Addr} {x y : Array Value} (l : h.IsList a x) (t : h.IsList a y) : x = y := by
  obtain ⟨o, e, _, n, d⟩ := l
  obtain ⟨o', e', _, n', d'⟩ := t
  rw [e] at e'
  cases e'
  rw [d] at d'
  injection d'
theorem isTuple_inj {h : Heap} {a : Addr} {x y : Array Value} (l : h.IsTuple a x) (t : h.IsTuple a y) : x = y := by
  obtain ⟨o, e, _, n, d⟩ := l
  obtain ⟨o', e', _, n', d'⟩ := t
  rw [e] at e'
  cases e'
  rw [d] at d'
  injection d'
theorem toStr_inj {x y : List Nat} (h : toStr x = toStr y) : x = y := by
  unfold toStr at h
  injection h with h
  simpa using congrArg Array.toList h
mutual
theorem Con.uniq {h : Heap} : ∀ (p q : PV) (u : Value), Con h p u → Con h q u → p = q
  | .non, q, u, a, b => by cases a; cases q <;> simp_all [Con]
  | .bl x, q, u, a, b => by cases a; cases q <;> simp_all [Con]
  | .int x, q, u, a, b => by obtain ⟨t, rfl⟩ := a; cases q <;> simp_all [Con]
  | .str x, q, u, a, b => by
    obtain ⟨t, rfl⟩ := a
    cases q with
    | str y =>
      obtain ⟨t', e⟩ := b
      injection e with e1 _
      rw [toStr_inj e1]
    | _ => simp_all [Con]
  | .tup xs, q, u, a, b => by
    obtain ⟨l, vs, rfl, h1, h2⟩ := a
    cases q with
    | tup ys =>
      obtain ⟨l', vs', e, k1, k2⟩ := b
      cases e
      have e2 := congrArg Array.toList (isTuple_inj h1 k1)
      simp only [List.toList_toArray] at e2
      subst e2
      rw [Cons.uniq xs ys vs h2 k2]
    | lst ys =>
      obtain ⟨l', vs', e, k1, k2⟩ := b
      cases e
      exact (list_tuple_ne k1 h1).elim
    | _ => simp_all [Con]
  | .lst xs, q, u, a, b => by
    obtain ⟨l, vs, rfl, h1, h2⟩ := a
    cases q with
    | lst ys =>
      obtain ⟨l', vs', e, k1, k2⟩ := b
      cases e
      have e2 := congrArg Array.toList (isList_inj h1 k1)
      simp only [List.toList_toArray] at e2
      subst e2
      rw [Cons.uniq xs ys vs h2 k2]
    | tup ys =>
      obtain ⟨l', vs', e, k1, k2⟩ := b
      cases e
      exact (list_tuple_ne h1 k1).elim
    | _ => simp_all [Con]
  | .dct _ _, _, _, a, _ => a.elim
  | .obj _ _, _, _, a, _ => a.elim
theorem Cons.uniq {h : Heap} : ∀ (p q : List PV) (u : List Value), Cons h p u → Cons h q u → p = q
  | [], q, u, a, b => by
    cases a
    cases q with
    | nil => rfl
    | cons y ys => obtain ⟨_, _, e, _⟩ := b; cases e
  | x :: xs, q, u, a, b => by
    obtain ⟨v, r, rfl, h1, h2⟩ := a
    cases q with
    | nil => cases b
    | cons y ys =>
      obtain ⟨v', r', e, k1, k2⟩ := b
      cases e
      rw [Con.uniq x y v h1 k1, Cons.uniq xs ys r h2 k2]
end
mutual
theorem eqv_same {h : Heap} : ∀ (p : PV) (u : Value), Con h p u → eqv p p = true
  | .non, _, _ => rfl
  | .bl x, _, _ => by simp [eqv]
  | .int x, _, _ => by simp [eqv]
  | .str x, _, _ => by simp [eqv]
  | .tup xs, _, a => by obtain ⟨l, vs, _, _, h2⟩ := a; rw [eqv]; exact eqvs_same xs vs h2
  | .lst xs, _, a => by obtain ⟨l, vs, _, _, h2⟩ := a; rw [eqv]; exact eqvs_same xs vs h2
  | .dct _ _, _, a => a.elim
  | .obj _ _, _, a => a.elim
theorem eqvs_same {h : Heap} : ∀ (p : List PV) (u : List Value), Cons h p u → eqvs p p = true
  | [], _, _ => rfl
  | x :: xs, _, a => by
    obtain ⟨v, r, _, h1, h2⟩ := a
    rw [eqvs, eqv_same x v h1, eqvs_same xs r h2]
    rfl
end
/-- the j-th pair's answer -/
abbrev pairE (xs ys : List PV) (j : Nat) : Bool := eqv (xs.getD j .non) (ys.getD j .non)
theorem eqvs_eq : ∀ xs ys : List PV, ((List.range (min xs.length ys.length)).all (pairE xs ys) && xs.length == ys.length) = eqvs xs ys
  | [], [] => rfl
  | [], _ :: _ => by simp [eqvs]
  | _ :: _, [] => by simp [eqvs]
  | x :: xs, y :: ys => by
    have e1 : min (x :: xs).length (y :: ys).length = min xs.length ys.length + 1 := by simp only [List.length_cons]; omega
    have e2 : ((x :: xs).length == (y :: ys).length) = (xs.length == ys.length) := by simp
    rw [e1, e2, List.range_succ_eq_map, List.all_cons, List.all_map]
    have e3 : (pairE (x :: xs) (y :: ys) ∘ Nat.succ) = pairE xs ys := by funext j; simp [pairE]
    have e4 : pairE (x :: xs) (y :: ys) 0 = eqv x y := by simp [pairE]
    rw [e3, e4, Bool.and_assoc, eqvs_eq xs ys, eqvs]
theorem toStr_beq (x y : List Nat) : (toStr x == toStr y) = (x == y) := by
  rw [Bool.eq_iff_iff, beq_iff_eq, beq_iff_eq]
  exact ⟨toStr_inj, fun e => by rw [e]⟩
section
open SeqAt
mutual
theorem eqAt {A : Around} {s : Shared} : ∀ (p q : PV) (u v : Value), Con s.heap p u → Con s.heap q v → A.units + min (pd p) (pd q) < cLine → EqAt A s u v (eqv p q)
  | .non, q, u, v, a, b, hu => by
    cases a
    cases q with
    | non => cases b; exact EqAt.same _
    | bl y => cases b; exact EqAt.none_bool y
    | int y => obtain ⟨t, rfl⟩ := b; exact EqAt.none_int y t
    | str y => obtain ⟨t, rfl⟩ := b; exact EqAt.none_str _ t
    | lst ys => obtain ⟨l, vs, rfl, h1, _⟩ := b; exact EqAt.none_list h1 (room_here hu)
    | tup ys => obtain ⟨l, vs, rfl, h1, _⟩ := b; exact EqAt.none_tuple h1 (room_here hu)
    | dct _ _ => exact b.elim
    | obj _ _ => exact b.elim
  | .bl x, q, u, v, a, b, hu => by
    cases a
    cases q with
    | non => cases b; exact EqAt.bool_none x
    | bl y => cases b; exact EqAt.bool_bool x y
    | int y => obtain ⟨t, rfl⟩ := b; exact EqAt.bool_int x y t
    | str y => obtain ⟨t, rfl⟩ := b; exact EqAt.bool_str x _ t
    | lst ys => obtain ⟨l, vs, rfl, h1, _⟩ := b; exact EqAt.bool_list x h1 (room_here hu)
    | tup ys => obtain ⟨l, vs, rfl, h1, _⟩ := b; exact EqAt.bool_tuple x h1 (room_here hu)
    | dct _ _ => exact b.elim
    | obj _ _ => exact b.elim
  | .int x, q, u, v, a, b, hu => by
    obtain ⟨t', rfl⟩ := a
    cases q with
    | non => cases b; exact EqAt.int_none x t'
    | bl y => cases b; exact EqAt.int_bool x t' y
    | int y => obtain ⟨t, rfl⟩ := b; exact EqAt.int_int x t' y t
    | str y => obtain ⟨t, rfl⟩ := b; exact EqAt.int_str x t' _ t
    | lst ys => obtain ⟨l, vs, rfl, h1, _⟩ := b; exact EqAt.int_list x t' h1 (room_here hu)
    | tup ys => obtain ⟨l, vs, rfl, h1, _⟩ := b; exact EqAt.int_tuple x t' h1 (room_here hu)
    | dct _ _ => exact b.elim
    | obj _ _ => exact b.elim
  | .str x, q, u, v, a, b, hu => by
    obtain ⟨t', rfl⟩ := a
    cases q with
    | non => cases b; exact EqAt.str_none _ t'
    | bl y => cases b; exact EqAt.str_bool _ t' y
    | int y => obtain ⟨t, rfl⟩ := b; exact EqAt.str_int _ t' y t
    | str y =>
      obtain ⟨t, rfl⟩ := b
      have z := EqAt.str_str (A := A) (s := s) (toStr x) t' (toStr y) t
      rw [toStr_beq] at z
      exact z
    | lst ys => obtain ⟨l, vs, rfl, h1, _⟩ := b; exact EqAt.str_list _ t' h1 (room_here hu)
    | tup ys => obtain ⟨l, vs, rfl, h1, _⟩ := b; exact EqAt.str_tuple _ t' h1 (room_here hu)
    | dct _ _ => exact b.elim
    | obj _ _ => exact b.elim
  | .lst xs, q, u, v, a, b, hu => by
    obtain ⟨l, vs, rfl, h1, h2⟩ := id a
    cases q with
    | non => cases b; exact EqAt.list_none h1 (room_here hu)
    | bl y => cases b; exact EqAt.list_bool y h1 (room_here hu)
    | int y => obtain ⟨t, rfl⟩ := b; exact EqAt.list_int y t h1 (room_here hu)
    | str y => obtain ⟨t, rfl⟩ := b; exact EqAt.list_str _ t h1 (room_here hu)
    | tup ys => obtain ⟨l', vs', rfl, k1, _⟩ := b; exact EqAt.list_tuple h1 k1 (room_here hu)
    | lst ys =>
      obtain ⟨l', vs', rfl, k1, k2⟩ := id b
      by_cases hll : l = l'
      · subst hll
        rw [Con.uniq (.lst xs) (.lst ys) _ a b, eqv_same (.lst ys) _ b]
        exact EqAt.same _
      · have n1 := Cons.length h2
        have n2 := Cons.length k2
        show EqAt A s (.ref l) (.ref l') (eqvs xs ys)
        by_cases hsz : vs.length = vs'.length
        · have e : eqvs xs ys = (List.range vs.toArray.size).all (pairE xs ys) := by
            have hl : xs.length = ys.length := by omega
            rw [← eqvs_eq, ← hl, Nat.min_self]
            simp [n1]
          rw [e]
          refine EqAt.of_refs hll (RcAt.lists h1 k1 (by simpa using hsz) (room_here hu) fun j j1 j2 => ?_)
          have z := eqAts (A := A.in1) xs ys vs vs' h2 k2 (room_in hu) j (by simpa using j1) (by simpa using j2)
          simpa using z
        · have e : eqvs xs ys = false := by
            rw [← eqvs_eq]
            simp
            omega
          rw [e]
          exact EqAt.of_refs hll (RcAt.lists_lengths h1 k1 (by simpa using hsz) (room_here hu))
    | dct _ _ => exact b.elim
    | obj _ _ => exact b.elim
  | .tup xs, q, u, v, a, b, hu => by
    obtain ⟨l, vs, rfl, h1, h2⟩ := id a
    cases q with
    | non => cases b; exact EqAt.tuple_none h1 (room_here hu)
    | bl y => cases b; exact EqAt.tuple_bool y h1 (room_here hu)
    | int y => obtain ⟨t, rfl⟩ := b; exact EqAt.tuple_int y t h1 (room_here hu)
    | str y => obtain ⟨t, rfl⟩ := b; exact EqAt.tuple_str _ t h1 (room_here hu)
    | lst ys => obtain ⟨l', vs', rfl, k1, _⟩ := b; exact EqAt.tuple_list h1 k1 (room_here hu)
    | tup ys =>
      obtain ⟨l', vs', rfl, k1, k2⟩ := id b
      by_cases hll : l = l'
      · subst hll
        rw [Con.uniq (.tup xs) (.tup ys) _ a b, eqv_same (.tup ys) _ b]
        exact EqAt.same _
      · have n1 := Cons.length h2
        have n2 := Cons.length k2
        show EqAt A s (.ref l) (.ref l') (eqvs xs ys)
        have e : eqvs xs ys = ((List.range (min vs.toArray.size vs'.toArray.size)).all (pairE xs ys) && vs.toArray.size == vs'.toArray.size) := by
          rw [← eqvs_eq, ← n1, ← n2]
          simp
        rw [e]
        refine EqAt.of_refs hll (RcAt.tuples h1 k1 (room_here hu) fun j j1 j2 => ?_)
        have z := eqAts (A := A.in1) xs ys vs vs' h2 k2 (room_in hu) j (by simpa using j1) (by simpa using j2)
        simpa using z
    | dct _ _ => exact b.elim
    | obj _ _ => exact b.elim
  | .dct _ _, _, _, _, a, _, _ => a.elim
  | .obj _ _, _, _, _, a, _, _ => a.elim
theorem eqAts {A : Around} {s : Shared} : ∀ (xs ys : List PV) (vs ws : List Value), Cons s.heap xs vs → Cons s.heap ys ws → A.units + min (pds xs) (pds ys) < cLine → ∀ j (h1 : j < vs.length) (h2 : j < ws.length), EqAt A s vs[j] ws[j] (pairE xs ys j)
  | [], _, _, _, a, _, _, j, h1, _ => by cases a; exact absurd h1 (Nat.not_lt_zero _)
  | _ :: _, [], _, _, _, b, _, j, _, h2 => by cases b; exact absurd h2 (Nat.not_lt_zero _)
  | x :: xs, y :: ys, _, _, a, b, hu, j, h1, h2 => by
    obtain ⟨v, r, rfl, a1, a2⟩ := a
    obtain ⟨v', r', rfl, b1, b2⟩ := b
    cases j with
    | zero => exact eqAt x y v v' a1 b1 (room_head hu)
    | succ j => exact eqAts xs ys r r' a2 b2 (room_tail hu) j (Nat.lt_of_succ_lt_succ h1) (Nat.lt_of_succ_lt_succ h2)
end
theorem rcAt {A : Around} {s : Shared} (p q : PV) (u v : Value) (a : Con s.heap p u) (b : Con s.heap q v) (hu : A.units + min (pd p) (pd q) < cLine) : RcAt A s u v (eqv p q) := by
  cases p with
  | non =>
    cases a
    cases q with
    | non =>
      cases b
      exact RcAt.none_none 
    | bl x' =>
      cases b
      exact RcAt.none_bool x'
    | int x' =>
      obtain ⟨t', rfl⟩ := b
      exact RcAt.none_int x' t'
    | str x' =>
      obtain ⟨t', rfl⟩ := b
      exact RcAt.none_str (toStr x') t'
    | lst x' =>
      obtain ⟨l', vs', rfl, h', c'⟩ := b
      exact RcAt.none_list h' (room_here hu)
    | tup x' =>
      obtain ⟨l', vs', rfl, h', c'⟩ := b
      exact RcAt.none_tuple h' (room_here hu)
    | dct _ _ => exact b.elim
    | obj _ _ => exact b.elim
  | bl x =>
    cases a
    cases q with
    | non =>
      cases b
      exact RcAt.bool_none x
    | bl x' =>
      cases b
      exact RcAt.bool_bool x x'
    | int x' =>
      obtain ⟨t', rfl⟩ := b
      exact RcAt.bool_int x x' t'
    | str x' =>
      obtain ⟨t', rfl⟩ := b
      exact RcAt.bool_str x (toStr x') t'
    | lst x' =>
      obtain ⟨l', vs', rfl, h', c'⟩ := b
      exact RcAt.bool_list x h' (room_here hu)
    | tup x' =>
      obtain ⟨l', vs', rfl, h', c'⟩ := b
      exact RcAt.bool_tuple x h' (room_here hu)
    | dct _ _ => exact b.elim
    | obj _ _ => exact b.elim
  | int x =>
    obtain ⟨t, rfl⟩ := a
    cases q with
    | non =>
      cases b
      exact RcAt.int_none x t
    | bl x' =>
      cases b
      exact RcAt.int_bool x t x'
    | int x' =>
      obtain ⟨t', rfl⟩ := b
      exact RcAt.int_int x t x' t'
    | str x' =>
      obtain ⟨t', rfl⟩ := b
      exact RcAt.int_str x t (toStr x') t'
    | lst x' =>
      obtain ⟨l', vs', rfl, h', c'⟩ := b
      exact RcAt.int_list x t h' (room_here hu)
    | tup x' =>
      obtain ⟨l', vs', rfl, h', c'⟩ := b
      exact RcAt.int_tuple x t h' (room_here hu)
    | dct _ _ => exact b.elim
    | obj _ _ => exact b.elim
  | str x =>
    obtain ⟨t, rfl⟩ := a
    cases q with
    | non =>
      cases b
      exact RcAt.str_none (toStr x) t
    | bl x' =>
      cases b
      exact RcAt.str_bool (toStr x) t x'
    | int x' =>
      obtain ⟨t', rfl⟩ := b
      exact RcAt.str_int (toStr x) t x' t'
    | str x' =>
      obtain ⟨t', rfl⟩ := b
      have z := RcAt.str_str (A := A) (s := s) (toStr x) t (toStr x') t'
      rw [toStr_beq] at z
      exact z
    | lst x' =>
      obtain ⟨l', vs', rfl, h', c'⟩ := b
      exact RcAt.str_list (toStr x) t h' (room_here hu)
    | tup x' =>
      obtain ⟨l', vs', rfl, h', c'⟩ := b
      exact RcAt.str_tuple (toStr x) t h' (room_here hu)
    | dct _ _ => exact b.elim
    | obj _ _ => exact b.elim
  | lst x =>
    obtain ⟨l, vs, rfl, h, c⟩ := a
    cases q with
    | non =>
      cases b
      exact RcAt.list_none h (room_here hu)
    | bl x' =>
      cases b
      exact RcAt.list_bool x' h (room_here hu)
    | int x' =>
      obtain ⟨t', rfl⟩ := b
      exact RcAt.list_int x' t' h (room_here hu)
    | str x' =>
      obtain ⟨t', rfl⟩ := b
      exact RcAt.list_str (toStr x') t' h (room_here hu)
    | lst x' =>
      obtain ⟨l', vs', rfl, h', c'⟩ := b
      have n1 := Cons.length c
      have n2 := Cons.length c'
      show RcAt A s _ _ (eqvs x x')
      by_cases hsz : vs.length = vs'.length
      · have e : eqvs x x' = (List.range vs.toArray.size).all (pairE x x') := by
          have hl : x.length = x'.length := by omega
          rw [← eqvs_eq, ← hl, Nat.min_self]
          simp [n1]
        rw [e]
        refine RcAt.lists h h' (by simpa using hsz) (room_here hu) fun j j1 j2 => ?_
        have z := eqAts (A := A.in1) x x' vs vs' c c' (room_in hu) j (by simpa using j1) (by simpa using j2)
        simpa using z
      · have e : eqvs x x' = false := by
          rw [← eqvs_eq]
          simp
          omega
        rw [e]
        exact RcAt.lists_lengths h h' (by simpa using hsz) (room_here hu)
    | tup x' =>
      obtain ⟨l', vs', rfl, h', c'⟩ := b
      exact RcAt.list_tuple h h' (room_here hu)
    | dct _ _ => exact b.elim
    | obj _ _ => exact b.elim
  | tup x =>
    obtain ⟨l, vs, rfl, h, c⟩ := a
    cases q with
    | non =>
      cases b
      exact RcAt.tuple_none h (room_here hu)
    | bl x' =>
      cases b
      exact RcAt.tuple_bool x' h (room_here hu)
    | int x' =>
      obtain ⟨t', rfl⟩ := b
      exact RcAt.tuple_int x' t' h (room_here hu)
    | str x' =>
      obtain ⟨t', rfl⟩ := b
      exact RcAt.tuple_str (toStr x') t' h (room_here hu)
    | lst x' =>
      obtain ⟨l', vs', rfl, h', c'⟩ := b
      exact RcAt.tuple_list h h' (room_here hu)
    | tup x' =>
      obtain ⟨l', vs', rfl, h', c'⟩ := b
      have n1 := Cons.length c
      have n2 := Cons.length c'
      show RcAt A s _ _ (eqvs x x')
      have e : eqvs x x' = ((List.range (min vs.toArray.size vs'.toArray.size)).all (pairE x x') && vs.toArray.size == vs'.toArray.size) := by
        rw [← eqvs_eq, ← n1, ← n2]
        simp
      rw [e]
      refine RcAt.tuples h h' (room_here hu) fun j j1 j2 => ?_
      have z := eqAts (A := A.in1) x x' vs vs' c c' (room_in hu) j (by simpa using j1) (by simpa using j2)
      simpa using z
    | dct _ _ => exact b.elim
    | obj _ _ => exact b.elim
  | dct _ _ => exact a.elim
  | obj _ _ => exact a.elim
theorem rcNeAt {A : Around} {s : Shared} (p q : PV) (u v : Value) (a : Con s.heap p u) (b : Con s.heap q v) (hu : A.units + min (pd p) (pd q) < cLine) : RcNeAt A s u v (!eqv p q) := by
  cases p with
  | non =>
    cases a
    cases q with
    | non =>
      cases b
      exact RcNeAt.none_none 
    | bl x' =>
      cases b
      exact RcNeAt.none_bool x'
    | int x' =>
      obtain ⟨t', rfl⟩ := b
      exact RcNeAt.none_int x' t'
    | str x' =>
      obtain ⟨t', rfl⟩ := b
      exact RcNeAt.none_str (toStr x') t'
    | lst x' =>
      obtain ⟨l', vs', rfl, h', c'⟩ := b
      exact RcNeAt.none_list h' (room_here hu)
    | tup x' =>
      obtain ⟨l', vs', rfl, h', c'⟩ := b
      exact RcNeAt.none_tuple h' (room_here hu)
    | dct _ _ => exact b.elim
    | obj _ _ => exact b.elim
  | bl x =>
    cases a
    cases q with
    | non =>
      cases b
      exact RcNeAt.bool_none x
    | bl x' =>
      cases b
      exact RcNeAt.bool_bool x x'
    | int x' =>
      obtain ⟨t', rfl⟩ := b
      exact RcNeAt.bool_int x x' t'
    | str x' =>
      obtain ⟨t', rfl⟩ := b
      exact RcNeAt.bool_str x (toStr x') t'
    | lst x' =>
      obtain ⟨l', vs', rfl, h', c'⟩ := b
      exact RcNeAt.bool_list x h' (room_here hu)
    | tup x' =>
      obtain ⟨l', vs', rfl, h', c'⟩ := b
      exact RcNeAt.bool_tuple x h' (room_here hu)
    | dct _ _ => exact b.elim
    | obj _ _ => exact b.elim
  | int x =>
    obtain ⟨t, rfl⟩ := a
    cases q with
    | non =>
      cases b
      exact RcNeAt.int_none x t
    | bl x' =>
      cases b
      exact RcNeAt.int_bool x t x'
    | int x' =>
      obtain ⟨t', rfl⟩ := b
      exact RcNeAt.int_int x t x' t'
    | str x' =>
      obtain ⟨t', rfl⟩ := b
      exact RcNeAt.int_str x t (toStr x') t'
    | lst x' =>
      obtain ⟨l', vs', rfl, h', c'⟩ := b
      exact RcNeAt.int_list x t h' (room_here hu)
    | tup x' =>
      obtain ⟨l', vs', rfl, h', c'⟩ := b
      exact RcNeAt.int_tuple x t h' (room_here hu)
    | dct _ _ => exact b.elim
    | obj _ _ => exact b.elim
  | str x =>
    obtain ⟨t, rfl⟩ := a
    cases q with
    | non =>
      cases b
      exact RcNeAt.str_none (toStr x) t
    | bl x' =>
      cases b
      exact RcNeAt.str_bool (toStr x) t x'
    | int x' =>
      obtain ⟨t', rfl⟩ := b
      exact RcNeAt.str_int (toStr x) t x' t'
    | str x' =>
      obtain ⟨t', rfl⟩ := b
      have z := RcNeAt.str_str (A := A) (s := s) (toStr x) t (toStr x') t'
      rw [toStr_beq] at z
      exact z
    | lst x' =>
      obtain ⟨l', vs', rfl, h', c'⟩ := b
      exact RcNeAt.str_list (toStr x) t h' (room_here hu)
    | tup x' =>
      obtain ⟨l', vs', rfl, h', c'⟩ := b
      exact RcNeAt.str_tuple (toStr x) t h' (room_here hu)
    | dct _ _ => exact b.elim
    | obj _ _ => exact b.elim
  | lst x =>
    obtain ⟨l, vs, rfl, h, c⟩ := a
    cases q with
    | non =>
      cases b
      exact RcNeAt.list_none h (room_here hu)
    | bl x' =>
      cases b
      exact RcNeAt.list_bool x' h (room_here hu)
    | int x' =>
      obtain ⟨t', rfl⟩ := b
      exact RcNeAt.list_int x' t' h (room_here hu)
    | str x' =>
      obtain ⟨t', rfl⟩ := b
      exact RcNeAt.list_str (toStr x') t' h (room_here hu)
    | lst x' =>
      obtain ⟨l', vs', rfl, h', c'⟩ := b
      have n1 := Cons.length c
      have n2 := Cons.length c'
      show RcNeAt A s _ _ (!eqvs x x')
      by_cases hsz : vs.length = vs'.length
      · have e : eqvs x x' = (List.range vs.toArray.size).all (pairE x x') := by
          have hl : x.length = x'.length := by omega
          rw [← eqvs_eq, ← hl, Nat.min_self]
          simp [n1]
        rw [e]
        refine RcNeAt.lists h h' (by simpa using hsz) (room_here hu) fun j j1 j2 => ?_
        have z := eqAts (A := A.in1) x x' vs vs' c c' (room_in hu) j (by simpa using j1) (by simpa using j2)
        simpa using z
      · have e : eqvs x x' = false := by
          rw [← eqvs_eq]
          simp
          omega
        rw [e]
        exact RcNeAt.lists_lengths h h' (by simpa using hsz) (room_here hu)
    | tup x' =>
      obtain ⟨l', vs', rfl, h', c'⟩ := b
      exact RcNeAt.list_tuple h h' (room_here hu)
    | dct _ _ => exact b.elim
    | obj _ _ => exact b.elim
  | tup x =>
    obtain ⟨l, vs, rfl, h, c⟩ := a
    cases q with
    | non =>
      cases b
      exact RcNeAt.tuple_none h (room_here hu)
    | bl x' =>
      cases b
      exact RcNeAt.tuple_bool x' h (room_here hu)
    | int x' =>
      obtain ⟨t', rfl⟩ := b
      exact RcNeAt.tuple_int x' t' h (room_here hu)
    | str x' =>
      obtain ⟨t', rfl⟩ := b
      exact RcNeAt.tuple_str (toStr x') t' h (room_here hu)
    | lst x' =>
      obtain ⟨l', vs', rfl, h', c'⟩ := b
      exact RcNeAt.tuple_list h h' (room_here hu)
    | tup x' =>
      obtain ⟨l', vs', rfl, h', c'⟩ := b
      have n1 := Cons.length c
      have n2 := Cons.length c'
      show RcNeAt A s _ _ (!eqvs x x')
      have e : eqvs x x' = ((List.range (min vs.toArray.size vs'.toArray.size)).all (pairE x x') && vs.toArray.size == vs'.toArray.size) := by
        rw [← eqvs_eq, ← n1, ← n2]
        simp
      rw [e]
      refine RcNeAt.tuples h h' (room_here hu) fun j j1 j2 => ?_
      have z := eqAts (A := A.in1) x x' vs vs' c c' (room_in hu) j (by simpa using j1) (by simpa using j2)
      simpa using z
    | dct _ _ => exact b.elim
    | obj _ _ => exact b.elim
  | dct _ _ => exact a.elim
  | obj _ _ => exact a.elim
end
end Ev
end
section
set_option maxHeartbeats 1000000
namespace Ev
open PySem PySem.Spec PyProof.Rows L2
variable [WW]

/-! ## what is wanted of an outcome -/
def XPay : PV → Option Addr → Prop
  | .non, d => d = none
  | _, _ => False
def Post {α β : Type} (K : PySem.W.Frag) (xa : String → Addr) (R : Hp → Ads → Store → α → β → Prop) (H : Hp) (L : Ads) (S : Store) (o : Out α) (Q : β → Hp → Prop) (E : XK) : Prop := match o with
  | .ok a S' => ∀ b H' L', Heaps K H' L' S' → Step H L S H' L' S' → R H' L' S' a b → Q b H'
  | .err e S' => ∀ d H' L', Heaps K H' L' S' → Step H L S H' L' S' → XPay e.pay d → E (.ref (xa e.cls)) d H'
  | .stuck => False
section
variable {α β γ δ : Type} {K : PySem.W.Frag} {xa : String → Addr} {R : Hp → Ads → Store → α → β → Prop} {R' : Hp → Ads → Store → γ → δ → Prop} {H H' : Hp} {L L' : Ads} {S S' : Store} {Q : β → Hp → Prop} {Q' : δ → Hp → Prop} {E : XK}
theorem Post.step {o : Out α} (h : Post K xa R H L S o Q E) (st : Step H L S H' L' S') : Post K xa R H' L' S' o Q E := by
  cases o with
  | ok a S1 => exact fun b H1 L1 hh s r => h b H1 L1 hh (st.trans s) r
  | err e S1 => exact fun d H1 L1 hh s r => h d H1 L1 hh (st.trans s) r
  | stuck => exact h
theorem Post.bind {o : Out α} {f : α → Store → Out γ} (h : Post K xa R' H L S (o.bind f) Q' E) :
    Post K xa R H L S o (fun b H1 => ∃ a L1 S1, Heaps K H1 L1 S1 ∧ Step H L S H1 L1 S1 ∧ R H1 L1 S1 a b ∧ Post K xa R' H1 L1 S1 (f a S1) Q' E) E := by
  cases o with
  | ok a S1 => exact fun b H1 L1 hh st r => ⟨a, L1, S1, hh, st, r, Post.step h st⟩
  | err e S1 => exact h
  | stuck => exact h
theorem Post.impR {R2 : Hp → Ads → Store → α → β → Prop} {o : Out α} (h : Post K xa R H L S o Q E) (hr : ∀ H' L' S' a b, R2 H' L' S' a b → R H' L' S' a b) : Post K xa R2 H L S o Q E := by
  cases o with
  | ok a S1 => exact fun b H1 L1 hh s r => h b H1 L1 hh s (hr _ _ _ _ _ r)
  | err e S1 => exact h
  | stuck => exact h
theorem Post.imp {o : Out α} {Q2 : β → Hp → Prop} {E2 : XK} (h : Post K xa R H L S o Q E) (hq : ∀ b H', Q b H' → Q2 b H') (he : ∀ c d H', E c d H' → E2 c d H') : Post K xa R H L S o Q2 E2 := by
  cases o with
  | ok a S1 => exact fun b H1 L1 hh s r => hq _ _ (h b H1 L1 hh s r)
  | err e S1 => exact fun d H1 L1 hh s r => he _ _ _ (h d H1 L1 hh s r)
  | stuck => exact h
end

/-- a new list: it may become a cell -/
def RepN (K : PySem.W.Frag) (H0 : Hp) (L0 : Ads) (S0 : Store) (H : Hp) (L : Ads) (S : Store) (s : Sl) (v : V) : Prop :=
  RepS K H L S s v ∧ ∃ a p c, s = .val p ∧ cellOf p = some c ∧ v = .ref a ∧ (∀ o, NT o → H0 a = some o → Live L0 S0 a) ∧ Heaps K H ⟨L.ad ++ [a], L.rs⟩ (S ++ [some c])
theorem fresh_old {K : PySem.W.Frag} {H H1 : Hp} {L L1 : Ads} {S S1 : Store} {D : Addr} (st : Step H L S H1 L1 S1) (hD : H1 D = none) : ∀ o, NT o → H D = some o → Live L S D := fun o nt e => Classical.byContradiction fun n => by
  have z := (st.kept D o nt e n).1
  rw [hD] at z
  cases z
/-- a list that is new since a state -/
def NewL (K : PySem.W.Frag) (H0 : Hp) (L0 : Ads) (S0 : Store) (H : Hp) (L : Ads) (S : Store) (p : PV) (v : V) : Prop :=
  ∃ a c, cellOf p = some c ∧ v = .ref a ∧ (∀ o, NT o → H0 a = some o → Live L0 S0 a) ∧ Heaps K H ⟨L.ad ++ [a], L.rs⟩ (S ++ [some c])
theorem old_step {H H1 : Hp} {L L1 : Ads} {S S1 : Store} {a : Addr} (st : Step H L S H1 L1 S1) (h : ∀ o, NT o → H1 a = some o → Live L1 S1 a) : ∀ o, NT o → H a = some o → Live L S a := fun o nt e => Classical.byContradiction fun n => by
  obtain ⟨z1, z2⟩ := st.kept a o nt e n
  exact z2 (h o nt z1)
theorem NewL.step {K : PySem.W.Frag} {H H1 H2 : Hp} {L L1 L2 : Ads} {S S1 S2 : Store} {p : PV} {v : V} (st : Step H L S H1 L1 S1) (h : NewL K H1 L1 S1 H2 L2 S2 p v) : NewL K H L S H2 L2 S2 p v := by
  obtain ⟨a, xs, e1, e2, e3, e4⟩ := h
  exact ⟨a, xs, e1, e2, old_step st e3, e4⟩
/-- what a call hands back -/
def RetB (b : Bool) (K : PySem.W.Frag) (H0 : Hp) (L0 : Ads) (S0 : Store) (H : Hp) (L : Ads) (S : Store) (p : PV) (v : V) : Prop :=
  Rep K H (Lv L S) p v ∧ (b = true → NewL K H0 L0 S0 H L S p v)
/-! ## the whole reading of a text -/
def TEv (X : Cx) (e : Expr) : TE := fun σ H Q => ∀ pins s, Inv X pins σ H s → wpAny (model X.prog X.w) X.A (eval e X.env) (EP X pins σ Q) X.xe s
theorem pe_T {X : Cx} (e : Expr) : PE X e (TEv X e) := ⟨fun pins s σ H Q I h => h pins s I⟩
theorem T_of {X : Cx} {e : Expr} {t : TE} {σ : Sx} {H : Hp} {Q : VK} (h : PE X e t) (ht : t σ H Q) : TEv X e σ H Q := fun pins s I => h.run pins s σ H Q I ht
def tAs (X : Cx) : List Expr → TA
  | [] => tNil
  | e :: es => tCons (TEv X e) (tAs X es)
def noStar : Expr → Bool
  | .Starred _ _ => false
  | _ => true
theorem star_cons {e : Expr} {es : List Expr} {env : Env} (h : noStar e = true) : starEach (e :: es) env = (false, eval e env) :: starEach es env := by
  cases e <;> first | rfl | cases h
theorem star_any {env : Env} {pos : Pos} : ∀ {es : List Expr}, es.all noStar = true → (backTo pos (starEach es env)).any (·.1) = false
  | [], _ => rfl
  | e :: es, h => by
    rw [List.all_cons, Bool.and_eq_true] at h
    rw [star_cons h.1]
    have ih := star_any (env := env) (pos := pos) h.2
    show (false || (backTo pos (starEach es env)).any (·.1)) = false
    rw [ih]
    rfl
theorem pa_T {X : Cx} : ∀ {es : List Expr}, es.all noStar = true → PA X es (tAs X es)
  | [], _ => pa_nil
  | e :: es, h => by
    rw [List.all_cons, Bool.and_eq_true] at h
    exact pa_cons (pe_T e) (pa_T h.2) (star_cons h.1)

/-! ## the context -/
/-- a def, by what it comes to -/
def spOf (b : Bool) (K : PySem.W.Frag) (xa : String → Addr) (C : CallF) (f : String) (n : Nat) : Sp := fun vs H Q E => vs.length = n ∧ ∃ as L S, Heaps K H L S ∧ RepSs K H L S as vs ∧
  Post K xa (RetB b K H L S) H L S (C f as S) Q E
def FnC (b : Bool) (X : Cx) (xa : String → Addr) (C : CallF) (k : Nat) (f : String) : Prop := ∃ (fa : Addr) (fd : FuncData) (ps : List Str), X.mg (S' f) = some (.ref fa) ∧ PySem.W.keepIn X.K (.ref fa) = true ∧ Binds X.K fd ps [] ∧
  (∀ as S, C f as S ≠ .stuck → as.length = ps.length) ∧ FnOk X.prog X.w X.K X.mg X.base (L2.CX X.prog X.w) k fa fd ps (spOf b X.K xa C f ps.length)
/-- a def of the exception at hand, which lies in slot i -/
def HotE (X : Cx) (f : String) (a : Addr) (p : PV) : Prop := ∀ (i : Nat) (x y : Str) (q r pos : Pos) (σ : Sx) (H : Hp) (Q : VK), (x == S' f && glo X.env.scope x && plain x) = true → (X.N[i]? == some y && vis X.env.scope y && plain y) = true →
  σ[i]? = some (some (.ref a)) → LamX.Tabs WW.tb H → (∀ v H', (∀ b o, NT o → H b = some o → H' b = some o) → LamX.Tabs WW.tb H' → (∀ K H' W, Rep K H' W p v) → Q v H') → TEv X (.Call (.Name x q) [.Name y r] [] pos) σ H Q
/-- isinstance of the exception at hand -/
def IsE (X : Cx) (d : String) (a : Addr) (b : Bool) : Prop := ∀ (i : Nat) (f y c : Str) (q r t pos : Pos) (σ : Sx) (H : Hp) (Q : VK), (f == S' "isinstance" && glo X.env.scope f && plain f) = true → (X.N[i]? == some y && vis X.env.scope y && plain y) = true →
  (c == S' d && glo X.env.scope c && plain c) = true → σ[i]? = some (some (.ref a)) → Q (.bl b) H → TEv X (.Call (.Name f q) [.Name y r, .Name c t] [] pos) σ H Q
/-- what __init__ does -/
def spInit (K : PySem.W.Frag) (c : String) : Sp := fun vs H Q _ => vs.length = (fldNames c).length + 1 ∧ ∃ x dx ws, vs = .ref x :: ws ∧ H x = some (.ins (clsA K c) dx []) ∧ Q .non (upd H x (.ins (clsA K c) dx ((fldS c).zip ws)))
def kinds : List String := ["NoneType", "bool", "int", "str", "tuple", "list"]
/-- a class of the program's own whose objects never change -/
structure ClsOk (PR : Program) (w : World) (K : PySem.W.Frag) (mg : Str → Option Value) (base : Heap) (c : String) : Prop where
  gl : mg (S' c) = some (.ref (clsA K c))
  mkr : ∃ f fd ps, Mk K (clsA K c) f ∧ L2.Binds K fd ps [] ∧ FnOk PR w K mg base CX0 1 f fd ps (spInit K c)
  cl : Cls K (clsA K c)
  na : ∀ f ∈ fldS c, NoAttr K (clsA K c) f
  ty : ∀ {H : Hp} {a dx : Addr} {fs : List (Str × V)}, H a = some (.ins (clsA K c) dx fs) → TyX K H (.ref a) (.ref (clsA K c))
  kit1 : PySem.W.kitOne K (.ref (clsA K c)) (.ref (clsA K c)) = some true
  kit0 : ∀ n ∈ kinds, PySem.W.kitOne K (.type n) (.ref (clsA K c)) = some false
def bnames : List String := ["isinstance", "len", "str", "int", "max", "min", "all", "list", "tuple", "range", "reversed", "bool", "dict", "sorted", "sum", "zip"]
structure CtxB (g : Cfg) (X : Cx) (W : WX) (xa : String → Addr) (k : Nat) (ha : Addr) : Prop where
  calm : X.calm = g.cm
  nd : X.N.Nodup
  tk : Takes X W
  un : X.A.units + 200 < cLine
  ww : X.w = WW.w
  room : g.cm = true → Room k X.A
  con : ∀ x p, g.G x = some p → ∃ u v, X.mg (S' x) = some u ∧ RelV v u ∧ ∀ H W', Rep X.K H W' p v
  blt : ∀ x ∈ bnames, X.mg (S' x) = none
  fns : ∀ f, g.has f = true → FnC false X xa g.C k f
  fnsN : ∀ f, g.has f = true → FnC true X xa g.CN k f
  hxn : g.cm = true → g.hx = none
  hots : ∀ f c i v, g.hx = some (c, i) → g.hv f c = some v → HotE X f ha v
  ish : ∀ c i d b, g.hx = some (c, i) → g.isx c d = some b → IsE X d ha b
  cls : ∀ c, g.cls c = true → ClsOk X.prog X.w X.K X.mg X.base c
  k2 : g.cm = true → 2 ≤ k
/-- the same module, the same code -/
structure Same (X X' : Cx) : Prop where
  prog : X'.prog = X.prog
  w : X'.w = X.w
  K : X'.K = X.K
  mg : X'.mg = X.mg
  base : X'.base = X.base
  A : X'.A = X.A
  code : X'.env.code = X.env.code
  qual : X'.env.qual = X.env.qual
  nd : X.N.Nodup → X'.N.Nodup
theorem Same.refl {X : Cx} : Same X X := ⟨rfl, rfl, rfl, rfl, rfl, rfl, rfl, rfl, id⟩
theorem Same.trans {X Y Z : Cx} (a : Same X Y) (b : Same Y Z) : Same X Z := ⟨b.prog.trans a.prog, b.w.trans a.w, b.K.trans a.K, b.mg.trans a.mg, b.base.trans a.base, b.A.trans a.A, b.code.trans a.code, b.qual.trans a.qual, fun h => b.nd (a.nd h)⟩
def RepV (K : PySem.W.Frag) (H : Hp) (L : Ads) (S : Store) (p : PV) (v : V) : Prop := Rep K H (Lv L S) p v
/-- a lambda that is handed to a def -/
def LamE (g : Cfg) (X : Cx) (xa : String → Addr) (f : String) : Prop := ∀ (ps : Arguments) (e : Expr) (scope : Scope) (p lp pos : Pos) (σ : Sx) (H : Hp) (L : Ads) (S : Store) (Q : VK) (F : Store → Out PV),
  glo X.env.scope (S' f) = true → plain (S' f) = true → noPar ps = true → lamSc X.env.scope scope = true → Heaps X.K H L S →
  (∀ (Y : Cx) (E : XK) (k' : Nat) (ha' : Addr), CtxB g.low Y (fun cl d _ H => E cl d H) xa k' ha' → Y.N = X.N → Y.K = X.K → Y.env.scope = scope → ∀ H' L' S' Q', Heaps X.K H' L' S' → Step H L S H' L' S' → Post X.K xa (RepV X.K) H' L' S' (F S') Q' E → TEv Y e σ H' Q') →
  Post X.K xa (RepV X.K) H L S (g.lam f F S) Q (fun _ _ _ => False) → TEv X (.Call (.Name (S' f) p) [.Lambda ps e scope lp] [] pos) σ H Q
structure Ctx (g : Cfg) (X : Cx) (W : WX) (xa : String → Addr) (k : Nat) (ha : Addr) : Prop extends CtxB g X W xa k ha where
  lams : g.cm = true → ∀ f X', Same X X' → LamE g X' xa f
/-- the slots; in an except suite the exception's own, too -/
def SlotsH (g : Cfg) (ha : Addr) (K : PySem.W.Frag) (H : Hp) (L : Ads) (S : Store) (σp : Lo) (σ : Sx) : Prop :=
  Slots K H L S σp σ ∧ ∀ c i, g.hx = some (c, i) → σ[i]? = some (some (.ref ha))
end Ev
end
section
set_option maxHeartbeats 1000000
namespace Ev
open PySem PySem.Spec PyProof.Rows L2
variable [WW]

/-! ## texts of a form -/
theorem glo_ok {X : Cx} {x : Str} (h : glo X.env.scope x = true) : Gl X x := by
  unfold glo at h
  show X.env.scope.names.lookup x = some .globalImplicit
  split at h
  · assumption
  · cases h
theorem plain_ok {x : Str} (h : plain x = true) : (x == ("__debug__" : Str)) = false ∧ (x == ("__classdict__" : Str)) = false ∧ x ≠ "__name__" := by
  unfold plain at h
  simp only [Bool.and_eq_true, Bool.not_eq_true'] at h
  exact ⟨h.1.1, h.1.2, fun e => by have z := h.2; rw [e] at z; exact absurd z (by decide)⟩
theorem vis_ok {sc : Scope} {x : Str} (h : vis sc x = true) : Vis sc x := by
  unfold vis at h
  split at h
  · exact .inl (by assumption)
  · exact .inr (.inl (by assumption))
  · exact .inr (.inr (by assumption))
  · cases h
theorem isName_inv {sc : Scope} {x : String} {e : Expr} (h : isName sc x e = true) : ∃ pos, e = .Name (S' x) pos ∧ glo sc (S' x) = true ∧ plain (S' x) = true := by
  cases e with
  | Name y pos =>
    simp only [isName, Bool.and_eq_true, beq_iff_eq] at h
    obtain ⟨⟨rfl, h2⟩, h3⟩ := h
    exact ⟨pos, rfl, h2, h3⟩
  | _ => simp [isName] at h
theorem isVar_inv {N : List Str} {sc : Scope} {i : Nat} {e : Expr} (h : isVar N sc i e = true) : ∃ y pos, e = .Name y pos ∧ N[i]? = some y ∧ vis sc y = true ∧ plain y = true := by
  cases e with
  | Name y pos =>
    simp only [isVar, Bool.and_eq_true, beq_iff_eq] at h
    exact ⟨y, pos, rfl, h.1.1, h.1.2, h.2⟩
  | _ => simp [isVar] at h
theorem call1_inv {sc : Scope} {x : String} {e : Expr} {as : List Expr} (h : call1 sc x e = some as) : ∃ p a pos, e = .Call (.Name (S' x) p) [a] [] pos ∧ as = [a] ∧ glo sc (S' x) = true ∧ plain (S' x) = true := by
  unfold call1 at h
  split at h
  · split at h
    · rename_i f a pos hn
      obtain ⟨p, rfl, h2, h3⟩ := isName_inv hn
      cases h
      exact ⟨p, a, pos, rfl, rfl, h2, h3⟩
    · cases h
  · cases h
theorem call2_inv {sc : Scope} {x : String} {e : Expr} {as : List Expr} (h : call2 sc x e = some as) : ∃ p a b pos, e = .Call (.Name (S' x) p) [a, b] [] pos ∧ as = [a, b] ∧ glo sc (S' x) = true ∧ plain (S' x) = true := by
  unfold call2 at h
  split at h
  · split at h
    · rename_i f a b pos hn
      obtain ⟨p, rfl, h2, h3⟩ := isName_inv hn
      cases h
      exact ⟨p, a, b, pos, rfl, rfl, h2, h3⟩
    · cases h
  · cases h
theorem meth1_inv {m : String} {e : Expr} {as : List Expr} (h : meth1 m e = some as) : ∃ o q a r, e = .Call (.Attribute o (S' m) q) [a] [] r ∧ as = [o, a] ∧ (q.endLine == r.line) = true ∧ notCall o = true := by
  unfold meth1 at h
  split at h
  · split at h
    · rename_i o n q a r hn
      simp only [Bool.and_eq_true] at hn
      obtain ⟨⟨h1, h2⟩, h3⟩ := hn
      rw [beq_iff_eq] at h1
      subst h1
      cases h
      exact ⟨o, q, a, r, rfl, rfl, h2, h3⟩
    · cases h
  · cases h

theorem meth2_inv {m : String} {e : Expr} {as : List Expr} (h : meth2 m e = some as) : ∃ o q a b r, e = .Call (.Attribute o (S' m) q) [a, b] [] r ∧ as = [o, a, b] ∧ (q.endLine == r.line) = true ∧ notCall o = true := by
  unfold meth2 at h
  split at h
  · split at h
    · rename_i o n q a b r hn
      simp only [Bool.and_eq_true] at hn
      obtain ⟨⟨h1, h2⟩, h3⟩ := hn
      rw [beq_iff_eq] at h1
      subst h1
      cases h
      exact ⟨o, q, a, b, r, rfl, rfl, h2, h3⟩
    · cases h
  · cases h

/-! ## operations by values -/
section
variable {X : Cx}
/-- xs + ys, both to be read -/
def rCatL (K : PySem.W.Frag) : R2 := fun x y H Q => ∃ l b xs zs, x = .ref l ∧ y = .ref b ∧ SqL K H l xs ∧ SqL K H b zs ∧ xs.length + zs.length ≤ sizeLine ∧ ∀ p, H p = none → Q (.ref p) (upd H p (.lst (xs ++ zs)))
theorem op_catL : OpR X (binaryOp .Add) (rCatL X.K) := by
  intro pins s σ H x y v u Q I rx ry h
  obtain ⟨l, b, xs, zs, rfl, rfl, h1, h2, hz, q⟩ := h
  cases rx
  cases ry
  obtain ⟨its, r, ⟨o, n, e, c, d0, d⟩, _⟩ := I.list h1
  obtain ⟨its2, r2, ⟨o2, n2, e2, c2, d02, d2⟩, _⟩ := I.list h2
  obtain ⟨oc, od, dt, sl⟩ := o
  obtain ⟨oc2, od2, dt2, sl2⟩ := o2
  simp only at c d0 d c2 d02 d2
  subst c d0 d c2 d02 d2
  have ea : its.toArray ++ its2.toArray = (its ++ its2).toArray := by simp
  have hsz : its.toArray.size + its2.toArray.size ≤ sizeLine := by
    rw [List.size_toArray, List.size_toArray, ← r.length, ← r2.length]
    exact hz
  refine concat_meets ⟨_, e, rfl⟩ ⟨_, e2, rfl⟩ noFill_list_add seq_list_add PySem.F.slot_list_add PySem.F.entry_list_add (PySem.F.args_list_add_2 _ _) (list_addW l b its.toArray its2.toArray n n2 none none sl sl2 hsz) ⟨e, e2, ?_⟩
  rw [ea]
  exact ⟨.ref _, _, I.lnew (t' := s.toks) (r.append r2) (by rw [List.length_append]; exact hz), rfl, q _ I.fresh⟩
def rBin (K : PySem.W.Frag) : BO → R2
  | .add => fun x y H Q => rI0 (fun i j => .int (i + j)) x y H Q ∨ ((∃ i j, x = .str i ∧ y = .str j ∧ i.length + j.length ≤ sizeLine ∧ Q (.str (i ++ j)) H) ∨ (rCatL K x y H Q ∨ rCatA K x y H Q))
  | .sub => rI0 fun i j => .int (i - j)
  | .mul => fun x y H Q => rI CMul (fun i j => .int (i * j)) x y H Q ∨ rI CMulW (fun i j => .int (i * j)) x y H Q
  | .fdiv => rI CDivW fun i j => .int (i / j)
  | .mod => rI (fun _ j => 0 < j) fun i j => .int (i % j)
  | .pow => rI CPow fun i j => .int (i ^ j.toNat)
  | .shl => rI CPow fun i j => .int (i * 2 ^ j.toNat)
theorem opr_bin : ∀ o : BO, OpR X (binaryOp o.op) (rBin X.K o)
  | .add => op_add.or (op_add_str.or (op_catL.or op_catA))
  | .sub => op_sub
  | .mul => op_mul.or op_mulW
  | .fdiv => op_fdivW
  | .mod => op_mod
  | .pow => op_pow
  | .shl => op_shl
theorem okd_min {a b : PV} (h : okd a b = true) : min (pd a) (pd b) ≤ 150 := by
  unfold okd at h
  simp only [Bool.and_eq_true, Bool.or_eq_true, decide_eq_true_eq] at h
  omega
theorem okd_dat {a b : PV} (h : okd a b = true) : dat a = true ∧ dat b = true := by
  unfold okd at h
  simp only [Bool.and_eq_true] at h
  exact h.1
theorem okd_dats {p : PV} : ∀ {ps : List PV}, (∀ q ∈ ps, okd q p = true) → dats ps = true
  | [], _ => rfl
  | q :: ps, h => by
    simp only [dats, Bool.and_eq_true]
    exact ⟨(okd_dat (h q List.mem_cons_self)).1, okd_dats fun x hx => h x (List.mem_cons_of_mem _ hx)⟩
/-- == and != of data -/
def rEqP (K : PySem.W.Frag) (neg : Bool) : R2 := fun x y H Q => ∃ p q W, Rep K H W p x ∧ Rep K H W q y ∧ okd p q = true ∧ Q (.bl (if neg then !eqv p q else eqv p q)) H
theorem op_eqP (hu : X.A.units + 200 < cLine) : OpR X (compareOp .Eq) (rEqP X.K false) := by
  intro pins s σ H x y v u Q I rx ry h
  obtain ⟨p, q, W, h1, h2, hd, hq⟩ := h
  have hm := okd_min hd
  obtain ⟨d1, d2⟩ := okd_dat hd
  exact rcAt p q v u (Rep.con I p x v d1 h1 rx) (Rep.con I q y u d2 h2 ry) (by omega) _ _ _ _ ⟨.bl _, H, I, rfl, hq⟩
theorem op_neP (hu : X.A.units + 200 < cLine) : OpR X (compareOp .NotEq) (rEqP X.K true) := by
  intro pins s σ H x y v u Q I rx ry h
  obtain ⟨p, q, W, h1, h2, hd, hq⟩ := h
  have hm := okd_min hd
  obtain ⟨d1, d2⟩ := okd_dat hd
  exact rcNeAt p q v u (Rep.con I p x v d1 h1 rx) (Rep.con I q y u d2 h2 ry) (by omega) _ _ _ _ ⟨.bl _, H, I, rfl, hq⟩
/-- what an item's answer is, read off the value -/
theorem any_cons_eq {α : Type} {f : α → Bool} {a : α} {r : List α} : (a :: r).any f = (f a || r.any f) := rfl
/-- x in a list or tuple of data -/
def rInP (K : PySem.W.Frag) (neg : Bool) : R2 := fun x y H Q => ∃ a vs ps p W, y = .ref a ∧ (SqL K H a vs ∨ SqT K H a vs) ∧ Reps K H W ps vs ∧ Rep K H W p x ∧ (∀ q ∈ ps, okd q p = true) ∧
  Q (.bl (if neg then !ps.any (fun q => eqv q p) else ps.any fun q => eqv q p)) H
open Classical in
/-- an answer for each value: that of some datum that stands for it -/
noncomputable def ansOf (h : Heap) (p : PV) (u : Value) : Bool := if e : ∃ q, Con h q u then eqv e.choose p else false
theorem ansOf_eq {h : Heap} {p q : PV} {u : Value} (c : Con h q u) : ansOf h p u = eqv q p := by
  unfold ansOf
  have e : ∃ q, Con h q u := ⟨q, c⟩
  rw [dif_pos e, Con.uniq e.choose q u e.choose_spec c]
theorem ansOf_any {h : Heap} {p : PV} : ∀ {ps : List PV} {us : List Value}, Cons h ps us → us.any (ansOf h p) = ps.any fun q => eqv q p
  | [], _, c => by cases c; rfl
  | q :: ps, _, c => by
    obtain ⟨u, r, rfl, c1, c2⟩ := c
    rw [List.any_cons, List.any_cons, ansOf_eq c1, ansOf_any c2]
theorem Cons.mem {h : Heap} : ∀ {ps : List PV} {us : List Value}, Cons h ps us → ∀ u ∈ us, ∃ q ∈ ps, Con h q u
  | [], _, c, u, hu => by cases c; cases hu
  | q :: ps, _, c, u, hu => by
    obtain ⟨w, r, rfl, c1, c2⟩ := c
    rcases List.mem_cons.mp hu with e | hu
    · subst e; exact ⟨q, List.mem_cons_self, c1⟩
    · obtain ⟨q', m, c'⟩ := Cons.mem c2 u hu
      exact ⟨q', List.mem_cons_of_mem _ m, c'⟩
theorem in_eqAt {A : Around} {s : Shared} {ps : List PV} {us : List Value} {p : PV} {v : Value} (c : Cons s.heap ps us) (cp : dat p = true → Con s.heap p v) (hd : ∀ q ∈ ps, okd q p = true) (hu : A.units + 200 < cLine) :
    ∀ y, y ∈ us.toArray → SeqAt.EqAt A.in1 s y v (ansOf s.heap p y) := fun y hy => by
  obtain ⟨q, hq, cq⟩ := Cons.mem c y (by simpa using hy)
  rw [ansOf_eq cq]
  refine eqAt q p y v cq (cp (okd_dat (hd q hq)).2) ?_
  have h1 := okd_min (hd q hq)
  show A.units + 1 + min (pd q) (pd p) < cLine
  omega
theorem op_inP (hu : X.A.units + 200 < cLine) : OpR X (compareOp .In) (rInP X.K false) := by
  intro pins s σ H x y v u Q I rx ry h
  obtain ⟨a, vs, ps, p, W, rfl, hq, h1, h2, hd, q⟩ := h
  cases ry
  have cp := fun d => Rep.con I p x v d h2 rx
  rcases hq with hq | hq
  · obtain ⟨its, r, pl, hz⟩ := I.list hq
    have cs := Reps.con I ps vs its (okd_dats hd) h1 r
    refine SeqAt.in_listAt (ansOf s.heap p) pl.isList (in_eqAt cs cp hd hu) ⟨.bl _, H, I, rfl, ?_⟩
    rw [show its.toArray.any (ansOf s.heap p) = its.any (ansOf s.heap p) by simp, ansOf_any cs]
    exact q
  · obtain ⟨its, r, pl, hz⟩ := I.tuple hq
    have cs := Reps.con I ps vs its (okd_dats hd) h1 r
    refine SeqAt.in_tupleAt (ansOf s.heap p) pl (in_eqAt cs cp hd hu) ⟨.bl _, H, I, rfl, ?_⟩
    rw [show its.toArray.any (ansOf s.heap p) = its.any (ansOf s.heap p) by simp, ansOf_any cs]
    exact q
theorem op_ninP (hu : X.A.units + 200 < cLine) : OpR X (compareOp .NotIn) (rInP X.K true) := by
  intro pins s σ H x y v u Q I rx ry h
  obtain ⟨a, vs, ps, p, W, rfl, hq, h1, h2, hd, q⟩ := h
  cases ry
  have cp := fun d => Rep.con I p x v d h2 rx
  rcases hq with hq | hq
  · obtain ⟨its, r, pl, hz⟩ := I.list hq
    have cs := Reps.con I ps vs its (okd_dats hd) h1 r
    refine SeqAt.notIn_listAt (ansOf s.heap p) pl.isList (in_eqAt cs cp hd hu) ⟨.bl _, H, I, rfl, ?_⟩
    rw [show its.toArray.any (ansOf s.heap p) = its.any (ansOf s.heap p) by simp, ansOf_any cs]
    exact q
  · obtain ⟨its, r, pl, hz⟩ := I.tuple hq
    have cs := Reps.con I ps vs its (okd_dats hd) h1 r
    refine SeqAt.notIn_tupleAt (ansOf s.heap p) pl (in_eqAt cs cp hd hu) ⟨.bl _, H, I, rfl, ?_⟩
    rw [show its.toArray.any (ansOf s.heap p) = its.any (ansOf s.heap p) by simp, ansOf_any cs]
    exact q
def rSign (neg : Bool) : R2 := fun x y H Q => ∃ (c : Nat) (z : Str), x = .str ⟨#[c]⟩ ∧ y = .str z ∧ Q (.bl (if neg then !decide (c ∈ z.cps.toList) else decide (c ∈ z.cps.toList))) H
def rCmp (K : PySem.W.Frag) : CO → R2
  | .eq => rEqP K false
  | .ne => rEqP K true
  | .lt => rI0 fun i j => .bl (decide (i < j))
  | .le => rI0 fun i j => .bl (decide (i ≤ j))
  | .gt => rI0 fun i j => .bl (decide (j < i))
  | .ge => rI0 fun i j => .bl (decide (j ≤ i))
  | .isn => fun x y H Q => y = .non ∧ Q (.bl (decide (x = .non))) H
  | .ntn => fun x y H Q => y = .non ∧ Q (.bl (!decide (x = .non))) H
  | .in_ => fun x y H Q => rInP K false x y H Q ∨ rSign false x y H Q
  | .nin => fun x y H Q => rInP K true x y H Q ∨ rSign true x y H Q
theorem opr_cmp (hu : X.A.units + 200 < cLine) : ∀ o : CO, OpR X (compareOp o.op) (rCmp X.K o)
  | .eq => op_eqP hu
  | .ne => op_neP hu
  | .lt => op_lt
  | .le => op_le
  | .gt => op_gt
  | .ge => op_ge
  | .isn => op_isN
  | .ntn => op_notN
  | .in_ => (op_inP hu).or op_in_sign
  | .nin => (op_ninP hu).or op_notIn_sign
/-- xs.count(v) of data -/
def rCntP (K : PySem.W.Frag) : V → List V → Hp → VK → Prop := fun x xs H Q => ∃ a vs ps p y W, x = .ref a ∧ xs = [y] ∧ SqL K H a vs ∧ Reps K H W ps vs ∧ Rep K H W p y ∧ (∀ q ∈ ps, okd q p = true) ∧ Q (.int (ps.countP fun q => eqv q p)) H
theorem ansOf_cnt {h : Heap} {p : PV} : ∀ {ps : List PV} {us : List Value}, Cons h ps us → us.countP (ansOf h p) = ps.countP fun q => eqv q p
  | [], _, c => by cases c; rfl
  | q :: ps, _, c => by
    obtain ⟨u, r, rfl, c1, c2⟩ := c
    rw [List.countP_cons, List.countP_cons, ansOf_eq c1, ansOf_cnt c2]
theorem mt_cntP (hu : X.A.units + 200 < cLine) : MtR X "list.count" (rCntP X.K) := by
  intro pins s σ H x xs v us Q I rx rs h
  obtain ⟨a, vs, ps, p, y, W, rfl, rfl, hq, h1, h2, hd, q⟩ := h
  cases rx
  obtain ⟨u, rfl, ru⟩ := vals1 rs
  have cp := fun d => Rep.con I p y u d h2 ru
  obtain ⟨its, r, ⟨o, n, e, c, d0, d⟩, hz⟩ := I.list hq
  have cs := Reps.con I ps vs its (okd_dats hd) h1 r
  obtain ⟨oc, od, dt, sl⟩ := o
  simp only at c d0 d
  subst c d0 d
  refine call_meets F.slot_list_count ⟨_, e, rfl⟩ F.entry_list_count (F.args_list_count_2 _ _) (SeqAt.list_countAt a its.toArray n none sl u (ansOf s.heap p)) ⟨e, in_eqAt cs cp hd hu, ?_⟩
  show EP X pins σ Q (.int _ s.toks) _
  refine ⟨.int (ps.countP fun q => eqv q p), H, I.tok _, ⟨s.toks, ?_⟩, q⟩
  rw [← ansOf_cnt cs]
end
end Ev
end
section
set_option maxHeartbeats 1000000
namespace Ev
open PySem PySem.Spec PyProof.Rows L2
variable [WW]

/-! ## the reading of a primitive -/
def rSlP (K : PySem.W.Frag) : V → Option Int → Option Int → Hp → VK → Prop := fun x lo hi H Q => rSlS x lo hi H Q ∨ (rSlL K x lo hi H Q ∨ rSlA K x lo hi H Q)
theorem sl_P {X : Cx} : SlR X (rSlP X.K) := sl_str.or (sl_list.or sl_tupA)
theorem vals_of : ∀ (vs : List V) (us : List Value), vs.length = us.length → (∀ (i : Nat) (v : V) (u : Value), vs[i]? = some v → us[i]? = some u → RelV v u) → Vals vs us
  | [], [], _, _ => .nil
  | [], _ :: _, h, _ => by cases h
  | _ :: _, [], h, _ => by cases h
  | v :: vs, u :: us, h, k => .cons (k 0 v u rfl rfl) (vals_of vs us (Nat.succ.inj h) fun i v' u' a b => k (i + 1) v' u' a b)
/-- list(text) -/
theorem call_list_text {X : Cx} (hc : X.calm = true) : CallR X (.type "list") (fun vs H Q => ∃ z : List Nat, vs = [.str (toStr z)] ∧ z.length ≤ sizeLine ∧ ∀ l, H l = none → Q (.ref l) (upd H l (.lst (z.map fun c => V.str (toStr [c]))))) := by
  intro pins s σ H xs us Q I r h
  obtain ⟨z, rfl, hz, q⟩ := h
  obtain ⟨u, rfl, t, rfl⟩ := vals1 r
  refine call_list_str (I.ok.hd hc) (toStr z) t (fun h' tk acc c' kp e it => ?_) (by simpa [toStr] using hz)
  have hl : acc.size = z.length := by rw [it.1]; simp [toStr]
  have r' : Vals (z.map fun c => V.str (toStr [c])) acc.toList := by
    refine vals_of _ _ (by simp [hl]) fun i v u h1 h2 => ?_
    rw [Array.getElem?_toList] at h2
    obtain ⟨c, w, h3, rfl⟩ := it.2 i u h2
    have h4 : z[i]? = some c := by simpa [toStr] using h3
    rw [List.getElem?_map, h4] at h1
    cases h1
    exact ⟨w, rfl⟩
  refine ⟨.ref s.heap.objs.size, _, I.laid (t' := tk) kp (Nat.le_refl _) (show ObjOk X.prog X.w _ h' _ (.lst _) from ⟨by simpa using hz, acc.toList, c', r', e⟩), rfl, q _ (I.hok.fresh (Nat.le_refl _))⟩
def rP (X : Cx) : Prim → List V → Hp → VK → Prop
  | .bin o, vs, H, Q => ∃ x y, vs = [x, y] ∧ rBin X.K o x y H Q
  | .cmp o, vs, H, Q => ∃ x y, vs = [x, y] ∧ rCmp X.K o x y H Q
  | .neg, vs, H, Q => ∃ x, vs = [x] ∧ rU (fun i => .int (-i)) x H Q
  | .tup, vs, H, Q => vs.length ≤ sizeLine ∧ ∀ p, H p = none → Q (.ref p) (upd H p (.tup vs))
  | .lst, vs, H, Q => vs.length ≤ sizeLine ∧ ∀ p, H p = none → Q (.ref p) (upd H p (.lst vs))
  | .sub, vs, H, Q => ∃ x y, vs = [x, y] ∧ (rIx X.K x y H Q ∨ rGetI X x y H Q)
  | .sl00, vs, H, Q => ∃ x, vs = [x] ∧ rSlP X.K x none none H Q
  | .sl01, vs, H, Q => ∃ x j, vs = [x, .int j] ∧ rSlP X.K x none (some j) H Q
  | .sl10, vs, H, Q => ∃ x i, vs = [x, .int i] ∧ rSlP X.K x (some i) none H Q
  | .isi t, vs, H, Q => ∃ x, vs = [x] ∧ rIsi X.K [x, .ty t.nm] H Q
  | .len, vs, H, Q => (∃ x n, vs = [x] ∧ LenV X.K x H n ∧ Q (.int n) H) ∨ rLenN X vs H Q
  | .str, vs, H, Q => ∃ i : Int, vs = [.int i] ∧ i.natAbs.log2 < 1920 ∧ Q (.str (toString i)) H
  | .int, vs, H, Q => (∃ i, vs = [.int i] ∧ Q (.int i) H) ∨ ((∃ b : Bool, vs = [.bl b] ∧ Q (.int (if b then 1 else 0)) H) ∨ ∃ a n, vs = [.str a] ∧ PySem.intText? a = some n ∧ a.length ≤ 640 ∧ Q (.int n) H)
  | .max2, vs, H, Q => ∃ i j : Int, vs = [.int i, .int j] ∧ Q (.int (if j > i then j else i)) H
  | .min2, vs, H, Q => ∃ i j : Int, vs = [.int i, .int j] ∧ Q (.int (if j < i then j else i)) H
  | .all, vs, H, Q => rAll X.K vs H Q
  | .list, vs, H, Q => (∃ p ys, vs = [.ref p] ∧ (SqL X.K H p ys ∨ SqT X.K H p ys) ∧ ∀ l, H l = none → Q (.ref l) (upd H l (.lst ys))) ∨ (∃ z : List Nat, vs = [.str (toStr z)] ∧ z.length ≤ sizeLine ∧ ∀ l, H l = none → Q (.ref l) (upd H l (.lst (z.map fun c => V.str (toStr [c])))))
  | .tuple, vs, H, Q => ∃ p ys, vs = [.ref p] ∧ ((SqL X.K H p ys ∧ ∀ l, H l = none → Q (.ref l) (upd H l (.tup ys))) ∨ (SqT X.K H p ys ∧ Q (.ref p) H))
  | .count, vs, H, Q => ∃ x y, vs = [x, y] ∧ rCntP X.K x [y] H Q
  | .get2, vs, H, Q => ∃ x y z a r, vs = [x, y, z] ∧ x = .ref a ∧ DGetN X H a y r ∧ Q (r.getD z) H
  | .dict0, vs, H, Q => vs = [] ∧ ∀ p, H p = none → Q (.ref p) (upd H p (DctO X.w p []))
  | .join, vs, H, Q => ∃ x y, vs = [x, y] ∧ ∃ a p, ∃ ys : List Str, x = .str a ∧ y = .ref p ∧ (SqL X.K H p (ys.map V.str) ∨ SqT X.K H p (ys.map V.str)) ∧ (ys.map (·.length)).sum + ys.length * a.length ≤ 16777216 ∧ Q (.str (Txt.join a ys)) H
section
variable {g : Cfg} {X : Cx} {W : WX} {xa : String → Addr} {k : Nat} {ha : Addr} {σ : Sx} {H : Hp} {Q : VK} {e : Expr} {as : List Expr}
theorem plainIx {b : Expr} (h : notSlice b = true) : PlainIx b := fun o i => by
  cases b <;> first | rfl | cases h
theorem attr_plain {o : Expr} {f : Str} {env : Env} (h : notCall o = true) : attributeBase o f env (eval o env) = eval o env := by
  cases o <;> first | rfl | cases h
theorem few_one {e : Expr} {env : Env} {pos : Pos} (h : noStar e = true) : ((backTo pos (starEach [e] env)).all (fun x => !x.1) && (backToKw pos (keywordEach [] env)).all (fun x => x.1.isSome)
      && decide ([e].length + ([] : List Keyword).length + (if ([] : List Keyword).isEmpty then 0 else 1) < 30)) = true := by
  rw [star_cons h]
  rfl
theorem few_two {e f : Expr} {env : Env} {pos : Pos} (h : noStar e = true) (h2 : noStar f = true) : ((backTo pos (starEach [e, f] env)).all (fun x => !x.1) && (backToKw pos (keywordEach [] env)).all (fun x => x.1.isSome)
      && decide ([e, f].length + ([] : List Keyword).length + (if ([] : List Keyword).isEmpty then 0 else 1) < 30)) = true := by
  rw [star_cons h, star_cons h2]
  rfl
/-- a call of a built-in function of one, of two -/
theorem callB1 (c : Ctx g X W xa k ha) {x : String} {id : String} {r : List V → Hp → VK → Prop} (hr : CallR X (.builtin id) r) (hb : bootBuiltins (S' x) = some (.builtin id)) (hx : x ∈ bnames) (hp : call1 X.env.scope x e = some as) (ns : as.all noStar = true)
    (h : tAs X as σ H fun vs H1 => r vs H1 Q) : TEv X e σ H Q := by
  obtain ⟨p, a, pos, rfl, rfl, hg, hpl⟩ := call1_inv hp
  obtain ⟨d1, d2, d3⟩ := plain_ok hpl
  have n1 : noStar a = true := by simpa using ns
  exact T_of (pe_callB hr (glo_ok hg) (c.blt x hx) hb (pa_T (es := [a]) ns) d3 d1 (star_cons n1) rfl) h
theorem callB2 (c : Ctx g X W xa k ha) {x : String} {id : String} {r : List V → Hp → VK → Prop} (hr : CallR X (.builtin id) r) (hb : bootBuiltins (S' x) = some (.builtin id)) (hx : x ∈ bnames) (hp : call2 X.env.scope x e = some as) (ns : as.all noStar = true)
    (h : tAs X as σ H fun vs H1 => r vs H1 Q) : TEv X e σ H Q := by
  obtain ⟨p, a, b, pos, rfl, rfl, hg, hpl⟩ := call2_inv hp
  obtain ⟨d1, d2, d3⟩ := plain_ok hpl
  have n1 : noStar a = true ∧ noStar b = true := by simpa using ns
  exact T_of (pe_callB hr (glo_ok hg) (c.blt x hx) hb (pa_T (es := [a, b]) ns) d3 d1 (star_cons n1.1) (star_any (es := [b]) (by simpa using n1.2))) h
theorem callT1 (c : Ctx g X W xa k ha) {x : String} {id : String} {r : List V → Hp → VK → Prop} (hr : CallR X (.type id) r) (hb : bootBuiltins (S' x) = some (.type id)) (hx : x ∈ bnames) (hp : call1 X.env.scope x e = some as) (ns : as.all noStar = true)
    (h : tAs X as σ H fun vs H1 => r vs H1 Q) : TEv X e σ H Q := by
  obtain ⟨p, a, pos, rfl, rfl, hg, hpl⟩ := call1_inv hp
  obtain ⟨d1, d2, d3⟩ := plain_ok hpl
  have n1 : noStar a = true := by simpa using ns
  exact T_of (pe_callTy hr (glo_ok hg) (c.blt x hx) hb (pa_T (es := [a]) ns) d3 d1 (star_cons n1) rfl) h
theorem boot_ty (t : Ty) : bootBuiltins (S' t.nm) = some (.type t.nm) := by cases t <;> decide +kernel
theorem nm_bn (t : Ty) : t.nm ∈ bnames := by cases t <;> decide
/-- the readings of one, two, three parts -/
theorem tAs1 {a : Expr} {R : List V → Hp → Prop} (h : tAs X [a] σ H R) : TEv X a σ H fun x H1 => R [x] H1 := h
theorem tAs2 {a b : Expr} {R : List V → Hp → Prop} (h : tAs X [a, b] σ H R) : TEv X a σ H fun x H1 => TEv X b σ H1 fun y H2 => R [x, y] H2 := h
theorem tAs3 {a b d : Expr} {R : List V → Hp → Prop} (h : tAs X [a, b, d] σ H R) : TEv X a σ H fun x H1 => TEv X b σ H1 fun y H2 => TEv X d σ H2 fun z H3 => R [x, y, z] H3 := h
theorem TEv.imp {e : Expr} {Q Q' : VK} (h : TEv X e σ H Q) (hq : ∀ v H', Q v H' → Q' v H') : TEv X e σ H Q' := fun pins s I => thn (h pins s I) fun u s' ⟨v, H', I', r, q⟩ => ⟨v, H', I', r, hq v H' q⟩
theorem call_int3 : CallR X (.type "int") (fun vs H Q => (∃ i, vs = [.int i] ∧ Q (.int i) H) ∨ ((∃ b : Bool, vs = [.bl b] ∧ Q (.int (if b then 1 else 0)) H) ∨ ∃ a n, vs = [.str a] ∧ PySem.intText? a = some n ∧ a.length ≤ 640 ∧ Q (.int n) H)) := by
  intro pins s σ H xs us Q I rs h
  rcases h with h | h | h
  · exact call_int1 pins s σ H xs us Q I rs (.inl h)
  · exact call_int1 pins s σ H xs us Q I rs (.inr h)
  · exact call_int_str pins s σ H xs us Q I rs h
theorem call_lenX : CallR X (.builtin "len") (fun vs H Q => (∃ x n, vs = [x] ∧ LenV X.K x H n ∧ Q (.int n) H) ∨ rLenN X vs H Q) := by
  intro pins s σ H xs us Q I rs h
  rcases h with h | h
  · exact call_len pins s σ H xs us Q I rs h
  · exact call_lenN pins s σ H xs us Q I rs h
theorem prim_T (c : Ctx g X W xa k ha) (p : Prim) (hc : (!g.cm && calmP p) = false) (hp : parts X.env.scope p e = some as) (ns : as.all noStar = true)
    (h : tAs X as σ H fun vs H1 => rP X p vs H1 Q) : TEv X e σ H Q := by
  have calm : calmP p = true → X.calm = true := fun z => by
    rw [c.calm]
    cases hg : g.cm with
    | true => rfl
    | false => rw [hg, z] at hc; cases hc
  cases p with
  | bin o =>
    simp only [parts] at hp
    split at hp
    · split at hp
      · rename_i a op b pos ho
        rw [beq_iff_eq] at ho
        subst ho
        cases hp
        refine T_of (pe_op (opr_bin o) (pe_T a) (pe_T b)) ((tAs2 h).imp fun x H1 h1 => h1.imp fun y H2 h2 => ?_)
        obtain ⟨x', y', e1, q⟩ := h2
        cases e1
        exact q
      · cases hp
    · cases hp
  | cmp o =>
    simp only [parts] at hp
    split at hp
    · split at hp
      · rename_i a op b pos ho
        rw [Bool.and_eq_true, beq_iff_eq] at ho
        obtain ⟨rfl, hs⟩ := ho
        cases hp
        have hm : behindInMarks o.op b = false := by cases b <;> first | rfl | cases hs
        refine T_of (pe_cmpR (opr_cmp c.un o) (pe_T a) (pe_T b) hm) ((tAs2 h).imp fun x H1 h1 => h1.imp fun y H2 h2 => ?_)
        obtain ⟨x', y', e1, q⟩ := h2
        cases e1
        exact q
      · cases hp
    · cases hp
  | neg =>
    simp only [parts] at hp
    split at hp
    · cases hp
      refine T_of (pe_un un_neg (pe_T _)) ((tAs1 h).imp fun x H1 h1 => ?_)
      obtain ⟨x', e1, q⟩ := h1
      cases e1
      exact q
    · cases hp
  | tup =>
    simp only [parts] at hp
    split at hp
    · cases hp
      exact T_of (pe_tup (pa_T ns)) h
    · cases hp
  | lst =>
    simp only [parts] at hp
    split at hp
    · cases hp
      exact T_of (pe_lst (pa_T ns)) h
    · cases hp
  | sub =>
    simp only [parts] at hp
    split at hp
    · split at hp
      · rename_i a b pos ho
        cases hp
        refine T_of (pe_ix (IxR.or ix_seq (ix_dctN (Nat.lt_of_le_of_lt (Nat.add_le_add_left (by decide) _) c.un))) (pe_T a) (pe_T b) (plainIx ho)) ((tAs2 h).imp fun x H1 h1 => h1.imp fun y H2 h2 => ?_)
        obtain ⟨x', y', e1, q⟩ := h2
        cases e1
        exact q
      · cases hp
    · cases hp
  | sl00 =>
    simp only [parts] at hp
    split at hp
    · cases hp
      refine T_of (pe_slice sl_P (pe_T _) po_none po_none) ((tAs1 h).imp fun x H1 h1 => ?_)
      obtain ⟨x', e1, q⟩ := h1
      cases e1
      exact q
    · cases hp
  | sl01 =>
    simp only [parts] at hp
    split at hp
    · cases hp
      refine T_of (pe_slice sl_P (pe_T _) po_none (po_some (pe_T _))) ((tAs2 h).imp fun x H1 h1 => h1.imp fun y H2 h2 => ?_)
      obtain ⟨x', j, e1, q⟩ := h2
      cases e1
      exact ⟨j, rfl, q⟩
    · cases hp
  | sl10 =>
    simp only [parts] at hp
    split at hp
    · cases hp
      refine T_of (pe_slice sl_P (pe_T _) (po_some (pe_T _)) po_none) ((tAs2 h).imp fun x H1 h1 => h1.imp fun y H2 h2 => ?_)
      obtain ⟨x', j, e1, q⟩ := h2
      cases e1
      exact ⟨j, rfl, q⟩
    · cases hp
  | isi t =>
    simp only [parts] at hp
    split at hp
    · split at hp
      · rename_i f a b pos ho
        rw [Bool.and_eq_true] at ho
        obtain ⟨p1, rfl, g1, pl1⟩ := isName_inv ho.1
        obtain ⟨p2, rfl, g2, pl2⟩ := isName_inv ho.2
        cases hp
        obtain ⟨d1, d2, d3⟩ := plain_ok pl1
        obtain ⟨d4, d5, d6⟩ := plain_ok pl2
        have n1 : noStar a = true := by simpa using ns
        refine T_of (pe_callB call_isi (glo_ok g1) (c.blt _ (by decide)) (by decide +kernel) (pa_cons (pe_T a) (pa_cons (pe_bltn (v := .ty t.nm) (glo_ok g2) (c.blt _ (nm_bn t)) (boot_ty t) rfl d6 d4) pa_nil) (star_cons n1)) d3 d1 (star_cons n1) rfl) ((tAs1 h).imp fun x H1 h1 => ?_)
        obtain ⟨x', e1, q⟩ := h1
        cases e1
        exact q
      · cases hp
    · cases hp
  | len => exact callB1 c (call_lenX (X := X)) boot_len (by decide) hp ns h
  | str => exact callT1 c call_str_int (by decide +kernel) (by decide) hp ns h
  | int => exact callT1 c call_int3 (by decide +kernel) (by decide) hp ns h
  | max2 => exact callB2 c (call_max2 (calm rfl)) (by decide +kernel) (by decide) hp ns h
  | min2 => exact callB2 c (call_min2 (calm rfl)) (by decide +kernel) (by decide) hp ns h
  | all => exact callB1 c (cr_all (calm rfl)) (by decide +kernel) (by decide) hp ns h
  | list => exact callT1 c (call_list_of.or (call_list_text (calm rfl))) (by decide +kernel) (by decide) hp ns h
  | tuple => exact callT1 c call_tuple_of (by decide +kernel) (by decide) hp ns h
  | dict0 =>
    simp only [parts] at hp
    split at hp
    · cases hp
      exact T_of pe_dnewN (show tDNewN X σ H Q from (show rP X .dict0 [] H Q from h).2)
    · cases hp
  | count => cases hp
  | join => cases hp
  | get2 => cases hp
/-- a method: its receiver's kind is known ahead of what it is handed -/
def recvT (X : Cx) (p : Prim) (x : V) (H : Hp) : Prop := match p with
  | .count => tyV X.K "list" x H
  | .join => tyV X.K "str" x H
  | .get2 => IsDN X H x
  | _ => False
theorem meth_T (c : Ctx g X W xa k ha) (p : Prim) {o : Expr} (hp : mparts p e = some (o :: as)) (ns : (o :: as).all noStar = true)
    (h : TEv X o σ H fun x H1 => recvT X p x H1 ∧ tAs X as σ H1 fun vs H2 => rP X p (x :: vs) H2 Q) : TEv X e σ H Q := by
  cases p with
  | count =>
    obtain ⟨o', q, a, r, rfl, e1, hl, hn⟩ := meth1_inv hp
    cases e1
    have n1 : noStar o = true ∧ noStar a = true := by simpa using ns
    refine T_of (pe_bm PySem.F.plainAttrs_list PySem.F.slot_list_count PySem.F.type_list_count (mt_cntP c.un) (pe_T o) (pa_T (es := [a]) (by simpa using n1.2)) (attr_plain hn) (few_one n1.2) hl (star_cons n1.2) rfl) (h.imp fun x H1 h1 => ⟨h1.1, (tAs1 h1.2).imp fun y H2 h2 => ?_⟩)
    obtain ⟨x', y', e2, q⟩ := h2
    cases e2
    exact q
  | join =>
    obtain ⟨o', q, a, r, rfl, e1, hl, hn⟩ := meth1_inv hp
    cases e1
    have n1 : noStar o = true ∧ noStar a = true := by simpa using ns
    refine T_of (pe_bm PySem.F.plainAttrs_str PySem.F.slot_str_join PySem.F.type_str_join mt_join (pe_T o) (pa_T (es := [a]) (by simpa using n1.2)) (attr_plain hn) (few_one n1.2) hl (star_cons n1.2) rfl) (h.imp fun x H1 h1 => ⟨h1.1, (tAs1 h1.2).imp fun y H2 h2 => ?_⟩)
    obtain ⟨x', y', e2, a', p', ys, ex, ey, q⟩ := h2
    cases e2
    exact ⟨a', p', ys, ex, by rw [ey], q⟩
  | get2 =>
    obtain ⟨o', q, a, b, r, rfl, e1, hl, hn⟩ := meth2_inv hp
    cases e1
    have n1 : noStar o = true ∧ noStar a = true ∧ noStar b = true := by simpa using ns
    refine T_of (pe_get2N (Nat.lt_of_le_of_lt (Nat.add_le_add_left (by decide) _) c.un) (pe_T o) (pe_T a) (pe_T b) ⟨attr_plain hn, few_two n1.2.1 n1.2.2, by simpa using hl, ?_⟩) (h.imp fun x H1 h1 => ⟨h1.1, (tAs2 h1.2).imp fun y H2 h2 => h2.imp fun z H3 h3 => ?_⟩)
    · rw [star_cons n1.2.1, star_cons n1.2.2]; rfl
    · obtain ⟨x', y', z', a', r', e2, e3, g, q⟩ := h3
      cases e2
      exact ⟨a', r', e3, g, q⟩
  | _ => cases hp
theorem sl11_T {a i j : Expr} {p2 pos : Pos} (h : TEv X a σ H fun x H1 => TEv X i σ H1 fun y H2 => ∃ lo, y = .int lo ∧ TEv X j σ H2 fun z H3 => ∃ hi, z = .int hi ∧ rSlP X.K x (some lo) (some hi) H3 Q) :
    TEv X (.Subscript a (.Slice (some i) (some j) none p2) pos) σ H Q :=
  T_of (pe_slice sl_P (pe_T a) (po_some (pe_T i)) (po_some (pe_T j))) h
end
end Ev
end
section
set_option maxHeartbeats 1000000
namespace Ev
open PySem PySem.Spec PyProof.Rows L2
variable [WW]

/-! ## what a primitive comes to is what its reading asks -/
def RepR (K : PySem.W.Frag) (H : Hp) (W : Addr → Prop) : PV → V → Prop
  | .lst xs, v => ∃ a vs, v = .ref a ∧ SqL K H a vs ∧ Reps K H W xs vs
  | .dct ks xs, v => ∃ a es, v = .ref a ∧ H a = some (DctO WW.w a es) ∧ KeysOf ks es ∧ Reps K H W ks (es.map fun e => .ref e.2.1) ∧ Reps K H W xs (es.map fun e => e.2.2)
  | p, v => Rep K H W p v
def RepRs (K : PySem.W.Frag) (H : Hp) (W : Addr → Prop) : List PV → List V → Prop
  | [], vs => vs = []
  | x :: xs, vs => ∃ v r, vs = v :: r ∧ RepR K H W x v ∧ RepRs K H W xs r
section
variable {K : PySem.W.Frag} {H : Hp} {L : Ads} {S : Store} {W : Addr → Prop} {Q : VK}
theorem Rep.rd {p : PV} {v : V} (h : Rep K H W p v) : RepR K H W p v := by
  cases p with
  | lst xs => obtain ⟨a, vs, e, h1, h2⟩ := h; exact ⟨a, vs, e, h1.sq, h2⟩
  | dct ks xs => obtain ⟨a, es, e, h1, h2⟩ := h; exact ⟨a, es, e, h1.1, h2⟩
  | _ => exact h
theorem Reps.rd : ∀ {p : List PV} {v : List V}, Reps K H W p v → RepRs K H W p v
  | [], _, h => h
  | x :: xs, _, h => by
    obtain ⟨v, r, e, h1, h2⟩ := h
    exact ⟨v, r, e, h1.rd, Reps.rd h2⟩
theorem deref_rep (hh : Heaps K H L S) {s : Sl} {v : V} {p : PV} (r : RepS K H L S s v) (e : deref S s = some p) : RepR K H (Lv L S) p v := by
  cases s with
  | val q =>
    cases e
    exact Rep.rd r
  | cell n =>
    obtain ⟨a, e1, rfl⟩ := r
    simp only [deref] at e
    split at e
    · rename_i xs hc
      cases e
      obtain ⟨vs, h1, h2⟩ := hh.cell n _ a hc e1
      exact ⟨a, vs, rfl, SqL.of h1, h2⟩
    · rename_i ks vs hc
      cases e
      obtain ⟨es, h1⟩ := hh.cell n _ a hc e1
      exact ⟨a, es, rfl, h1⟩
    · cases e
theorem derefs_rep (hh : Heaps K H L S) : ∀ {s : List Sl} {v : List V} {p : List PV}, RepSs K H L S s v → mapO (deref S) s = some p → RepRs K H (Lv L S) p v
  | [], _, _, r, e => by cases r; cases e; rfl
  | x :: xs, _, p, r, e => by
    obtain ⟨v, t, rfl, r1, r2⟩ := r
    simp only [mapO] at e
    split at e
    · rename_i b hb
      cases q : mapO (deref S) xs with
      | none => rw [q] at e; cases e
      | some ps =>
        rw [q] at e
        cases e
        exact ⟨v, t, rfl, deref_rep hh r1 hb, derefs_rep hh r2 q⟩
    · cases e
theorem vals_rep : ∀ {s : List Sl} {v : List V} {p : List PV}, RepSs K H L S s v → mapO valOf s = some p → Reps K H (Lv L S) p v
  | [], _, _, r, e => by cases r; cases e; rfl
  | x :: xs, _, p, r, e => by
    obtain ⟨v, t, rfl, r1, r2⟩ := r
    simp only [mapO] at e
    split at e
    · rename_i b hb
      cases q : mapO valOf xs with
      | none => rw [q] at e; cases e
      | some ps =>
        rw [q] at e
        cases e
        cases x with
        | val y => cases hb; exact ⟨v, t, rfl, r1, vals_rep r2 q⟩
        | cell n => cases hb
    · cases e
/-- what is to be shown of what comes -/
abbrev Comes (K : PySem.W.Frag) (H : Hp) (L : Ads) (S : Store) (p : PV) (Q : VK) : Prop := ∀ u H', Heaps K H' L S → Step H L S H' L S → Rep K H' (Lv L S) p u → Q u H'
theorem Comes.here {p : PV} {u : V} (q : Comes K H L S p Q) (hh : Heaps K H L S) (r : Rep K H (Lv L S) p u) : Q u H := q u H hh .refl r
theorem Comes.tup {xs : List PV} {vs : List V} {a : Addr} (q : Comes K H L S (.tup xs) Q) (hh : Heaps K H L S) (n : H a = none) (r : Reps K H (Lv L S) xs vs) : Q (.ref a) (upd H a (.tup vs)) := by
  obtain ⟨h1, st⟩ := hh.laid (o := .tup vs) n
  refine q _ _ h1 st ⟨a, vs, rfl, .inl ⟨.inl upd_same, fun l => ?_⟩, Reps.keeps st.keep xs vs r⟩
  obtain ⟨o, e⟩ := hh.lv l
  rw [n] at e
  cases e
theorem signs_rep {K : PySem.W.Frag} {H : Hp} {W : Addr → Prop} : ∀ x : List Nat, Reps K H W (x.map fun c => .str [c]) (x.map fun c => V.str (toStr [c]))
  | [] => rfl
  | c :: r => ⟨_, _, rfl, rfl, signs_rep r⟩
theorem Comes.lst {xs : List PV} {vs : List V} {a : Addr} (q : Comes K H L S (.lst xs) Q) (hh : Heaps K H L S) (n : H a = none) (r : Reps K H (Lv L S) xs vs) : Q (.ref a) (upd H a (.lst vs)) := by
  obtain ⟨h1, st⟩ := hh.laid (o := .lst vs) n
  refine q _ _ h1 st ⟨a, vs, rfl, .inl ⟨.inl upd_same, fun l => ?_⟩, Reps.keeps st.keep xs vs r⟩
  obtain ⟨o, e⟩ := hh.lv l
  rw [n] at e
  cases e
theorem lim_line : lim = sizeLine := by rw [sizeLine_eq]; rfl
theorem toStr_len (x : List Nat) : (toStr x).length = x.length := by simp [toStr, Str.length]
theorem toStr_app (x y : List Nat) : toStr x ++ toStr y = toStr (x ++ y) := by
  show Str.append _ _ = _
  simp [toStr, Str.append]
theorem wid_pow : wid = 2 ^ 200 := by decide +kernel
theorem wide_abs {i : Int} (h1 : -wid < i) (h2 : i < wid) : i.natAbs < 2 ^ 200 := by
  have e : wid = ((2 ^ 200 : Nat) : Int) := by decide +kernel
  rw [e] at h1 h2
  omega
theorem pow_c {i j : Int} (h : powOk i j = true) : CPow i j := by
  unfold powOk two64 at h
  simp only [Bool.and_eq_true, decide_eq_true_eq] at h
  exact ⟨by omega, by omega, by omega⟩
theorem sem_bin {o : BO} {a b v : PV} {x y : V} (hh : Heaps K H L S) (ra : Rep K H (Lv L S) a x) (rb : Rep K H (Lv L S) b y) (e : binP o a b = some v) (q : Comes K H L S v Q) : rBin K o x y H Q := by
  cases o with
  | add =>
    cases a with
    | int i =>
      cases b with
      | int j => cases e; cases ra; cases rb; exact .inl ⟨i, j, rfl, rfl, q.here hh rfl⟩
      | _ => cases e
    | str i =>
      cases b with
      | str j =>
        simp only [binP] at e
        split at e
        · rename_i hl
          cases e; cases ra; cases rb
          refine .inr (.inl ⟨_, _, rfl, rfl, by rw [toStr_len, toStr_len, ← lim_line]; exact hl, ?_⟩)
          rw [toStr_app]
          exact q.here hh rfl
        · cases e
      | _ => cases e
    | lst i =>
      cases b with
      | lst j =>
        simp only [binP] at e
        split at e
        · rename_i hl
          cases e
          obtain ⟨p1, vs, rfl, l1, r1⟩ := ra
          obtain ⟨p2, ws, rfl, l2, r2⟩ := rb
          exact .inr (.inr (.inl ⟨p1, p2, vs, ws, rfl, rfl, l1.sq, l2.sq, by rw [← r1.length, ← r2.length, ← lim_line]; exact hl, fun p n => q.lst hh n (r1.append r2)⟩))
        · cases e
      | _ => cases e
    | tup i =>
      cases b with
      | tup j =>
        simp only [binP] at e
        split at e
        · rename_i hl
          cases e
          obtain ⟨p1, vs, rfl, l1, r1⟩ := id ra
          obtain ⟨p2, ws, rfl, l2, r2⟩ := id rb
          refine .inr (.inr (.inr ⟨p1, p2, vs, ws, rfl, rfl, l1.sq, l2.sq, by rw [← r1.length, ← r2.length, ← lim_line]; exact hl, fun z => ?_, fun z1 z2 => ?_, fun _ _ p n => q.tup hh n (r1.append r2)⟩))
          · subst z
            have : i = [] := by have := r1.length; simpa using this
            subst this
            exact q.here hh rb
          · subst z2
            have : j = [] := by have := r2.length; simpa using this
            subst this
            rw [List.append_nil] at q
            exact q.here hh ra
        · cases e
      | _ => cases e
    | _ => cases e
  | sub =>
    cases a with
    | int i =>
      cases b with
      | int j => cases e; cases ra; cases rb; exact ⟨i, j, rfl, rfl, q.here hh rfl⟩
      | _ => cases e
    | _ => cases e
  | mul =>
    cases a with
    | int i =>
      cases b with
      | int j =>
        simp only [binP] at e
        split at e
        · rename_i hl
          cases e; cases ra; cases rb
          have e64 : two64 = 2 ^ 64 := by decide
          unfold mulOk at hl
          simp only [Bool.or_eq_true, Bool.and_eq_true, decide_eq_true_eq] at hl
          rcases hl with (hl | hl) | hl
          · exact .inl ⟨i, j, rfl, rfl, .inl (by rw [e64] at hl; exact hl), q.here hh rfl⟩
          · exact .inl ⟨i, j, rfl, rfl, .inr (by rw [e64] at hl; exact hl), q.here hh rfl⟩
          · exact .inr ⟨i, j, rfl, rfl, wide_mul (wide_abs hl.1.1.1 hl.1.1.2) (wide_abs hl.1.2 hl.2) (by decide) (by decide) (by decide), q.here hh rfl⟩
        · cases e
      | _ => cases e
    | _ => cases e
  | fdiv =>
    cases a with
    | int i =>
      cases b with
      | int j =>
        simp only [binP] at e
        split at e
        · rename_i hl
          cases e; cases ra; cases rb
          have hw : (0 : Int) < wid := by decide +kernel
          exact ⟨i, j, rfl, rfl, wide_div hl.1 (wide_abs (by omega) hl.2) (by decide) (by decide), q.here hh rfl⟩
        · cases e
      | _ => cases e
    | _ => cases e
  | mod =>
    cases a with
    | int i =>
      cases b with
      | int j =>
        simp only [binP] at e
        split at e
        · rename_i hl
          cases e; cases ra; cases rb
          exact ⟨i, j, rfl, rfl, hl, q.here hh rfl⟩
        · cases e
      | _ => cases e
    | _ => cases e
  | pow =>
    cases a with
    | int i =>
      cases b with
      | int j =>
        simp only [binP] at e
        split at e
        · rename_i hl
          cases e; cases ra; cases rb
          exact ⟨i, j, rfl, rfl, pow_c hl, q.here hh rfl⟩
        · cases e
      | _ => cases e
    | _ => cases e
  | shl =>
    cases a with
    | int i =>
      cases b with
      | int j =>
        simp only [binP] at e
        split at e
        · rename_i hl
          cases e; cases ra; cases rb
          exact ⟨i, j, rfl, rfl, pow_c hl, q.here hh rfl⟩
        · cases e
      | _ => cases e
    | _ => cases e
theorem isNon_dec {a : PV} {x : V} (r : Rep K H W a x) : decide (x = V.non) = isNon a := by
  cases a with
  | non => cases r; rfl
  | bl b => cases r; rfl
  | int i => cases r; rfl
  | str z => cases r; rfl
  | tup xs => obtain ⟨_, _, rfl, _⟩ := r; rfl
  | lst xs => obtain ⟨_, _, rfl, _⟩ := r; rfl
  | dct _ _ => obtain ⟨a, es, rfl, _⟩ := r; rfl
  | obj _ _ => obtain ⟨a, dx, vs, rfl, _⟩ := r; rfl
theorem repR_non {b : PV} {y : V} (r : RepR K H W b y) (e : b = .non) : y = .non := by subst e; exact r
theorem sem_cmp {o : CO} {a b : PV} {r : Bool} {x y : V} (hh : Heaps K H L S) (ra : Rep K H (Lv L S) a x) (rb : (o = .in_ ∨ o = .nin) ∧ RepR K H (Lv L S) b y ∨ Rep K H (Lv L S) b y) (e : cmpP o a b = some r) (q : Q (.bl r) H) : rCmp K o x y H Q := by
  have rb' : RepR K H (Lv L S) b y := by
    rcases rb with rb | rb
    · exact rb.2
    · exact Rep.rd rb
  have full : ¬ (o = .in_ ∨ o = .nin) → Rep K H (Lv L S) b y := fun n => by
    rcases rb with rb | rb
    · exact absurd rb.1 n
    · exact rb
  cases o with
  | eq =>
    simp only [cmpP] at e
    split at e
    · rename_i hk
      cases e
      exact ⟨a, b, _, ra, full (by simp), hk, q⟩
    · cases e
  | ne =>
    simp only [cmpP] at e
    split at e
    · rename_i hk
      cases e
      exact ⟨a, b, _, ra, full (by simp), hk, q⟩
    · cases e
  | lt =>
    cases a with
    | int i =>
      cases b with
      | int j => cases e; cases ra; cases rb'; exact ⟨i, j, rfl, rfl, q⟩
      | _ => cases e
    | _ => cases e
  | le =>
    cases a with
    | int i =>
      cases b with
      | int j => cases e; cases ra; cases rb'; exact ⟨i, j, rfl, rfl, q⟩
      | _ => cases e
    | _ => cases e
  | gt =>
    cases a with
    | int i =>
      cases b with
      | int j => cases e; cases ra; cases rb'; exact ⟨i, j, rfl, rfl, q⟩
      | _ => cases e
    | _ => cases e
  | ge =>
    cases a with
    | int i =>
      cases b with
      | int j => cases e; cases ra; cases rb'; exact ⟨i, j, rfl, rfl, q⟩
      | _ => cases e
    | _ => cases e
  | isn =>
    cases b with
    | non =>
      simp only [cmpP] at e
      cases e
      exact ⟨rb', by rw [isNon_dec ra]; exact q⟩
    | _ => simp [cmpP] at e
  | ntn =>
    cases b with
    | non =>
      simp only [cmpP] at e
      cases e
      exact ⟨rb', by rw [isNon_dec ra]; exact q⟩
    | _ => simp [cmpP] at e
  | in_ =>
    cases b with
    | lst ys =>
      have e' : (if ys.all (fun y => okd y a) then some (ys.any fun y => eqv y a) else none) = some r := by
        cases a <;> exact e
      split at e'
      · rename_i hk
        cases e'
        obtain ⟨p, vs, rfl, l, rs⟩ := rb'
        exact .inl ⟨p, vs, ys, a, _, rfl, .inl l, rs, ra, fun z hz => List.all_eq_true.mp hk z hz, q⟩
      · cases e'
    | tup ys =>
      have e' : (if ys.all (fun y => okd y a) then some (ys.any fun y => eqv y a) else none) = some r := by
        cases a <;> exact e
      split at e'
      · rename_i hk
        cases e'
        obtain ⟨p, vs, rfl, l, rs⟩ := rb'
        exact .inl ⟨p, vs, ys, a, _, rfl, .inr l.sq, rs, ra, fun z hz => List.all_eq_true.mp hk z hz, q⟩
      · cases e'
    | str ys =>
      cases a with
      | str xs =>
        match xs, e with
        | [c], e =>
          cases e; cases ra; cases rb'
          have e0 : decide (c ∈ (toStr ys).cps.toList) = decide (c ∈ ys) := decide_eq_decide.mpr (by simp [toStr])
          exact .inr ⟨c, toStr ys, rfl, rfl, by rw [e0]; exact q⟩
        | [], e => simp [cmpP] at e
        | _ :: _ :: _, e => simp [cmpP] at e
      | _ => simp [cmpP] at e
    | _ => cases a <;> simp [cmpP] at e
  | nin =>
    cases b with
    | lst ys =>
      have e' : (if ys.all (fun y => okd y a) then some (!ys.any fun y => eqv y a) else none) = some r := by
        cases a <;> exact e
      split at e'
      · rename_i hk
        cases e'
        obtain ⟨p, vs, rfl, l, rs⟩ := rb'
        exact .inl ⟨p, vs, ys, a, _, rfl, .inl l, rs, ra, fun z hz => List.all_eq_true.mp hk z hz, q⟩
      · cases e'
    | tup ys =>
      have e' : (if ys.all (fun y => okd y a) then some (!ys.any fun y => eqv y a) else none) = some r := by
        cases a <;> exact e
      split at e'
      · rename_i hk
        cases e'
        obtain ⟨p, vs, rfl, l, rs⟩ := rb'
        exact .inl ⟨p, vs, ys, a, _, rfl, .inr l.sq, rs, ra, fun z hz => List.all_eq_true.mp hk z hz, q⟩
      · cases e'
    | str ys =>
      cases a with
      | str xs =>
        match xs, e with
        | [c], e =>
          cases e; cases ra; cases rb'
          have e0 : decide (c ∈ (toStr ys).cps.toList) = decide (c ∈ ys) := decide_eq_decide.mpr (by simp [toStr])
          exact .inr ⟨c, toStr ys, rfl, rfl, by rw [e0]; exact q⟩
        | [], e => simp [cmpP] at e
        | _ :: _ :: _, e => simp [cmpP] at e
      | _ => simp [cmpP] at e
    | _ => cases a <;> simp [cmpP] at e
/-! ## the other primitives -/
theorem ixp_eq (n : Nat) (i : Int) : ixp n i = ixN n i := rfl
theorem fld_rep {c f : String} {fs : List PV} {vs : List V} {p : PV} (hl : fs.length = (fldNames c).length) (r : Reps K H W fs vs) (e : fldAt (fldNames c) fs f = some p) : ∃ v, ((fldS c).zip vs).lookup (S' f) = some v ∧ Rep K H W p v ∧ S' f ∈ fldS c := by
  have hc : c = "Sentence" ∨ fldNames c = [] := by
    unfold fldNames
    split
    · exact .inl rfl
    · exact .inr rfl
  rcases hc with rfl | hc
  · cases fs with
    | nil => cases hl
    | cons a fs =>
      cases fs with
      | nil => cases hl
      | cons b fs =>
        cases fs with
        | cons _ _ => cases hl
        | nil =>
          obtain ⟨v, t, rfl, r1, r2⟩ := r
          obtain ⟨w, t2, rfl, r3, r4⟩ := r2
          cases r4
          have e : (if "given" = f then some a else if "claim" = f then some b else none) = some p := e
          split at e
          · rename_i h
            subst h
            cases e
            exact ⟨v, rfl, r1, List.mem_cons_self⟩
          · split at e
            · rename_i h
              subst h
              cases e
              have z : (S' "claim" == S' "given") = false := by decide +kernel
              refine ⟨w, ?_, r3, List.mem_cons_of_mem _ List.mem_cons_self⟩
              show List.lookup (S' "claim") [(S' "given", v), (S' "claim", w)] = some w
              simp only [List.lookup, z]
              simp
            · cases e
  · rw [hc] at e
    simp [fldAt] at e
theorem sget_rep {x : List Nat} : ∀ {ks : List (List Nat)} {xs : List PV} {kvs : List (Key × V)}, kvs.map (·.1) = ks.map (fun x => Sum.inr (toStr x)) → Reps K H W xs (kvs.map (·.2)) →
    match sgetP ks xs x with
    | some p => ∃ v, valV kvs (Sum.inr (toStr x)) = some v ∧ Rep K H W p v
    | none => valV kvs (Sum.inr (toStr x)) = none
  | [], xs, kvs, h, r => by
    have he : kvs = [] := by cases kvs with | nil => rfl | cons a b => simp at h
    subst he
    simp only [sgetP]
    rfl
  | k :: ks, xs, kvs, h, r => by
    cases kvs with
    | nil => simp at h
    | cons e es =>
      simp only [List.map_cons, List.cons.injEq] at h
      cases xs with
      | nil => cases r
      | cons y xs =>
        obtain ⟨v, t, ev, r1, r2⟩ := r
        simp only [List.map_cons, List.cons.injEq] at ev
        obtain ⟨rfl, rfl⟩ := ev
        simp only [sgetP]
        unfold valV
        rw [List.find?_cons, h.1]
        by_cases c : k = x
        · subst c
          simp only [if_true, decide_true, Option.map_some]
          exact ⟨_, rfl, r1⟩
        · have c' : ¬ (Sum.inr (toStr k) : Key) = Sum.inr (toStr x) := fun z => c (toStr_inj2 (Sum.inr.inj z))
          simp only [c, if_false, c', decide_false]
          exact sget_rep h.2 r2
theorem sset_rep {x : List Nat} {p : PV} {v : V} (rp : Rep K H W p v) : ∀ {ks : List (List Nat)} {xs : List PV} {kvs : List (Key × V)}, kvs.map (·.1) = ks.map (fun x => Sum.inr (toStr x)) → Reps K H W xs (kvs.map (·.2)) →
    (kvs.map fun kv => if kv.1 = Sum.inr (toStr x) then (kv.1, v) else kv).map (·.1) = ks.map (fun x => Sum.inr (toStr x)) ∧ Reps K H W ((ks.zip xs).map fun q => if q.1 = x then p else q.2) ((kvs.map fun kv => if kv.1 = Sum.inr (toStr x) then (kv.1, v) else kv).map (·.2))
  | [], xs, kvs, h, r => by
    have he : kvs = [] := by cases kvs with | nil => rfl | cons a b => simp at h
    subst he
    exact ⟨rfl, rfl⟩
  | k :: ks, xs, kvs, h, r => by
    cases kvs with
    | nil => simp at h
    | cons e es =>
      simp only [List.map_cons, List.cons.injEq] at h
      cases xs with
      | nil => cases r
      | cons y xs =>
        obtain ⟨u, t, ev, r1, r2⟩ := r
        simp only [List.map_cons, List.cons.injEq] at ev
        obtain ⟨rfl, rfl⟩ := ev
        obtain ⟨q1, q2⟩ := sset_rep rp h.2 r2
        simp only [List.map_cons, List.zip_cons_cons]
        rw [q1]
        by_cases c : k = x
        · subst c
          rw [if_pos h.1, if_pos rfl]
          exact ⟨by rw [h.1], _, _, rfl, rp, q2⟩
        · have c' : ¬ e.1 = Sum.inr (toStr x) := fun z => c (toStr_inj2 (Sum.inr.inj (h.1.symm.trans z)))
          rw [if_neg c', if_neg c]
          exact ⟨by rw [h.1], _, _, rfl, r1, q2⟩
theorem any_val {kvs : List (Key × V)} {k : Key} : (kvs.any fun kv => decide (kv.1 = k)) = (valV kvs k).isSome := by
  induction kvs with
  | nil => rfl
  | cons e es ih =>
    unfold valV at *
    rw [List.any_cons, List.find?_cons, ih]
    by_cases c : e.1 = k <;> simp [c]
theorem sput_rep {x : List Nat} {p : PV} {v : V} {ks : List (List Nat)} {xs : List PV} {kvs : List (Key × V)} (rp : Rep K H W p v) (h : kvs.map (·.1) = ks.map (fun x => Sum.inr (toStr x))) (r : Reps K H W xs (kvs.map (·.2))) :
    (putK kvs (Sum.inr (toStr x)) v).map (·.1) = (sputP ks xs x p).1.map (fun x => Sum.inr (toStr x)) ∧ Reps K H W (sputP ks xs x p).2 ((putK kvs (Sum.inr (toStr x)) v).map (·.2)) := by
  have g := sget_rep (x := x) h r
  unfold sputP putK
  rw [any_val]
  cases e : sgetP ks xs x with
  | some y =>
    rw [e] at g
    obtain ⟨u, g1, _⟩ := g
    rw [g1]
    simp only [Option.isSome_some, if_true]
    exact sset_rep rp h r
  | none =>
    rw [e] at g
    have g : valV kvs (Sum.inr (toStr x)) = none := g
    rw [g]
    simp only [Option.isSome_none, Bool.false_eq_true, if_false]
    refine ⟨by rw [List.map_append, List.map_append, h]; rfl, ?_⟩
    rw [List.map_append]
    exact r.append (Reps.one rp)
theorem atp_rep {xs : List PV} {vs : List V} {i : Int} {p : PV} (r : Reps K H W xs vs) (e : atp xs i = some p) : ∃ v, atI vs i = some v ∧ Rep K H W p v := by
  unfold atp at e
  rw [r.length, ixp_eq] at e
  unfold atI
  cases q : ixN vs.length i with
  | none => rw [q] at e; cases e
  | some j =>
    rw [q] at e
    exact r.get e
theorem sem_dget {X : Cx} (hw : X.w = WW.w) {ks xs : List PV} {k : PV} {x y : V} (ra : RepR X.K H W (.dct ks xs) x) (rk : RepR X.K H W k y) (hk : keyOk k = true) : ∃ a r, x = .ref a ∧ DGetN X H a y r ∧ (match dgetP ks xs k with
    | some v => ∃ u, r = some u ∧ Rep X.K H W v u
    | none => r = none) := by
  obtain ⟨a, es, rfl, h1, h2, h3, h4⟩ := ra
  obtain ⟨kk, e1, e2⟩ := keyOk_nk hk
  have g := dget_rep e1 h2.1 h4
  cases k with
  | tup ts =>
    obtain ⟨b, vs, rfl, l, r⟩ := id rk
    refine ⟨a, valN es kk, rfl, ⟨es, kk, b, by rw [hw]; exact h1, ents_ok h2 h3, rfl, rep_nkey (.tup ts) _ kk rk e1, e2, rfl⟩, ?_⟩
    cases q : dgetP ks xs (.tup ts) with
    | some v => rw [q] at g; exact g
    | none => rw [q] at g; exact g
  | _ => cases hk
theorem sem_subD {X : Cx} (hw : X.w = WW.w) {ks xs : List PV} {b v : PV} {x y : V} (hh : Heaps X.K H L S) (ra : RepR X.K H (Lv L S) (.dct ks xs) x) (rb : RepR X.K H (Lv L S) b y) (e : subP (.dct ks xs) b = some v) (q : Comes X.K H L S v Q) : rGetI X x y H Q := by
  have e : (if keyOk b then dgetP ks xs b else none) = some v := by cases b <;> exact e
  split at e
  · rename_i hk
    obtain ⟨a, r, rfl, g, m⟩ := sem_dget hw ra rb hk
    rw [e] at m
    obtain ⟨u, rfl, ru⟩ := m
    exact ⟨a, u, rfl, g, q.here hh ru⟩
  · cases e
theorem sem_sub {a b v : PV} {x y : V} (hd : ∀ ks xs, a ≠ .dct ks xs) (hh : Heaps K H L S) (ra : RepR K H (Lv L S) a x) (rb : RepR K H (Lv L S) b y) (e : subP a b = some v) (q : Comes K H L S v Q) : rIx K x y H Q := by
  cases b with
  | int i =>
    cases rb
    cases a with
    | dct ks xs => exact absurd rfl (hd ks xs)
    | tup xs =>
      obtain ⟨p, vs, rfl, l, r⟩ := ra
      obtain ⟨u, h1, h2⟩ := atp_rep r e
      exact .inr (.inl ⟨p, vs, i, u, rfl, rfl, l.sq, h1, q.here hh h2⟩)
    | lst xs =>
      obtain ⟨p, vs, rfl, l, r⟩ := ra
      obtain ⟨u, h1, h2⟩ := atp_rep r e
      exact .inl ⟨p, vs, i, u, rfl, rfl, l, h1, q.here hh h2⟩
    | str z =>
      cases ra
      simp only [subP] at e
      split at e
      · rename_i hl
        cases q2 : atp z i with
        | none => rw [q2] at e; cases e
        | some c =>
          rw [q2] at e
          cases e
          refine .inr (.inr ⟨toStr z, i, c, rfl, rfl, by rw [toStr_len, ← lim_line]; exact hl, ?_, q.here hh rfl⟩)
          unfold atp at q2
          unfold atI
          simpa [toStr, ixp_eq] using q2
      · cases e
    | _ => cases e
  | _ => cases a <;> first | exact absurd rfl (hd _ _) | cases e
theorem cl_sIx (n : Nat) (lo : Option Int) (d : Nat) : (lo.map (cl n)).getD d = HT.sIx n d lo := by
  cases lo with
  | none => rfl
  | some i => rfl
theorem cutp_rep {xs : List PV} {vs : List V} {lo hi : Option Int} (r : Reps K H W xs vs) : Reps K H W (cutp xs ((lo.map (cl xs.length)).getD 0) ((hi.map (cl xs.length)).getD xs.length)) (cutV vs lo hi) := by
  rw [cl_sIx, cl_sIx, r.length]
  exact (r.drop _).take _
theorem sem_sl {a v : PV} {x : V} {lo hi : Option Int} (hh : Heaps K H L S) (ra : Rep K H (Lv L S) a x) (e : slP a lo hi = some v) (q : Comes K H L S v Q) : rSlP K x lo hi H Q := by
  cases a with
  | str z =>
    cases ra
    simp only [slP] at e
    split at e
    · rename_i hl
      cases e
      refine .inl ⟨toStr z, rfl, by rw [toStr_len, ← lim_line]; exact hl, ?_⟩
      have e1 : cutS (toStr z) lo hi = toStr (cutp z ((lo.map (cl z.length)).getD 0) ((hi.map (cl z.length)).getD z.length)) := by
        rw [cl_sIx, cl_sIx]
        unfold cutS cutp
        rw [toStr_len]
        simp [toStr]
      rw [e1]
      exact q.here hh rfl
    · cases e
  | lst xs =>
    cases e
    obtain ⟨p, vs, rfl, l, r⟩ := ra
    exact .inr (.inl ⟨p, vs, rfl, l.sq, fun p n => q.lst hh n (cutp_rep r)⟩)
  | tup xs =>
    cases e
    obtain ⟨p, vs, rfl, l, r⟩ := id ra
    refine .inr (.inr ⟨p, vs, rfl, l.sq, fun z => ?_, fun _ p n => q.tup hh n (cutp_rep r)⟩)
    have e1 : cutp xs ((lo.map (cl xs.length)).getD 0) ((hi.map (cl xs.length)).getD xs.length) = xs := by
      rw [cl_sIx, cl_sIx, r.length, z.1, z.2]
      unfold cutp
      simp [← r.length]
    rw [e1] at q
    exact q.here hh ra
  | _ => cases e
/-- the type of what stands for a value -/
def tyName : PV → Option String
  | .non => some "NoneType"
  | .bl _ => some "bool"
  | .int _ => some "int"
  | .str _ => some "str"
  | .tup _ => some "tuple"
  | .lst _ => some "list"
  | _ => none
theorem TyX_of {p : PV} {v : V} (nd : ∀ ks vs, p ≠ .dct ks vs) (no : ∀ c fs, p ≠ .obj c fs) (r : Rep K H W p v) : ∃ n, tyName p = some n ∧ TyX K H v (.type n) := by
  cases p with
  | non => cases r; exact ⟨_, rfl, .base .non⟩
  | bl b => cases r; exact ⟨_, rfl, .base (.bl b)⟩
  | int i => cases r; exact ⟨_, rfl, .base (.int i)⟩
  | str x => cases r; exact ⟨_, rfl, .base (.str _)⟩
  | tup xs =>
    obtain ⟨a, vs, rfl, l, _⟩ := r
    refine ⟨_, rfl, ?_⟩
    rcases l with ⟨l | ⟨o, l⟩, _⟩ | ⟨o, its, n, h1, h2, _⟩
    · exact .base (.tup l)
    · exact .fTuple l
    · exact .kTuple h1 h2
  | lst xs =>
    obtain ⟨a, vs, rfl, l, _⟩ := r
    refine ⟨_, rfl, ?_⟩
    rcases l with ⟨l | ⟨o, l⟩, _⟩ | ⟨o, its, n, h1, h2, _⟩
    · exact .base (.lst l)
    · exact .base (.frz l)
    · exact .kList h1 h2
  | dct ks vs => exact absurd rfl (nd ks vs)
  | obj c fs => exact absurd rfl (no c fs)
theorem isi_tab (t : Ty) : ∀ n ∈ ["NoneType", "bool", "int", "str", "tuple", "list"], PySem.W.kitOne K (.type n) (.type t.nm) = some (t.nm == n || (n == "bool" && t.nm == "int")) := by
  intro n hn
  simp only [List.mem_cons, List.not_mem_nil, or_false] at hn
  rcases hn with rfl | rfl | rfl | rfl | rfl | rfl <;> cases t <;> exact kit_ty (by decide +kernel)
theorem sem_isi {t : Ty} {p : PV} {v : V} {r : Bool} (rp : Rep K H W p v) (e : isiP t p = some r) (q : Q (.bl r) H) : rIsi K [v, .ty t.nm] H Q := by
  obtain ⟨n, hn, ty⟩ := TyX_of (fun ks vs z => by subst z; cases t <;> cases e) (fun c fs z => by subst z; cases t <;> cases e) rp
  have hm : n ∈ ["NoneType", "bool", "int", "str", "tuple", "list"] := by
    cases p <;> simp [tyName] at hn <;> subst hn <;> decide
  refine ⟨v, .ty t.nm, .type n, .type t.nm, _, rfl, .ty _, ty, isi_tab t n hm, ?_⟩
  have er : r = (t.nm == n || (n == "bool" && t.nm == "int")) := by
    cases p <;> simp [tyName] at hn <;> subst hn <;> cases t <;> cases e <;> rfl
  rw [← er]
  exact q
theorem sem_len {p : PV} {v : V} {n : Nat} (rp : RepR K H W p v) (e : (match p with | .str x => if x.length ≤ lim then some x.length else none | .tup x => some x.length | .lst x => some x.length | _ => none) = some n) : LenV K v H n := by
  cases p with
  | str x =>
    cases rp
    simp only at e
    split at e
    · rename_i hl
      cases e
      exact ⟨by rw [toStr_len, ← lim_line]; exact hl, (toStr_len x).symm⟩
    · cases e
  | tup xs =>
    obtain ⟨a, vs, rfl, l, r⟩ := rp
    cases e
    exact .inr ⟨vs, l.sq, r.length⟩
  | lst xs =>
    obtain ⟨a, vs, rfl, l, r⟩ := rp
    cases e
    exact .inl ⟨vs, l, r.length⟩
  | _ => cases e
theorem all_rep : ∀ {xs : List PV} {vs : List V} {b : Bool}, Reps K H W xs vs → allTrue xs = some b → ∃ bs : List Bool, vs = bs.map V.bl ∧ bs.all id = b := by
  intro xs
  induction xs with
  | nil => intro vs b r e; cases e; cases r; exact ⟨[], rfl, rfl⟩
  | cons x xs ih =>
    intro vs b r e
    obtain ⟨v, t, rfl, r1, r2⟩ := r
    cases x with
    | bl z =>
      simp only [allTrue] at e
      cases q : allTrue xs with
      | none => rw [q] at e; cases e
      | some c =>
        rw [q] at e
        cases e
        cases r1
        obtain ⟨bs, e1, e2⟩ := ih r2 q
        exact ⟨z :: bs, by rw [e1]; rfl, by rw [← e2]; rfl⟩
    | _ => cases e
theorem strs_rep : ∀ {xs : List PV} {vs : List V} {ys : List (List Nat)}, Reps K H W xs vs → strsOf xs = some ys → vs = (ys.map toStr).map V.str := by
  intro xs
  induction xs with
  | nil => intro vs ys r e; cases e; cases r; rfl
  | cons x xs ih =>
    intro vs ys r e
    obtain ⟨v, t, rfl, r1, r2⟩ := r
    cases x with
    | str z =>
      simp only [strsOf] at e
      cases q : strsOf xs with
      | none => rw [q] at e; cases e
      | some zs =>
        rw [q] at e
        cases e
        cases r1
        rw [ih r2 q]
        rfl
    | _ => cases e
theorem joinS_eq (sep : List Nat) : ∀ ys : List (List Nat), Str.join (toStr sep) (ys.map toStr) = toStr (joinp sep ys)
  | [] => rfl
  | [x] => rfl
  | x :: y :: r => by
    have ih := joinS_eq sep (y :: r)
    show toStr x ++ toStr sep ++ Str.join (toStr sep) ((y :: r).map toStr) = _
    rw [ih, toStr_app, toStr_app]
    rfl
theorem joinT_eq (sep : List Nat) (ys : List (List Nat)) : Txt.join (toStr sep) (ys.map toStr) = toStr (joinp sep ys) := by
  exact (TL.join_eq _ _).trans (joinS_eq sep ys)
theorem joinp_len (sep : List Nat) : ∀ ys : List (List Nat), ((ys.map toStr).map (·.length)).sum + (ys.map toStr).length * (toStr sep).length ≤ (joinp sep ys).length + sep.length
  | [] => by simp [joinp]
  | [x] => by simp [joinp, toStr_len]
  | x :: y :: r => by
    have ih := joinp_len sep (y :: r)
    simp only [List.map_cons, List.sum_cons, List.length_cons, toStr_len, joinp, List.length_append, Nat.add_mul, Nat.one_mul] at ih ⊢
    omega
/-- what the parts of a primitive stand for -/
def ArgsOk (b : Bool) (K : PySem.W.Frag) (H : Hp) (W : Addr → Prop) (ps : List PV) (vs : List V) : Prop := match b with
  | true => RepRs K H W ps vs
  | false => Reps K H W ps vs
theorem ArgsOk.rd {b : Bool} {ps : List PV} {vs : List V} (h : ArgsOk b K H W ps vs) : RepRs K H W ps vs := by
  cases b with
  | true => exact h
  | false => exact Reps.rd h
theorem one_inv {x : PV} {vs : List V} (h : RepRs K H W [x] vs) : ∃ v, vs = [v] ∧ RepR K H W x v := by
  obtain ⟨v, r, rfl, h1, h2⟩ := h
  cases h2
  exact ⟨v, rfl, h1⟩
theorem two_inv {x y : PV} {vs : List V} (h : RepRs K H W [x, y] vs) : ∃ v w, vs = [v, w] ∧ RepR K H W x v ∧ RepR K H W y w := by
  obtain ⟨v, r, rfl, h1, h2⟩ := h
  obtain ⟨w, rfl, h3⟩ := one_inv h2
  exact ⟨v, w, rfl, h1, h3⟩
theorem one_inv' {x : PV} {vs : List V} (h : Reps K H W [x] vs) : ∃ v, vs = [v] ∧ Rep K H W x v := by
  obtain ⟨v, r, rfl, h1, h2⟩ := h
  cases h2
  exact ⟨v, rfl, h1⟩
theorem two_inv' {x y : PV} {vs : List V} (h : Reps K H W [x, y] vs) : ∃ v w, vs = [v, w] ∧ Rep K H W x v ∧ Rep K H W y w := by
  obtain ⟨v, r, rfl, h1, h2⟩ := h
  obtain ⟨w, rfl, h3⟩ := one_inv' h2
  exact ⟨v, w, rfl, h1, h3⟩
theorem rep_full {x : PV} {v : V} (h : RepR K H W x v) (n : ∀ xs, x ≠ .lst xs) (n2 : ∀ ks vs, x ≠ .dct ks vs) : Rep K H W x v := by
  cases x with
  | lst xs => exact absurd rfl (n xs)
  | dct ks vs => exact absurd rfl (n2 ks vs)
  | _ => exact h
theorem on1_inv {f : PV → Option PV} {ps : List PV} {v : PV} (e : on1 f ps = some v) : ∃ a, ps = [a] ∧ f a = some v := by
  match ps, e with
  | [a], e => exact ⟨a, rfl, e⟩
theorem on2_inv {f : PV → PV → Option PV} {ps : List PV} {v : PV} (e : on2 f ps = some v) : ∃ a b, ps = [a, b] ∧ f a b = some v := by
  match ps, e with
  | [a, b], e => exact ⟨a, b, rfl, e⟩
theorem map_inv {α β : Type} {f : α → β} {o : Option α} {v : β} (e : o.map f = some v) : ∃ a, o = some a ∧ v = f a := by
  cases o with
  | none => cases e
  | some a => cases e; exact ⟨a, rfl, rfl⟩
theorem if_inv {α : Type} {c : Prop} [Decidable c] {a v : α} (e : (if c then some a else none) = some v) : c ∧ v = a := by
  by_cases h : c
  · rw [if_pos h] at e; cases e; exact ⟨h, rfl⟩
  · rw [if_neg h] at e; cases e
/-- what is only looked at may be live -/
theorem rep_loose {p : PV} {v : V} (h : RepR K H W p v) : Rep K H (fun _ => False) p v := by
  have kp : Keeps H W H (fun _ => False) := fun a o _ e _ => ⟨e, fun z => z⟩
  cases p with
  | lst xs =>
    obtain ⟨a, vs, e, h1, h2⟩ := h
    refine ⟨a, vs, e, ?_, Reps.keeps kp xs vs h2⟩
    rcases h1 with h1 | h1
    · exact .inl ⟨h1, fun z => z⟩
    · exact .inr h1
  | non => exact h
  | bl b => exact h
  | int i => exact h
  | str x => exact h
  | tup xs => exact Rep.keeps kp (.tup xs) v h
  | dct ks vs => obtain ⟨a, es, e, h1, h2, h3, h4⟩ := h; exact ⟨a, es, e, ⟨h1, fun z => z⟩, h2, Reps.keeps kp ks _ h3, Reps.keeps kp vs _ h4⟩
  | obj c fs => exact Rep.keeps kp (.obj c fs) v h
theorem prim_sem {X : Cx} (hw : X.w = WW.w) (p : Prim) {ps : List PV} {vs : List V} {v : PV} (hh : Heaps X.K H L S) (h : ArgsOk (borrows p) X.K H (Lv L S) ps vs) (e : primP p ps = some v) (q : Comes X.K H L S v Q) : rP X p vs H Q := by
  cases p with
  | bin o =>
    obtain ⟨a, b, rfl, e⟩ := on2_inv e
    obtain ⟨x, y, rfl, r1, r2⟩ := two_inv' h
    exact ⟨x, y, rfl, sem_bin hh r1 r2 e q⟩
  | cmp o =>
    obtain ⟨a, b, rfl, e⟩ := on2_inv e
    obtain ⟨r, hr, rfl⟩ := map_inv e
    have hq : Q (.bl r) H := q.here hh rfl
    cases o with
    | eq =>
      obtain ⟨x, y, rfl, r1, r2⟩ := two_inv h
      refine ⟨x, y, rfl, ?_⟩
      simp only [cmpP] at hr
      split at hr
      · rename_i hk
        cases hr
        exact ⟨a, b, _, rep_loose r1, rep_loose r2, hk, hq⟩
      · cases hr
    | ne =>
      obtain ⟨x, y, rfl, r1, r2⟩ := two_inv h
      refine ⟨x, y, rfl, ?_⟩
      simp only [cmpP] at hr
      split at hr
      · rename_i hk
        cases hr
        exact ⟨a, b, _, rep_loose r1, rep_loose r2, hk, hq⟩
      · cases hr
    | _ =>
      obtain ⟨x, y, rfl, r1, r2⟩ := two_inv' h
      exact ⟨x, y, rfl, sem_cmp hh r1 (.inr r2) hr hq⟩
  | neg =>
    obtain ⟨a, rfl, e⟩ := on1_inv e
    obtain ⟨x, rfl, r1⟩ := one_inv' h
    cases a with
    | int i => cases r1; cases e; exact ⟨_, rfl, i, rfl, q.here hh rfl⟩
    | _ => cases e
  | tup =>
    obtain ⟨hl, rfl⟩ := if_inv e
    exact ⟨by rw [← Reps.length h, ← lim_line]; exact hl, fun p n => q.tup hh n h⟩
  | lst =>
    obtain ⟨hl, rfl⟩ := if_inv e
    exact ⟨by rw [← Reps.length h, ← lim_line]; exact hl, fun p n => q.lst hh n h⟩
  | sub =>
    obtain ⟨a, b, rfl, e⟩ := on2_inv e
    obtain ⟨x, y, rfl, r1, r2⟩ := two_inv h
    by_cases hd : ∃ ks xs, a = .dct ks xs
    · obtain ⟨ks, xs, rfl⟩ := hd
      exact ⟨x, y, rfl, .inr (sem_subD hw hh r1 r2 e q)⟩
    · exact ⟨x, y, rfl, .inl (sem_sub (fun ks xs z => hd ⟨ks, xs, z⟩) hh r1 r2 e q)⟩
  | sl00 =>
    obtain ⟨a, rfl, e⟩ := on1_inv e
    obtain ⟨x, rfl, r1⟩ := one_inv' h
    exact ⟨x, rfl, sem_sl hh r1 e q⟩
  | sl01 =>
    obtain ⟨a, b, rfl, e⟩ := on2_inv e
    obtain ⟨x, y, rfl, r1, r2⟩ := two_inv' h
    cases b with
    | int j => cases r2; exact ⟨x, j, rfl, sem_sl hh r1 e q⟩
    | _ => cases e
  | sl10 =>
    obtain ⟨a, b, rfl, e⟩ := on2_inv e
    obtain ⟨x, y, rfl, r1, r2⟩ := two_inv' h
    cases b with
    | int j => cases r2; exact ⟨x, j, rfl, sem_sl hh r1 e q⟩
    | _ => cases e
  | isi t =>
    obtain ⟨a, rfl, e⟩ := on1_inv e
    obtain ⟨x, rfl, r1⟩ := one_inv h
    obtain ⟨r, hr, rfl⟩ := map_inv e
    exact ⟨x, rfl, sem_isi (rep_loose r1) hr (q.here hh rfl)⟩
  | len =>
    obtain ⟨a, rfl, e⟩ := on1_inv e
    obtain ⟨u, rfl, r1⟩ := one_inv h
    cases a with
    | str x =>
      obtain ⟨hl, rfl⟩ := if_inv e
      exact .inl ⟨u, x.length, rfl, sem_len (p := .str x) r1 (by simp [hl]), q.here hh rfl⟩
    | tup x => cases e; exact .inl ⟨u, x.length, rfl, sem_len (p := .tup x) r1 rfl, q.here hh rfl⟩
    | lst x => cases e; exact .inl ⟨u, x.length, rfl, sem_len (p := .lst x) r1 rfl, q.here hh rfl⟩
    | dct ks xs =>
      cases e
      obtain ⟨a, es, rfl, h1, h2, h3, h4⟩ := r1
      have hl : ks.length = es.length := by have := h3.length; simpa using this
      exact .inr ⟨a, es, rfl, by rw [hw]; exact h1, by rw [← hl]; exact q.here hh rfl⟩
    | _ => cases e
  | str =>
    obtain ⟨a, rfl, e⟩ := on1_inv e
    obtain ⟨u, rfl, r1⟩ := one_inv' h
    cases a with
    | int i =>
      cases r1
      obtain ⟨hl, rfl⟩ := if_inv e
      have h200 := wide_abs hl.1 hl.2
      have hlog : i.natAbs.log2 < 200 := PySem.Flt.log2_lt_of (by decide) h200
      refine ⟨i, rfl, by omega, ?_⟩
      have e1 : (Str.ofString (toString i)) = toStr (numText i) := by
        unfold numText toStr
        simp
      have hq := q.here hh (u := .str (toStr (numText i))) rfl
      rw [← e1] at hq
      exact hq
    | _ => cases e
  | int =>
    obtain ⟨a, rfl, e⟩ := on1_inv e
    obtain ⟨u, rfl, r1⟩ := one_inv' h
    cases a with
    | int i => cases r1; cases e; exact .inl ⟨i, rfl, q.here hh rfl⟩
    | bl b => cases r1; cases e; exact .inr (.inl ⟨b, rfl, q.here hh rfl⟩)
    | str x =>
      cases r1
      obtain ⟨⟨h1, h2, h3⟩, rfl⟩ := if_inv e
      have hl : (toStr x).length = x.length := by simp [toStr, Str.length]
      exact .inr (.inr ⟨toStr x, _, rfl, intText_digits (x := toStr x) (fun c hc => by
        have hc' : c ∈ x := by simpa [toStr] using hc
        have := List.all_eq_true.mp h1 c hc'
        simpa using this) (by simpa [toStr] using h2) (by omega), by omega, by
          have hq := q.here hh (u := .int (digVal x)) rfl
          simpa [toStr, NumText.digitsVal, digVal] using hq⟩)
    | _ => cases e
  | max2 =>
    obtain ⟨a, b, rfl, e⟩ := on2_inv e
    obtain ⟨x, y, rfl, r1, r2⟩ := two_inv' h
    cases a with
    | int i =>
      cases b with
      | int j => cases r1; cases r2; cases e; exact ⟨i, j, rfl, q.here hh rfl⟩
      | _ => cases e
    | _ => cases e
  | min2 =>
    obtain ⟨a, b, rfl, e⟩ := on2_inv e
    obtain ⟨x, y, rfl, r1, r2⟩ := two_inv' h
    cases a with
    | int i =>
      cases b with
      | int j => cases r1; cases r2; cases e; exact ⟨i, j, rfl, q.here hh rfl⟩
      | _ => cases e
    | _ => cases e
  | all =>
    obtain ⟨a, rfl, e⟩ := on1_inv e
    obtain ⟨u, rfl, r1⟩ := one_inv' h
    cases a with
    | lst xs =>
      obtain ⟨r, hr, rfl⟩ := map_inv e
      obtain ⟨a, ws, rfl, l, rs⟩ := r1
      obtain ⟨bs, rfl, eb⟩ := all_rep rs hr
      exact ⟨a, bs, rfl, l.sq, by rw [eb]; exact q.here hh rfl⟩
    | _ => cases e
  | list =>
    obtain ⟨a, rfl, e⟩ := on1_inv e
    obtain ⟨u, rfl, r1⟩ := one_inv h
    cases a with
    | lst xs =>
      cases e
      obtain ⟨a, ws, rfl, l, rs⟩ := r1
      exact .inl ⟨a, ws, rfl, .inl l, fun p n => q.lst hh n rs⟩
    | tup xs =>
      cases e
      obtain ⟨a, ws, rfl, l, rs⟩ := r1
      exact .inl ⟨a, ws, rfl, .inr l.sq, fun p n => q.lst hh n rs⟩
    | str x =>
      have e' : (if x.length ≤ lim then some (PV.lst (x.map fun c => .str [c])) else none) = some _ := e
      split at e'
      · rename_i hl
        cases e'
        refine .inr ⟨x, by rw [show u = _ from r1], hl, fun p n => q.lst hh n (signs_rep x)⟩
      · cases e'
    | _ => cases e
  | tuple =>
    obtain ⟨a, rfl, e⟩ := on1_inv e
    obtain ⟨u, rfl, r1⟩ := one_inv' h
    cases a with
    | lst xs =>
      cases e
      obtain ⟨a, ws, rfl, l, rs⟩ := r1
      exact ⟨a, ws, rfl, .inl ⟨l.sq, fun p n => q.tup hh n rs⟩⟩
    | tup xs =>
      cases e
      obtain ⟨a, ws, rfl, l, rs⟩ := id r1
      exact ⟨a, ws, rfl, .inr ⟨l.sq, q.here hh r1⟩⟩
    | _ => cases e
  | count =>
    obtain ⟨a, b, rfl, e⟩ := on2_inv e
    obtain ⟨x, y, rfl, r1, r2⟩ := two_inv' h
    cases a with
    | lst xs =>
      obtain ⟨hk, rfl⟩ := if_inv e
      obtain ⟨p, ws, rfl, l, rs⟩ := r1
      exact ⟨_, y, rfl, p, ws, xs, b, y, _, rfl, rfl, l.sq, rs, r2, fun z hz => List.all_eq_true.mp hk z hz, q.here hh rfl⟩
    | _ => cases e
  | join =>
    obtain ⟨a, b, rfl, e⟩ := on2_inv e
    obtain ⟨x, y, rfl, r1, r2⟩ := two_inv h
    cases a with
    | str sep =>
      cases b with
      | lst xs =>
        cases r1
        have e' : ((strsOf xs).bind fun ys => if (joinp sep ys).length + sep.length ≤ lim then some (PV.str (joinp sep ys)) else none) = some v := e
        cases hr : strsOf xs with
        | none => rw [hr] at e'; cases e'
        | some ys =>
          rw [hr] at e'
          obtain ⟨hl, rfl⟩ := if_inv e'
          obtain ⟨p, ws, rfl, l, rs⟩ := r2
          have ew := strs_rep rs hr
          subst ew
          refine ⟨_, _, rfl, toStr sep, p, ys.map toStr, rfl, rfl, .inl l, Nat.le_trans (joinp_len sep ys) hl, ?_⟩
          rw [joinT_eq]
          exact q.here hh rfl
      | _ => cases e
    | _ => cases e
  | get2 =>
    have e : get2P ps = some v := e
    match ps, e with
    | [.dct ks xs, k, d], e =>
      obtain ⟨x, r, rfl, r1, h⟩ := h
      obtain ⟨y, z, rfl, r2, r3⟩ := two_inv h
      obtain ⟨hk, rfl⟩ := if_inv e
      rw [Bool.and_eq_true] at hk
      obtain ⟨a, o, rfl, g, m⟩ := sem_dget hw r1 r2 hk.1
      refine ⟨_, y, z, a, o, rfl, rfl, g, ?_⟩
      have r3 : Rep X.K H (Lv L S) d z := by
        cases d with
        | lst _ => cases hk.2
        | dct _ _ => cases hk.2
        | obj _ _ => cases hk.2
        | _ => exact r3
      cases q2 : dgetP ks xs k with
      | some w =>
        rw [q2] at m q
        obtain ⟨u, rfl, ru⟩ := m
        exact q.here hh ru
      | none =>
        rw [q2] at m q
        subst m
        exact q.here hh r3
  | dict0 =>
    have e : dict0P ps = some v := e
    match ps, e with
    | [], e =>
      cases e
      cases h
      refine ⟨rfl, fun p n => ?_⟩
      rw [hw]
      obtain ⟨h1, st⟩ := hh.laid (o := DctO WW.w p []) n
      refine q _ _ h1 st ⟨p, [], rfl, ⟨upd_same, fun l => ?_⟩, ⟨rfl, fun e he => by cases he⟩, rfl, rfl⟩
      obtain ⟨o, e⟩ := hh.lv l
      rw [n] at e
      cases e
end
end Ev
end
section
set_option maxHeartbeats 1000000
namespace Ev
open PySem PySem.Spec PyProof.Rows L2
variable [WW]

/-! ## expressions: what the evaluator tells, the model does -/
def TTv (X : Cx) (e : Expr) : TT := fun σ H Q => ∀ pins s, Inv X pins σ H s → wpAny (model X.prog X.w) X.A (isTrue e X.env (eval e X.env)) (TP X pins σ Q) X.xe s
theorem pt_TT {X : Cx} (e : Expr) : PT X e (TTv X e) := ⟨fun pins s σ H Q I h => h pins s I⟩
theorem TT_of {X : Cx} {e : Expr} {t : TT} {σ : Sx} {H : Hp} {Q : Bool → Hp → Prop} (h : PT X e t) (ht : t σ H Q) : TTv X e σ H Q := fun pins s I => h.run pins s σ H Q I ht
theorem TTv.imp {X : Cx} {e : Expr} {σ : Sx} {H : Hp} {Q Q' : Bool → Hp → Prop} (h : TTv X e σ H Q) (hq : ∀ v H', Q v H' → Q' v H') : TTv X e σ H Q' := fun pins s I => thn (h pins s I) fun b s' ⟨H', I', q⟩ => ⟨H', I', hq b H' q⟩
def EvOk (ce : CE) : Prop := ∀ {g : Cfg} {X : Cx} {W : WX} {xa : String → Addr} {k : Nat} {ha : Addr} (c : Ctx g X W xa k ha) (e : Expr), mt X.N X.env.scope ce e = true → ∀ (σp : Lo) (σ : Sx) (H : Hp) (L : Ads) (S : Store) (Q : VK),
  Heaps X.K H L S → SlotsH g ha X.K H L S σp σ → Post X.K xa (RepS X.K) H L S (ev g ce σp S) Q (fun cl d H' => W cl d σ H') → TEv X e σ H Q
def eqB (_ : Hp) (_ : Ads) (_ : Store) (b b' : Bool) : Prop := b = b'
def TsOk (ce : CE) : Prop := ∀ {g : Cfg} {X : Cx} {W : WX} {xa : String → Addr} {k : Nat} {ha : Addr} (c : Ctx g X W xa k ha) (e : Expr), mt X.N X.env.scope ce e = true → ∀ (σp : Lo) (σ : Sx) (H : Hp) (L : Ads) (S : Store) (Q : Bool → Hp → Prop),
  Heaps X.K H L S → SlotsH g ha X.K H L S σp σ → Post X.K xa eqB H L S ((ev g ce σp S).bind fun s S1 => truthOf s S1) Q (fun cl d H' => W cl d σ H') → TTv X e σ H Q
def EvsOk (es : List CE) : Prop := ∀ {g : Cfg} {X : Cx} {W : WX} {xa : String → Addr} {k : Nat} {ha : Addr} (c : Ctx g X W xa k ha) (as : List Expr), mts X.N X.env.scope es as = true → ∀ (σp : Lo) (σ : Sx) (H : Hp) (L : Ads) (S : Store) (Q : List V → Hp → Prop),
  Heaps X.K H L S → SlotsH g ha X.K H L S σp σ → Post X.K xa (RepSs X.K) H L S (evs g es σp S) Q (fun cl d H' => W cl d σ H') → tAs X as σ H Q
theorem SlotsH.step {g : Cfg} {ha : Addr} {K : PySem.W.Frag} {H H' : Hp} {L L' : Ads} {S S' : Store} {σp : Lo} {σ : Sx} (h : SlotsH g ha K H L S σp σ) (st : Step H L S H' L' S') : SlotsH g ha K H' L' S' σp σ := ⟨h.1.step st, h.2⟩
theorem tAs_imp {X : Cx} {σ : Sx} : ∀ {as : List Expr} {H : Hp} {Q Q' : List V → Hp → Prop}, tAs X as σ H Q → (∀ v H', Q v H' → Q' v H') → tAs X as σ H Q'
  | [], _, _, _, h, hq => hq _ _ h
  | e :: es, H, Q, Q', h, hq => TEv.imp (show TEv X e σ H fun x H1 => tAs X es σ H1 fun xs H2 => Q (x :: xs) H2 from h) fun x H1 h1 => tAs_imp h1 fun xs H2 h2 => hq _ _ h2
theorem truth_rep {K : PySem.W.Frag} {H : Hp} {W : Addr → Prop} {p : PV} {v : V} {b : Bool} (r : Rep K H W p v) (e : truth p = some b) : TruV K v H b := by
  cases p with
  | non => cases r; cases e; rfl
  | bl c => cases r; cases e; rfl
  | int i => cases r; cases e; rfl
  | str x =>
    cases r
    obtain ⟨hl, rfl⟩ := if_inv e
    refine ⟨by rw [toStr_len, ← lim_line]; exact hl, ?_⟩
    rw [toStr_len]
    cases x with
    | nil => rfl
    | cons a t => simp; omega
  | tup xs =>
    obtain ⟨a, vs, rfl, l, rs⟩ := r
    cases e
    refine .inr (.inl ⟨vs, l.sq, ?_⟩)
    have := rs.length
    cases xs <;> cases vs <;> simp_all
  | lst xs =>
    obtain ⟨a, vs, rfl, l, rs⟩ := r
    cases e
    refine .inl ⟨vs, l.sq, ?_⟩
    have := rs.length
    cases xs <;> cases vs <;> simp_all
  | dct _ _ => cases e
  | obj _ _ => cases e
/-- an expression whose test is its value's truth -/
def plainT : Expr → Bool
  | .UnaryOp .Not _ _ | .BoolOp _ _ _ | .IfExp _ _ _ _ | .Compare _ _ _ _ => false
  | _ => true
theorem plainT_ok {e : Expr} (h : plainT e = true) (env : Env) (whole : Sem Value) : isTrue e env whole = (do let v ← whole; standAt e.pos; holding [v] (truthy v)) := by
  cases e with
  | UnaryOp op x p => cases op <;> first | rfl | cases h
  | BoolOp _ _ _ => cases h
  | IfExp _ _ _ _ => cases h
  | Compare _ _ _ _ => cases h
  | _ => rfl
theorem ts_of_ev {ce : CE} (h : EvOk ce) (hp : ∀ N sc e, mt N sc ce e = true → plainT e = true) : TsOk ce := by
  intro g X W xa k ha c e hm σp σ H L S Q hh sl hq
  have h1 := h c e hm σp σ H L S _ hh sl (Post.bind (R := RepS X.K) hq)
  refine TT_of (pt_truth (pe_T e) (plainT_ok (hp _ _ e hm) X.env)) (h1.imp fun v H1 z => ?_)
  obtain ⟨s, L1, S1, hh1, st, r, hp1⟩ := z
  cases s with
  | cell n => exact hp1.elim
  | val p =>
    simp only [truthOf] at hp1
    split at hp1
    · rename_i b hb
      exact ⟨b, truth_rep r hb, hp1 b H1 L1 hh1 .refl rfl⟩
    · exact hp1.elim

theorem parts_star {sc : Scope} {p : Prim} {v : Expr} {q : Pos} : parts sc p (.Starred v q) = none := by
  cases p <;> rfl
theorem mt_star {N : List Str} {sc : Scope} {ce : CE} {e : Expr} (h : mt N sc ce e = true) : noStar e = true := by
  cases e with
  | Starred v q =>
    cases ce with
    | prim p es => simp [mt, parts_star] at h
    | meth p o es => cases p <;> simp [mt, mparts, meth1, meth2] at h
    | _ => simp [mt, isVar, isName] at h
  | _ => rfl
theorem mts_star {N : List Str} {sc : Scope} : ∀ {es : List CE} {as : List Expr}, mts N sc es as = true → as.all noStar = true
  | [], [], _ => rfl
  | [], _ :: _, h => by simp [mts] at h
  | _ :: _, [], h => by simp [mts] at h
  | c :: es, a :: as, h => by
    simp only [mts, Bool.and_eq_true] at h
    rw [List.all_cons, mt_star h.1, mts_star h.2]
    rfl
section
variable {g : Cfg} {X : Cx} {W : WX} {xa : String → Addr} {k : Nat} {ha : Addr}
theorem evs_nil : EvsOk [] := by
  intro g X W xa k ha c as hm σp σ H L S Q hh sl hq
  cases as with
  | nil => exact hq [] H L hh .refl rfl
  | cons a r => simp [mts] at hm
theorem evs_cons {ce : CE} {es : List CE} (h1 : EvOk ce) (h2 : EvsOk es) : EvsOk (ce :: es) := by
  intro g X W xa k ha c as hm σp σ H L S Q hh sl hq
  cases as with
  | nil => simp [mts] at hm
  | cons a r =>
    simp only [mts, Bool.and_eq_true] at hm
    simp only [evs] at hq
    refine TEv.imp (h1 c a hm.1 σp σ H L S _ hh sl (Post.bind (R := RepS X.K) hq)) fun x H1 z => ?_
    obtain ⟨s, L1, S1, hh1, st, rs, hp⟩ := z
    refine tAs_imp (h2 c r hm.2 σp σ H1 L1 S1 _ hh1 (sl.step st) (Post.bind (R := RepSs X.K) hp)) fun xs H2 z => ?_
    obtain ⟨t, L2, S2, hh2, st2, rt, hp2⟩ := z
    exact hp2 (x :: xs) H2 L2 hh2 .refl ⟨x, xs, rfl, rs.step st2, rt⟩
theorem ok_var (i : Nat) : EvOk (.var i) := by
  intro g X W xa k ha c e hm σp σ H L S Q hh sl hq
  obtain ⟨y, pos, rfl, hN, hv, hp⟩ := isVar_inv (show isVar X.N X.env.scope i e = true from hm)
  obtain ⟨d1, d2, d3⟩ := plain_ok hp
  simp only [ev, look] at hq
  split at hq
  · rename_i s hs
    obtain ⟨v, ev, r⟩ := sl.1.2 i s hs
    exact T_of (pe_var hN (vis_ok hv) d1 d2) ⟨v, ev, hq v H L hh .refl r⟩
  · exact hq.elim
theorem ok_gl (x : String) : EvOk (.gl x) := by
  intro g X W xa k ha c e hm σp σ H L S Q hh sl hq
  obtain ⟨pos, rfl, hg, hp⟩ := isName_inv (show isName X.env.scope x e = true from hm)
  obtain ⟨d1, d2, d3⟩ := plain_ok hp
  simp only [ev, liftV] at hq
  split at hq
  · rename_i p hs
    obtain ⟨u, v, h1, h2, h3⟩ := c.con x p hs
    exact T_of (pe_glob (glo_ok hg) h1 h2 d1) (hq v H L hh .refl (h3 _ _))
  · exact hq.elim
theorem ok_int (i : Int) : EvOk (.int i) := by
  intro g X W xa k ha c e hm σp σ H L S Q hh sl hq
  simp only [mt] at hm
  split at hm
  · rw [beq_iff_eq] at hm
    subst hm
    exact T_of pe_int (hq _ H L hh .refl rfl)
  · cases hm
theorem ok_str (x : List Nat) : EvOk (.str x) := by
  intro g X W xa k ha c e hm σp σ H L S Q hh sl hq
  simp only [mt] at hm
  split at hm
  · rw [beq_iff_eq] at hm
    subst hm
    exact T_of pe_str (hq _ H L hh .refl rfl)
  · cases hm
theorem ok_bl (b : Bool) : EvOk (.bl b) := by
  intro g X W xa k ha c e hm σp σ H L S Q hh sl hq
  simp only [mt] at hm
  split at hm
  · rw [beq_iff_eq] at hm
    subst hm
    exact T_of pe_bl (hq _ H L hh .refl rfl)
  · cases hm
theorem ok_non : EvOk .non := by
  intro g X W xa k ha c e hm σp σ H L S Q hh sl hq
  simp only [mt] at hm
  split at hm
  · exact T_of pe_non (hq _ H L hh .refl rfl)
  · cases hm
theorem primGo_ok {p : Prim} {sls : List Sl} {vs : List V} {H : Hp} {L : Ads} {S : Store} {Q : VK} {E : XK} (hw : X.w = WW.w) (hh : Heaps X.K H L S) (rs : RepSs X.K H L S sls vs) (hq : Post X.K xa (RepS X.K) H L S (primGo p sls S) Q E) : rP X p vs H Q := by
  unfold primGo at hq
  split at hq
  · rename_i pvs hv
    split at hq
    · rename_i v he
      refine prim_sem hw p hh ?_ he fun u H' h1 st r => hq u H' L h1 st r
      cases hb : borrows p with
      | true =>
        rw [hb] at hv
        exact derefs_rep hh rs hv
      | false =>
        rw [hb] at hv
        exact vals_rep rs hv
    · exact hq.elim
  · exact hq.elim
theorem ok_prim (p : Prim) {es : List CE} (ih : EvsOk es) : EvOk (.prim p es) := by
  intro g X W xa k ha c e hm σp σ H L S Q hh sl hq
  simp only [mt] at hm
  split at hm
  · rename_i as hp
    simp only [ev] at hq
    split at hq
    · exact hq.elim
    · rename_i hc
      refine prim_T c p (by simpa using hc) hp (mts_star hm) (tAs_imp (ih c as hm σp σ H L S _ hh sl (Post.bind (R := RepSs X.K) hq)) fun vs H1 z => ?_)
      obtain ⟨s, L1, S1, hh1, st, rs, hp1⟩ := z
      exact primGo_ok c.ww hh1 rs hp1
  · cases hm
theorem recvT_ok (hww : X.w = WW.w) {p : Prim} {s : Sl} {v : V} {H : Hp} {L : Ads} {S : Store} (hh : Heaps X.K H L S) (r : RepS X.K H L S s v) (h : recvOk p s S = true) : recvT X p v H := by
  unfold recvOk at h
  split at h
  · rename_i w hw
    have rr : RepR X.K H (Lv L S) w v := by
      cases hb : borrows p with
      | true => rw [hb] at hw; exact deref_rep hh r hw
      | false =>
        rw [hb] at hw
        cases s with
        | val q => cases hw; exact Rep.rd r
        | cell n => cases hw
    cases p with
    | count =>
      cases w with
      | lst xs => obtain ⟨a, vs, rfl, l, _⟩ := rr; exact .inl ⟨rfl, vs, l⟩
      | _ => cases h
    | join =>
      cases w with
      | str x => cases rr; exact (rfl : "str" = "str")
      | _ => cases h
    | get2 =>
      cases w with
      | dct ks xs => obtain ⟨a, es, rfl, l, _⟩ := rr; exact ⟨a, es, rfl, by rw [hww]; exact l⟩
      | _ => cases h
    | _ => cases w <;> cases h
  · cases h
theorem ok_meth (p : Prim) {o : CE} {es : List CE} (iho : EvOk o) (ih : EvsOk es) : EvOk (.meth p o es) := by
  intro g X W xa k ha c e hm σp σ H L S Q hh sl hq
  simp only [mt] at hm
  split at hm
  · rename_i a as hp
    rw [Bool.and_eq_true] at hm
    simp only [ev] at hq
    split at hq
    · exact hq.elim
    · refine meth_T c p hp (by rw [List.all_cons, mt_star hm.1, mts_star hm.2]; rfl) ((iho c a hm.1 σp σ H L S _ hh sl (Post.bind (R := RepS X.K) hq)).imp fun x H1 z => ?_)
      obtain ⟨s, L1, S1, hh1, st, r1, hp1⟩ := z
      split at hp1
      · rename_i hrc
        refine ⟨recvT_ok c.ww hh1 r1 hrc, tAs_imp (ih c as hm.2 σp σ H1 L1 S1 _ hh1 (sl.step st) (Post.bind (R := RepSs X.K) hp1)) fun vs H2 z => ?_⟩
        obtain ⟨t, L2, S2, hh2, st2, rs, hp2⟩ := z
        exact primGo_ok c.ww (sls := s :: t) hh2 ⟨x, vs, rfl, r1.step st2, rs⟩ hp2
      · exact hp1.elim
  · cases hm
theorem intOf_inv {s : Sl} {i : Int} (h : intOf s = some i) : s = .val (.int i) := by
  cases s with
  | val v => cases v <;> cases h; rfl
  | cell n => cases h
theorem valOf_inv {s : Sl} {v : PV} (h : valOf s = some v) : s = .val v := by
  cases s with
  | val w => cases h; rfl
  | cell n => cases h
theorem ok_sl11 {a i j : CE} (h1 : EvOk a) (h2 : EvOk i) (h3 : EvOk j) : EvOk (.sl11 a i j) := by
  intro g X W xa k ha c e hm σp σ H L S Q hh sl hq
  simp only [mt] at hm
  split at hm
  · simp only [Bool.and_eq_true] at hm
    simp only [ev] at hq
    refine sl11_T ((h1 c _ hm.1.1 σp σ H L S _ hh sl (Post.bind (R := RepS X.K) hq)).imp fun x H1 z => ?_)
    obtain ⟨s, L1, S1, hh1, st, r1, hp1⟩ := z
    refine (h2 c _ hm.1.2 σp σ H1 L1 S1 _ hh1 (sl.step st) (Post.bind (R := RepS X.K) hp1)).imp fun y H2 z => ?_
    obtain ⟨s2, L2, S2, hh2, st2, r2, hp2⟩ := z
    split at hp2
    · rename_i lo hlo
      have e2 := intOf_inv hlo
      subst e2
      refine ⟨lo, r2, (h3 c _ hm.2 σp σ H2 L2 S2 _ hh2 ((sl.step st).step st2) (Post.bind (R := RepS X.K) hp2)).imp fun w H3 z => ?_⟩
      obtain ⟨s3, L3, S3, hh3, st3, r3, hp3⟩ := z
      split at hp3
      · rename_i hi v hhi hv
        have e3 := intOf_inv hhi
        have e4 := valOf_inv hv
        subst e3 e4
        refine ⟨hi, r3, ?_⟩
        unfold liftV at hp3
        split at hp3
        · rename_i p he
          exact sem_sl hh3 (RepS.step (s := .val v) st3 (RepS.step (s := .val v) st2 r1)) he fun u H' a1 a2 a3 => hp3 u H' L3 a1 a2 a3
        · exact hp3.elim
      · exact hp3.elim
    · exact hp2.elim
  · cases hm
/-! ### and, or, not, comparisons in a row, a if c else b -/
theorem and_nil : EvOk (.and_ []) := by
  intro g X W xa k ha c e hm σp σ H L S Q hh sl hq
  simp only [ev, evAnd] at hq
  exact hq.elim
/-- the parts of and (or), one by one -/
theorem and_go : ∀ (es : List CE), (∀ x ∈ es, EvOk x) → ∀ {g : Cfg} {X : Cx} {W : WX} {xa : String → Addr} {k : Nat} {ha : Addr} (c : Ctx g X W xa k ha) (as : List Expr) (pos : Pos), mts X.N X.env.scope es as = true →
    ∀ (σp : Lo) (σ : Sx) (H : Hp) (L : Ads) (S : Store) (Q : VK), Heaps X.K H L S → SlotsH g ha X.K H L S σp σ → Post X.K xa (RepS X.K) H L S (evAnd g es σp S) Q (fun cl d H' => W cl d σ H') → TEv X (.BoolOp .And as pos) σ H Q
  | [], _, _, _, _, _, _, _, c, as, pos, hm, σp, σ, H, L, S, Q, hh, sl, hq => by
    simp only [evAnd] at hq
    exact hq.elim
  | [x], ih, _, X, _, _, _, _, c, as, pos, hm, σp, σ, H, L, S, Q, hh, sl, hq => by
    match as, hm with
    | [a], hm =>
      simp only [mts, Bool.and_true] at hm
      simp only [evAnd] at hq
      exact T_of (pe_one (pe_T a)) (ih x (by simp) c a hm σp σ H L S Q hh sl hq)
    | [], hm => simp [mts] at hm
    | _ :: _ :: _, hm => simp [mts] at hm
  | x :: y :: r, ih, g, X, W, xa, k, ha, c, as, pos, hm, σp, σ, H, L, S, Q, hh, sl, hq => by
    match as, hm with
    | [], hm => simp [mts] at hm
    | [_], hm => simp [mts] at hm
    | a :: b :: t, hm =>
      rw [mts, Bool.and_eq_true] at hm
      simp only [evAnd] at hq
      refine T_of (pe_and (pe_T a) (pe_T _)) ((ih x (by simp) c a hm.1 σp σ H L S _ hh sl (Post.bind (R := RepS X.K) hq)).imp fun v H1 z => ?_)
      obtain ⟨s, L1, S1, hh1, st, r1, hp1⟩ := z
      split at hp1
      · rename_i bb
        cases r1
        refine ⟨bb, rfl, ?_⟩
        cases bb with
        | true =>
          simp only [if_true] at hp1 ⊢
          exact and_go (y :: r) (fun z hz => ih z (List.mem_cons_of_mem _ hz)) c (b :: t) pos hm.2 σp σ H1 L1 S1 Q hh1 (sl.step st) hp1
        | false =>
          simp only [Bool.false_eq_true, if_false] at hp1 ⊢
          exact hp1 _ H1 L1 hh1 .refl rfl
      · exact hp1.elim
theorem or_go : ∀ (es : List CE), (∀ x ∈ es, EvOk x) → ∀ {g : Cfg} {X : Cx} {W : WX} {xa : String → Addr} {k : Nat} {ha : Addr} (c : Ctx g X W xa k ha) (as : List Expr) (pos : Pos), mts X.N X.env.scope es as = true →
    ∀ (σp : Lo) (σ : Sx) (H : Hp) (L : Ads) (S : Store) (Q : VK), Heaps X.K H L S → SlotsH g ha X.K H L S σp σ → Post X.K xa (RepS X.K) H L S (evOr g es σp S) Q (fun cl d H' => W cl d σ H') → TEv X (.BoolOp .Or as pos) σ H Q
  | [], _, _, _, _, _, _, _, c, as, pos, hm, σp, σ, H, L, S, Q, hh, sl, hq => by
    simp only [evOr] at hq
    exact hq.elim
  | [x], ih, _, X, _, _, _, _, c, as, pos, hm, σp, σ, H, L, S, Q, hh, sl, hq => by
    match as, hm with
    | [a], hm =>
      simp only [mts, Bool.and_true] at hm
      simp only [evOr] at hq
      exact T_of (pe_one (pe_T a)) (ih x (by simp) c a hm σp σ H L S Q hh sl hq)
    | [], hm => simp [mts] at hm
    | _ :: _ :: _, hm => simp [mts] at hm
  | x :: y :: r, ih, g, X, W, xa, k, ha, c, as, pos, hm, σp, σ, H, L, S, Q, hh, sl, hq => by
    match as, hm with
    | [], hm => simp [mts] at hm
    | [_], hm => simp [mts] at hm
    | a :: b :: t, hm =>
      rw [mts, Bool.and_eq_true] at hm
      simp only [evOr] at hq
      refine T_of (pe_or (pe_T a) (pe_T _)) ((ih x (by simp) c a hm.1 σp σ H L S _ hh sl (Post.bind (R := RepS X.K) hq)).imp fun v H1 z => ?_)
      obtain ⟨s, L1, S1, hh1, st, r1, hp1⟩ := z
      split at hp1
      · rename_i bb
        cases r1
        refine ⟨bb, rfl, ?_⟩
        cases bb with
        | true =>
          simp only [if_true] at hp1 ⊢
          exact hp1 _ H1 L1 hh1 .refl rfl
        | false =>
          simp only [Bool.false_eq_true, if_false] at hp1 ⊢
          exact or_go (y :: r) (fun z hz => ih z (List.mem_cons_of_mem _ hz)) c (b :: t) pos hm.2 σp σ H1 L1 S1 Q hh1 (sl.step st) hp1
      · exact hp1.elim
theorem ok_and {es : List CE} (ih : ∀ x ∈ es, EvOk x) : EvOk (.and_ es) := by
  intro g X W xa k ha c e hm σp σ H L S Q hh sl hq
  simp only [mt] at hm
  split at hm
  · exact and_go es ih c _ _ hm σp σ H L S Q hh sl (by simpa only [ev] using hq)
  · cases hm
theorem ok_or {es : List CE} (ih : ∀ x ∈ es, EvOk x) : EvOk (.or_ es) := by
  intro g X W xa k ha c e hm σp σ H L S Q hh sl hq
  simp only [mt] at hm
  split at hm
  · exact or_go es ih c _ _ hm σp σ H L S Q hh sl (by simpa only [ev] using hq)
  · cases hm
/-- .. as tests -/
def TWv (X : Cx) (e : Expr) : TT := fun σ H Q => ∀ whole pins s, Inv X pins σ H s → wpAny (model X.prog X.w) X.A (isTrue e X.env whole) (TP X pins σ Q) X.xe s
theorem pw_T {X : Cx} (e : Expr) : PW X e (TWv X e) := ⟨fun wh pins s σ H Q I h => h wh pins s I⟩
theorem TW_of {X : Cx} {e : Expr} {t : TT} {σ : Sx} {H : Hp} {Q : Bool → Hp → Prop} (h : PW X e t) (ht : t σ H Q) : TWv X e σ H Q := fun wh pins s I => h.run wh pins s σ H Q I ht
/-- a part of and, or: a truth -/
theorem part_post {K : PySem.W.Frag} {xa : String → Addr} {H : Hp} {L : Ads} {S : Store} {o : Out Sl} {f : Bool → Store → Out Sl} {Q : Bool → Hp → Prop} {E : XK}
    (h : Post K xa eqB H L S ((o.bind fun s S1 => match s with | .val (.bl b) => f b S1 | _ => .stuck).bind fun s S1 => truthOf s S1) Q E) :
    Post K xa eqB H L S (o.bind fun s S1 => truthOf s S1) (fun b H1 => ∃ L1 S1, Heaps K H1 L1 S1 ∧ Step H L S H1 L1 S1 ∧ Post K xa eqB H1 L1 S1 ((f b S1).bind fun s S1 => truthOf s S1) Q E) E := by
  cases o with
  | stuck => exact h
  | err e S1 => exact h
  | ok s S1 =>
    simp only [Out.bind_ok] at h ⊢
    split at h
    · rename_i b
      intro b' H1 L1 hh st eb
      cases eb
      exact ⟨L1, S1, hh, st, h.step st⟩
    · exact h.elim
theorem tand_go : ∀ (es : List CE), (∀ x ∈ es, TsOk x) → ∀ {g : Cfg} {X : Cx} {W : WX} {xa : String → Addr} {k : Nat} {ha : Addr} (c : Ctx g X W xa k ha) (as : List Expr) (pos : Pos), mts X.N X.env.scope es as = true →
    ∀ (σp : Lo) (σ : Sx) (H : Hp) (L : Ads) (S : Store) (Q : Bool → Hp → Prop), Heaps X.K H L S → SlotsH g ha X.K H L S σp σ → Post X.K xa eqB H L S ((evAnd g es σp S).bind fun s S1 => truthOf s S1) Q (fun cl d H' => W cl d σ H') →
      TWv X (.BoolOp .And as pos) σ H Q
  | [], _, _, _, _, _, _, _, c, as, pos, hm, σp, σ, H, L, S, Q, hh, sl, hq => by
    simp only [evAnd] at hq
    exact hq.elim
  | [x], ih, _, X, _, _, _, _, c, as, pos, hm, σp, σ, H, L, S, Q, hh, sl, hq => by
    match as, hm with
    | [a], hm =>
      simp only [mts, Bool.and_true] at hm
      simp only [evAnd] at hq
      exact TW_of (pw_and1 (pt_TT a)) (ih x (by simp) c a hm σp σ H L S Q hh sl hq)
    | [], hm => simp [mts] at hm
    | _ :: _ :: _, hm => simp [mts] at hm
  | x :: y :: r, ih, g, X, W, xa, k, ha, c, as, pos, hm, σp, σ, H, L, S, Q, hh, sl, hq => by
    match as, hm with
    | [], hm => simp [mts] at hm
    | [_], hm => simp [mts] at hm
    | a :: b :: t, hm =>
      rw [mts, Bool.and_eq_true] at hm
      simp only [evAnd] at hq
      refine TW_of (pw_and (pt_TT a) (pw_T _)) ((ih x (by simp) c a hm.1 σp σ H L S _ hh sl (part_post (f := fun b S1 => if b then evAnd g (y :: r) σp S1 else .ok (.val (.bl false)) S1) hq)).imp fun bb H1 z => ?_)
      obtain ⟨L1, S1, hh1, st, hp1⟩ := z
      cases bb with
      | true =>
        simp only [if_true] at hp1 ⊢
        exact tand_go (y :: r) (fun z hz => ih z (List.mem_cons_of_mem _ hz)) c (b :: t) pos hm.2 σp σ H1 L1 S1 Q hh1 (sl.step st) hp1
      | false =>
        simp only [Bool.false_eq_true, if_false] at hp1 ⊢
        exact hp1 false H1 L1 hh1 .refl rfl
theorem tor_go : ∀ (es : List CE), (∀ x ∈ es, TsOk x) → ∀ {g : Cfg} {X : Cx} {W : WX} {xa : String → Addr} {k : Nat} {ha : Addr} (c : Ctx g X W xa k ha) (as : List Expr) (pos : Pos), mts X.N X.env.scope es as = true →
    ∀ (σp : Lo) (σ : Sx) (H : Hp) (L : Ads) (S : Store) (Q : Bool → Hp → Prop), Heaps X.K H L S → SlotsH g ha X.K H L S σp σ → Post X.K xa eqB H L S ((evOr g es σp S).bind fun s S1 => truthOf s S1) Q (fun cl d H' => W cl d σ H') →
      TWv X (.BoolOp .Or as pos) σ H Q
  | [], _, _, _, _, _, _, _, c, as, pos, hm, σp, σ, H, L, S, Q, hh, sl, hq => by
    simp only [evOr] at hq
    exact hq.elim
  | [x], ih, _, X, _, _, _, _, c, as, pos, hm, σp, σ, H, L, S, Q, hh, sl, hq => by
    match as, hm with
    | [a], hm =>
      simp only [mts, Bool.and_true] at hm
      simp only [evOr] at hq
      exact TW_of (pw_or1 (pt_TT a)) (ih x (by simp) c a hm σp σ H L S Q hh sl hq)
    | [], hm => simp [mts] at hm
    | _ :: _ :: _, hm => simp [mts] at hm
  | x :: y :: r, ih, g, X, W, xa, k, ha, c, as, pos, hm, σp, σ, H, L, S, Q, hh, sl, hq => by
    match as, hm with
    | [], hm => simp [mts] at hm
    | [_], hm => simp [mts] at hm
    | a :: b :: t, hm =>
      rw [mts, Bool.and_eq_true] at hm
      simp only [evOr] at hq
      refine TW_of (pw_or (pt_TT a) (pw_T _)) ((ih x (by simp) c a hm.1 σp σ H L S _ hh sl (part_post (f := fun b S1 => if b then .ok (.val (.bl true)) S1 else evOr g (y :: r) σp S1) hq)).imp fun bb H1 z => ?_)
      obtain ⟨L1, S1, hh1, st, hp1⟩ := z
      cases bb with
      | true =>
        simp only [if_true] at hp1 ⊢
        exact hp1 true H1 L1 hh1 .refl rfl
      | false =>
        simp only [Bool.false_eq_true, if_false] at hp1 ⊢
        exact tor_go (y :: r) (fun z hz => ih z (List.mem_cons_of_mem _ hz)) c (b :: t) pos hm.2 σp σ H1 L1 S1 Q hh1 (sl.step st) hp1
theorem ts_and {es : List CE} (ih : ∀ x ∈ es, TsOk x) : TsOk (.and_ es) := by
  intro g X W xa k ha c e hm σp σ H L S Q hh sl hq
  simp only [mt] at hm
  split at hm
  · exact tand_go es ih c _ _ hm σp σ H L S Q hh sl (by simpa only [ev] using hq) _
  · cases hm
theorem ts_or {es : List CE} (ih : ∀ x ∈ es, TsOk x) : TsOk (.or_ es) := by
  intro g X W xa k ha c e hm σp σ H L S Q hh sl hq
  simp only [mt] at hm
  split at hm
  · exact tor_go es ih c _ _ hm σp σ H L S Q hh sl (by simpa only [ev] using hq) _
  · cases hm
theorem ok_not {a : CE} (ih : EvOk a) : EvOk (.not_ a) := by
  intro g X W xa k ha c e hm σp σ H L S Q hh sl hq
  simp only [mt] at hm
  split at hm
  · simp only [ev] at hq
    refine T_of (pe_not (pe_T _)) ((ih c _ hm σp σ H L S _ hh sl (Post.bind (R := RepS X.K) hq)).imp fun v H1 z => ?_)
    obtain ⟨s, L1, S1, hh1, st, r1, hp1⟩ := z
    split at hp1
    · rename_i b
      cases r1
      exact ⟨b, rfl, hp1 _ H1 L1 hh1 .refl rfl⟩
    · exact hp1.elim
  · cases hm
theorem ts_not {a : CE} (ih : TsOk a) : TsOk (.not_ a) := by
  intro g X W xa k ha c e hm σp σ H L S Q hh sl hq
  simp only [mt] at hm
  split at hm
  · simp only [ev] at hq
    refine TT_of (pt_not (pt_TT _)) ((ih c _ hm σp σ H L S _ hh sl (part_post (f := fun b S1 => .ok (.val (.bl (!b))) S1) hq)).imp fun b H1 z => ?_)
    obtain ⟨L1, S1, hh1, st, hp1⟩ := z
    exact hp1 (!b) H1 L1 hh1 .refl rfl
  · cases hm
theorem test_bind {K : PySem.W.Frag} {xa : String → Addr} {H : Hp} {L : Ads} {S : Store} {o : Out Sl} {α β : Type} {R : Hp → Ads → Store → α → β → Prop} {f : Bool → Store → Out α} {Q : β → Hp → Prop} {E : XK}
    (h : Post K xa R H L S (o.bind fun s S1 => (truthOf s S1).bind f) Q E) :
    Post K xa eqB H L S (o.bind fun s S1 => truthOf s S1) (fun b H1 => ∃ L1 S1, Heaps K H1 L1 S1 ∧ Step H L S H1 L1 S1 ∧ Post K xa R H1 L1 S1 (f b S1) Q E) E := by
  cases o with
  | stuck => exact h
  | err e S1 => exact h
  | ok s S1 =>
    simp only [Out.bind_ok] at h ⊢
    have z := Post.bind (R := eqB) h
    refine Post.imp z (fun b H1 w => ?_) fun _ _ _ w => w
    obtain ⟨b', L1, S2, hh, st, eb, hp⟩ := w
    cases eb
    exact ⟨L1, S2, hh, st, hp⟩
theorem ok_ife {t a b : CE} (ht : TsOk t) (h1 : EvOk a) (h2 : EvOk b) : EvOk (.ife t a b) := by
  intro g X W xa k ha c e hm σp σ H L S Q hh sl hq
  simp only [mt] at hm
  split at hm
  · simp only [Bool.and_eq_true] at hm
    simp only [ev] at hq
    refine T_of (pe_ifExp (pt_TT _) (pe_T _) (pe_T _)) ((ht c _ hm.1.1 σp σ H L S _ hh sl (test_bind hq)).imp fun bb H1 z => ?_)
    obtain ⟨L1, S1, hh1, st, hp1⟩ := z
    cases bb with
    | true =>
      simp only [if_true] at hp1 ⊢
      exact h1 c _ hm.1.2 σp σ H1 L1 S1 Q hh1 (sl.step st) hp1
    | false =>
      simp only [Bool.false_eq_true, if_false] at hp1 ⊢
      exact h2 c _ hm.2 σp σ H1 L1 S1 Q hh1 (sl.step st) hp1
  · cases hm
theorem cmpGo_ok {o : CO} {s t : Sl} {x y : V} {H : Hp} {L : Ads} {S : Store} {α β : Type} {R : Hp → Ads → Store → α → β → Prop} {f : Bool → Store → Out α} {Q : β → Hp → Prop} {Q2 : VK} {E : XK} (hh : Heaps X.K H L S) (r1 : RepS X.K H L S s x) (r2 : RepS X.K H L S t y)
    (hq : Post X.K xa R H L S ((cmpGo o s t S).bind f) Q E) (hQ : ∀ b, Post X.K xa R H L S (f b S) Q E → Q2 (.bl b) H) : rCmp X.K o x y H Q2 := by
  unfold cmpGo at hq
  split at hq
  · split at hq
    · rename_i r hr
      exact sem_cmp hh r1 (.inr r2) hr (hQ r hq)
    · exact hq.elim
  · exact hq.elim
theorem ok_cmp2 {o o' : CO} {a b d : CE} (h1 : EvOk a) (h2 : EvOk b) (h3 : EvOk d) : EvOk (.cmp2 o o' a b d) := by
  intro g X W xa k ha c e hm σp σ H L S Q hh sl hq
  simp only [mt] at hm
  split at hm
  · simp only [Bool.and_eq_true, beq_iff_eq] at hm
    obtain ⟨⟨⟨⟨⟨rfl, rfl⟩, hs⟩, m1⟩, m2⟩, m3⟩ := hm
    simp only [ev] at hq
    rename_i x y z pos
    have hmk : lastMarks [o.op, o'.op] [y, z] = false := by cases z <;> first | rfl | cases hs
    refine T_of (pe_chain (opr_cmp c.un o) (opr_cmp c.un o') (pe_T _) (pe_T _) (pe_T _) hmk) ((h1 c _ m1 σp σ H L S _ hh sl (Post.bind (R := RepS X.K) hq)).imp fun v1 H1 z1 => ?_)
    obtain ⟨s1, L1, S1, hh1, st1, r1, hp1⟩ := z1
    refine (h2 c _ m2 σp σ H1 L1 S1 _ hh1 (sl.step st1) (Post.bind (R := RepS X.K) hp1)).imp fun v2 H2 z2 => ?_
    obtain ⟨s2, L2, S2, hh2, st2, r2, hp2⟩ := z2
    refine cmpGo_ok hh2 (r1.step st2) r2 hp2 fun bb hp3 => ⟨bb, rfl, ?_⟩
    cases bb with
    | true =>
      simp only [if_true] at hp3 ⊢
      refine (h3 c _ m3 σp σ H2 L2 S2 _ hh2 ((sl.step st1).step st2) (Post.bind (R := RepS X.K) hp3)).imp fun v3 H3 z3 => ?_
      obtain ⟨s3, L3, S3, hh3, st3, r3, hp4⟩ := z3
      exact cmpGo_ok hh3 (r2.step st3) r3 hp4 fun b2 hp5 => hp5 _ H3 L3 hh3 .refl rfl
    | false =>
      simp only [Bool.false_eq_true, if_false] at hp3 ⊢
      exact hp3 _ H2 L2 hh2 .refl rfl
  · cases hm
theorem truth_bl {K : PySem.W.Frag} {xa : String → Addr} {H : Hp} {L : Ads} {S : Store} {b : Bool} {Q : Bool → Hp → Prop} {E : XK} (h : Post K xa eqB H L S ((Out.ok (.val (.bl b)) S : Out Sl).bind fun s S1 => truthOf s S1) Q E) (hh : Heaps K H L S) : Q b H := h b H L hh .refl rfl
theorem Out.bind_assoc {α β γ : Type} (o : Out α) (f : α → Store → Out β) (h : β → Store → Out γ) : (o.bind f).bind h = o.bind fun a S => (f a S).bind h := by cases o <;> rfl
theorem ts_cmp2 {o o' : CO} {a b d : CE} (h1 : EvOk a) (h2 : EvOk b) (h3 : EvOk d) : TsOk (.cmp2 o o' a b d) := by
  intro g X W xa k ha c e hm σp σ H L S Q hh sl hq
  simp only [mt] at hm
  split at hm
  · simp only [Bool.and_eq_true, beq_iff_eq] at hm
    obtain ⟨⟨⟨⟨⟨rfl, rfl⟩, hs⟩, m1⟩, m2⟩, m3⟩ := hm
    simp only [ev, Out.bind_assoc] at hq
    rename_i x y z pos
    have hmk : lastMarks [o.op, o'.op] [y, z] = false := by cases z <;> first | rfl | cases hs
    refine TT_of (pt_chain (opr_cmp c.un o) (opr_cmp c.un o') (pe_T _) (pe_T _) (pe_T _) hmk) ((h1 c _ m1 σp σ H L S _ hh sl (Post.bind (R := RepS X.K) hq)).imp fun v1 H1 z1 => ?_)
    obtain ⟨s1, L1, S1, hh1, st1, r1, hp1⟩ := z1
    refine (h2 c _ m2 σp σ H1 L1 S1 _ hh1 (sl.step st1) (Post.bind (R := RepS X.K) hp1)).imp fun v2 H2 z2 => ?_
    obtain ⟨s2, L2, S2, hh2, st2, r2, hp2⟩ := z2
    refine cmpGo_ok hh2 (r1.step st2) r2 hp2 fun bb hp3 => ⟨bb, rfl, ?_⟩
    cases bb with
    | true =>
      simp only [if_true, Out.bind_assoc] at hp3 ⊢
      refine (h3 c _ m3 σp σ H2 L2 S2 _ hh2 ((sl.step st1).step st2) (Post.bind (R := RepS X.K) hp3)).imp fun v3 H3 z3 => ?_
      obtain ⟨s3, L3, S3, hh3, st3, r3, hp4⟩ := z3
      exact cmpGo_ok hh3 (r2.step st3) r3 hp4 fun b2 hp5 => ⟨b2, rfl, truth_bl hp5 hh3⟩
    | false =>
      simp only [Bool.false_eq_true, if_false] at hp3 ⊢
      exact ⟨false, rfl, truth_bl hp3 hh2⟩
  · cases hm
/-- a comparison as a test -/
theorem ts_cmp (o : CO) {es : List CE} (ih : EvsOk es) : TsOk (.prim (.cmp o) es) := by
  intro g X W xa k ha c e hm σp σ H L S Q hh sl hq
  simp only [mt] at hm
  split at hm
  · rename_i as hp
    have hc : (!g.cm && calmP (.cmp o)) = false := by simp [calmP]
    simp only [ev, hc, Bool.false_eq_true, if_false, Out.bind_assoc] at hq
    have h0 := ih c as hm σp σ H L S _ hh sl (Post.bind (R := RepSs X.K) hq)
    simp only [parts] at hp
    split at hp
    · split at hp
      · rename_i a op b pos ho
        rw [Bool.and_eq_true, beq_iff_eq] at ho
        obtain ⟨rfl, hs⟩ := ho
        cases hp
        have hmk : behindInMarks o.op b = false := by cases b <;> first | rfl | cases hs
        refine TT_of (pt_cmpR (opr_cmp c.un o) (pe_T a) (pe_T b) hmk) ((tAs2 h0).imp fun x H1 h1 => h1.imp fun y H2 h2 => ?_)
        obtain ⟨sls, L1, S1, hh1, st, rs, hp1⟩ := h2
        have z : rP X (.cmp o) [x, y] H2 (fun w H3 => ∃ k, w = .bl k ∧ Q k H3) := by
          unfold primGo at hp1
          split at hp1
          · rename_i pvs hv
            split at hp1
            · rename_i v he
              have ar : ArgsOk (borrows (.cmp o)) X.K H2 (Lv L1 S1) pvs [x, y] := by
                cases hb : borrows (.cmp o) with
                | true => rw [hb] at hv; exact derefs_rep hh1 rs hv
                | false => rw [hb] at hv; exact vals_rep rs hv
              refine prim_sem c.ww (.cmp o) hh1 ar he fun u H' a1 a2 a3 => ?_
              obtain ⟨p, q, e2, e3⟩ := on2_inv he
              obtain ⟨r, hr, e4⟩ := map_inv e3
              subst e4
              cases a3
              exact ⟨r, rfl, truth_bl (hp1.step a2) a1⟩
            · exact hp1.elim
          · exact hp1.elim
        obtain ⟨x', y', e1, q⟩ := z
        cases e1
        exact q
      · cases hp
    · cases hp
  · cases hm
theorem isTrue_ife {M : Model} {A : Around} {E : Value → Shared → Prop} {s : Shared} {t a b : Expr} {pos : Pos} {env : Env} {w : Sem Value} {Q : Bool → Shared → Prop}
    (h : wpAny M A (isTrue t env (eval t env)) (fun c s1 => wpAny M A (if c then isTrue a env (eval a env) else isTrue b env (eval b env)) Q E s1) E s) : wpAny M A (isTrue (.IfExp t a b pos) env w) Q E s := by
  show wpAny M A (do if ← isTrue t env (eval t env) then isTrue a env (eval a env) else isTrue b env (eval b env)) Q E s
  exact wpAny_bind h
theorem ts_ife {t a b : CE} (ht : TsOk t) (h1 : TsOk a) (h2 : TsOk b) : TsOk (.ife t a b) := by
  intro g X W xa k ha c e hm σp σ H L S Q hh sl hq
  simp only [mt] at hm
  split at hm
  · simp only [Bool.and_eq_true] at hm
    simp only [ev, Out.bind_assoc] at hq
    intro pins s I
    refine isTrue_ife (thn ((ht c _ hm.1.1 σp σ H L S _ hh sl (test_bind hq)) pins s I) fun bb s1 z => ?_)
    obtain ⟨H1, I1, L1, S1, hh1, st, hp1⟩ := z
    cases bb with
    | true =>
      simp only [if_true] at hp1 ⊢
      exact h1 c _ hm.1.2 σp σ H1 L1 S1 Q hh1 (sl.step st) hp1 pins s1 I1
    | false =>
      simp only [Bool.false_eq_true, if_false] at hp1 ⊢
      exact h2 c _ hm.2 σp σ H1 L1 S1 Q hh1 (sl.step st) hp1 pins s1 I1
  · cases hm
/-! ### calls, moves, the exception at hand -/
theorem move_out {K : PySem.W.Frag} {H : Hp} {L : Ads} {S : Store} {n : Nat} {c : Cell} {a : Addr} (hh : Heaps K H L S) (hc : S[n]? = some (some c)) (ea : L.ad[n]? = some a) : Step H L S H L (S.set n none) ∧ Heaps K H L (S.set n none) ∧ ¬ Lv L (S.set n none) a := by
  have old : ∀ m d, (S.set n none)[m]? = some (some d) → S[m]? = some (some d) ∧ m ≠ n := fun m d h1 => by
    by_cases hmn : n = m
    · subst hmn
      rw [List.getElem?_set_self (List.getElem?_eq_some_iff.mp hc).1] at h1
      cases h1
    · rw [List.getElem?_set_ne hmn] at h1
      exact ⟨h1, fun z => hmn z.symm⟩
  have lv : ∀ b, Live L (S.set n none) b → Live L S b := fun b ⟨m, d, h1, h2⟩ => ⟨m, d, (old m d h1).1, h2⟩
  have st : Step H L S H L (S.set n none) := ⟨fun b o _ hb nl => ⟨hb, fun l => nl (lv b l)⟩, ⟨[], by simp⟩, rfl⟩
  refine ⟨st, ⟨by simp [hh.len], hh.res, fun b hb l => hh.sep b hb (lv b l), fun m d b h1 h2 => (hh.cell m d b (old m d h1).1 h2).keeps st.keep fun _ z => z, fun m1 m2 d1 d2 b h1 h2 h3 h4 => hh.inj m1 m2 d1 d2 b (old _ _ h1).1 (old _ _ h2).1 h3 h4, hh.tbs⟩, fun l => ?_⟩
  rcases l with l | l
  · obtain ⟨m, d, h1, h2⟩ := l
    exact (old m d h1).2 (hh.inj m n d _ a (old m d h1).1 hc h2 ea)
  · exact hh.sep a l ⟨n, _, hc, ea⟩
theorem ok_mv (i : Nat) : EvOk (.mv i) := by
  intro g X W xa k ha c e hm σp σ H L S Q hh sl hq
  obtain ⟨y, pos, rfl, hN, hv, hp⟩ := isVar_inv (show isVar X.N X.env.scope i e = true from hm)
  obtain ⟨d1, d2, d3⟩ := plain_ok hp
  simp only [ev, move] at hq
  split at hq
  · rename_i n hs
    obtain ⟨v, ev, r⟩ := sl.1.2 i _ hs
    obtain ⟨a, ea, rfl⟩ := r
    split at hq
    · rename_i xs hc
      obtain ⟨vs, e1, rs⟩ := hh.cell n _ a hc ea
      obtain ⟨st, hh', nl⟩ := move_out hh hc ea
      exact T_of (pe_var hN (vis_ok hv) d1 d2) ⟨.ref a, ev, hq _ H L hh' st ⟨a, vs, rfl, .inl ⟨.inl e1, nl⟩, Reps.keeps st.keep xs vs rs⟩⟩
    · rename_i ks vs hc
      obtain ⟨es, e1, q1, q2, q3⟩ := hh.cell n _ a hc ea
      obtain ⟨st, hh', nl⟩ := move_out hh hc ea
      exact T_of (pe_var hN (vis_ok hv) d1 d2) ⟨.ref a, ev, hq _ H L hh' st ⟨a, es, rfl, ⟨e1, nl⟩, q1, Reps.keeps st.keep ks _ q2, Reps.keeps st.keep vs _ q3⟩⟩
    · exact hq.elim
  · exact hq.elim
theorem ok_hot (f : String) (i : Nat) : EvOk (.hot f i) := by
  intro g X W xa k ha c e hm σp σ H L S Q hh sl hq
  simp only [mt] at hm
  split at hm
  · rw [Bool.and_eq_true] at hm
    obtain ⟨p1, rfl, g1, pl1⟩ := isName_inv hm.1
    obtain ⟨y, p2, rfl, hN, hv, hp⟩ := isVar_inv hm.2
    simp only [ev] at hq
    split at hq
    · rename_i cc hx
      split at hq
      · rename_i hi
        unfold liftV at hq
        split at hq
        · rename_i p hv'
          have hx' : g.hx = some (cc.1, i) := by rw [hx, ← hi]
          refine c.hots f cc.1 i p hx' hv' i (S' f) y p1 p2 _ σ H Q (by rw [g1, pl1]; simp) (by rw [hN, hv, hp]; simp) (sl.2 cc.1 i hx') hh.tbs fun v H' hm ht hr => hq v H' L (hh.more hm ht).1 (hh.more hm ht).2 (hr _ _ _)
        · exact hq.elim
      · exact hq.elim
    · exact hq.elim
  · cases hm
theorem reps_rep {K : PySem.W.Frag} {H : Hp} {W : Addr → Prop} {p : List PV} {v : List V} (h : Reps K H W p v) : ∀ n : Nat, Reps K H W (List.replicate n p).flatten (List.replicate n v).flatten
  | 0 => rfl
  | n + 1 => by rw [List.replicate_succ, List.replicate_succ, List.flatten_cons, List.flatten_cons]; exact h.append (reps_rep h n)
theorem ok_lrep {es : List CE} (n : Nat) (ih : EvsOk es) : EvOk (.lrep es n) := by
  intro g X W xa k ha c e hm σp σ H L S Q hh sl hq
  simp only [mt] at hm
  split at hm
  · rw [Bool.and_eq_true, beq_iff_eq] at hm
    obtain ⟨rfl, hm⟩ := hm
    simp only [ev] at hq
    refine T_of (pe_op op_rep (pe_lst (pa_T (mts_star hm))) pe_int) ?_
    refine tAs_imp (ih c _ hm σp σ H L S _ hh sl (Post.bind (R := RepSs X.K) hq)) fun vs H1 z => ?_
    obtain ⟨sls, L1, S1, hh1, st, rs, hp1⟩ := z
    split at hp1
    · rename_i xs hv
      have rv := vals_rep rs hv
      split at hp1
      · rename_i hb
        obtain ⟨b1, b2, b3⟩ := hb
        have hlen := rv.length
        refine ⟨by rw [← hlen, ← lim_line]; exact b1, fun p hp => ?_⟩
        obtain ⟨h1, st1⟩ := hh1.laid (o := .lst vs) hp
        refine ⟨p, (n : Int), vs, rfl, rfl, upd_same, by omega, by omega, by rw [← hlen, ← lim_line, Int.toNat_natCast]; exact b2, fun p2 hp2 => ?_⟩
        rw [Int.toNat_natCast]
        obtain ⟨h2, st2⟩ := h1.laid (o := .lst (List.replicate n vs).flatten) hp2
        have np2 : ¬ Lv L1 S1 p2 := fun l => by
          obtain ⟨o, eo⟩ := h1.lv l
          rw [hp2] at eo
          cases eo
        exact hp1 _ _ L1 h2 (st1.trans st2) ⟨p2, _, rfl, .inl ⟨.inl upd_same, np2⟩, reps_rep (Reps.keeps (st1.trans st2).keep xs vs rv) n⟩
      · exact hp1.elim
    · exact hp1.elim
  · cases hm
theorem dlit_N {a b : CE} (h1 : EvOk a) (h2 : EvOk b) {g : Cfg} {X : Cx} {W : WX} {xa : String → Addr} {k : Nat} {ha : Addr} (c : Ctx g X W xa k ha) (e : Expr) (hm : mt X.N X.env.scope (.dlit a b) e = true) (σp : Lo) (σ : Sx) (H : Hp) (L : Ads) (S : Store) (Q : VK)
    (hh : Heaps X.K H L S) (sl : SlotsH g ha X.K H L S σp σ) (hq : Post X.K xa (RepN X.K H L S) H L S (ev g (.dlit a b) σp S) Q (fun cl d H' => W cl d σ H')) : TEv X e σ H Q := by
  simp only [mt] at hm
  split at hm
  · rw [Bool.and_eq_true] at hm
    simp only [ev] at hq
    split at hq
    · rename_i s1 S1 e1
      split at hq
      · rename_i s2 S2 e2
        unfold dlitGo at hq
        split at hq
        · rename_i ka kb
          split at hq
          · rename_i hk
            refine T_of (pe_dispN (Nat.lt_of_le_of_lt (Nat.add_le_add_left (by decide) _) c.un) (pe_T _) (pe_T _)) fun p np => ?_
            obtain ⟨hh0, kp0⟩ := hh.hold np (DctO X.w p []) (plain_dct _ _ _)
            have sl0 : SlotsH g ha X.K (upd H p (DctO X.w p [])) (L.hold p) S σp σ := ⟨sl.1.hold (kp0.hold np rfl) rfl, sl.2⟩
            refine h1 c _ hm.1 σp σ _ (L.hold p) S _ hh0 sl0 ?_
            rw [e1]
            intro y H1 L1 hh1 st1 ry
            have p1 := st1.kept p _ (nt_dct _ _ _) upd_same (hh0.sep p List.mem_cons_self)
            refine h2 c _ hm.2 σp σ H1 L1 S1 _ hh1 (sl0.step st1) ?_
            rw [e2]
            intro v H2 L2 hh2 st2 rv
            have p2 := st2.kept p _ (nt_dct _ _ _) p1.1 p1.2
            have ry2 : Rep X.K H2 (Lv L2 S2) ka y := Rep.keeps st2.keep ka y ry
            obtain ⟨kk, n1, n2⟩ := keyOk_nk hk
            cases ka with
            | tup ts =>
              obtain ⟨ad, vs, rfl, lt, rts⟩ := id ry2
              have nk := rep_nkey (.tup ts) _ kk ry2 n1
              refine ⟨p2.1, kk, ad, rfl, nk, n2, ?_⟩
              have er : L2.rs = p :: L.rs := by rw [st2.rs, st1.rs]
              obtain ⟨hh3, kp3⟩ := hh2.grow er (DctO X.w p [(kk, ad, v)]) (plain_dct _ _ _)
              obtain ⟨hh4, kp4⟩ := hh3.drop er
              have kp34 : Keeps H2 (Lv L2 S2) (upd H2 p (DctO X.w p [(kk, ad, v)])) (Lv ⟨L2.ad, L.rs⟩ S2) := fun b o nt eb nb => by
                obtain ⟨q1, q2⟩ := kp3 b o nt eb nb
                exact kp4 b o nt q1 q2
              have nrs : p ∉ L.rs := fun l => by
                obtain ⟨o, eo, _⟩ := hh.res p l
                rw [np] at eo
                cases eo
              have npl : ¬ Lv ⟨L2.ad, L.rs⟩ S2 p := fun l => by
                rcases l with l | l
                · exact p2.2 l
                · exact nrs l
              have st : Step H L S (upd H2 p (DctO X.w p [(kk, ad, v)])) ⟨L2.ad, L.rs⟩ S2 := by
                refine ⟨fun b o nt eb nb => ?_, ?_, rfl⟩
                · obtain ⟨q1, q2⟩ := kp0 b o nt eb nb
                  obtain ⟨q3, q4⟩ := st1.kept b o nt q1 q2
                  obtain ⟨q5, q6⟩ := st2.kept b o nt q3 q4
                  exact ⟨by rw [upd_ne (ne_of_none eb np)]; exact q5, q6⟩
                · obtain ⟨t1, z1⟩ := st1.pre
                  obtain ⟨t2, z2⟩ := st2.pre
                  exact ⟨t1 ++ t2, by show L2.ad = _; rw [z2, z1, List.append_assoc]⟩
              have kof : KeysOf [.tup ts] [(kk, ad, v)] := ⟨by simp [n1], fun e he => by rw [List.mem_singleton.mp he]; exact n2⟩
              have hcr : CellRep X.K (upd H2 p (DctO X.w p [(kk, ad, v)])) (Lv L2 S2) (.dct [.tup ts] [kb]) p := ⟨_, by rw [upd_same, c.ww], kof, Reps.one (Rep.keeps kp3 _ _ ry2), Reps.one (Rep.keeps kp3 _ _ rv)⟩
              refine hq (.ref p) _ ⟨L2.ad, L.rs⟩ hh4 st ⟨⟨p, _, rfl, ⟨by rw [upd_same, c.ww], npl⟩, kof, Reps.one (Rep.keeps kp34 _ _ ry2), Reps.one (Rep.keeps kp34 _ _ rv)⟩, p, _, .dct [.tup ts] [kb], rfl, rfl, rfl, (fun o _ eo => by rw [np] at eo; cases eo), ?_⟩
              exact hh3.bornC er nrs hcr
            | _ => cases hk
          · exact hq.elim
        · exact hq.elim
      · exact hq.elim
    · exact hq.elim
  · cases hm
theorem ok_dlit {a b : CE} (h1 : EvOk a) (h2 : EvOk b) : EvOk (.dlit a b) := by
  intro g X W xa k ha c e hm σp σ H L S Q hh sl hq
  exact dlit_N h1 h2 c e hm σp σ H L S Q hh sl (Post.impR hq fun _ _ _ _ _ r => r.1)
/-! ### objects, dicts of texts -/
theorem not_lv {K : PySem.W.Frag} {H : Hp} {L : Ads} {S : Store} {p : Addr} (hh : Heaps K H L S) (n : H p = none) : ¬ Lv L S p := fun l => by
  obtain ⟨o, eo⟩ := hh.lv l
  rw [n] at eo
  cases eo
theorem ok_mk (cn : String) {es : List CE} (ih : EvsOk es) : EvOk (.mk cn es) := by
  intro g X W xa k ha c e hm σp σ H L S Q hh sl hq
  simp only [mt] at hm
  split at hm
  · rename_i f a as pos
    rw [Bool.and_eq_true] at hm
    obtain ⟨p1, rfl, g1, pl1⟩ := isName_inv hm.1
    obtain ⟨d1, d2, d3⟩ := plain_ok pl1
    simp only [ev] at hq
    split at hq
    · rename_i hc
      rw [Bool.and_eq_true] at hc
      have C := c.cls cn hc.2
      obtain ⟨f, fd, ps, M, hb, F⟩ := C.mkr
      have ns := mts_star hm.2
      have ns' := ns
      rw [List.all_cons, Bool.and_eq_true] at ns'
      refine T_of (pe_make M F ((c.room hc.1).mono (c.k2 hc.1)) (glo_ok g1) C.gl hb .nil pass0 (pa_T ns) d1 (star_cons ns'.1) (star_any ns'.2)) ?_
      refine tAs_imp (ih c _ hm.2 σp σ H L S _ hh sl (Post.bind (R := RepSs X.K) hq)) fun vs H1 z => ?_
      obtain ⟨sls, L1, S1, hh1, st, rs, hp1⟩ := z
      intro x dx hx hdx hne
      unfold mkGo at hp1
      split at hp1
      · rename_i pvs hv
        split at hp1
        · rename_i hl
          have rv := vals_rep rs hv
          have nx : upd H1 dx (.own x) x = none := by rw [upd_ne (Ne.symm hne)]; exact hx
          obtain ⟨h1, s1⟩ := hh1.laid (o := .own x) hdx
          obtain ⟨h2, s2⟩ := h1.laid (o := .ins (clsA X.K cn) dx ((fldS cn).zip vs)) nx
          rw [List.append_nil]
          refine ⟨by rw [List.length_cons, ← rv.length, hl], x, dx, vs, rfl, upd_same, rfl, ?_⟩
          rw [upd_upd]
          exact hp1 (.ref x) _ L1 h2 (s1.trans s2) ⟨x, dx, vs, rfl, ⟨upd_same, not_lv h1 nx⟩, hl, Reps.keeps (s1.trans s2).keep _ _ rv⟩
        · exact hp1.elim
      · exact hp1.elim
    · exact hq.elim
  · cases hm
theorem ok_fld {a : CE} (cn f : String) (ih : EvOk a) : EvOk (.fld a cn f) := by
  intro g X W xa k ha c e hm σp σ H L S Q hh sl hq
  simp only [mt] at hm
  split at hm
  · simp only [Bool.and_eq_true, beq_iff_eq] at hm
    obtain ⟨⟨⟨rfl, hn⟩, _⟩, hm⟩ := hm
    simp only [ev] at hq
    split at hq
    · rename_i hc
      have C := c.cls cn hc
      refine T_of (pe_fld (pe_T _) (attr_plain hn)) ((ih c _ hm σp σ H L S _ hh sl (Post.bind (R := RepS X.K) hq)).imp fun x H1 z => ?_)
      obtain ⟨s, L1, S1, hh1, st, r, hp1⟩ := z
      unfold fldGo at hp1
      split at hp1
      · split at hp1
        · rename_i d vs hd
          subst hd
          obtain ⟨a, dx, ws, rfl, h1, hl, rv⟩ := r
          unfold liftV at hp1
          split at hp1
          · rename_i p hp
            obtain ⟨v, e1, e2, e3⟩ := fld_rep hl rv hp
            exact ⟨a, _, dx, _, v, rfl, h1.1, C.cl, C.na _ e3, e1, hp1 v H1 L1 hh1 .refl e2⟩
          · exact hp1.elim
        · exact hp1.elim
      · exact hp1.elim
    · exact hq.elim
  · cases hm
theorem ok_isO {a : CE} (cn : String) (ih : EvOk a) : EvOk (.isO a cn) := by
  intro g X W xa k ha c e hm σp σ H L S Q hh sl hq
  simp only [mt] at hm
  split at hm
  · rename_i f a' b pos
    simp only [Bool.and_eq_true] at hm
    obtain ⟨⟨m1, m2⟩, m3⟩ := hm
    obtain ⟨p1, rfl, g1, pl1⟩ := isName_inv m1
    obtain ⟨p2, rfl, g2, pl2⟩ := isName_inv m2
    obtain ⟨d1, d2, d3⟩ := plain_ok pl1
    obtain ⟨e1, e2, e3⟩ := plain_ok pl2
    simp only [ev] at hq
    split at hq
    · rename_i hc
      have C := c.cls cn hc
      have n1 := mt_star m3
      refine T_of (pe_callB call_isi (glo_ok g1) (c.blt _ (by decide)) (by decide +kernel) (pa_cons (pe_T a') (pa_cons (pe_glob (v := .ref (clsA X.K cn)) (glo_ok g2) C.gl rfl e1) pa_nil) (star_cons n1)) d3 d1 (star_cons n1) rfl) ((ih c _ m3 σp σ H L S _ hh sl (Post.bind (R := RepS X.K) hq)).imp fun x H1 z => ?_)
      obtain ⟨s, L1, S1, hh1, st, r, hp1⟩ := z
      unfold isoGo at hp1
      split at hp1
      · rename_i v
        unfold liftV at hp1
        split at hp1
        · rename_i p hp
          obtain ⟨b, hb, rfl⟩ := map_inv hp
          have hQ := hp1 (.bl b) H1 L1 hh1 .refl rfl
          by_cases ho : ∃ d fs, v = .obj d fs
          · obtain ⟨d, fs, rfl⟩ := ho
            simp only [isoP] at hb
            split at hb
            · rename_i hd
              subst hd
              cases hb
              obtain ⟨a, dx, ws, rfl, h1, hl, rv⟩ := r
              exact ⟨.ref a, .ref (clsA X.K d), _, _, true, rfl, .own _, C.ty h1.1, C.kit1, hQ⟩
            · cases hb
          · have nd : ∀ ks vs, v ≠ .dct ks vs := fun ks vs z => by subst z; cases hb
            obtain ⟨n, hn, ty⟩ := TyX_of nd (fun d fs z => ho ⟨d, fs, z⟩) r
            have hm : n ∈ kinds := by
              cases v <;> simp [tyName] at hn <;> subst hn <;> decide
            have hf : b = false := by
              cases v with
              | obj d fs => exact absurd ⟨d, fs, rfl⟩ ho
              | dct _ _ => cases hb
              | _ => cases hb; rfl
            subst hf
            exact ⟨x, .ref (clsA X.K cn), _, _, false, rfl, .own _, ty, C.kit0 n hm, hQ⟩
        · exact hp1.elim
      · exact hp1.elim
    · exact hq.elim
  · cases hm
theorem cellAt_inv {σ : Lo} {i n : Nat} (h : cellAt σ i = some n) : σ[i]? = some (some (.cell n)) := by
  unfold cellAt at h
  split at h
  · rename_i m e
    cases h
    exact e
  · cases h
theorem hu1 (c : Ctx g X W xa k ha) : X.A.units + 1 < cLine := Nat.lt_of_le_of_lt (Nat.add_le_add_left (by decide) _) c.un
theorem noSl {a : Expr} (h : notSlice a = true) : NoSl a := fun o i => by
  cases a <;> first | rfl | cases h
theorem ok_subS {a : CE} (i : Nat) (ih : EvOk a) : EvOk (.subS i a) := by
  intro g X W xa k ha c e hm σp σ H L S Q hh sl hq
  simp only [mt] at hm
  split at hm
  · simp only [Bool.and_eq_true] at hm
    obtain ⟨⟨m1, m2⟩, m3⟩ := hm
    obtain ⟨y, p1, rfl, hN, hv, hp⟩ := isVar_inv m1
    obtain ⟨d1, d2, d3⟩ := plain_ok hp
    simp only [ev] at hq
    split at hq
    · rename_i n hn
      obtain ⟨v, ev, l, el, rfl⟩ := sl.1.2 i _ (cellAt_inv hn)
      refine T_of (pe_dget (hu1 c) (pe_var hN (vis_ok hv) d1 d2) (pe_T _) (noSl m2)) ⟨.ref l, ev, ?_⟩
      refine (ih c _ m3 σp σ H L S _ hh sl (Post.bind (R := RepS X.K) hq)).imp fun y H1 z => ?_
      obtain ⟨s, L1, S1, hh1, st, r, hp1⟩ := z
      unfold subSGo at hp1
      split at hp1
      · rename_i x ks vs hS
        have el1 : L1.ad[n]? = some l := by
          obtain ⟨t, et⟩ := st.pre
          rw [et, List.getElem?_append_left (List.getElem?_eq_some_iff.mp el).1]
          exact el
        obtain ⟨kvs, q1, q2, q3⟩ := hh1.cell n _ l hS el1
        cases r
        have g := sget_rep (x := x) q2 q3
        unfold liftV at hp1
        split at hp1
        · rename_i p hp
          rw [hp] at g
          obtain ⟨u, g1, g2⟩ := g
          exact ⟨l, u, rfl, .inl ⟨kvs, Sum.inr (toStr x), .inl q1, rfl, g1.symm⟩, hp1 u H1 L1 hh1 .refl g2⟩
        · exact hp1.elim
      · exact hp1.elim
    · exact hq.elim
  · cases hm
theorem lt_leS : ∀ x y : List Nat, (!PySem.Spec.ltCps y x) = leS x y
  | [], [] => rfl
  | [], _ :: _ => rfl
  | _ :: _, [] => rfl
  | a :: x, b :: y => by
    have ih := lt_leS x y
    simp only [PySem.Spec.ltCps, leS]
    by_cases h1 : b < a
    · have h2 : ¬ a < b := by omega
      simp [h1, h2]
    · by_cases h2 : a < b
      · have h3 : ¬ b = a := by omega
        simp [h1, h2, h3]
      · have h3 : b = a := by omega
        subst h3
        simpa using ih
theorem leS_total : ∀ x y : List Nat, leS x y = true ∨ leS y x = true
  | [], _ => .inl rfl
  | _ :: _, [] => .inr rfl
  | a :: x, b :: y => by
    simp only [leS]
    by_cases h1 : a < b
    · exact .inl (by rw [if_pos h1])
    · by_cases h2 : b < a
      · exact .inr (by rw [if_pos h2])
      · rw [if_neg h1, if_neg h2, if_neg h2, if_neg h1]
        exact leS_total x y
theorem leS_anti : ∀ x y : List Nat, leS x y = true → leS y x = true → x = y
  | [], [], _, _ => rfl
  | [], _ :: _, _, h => by cases h
  | _ :: _, [], h, _ => by cases h
  | a :: x, b :: y, h1, h2 => by
    simp only [leS] at h1 h2
    by_cases c1 : a < b
    · rw [if_neg (show ¬ b < a by omega), if_pos c1] at h2; cases h2
    · by_cases c2 : b < a
      · rw [if_neg c1, if_pos c2] at h1; cases h1
      · rw [if_neg c1, if_neg c2] at h1
        rw [if_neg c2, if_neg c1] at h2
        rw [leS_anti x y h1 h2, show a = b by omega]
theorem leS_trans : ∀ x y z : List Nat, leS x y = true → leS y z = true → leS x z = true
  | [], _, _, _, _ => rfl
  | _ :: _, [], _, h, _ => by cases h
  | _ :: _, _ :: _, [], _, h => by cases h
  | a :: x, b :: y, d :: z, h1, h2 => by
    simp only [leS] at h1 h2 ⊢
    by_cases c1 : a < b
    · by_cases c3 : b < d
      · rw [if_pos (by omega)]
      · by_cases c4 : d < b
        · rw [if_neg c3, if_pos c4] at h2; cases h2
        · rw [if_pos (by omega)]
    · by_cases c2 : b < a
      · rw [if_neg c1, if_pos c2] at h1; cases h1
      · rw [if_neg c1, if_neg c2] at h1
        by_cases c3 : b < d
        · rw [if_pos (by omega)]
        · by_cases c4 : d < b
          · rw [if_neg c3, if_pos c4] at h2; cases h2
          · rw [if_neg c3, if_neg c4] at h2
            rw [if_neg (by omega), if_neg (by omega)]
            exact leS_trans x y z h1 h2
theorem insS_perm (x : List Nat) : ∀ l, (insS x l).Perm (x :: l)
  | [] => .refl _
  | y :: r => by
    simp only [insS]
    split
    · exact .refl _
    · exact ((insS_perm x r).cons y).trans (.swap x y r)
theorem sortP_perm : ∀ l, (sortP l).Perm l
  | [] => .refl _
  | x :: r => (insS_perm x (sortP r)).trans ((sortP_perm r).cons x)
theorem insS_sorted (x : List Nat) : ∀ l : List (List Nat), l.Pairwise (fun a b => leS a b = true) → (insS x l).Pairwise fun a b => leS a b = true
  | [], _ => List.pairwise_singleton _ _
  | y :: r, h => by
    simp only [insS]
    obtain ⟨h1, h2⟩ := List.pairwise_cons.mp h
    split
    · rename_i c
      refine List.pairwise_cons.mpr ⟨fun z hz => ?_, h⟩
      rcases List.mem_cons.mp hz with rfl | hz
      · exact c
      · exact leS_trans x y z c (h1 z hz)
    · rename_i c
      refine List.pairwise_cons.mpr ⟨fun z hz => ?_, insS_sorted x r h2⟩
      rcases List.mem_cons.mp ((insS_perm x r).mem_iff.mp hz) with rfl | hz
      · rcases leS_total y z with q | q
        · exact q
        · exact absurd q c
      · exact h1 z hz
theorem sortP_sorted : ∀ l : List (List Nat), (sortP l).Pairwise fun a b => leS a b = true
  | [] => .nil
  | x :: r => insS_sorted x _ (sortP_sorted r)
theorem risingS_pw : ∀ (l : List Str) (p : Str), PyProof.Rows.risingS p l = true → (p :: l).Pairwise fun a b => leS a.cps.toList b.cps.toList = true
  | [], p, _ => List.pairwise_singleton _ _
  | x :: r, p, h => by
    simp only [PyProof.Rows.risingS, Bool.and_eq_true] at h
    have ih := risingS_pw r x h.2
    have h1 : leS p.cps.toList x.cps.toList = true := by rw [← lt_leS]; exact h.1
    refine List.pairwise_cons.mpr ⟨fun z hz => ?_, ih⟩
    rcases List.mem_cons.mp hz with rfl | hz
    · exact h1
    · exact leS_trans _ _ _ h1 ((List.pairwise_cons.mp ih).1 z hz)
theorem sorted_uniq : ∀ (xs ys : List (List Nat)), xs.Perm ys → xs.Pairwise (fun a b => leS a b = true) → ys.Pairwise (fun a b => leS a b = true) → xs = ys
  | [], ys, p, _, _ => (List.Perm.nil_eq p)
  | x :: xs, [], p, _, _ => by have := p.length_eq; simp at this
  | x :: xs, y :: ys, p, h1, h2 => by
    have hx := List.pairwise_cons.mp h1
    have hy := List.pairwise_cons.mp h2
    have e : x = y := by
      have m1 : x ∈ y :: ys := p.mem_iff.mp List.mem_cons_self
      have m2 : y ∈ x :: xs := p.mem_iff.mpr List.mem_cons_self
      rcases List.mem_cons.mp m1 with q | q
      · exact q
      · rcases List.mem_cons.mp m2 with q' | q'
        · exact q'.symm
        · exact leS_anti x y (hx.1 y q') (hy.1 x q)
    subst e
    rw [sorted_uniq xs ys ((List.perm_cons x).mp p) hx.2 hy.2]
theorem sorted_str {ks : List (List Nat)} {ys : List Str} (p : ys.Perm (ks.map toStr)) (h : PyProof.Rows.sortedS ys = true) : ys = (sortP ks).map toStr := by
  have e1 : ys.map (fun z => z.cps.toList) = sortP ks := by
    refine sorted_uniq _ _ ?_ ?_ (sortP_sorted ks)
    · refine (p.map _).trans ?_
      rw [List.map_map]
      rw [show (List.map ((fun z : Str => z.cps.toList) ∘ toStr) ks) = ks from by
        rw [show ((fun z : Str => z.cps.toList) ∘ toStr) = id from by funext x; simp [toStr]]
        simp]
      exact (sortP_perm ks).symm
    · rw [List.pairwise_map]
      cases ys with
      | nil => exact .nil
      | cons x r => exact risingS_pw r x h
  rw [← e1, List.map_map, show (toStr ∘ fun z : Str => z.cps.toList) = id from by funext x; simp [toStr]]
  simp
theorem strs_reps {K : PySem.W.Frag} {H : Hp} {W : Addr → Prop} : ∀ ks : List (List Nat), Reps K H W (ks.map PV.str) ((ks.map toStr).map V.str)
  | [] => rfl
  | x :: r => ⟨_, _, rfl, rfl, strs_reps r⟩
theorem ok_sortS (i : Nat) : EvOk (.sortS i) := by
  intro g X W xa k ha c e hm σp σ H L S Q hh sl hq
  simp only [mt] at hm
  split at hm
  · rw [Bool.and_eq_true] at hm
    obtain ⟨p0, rfl, g0, pl0⟩ := isName_inv hm.1
    obtain ⟨y, p1, rfl, hN, hv, hp⟩ := isVar_inv hm.2
    obtain ⟨d1, d2, d3⟩ := plain_ok hp
    obtain ⟨e1, e2, e3⟩ := plain_ok pl0
    simp only [ev] at hq
    split at hq
    · rename_i n hn
      split at hq
      · rename_i hcm
        obtain ⟨v, ev, l, el, rfl⟩ := sl.1.2 i _ (cellAt_inv hn)
        unfold sortSGo at hq
        split at hq
        · rename_i ks vs hS
          split at hq
          · rename_i h64
            obtain ⟨kvs, q1, q2, q3⟩ := hh.cell n _ l hS el
            refine T_of (pe_callB (call_sortedD (by rw [c.calm]; exact hcm)) (glo_ok g0) (c.blt "sorted" (by decide)) (by decide +kernel) (pa_cons (pe_var hN (vis_ok hv) d1 d2) pa_nil) e3 e1) ⟨.ref l, ev, ?_⟩
            refine ⟨l, kvs, ks.map toStr, rfl, .inl q1, by rw [q2, List.map_map]; rfl, by rw [List.length_map]; exact h64, fun ys p pm so np => ?_⟩
            rw [sorted_str pm so]
            exact Comes.lst (fun u H' a1 a2 a3 => hq u H' L a1 a2 a3) hh np (strs_reps (sortP ks))
          · exact hq.elim
        · exact hq.elim
      · exact hq.elim
    · exact hq.elim
  · cases hm
theorem ok_lrepN {es : List CE} {a : CE} (ih : EvsOk es) (ih2 : EvOk a) : EvOk (.lrepN es a) := by
  intro g X W xa k ha c e hm σp σ H L S Q hh sl hq
  simp only [mt] at hm
  split at hm
  · rw [Bool.and_eq_true] at hm
    simp only [ev] at hq
    refine T_of (pe_op op_rep (pe_lst (pa_T (mts_star hm.1))) (pe_T _)) ?_
    refine tAs_imp (ih c _ hm.1 σp σ H L S _ hh sl (Post.bind (R := RepSs X.K) hq)) fun vs H1 z => ?_
    obtain ⟨sls, L1, S1, hh1, st, rs, hp1⟩ := z
    split at hp1
    · rename_i xs hv
      have rv := vals_rep rs hv
      split at hp1
      · rename_i b1
        have hlen := rv.length
        refine ⟨by rw [← hlen, ← lim_line]; exact b1, fun p hp => ?_⟩
        obtain ⟨h1, st1⟩ := hh1.laid (o := .lst vs) hp
        have np : ¬ Live L1 S1 p := fun l => not_lv hh1 hp (.inl l)
        refine (ih2 c _ hm.2 σp σ _ L1 S1 _ h1 ((sl.step st).step st1) (Post.bind (R := RepS X.K) (Post.step hp1 st1))).imp fun y H2 z => ?_
        obtain ⟨s, L2, S2, hh2, st2, r2, hp2⟩ := z
        unfold lrepGo at hp2
        split at hp2
        · rename_i j
          split at hp2
          · rename_i hb
            obtain ⟨b2, b3, b4⟩ := hb
            cases r2
            refine ⟨p, j, vs, rfl, rfl, (st2.kept p _ (by intro _ h; cases h) upd_same np).1, by omega, by omega, by rw [← hlen, ← lim_line]; exact b2, fun p2 hp2' => ?_⟩
            obtain ⟨h3, st3⟩ := hh2.laid (o := .lst (List.replicate j.toNat vs).flatten) hp2'
            exact hp2 _ _ L2 h3 st3 ⟨p2, _, rfl, .inl ⟨.inl upd_same, not_lv hh2 hp2'⟩, reps_rep (Reps.keeps ((st1.trans st2).trans st3).keep xs vs rv) _⟩
          · exact hp2.elim
        · exact hp2.elim
      · exact hp1.elim
    · exact hp1.elim
  · cases hm
theorem ok_isE (i : Nat) (d : String) : EvOk (.isE i d) := by
  intro g X W xa k ha c e hm σp σ H L S Q hh sl hq
  simp only [mt] at hm
  split at hm
  · rw [Bool.and_eq_true, Bool.and_eq_true] at hm
    obtain ⟨p1, rfl, g1, pl1⟩ := isName_inv hm.1.1
    obtain ⟨y, p2, rfl, hN, hv, hp⟩ := isVar_inv hm.1.2
    obtain ⟨p3, rfl, g3, pl3⟩ := isName_inv hm.2
    simp only [ev] at hq
    split at hq
    · rename_i cc hx
      split at hq
      · rename_i hi
        unfold liftV at hq
        split at hq
        · rename_i p hv'
          have hx' : g.hx = some (cc.1, i) := by rw [hx, ← hi]
          obtain ⟨b, hb, rfl⟩ := map_inv hv'
          exact c.ish cc.1 i d b hx' hb i (S' "isinstance") y (S' d) p1 p2 p3 _ σ H Q (by rw [g1, pl1]; simp) (by rw [hN, hv, hp]; simp) (by rw [g3, pl3]; simp) (sl.2 cc.1 i hx') (hq (.bl b) H L hh .refl rfl)
        · exact hq.elim
      · exact hq.elim
    · exact hq.elim
  · cases hm
theorem run_T {f : Addr} {fd : FuncData} {ps : List Str} {sp : Sp} {pins : List (Addr × Obj)} {σ : Sx} {H : Hp} {s : Shared} {Q : VK} {us : List Value} {vs : List V} (F : FnOk X.prog X.w X.K X.mg X.base (L2.CX X.prog X.w) k f fd ps sp) (hr : Room k X.A) (hb : Binds X.K fd ps [])
    (tk : Takes X W) (I : Inv X pins σ H s) (r : Vals vs us) (h : sp vs H Q (fun cl d H' => W cl d σ H')) : wpAny (model X.prog X.w) X.A (PySem.call (.ref f) us) (EP X pins σ Q) X.xe s :=
  run_fnS (E := WE W) F hr hb (passAt tk σ) I r h
theorem RepSs.length {K : PySem.W.Frag} {H : Hp} {L : Ads} {S : Store} : ∀ {s : List Sl} {v : List V}, RepSs K H L S s v → s.length = v.length
  | [], _, h => by cases h; rfl
  | x :: xs, _, h => by
    obtain ⟨v, r, e, _, h2⟩ := h
    rw [e, List.length_cons, List.length_cons, RepSs.length h2]
theorem call_T (b : Bool) {C : CallF} (c : Ctx g X W xa k ha) (hcm : g.cm = true) {f : String} (F : FnC b X xa C k f) {p pos : Pos} {as : List Expr} (hg : glo X.env.scope (S' f) = true) (hpl : plain (S' f) = true) (ns : as.all noStar = true) {σ : Sx} {H : Hp} {Q : VK}
    (h : tAs X as σ H fun vs H1 => ∃ sls L S, Heaps X.K H1 L S ∧ RepSs X.K H1 L S sls vs ∧ Post X.K xa (RetB b X.K H1 L S) H1 L S (C f sls S) Q (fun cl d H' => W cl d σ H')) : TEv X (.Call (.Name (S' f) p) as [] pos) σ H Q := by
  obtain ⟨fa, fd, ps, hm, hk, hb, har, hF⟩ := F
  obtain ⟨d1, d2, d3⟩ := plain_ok hpl
  have spo : ∀ {vs H1}, (∃ sls L S, Heaps X.K H1 L S ∧ RepSs X.K H1 L S sls vs ∧ Post X.K xa (RetB b X.K H1 L S) H1 L S (C f sls S) Q (fun cl d H' => W cl d σ H')) →
      spOf b X.K xa C f ps.length vs H1 Q (fun cl d H' => W cl d σ H') := fun {vs H1} ⟨sls, L, S, a1, a2, a3⟩ => by
    refine ⟨?_, sls, L, S, a1, a2, a3⟩
    rw [← a2.length]
    exact har sls S fun z => by rw [z] at a3; exact a3
  cases as with
  | nil =>
    intro pins s I
    refine wpAny_Call_Name_kw (ld_glob I (glo_ok hg) hm ?_ d1)
    exact PySem.W.callWith_K0 I.kIn hk (run_T (us := []) hF (c.room hcm) hb c.tk I .nil (spo h))
  | cons a r =>
    intro pins s I
    rw [List.all_cons, Bool.and_eq_true] at ns
    have hA : PA X (a :: r) (tAs X (a :: r)) := pa_T (by rw [List.all_cons, ns.1, ns.2]; rfl)
    refine wpAny_Call_Name_kw (ld_glob I (glo_ok hg) hm ?_ d1)
    refine PySem.W.callWith_K (h₀ := X.base) I.ok.mod.kin hk (thn (hA.run pos pins s σ H _ I h) fun us s1 hu => ?_) (star_cons ns.1) (star_any ns.2)
    obtain ⟨vs, H1, I1, r1, q⟩ := hu
    exact ⟨I1.kIn, run_T hF (c.room hcm) hb c.tk I1 r1 (spo q)⟩
theorem ok_call (f : String) {es : List CE} (ih : EvsOk es) : EvOk (.call f es) := by
  intro g X W xa k ha c e hm σp σ H L S Q hh sl hq
  simp only [mt] at hm
  split at hm
  · rw [Bool.and_eq_true] at hm
    obtain ⟨p1, rfl, g1, pl1⟩ := isName_inv hm.1
    simp only [ev] at hq
    split at hq
    · rename_i hc
      rw [Bool.and_eq_true] at hc
      refine call_T false c hc.1 (c.fns f hc.2) g1 pl1 (mts_star hm.2) (tAs_imp (ih c _ hm.2 σp σ H L S _ hh sl (Post.bind (R := RepSs X.K) hq)) fun vs H1 z => ?_)
      obtain ⟨sls, L1, S1, hh1, st, rs, hp1⟩ := z
      refine ⟨sls, L1, S1, hh1, rs, Post.imp (Post.bind (R := RetB false X.K H1 L1 S1) hp1) (fun v H2 z2 => ?_) fun _ _ _ z => z⟩
      obtain ⟨pv, L2, S2, hh2, st2, r2, hp2⟩ := z2
      exact hp2 v H2 L2 hh2 .refl r2.1
    · exact hq.elim
  · cases hm
theorem post_val {K : PySem.W.Frag} {xa : String → Addr} {H : Hp} {L : Ads} {S : Store} {o : Out Sl} {Q : VK} {E : XK} (h : Post K xa (RepV K) H L S (o.bind valGo) Q E) : Post K xa (RepS K) H L S o Q E := by
  cases o with
  | ok a S1 =>
    cases a with
    | val v => exact h
    | cell n => exact h.elim
  | err e S1 => exact h
  | stuck => exact h
theorem ok_lam (f : String) {b : CE} (ih : EvOk b) : EvOk (.lam f b) := by
  intro g X W xa k ha c e hm σp σ H L S Q hh sl hq
  simp only [mt] at hm
  split at hm
  · simp only [Bool.and_eq_true] at hm
    obtain ⟨⟨⟨m1, m2⟩, m3⟩, m4⟩ := hm
    obtain ⟨p1, rfl, g1, pl1⟩ := isName_inv m1
    simp only [ev] at hq
    split at hq
    · rename_i hcm
      unfold okOnly at hq
      split at hq
      · rename_i v S2 hv
        refine c.lams hcm f X .refl _ _ _ _ _ _ σ H L S Q (fun S1 => (ev g.low b σp S1).bind valGo) g1 pl1 m2 m3 hh (fun Y E k' ha' cb hN hK hs H' L' S' Q' hh' st hp => ?_) ?_
        · have cY : Ctx g.low Y (fun cl d _ H => E cl d H) xa k' ha' := { cb with lams := fun _ f' X' _ ps e' scope p lp pos σ' H2 L2 S2 Q2 F _ _ _ _ _ _ z => z.elim }
          refine ih cY _ (by rw [hN, hs]; exact m4) σp σ H' L' S' Q' (by rw [hK]; exact hh') ⟨by rw [hK]; exact sl.1.step st, fun cc i z => by cases z⟩ ?_
          rw [hK]
          exact post_val hp
        · rw [hv]
          exact hq
      · exact hq.elim
    · exact hq.elim
  · cases hm
end
end Ev
end
section
set_option maxHeartbeats 1000000
namespace Ev
open PySem PySem.Spec PyProof.Rows L2
variable [WW]

/-! ## what is walked -/
def TIv (X : Cx) (tg iter : Expr) : TI := fun σ H R => ∀ pins s, Inv X pins σ H s → wpAny (model X.prog X.w) X.A (eval iter X.env) (fun v s1 => wpAny (model X.prog X.w) X.A (pyIter v) (PIE X pins σ tg R) X.xe s1) X.xe s
theorem pi_T {X : Cx} (tg iter : Expr) : PI X tg iter (TIv X tg iter) := ⟨fun pins s σ H R I h => h pins s I⟩
theorem TI_of {X : Cx} {tg iter : Expr} {t : TI} {σ : Sx} {H : Hp} {R : It → Hp → Prop} (h : PI X tg iter t) (ht : t σ H R) : TIv X tg iter σ H R := fun pins s I => h.run pins s σ H R I ht
/-- an iterator that yields such values, one by one -/
def RepIt (K : PySem.W.Frag) (H : Hp) (L : Ads) (S : Store) (xs : List PV) (J : It) : Prop := ∀ (H' : Hp) (W' : Addr → Prop), Keeps H (Lv L S) H' W' → ∀ i : Nat,
  (∀ p, xs[i]? = some p → J.go i H' ∧ ∀ x H'', J.yld i H' x H'' → H'' = H' ∧ Rep K H' W' p x) ∧ (xs.length ≤ i → J.stop i H')
def ItOk (it : IT) : Prop := ∀ {g : Cfg} {X : Cx} {W : WX} {xa : String → Addr} {k : Nat} {ha : Addr} (c : Ctx g X W xa k ha) (tg e : Expr), g.cm = true → mtI X.N X.env.scope it e = true → ∀ (σp : Lo) (σ : Sx) (H : Hp) (L : Ads) (S : Store) (R : It → Hp → Prop),
  Heaps X.K H L S → SlotsH g ha X.K H L S σp σ → Post X.K xa (RepIt X.K) H L S (evIt g it σp S) R (fun cl d H' => W cl d σ H') → TIv X tg e σ H R
section
variable {X : Cx} {pins : List (Addr × Obj)} {σ : Sx} {H : Hp} {s : Shared} {tg : Expr} {R : It → Hp → Prop} {E : Value → Shared → Prop} {a : Addr} {vs : List V}
theorem it_list (I : Inv X pins σ H s) (hq : SqL X.K H a vs) (h : R (Itl X.K a) H) : wpAny (model X.prog X.w) X.A (pyIter (.ref a)) (PIE X pins σ tg R) E s := by
  obtain ⟨its, rv, p, hz⟩ := I.list hq
  exact wpAny_pyIter_list p.isList (pi_one (tk := s.toks) I _ (turn_list a _) ⟨_, Heap.get?_push_size _ rfl, rfl, rfl⟩ h)
theorem it_tup (I : Inv X pins σ H s) (hq : SqT X.K H a vs) (h : R (Itt X.K a) H) : wpAny (model X.prog X.w) X.A (pyIter (.ref a)) (PIE X pins σ tg R) E s := by
  obtain ⟨its, rv, p, hz⟩ := I.tuple hq
  exact wpAny_pyIter_tuple (show s.heap.IsTuple a its.toArray from p) (pi_one (tk := s.toks) I _ (turn_tuple a _) ⟨_, Heap.get?_push_size _ rfl, rfl, rfl⟩ h)
theorem it_str {x : Str} {t : Tok} (I : Inv X pins σ H s) (h : R (Its x) H) : wpAny (model X.prog X.w) X.A (pyIter (.str x t)) (PIE X pins σ tg R) E s := by
  cases ha : x.cps.all (· < 128)
  · exact wpAny_pyIter_wide ha (pi_one (tk := s.toks) I _ (turn_str _ x t "str_iterator" (.inr rfl)) ⟨_, Heap.get?_push_size _ rfl, rfl, rfl⟩ h)
  · exact wpAny_pyIter_ascii ha (pi_one (tk := s.toks) I _ (turn_str _ x t "str_ascii_iterator" (.inl rfl)) ⟨_, Heap.get?_push_size _ rfl, rfl, rfl⟩ h)
end
section
variable {K : PySem.W.Frag} {H : Hp} {L : Ads} {S : Store}
theorem itl_rep {xs : List PV} {a : Addr} {vs : List V} (l : LstAt K H (Lv L S) a vs) (r : Reps K H (Lv L S) xs vs) : RepIt K H L S xs (Itl K a) := fun H' W' kp i => by
  have l' := (l.keeps kp).sq
  have r' := Reps.keeps kp xs vs r
  refine ⟨fun p hp => ?_, fun hl => ⟨vs, l', by rw [← r'.length]; exact hl⟩⟩
  obtain ⟨u, hu, ru⟩ := r'.get hp
  refine ⟨⟨vs, u, l', hu⟩, fun x H'' hy => ⟨hy.1, ?_⟩⟩
  have e := hy.2 vs l'
  rw [hu] at e
  cases e
  exact ru
theorem itt_rep {xs : List PV} {a : Addr} {vs : List V} (l : TupAt K H (Lv L S) a vs) (r : Reps K H (Lv L S) xs vs) : RepIt K H L S xs (Itt K a) := fun H' W' kp i => by
  have l' := (l.keeps kp).sq
  have r' := Reps.keeps kp xs vs r
  refine ⟨fun p hp => ?_, fun hl => ⟨vs, l', by rw [← r'.length]; exact hl⟩⟩
  obtain ⟨u, hu, ru⟩ := r'.get hp
  refine ⟨⟨vs, u, l', hu⟩, fun x H'' hy => ⟨hy.1, ?_⟩⟩
  have e := hy.2 vs l'
  rw [hu] at e
  cases e
  exact ru
theorem its_rep (z : List Nat) : RepIt K H L S (z.map fun c => .str [c]) (Its (toStr z)) := fun H' W' kp i => by
  have hs : (toStr z).cps.size = z.length := by simp [toStr]
  refine ⟨fun p hp => ?_, fun hl => ?_⟩
  · rw [List.getElem?_map] at hp
    cases q : z[i]? with
    | none => rw [q] at hp; cases hp
    | some c =>
      rw [q] at hp
      cases hp
      have hi : i < z.length := (List.getElem?_eq_some_iff.mp q).1
      refine ⟨by show i < (toStr z).cps.size; omega, fun x H'' hy => ?_⟩
      obtain ⟨e1, c', hc, e2⟩ := hy
      refine ⟨e1, ?_⟩
      have e3 : (toStr z).cps[i]? = some c := by simp [toStr, q]
      rw [e3] at hc
      cases hc
      exact e2
  · show (toStr z).cps.size ≤ i
    rw [List.length_map] at hl
    omega
theorem itr_rep (lo : Int) (n : Nat) : RepIt K H L S (rangeList lo n) (Itr lo n) := fun H' W' kp i => by
  have hl : (rangeList lo n).length = n := by simp [rangeList]
  refine ⟨fun p hp => ?_, fun h => by show n ≤ i; omega⟩
  have hi : i < n := by rw [← hl]; exact (List.getElem?_eq_some_iff.mp hp).1
  refine ⟨hi, fun x H'' hy => ⟨hy.1, ?_⟩⟩
  have e : (rangeList lo n)[i]? = some (.int (lo + i)) := by simp [rangeList, hi]
  rw [e] at hp
  cases hp
  exact hy.2
theorem itc2_rep (lo : Int) (n : Nat) : RepIt K H L S ((List.range n).map fun (k : Nat) => PV.int (lo + (k : Int) * 2)) (Itc lo 2 n) := fun H' W' kp i => by
  refine ⟨fun p hp => ?_, fun h => by show n ≤ i; simpa using h⟩
  have hi : i < n := by have := (List.getElem?_eq_some_iff.mp hp).1; simpa using this
  refine ⟨hi, fun x H'' hy => ⟨hy.1, ?_⟩⟩
  have e : ((List.range n).map fun (k : Nat) => PV.int (lo + (k : Int) * 2))[i]? = some (.int (lo + (i : Int) * 2)) := by simp [hi]
  rw [e] at hp
  cases hp
  exact hy.2
theorem itc_rep (lo : Int) (n : Nat) : RepIt K H L S ((List.range n).map fun (k : Nat) => PV.int (lo - (k : Int))) (Itc lo (-1) n) := fun H' W' kp i => by
  refine ⟨fun p hp => ?_, fun h => by show n ≤ i; simpa using h⟩
  have hi : i < n := by have := (List.getElem?_eq_some_iff.mp hp).1; simpa using this
  refine ⟨hi, fun x H'' hy => ⟨hy.1, ?_⟩⟩
  have e : ((List.range n).map fun (k : Nat) => PV.int (lo - (k : Int)))[i]? = some (.int (lo - i)) := by simp [hi]
  rw [e] at hp
  cases hp
  have e2 : x = .int (lo + (i : Nat) * (-1)) := hy.2
  rw [e2]
  show V.int _ = V.int _
  congr 1
  omega
theorem itv_rep {xs : List PV} {a : Addr} {vs : List V} (l : LstAt K H (Lv L S) a vs) (r : Reps K H (Lv L S) xs vs) : RepIt K H L S xs.reverse (Itv K a vs.length) := fun H' W' kp i => by
  have l' := (l.keeps kp).sq
  have r' := Reps.keeps kp xs vs r
  have hl := r'.length
  refine ⟨fun p hp => ?_, fun h => ?_⟩
  · have hi : i < xs.length := by have := (List.getElem?_eq_some_iff.mp hp).1; simpa using this
    rw [List.getElem?_reverse hi] at hp
    obtain ⟨u, hu, ru⟩ := r'.get hp
    rw [hl] at hu
    refine ⟨⟨by omega, vs, u, l', hu⟩, fun x H'' hy => ⟨hy.1, ?_⟩⟩
    have e := hy.2 vs l'
    rw [hu] at e
    cases e
    exact ru
  · show vs.length ≤ i
    rw [List.length_reverse] at h
    omega
end
theorem it_seq {ce : CE} (ih : EvOk ce) : ItOk (.seq ce) := by
  intro g X W xa k ha c tg e hcm hm σp σ H L S R hh sl hq
  simp only [evIt] at hq
  intro pins s I
  refine thn (ih c e (by simpa only [mtI] using hm) σp σ H L S _ hh sl (Post.bind (R := RepS X.K) hq) pins s I) fun u s1 z => ?_
  obtain ⟨v, H1, I1, rv, sl1, L1, S1, hh1, st, r1, hp1⟩ := z
  cases sl1 with
  | cell n => exact hp1.elim
  | val p =>
    simp only at hp1
    cases p with
    | lst xs =>
      obtain ⟨a, vs, rfl, l, rs⟩ := r1
      cases rv
      exact it_list I1 l.sq (hp1 _ H1 L1 hh1 .refl (itl_rep l rs))
    | tup xs =>
      obtain ⟨a, vs, rfl, l, rs⟩ := r1
      cases rv
      exact it_tup I1 l.sq (hp1 _ H1 L1 hh1 .refl (itt_rep l rs))
    | str x =>
      cases r1
      obtain ⟨t, rfl⟩ := rv
      simp only [itemsP] at hp1
      split at hp1
      · rename_i xs he
        obtain ⟨hl, rfl⟩ := if_inv he
        exact it_str I1 (hp1 _ H1 L1 hh1 .refl (its_rep x))
      · exact hp1.elim
    | _ => exact hp1.elim
theorem small_62 {i : Int} (h : small i = true) : -(2 ^ 62) ≤ i ∧ i < 2 ^ 62 := by
  unfold small at h
  simp only [Bool.and_eq_true, decide_eq_true_eq] at h
  omega
theorem rgc_two {i j : Int} (h1 : small i = true) (h2 : small j = true) : RgC i j 2 ((j - i + 1) / 2).toNat := by
  unfold Ev.small at h1 h2
  simp only [Bool.and_eq_true, decide_eq_true_eq] at h1 h2
  refine ⟨by decide, by decide, ?_, ?_⟩
  · unfold Builtin.Range.small Builtin.Range.rangeSize
    simp only [Builtin.Range.rangeFitsLong, Bool.and_eq_true, Bool.or_eq_true, decide_eq_true_eq, beq_iff_eq, show ((2 : Int) > 0) by decide, if_true]
    split <;> omega
  · unfold Builtin.Range.rangeSize
    simp only [show ((2 : Int) > 0) by decide, if_true]
    split <;> omega
theorem range_inv {sc : Scope} {e : Expr} {as : List Expr} (h : rangeParts sc e = some as) : ∃ p pos, e = .Call (.Name (S' "range") p) as [] pos ∧ glo sc (S' "range") = true ∧ plain (S' "range") = true ∧ 1 ≤ as.length ∧ as.length ≤ 3 := by
  unfold rangeParts at h
  split at h
  · split at h
    · rename_i f as pos hn
      simp only [Bool.and_eq_true, decide_eq_true_eq] at hn
      obtain ⟨p, rfl, h2, h3⟩ := isName_inv hn.1.1
      cases h
      exact ⟨p, pos, rfl, h2, h3, hn.1.2, hn.2⟩
    · cases h
  · cases h
theorem it_range {es : List CE} (ih : EvsOk es) : ItOk (.range es) := by
  intro g X W xa k ha c tg e hcm hm σp σ H L S R hh sl hq
  simp only [mtI] at hm
  split at hm
  · rename_i as hp
    obtain ⟨p, pos, rfl, hg, hpl, hl1, hl3⟩ := range_inv hp
    simp only [evIt] at hq
    have h0 := ih c as hm σp σ H L S _ hh sl (Post.bind (R := RepSs X.K) hq)
    have ns := mts_star hm
    have key : ∀ {vs H1}, (∃ sls L1 S1, Heaps X.K H1 L1 S1 ∧ Step H L S H1 L1 S1 ∧ RepSs X.K H1 L1 S1 sls vs ∧ Post X.K xa (RepIt X.K) H1 L1 S1 (match mapO valOf sls with
        | some pvs => (match rangeP pvs with
          | some xs => .ok xs S1
          | none => .stuck)
        | none => .stuck) R (fun cl d H' => W cl d σ H')) →
        (∃ j : Int, vs = [.int j] ∧ -(2 ^ 62) ≤ j ∧ j < 2 ^ 62 ∧ R (Itr 0 j.toNat) H1) ∨ (∃ i j : Int, vs = [.int i, .int j] ∧ (-(2 ^ 62) ≤ i ∧ i < 2 ^ 62 ∧ -(2 ^ 62) ≤ j ∧ j < 2 ^ 62) ∧ R (Itr i (j - i).toNat) H1) ∨
          ∃ (i j c : Int) (n : Nat), vs = [.int i, .int j, .int c] ∧ RgC i j c n ∧ R (Itc i c n) H1 := fun {vs H1} ⟨sls, L1, S1, hh1, st, rs, hp1⟩ => by
      split at hp1
      · rename_i pvs hv
        have rv := vals_rep rs hv
        split at hp1
        · rename_i xs hr
          unfold rangeP at hr
          split at hr
          · rename_i j
            obtain ⟨hs, rfl⟩ := if_inv hr
            obtain ⟨v, rfl, r1⟩ := one_inv' rv
            cases r1
            obtain ⟨b1, b2⟩ := small_62 hs
            exact .inl ⟨j, rfl, b1, b2, hp1 _ H1 L1 hh1 .refl (itr_rep 0 j.toNat)⟩
          · rename_i i j
            obtain ⟨hs, rfl⟩ := if_inv hr
            rw [Bool.and_eq_true] at hs
            obtain ⟨v, w, rfl, r1, r2⟩ := two_inv' rv
            cases r1
            cases r2
            obtain ⟨b1, b2⟩ := small_62 hs.1
            obtain ⟨b3, b4⟩ := small_62 hs.2
            exact .inr (.inl ⟨i, j, rfl, ⟨b1, b2, b3, b4⟩, hp1 _ H1 L1 hh1 .refl (itr_rep i _)⟩)
          · rename_i i j
            obtain ⟨hs, rfl⟩ := if_inv hr
            rw [Bool.and_eq_true] at hs
            obtain ⟨v, t, rfl, r1, rr⟩ := rv
            obtain ⟨w, z, rfl, r2, r3⟩ := two_inv' rr
            cases r1
            cases r2
            cases r3
            obtain ⟨b1, b2⟩ := small_62 hs.1
            obtain ⟨b3, b4⟩ := small_62 hs.2
            exact .inr (.inr ⟨i, j, -1, _, rfl, RgC.neg b1 b2 b3 b4, hp1 _ H1 L1 hh1 .refl (itc_rep i _)⟩)
          · rename_i i j
            obtain ⟨hs, rfl⟩ := if_inv hr
            rw [Bool.and_eq_true] at hs
            obtain ⟨v, t, rfl, r1, rr⟩ := rv
            obtain ⟨w, z, rfl, r2, r3⟩ := two_inv' rr
            cases r1
            cases r2
            cases r3
            obtain ⟨b1, b2⟩ := small_62 hs.1
            obtain ⟨b3, b4⟩ := small_62 hs.2
            exact .inr (.inr ⟨i, j, 2, _, rfl, rgc_two hs.1 hs.2, hp1 _ H1 L1 hh1 .refl (itc2_rep i _)⟩)
          · cases hr
        · exact hp1.elim
      · exact hp1.elim
    match as, h0, ns, hl1, hl3 with
    | [a], h0, ns, _, _ =>
      refine TI_of (pi_range1 (glo_ok hg) (c.blt "range" (by decide)) (pa_T ns) (by rw [star_cons (by simpa using ns)]; rfl)) ((tAs1 h0).imp fun x H1 z => ?_)
      rcases key z with h | ⟨_, _, e1, _⟩ | ⟨_, _, _, _, e1, _⟩
      · exact h
      · cases e1
      · cases e1
    | [a, b], h0, ns, _, _ =>
      have n1 : noStar a = true ∧ noStar b = true := by simpa using ns
      refine TI_of (pi_range2 (glo_ok hg) (c.blt "range" (by decide)) (pa_T ns) (by rw [star_cons n1.1, star_cons n1.2]; rfl) (by rw [star_cons n1.2]; rfl)) ((tAs2 h0).imp fun x H1 h1 => h1.imp fun y H2 z => ?_)
      rcases key z with ⟨_, e1, _⟩ | h | ⟨_, _, _, _, e1, _⟩
      · cases e1
      · exact h
      · cases e1
    | [a, b, d], h0, ns, _, _ =>
      have n1 : noStar a = true ∧ noStar b = true ∧ noStar d = true := by simpa using ns
      refine TI_of (pi_range3 (glo_ok hg) (c.blt "range" (by decide)) (pa_T ns) (star_cons n1.1) (star_any (es := [b, d]) (by simpa using n1.2))) ((tAs3 h0).imp fun x H1 h1 => h1.imp fun y H2 h2 => h2.imp fun w H3 z => ?_)
      rcases key z with ⟨_, e1, _⟩ | ⟨_, _, e1, _⟩ | h
      · cases e1
      · cases e1
      · exact h
  · cases hm
theorem it_rev {ce : CE} (ih : EvOk ce) : ItOk (.rev ce) := by
  intro g X W xa k ha c tg e hcm hm σp σ H L S R hh sl hq
  simp only [mtI] at hm
  split at hm
  · rename_i a hp
    obtain ⟨p, a', pos, rfl, e1, hg, hpl⟩ := call1_inv hp
    cases e1
    simp only [evIt] at hq
    have n1 := mt_star hm
    refine TI_of (pi_reversed (glo_ok hg) (c.blt "reversed" (by decide)) (pa_T (es := [a]) (by simpa using n1)) (by rw [star_cons n1]; rfl)) ((ih c a hm σp σ H L S _ hh sl (Post.bind (R := RepS X.K) hq)).imp fun v H1 z => ?_)
    obtain ⟨s, L1, S1, hh1, st, r1, hp1⟩ := z
    split at hp1
    · rename_i xs
      obtain ⟨b, vs, rfl, l, rs⟩ := r1
      exact ⟨b, vs, rfl, l.sq, hp1 _ H1 L1 hh1 .refl (itv_rep l rs)⟩
    · exact hp1.elim
  · cases hm
end Ev
end
section
set_option maxHeartbeats 1000000
namespace Ev
open PySem PySem.Spec PyProof.Rows L2
variable [WW]

/-! ## list comprehensions -/
section
variable {g : Cfg} {X : Cx} {W : WX} {xa : String → Addr} {k : Nat} {ha : Addr}
theorem Ctx.blk (c : Ctx g X W xa k ha) (hcm : g.cm = true) (s : Shared) (H : Hp) (scope : Scope) (cenv : Env) (hce : cenv.code = X.env.code ∧ cenv.qual = X.env.qual) (fp : List Addr) : Ctx g (X.blk s H scope cenv fp) (fun _ _ _ _ => False) xa k ha where
  calm := c.calm
  nd := c.nd
  tk := takes0
  un := c.un
  ww := c.ww
  room := c.room
  con := c.con
  blt := c.blt
  fns := c.fns
  fnsN := c.fnsN
  hxn := c.hxn
  cls := c.cls
  k2 := c.k2
  hots := fun f d i v h => by rw [c.hxn hcm] at h; cases h
  ish := fun d i f v h => by rw [c.hxn hcm] at h; cases h
  lams := fun h f X' sm => c.lams h f X' (Same.trans (Y := X.blk s H scope cenv fp) ⟨rfl, rfl, rfl, rfl, rfl, rfl, hce.1, hce.2, id⟩ sm)
end
theorem isLocal_inv {N : List Str} {sc : Scope} {i : Nat} {e : Expr} (h : isLocal N sc i e = true) : ∃ y pos, e = .Name y pos ∧ N[i]? = some y ∧ sc.names.lookup y = some .local := by
  cases e with
  | Name y pos =>
    simp only [isLocal, Bool.and_eq_true, beq_iff_eq] at h
    refine ⟨y, pos, rfl, h.1, ?_⟩
    have z := h.2
    unfold locB at z
    split at z
    · assumption
    · cases z
  | _ => simp [isLocal] at h
theorem wipe_set (σ : Sx) (i : Nat) (x : V) : wipe ((wipe σ [i]).set i (some x)) [i] = wipe σ [i] := by
  simp [wipe]
def TPs (X : Cx) (es : List Expr) : TT := fun σ H Q => ∃ t, PTs X es t ∧ t σ H Q
theorem pts_T {X : Cx} (es : List Expr) : PTs X es (TPs X es) := ⟨fun pins s σ H Q I ⟨t, h, q⟩ => h.run pins s σ H Q I q⟩
theorem parts_set {sc : Scope} {p : Prim} {v : List Expr} {n : Nat} {q : Pos} : parts sc p (.Set v n q) = none := by
  cases p <;> rfl
theorem mt_set {N : List Str} {sc : Scope} {ce : CE} {e : Expr} (h : mt N sc ce e = true) : notSet e = true := by
  cases e with
  | Set v n q =>
    cases ce with
    | prim p es => simp [mt, parts_set] at h
    | meth p o es => cases p <;> simp [mt, mparts, meth1, meth2] at h
    | _ => simp [mt, isVar, isName] at h
  | _ => rfl
theorem mtI_set {N : List Str} {sc : Scope} {it : IT} {e : Expr} (h : mtI N sc it e = true) : notSet e = true := by
  cases it with
  | seq ce => exact mt_set (by simpa only [mtI] using h)
  | range es =>
    cases e with
    | Set v n q => simp [mtI, rangeParts] at h
    | _ => rfl
  | rev ce =>
    cases e with
    | Set v n q => simp [mtI, call1] at h
    | _ => rfl
theorem fold_ok {e : Expr} (h : notSet e = true) (env : Env) (z : Value) : foldedSetIterable e env z = pure z := by
  cases e <;> first | rfl | cases h
/-- one test, or none, in a block -/
theorem evTs_ok {g : Cfg} {X : Cx} {W : WX} {xa : String → Addr} {k : Nat} {ha : Addr} (c : Ctx g X W xa k ha) {cnd : List CE} {ifs : List Expr} (hc : ∀ x ∈ cnd, TsOk x) (hm : mts X.N X.env.scope cnd ifs = true) {σp : Lo} {σ : Sx} {H : Hp} {L : Ads} {S : Store} {Q : Bool → Hp → Prop}
    (hh : Heaps X.K H L S) (sl : SlotsH g ha X.K H L S σp σ) (hq : Post X.K xa eqB H L S (evTs g cnd σp S) Q (fun cl d H' => W cl d σ H')) : TPs X ifs σ H Q := by
  match cnd, ifs, hm with
  | [], [], _ =>
    simp only [evTs] at hq
    exact ⟨_, pts_nil, hq true H L hh .refl rfl⟩
  | [x], [e], hm =>
    simp only [mts, Bool.and_true] at hm
    simp only [evTs] at hq
    exact ⟨_, pts_one (pt_TT e), hc x (by simp) c e hm σp σ H L S Q hh sl hq⟩
  | [], _ :: _, hm => simp [mts] at hm
  | _ :: _, [], hm => simp [mts] at hm
  | [_], _ :: _ :: _, hm => simp [mts] at hm
  | _ :: _ :: _, _ :: _, hm => simp only [evTs] at hq; exact hq.elim
/-- the pieces of a comprehension's rule, and its reading -/
def LcP (X : Cx) (i : Nat) (e : Expr) (σ : Sx) (H : Hp) (Q : VK) : Prop := ∃ (x : Expr) (y : Str) (tp : Pos) (iter : Expr) (ifs : List Expr) (scope : Scope) (pos : Pos) (tt : TT) (te : TE), e = .ListComp x [⟨.Name y tp, iter, ifs, 0⟩] scope pos ∧ X.calm = true ∧ BlkOk X.N X.env.scope scope [(y, i)] ∧
  (∀ (s : Shared) (H : Hp) (C : Addr) (cl : List (Str × Addr)) (fp : List Addr), PG (X.blk s H scope (compEnvC scope cl C X.env) fp) (.Name y tp) (gName i)) ∧
  (∀ (s : Shared) (H : Hp) (C : Addr) (cl : List (Str × Addr)) (fp : List Addr), PTs (X.blk s H scope (compEnvC scope cl C X.env) fp) ifs tt) ∧
  (∀ (s : Shared) (H : Hp) (C : Addr) (cl : List (Str × Addr)) (fp : List Addr), PE (X.blk s H scope (compEnvC scope cl C X.env) fp) x te) ∧ (∀ z, foldedSetIterable iter X.env z = pure z) ∧
  tLc (TIv X (.Name y tp) iter) (gName i) tt te [i] σ H Q
theorem lc_pieces (i : Nat) {it : IT} {elt : CE} {cnd : List CE} (hit : ItOk it) (he : EvOk elt) (hc : ∀ x ∈ cnd, TsOk x) {g : Cfg} {X : Cx} {W : WX} {xa : String → Addr} {k : Nat} {ha : Addr} (c : Ctx g X W xa k ha) (e : Expr) (hm : mt X.N X.env.scope (.lc i it elt cnd) e = true) (σp : Lo) (σ : Sx) (H : Hp) (L : Ads) (S : Store) (Q : VK)
    (hh : Heaps X.K H L S) (sl : SlotsH g ha X.K H L S σp σ) (hq : Post X.K xa (RepN X.K H L S) H L S (ev g (.lc i it elt cnd) σp S) Q (fun cl d H' => W cl d σ H')) : LcP X i e σ H Q := by
  simp only [mt] at hm
  split at hm
  · rename_i x tg iter ifs as scope pos
    simp only [Bool.and_eq_true, beq_iff_eq] at hm
    obtain ⟨⟨⟨⟨⟨rfl, htg⟩, hblk⟩, hmi⟩, hme⟩, hmc⟩ := hm
    simp only [ev] at hq
    split at hq
    · rename_i hcm
      obtain ⟨y, tp, rfl, hN, hy⟩ := isLocal_inv htg
      have hna : nameAt X.N i = y := by unfold nameAt; rw [hN]; rfl
      rw [hna] at hblk
      -- the readings of the block's parts, whatever the block
      let Bk := fun (s : Shared) (H : Hp) (C : Addr) (cl : List (Str × Addr)) (fp : List Addr) => X.blk s H scope (compEnvC scope cl C X.env) fp
      let te : TE := fun σ H Q => ∀ s0 H0 C cl fp, TEv (Bk s0 H0 C cl fp) x σ H Q
      let tt : TT := fun σ H Q => ∀ s0 H0 C cl fp, TPs (Bk s0 H0 C cl fp) ifs σ H Q
      have pg : ∀ s0 H0 C cl fp, PG (Bk s0 H0 C cl fp) (.Name y tp) (gName i) := fun s0 H0 C cl fp => pg_name (X := Bk s0 H0 C cl fp) c.nd hN (.inl hy) (.inr hy)
      have pt : ∀ s0 H0 C cl fp, PTs (Bk s0 H0 C cl fp) ifs tt := fun s0 H0 C cl fp => ⟨fun pins s σ H Q I h => (pts_T ifs).run pins s σ H Q I (h s0 H0 C cl fp)⟩
      have pe : ∀ s0 H0 C cl fp, PE (Bk s0 H0 C cl fp) x te := fun s0 H0 C cl fp => ⟨fun pins s σ H Q I h => h s0 H0 C cl fp pins s I⟩
      refine ⟨x, y, tp, iter, ifs, scope, pos, tt, te, rfl, by rw [c.calm]; exact hcm, blkOk_by hblk, pg, pt, pe, fold_ok (mtI_set hmi) X.env, ?_⟩
      show TIv X _ iter σ H _
      have h0 := hit c (.Name y tp) iter hcm hmi σp σ H L S _ hh sl (Post.bind (R := RepIt X.K) hq)
      intro pins s I
      refine thn (h0 pins s I) fun v s1 h1 => thn h1 fun itv s2 h2 => ?_
      obtain ⟨ita, fp, tn, J, H1, e1, I1, T, st1, f1, xs, L1, S1, hh1, stp, rit, hp1⟩ := h2
      refine ⟨ita, fp, tn, J, H1, e1, I1, T, st1, f1, fun D hD => ?_⟩
      -- the turns
      let f := fun x S2 => ev g elt (σp.set i (some (.val x))) S2
      let cf := fun x S2 => evTs g cnd (σp.set i (some (.val x))) S2
      let LI : Nat → Hp → Prop := fun t H' => ∃ L' S' acc accV, Heaps X.K H' L' S' ∧ Keeps H1 (Live L1 S1) H' (Live L' S') ∧ (∃ r, L'.ad = L1.ad ++ r) ∧ L'.rs = D :: L1.rs ∧ H' D = some (.lst accV) ∧ Reps X.K H' (Lv L' S') acc accV ∧
        Post X.K xa (RepN X.K H L S) H1 L1 S1 (lcGo f cf (xs.drop t) acc S') Q (fun cl d H' => W cl d σ H')
      refine ⟨fun t m H' => m = xs.length - t ∧ t ≤ xs.length ∧ LI t H', ⟨xs.length, by simp, Nat.zero_le _, ?_⟩, ?_⟩
      · obtain ⟨a1, a2⟩ := hh1.hold hD (.lst []) (plain_lst _)
        exact ⟨L1.hold D, S1, [], [], a1, a2, ⟨[], by simp⟩, rfl, upd_same, rfl, hp1⟩
      · rintro t m H' ⟨rfl, htl, L', S', acc, accV, hh', kp, hpre, hrs, hDv, racc, hpost⟩
        have kpv := kp.hold hD hrs
        have sepD : ¬ Live L' S' D := hh'.sep D (by rw [hrs]; exact List.mem_cons_self)
        have slv : SlotsH g ha X.K H' L' S' σp σ := by
          refine ⟨⟨sl.1.1, fun j s ej => ?_⟩, sl.2⟩
          obtain ⟨v, ev, r⟩ := (sl.1.step stp).2 j s ej
          refine ⟨v, ev, ?_⟩
          cases s with
          | val p => exact Rep.keeps kpv p v r
          | cell n =>
            obtain ⟨a, ea, ev2⟩ := r
            obtain ⟨r', er⟩ := hpre
            refine ⟨a, ?_, ev2⟩
            rw [er]
            exact (List.getElem?_append_left (List.getElem?_eq_some_iff.mp ea).1).trans ea
        by_cases hlt : t < xs.length
        · have hx : xs[t]? = some xs[t] := List.getElem?_eq_getElem hlt
          obtain ⟨hgo, hyl⟩ := (rit H' _ kpv t).1 _ hx
          refine .inr ⟨hgo, fun H5 => t + 1 ≤ xs.length ∧ LI (t + 1) H5, fun H5 h5 => ⟨xs.length - (t + 1), by omega, rfl, h5.1, h5.2⟩, fun w H'' hy' => ?_⟩
          obtain ⟨rfl, rw'⟩ := hyl w H'' hy'
          refine ⟨wipe_set σ i w, ?_⟩
          -- the slots in the block
          have slb : ∀ {H3 L3 S3}, Step H'' L' S' H3 L3 S3 → SlotsH g ha X.K H3 L3 S3 (σp.set i (some (.val xs[t]))) ((wipe σ [i]).set i (some w)) := fun {H3 L3 S3} st3 => by
            have z := ((slv.1.unset i none).set (s := .val xs[t]) (v := w) rw' i).step st3
            rw [List.set_set] at z
            refine ⟨z, fun cc j hx' => ?_⟩
            rw [c.hxn hcm] at hx'
            cases hx'
          rw [List.drop_eq_getElem_cons hlt] at hpost
          simp only [lcGo] at hpost
          split at hpost
          · rename_i b Sb hb
            -- a state of the turn, behind a step
            have keepD : ∀ {H3 L3 S3}, Step H'' L' S' H3 L3 S3 → H3 D = some (.lst accV) := fun {H3 L3 S3} st3 => (st3.kept D _ (by intro _ h; cases h) hDv sepD).1
            have next : ∀ {H3 L3 S3 a2 v2}, Heaps X.K H3 L3 S3 → Keeps H1 (Live L1 S1) H3 (Live L3 S3) → (∃ r, L3.ad = L1.ad ++ r) → L3.rs = D :: L1.rs → H3 D = some (.lst v2) → Reps X.K H3 (Lv L3 S3) a2 v2 →
                Post X.K xa (RepN X.K H L S) H1 L1 S1 (lcGo f cf (xs.drop (t + 1)) a2 S3) Q (fun cl d H' => W cl d σ H') → t + 1 ≤ xs.length ∧ LI (t + 1) H3 := fun {H3 L3 S3 a2 v2} b1 b2 b3 b4 b5 b6 b7 => ⟨hlt, L3, S3, a2, v2, b1, b2, b3, b4, b5, b6, b7⟩
            have trans : ∀ {H3 L3 S3}, Step H'' L' S' H3 L3 S3 → Keeps H1 (Live L1 S1) H3 (Live L3 S3) ∧ (∃ r, L3.ad = L1.ad ++ r) ∧ L3.rs = D :: L1.rs := fun {H3 L3 S3} st3 => by
              refine ⟨fun a o nt ea na => ?_, ?_, by rw [st3.rs]; exact hrs⟩
              · obtain ⟨q1, q2⟩ := kp a o nt ea na
                exact st3.kept a o nt q1 q2
              · obtain ⟨r, er⟩ := hpre
                obtain ⟨r2, er2⟩ := st3.pre
                exact ⟨r ++ r2, by rw [er2, er, List.append_assoc]⟩
            intro s0 H0 C cl fp'
            refine evTs_ok (c.blk hcm s0 H0 scope (compEnvC scope cl C X.env) ⟨rfl, rfl⟩ fp') hc hmc hh' (slb .refl) ?_
            rw [show evTs g cnd (σp.set i (some (.val xs[t]))) S' = .ok b Sb from hb]
            intro b' H3 L3 hh3 st3 eb
            cases eb
            obtain ⟨t1, t2, t3⟩ := trans st3
            cases b with
            | false =>
              simp only [Bool.false_eq_true, if_false] at hpost ⊢
              exact next hh3 t1 t2 t3 (keepD st3) (Reps.keeps st3.keep acc accV racc) hpost
            | true =>
              simp only [if_true] at hpost ⊢
              split at hpost
              · rename_i hsz
                split at hpost
                · rename_i pv S4 he4
                  intro s5 H5 C5 cl5 fp5
                  refine he (c.blk hcm s5 H5 scope (compEnvC scope cl5 C5 X.env) ⟨rfl, rfl⟩ fp5) x hme (σp.set i (some (.val xs[t]))) _ H3 L3 Sb _ hh3 (slb st3) ?_
                  rw [show ev g elt (σp.set i (some (.val xs[t]))) Sb = .ok (.val pv) S4 from he4]
                  intro yv H4 L4 hh4 st4 ry
                  have st34 := st3.trans st4
                  obtain ⟨u1, u2, u3⟩ := trans st34
                  refine ⟨accV, keepD st34, by rw [← racc.length, ← lim_line]; exact hsz, ?_⟩
                  obtain ⟨g1, g2⟩ := hh4.grow u3 (.lst (accV ++ [yv])) (plain_lst _)
                  refine next g1 (fun a o nt ea na => ?_) u2 u3 upd_same (Reps.keeps g2 _ _ ((Reps.keeps st34.keep acc accV racc).snoc ry)) hpost
                  obtain ⟨q1, q2⟩ := u1 a o nt ea na
                  exact ⟨by rw [upd_ne (ne_of_none ea hD)]; exact q1, q2⟩
                · exact hpost.elim
              · exact hpost.elim
          · exact hpost.elim
        · have et : t = xs.length := by omega
          subst et
          refine .inl ⟨(rit H' _ kpv xs.length).2 (Nat.le_refl _), ?_⟩
          rw [List.drop_length] at hpost
          have hh2 : Heaps X.K H' ⟨L'.ad, L1.rs⟩ S' := ⟨hh'.len, fun a ha => hh'.res a (by rw [hrs]; exact List.mem_cons_of_mem _ ha), fun a ha => hh'.sep a (by rw [hrs]; exact List.mem_cons_of_mem _ ha), fun n cc a a1 a2 => (hh'.cell n cc a a1 a2).keeps (fun b o _ eb nb => ⟨eb, fun l => nb (by rcases l with l | l; exact .inl l; exact .inr (by rw [hrs]; exact List.mem_cons_of_mem _ l))⟩) fun _ z => z, hh'.inj, hh'.tbs⟩
          have down : Keeps H' (Lv L' S') H' (Lv ⟨L'.ad, L1.rs⟩ S') := fun b o _ eb nb => ⟨eb, fun l => nb (by rcases l with l | l; exact .inl l; exact .inr (by rw [hrs]; exact List.mem_cons_of_mem _ l))⟩
          have nrs : D ∉ L1.rs := fun l => by
            obtain ⟨o, eo, _⟩ := hh1.res D l
            rw [hD] at eo
            cases eo
          refine hpost (.ref D) H' ⟨L'.ad, L1.rs⟩ hh2 ⟨kp, hpre, rfl⟩ ⟨⟨D, accV, rfl, .inl ⟨.inl hDv, fun l => ?_⟩, Reps.keeps down acc accV racc⟩, D, .lst acc, .lst acc, rfl, rfl, rfl, fresh_old (K := X.K) stp hD, hh'.born hrs nrs hDv racc⟩
          rcases l with l | l
          · exact sepD l
          · exact nrs l
    · exact hq.elim
  · cases hm
theorem ok_lc (i : Nat) {it : IT} {elt : CE} {cnd : List CE} (hit : ItOk it) (he : EvOk elt) (hc : ∀ x ∈ cnd, TsOk x) : EvOk (.lc i it elt cnd) := by
  intro g X W xa k ha c e hm σp σ H L S Q hh sl hq
  obtain ⟨x, y, tp, iter, ifs, scope, pos, tt, te, rfl, hcm, hblk, pg, pt, pe, hf, h⟩ := lc_pieces i hit he hc c e hm σp σ H L S Q hh sl (Post.impR hq fun _ _ _ _ _ r => r.1)
  exact T_of (pe_lc (own := [(y, i)]) (g := gName i) (tt := tt) (te := te) hcm c.nd (pi_T _ iter) hblk pg pt pe hf) h
end Ev
end
section
set_option maxHeartbeats 1000000
namespace Ev
open PySem PySem.Spec PyProof.Rows L2
variable [WW]

theorem parts_plain {sc : Scope} {p : Prim} {e : Expr} {as : List Expr} (hp : parts sc p e = some as) (hn : ∀ o, p ≠ .cmp o) : plainT e = true := by
  cases p with
  | cmp o => exact absurd rfl (hn o)
  | len => obtain ⟨_, _, _, rfl, _⟩ := call1_inv hp; rfl
  | str => obtain ⟨_, _, _, rfl, _⟩ := call1_inv hp; rfl
  | int => obtain ⟨_, _, _, rfl, _⟩ := call1_inv hp; rfl
  | all => obtain ⟨_, _, _, rfl, _⟩ := call1_inv hp; rfl
  | list => obtain ⟨_, _, _, rfl, _⟩ := call1_inv hp; rfl
  | tuple => obtain ⟨_, _, _, rfl, _⟩ := call1_inv hp; rfl
  | max2 => obtain ⟨_, _, _, _, rfl, _⟩ := call2_inv hp; rfl
  | min2 => obtain ⟨_, _, _, _, rfl, _⟩ := call2_inv hp; rfl
  | count => cases hp
  | join => cases hp
  | get2 => cases hp
  | _ =>
    simp only [parts] at hp
    split at hp
    · rfl
    · cases hp
theorem ts_gen {ce : CE} (h : EvOk ce) (hf : (match ce with | .and_ _ | .or_ _ | .not_ _ | .ife _ _ _ | .cmp2 _ _ _ _ _ => false | .prim (.cmp _) _ => false | _ => true) = true) : TsOk ce := by
  refine ts_of_ev h fun N sc e hm => ?_
  cases ce with
  | var i => obtain ⟨_, _, rfl, _⟩ := isVar_inv (show isVar N sc i e = true from hm); rfl
  | gl x => obtain ⟨_, rfl, _⟩ := isName_inv (show isName sc x e = true from hm); rfl
  | int i => simp only [mt] at hm; split at hm <;> first | rfl | cases hm
  | str i => simp only [mt] at hm; split at hm <;> first | rfl | cases hm
  | bl i => simp only [mt] at hm; split at hm <;> first | rfl | cases hm
  | non => simp only [mt] at hm; split at hm <;> first | rfl | cases hm
  | prim p es =>
    simp only [mt] at hm
    split at hm
    · rename_i as hp
      refine parts_plain hp fun o z => ?_
      subst z
      cases hf
    · cases hm
  | meth p o es =>
    simp only [mt] at hm
    split at hm
    · rename_i a as hp
      cases p <;> first | (obtain ⟨_, _, _, _, rfl, _⟩ := meth1_inv hp; rfl) | (obtain ⟨_, _, _, _, _, rfl, _⟩ := meth2_inv hp; rfl) | cases hp
    · cases hm
  | sl11 a i j => simp only [mt] at hm; split at hm <;> first | rfl | cases hm
  | and_ _ => cases hf
  | or_ _ => cases hf
  | not_ _ => cases hf
  | ife _ _ _ => cases hf
  | cmp2 _ _ _ _ _ => cases hf
  | call f es => simp only [mt] at hm; split at hm <;> first | rfl | cases hm
  | lc i it elt cnd => simp only [mt] at hm; split at hm <;> first | rfl | cases hm
  | mv i => obtain ⟨_, _, rfl, _⟩ := isVar_inv (show isVar N sc i e = true from hm); rfl
  | hot f i => simp only [mt] at hm; split at hm <;> first | rfl | cases hm
  | isE i d => simp only [mt] at hm; split at hm <;> first | rfl | cases hm
  | lrep es n => simp only [mt] at hm; split at hm <;> first | rfl | cases hm
  | dlit k v => simp only [mt] at hm; split at hm <;> first | rfl | cases hm
  | mk c es => simp only [mt] at hm; split at hm <;> first | rfl | cases hm
  | lam f b => simp only [mt] at hm; split at hm <;> first | rfl | cases hm
  | fld a c f => simp only [mt] at hm; split at hm <;> first | rfl | cases hm
  | isO a c => simp only [mt] at hm; split at hm <;> first | rfl | cases hm
  | subS i a => simp only [mt] at hm; split at hm <;> first | rfl | cases hm
  | sortS i => simp only [mt] at hm; split at hm <;> first | rfl | cases hm
  | lrepN es a => simp only [mt] at hm; split at hm <;> first | rfl | cases hm
mutual
theorem all_ok : ∀ ce : CE, EvOk ce ∧ TsOk ce
  | .var i => ⟨ok_var i, ts_gen (ok_var i) rfl⟩
  | .gl x => ⟨ok_gl x, ts_gen (ok_gl x) rfl⟩
  | .int i => ⟨ok_int i, ts_gen (ok_int i) rfl⟩
  | .str i => ⟨ok_str i, ts_gen (ok_str i) rfl⟩
  | .bl i => ⟨ok_bl i, ts_gen (ok_bl i) rfl⟩
  | .non => ⟨ok_non, ts_gen ok_non rfl⟩
  | .prim p es => by
    have h : EvsOk es := (alls_ok es).1
    refine ⟨ok_prim p h, ?_⟩
    cases p with
    | cmp o => exact ts_cmp o h
    | _ => exact ts_gen (ok_prim _ h) rfl
  | .meth p o es => ⟨ok_meth p (all_ok o).1 (alls_ok es).1, ts_gen (ok_meth p (all_ok o).1 (alls_ok es).1) rfl⟩
  | .sl11 a i j => ⟨ok_sl11 (all_ok a).1 (all_ok i).1 (all_ok j).1, ts_gen (ok_sl11 (all_ok a).1 (all_ok i).1 (all_ok j).1) rfl⟩
  | .and_ es => ⟨ok_and fun x hx => ((alls_ok es).2 x hx).1, ts_and fun x hx => ((alls_ok es).2 x hx).2⟩
  | .or_ es => ⟨ok_or fun x hx => ((alls_ok es).2 x hx).1, ts_or fun x hx => ((alls_ok es).2 x hx).2⟩
  | .not_ a => ⟨ok_not (all_ok a).1, ts_not (all_ok a).2⟩
  | .ife t a b => ⟨ok_ife (all_ok t).2 (all_ok a).1 (all_ok b).1, ts_ife (all_ok t).2 (all_ok a).2 (all_ok b).2⟩
  | .cmp2 o o' a b d => ⟨ok_cmp2 (all_ok a).1 (all_ok b).1 (all_ok d).1, ts_cmp2 (all_ok a).1 (all_ok b).1 (all_ok d).1⟩
  | .call f es => ⟨ok_call f (alls_ok es).1, ts_gen (ok_call f (alls_ok es).1) rfl⟩
  | .lam f b => ⟨ok_lam f (all_ok b).1, ts_gen (ok_lam f (all_ok b).1) rfl⟩
  | .lc i it elt cnd => ⟨ok_lc i (allI_ok it) (all_ok elt).1 fun x hx => ((alls_ok cnd).2 x hx).2, ts_gen (ok_lc i (allI_ok it) (all_ok elt).1 fun x hx => ((alls_ok cnd).2 x hx).2) rfl⟩
  | .mv i => ⟨ok_mv i, ts_gen (ok_mv i) rfl⟩
  | .hot f i => ⟨ok_hot f i, ts_gen (ok_hot f i) rfl⟩
  | .isE i d => ⟨ok_isE i d, ts_gen (ok_isE i d) rfl⟩
  | .lrep es n => ⟨ok_lrep n (alls_ok es).1, ts_gen (ok_lrep n (alls_ok es).1) rfl⟩
  | .dlit a b => ⟨ok_dlit (all_ok a).1 (all_ok b).1, ts_gen (ok_dlit (all_ok a).1 (all_ok b).1) rfl⟩
  | .mk c es => ⟨ok_mk c (alls_ok es).1, ts_gen (ok_mk c (alls_ok es).1) rfl⟩
  | .fld a c f => ⟨ok_fld c f (all_ok a).1, ts_gen (ok_fld c f (all_ok a).1) rfl⟩
  | .isO a c => ⟨ok_isO c (all_ok a).1, ts_gen (ok_isO c (all_ok a).1) rfl⟩
  | .subS i a => ⟨ok_subS i (all_ok a).1, ts_gen (ok_subS i (all_ok a).1) rfl⟩
  | .sortS i => ⟨ok_sortS i, ts_gen (ok_sortS i) rfl⟩
  | .lrepN es a => ⟨ok_lrepN (alls_ok es).1 (all_ok a).1, ts_gen (ok_lrepN (alls_ok es).1 (all_ok a).1) rfl⟩
theorem alls_ok : ∀ es : List CE, EvsOk es ∧ ∀ x ∈ es, EvOk x ∧ TsOk x
  | [] => ⟨evs_nil, fun x hx => by cases hx⟩
  | e :: es => by
    have h1 := all_ok e
    have h2 := alls_ok es
    refine ⟨evs_cons h1.1 h2.1, fun x hx => ?_⟩
    rcases List.mem_cons.mp hx with rfl | hx
    · exact h1
    · exact h2.2 x hx
theorem allI_ok : ∀ it : IT, ItOk it
  | .seq e => it_seq (all_ok e).1
  | .range es => it_range (alls_ok es).1
  | .rev e => it_rev (all_ok e).1
end
end Ev
end
section
set_option maxHeartbeats 1000000
namespace Ev
open PySem PySem.Spec PyProof.Rows L2
variable [WW]

/-! ## statements -/
def PostS (g : Cfg) (ha : Addr) (K : PySem.W.Frag) (xa : String → Addr) (H : Hp) (L : Ads) (S : Store) (o : SO) (D : Ends) (W : WX) : Prop := match o with
  | .next σp S' => ∀ σ' H' L', Heaps K H' L' S' → Step H L S H' L' S' → SlotsH g ha K H' L' S' σp σ' → D.nx σ' H'
  | .cont σp S' => ∀ σ' H' L', Heaps K H' L' S' → Step H L S H' L' S' → SlotsH g ha K H' L' S' σp σ' → D.ct σ' H'
  | .brk σp S' => ∀ σ' H' L', Heaps K H' L' S' → Step H L S H' L' S' → SlotsH g ha K H' L' S' σp σ' → D.bk σ' H'
  | .ret v S' => ∀ u H' L', Heaps K H' L' S' → Step H L S H' L' S' → Rep K H' (Lv L' S') v u → (g.nw = true → NewL K H L S H' L' S' v u) → D.rt u H'
  | .err e σp S' => ∀ d σ' H' L', Heaps K H' L' S' → Step H L S H' L' S' → SlotsH g ha K H' L' S' σp σ' → XPay e.pay d → W (.ref (xa e.cls)) d σ' H'
  | .stuck => False
section
variable {g : Cfg} {ha : Addr} {K : PySem.W.Frag} {xa : String → Addr} {H H' : Hp} {L L' : Ads} {S S' : Store} {D : Ends} {W : WX}
theorem PostS.step {o : SO} (h : PostS g ha K xa H L S o D W) (st : Step H L S H' L' S') : PostS g ha K xa H' L' S' o D W := by
  cases o with
  | next σ S1 => exact fun σ' H1 L1 a b c => h σ' H1 L1 a (st.trans b) c
  | cont σ S1 => exact fun σ' H1 L1 a b c => h σ' H1 L1 a (st.trans b) c
  | brk σ S1 => exact fun σ' H1 L1 a b c => h σ' H1 L1 a (st.trans b) c
  | ret v S1 => exact fun u H1 L1 a b c d => h u H1 L1 a (st.trans b) c fun z => (d z).step st
  | err e σ S1 => exact fun d σ' H1 L1 a b c => h d σ' H1 L1 a (st.trans b) c
  | stuck => exact h
/-- an expression, then a statement's rest -/
theorem PostS.thn {α β : Type} {R : Hp → Ads → Store → α → β → Prop} {o : Out α} {σp : Lo} {σ : Sx} {f : α → Store → SO} (h : PostS g ha K xa H L S (o.thn σp f) D W) (sl : SlotsH g ha K H L S σp σ) :
    Post K xa R H L S o (fun b H1 => ∃ a L1 S1, Heaps K H1 L1 S1 ∧ Step H L S H1 L1 S1 ∧ R H1 L1 S1 a b ∧ PostS g ha K xa H1 L1 S1 (f a S1) D W) (fun cl d H' => W cl d σ H') := by
  cases o with
  | ok a S1 => exact fun b H1 L1 hh st r => ⟨a, L1, S1, hh, st, r, PostS.step h st⟩
  | err e S1 => exact fun d H1 L1 hh st r => h d σ H1 L1 hh st (sl.step st) r
  | stuck => exact h
theorem PostS.thn0 {α β : Type} {R : Hp → Ads → Store → α → β → Prop} {o : Out α} {σp : Lo} {σ : Sx} {f : α → Store → SO} (h : PostS g ha K xa H L S (o.thn σp f) D W) (sl : SlotsH g ha K H L S σp σ) :
    Post K xa R H L S o (fun b H1 => ∃ a L1 S1, Heaps K H1 L1 S1 ∧ Step H L S H1 L1 S1 ∧ R H1 L1 S1 a b ∧ PostS g ha K xa H L S (f a S1) D W) (fun cl d H' => W cl d σ H') := by
  cases o with
  | ok a S1 => exact fun b H1 L1 hh st r => ⟨a, L1, S1, hh, st, r, h⟩
  | err e S1 => exact fun d H1 L1 hh st r => h d σ H1 L1 hh st (sl.step st) r
  | stuck => exact h
theorem PostS.imp {o : SO} {D2 : Ends} {W2 : WX} (h : PostS g ha K xa H L S o D W) (h1 : ∀ σ H, D.nx σ H → D2.nx σ H) (h2 : ∀ σ H, D.ct σ H → D2.ct σ H) (h3 : ∀ σ H, D.bk σ H → D2.bk σ H) (h4 : ∀ u H, D.rt u H → D2.rt u H) (h5 : ∀ c d σ H, W c d σ H → W2 c d σ H) : PostS g ha K xa H L S o D2 W2 := by
  cases o with
  | next σ S1 => exact fun σ' H1 L1 a b c => h1 _ _ (h σ' H1 L1 a b c)
  | cont σ S1 => exact fun σ' H1 L1 a b c => h2 _ _ (h σ' H1 L1 a b c)
  | brk σ S1 => exact fun σ' H1 L1 a b c => h3 _ _ (h σ' H1 L1 a b c)
  | ret v S1 => exact fun u H1 L1 a b c d => h4 _ _ (h u H1 L1 a b c d)
  | err e σ S1 => exact fun d σ' H1 L1 a b c e2 => h5 _ _ _ _ (h d σ' H1 L1 a b c e2)
  | stuck => exact h
end
def TSv (X : Cx) (st : Stmt) : TS := fun D σ H => ∀ pins s, Inv X pins σ H s → wpAny (model X.prog X.w) X.A (exec st X.env) (SP X pins D) X.xe s
def TSsv (X : Cx) (st : List Stmt) : TS := fun D σ H => ∀ pins s, Inv X pins σ H s → wpAny (model X.prog X.w) X.A (execs st X.env) (SP X pins D) X.xe s
theorem ps_T {X : Cx} (st : Stmt) : PS X st (TSv X st) := ⟨fun pins s σ H D I h => h pins s I⟩
theorem pss_T {X : Cx} (st : List Stmt) : PSs X st (TSsv X st) := ⟨fun pins s σ H D I h => h pins s I⟩
theorem TS_of {X : Cx} {st : Stmt} {t : TS} {σ : Sx} {H : Hp} {D : Ends} (h : PS X st t) (ht : t D σ H) : TSv X st D σ H := fun pins s I => h.run pins s σ H D I ht
theorem TSs_of {X : Cx} {st : List Stmt} {t : TS} {σ : Sx} {H : Hp} {D : Ends} (h : PSs X st t) (ht : t D σ H) : TSsv X st D σ H := fun pins s I => h.run pins s σ H D I ht
/-- what statements want of the context besides -/
structure SCtx (g : Cfg) (X : Cx) (xa : String → Addr) : Prop where
  pass : g.cm = true → PassesOwn (model X.prog X.w) X.A X.env X.xe
  fn : ∀ x, X.fn x = true
  stk : X.stack = X.env :: X.outer
  fr : X.env.frame = some X.env.locals
  kind : X.env.scope.kind = .function
  exc : ∀ c, g.xc c = true → X.mg (S' c) = some (.ref (xa c)) ∧ PySem.W.excIn X.K (xa c) [.type "ValueError", .type "Exception", .type "BaseException", .type "object"] "ValueError.__new__" = true ∧ PySem.W.keepIn X.K (.ref (xa c)) = true ∧ Raises X (.ref (xa c))
  hnd : ∀ c, g.xh c = true → X.mg (S' c) = some (.ref (xa c))
  exm : ∀ c d, g.xc c = true → g.xh d = true → PySem.W.exmOne X.K (.ref (xa c)) (.ref (xa d)) = some (g.sub c d)
  hot : ∀ (pn0 : List (Addr × Obj)) (xe : Value → Shared → Prop) f c v, g.hv f c = some v → g.xc c = true → ∀ (a : Addr) (oe : Obj) (pn : List (Addr × Obj)), Zc (.ref (xa c)) none oe → (∃ vs, oe.data = .fields vs) → HotE ((X.tr pn0 xe).suite a ((a, oe) :: pn)) f a v
  ish : ∀ (pn0 : List (Addr × Obj)) (xe : Value → Shared → Prop) c d b, g.isx c d = some b → g.xc c = true → ∀ (a : Addr) (oe : Obj) (pn : List (Addr × Obj)), Zc (.ref (xa c)) none oe → (∃ vs, oe.data = .fields vs) → IsE ((X.tr pn0 xe).suite a ((a, oe) :: pn)) d a b
def StOk (cs : CS) : Prop := ∀ {g : Cfg} {X : Cx} {W : WX} {xa : String → Addr} {k : Nat} {ha : Addr} (c : Ctx g X W xa k ha) (c2 : SCtx g X xa) (st : Stmt), mtS X.N X.env.scope cs st = true → ∀ (σp : Lo) (σ : Sx) (H : Hp) (L : Ads) (S : Store) (D : Ends),
  Heaps X.K H L S → SlotsH g ha X.K H L S σp σ → PostS g ha X.K xa H L S (ex g cs σp S) D W → TSv X st D σ H
def StsOk (cs : List CS) : Prop := ∀ {g : Cfg} {X : Cx} {W : WX} {xa : String → Addr} {k : Nat} {ha : Addr} (c : Ctx g X W xa k ha) (c2 : SCtx g X xa) (st : List Stmt), mtSs X.N X.env.scope cs st = true → ∀ (σp : Lo) (σ : Sx) (H : Hp) (L : Ads) (S : Store) (D : Ends),
  Heaps X.K H L S → SlotsH g ha X.K H L S σp σ → PostS g ha X.K xa H L S (exs g cs σp S) D W → TSsv X st D σ H
theorem sts_nil : StsOk [] := by
  intro g X W xa k ha c c2 st hm σp σ H L S D hh sl hq
  cases st with
  | nil =>
    simp only [exs] at hq
    exact TSs_of pss_nil (hq σ H L hh .refl sl)
  | cons a r => simp [mtSs] at hm
theorem sts_cons {cs : CS} {r : List CS} (h1 : StOk cs) (h2 : StsOk r) : StsOk (cs :: r) := by
  intro g X W xa k ha c c2 st hm σp σ H L S D hh sl hq
  cases st with
  | nil => simp [mtSs] at hm
  | cons a t =>
    simp only [mtSs, Bool.and_eq_true] at hm
    simp only [exs] at hq
    refine TSs_of (pss_cons (ps_T a) (pss_T t)) (h1 c c2 a hm.1 σp σ H L S { D with nx := fun σ' H' => TSsv X t D σ' H' } hh sl ?_)
    cases ho : ex g cs σp S with
    | next σ1 S1 =>
      rw [ho] at hq
      exact fun σ' H1 L1 a1 a2 a3 => h2 c c2 t hm.2 σ1 σ' H1 L1 S1 D a1 a3 (PostS.step hq a2)
    | cont σ1 S1 => rw [ho] at hq; exact hq
    | brk σ1 S1 => rw [ho] at hq; exact hq
    | ret v S1 => rw [ho] at hq; exact hq
    | err e σ1 S1 => rw [ho] at hq; exact hq
    | stuck => rw [ho] at hq; exact hq
theorem isTgt_inv {N : List Str} {sc : Scope} {i : Nat} {e : Expr} (h : isTgt N sc i e = true) : ∃ y pos, e = .Name y pos ∧ N[i]? = some y ∧ Loc sc y := by
  cases e with
  | Name y pos =>
    simp only [isTgt, Bool.and_eq_true, Bool.or_eq_true, beq_iff_eq] at h
    refine ⟨y, pos, rfl, h.1, ?_⟩
    rcases h.2 with z | z
    · unfold locB at z
      split at z
      · exact .inl (by assumption)
      · cases z
    · unfold cellB at z
      split at z
      · exact .inr (by assumption)
      · cases z
  | _ => simp [isTgt] at h
theorem swaps_no {e : Expr} (h : isComp e = false) (t : Option Expr) (l : Nat) (env : Env) : swapsWith e t l env = pure false := by
  cases e <;> first | rfl | cases h
theorem SlotsH.set {g : Cfg} {ha : Addr} {K : PySem.W.Frag} {H : Hp} {L : Ads} {S : Store} {σp : Lo} {σ : Sx} (h : SlotsH g ha K H L S σp σ) (i : Nat) (hx : g.hx.any (fun c => c.2 == i) = false) {s : Sl} {v : V} (r : RepS K H L S s v) : SlotsH g ha K H L S (σp.set i (some s)) (σ.set i (some v)) :=
  ⟨h.1.set r i, fun c j z => by
    rw [z] at hx
    have hj : i ≠ j := fun e => by simp [e] at hx
    rw [List.getElem?_set_ne hj]
    exact h.2 c j z⟩
theorem hx_none {g : Cfg} (h : ¬ g.hx.isSome = true) : g.hx = none := by
  cases q : g.hx with
  | none => rfl
  | some x => rw [q] at h; exact absurd rfl h
theorem parts_comp {sc : Scope} {p : Prim} {e : Expr} (h : isComp e = true) : parts sc p e = none := by
  cases e <;> first | (cases p <;> rfl) | cases h
theorem mparts_comp {p : Prim} {e : Expr} (h : isComp e = true) : mparts p e = none := by
  cases e <;> first | (cases p <;> rfl) | cases h
theorem comp_lc {N : List Str} {sc : Scope} {ce : CE} {e : Expr} (h : isComp e = true) (hm : mt N sc ce e = true) : ∃ i it elt cnd, ce = .lc i it elt cnd := by
  cases ce with
  | lc i it elt cnd => exact ⟨i, it, elt, cnd, rfl⟩
  | prim p es => simp [mt, parts_comp h] at hm
  | meth p o es => simp [mt, mparts_comp h] at hm
  | _ => cases e <;> simp [isComp] at h <;> simp [mt, isVar, isName] at hm
/-- name = e, whatever e is -/
theorem asg_T {g : Cfg} {X : Cx} {W : WX} {xa : String → Addr} {k : Nat} {ha : Addr} (c : Ctx g X W xa k ha) (c2 : SCtx g X xa) {ce : CE} {t v : Expr} {pos : Pos} {i : Nat} (ht : isTgt X.N X.env.scope i t = true) (hm : mt X.N X.env.scope ce v = true) {σ : Sx} {H : Hp} {D : Ends}
    (hE : isComp v = false → TEv X v σ H (fun x H1 => D.nx (σ.set i (some x)) H1)) (hL : ∀ j it elt cnd, ce = .lc j it elt cnd → LcP X j v σ H (fun x H1 => D.nx (σ.set i (some x)) H1)) : TSv X (.Assign [t] v pos) D σ H := by
  obtain ⟨y, tp, rfl, hN, hloc⟩ := isTgt_inv ht
  have fn : X.fn y = true ∨ X.env.scope.names.lookup y = some .local := .inl (c2.fn y)
  cases hcomp : isComp v with
  | false => exact TS_of (ps_set c.nd hN hloc (pe_T v) (swaps_no hcomp _ _ _) fn) (hE hcomp)
  | true =>
    cases ce with
    | lc j it elt cnd =>
      obtain ⟨x, y', tp', iter, ifs, scope, pos', tt, te, rfl, hcm, hblk, pg, pt, pe, hf, h⟩ := hL j it elt cnd rfl
      have hbk : X.env.blockKind = .function := by unfold Env.blockKind; rw [c2.kind]; rfl
      cases hb : (X.env.blockKind == .function && X.env.kindOf y == some .local && tp.line == pos'.line && !(scope.names.any fun (n, k) => n == y && (k == .local || k == .cell))) with
      | true =>
        have hsw : swapsWith (.ListComp x [⟨.Name y' tp', iter, ifs, 0⟩] scope pos') (some (.Name y tp)) pos.line X.env = pure true := by rw [← hb]; rfl
        simp only [Bool.and_eq_true, beq_iff_eq] at hb
        exact TS_of (ps_setLc (own := [(y', j)]) (g := gName j) (tt := tt) (te := te) hcm c.nd hN hb.1.1.2 hsw (pi_T _ iter) hblk pg pt pe hf) h
      | false =>
        have hsw : swapsWith (.ListComp x [⟨.Name y' tp', iter, ifs, 0⟩] scope pos') (some (.Name y tp)) pos.line X.env = pure false := by rw [← hb]; rfl
        exact TS_of (ps_set c.nd hN hloc (pe_lc (own := [(y', j)]) (g := gName j) (tt := tt) (te := te) hcm c.nd (pi_T _ iter) hblk pg pt pe hf) hsw fn) h
    | _ =>
      exfalso
      obtain ⟨_, _, _, _, z⟩ := comp_lc hcomp hm
      cases z
theorem st_asg (i : Nat) (e : CE) : StOk (.asg i e) := by
  intro g X W xa k ha c c2 st hm σp σ H L S D hh sl hq
  simp only [mtS] at hm
  split at hm
  · rename_i t v pos
    rw [Bool.and_eq_true] at hm
    simp only [ex] at hq
    split at hq
    · exact hq.elim
    · rename_i hx
      have hp : Post X.K xa (RepS X.K) H L S (ev g e σp S) (fun x H1 => D.nx (σ.set i (some x)) H1) (fun cl d H' => W cl d σ H') := Post.imp (PostS.thn (R := RepS X.K) hq sl) (fun x H1 z => by
        obtain ⟨s, L1, S1, hh1, st, r, hp⟩ := z
        exact hp _ H1 L1 hh1 .refl ((sl.step st).set i (by simpa using hx) r)) fun _ _ _ z => z
      refine asg_T c c2 hm.1 hm.2 (fun _ => (all_ok e).1 c v hm.2 σp σ H L S _ hh sl hp) fun j it elt cnd he => ?_
      subst he
      exact lc_pieces j (allI_ok it) (all_ok elt).1 (fun x hx => ((alls_ok cnd).2 x hx).2) c v hm.2 σp σ H L S _ hh sl (Post.impR hp fun _ _ _ _ _ r => r.1)
  · cases hm
theorem SlotsH.cell {g : Cfg} {ha : Addr} {K : PySem.W.Frag} {H0 H : Hp} {L0 L : Ads} {S0 S : Store} {σp : Lo} {σ : Sx} (h : SlotsH g ha K H0 L0 S0 σp σ) (st : Step H0 L0 S0 H L S) (hx : g.hx = none) (hl : L.ad.length = S.length) {a : Addr} {c : Cell} (fr : ∀ o, NT o → H0 a = some o → Live L0 S0 a) (i : Nat) :
    Step H0 L0 S0 H ⟨L.ad ++ [a], L.rs⟩ (S ++ [some c]) ∧ SlotsH g ha K H ⟨L.ad ++ [a], L.rs⟩ (S ++ [some c]) (σp.set i (some (.cell S.length))) (σ.set i (some (.ref a))) := by
  have st2 : Step H0 L0 S0 H ⟨L.ad ++ [a], L.rs⟩ (S ++ [some c]) := by
    refine ⟨fun b o nt e n => ?_, ?_, st.rs⟩
    · obtain ⟨q1, q2⟩ := st.kept b o nt e n
      refine ⟨q1, fun l => ?_⟩
      rcases (live_snoc hl).mp l with z | z
      · exact q2 z
      · subst z; exact n (fr o nt e)
    · obtain ⟨t, e⟩ := st.pre
      exact ⟨t ++ [a], by show L.ad ++ [a] = _; rw [e, List.append_assoc]⟩
  refine ⟨st2, (h.step st2).set i (by rw [hx]; rfl) ⟨a, ?_, rfl⟩⟩
  show (L.ad ++ [a])[S.length]? = some a
  rw [← hl, List.getElem?_append_right (Nat.le_refl _), Nat.sub_self]
  rfl
theorem lo_post {K : PySem.W.Frag} {xa : String → Addr} {R : Hp → Ads → Store → Sl → V → Prop} {H : Hp} {L : Ads} {S : Store} {o : Out Sl} {Q : VK} {E : XK} (h : Post K xa R H L S (lstOnly o) Q E) : Post K xa R H L S o Q E := by
  cases o with
  | ok a S1 =>
    cases a with
    | val v => cases v <;> first | exact h | exact h.elim
    | cell n => exact h.elim
  | err e S1 => exact h
  | stuck => exact h
theorem lo_bind {α : Type} {o : Out α} {f : α → Store → Out Sl} : lstOnly (o.bind f) = o.bind fun a S => lstOnly (f a S) := by cases o <;> rfl
theorem new_E {g : Cfg} {X : Cx} {W : WX} {xa : String → Addr} {k : Nat} {ha : Addr} (c : Ctx g X W xa k ha) {e : CE} {v : Expr} (hcomp : isComp v = false) (hm : mt X.N X.env.scope e v = true) {σp : Lo} {σ : Sx} {H : Hp} {L : Ads} {S : Store} {Q : VK}
    (hh : Heaps X.K H L S) (sl : SlotsH g ha X.K H L S σp σ) (hq : Post X.K xa (RepN X.K H L S) H L S (evN g e σp S) Q (fun cl d H' => W cl d σ H')) : TEv X v σ H Q := by
  cases e with
  | lc j it elt cnd => simp only [mt] at hm; split at hm <;> first | cases hcomp | cases hm
  | call f es =>
    simp only [mt] at hm
    split at hm
    · rw [Bool.and_eq_true] at hm
      obtain ⟨p1, rfl, g1, pl1⟩ := isName_inv hm.1
      simp only [evN] at hq
      split at hq
      · rename_i hc
        rw [Bool.and_eq_true] at hc
        refine call_T true c hc.1 (c.fnsN f hc.2) g1 pl1 (mts_star hm.2) (tAs_imp ((alls_ok es).1 c _ hm.2 σp σ H L S _ hh sl (Post.bind (R := RepSs X.K) hq)) fun vs H1 z => ?_)
        obtain ⟨sls, L1, S1, hh1, st, rs, hp1⟩ := z
        refine ⟨sls, L1, S1, hh1, rs, Post.imp (Post.bind (R := RetB true X.K H1 L1 S1) (lo_post hp1)) (fun v H2 z2 => ?_) fun _ _ _ z => z⟩
        obtain ⟨pv, L2, S2, hh2, st2, r2, hp2⟩ := z2
        obtain ⟨a, cc, ec, rfl, o3, h4⟩ := r2.2 rfl
        exact hp2 _ H2 L2 hh2 .refl ⟨r2.1, a, pv, cc, rfl, ec, rfl, old_step st o3, h4⟩
      · exact hq.elim
    · cases hm
  | prim p es =>
    cases p with
    | lst =>
      simp only [mt] at hm
      split at hm
      · rename_i as hp
        have hq : Post X.K xa (RepN X.K H L S) H L S (lstOnly (ev g (.prim .lst es) σp S)) Q (fun cl d H' => W cl d σ H') := hq
        have hq := lo_post hq
        simp only [ev] at hq
        rw [if_neg (by simp [calmP])] at hq
        refine prim_T c .lst (by simp [calmP]) hp (mts_star hm) (tAs_imp ((alls_ok es).1 c as hm σp σ H L S _ hh sl (Post.bind (R := RepSs X.K) hq)) fun vs H1 z => ?_)
        obtain ⟨s, L1, S1, hh1, st, rs, hp1⟩ := z
        unfold primGo at hp1
        simp only [borrows, Bool.false_eq_true, if_false] at hp1
        split at hp1
        · rename_i pvs hv
          have rv := vals_rep rs hv
          simp only [primP] at hp1
          split at hp1
          · rename_i w hw
            obtain ⟨hl, rfl⟩ := if_inv hw
            refine ⟨by rw [← rv.length, ← lim_line]; exact hl, fun p n => ?_⟩
            obtain ⟨h1, h2⟩ := hh1.laid (o := .lst vs) n
            obtain ⟨q1, q2⟩ := hh1.hold n (.lst vs) (plain_lst _)
            have np : p ∉ L1.rs := fun l => by
              obtain ⟨o, eo, _⟩ := hh1.res p l
              rw [n] at eo
              cases eo
            have npl : ¬ Lv L1 S1 p := fun l => by
              obtain ⟨o, eo⟩ := hh1.lv l
              rw [n] at eo
              cases eo
            refine hp1 (.ref p) _ L1 h1 h2 ⟨⟨p, vs, rfl, .inl ⟨.inl upd_same, npl⟩, Reps.keeps h2.keep pvs vs rv⟩, p, .lst pvs, .lst pvs, rfl, rfl, rfl, fresh_old (K := X.K) st n, ?_⟩
            exact Heaps.born (L := L1.hold p) q1 rfl np upd_same (Reps.keeps (q2.hold n rfl) pvs vs rv)
          · exact hp1.elim
        · exact hp1.elim
      · cases hm
    | bin o =>
      cases o with
      | add =>
        simp only [mt] at hm
        split at hm
        · rename_i as hp
          have hq : Post X.K xa (RepN X.K H L S) H L S (lstOnly (ev g (.prim (.bin .add) es) σp S)) Q (fun cl d H' => W cl d σ H') := hq
          simp only [ev] at hq
          rw [if_neg (by simp [calmP]), lo_bind] at hq
          refine prim_T c (.bin .add) (by simp [calmP]) hp (mts_star hm) (tAs_imp ((alls_ok es).1 c as hm σp σ H L S _ hh sl (Post.bind (R := RepSs X.K) hq)) fun vs H1 z => ?_)
          obtain ⟨s, L1, S1, hh1, st, rs, hp1⟩ := z
          unfold primGo at hp1
          simp only [borrows, Bool.false_eq_true, if_false] at hp1
          split at hp1
          · rename_i pvs hv
            have rv := vals_rep rs hv
            split at hp1
            · rename_i w hw
              obtain ⟨a, b, rfl, e2⟩ := on2_inv hw
              obtain ⟨x, y, rfl, r1, r2⟩ := two_inv' rv
              cases a with
              | lst xs =>
                cases b with
                | lst ys =>
                  obtain ⟨hl, rfl⟩ := if_inv e2
                  obtain ⟨la, va, rfl, l1, q1⟩ := r1
                  obtain ⟨lb, vb, rfl, l2, q2⟩ := r2
                  refine ⟨_, _, rfl, .inr (.inr (.inl ⟨la, lb, va, vb, rfl, rfl, l1.sq, l2.sq, by rw [← q1.length, ← q2.length, ← lim_line]; exact hl, fun p n => ?_⟩))⟩
                  have rvs := Reps.append q1 q2
                  obtain ⟨h1, h2⟩ := hh1.laid (o := .lst (va ++ vb)) n
                  obtain ⟨z1, z2⟩ := hh1.hold n (.lst (va ++ vb)) (plain_lst _)
                  have np : p ∉ L1.rs := fun l => by
                    obtain ⟨o, eo, _⟩ := hh1.res p l
                    rw [n] at eo
                    cases eo
                  have npl : ¬ Lv L1 S1 p := fun l => by
                    obtain ⟨o, eo⟩ := hh1.lv l
                    rw [n] at eo
                    cases eo
                  refine hp1 (.ref p) _ L1 h1 h2 ⟨⟨p, va ++ vb, rfl, .inl ⟨.inl upd_same, npl⟩, Reps.keeps h2.keep _ _ rvs⟩, p, .lst (xs ++ ys), .lst (xs ++ ys), rfl, rfl, rfl, fresh_old (K := X.K) st n, ?_⟩
                  exact Heaps.born (L := L1.hold p) z1 rfl np upd_same (Reps.keeps (z2.hold n rfl) _ _ rvs)
                | _ => cases e2
              | int i => cases b <;> first | (cases e2; exact hp1.elim) | cases e2
              | str i =>
                cases b with
                | str j => obtain ⟨hl, rfl⟩ := if_inv e2; exact hp1.elim
                | _ => cases e2
              | tup i =>
                cases b with
                | tup j => obtain ⟨hl, rfl⟩ := if_inv e2; exact hp1.elim
                | _ => cases e2
              | _ => cases e2
            · exact hp1.elim
          · exact hp1.elim
        · cases hm
      | _ => exact hq.elim
    | dict0 =>
      simp only [mt] at hm
      split at hm
      · rename_i as hp
        have hq : Post X.K xa (RepN X.K H L S) H L S (lstOnly (ev g (.prim .dict0 es) σp S)) Q (fun cl d H' => W cl d σ H') := hq
        have hq := lo_post hq
        simp only [ev] at hq
        rw [if_neg (by simp [calmP])] at hq
        refine prim_T c .dict0 (by simp [calmP]) hp (mts_star hm) (tAs_imp ((alls_ok es).1 c as hm σp σ H L S _ hh sl (Post.bind (R := RepSs X.K) hq)) fun vs H1 z => ?_)
        obtain ⟨s, L1, S1, hh1, st, rs, hp1⟩ := z
        unfold primGo at hp1
        simp only [borrows, Bool.false_eq_true, if_false] at hp1
        split at hp1
        · rename_i pvs hv
          have rv := vals_rep rs hv
          simp only [primP] at hp1
          split at hp1
          · rename_i w hw
            match pvs, hw, rv with
            | [], hw, rv =>
              cases hw
              cases rv
              refine ⟨rfl, fun p n => ?_⟩
              rw [c.ww]
              obtain ⟨h1, h2⟩ := hh1.laid (o := DctO WW.w p []) n
              obtain ⟨q1, q2⟩ := hh1.hold n (DctO WW.w p []) (plain_dct _ _ _)
              have np : p ∉ L1.rs := fun l => by
                obtain ⟨o, eo, _⟩ := hh1.res p l
                rw [n] at eo
                cases eo
              have npl : ¬ Lv L1 S1 p := fun l => by
                obtain ⟨o, eo⟩ := hh1.lv l
                rw [n] at eo
                cases eo
              have kof : KeysOf [] [] := ⟨rfl, fun e he => by cases he⟩
              refine hp1 (.ref p) _ L1 h1 h2 ⟨⟨p, [], rfl, ⟨upd_same, npl⟩, kof, rfl, rfl⟩, p, .dct [] [], .dct [] [], rfl, rfl, rfl, fresh_old (K := X.K) st n, ?_⟩
              exact Heaps.bornC (L := L1.hold p) q1 rfl np ⟨[], upd_same, kof, rfl, rfl⟩
          · exact hp1.elim
        · exact hp1.elim
      · cases hm
    | _ => exact hq.elim
  | dlit a b =>
    have hq : Post X.K xa (RepN X.K H L S) H L S (lstOnly (ev g (.dlit a b) σp S)) Q (fun cl d H' => W cl d σ H') := hq
    exact dlit_N (all_ok a).1 (all_ok b).1 c v hm σp σ H L S Q hh sl (lo_post hq)
  | _ => exact hq.elim
theorem st_new (i : Nat) (e : CE) : StOk (.new i e) := by
  intro g X W xa k ha c c2 st hm σp σ H L S D hh sl hq
  simp only [mtS] at hm
  split at hm
  · rename_i t v pos
    rw [Bool.and_eq_true] at hm
    simp only [ex] at hq
    split at hq
    · exact hq.elim
    · rename_i hx
      have hxn : g.hx = none := hx_none hx
      have hp : Post X.K xa (RepN X.K H L S) H L S (evN g e σp S) (fun x H1 => D.nx (σ.set i (some x)) H1) (fun cl d H' => W cl d σ H') := Post.imp (PostS.thn0 (R := fun H1 L1 S1 s x => RepN X.K H L S H1 L1 S1 s x) hq sl) (fun x H1 z => by
        obtain ⟨s, L1, S1, hh1, st, r, hp⟩ := z
        obtain ⟨r0, a, pv, cc, rfl, ec, rfl, fr, hb⟩ := r
        obtain ⟨st2, sl2⟩ := sl.cell st hxn hh1.len fr i (c := cc)
        simp only [ec] at hp
        exact hp _ H1 ⟨L1.ad ++ [a], L1.rs⟩ hb st2 sl2) fun _ _ _ z => z
      refine asg_T c c2 hm.1 hm.2 (fun hcomp => ?_) fun j it elt cnd he => ?_
      · exact new_E c hcomp hm.2 hh sl hp
      · subst he
        exact lc_pieces j (allI_ok it) (all_ok elt).1 (fun x hx => ((alls_ok cnd).2 x hx).2) c v hm.2 σp σ H L S _ hh sl (lo_post hp)
  · cases hm
theorem st_expr (e : CE) : StOk (.expr e) := by
  intro g X W xa k ha c c2 st hm σp σ H L S D hh sl hq
  simp only [mtS] at hm
  split at hm
  · rw [Bool.and_eq_true, Bool.not_eq_true'] at hm
    simp only [ex] at hq
    refine TS_of (ps_expr (pe_T _) (swaps_no hm.2 _ _ _)) ((all_ok e).1 c _ hm.1 σp σ H L S _ hh sl (Post.imp (PostS.thn (R := RepS X.K) hq sl) (fun x H1 z => ?_) fun _ _ _ z => z))
    obtain ⟨s, L1, S1, hh1, st, r, hp⟩ := z
    exact hp _ H1 L1 hh1 .refl (sl.step st)
  · cases hm
theorem st_ret (e : CE) : StOk (.ret e) := by
  intro g X W xa k ha c c2 st hm σp σ H L S D hh sl hq
  simp only [mtS] at hm
  split at hm
  · rename_i v pos
    simp only [ex] at hq
    cases hnw : g.nw with
    | false =>
      rw [hnw] at hq
      simp only [Bool.false_eq_true, if_false] at hq
      refine TS_of (ps_ret (pe_T _)) ((all_ok e).1 c _ hm σp σ H L S _ hh sl (Post.imp (PostS.thn (R := RepS X.K) hq sl) (fun x H1 z => ?_) fun _ _ _ z => z))
      obtain ⟨s, L1, S1, hh1, st, r, hp⟩ := z
      cases s with
      | val v => exact hp x H1 L1 hh1 .refl r (fun z => by rw [hnw] at z; cases z)
      | cell n => exact hp.elim
    | true =>
      rw [hnw] at hq
      simp only [if_true] at hq
      have hp : Post X.K xa (RepN X.K H L S) H L S (evN g e σp S) (fun x H1 => D.rt x H1) (fun cl d H' => W cl d σ H') := Post.imp (PostS.thn0 (R := fun H1 L1 S1 s x => RepN X.K H L S H1 L1 S1 s x) hq sl) (fun x H1 z => by
        obtain ⟨s, L1, S1, hh1, st, r, hp⟩ := z
        obtain ⟨r0, a, pv, cc, rfl, ec, rfl, fr, hb⟩ := r
        exact hp _ H1 L1 hh1 st r0 fun _ => ⟨a, cc, ec, rfl, fr, hb⟩) fun _ _ _ z => z
      refine TS_of (ps_ret (pe_T _)) ?_
      cases hcomp : isComp v with
      | false => exact new_E c hcomp hm hh sl hp
      | true =>
        obtain ⟨j, it, elt, cnd, rfl⟩ := comp_lc hcomp hm
        obtain ⟨x, y, tp, iter, ifs, scope, pos, tt, te, rfl, hcm, hblk, pg, pt, pe, hf, h⟩ := lc_pieces j (allI_ok it) (all_ok elt).1 (fun x hx => ((alls_ok cnd).2 x hx).2) c v hm σp σ H L S _ hh sl (lo_post hp)
        exact T_of (pe_lc (own := [(y, j)]) (g := gName j) (tt := tt) (te := te) hcm c.nd (pi_T _ iter) hblk pg pt pe hf) h
  · cases hm
theorem st_ifs (e : CE) {t f : List CS} (h1 : StsOk t) (h2 : StsOk f) : StOk (.ifs e t f) := by
  intro g X W xa k ha c c2 st hm σp σ H L S D hh sl hq
  simp only [mtS] at hm
  split at hm
  · simp only [Bool.and_eq_true] at hm
    simp only [ex] at hq
    refine TS_of (ps_if (pt_TT _) (pss_T _) (pss_T _)) ((all_ok e).2 c _ hm.1.1 σp σ H L S _ hh sl (Post.imp (PostS.thn (R := eqB) hq sl) (fun b H1 z => ?_) fun _ _ _ z => z))
    obtain ⟨b', L1, S1, hh1, st, r, hp⟩ := z
    have r : b' = b := r
    subst r
    cases b' with
    | true =>
      simp only [if_true] at hp ⊢
      exact h1 c c2 _ hm.1.2 σp σ H1 L1 S1 D hh1 (sl.step st) hp
    | false =>
      simp only [Bool.false_eq_true, if_false] at hp ⊢
      exact h2 c c2 _ hm.2 σp σ H1 L1 S1 D hh1 (sl.step st) hp
  · cases hm
theorem st_pass : StOk .pass := by
  intro g X W xa k ha c c2 st hm σp σ H L S D hh sl hq
  simp only [mtS] at hm
  split at hm
  · exact TS_of ps_pass (hq σ H L hh .refl sl)
  · cases hm
theorem st_cont : StOk .cont := by
  intro g X W xa k ha c c2 st hm σp σ H L S D hh sl hq
  simp only [mtS] at hm
  split at hm
  · exact TS_of ps_continue (hq σ H L hh .refl sl)
  · cases hm
theorem st_brk : StOk .brk := by
  intro g X W xa k ha c c2 st hm σp σ H L S D hh sl hq
  simp only [mtS] at hm
  split at hm
  · exact TS_of ps_break (hq σ H L hh .refl sl)
  · cases hm
theorem st_sto (i : Nat) (a b : CE) : StOk (.sto i a b) := by
  intro g X W xa k ha c c2 st hm σp σ H L S D hh sl hq
  simp only [mtS] at hm
  split at hm
  · rename_i o ke p1 v pos
    simp only [Bool.and_eq_true, Bool.not_eq_true'] at hm
    obtain ⟨⟨⟨⟨m1, m2⟩, m3⟩, m4⟩, m5⟩ := hm
    obtain ⟨y, p2, rfl, hN, hv, hp⟩ := isVar_inv m1
    obtain ⟨d1, d2, d3⟩ := plain_ok hp
    simp only [ex] at hq
    refine TS_of (ps_dputN (Nat.lt_of_le_of_lt (Nat.add_le_add_left (by decide) _) c.un) (pe_var hN (vis_ok hv) d1 d2) (pe_T ke) (pe_T v) (swaps_no m5 _ _ _)) ?_
    refine (all_ok b).1 c v m3 σp σ H L S _ hh sl (Post.imp (PostS.thn (R := RepS X.K) hq sl) (fun vv H1 z => ?_) fun _ _ _ z => z)
    obtain ⟨s, L1, S1, hh1, st1, r1, hp1⟩ := z
    have sl1 := sl.step st1
    split at hp1
    · rename_i hlv
      unfold liveD at hlv
      split at hlv
      · rename_i n hsl
        obtain ⟨lv, ev, l, el, rfl⟩ := sl1.1.2 i _ hsl
        refine ⟨.ref l, ev, ?_⟩
        show TEv X ke σ H1 _
        refine (all_ok a).1 c ke m2 σp σ H1 L1 S1 _ hh1 sl1 (Post.imp (PostS.thn (R := RepS X.K) hp1 sl1) (fun yv H2 z => ?_) fun _ _ _ z => z)
        obtain ⟨t, L2, S2, hh2, st2, r2, hp2⟩ := z
        unfold stoGo at hp2
        rw [hsl] at hp2
        split at hp2
        · rename_i n' kp vp en
          cases en
          split at hp2
          · rename_i ks xs hS
            split at hp2
            · rename_i hk
              rw [Bool.and_eq_true, decide_eq_true_eq] at hk
              have el2 : L2.ad[n]? = some l := by
                obtain ⟨t, et⟩ := st2.pre
                rw [et, List.getElem?_append_left (List.getElem?_eq_some_iff.mp el).1]
                exact el
              obtain ⟨es, q1, q2, q3, q4⟩ := hh2.cell n _ l hS el2
              obtain ⟨kk, n1, n2⟩ := keyOk_nk hk.1
              have r1' : Rep X.K H2 (Lv L2 S2) vp vv := RepS.step (s := .val vp) st2 r1
              have r2 : Rep X.K H2 (Lv L2 S2) kp yv := r2
              have hl : es.length = ks.length := by have := q3.length; simpa using this.symm
              cases kp with
              | tup ts =>
                obtain ⟨ad, vs, rfl, lt, rts⟩ := id r2
                have nk := rep_nkey (.tup ts) _ kk r2 n1
                obtain ⟨g1, g2⟩ := hh2.writeC hS el2 (o1 := DctO WW.w l (putN es kk ad vv)) (c1 := .dct (dputP ks xs (.tup ts) vp).1 (dputP ks xs (.tup ts) vp).2) fun H' W' kp e => by
                  obtain ⟨z1, z2, z3⟩ := dput_rep n1 n2 (Rep.keeps kp _ _ r2) (Rep.keeps kp _ _ r1') q2 (Reps.keeps kp _ _ q3) (Reps.keeps kp _ _ q4)
                  exact ⟨_, e, z1, z2, z3⟩
                refine ⟨l, _, rfl, ⟨es, kk, ad, by rw [c.ww]; exact q1, ents_ok q2 q3, rfl, nk, n2, by rw [hl, ← lim_line]; exact hk.2, rfl⟩, ?_⟩
                rw [c.ww]
                exact hp2 σ _ L2 g1 g2 ((sl1.step st2).step g2)
              | _ => cases hk.1
            · exact hp2.elim
          · exact hp2.elim
        · exact hp2.elim
      · cases hlv
    · exact hp1.elim
  · cases hm
theorem st_newS (i : Nat) : StOk (.newS i) := by
  intro g X W xa k ha c c2 st hm σp σ H L S D hh sl hq
  simp only [mtS] at hm
  split at hm
  · obtain ⟨y, tp, rfl, hN, hloc⟩ := isTgt_inv hm
    simp only [ex] at hq
    split at hq
    · exact hq.elim
    · rename_i hx
      refine TS_of (ps_set c.nd hN hloc pe_dnewK (swaps_no rfl _ _ _) (.inl (c2.fn y))) fun p np => ?_
      obtain ⟨q1, q2⟩ := hh.hold np (.dK []) (plain_dK _)
      have nrs : p ∉ L.rs := fun l => not_lv hh np (.inr l)
      have hb : Heaps X.K (upd H p (.dK [])) ⟨L.ad ++ [p], L.rs⟩ (S ++ [some (.sdc [] [])]) := Heaps.bornC (L := L.hold p) q1 rfl nrs ⟨[], upd_same, rfl, rfl⟩
      obtain ⟨h1, s1⟩ := hh.laid (o := .dK []) np
      obtain ⟨st2, sl2⟩ := sl.cell s1 (hx_none hx) h1.len (fun o _ eo => by rw [np] at eo; cases eo) i (c := .sdc [] [])
      exact hq _ _ ⟨L.ad ++ [p], L.rs⟩ hb st2 sl2
  · cases hm
theorem st_stoS (i : Nat) (a b : CE) : StOk (.stoS i a b) := by
  intro g X W xa k ha c c2 st hm σp σ H L S D hh sl hq
  simp only [mtS] at hm
  split at hm
  · rename_i o ke p1 v pos
    simp only [Bool.and_eq_true, Bool.not_eq_true'] at hm
    obtain ⟨⟨⟨⟨m1, m2⟩, m3⟩, m4⟩, m5⟩ := hm
    obtain ⟨y, p2, rfl, hN, hv, hp⟩ := isVar_inv m1
    obtain ⟨d1, d2, d3⟩ := plain_ok hp
    simp only [ex] at hq
    refine TS_of (ps_dput (hu1 c) (pe_var hN (vis_ok hv) d1 d2) (pe_T ke) (pe_T v) (swaps_no m5 _ _ _)) ?_
    refine (all_ok b).1 c v m3 σp σ H L S _ hh sl (Post.imp (PostS.thn (R := RepS X.K) hq sl) (fun vv H1 z => ?_) fun _ _ _ z => z)
    obtain ⟨s, L1, S1, hh1, st1, r1, hp1⟩ := z
    have sl1 := sl.step st1
    split at hp1
    · rename_i hlv
      unfold liveSd at hlv
      split at hlv
      · rename_i n hsl
        obtain ⟨lv, ev, l, el, rfl⟩ := sl1.1.2 i _ hsl
        refine ⟨.ref l, ev, ?_⟩
        show TEv X ke σ H1 _
        refine (all_ok a).1 c ke m2 σp σ H1 L1 S1 _ hh1 sl1 (Post.imp (PostS.thn (R := RepS X.K) hp1 sl1) (fun yv H2 z => ?_) fun _ _ _ z => z)
        obtain ⟨t, L2, S2, hh2, st2, r2, hp2⟩ := z
        unfold stoSGo at hp2
        rw [hsl] at hp2
        split at hp2
        · rename_i n' x vp en
          cases en
          split at hp2
          · rename_i ks xs hS
            split at hp2
            · rename_i hk
              have el2 : L2.ad[n]? = some l := by
                obtain ⟨t, et⟩ := st2.pre
                rw [et, List.getElem?_append_left (List.getElem?_eq_some_iff.mp el).1]
                exact el
              obtain ⟨kvs, q1, q2, q3⟩ := hh2.cell n _ l hS el2
              have r1' : Rep X.K H2 (Lv L2 S2) vp vv := RepS.step (s := .val vp) st2 r1
              cases r2
              have hl : kvs.length = ks.length := by have := congrArg List.length q2; simpa using this
              obtain ⟨g1, g2⟩ := hh2.writeC hS el2 (o1 := .dK (putK kvs (Sum.inr (toStr x)) vv)) (c1 := .sdc (sputP ks xs x vp).1 (sputP ks xs x vp).2) fun H' W' kp e => by
                obtain ⟨z1, z2⟩ := sput_rep (x := x) (Rep.keeps kp _ _ r1') q2 (Reps.keeps kp _ _ q3)
                exact ⟨_, e, z1, z2⟩
              refine ⟨l, _, rfl, .inl ⟨kvs, Sum.inr (toStr x), q1, rfl, by rw [hl, ← lim_line]; exact hk, rfl⟩, ?_⟩
              exact hp2 σ _ L2 g1 g2 ((sl1.step st2).step g2)
            · exact hp2.elim
          · exact hp2.elim
        · exact hp2.elim
      · cases hlv
    · exact hp1.elim
  · cases hm
theorem st_raise (cn : String) (m : List Nat) : StOk (.raise cn m) := by
  intro g X W xa k ha c c2 st hm σp σ H L S D hh sl hq
  simp only [mtS] at hm
  split at hm
  · rw [Bool.and_eq_true, beq_iff_eq] at hm
    obtain ⟨p1, rfl, g1, pl1⟩ := isName_inv hm.1
    obtain ⟨d1, d2, d3⟩ := plain_ok pl1
    simp only [ex] at hq
    split at hq
    · rename_i hc
      rw [Bool.and_eq_true] at hc
      obtain ⟨x1, x2, x3, x4⟩ := c2.exc cn hc.2
      exact TS_of (ps_raise (by rw [c.calm]; exact hc.1) c.tk (pmk_own PySem.F.excBase_ValueError x2 x1 x3 x4 (glo_ok g1) d1)) (hq none σ H L hh .refl sl rfl)
    · exact hq.elim
  · cases hm
/-! ### a, b = e -/
theorem pgs_T {X : Cx} (nd : X.N.Nodup) (fn : ∀ x, X.fn x = true) : ∀ {is : List Nat} {ts : List Expr}, areTgts X.N X.env.scope is ts = true →
    ∃ t : TGs, PGs X ts t ∧ (assignEach ts X.env).length = is.length ∧ (assignEach ts X.env).findIdx? (·.1) = none ∧ ts.length = is.length ∧
      ∀ {g : Cfg} {ha : Addr} {H : Hp} {L : Ads} {S : Store} {σp σp' : Lo} {σ : Sx} {ps : List PV} {vs : List V} {Q : Sx → Hp → Prop}, g.hx = none → Heaps X.K H L S → SlotsH g ha X.K H L S σp σ → Reps X.K H (Lv L S) ps vs → setAll σp is ps = some σp' →
        (∀ σ', SlotsH g ha X.K H L S σp' σ' → Q σ' H) → t vs σ H Q
  | [], [], _ => ⟨gNil, pgs_nil, rfl, rfl, rfl, fun {g ha H L S σp σp' σ ps vs Q} hx hh sl r e q => by
      cases ps with
      | nil => cases r; cases e; exact ⟨rfl, q σ sl⟩
      | cons p ps => cases e⟩
  | [], _ :: _, h => by simp [areTgts] at h
  | _ :: _, [], h => by simp [areTgts] at h
  | i :: is, e :: ts, h => by
    simp only [areTgts, Bool.and_eq_true] at h
    obtain ⟨y, tp, rfl, hN, hloc⟩ := isTgt_inv h.1
    obtain ⟨t, h1, h2, h3, h4, h5⟩ := pgs_T nd fn h.2
    refine ⟨gCons (gName i) t, pgs_cons (pg_name nd hN hloc (.inl (fn y))) h1 rfl, ?_, ?_, ?_, ?_⟩
    · show ((false, assign (.Name y tp) X.env) :: assignEach ts X.env).length = _
      rw [List.length_cons, List.length_cons, h2]
    · show ((false, assign (.Name y tp) X.env) :: assignEach ts X.env).findIdx? (·.1) = none
      rw [List.findIdx?_cons, h3]
      rfl
    · rw [List.length_cons, List.length_cons, h4]
    · intro g ha H L S σp σp' σ ps vs Q hx hh sl r es q
      cases ps with
      | nil => cases es
      | cons p ps =>
        obtain ⟨v, vr, rfl, r1, r2⟩ := r
        exact ⟨v, vr, rfl, h5 hx hh (sl.set i (by rw [hx]; rfl) (s := .val p) r1) r2 es q⟩
theorem setAll_len : ∀ {σ σ' : Lo} {is : List Nat} {ps : List PV}, setAll σ is ps = some σ' → ps.length = is.length
  | _, _, [], [], _ => rfl
  | _, _, [], _ :: _, h => by cases h
  | _, _, _ :: _, [], h => by cases h
  | _, _, i :: is, p :: ps, h => by
    rw [List.length_cons, List.length_cons, setAll_len (is := is) (ps := ps) h]
theorem st_asgT (is : List Nat) (e : CE) : StOk (.asgT is e) := by
  intro g X W xa k ha c c2 st hm σp σ H L S D hh sl hq
  simp only [mtS] at hm
  split at hm
  · simp only [Bool.and_eq_true, Bool.not_eq_true'] at hm
    obtain ⟨⟨⟨m1, m2⟩, m3⟩, m4⟩ := hm
    simp only [ex] at hq
    split at hq
    · rename_i hcm
      rename_i ts tk tpos v pos
      obtain ⟨t, h1, h2, h3, h4, h5⟩ := pgs_T c.nd c2.fn m1
      have hs : swapsWithSole [.Tuple ts tk tpos] v pos.line X.env = pure false := by unfold swapsWithSole; exact swaps_no m3 _ _ _
      have hw : swappedStores [.Tuple ts tk tpos] v X.env = pure none := by cases v <;> first | rfl | cases m4
      refine TS_of (ps_asg (pe_T v) (pg_tup (by rw [c.calm]; exact hcm) h1 h2 h3) hs hw rfl) ((all_ok e).1 c v m2 σp σ H L S _ hh sl (Post.imp (PostS.thn (R := RepS X.K) hq sl) (fun x H1 z => ?_) fun _ _ _ z => z))
      obtain ⟨s, L1, S1, hh1, st, r, hp⟩ := z
      split at hp
      · rename_i xs
        split at hp
        · rename_i σ' hset
          obtain ⟨a, vs, rfl, l, rs⟩ := r
          refine ⟨a, vs, rfl, l.sq, by rw [← rs.length]; exact setAll_len hset, h5 (c.hxn hcm) hh1 (sl.step st) rs hset fun σ2 sl2 => hp σ2 H1 L1 hh1 .refl sl2⟩
        · exact hp.elim
      · exact hp.elim
    · exact hq.elim
  · cases hm
theorem st_for (i : Nat) (it : IT) {b : List CS} (hb : StsOk b) : StOk (.for_ i it b) := by
  intro g X W xa k ha c c2 st hm σp σ H L S D hh sl hq
  simp only [mtS] at hm
  split at hm
  · rename_i t v a pos
    simp only [Bool.and_eq_true] at hm
    obtain ⟨⟨m1, m2⟩, m3⟩ := hm
    simp only [ex] at hq
    split at hq
    · rename_i hcm
      obtain ⟨y, tp, rfl, hN, hloc⟩ := isTgt_inv m1
      have hx := c.hxn hcm
      refine TS_of (ps_for (c2.pass hcm) (by rw [c.calm]; exact hcm) (pi_T _ v) (pg_name c.nd hN hloc (.inl (c2.fn y))) (pss_T a) (fold_ok (mtI_set m2) X.env)) ?_
      show TIv X _ v σ H _
      have h0 := allI_ok it c (.Name y tp) v hcm m2 σp σ H L S _ hh sl (PostS.thn (R := RepIt X.K) hq sl)
      intro pins s I
      refine thn (h0 pins s I) fun v s1 h1 => thn h1 fun itv s2 h2 => ?_
      obtain ⟨ita, fp, tn, J, H1, e1, I1, T, st1, f1, xs, L1, S1, hh1, stp, rit, hp1⟩ := h2
      refine ⟨ita, fp, tn, J, H1, e1, I1, T, st1, f1, ?_⟩
      let LI : Nat → Sx → Hp → Prop := fun t σ' H' => ∃ σp' L' S', Heaps X.K H' L' S' ∧ Step H1 L1 S1 H' L' S' ∧ SlotsH g ha X.K H' L' S' σp' σ' ∧ PostS g ha X.K xa H' L' S' (forGo i (fun σ' S' => exs g b σ' S') (xs.drop t) σp' S') D W
      refine ⟨fun t m σ' H' => m = xs.length - t ∧ t ≤ xs.length ∧ LI t σ' H', ⟨xs.length, by simp, Nat.zero_le _, σp, L1, S1, hh1, .refl, sl.step stp, by simpa using hp1⟩, ?_⟩
      rintro t m σ' H' ⟨rfl, htl, σp', L', S', hh', stp', sl', hpost⟩
      by_cases hlt : t < xs.length
      · obtain ⟨hgo, hyl⟩ := (rit H' _ stp'.keep t).1 _ (List.getElem?_eq_getElem hlt)
        refine .inr ⟨hgo, fun σ5 H5 => t + 1 ≤ xs.length ∧ LI (t + 1) σ5 H5, fun σ5 H5 h5 => ⟨xs.length - (t + 1), by omega, rfl, h5.1, h5.2⟩, fun w H'' hy' => ?_⟩
        obtain ⟨rfl, rw'⟩ := hyl w H'' hy'
        show TSsv X a _ (σ'.set i (some w)) H''
        rw [List.drop_eq_getElem_cons hlt] at hpost
        simp only [forGo] at hpost
        refine hb c c2 a m3 (σp'.set i (some (.val xs[t]))) _ H'' L' S' _ hh' (sl'.set i (by rw [hx]; rfl) (s := .val xs[t]) rw') ?_
        cases ho : exs g b (σp'.set i (some (.val xs[t]))) S' with
        | next σ1 S1' => rw [ho] at hpost; exact fun σ6 H6 L6 a1 a2 a3 => ⟨hlt, σ1, L6, S1', a1, stp'.trans a2, a3, PostS.step hpost a2⟩
        | cont σ1 S1' => rw [ho] at hpost; exact fun σ6 H6 L6 a1 a2 a3 => ⟨hlt, σ1, L6, S1', a1, stp'.trans a2, a3, PostS.step hpost a2⟩
        | brk σ1 S1' => rw [ho] at hpost; exact hpost
        | ret v S1' => rw [ho] at hpost; exact hpost
        | err e σ1 S1' => rw [ho] at hpost; exact hpost
        | stuck => rw [ho] at hpost; exact hpost
      · have et : t = xs.length := by omega
        subst et
        rw [List.drop_length] at hpost
        exact .inl ⟨(rit H' _ stp'.keep xs.length).2 (Nat.le_refl _), hpost σ' H' L' hh' .refl sl'⟩
    · exact hq.elim
  · cases hm
theorem st_forT (is : List Nat) (it : IT) {b : List CS} (hb : StsOk b) : StOk (.forT is it b) := by
  intro g X W xa k ha c c2 st hm σp σ H L S D hh sl hq
  simp only [mtS] at hm
  split at hm
  · rename_i ts tk tpos v a pos
    simp only [Bool.and_eq_true] at hm
    obtain ⟨⟨m1, m2⟩, m3⟩ := hm
    simp only [ex] at hq
    split at hq
    · rename_i hcm
      have hx := c.hxn hcm
      obtain ⟨tg, t1, t2, t3, t4, t5⟩ := pgs_T c.nd c2.fn m1
      refine TS_of (ps_for (c2.pass hcm) (by rw [c.calm]; exact hcm) (pi_T _ v) (pg_tup (by rw [c.calm]; exact hcm) t1 t2 t3) (pss_T a) (fold_ok (mtI_set m2) X.env)) ?_
      show TIv X _ v σ H _
      have h0 := allI_ok it c (.Tuple ts tk tpos) v hcm m2 σp σ H L S _ hh sl (PostS.thn (R := RepIt X.K) hq sl)
      intro pins s I
      refine thn (h0 pins s I) fun v s1 h1 => thn h1 fun itv s2 h2 => ?_
      obtain ⟨ita, fp, tn, J, H1, e1, I1, T, st1, f1, xs, L1, S1, hh1, stp, rit, hp1⟩ := h2
      refine ⟨ita, fp, tn, J, H1, e1, I1, T, st1, f1, ?_⟩
      let LI : Nat → Sx → Hp → Prop := fun t σ' H' => ∃ σp' L' S', Heaps X.K H' L' S' ∧ Step H1 L1 S1 H' L' S' ∧ SlotsH g ha X.K H' L' S' σp' σ' ∧ PostS g ha X.K xa H' L' S' (forTGo is (fun σ' S' => exs g b σ' S') (xs.drop t) σp' S') D W
      refine ⟨fun t m σ' H' => m = xs.length - t ∧ t ≤ xs.length ∧ LI t σ' H', ⟨xs.length, by simp, Nat.zero_le _, σp, L1, S1, hh1, .refl, sl.step stp, by simpa using hp1⟩, ?_⟩
      rintro t m σ' H' ⟨rfl, htl, σp', L', S', hh', stp', sl', hpost⟩
      by_cases hlt : t < xs.length
      · obtain ⟨hgo, hyl⟩ := (rit H' _ stp'.keep t).1 _ (List.getElem?_eq_getElem hlt)
        refine .inr ⟨hgo, fun σ5 H5 => t + 1 ≤ xs.length ∧ LI (t + 1) σ5 H5, fun σ5 H5 h5 => ⟨xs.length - (t + 1), by omega, rfl, h5.1, h5.2⟩, fun w H'' hy' => ?_⟩
        obtain ⟨rfl, rw'⟩ := hyl w H'' hy'
        rw [List.drop_eq_getElem_cons hlt] at hpost
        simp only [forTGo] at hpost
        split at hpost
        · rename_i ps hps
          rw [hps] at rw'
          split at hpost
          · rename_i σ1p hset
            obtain ⟨aa, vs, rfl, l, rs⟩ := rw'
            refine ⟨aa, vs, rfl, l.sq, by rw [← rs.length]; exact setAll_len hset, t5 hx hh' sl' rs hset fun σ2 sl2 => ?_⟩
            show TSsv X a _ σ2 H''
            refine hb c c2 a m3 σ1p _ H'' L' S' _ hh' sl2 ?_
            cases ho : exs g b σ1p S' with
            | next σ1 S1' => rw [ho] at hpost; exact fun σ6 H6 L6 a1 a2 a3 => ⟨hlt, σ1, L6, S1', a1, stp'.trans a2, a3, PostS.step hpost a2⟩
            | cont σ1 S1' => rw [ho] at hpost; exact fun σ6 H6 L6 a1 a2 a3 => ⟨hlt, σ1, L6, S1', a1, stp'.trans a2, a3, PostS.step hpost a2⟩
            | brk σ1 S1' => rw [ho] at hpost; exact hpost
            | ret v S1' => rw [ho] at hpost; exact hpost
            | err e σ1 S1' => rw [ho] at hpost; exact hpost
            | stuck => rw [ho] at hpost; exact hpost
          · exact hpost.elim
        · exact hpost.elim
      · have et : t = xs.length := by omega
        subst et
        rw [List.drop_length] at hpost
        exact .inl ⟨(rit H' _ stp'.keep xs.length).2 (Nat.le_refl _), hpost σ' H' L' hh' .refl sl'⟩
    · exact hq.elim
  · cases hm
theorem st_whl (e : CE) {b : List CS} (hb : StsOk b) : StOk (.whl e b) := by
  intro g X W xa k ha c c2 st hm σp σ H L S D hh sl hq
  simp only [mtS] at hm
  split at hm
  · rename_i v a pos
    simp only [Bool.and_eq_true] at hm
    simp only [ex] at hq
    split at hq
    · rename_i hcm
      refine TS_of (ps_while (c2.pass hcm) (pt_TT v) (pss_T a)) ?_
      let LI : Nat → Sx → Hp → Prop := fun t σ' H' => ∃ σp' L' S', Heaps X.K H' L' S' ∧ SlotsH g ha X.K H' L' S' σp' σ' ∧ PostS g ha X.K xa H' L' S' (whGo (fun σ' S' => (ev g e σ' S').bind fun s S1 => truthOf s S1) (fun σ' S' => exs g b σ' S') t σp' S') D W
      refine ⟨LI, ⟨turns, σp, L, S, hh, sl, hq⟩, ?_⟩
      rintro m σ' H' ⟨σp', L', S', hh', sl', hpost⟩
      cases m with
      | zero => exact hpost.elim
      | succ m =>
        simp only [whGo] at hpost
        refine (all_ok e).2 c v hm.1 σp' σ' H' L' S' _ hh' sl' (Post.imp (PostS.thn (R := eqB) hpost sl') (fun t H1 z => ?_) fun _ _ _ z => z)
        obtain ⟨t', L1, S1, hh1, st, r, hp⟩ := z
        have r : t' = t := r
        subst r
        cases t' with
        | false =>
          simp only [Bool.false_eq_true, if_false] at hp ⊢
          exact hp σ' H1 L1 hh1 .refl (sl'.step st)
        | true =>
          simp only [if_true] at hp ⊢
          refine ⟨LI m, fun σ5 H5 h5 => ⟨m, by omega, h5⟩, ?_⟩
          refine hb c c2 a hm.2 σp' σ' H1 L1 S1 _ hh1 (sl'.step st) ?_
          cases ho : exs g b σp' S1 with
          | next σ1 S1' => rw [ho] at hp; exact fun σ6 H6 L6 a1 a2 a3 => ⟨σ1, L6, S1', a1, a3, PostS.step hp a2⟩
          | cont σ1 S1' => rw [ho] at hp; exact fun σ6 H6 L6 a1 a2 a3 => ⟨σ1, L6, S1', a1, a3, PostS.step hp a2⟩
          | brk σ1 S1' => rw [ho] at hp; exact hp
          | ret v S1' => rw [ho] at hp; exact hp
          | err e σ1 S1' => rw [ho] at hp; exact hp
          | stuck => rw [ho] at hp; exact hp
    · exact hq.elim
  · cases hm
/-! ### try -/
section
variable {g : Cfg} {X : Cx} {W : WX} {xa : String → Addr} {k : Nat} {ha : Addr}
theorem Ctx.tr (c : Ctx g X W xa k ha) (hcm : g.cm = true) {pn : List (Addr × Obj)} {xe : Value → Shared → Prop} {W' : WX} (tk : Takes (X.tr pn xe) W') : Ctx g (X.tr pn xe) W' xa k ha where
  calm := c.calm
  nd := c.nd
  tk := tk
  un := c.un
  ww := c.ww
  room := c.room
  con := c.con
  blt := c.blt
  fns := c.fns
  fnsN := c.fnsN
  cls := c.cls
  k2 := c.k2
  hxn := c.hxn
  hots := fun f d i v h => by rw [c.hxn hcm] at h; cases h
  ish := fun d i f v h => by rw [c.hxn hcm] at h; cases h
  lams := fun h f X' sm => c.lams h f X' (Same.trans (Y := X.tr pn xe) ⟨rfl, rfl, rfl, rfl, rfl, rfl, rfl, rfl, id⟩ sm)
theorem SCtx.tr (c : SCtx g X xa) {pn : List (Addr × Obj)} {xe : Value → Shared → Prop} (p : PassesOwn (model X.prog X.w) X.A X.env xe) : SCtx g (X.tr pn xe) xa where
  pass := fun _ => p
  fn := c.fn
  stk := c.stk
  fr := c.fr
  kind := c.kind
  exc := c.exc
  hnd := c.hnd
  exm := c.exm
  hot := c.hot
  ish := c.ish
/-- the surroundings of an except suite -/
theorem Ctx.suite (c : Ctx g X W xa k ha) (c2 : SCtx g X xa) {cn : String} (hx : g.xc cn = true) (x : Option Nat) {a : Addr} {oe : Obj} {pn : List (Addr × Obj)} (z : Zc (.ref (xa cn)) none oe) (f : ∃ vs, oe.data = .fields vs) :
    Ctx { g with cm := false, hx := x.map fun i => (cn, i) } (X.suite a ((a, oe) :: pn)) (fun _ _ _ _ => False) xa k a where
  calm := rfl
  nd := c.nd
  tk := takes0
  un := c.un
  ww := c.ww
  room := fun h => by cases h
  con := c.con
  blt := c.blt
  fns := c.fns
  fnsN := c.fnsN
  cls := c.cls
  k2 := fun h => by cases h
  hxn := fun h => by cases h
  hots := fun f' d i v h hv => by
    cases x with
    | none => cases h
    | some j =>
      cases h
      exact c2.hot X.pn X.xe f' cn v hv hx a oe pn z f
  ish := fun d i f' v h hv => by
    cases x with
    | none => cases h
    | some j =>
      cases h
      exact c2.ish X.pn X.xe cn f' v hv hx a oe pn z f
  lams := fun h => by cases h
theorem SCtx.suite (c : SCtx g X xa) (cn : String) (x : Option Nat) {a : Addr} {p : List (Addr × Obj)} : SCtx { g with cm := false, hx := x.map fun i => (cn, i) } (X.suite a p) xa where
  pass := fun h => by cases h
  fn := c.fn
  stk := c.stk
  fr := c.fr
  kind := c.kind
  exc := c.exc
  hnd := c.hnd
  exm := c.exm
  hot := c.hot
  ish := c.ish
end
theorem SlotsH.unsetH {g g' : Cfg} {ha ha' : Addr} {K : PySem.W.Frag} {H : Hp} {L : Ads} {S : Store} {σp : Lo} {σ : Sx} (h : SlotsH g ha K H L S σp σ) (hx : g'.hx = none) (i : Nat) (o : Option V) : SlotsH g' ha' K H L S (σp.set i none) (σ.set i o) :=
  ⟨h.1.unset i o, fun c j z => by rw [hx] at z; cases z⟩
theorem st_try {b s : List CS} (cn : String) (x : Option Nat) (hb : StsOk b) (hs : StsOk s) : StOk (.try_ b cn x s) := by
  intro g X W xa k ha c c2 st hm σp σ H L S D hh sl hq
  simp only [mtS] at hm
  split at hm
  · rename_i a f n h hpos pos
    simp only [Bool.and_eq_true, Bool.not_eq_true'] at hm
    obtain ⟨⟨⟨⟨m1, m2⟩, m3⟩, m4⟩, m5⟩ := hm
    cases h with
    | nil => cases m5
    | cons b0 hr =>
    obtain ⟨p1, rfl, g1, pl1⟩ := isName_inv m1
    obtain ⟨d1, d2, d3⟩ := plain_ok pl1
    simp only [ex] at hq
    split at hq
    · rename_i hc
      rw [Bool.and_eq_true] at hc
      obtain ⟨hcm, hxh⟩ := hc
      have hx := c.hxn hcm
      have nms : Names X (S' cn) (.ref (xa cn)) := ⟨glo_ok g1, d1, .inl (c2.hnd cn hxh)⟩
      let tb : WX → TS := fun W' D σ H => ∀ pn xe, Takes (X.tr pn xe) W' → PassesOwn (model X.prog X.w) X.A X.env xe → TSsv (X.tr pn xe) a D σ H
      let ts : Addr → Value → Option Addr → TS := fun ea cls d D σ H => ∀ oe pn, Zc cls d oe → (∃ vs, oe.data = .fields vs) → TSsv (X.suite ea ((ea, oe) :: pn)) (b0 :: hr) D σ H
      have pb : ∀ (W' : WX) (pn : List (Addr × Obj)) (xe : Value → Shared → Prop), Takes (X.tr pn xe) W' → PassesOwn (model X.prog X.w) X.A X.env xe → PSs (X.tr pn xe) a (tb W') := fun W' pn xe t p => ⟨fun pins s σ H D I h => h pn xe t p pins s I⟩
      have ps : ∀ (ea : Addr) (oe : Obj) (cls : Value) (d : Option Addr) (pn : List (Addr × Obj)), Zc cls d oe → (∃ vs, oe.data = .fields vs) → PSs (X.suite ea ((ea, oe) :: pn)) (b0 :: hr) (ts ea cls d) := fun ea oe cls d pn z f => ⟨fun pins s σ H D I h => h oe pn z f pins s I⟩
      cases x with
      | none =>
        cases n with
        | some y => cases m2
        | none =>
        refine TS_of (ps_try_only c2.stk c2.fr nms c.tk pb ps) ?_
        intro pn xe tk po
        refine hb (c.tr hcm tk) (c2.tr po) a m3 σp σ H L S D hh sl ?_
        cases ho : exs g b σp S with
        | next σ1 S1 => rw [ho] at hq; exact hq
        | cont σ1 S1 => rw [ho] at hq; exact hq
        | brk σ1 S1 => rw [ho] at hq; exact hq
        | ret v S1 => rw [ho] at hq; exact hq
        | stuck => rw [ho] at hq; exact hq
        | err e σ1 S1 =>
          rw [ho] at hq
          simp only at hq
          split at hq
          · exact hq.elim
          · rename_i hxc
            have hxc : g.xc e.cls = true := by simpa using hxc
            intro d σ' H' L' hh' st' sl' xp
            refine ⟨g.sub e.cls cn, c2.exm e.cls cn hxc hxh, fun ht ea hea => ?_, fun hf => ?_⟩
            · rw [ht] at hq
              simp only [if_true] at hq
              intro oe pn z f
              have hd : d = none := by
                cases hp : e.pay with
                | non => rw [hp] at xp; exact xp
                | _ => rw [hp] at xp; exact xp.elim
              subst hd
              have c' := c.suite c2 hxc none (a := ea) (oe := oe) (pn := pn) z f
              have c2' := c2.suite e.cls none (a := ea) (p := (ea, oe) :: pn)
              refine hs c' c2' _ m4 σ1 σ' H' L' S1 D hh' ⟨sl'.1, fun _ _ z => by cases z⟩ ?_
              simp only [unset] at hq
              have hq' := PostS.step hq st'
              cases ho2 : exs { g with cm := false, hx := (none : Option Nat).map fun i => (e.cls, i) } s σ1 S1 with
              | next σ2 S2 => rw [ho2] at hq'; exact fun σ6 H6 L6 a1 a2 a3 => hq' σ6 H6 L6 a1 a2 ⟨a3.1, fun _ _ z => by rw [hx] at z; cases z⟩
              | ret v S2 => rw [ho2] at hq'; exact hq'
              | cont σ2 S2 => rw [ho2] at hq'; exact hq'.elim
              | brk σ2 S2 => rw [ho2] at hq'; exact hq'.elim
              | err e2 σ2 S2 => rw [ho2] at hq'; exact hq'.elim
              | stuck => rw [ho2] at hq'; exact hq'.elim
            · rw [hf] at hq
              simp only [Bool.false_eq_true, if_false] at hq
              exact hq d σ' H' L' hh' st' sl' xp
      | some i =>
        cases n with
        | none => cases m2
        | some y =>
        simp only [Bool.and_eq_true, beq_iff_eq] at m2
        have hln : X.env.kindOf y = some .local := by
          have z := m2.2
          unfold locB at z
          split at z
          · assumption
          · cases z
        refine TS_of (ps_try_as c2.stk c2.fr c.nd m2.1 hln nms c.tk pb ps) ?_
        intro pn xe tk po
        refine hb (c.tr hcm tk) (c2.tr po) a m3 σp σ H L S D hh sl ?_
        cases ho : exs g b σp S with
        | next σ1 S1 => rw [ho] at hq; exact hq
        | cont σ1 S1 => rw [ho] at hq; exact hq
        | brk σ1 S1 => rw [ho] at hq; exact hq
        | ret v S1 => rw [ho] at hq; exact hq
        | stuck => rw [ho] at hq; exact hq
        | err e σ1 S1 =>
          rw [ho] at hq
          simp only at hq
          split at hq
          · exact hq.elim
          · rename_i hxc
            have hxc : g.xc e.cls = true := by simpa using hxc
            intro d σ' H' L' hh' st' sl' xp
            refine ⟨g.sub e.cls cn, c2.exm e.cls cn hxc hxh, fun ht ea hea => ?_, fun hf => ?_⟩
            · rw [ht] at hq
              simp only [if_true] at hq
              intro oe pn z f
              have hd : d = none := by
                cases hp : e.pay with
                | non => rw [hp] at xp; exact xp
                | _ => rw [hp] at xp; exact xp.elim
              subst hd
              intro pins s9 I
              have hlen : i < σ'.length := by
                have l1 := I.len
                rw [List.length_set] at l1
                have l2 := (List.getElem?_eq_some_iff.mp m2.1).1
                show i < σ'.length
                rw [l1]
                exact l2
              have c' := c.suite c2 hxc (some i) (a := ea) (oe := oe) (pn := pn) z f
              have c2' := c2.suite e.cls (some i) (a := ea) (p := (ea, oe) :: pn)
              refine hs c' c2' _ m4 (σ1.set i none) (σ'.set i (some (.ref ea))) H' L' S1 _ hh' ⟨sl'.1.unset i _, fun cc j z => ?_⟩ ?_ pins s9 I
              · cases z
                rw [List.getElem?_set_self hlen]
              simp only [unset] at hq
              have hq' := PostS.step hq st'
              cases ho2 : exs { g with cm := false, hx := (some i).map fun i => (e.cls, i) } s (σ1.set i none) S1 with
              | next σ2 S2 => rw [ho2] at hq'; exact fun σ6 H6 L6 a1 a2 a3 => hq' (σ6.set i none) H6 L6 a1 a2 (a3.unsetH hx i none)
              | ret v S2 => rw [ho2] at hq'; exact hq'
              | cont σ2 S2 => rw [ho2] at hq'; exact hq'.elim
              | brk σ2 S2 => rw [ho2] at hq'; exact hq'.elim
              | err e2 σ2 S2 => rw [ho2] at hq'; exact hq'.elim
              | stuck => rw [ho2] at hq'; exact hq'.elim
            · rw [hf] at hq
              simp only [Bool.false_eq_true, if_false] at hq
              exact hq d σ' H' L' hh' st' sl' xp
    · exact hq.elim
  · cases hm
theorem st_app (i : Nat) (e : CE) : StOk (.app i e) := by
  intro g X W xa k ha c c2 st hm σp σ H L S D hh sl hq
  simp only [mtS] at hm
  split at hm
  · rename_i o n q a r pos
    simp only [Bool.and_eq_true, beq_iff_eq] at hm
    obtain ⟨⟨⟨rfl, m2⟩, m3⟩, m4⟩ := hm
    obtain ⟨y, p2, rfl, hN, hv, hp⟩ := isVar_inv m3
    obtain ⟨d1, d2, d3⟩ := plain_ok hp
    simp only [ex] at hq
    split at hq
    · rename_i hlv
      unfold liveL at hlv
      split at hlv
      · rename_i m hsl
        split at hlv
        · rename_i xs hS
          obtain ⟨v, ev, l, el, rfl⟩ := sl.1.2 i _ hsl
          have cr := hh.cell m _ l hS el
          obtain ⟨vs, hHl, _⟩ := cr
          have n1 := mt_star m4
          refine TS_of (ps_expr (pe_bm PySem.F.plainAttrs_list PySem.F.slot_list_append PySem.F.type_list_append mt_append (pe_var hN (vis_ok hv) d1 d2) (pa_T (es := [a]) (by simpa using n1)) (attr_plain rfl) (few_one n1) (by simpa using m2) (star_cons n1) rfl) (swaps_no rfl _ _ _)) ?_
          refine ⟨.ref l, ev, .inl ⟨rfl, vs, .inl (.inl hHl)⟩, ?_⟩
          show TEv X a σ H _
          refine (all_ok e).1 c a m4 σp σ H L S _ hh sl (Post.imp (PostS.thn (R := RepS X.K) hq sl) (fun x H1 z => ?_) fun _ _ _ z => z)
          obtain ⟨s, L1, S1, hh1, st, r1, hp1⟩ := z
          cases s with
          | cell n => exact hp1.elim
          | val p =>
            simp only [appGo, hsl] at hp1
            split at hp1
            · rename_i ys hS1
              split at hp1
              · rename_i hlt
                have el1 : L1.ad[m]? = some l := by
                  obtain ⟨t, et⟩ := st.pre
                  rw [et, List.getElem?_append_left (List.getElem?_eq_some_iff.mp el).1]
                  exact el
                obtain ⟨ws, hw, rw1⟩ := hh1.cell m _ l hS1 el1
                obtain ⟨g1, g2⟩ := hh1.write hS1 el1 (rw1.snoc r1)
                refine ⟨l, ws, x, rfl, rfl, hw, by rw [← rw1.length, ← lim_line]; exact hlt, ?_⟩
                exact hp1 σ _ L1 g1 g2 ((sl.step st).step g2)
              · exact hp1.elim
            · exact hp1.elim
        · cases hlv
      · cases hlv
    · exact hq.elim
  · cases hm
/-- a statement behind which a list is not written any more -/
theorem st_frz {cs : CS} (i : Nat) (h : StOk cs) : StOk (.frz cs i) := by
  intro g X W xa k ha c c2 st hm σp σ H L S D hh sl hq
  simp only [mtS] at hm
  refine h c c2 st hm σp σ H L S D hh sl ?_
  simp only [ex] at hq
  cases o : ex g cs σp S with
  | next σ1 S1 =>
    rw [o, SO.seq_next] at hq
    intro σ' H' L' hh' st' sl'
    unfold frzGo at hq
    split at hq
    · rename_i n hs
      split at hq
      · rename_i xs hc
        obtain ⟨v, ev, r⟩ := sl'.1.2 i _ hs
        obtain ⟨a, ea, rfl⟩ := r
        obtain ⟨vs, e1, rs⟩ := hh'.cell n _ a hc ea
        obtain ⟨st2, hh2, nl⟩ := move_out hh' hc ea
        refine hq σ' H' L' hh2 (st'.trans st2) ⟨⟨by rw [List.length_set]; exact sl'.1.1, fun j t hj => ?_⟩, sl'.2⟩
        by_cases e : i = j
        · subst e
          rw [List.getElem?_set_self (List.getElem?_eq_some_iff.mp hs).1] at hj
          cases hj
          exact ⟨.ref a, ev, ⟨a, vs, rfl, .inl ⟨.inl e1, nl⟩, Reps.keeps st2.keep xs vs rs⟩⟩
        · rw [List.getElem?_set_ne e] at hj
          exact (sl'.step st2).1.2 j t hj
      · exact hq.elim
    · exact hq.elim
  | cont σ1 S1 => rw [o] at hq; exact hq
  | brk σ1 S1 => rw [o] at hq; exact hq
  | ret v S1 => rw [o] at hq; exact hq
  | err e σ1 S1 => rw [o] at hq; exact hq
  | stuck => rw [o] at hq; exact hq
mutual
theorem allS_ok : ∀ cs : CS, StOk cs
  | .asg i e => st_asg i e
  | .asgT is e => st_asgT is e
  | .new i e => st_new i e
  | .expr e => st_expr e
  | .ret e => st_ret e
  | .ifs c t e => st_ifs c (allSs_ok t) (allSs_ok e)
  | .for_ i it b => st_for i it (allSs_ok b)
  | .whl c b => st_whl c (allSs_ok b)
  | .raise c m => st_raise c m
  | .app i e => st_app i e
  | .sto i a b => st_sto i a b
  | .newS i => st_newS i
  | .stoS i a b => st_stoS i a b
  | .forT is it b => st_forT is it (allSs_ok b)
  | .try_ b c x s => st_try c x (allSs_ok b) (allSs_ok s)
  | .cont => st_cont
  | .brk => st_brk
  | .pass => st_pass
  | .frz s i => st_frz i (allS_ok s)
theorem allSs_ok : ∀ cs : List CS, StsOk cs
  | [] => sts_nil
  | c :: r => sts_cons (allS_ok c) (allSs_ok r)
end
end Ev
end
section
set_option maxHeartbeats 1000000
namespace Ev
open PySem PySem.Spec PyProof.Rows L2
variable [WW]

/-! ## defs -/
def nms (d : Def) : List Str := d.nm.map S'
/-- the module behind its top, as the table of defs has it -/
structure Wld (P : Prog) (PR : Program) (w : World) (K : PySem.W.Frag) (mg : Str → Option Value) (base : Heap) (xa : String → Addr) : Prop where
  ww : w = WW.w
  con : ∀ x p, P.G x = some p → ∃ u v, mg (S' x) = some u ∧ RelV v u ∧ ∀ H W', Rep K H W' p v
  blt : ∀ x ∈ bnames, mg (S' x) = none
  defs : ∀ f d, P.D f = some d → ∃ fa fd st, mg (S' f) = some (.ref fa) ∧ Fun K (S' f) (S' f) st fa fd ∧ FnScope (nms d) ((nms d).take d.np) (defScope st) ∧ d.np ≤ (nms d).length ∧ L2.Binds K fd ((nms d).take d.np) [] ∧ mtSs (nms d) (defScope st) d.body (defBody st) = true
  exc : ∀ c, P.xc c = true → mg (S' c) = some (.ref (xa c)) ∧ PySem.W.excIn K (xa c) [.type "ValueError", .type "Exception", .type "BaseException", .type "object"] "ValueError.__new__" = true ∧ PySem.W.keepIn K (.ref (xa c)) = true ∧
    PySem.W.subIn K (.ref (xa c)) (.type "BaseException") = some true ∧ PySem.W.typeIn K (.ref (xa c)) = some (.type "type")
  hnd : ∀ c, P.xh c = true → mg (S' c) = some (.ref (xa c))
  exm : ∀ c d, P.xc c = true → P.xh d = true → PySem.W.exmOne K (.ref (xa c)) (.ref (xa d)) = some (P.sub c d)
  hdefs : ∀ f d, P.HD f = some d → ∃ fa fd st, mg (S' f) = some (.ref fa) ∧ Fun K (S' f) (S' f) st fa fd ∧ FnScope (nms d) ((nms d).take d.np) (defScope st) ∧ d.np ≤ (nms d).length ∧ L2.Binds K fd ((nms d).take d.np) [] ∧ mtSs (nms d) (defScope st) d.body (defBody st) = true
  isx : ∀ c d b, P.isx c d = some b → P.xc c = true → ExcC K (xa c) ∧ ((∃ D, mg (S' d) = some (.ref D) ∧ PySem.W.kitOne K (.ref (xa c)) (.ref D) = some b) ∨ (mg (S' d) = none ∧ d = "ValueError" ∧ PySem.W.kitOne K (.ref (xa c)) (.type "ValueError") = some b))
  cls : ∀ c, P.cls c = true → ClsOk PR w K mg base c
  ldefs : ∀ f d, P.LD f = some d → P.xh d.cls = true ∧ ∃ fa fd st a, mg (S' f) = some (.ref fa) ∧ Fun K (S' f) (S' f) st fa fd ∧ FnScope (d.nm.map S') [a] (defScope st) ∧ (d.nm.map S')[0]? = some a ∧ vis (defScope st) a = true ∧ plain a = true ∧ L2.Binds K fd [a] [] ∧ mtL d (d.nm.map S') a (defScope st) (defBody st) = true
  tabs : ∀ f' d', P.LD f' = some d' → ∀ f d fa fd oc od osl, P.D f = some d → mg (S' f) = some (.ref fa) → K.lookup fa = some ⟨oc, od, .func fd, osl⟩ → ∃ c Pt, fd.code = .ref c ∧ LamX.TabB base mg c Pt ∧ (Pt, S' f ++ ".<locals>." ++ "<lambda>") ∈ WW.tb ∧ ∀ p ∈ WW.tb, p.1 = Pt → p.2 = S' f ++ ".<locals>." ++ "<lambda>"
section
variable {K : PySem.W.Frag} {xa : String → Addr} {H H' : Hp} {L L' : Ads} {S S' : Store}
def Ads.cut (L : Ads) (n : Nat) : Ads := ⟨L.ad.take n, L.rs⟩
theorem live_cut {n : Nat} {a : Addr} (l : Live (L.cut n) (S.take n) a) : Live L S a := by
  obtain ⟨m, c, e1, e2⟩ := l
  refine ⟨m, c, ?_, ?_⟩
  · rw [List.getElem?_take] at e1
    split at e1
    · exact e1
    · cases e1
  · have e2 : (L.ad.take n)[m]? = some a := e2
    rw [List.getElem?_take] at e2
    split at e2
    · exact e2
    · cases e2
theorem keeps_cut {n : Nat} : Keeps H (Lv L S) H (Lv (L.cut n) (S.take n)) := fun a o _ e nl => ⟨e, fun l => nl (by
  rcases l with l | l
  · exact .inl (live_cut l)
  · exact .inr l)⟩
theorem take_get {α : Type} {l : List α} {n m : Nat} {x : α} (h : (l.take n)[m]? = some x) : l[m]? = some x := by
  rw [List.getElem?_take] at h
  split at h
  · exact h
  · cases h
theorem Heaps.cut (h : Heaps K H L S) (n : Nat) : Heaps K H (L.cut n) (S.take n) where
  len := by show (L.ad.take n).length = _; rw [List.length_take, List.length_take, h.len]
  res := h.res
  sep := fun a ha l => h.sep a ha (live_cut l)
  cell := fun m c a e1 e2 => (h.cell m c a (take_get e1) (take_get e2)).keeps keeps_cut fun _ z => z
  inj := fun m m' c d a e1 e2 e3 e4 => h.inj m m' c d a (take_get e1) (take_get e2) (take_get e3) (take_get e4)
  tbs := h.tbs
theorem Step.cut (h0 : Heaps K H L S) (st : Step H L S H' L' S') : Step H L S H' (L'.cut S.length) (S'.take S.length) := by
  refine ⟨fun a o nt e n => ?_, ⟨[], ?_⟩, st.rs⟩
  · obtain ⟨h1, h2⟩ := st.kept a o nt e n
    exact ⟨h1, fun l => h2 (live_cut l)⟩
  · obtain ⟨t, e⟩ := st.pre
    show L'.ad.take S.length = _
    rw [e, ← h0.len, List.take_left]
    simp
/-- cells are let go, the new one is kept -/
theorem cut_at {c d : Cell} {a b : Addr} {n m : Nat} (hl : L.ad.length = S.length) (e1 : (S.take n ++ [some c])[m]? = some (some d)) (e2 : (L.ad.take n ++ [a])[m]? = some b) :
    ∃ m', (S ++ [some c])[m']? = some (some d) ∧ (L.ad ++ [a])[m']? = some b ∧ ((m < (S.take n).length ∧ m' = m) ∨ (m = (S.take n).length ∧ m' = S.length)) := by
  have hlt : (L.ad.take n).length = (S.take n).length := by rw [List.length_take, List.length_take, hl]
  by_cases z : m < (S.take n).length
  · rw [List.getElem?_append_left z] at e1
    rw [List.getElem?_append_left (by omega)] at e2
    have q1 := take_get e1
    have q2 := take_get e2
    exact ⟨m, by rw [List.getElem?_append_left (List.getElem?_eq_some_iff.mp q1).1]; exact q1, by rw [List.getElem?_append_left (List.getElem?_eq_some_iff.mp q2).1]; exact q2, .inl ⟨z, rfl⟩⟩
  · have hm : m < (S.take n ++ [some c]).length := (List.getElem?_eq_some_iff.mp e1).1
    rw [List.length_append, List.length_singleton] at hm
    have hm' : m = (S.take n).length := by omega
    rw [hm', List.getElem?_append_right (Nat.le_refl _), Nat.sub_self] at e1
    rw [hm', ← hlt, List.getElem?_append_right (Nat.le_refl _), Nat.sub_self] at e2
    refine ⟨S.length, ?_, ?_, .inr ⟨hm', rfl⟩⟩
    · rw [List.getElem?_append_right (Nat.le_refl _), Nat.sub_self]; exact e1
    · rw [← hl, List.getElem?_append_right (Nat.le_refl _), Nat.sub_self]; exact e2
theorem Heaps.cutNew {c : Cell} {a : Addr} (h : Heaps K H ⟨L.ad ++ [a], L.rs⟩ (S ++ [some c])) (n : Nat) : Heaps K H ⟨(L.cut n).ad ++ [a], (L.cut n).rs⟩ (S.take n ++ [some c]) := by
  have hl : L.ad.length = S.length := by
    have := h.len
    simp only [List.length_append, List.length_singleton] at this
    omega
  have lv : ∀ b, Live ⟨L.ad.take n ++ [a], L.rs⟩ (S.take n ++ [some c]) b → Live ⟨L.ad ++ [a], L.rs⟩ (S ++ [some c]) b := fun b ⟨m, d, e1, e2⟩ => by
    obtain ⟨m', q1, q2, _⟩ := cut_at hl e1 e2
    exact ⟨m', d, q1, q2⟩
  have kp : Keeps H (Lv ⟨L.ad ++ [a], L.rs⟩ (S ++ [some c])) H (Lv ⟨L.ad.take n ++ [a], L.rs⟩ (S.take n ++ [some c])) := fun b o _ e nl => ⟨e, fun l => nl (by
    rcases l with l | l
    · exact .inl (lv b l)
    · exact .inr l)⟩
  refine ⟨?_, h.res, fun b hb l => h.sep b hb (lv b l), fun m d b e1 e2 => ?_, fun m m' d d' b e1 e2 e3 e4 => ?_, h.tbs⟩
  · show (L.ad.take n ++ [a]).length = _
    rw [List.length_append, List.length_append, List.length_take, List.length_take, hl]
    rfl
  · obtain ⟨m', q1, q2, _⟩ := cut_at hl e1 e2
    exact (h.cell m' d b q1 q2).keeps kp fun _ z => z
  · obtain ⟨j, q1, q2, q3⟩ := cut_at hl e1 e3
    obtain ⟨j', r1, r2, r3⟩ := cut_at hl e2 e4
    have hj := h.inj j j' d d' b q1 r1 q2 r2
    have hle : (S.take n).length ≤ S.length := by rw [List.length_take]; omega
    rcases q3 with ⟨z1, z2⟩ | ⟨z1, z2⟩ <;> rcases r3 with ⟨y1, y2⟩ | ⟨y1, y2⟩ <;> omega
theorem NewL.cut {H0 : Hp} {L0 : Ads} {S0 : Store} {p : PV} {v : V} (h : NewL K H0 L0 S0 H L S p v) (n : Nat) : NewL K H0 L0 S0 H (L.cut n) (S.take n) p v := by
  obtain ⟨a, xs, e1, e2, e3, e4⟩ := h
  exact ⟨a, xs, e1, e2, e3, e4.cutNew n⟩
/-- from what a def comes to, to what is wanted of its body -/
theorem ends_ok {g : Cfg} {ha : Addr} {o : SO} {Q : VK} {E : XK} {b : Bool} (hb : g.nw = b) (h0 : Heaps K H L S) (h : Post K xa (RetB b K H L S) H L S (endsB b S.length o) Q E) :
    PostS g ha K xa H L S o { nx := fun _ H' => Q .non H', rt := Q } (fun cls d _ H => E cls d H) := by
  cases o with
  | next σ S1 =>
    cases b with
    | false => exact fun σ' H1 L1 hh st _ => h .non H1 (L1.cut S.length) (hh.cut _) (st.cut h0) ⟨rfl, fun z => by cases z⟩
    | true => exact h.elim
  | ret v S1 =>
    have h : Post K xa (RetB b K H L S) H L S (.ok v (S1.take S.length)) Q E := by cases b <;> exact h
    exact fun u H1 L1 hh st r nl => h u H1 (L1.cut S.length) (hh.cut _) (st.cut h0) ⟨Rep.keeps keeps_cut v u r, fun z => (nl (hb.trans z)).cut _⟩
  | err e σ S1 =>
    have h : Post K xa (RetB b K H L S) H L S (.err e (S1.take S.length)) Q E := by cases b <;> exact h
    exact fun d σ' H1 L1 hh st _ xp => h d H1 (L1.cut S.length) (hh.cut _) (st.cut h0) xp
  | cont σ S1 => cases b <;> exact h.elim
  | brk σ S1 => cases b <;> exact h.elim
  | stuck => cases b <;> exact h.elim
theorem RepSs.get : ∀ {as : List Sl} {vs : List V} {i : Nat} {s : Sl}, RepSs K H L S as vs → as[i]? = some s → ∃ v, vs[i]? = some v ∧ RepS K H L S s v
  | [], vs, i, s, h, e => by cases e
  | x :: xs, vs, 0, s, h, e => by obtain ⟨v, r, rfl, h1, h2⟩ := h; cases e; exact ⟨v, rfl, h1⟩
  | x :: xs, vs, i + 1, s, h, e => by obtain ⟨v, r, rfl, h1, h2⟩ := h; exact RepSs.get (i := i) h2 e
theorem slots_start {d : Def} {as : List Sl} {vs : List V} (h : RepSs K H L S as vs) (hn : as.length = d.np) (hl : d.np ≤ (nms d).length) : Slots K H L S (begins d as) (L2.start (nms d) vs) := by
  have hl2 := h.length
  have hnm : (nms d).length = d.nm.length := List.length_map ..
  refine ⟨by simp [begins, L2.start]; omega, fun i s e => ?_⟩
  unfold begins at e
  unfold L2.start
  by_cases hi : i < as.length
  · rw [List.getElem?_append_left (by simpa using hi), List.getElem?_map] at e
    cases q : as[i]? with
    | none => rw [q] at e; cases e
    | some s' =>
      rw [q] at e
      cases e
      obtain ⟨v, ev, r⟩ := h.get q
      refine ⟨v, ?_, r⟩
      rw [List.getElem?_append_left (by rw [List.length_map]; omega), List.getElem?_map, ev]
      rfl
  · rw [List.getElem?_append_right (by simpa using hi), List.getElem?_replicate] at e
    split at e <;> cases e
end
theorem raises_of {X : Cx} {v : Value} (h1 : PySem.W.subIn X.K v (.type "BaseException") = some true) (h2 : PySem.W.typeIn X.K v = some (.type "type")) : Raises X v := raises_own h1 h2
theorem callB_zero {P : Prog} {b : Bool} {f : String} {as : List Sl} {S : Store} : callB P 0 b f as S = .stuck := by simp only [callB]
theorem call_len {P : Prog} {n : Nat} {b : Bool} {f : String} {as : List Sl} {S : Store} (h : callB P n b f as S ≠ .stuck) : ∃ d, P.D f = some d ∧ as.length = d.np := by
  cases n with
  | zero => exact absurd callB_zero h
  | succ n =>
    simp only [callB] at h
    cases q : P.D f with
    | none => rw [q] at h; exact absurd rfl h
    | some d =>
      rw [q] at h
      refine ⟨d, rfl, ?_⟩
      by_cases z : as.length = d.np
      · exact z
      · simp [z] at h
section
variable {P : Prog} {PR : Program} {w : World} {K : PySem.W.Frag} {mg : Str → Option Value} {base : Heap} {xa : String → Addr}
theorem isE_ok (wd : Wld P PR w K mg base xa) {X : Cx} (hK : X.K = K) (hm : X.mg = mg) {c d : String} {b : Bool} (h : P.isx c d = some b) (hc : P.xc c = true) {a : Addr} {oe : Obj} {pn : List (Addr × Obj)} (z : Zc (.ref (xa c)) none oe) (fl : ∃ vs, oe.data = .fields vs) :
    IsE (X.suite a ((a, oe) :: pn)) d a b := by
  subst hK hm
  intro i f y cs q r t pos σ H Q h1 h2 h3 hσ hQ
  simp only [Bool.and_eq_true, beq_iff_eq] at h1 h2 h3
  obtain ⟨⟨rfl, g1⟩, pl1⟩ := h1
  obtain ⟨⟨hN, hv⟩, pl2⟩ := h2
  obtain ⟨⟨rfl, g3⟩, pl3⟩ := h3
  obtain ⟨d1, d2, d3⟩ := plain_ok pl1
  obtain ⟨y1, y2, y3⟩ := plain_ok pl2
  obtain ⟨e1, e2, e3⟩ := plain_ok pl3
  obtain ⟨xc, hk⟩ := wd.isx c d b h hc
  have hb : X.mg (S' "isinstance") = none := wd.blt _ (by decide)
  have pv : PE (X.suite a ((a, oe) :: pn)) (.Name y r) (tVar i) := pe_var hN (vis_ok hv) y1 y2
  rcases hk with ⟨D, hD, hk⟩ | ⟨hD, rfl, hk⟩
  · refine T_of (pe_callB (call_isE xc z fl) (glo_ok g1) hb (by decide +kernel) (pa_cons pv (pa_cons (pe_glob (v := .ref D) (glo_ok g3) hD rfl e1) pa_nil)) d3 d1) ?_
    exact ⟨.ref a, hσ, .ref D, .ref D, b, rfl, fun u hu => hu, hk, hQ⟩
  · refine T_of (pe_callB (call_isE xc z fl) (glo_ok g1) hb (by decide +kernel) (pa_cons pv (pa_cons (pe_bltn (v := .ty "ValueError") (u := .type "ValueError") (glo_ok g3) hD (by decide +kernel) rfl e3 e1) pa_nil)) d3 d1) ?_
    exact ⟨.ref a, hσ, .ty "ValueError", .type "ValueError", b, rfl, fun u hu => hu, hk, hQ⟩
theorem heaps0 {H : Hp} (t : LamX.Tabs WW.tb H) : Heaps K H ⟨[], []⟩ [] where
  tbs := t
  len := rfl
  res := fun a h => absurd h (by simp)
  sep := fun a h => absurd h (by simp)
  cell := fun n c a h => by simp at h
  inj := fun m n c d a h => by simp at h
theorem flat_rep {p : PV} (h : flat p = true) {K' : PySem.W.Frag} {H : Hp} {W : Addr → Prop} {v : V} (r : Rep K' H W p v) : ∀ K H' W', Rep K H' W' p v := by
  intro K H' W'
  cases p with
  | non => exact r
  | bl b => exact r
  | int i => exact r
  | str x => exact r
  | _ => cases h
/-- a def that is handed the exception at hand -/
theorem hot_ok (wd : Wld P PR w K mg base xa) {X : Cx} (hP : X.prog = PR) (hw : X.w = w) (hK : X.K = K) (hm : X.mg = mg) (hbs : X.base = base) (hr : Room 2 X.A) {f c : String} {v : PV} (h : hotV P f c = some v) (hc : P.xc c = true) {a : Addr} {oe : Obj} {pn : List (Addr × Obj)} (z : Zc (.ref (xa c)) none oe) (fl : ∃ vs, oe.data = .fields vs) :
    HotE (X.suite a ((a, oe) :: pn)) f a v := by
  subst hP hw hK hm hbs
  intro i x y q r pos σ H Q h1 h2 hσ hT0 hQ
  simp only [Bool.and_eq_true, beq_iff_eq] at h1 h2
  obtain ⟨⟨rfl, g1⟩, pl1⟩ := h1
  obtain ⟨⟨hN, hv⟩, pl2⟩ := h2
  obtain ⟨d1, d2, d3⟩ := plain_ok pl1
  obtain ⟨y1, y2, y3⟩ := plain_ok pl2
  unfold hotV at h
  split at h
  · rename_i d hd
    obtain ⟨hnp, h⟩ : d.np = 1 ∧ _ := by
      by_cases hnp : d.np = 1
      · rw [if_pos hnp] at h; exact ⟨hnp, h⟩
      · rw [if_neg hnp] at h; cases h
    obtain ⟨fa, fd, st, q1, q2, q3, q4, q5, q6⟩ := wd.hdefs f d hd
    have hlen : ((nms d).take d.np).length = 1 := by rw [List.length_take]; omega
    have pv : PE (X.suite a ((a, oe) :: pn)) (.Name y r) (tVar i) := pe_var hN (vis_ok hv) y1 y2
    have pa : PA (X.suite a ((a, oe) :: pn)) [.Name y r] (tCons (tVar i) tNil) := pa_cons pv pa_nil
    intro pins s I
    refine wpAny_Call_Name_kw (ld_glob I (glo_ok g1) q1 ?_ d1)
    refine PySem.W.callWith_K (h₀ := X.base) I.ok.mod.kin q2.kp (thn (pa.run pos pins s σ H (fun vs H1 => vs = [.ref a] ∧ H1 = H) I ⟨.ref a, hσ, rfl, rfl⟩) fun us s1 z1 => ?_) rfl rfl
    obtain ⟨vs, H1, I1, r1, e1, e2⟩ := z1
    subst e1 e2
    refine ⟨I1.kIn, ?_⟩
    have hl : us.length = ((nms d).take d.np).length := by rw [← r1.length, hlen]; rfl
    have hb := q5 s1 us I1.kIn (by rw [List.append_nil]; exact hl)
    rw [List.append_nil] at hb
    have P1 := I1.pin (a, oe) (List.mem_append_left _ List.mem_cons_self)
    have hpin : L2H.PinOk (X.suite a ((a, oe) :: pn)).stack H1 s1 (a, oe) := ⟨P1.1, P1.2.1, fun hm => (List.mem_cons.mp (I1.stkSub a hm)).elim P1.2.2.1 P1.2.2.2.1, P1.2.2.2.2⟩
    have e0 := I1.env0
    suffices hs : codeAny (model X.prog X.w) (X.suite a ((a, oe) :: pn)).A (.call (.ref fa) ⟨us, []⟩) (CR (L2.CX X.prog X.w) (X.suite a ((a, oe) :: pn)).stack X.prog X.w H1 s1 Q E0) s1 by
      refine wpAny_call (codeAny_mono hs fun r s' hq => ?_)
      cases r with
      | error e => obtain ⟨_, _, _, _, _, _, _, _, _, _, _, _, zz⟩ := hq; exact zz.elim
      | ok fl =>
        cases fl with
        | ret u => exact I1.after hq
        | next => exact False.elim hq
        | brk => exact False.elim hq
        | cont => exact False.elim hq
    obtain ⟨oc, od, kV, doc, pm, an, cdv, ct, osl, rfl, lk, hcd⟩ := q2.ex
    have KX := I1.kIn
    have hkind : ∀ y ∈ ((nms d).take d.np).zip us, (defScope st).names.lookup y.1 = some .local ∨ ((defScope st).names.lookup y.1 = some .cell ∧ ((cellsFrom (s1.heap.objs.size + 1) (defScope st).names []).lookup y.1).isSome = true) := fun y hy => by
      rcases q3.par y.1 (List.of_mem_zip (a := y.1) (b := y.2) hy).1 with k | k
      · exact .inl k
      · exact .inr ⟨k, PySem.W.cellsFrom_some _ _ _ (.inl k)⟩
    have hdep : (X.suite a ((a, oe) :: pn)).A.depth < recursionLimit := by have := hr.dp; show X.A.depth < _; omega
    refine codeAny_call_function hdep (KX _ _ lk) rfl q3.co q3.gen rfl (PySem.W.codeRec_of KX hcd) (hb _ _ _ _ ?_)
    refine wpAny_newFunctionEnv_cells q3.kind hkind fun env he s2 x => ?_
    subst he
    refine ⟨I1.nolimit.keeps x.toInCall.keep, codeAny_func ?_⟩
    have J := L2H.inv_startH (CX := L2.CX X.prog X.w) (E := E0) q3 hpin e0 (by rw [hlen]; rfl) r1 x
    let Y : Cx := cxOf (L2.CX X.prog X.w) X.prog X.w X.K X.mg X.base (nms d) (S' f) (defScope st) fa cdv X.A (X.suite a ((a, oe) :: pn)).stack s1 H1 E0
    have cc : Ctx (hotG P c) (Y.suite a [(a, oe)]) (fun _ _ _ _ => False) xa 0 a := {
      calm := rfl
      nd := q3.nd
      tk := takes0
      un := by have := hr.un; show X.A.units + 3 + 200 < cLine; omega
      ww := wd.ww
      room := fun h => by cases h
      con := wd.con
      blt := wd.blt
      fns := fun f' h => by cases h
      fnsN := fun f' h => by cases h
      cls := wd.cls
      k2 := fun h => by cases h
      hxn := fun h => by cases h
      hots := fun f' cc i v _ h => by cases h
      ish := fun cc i d' b h hb => by
        cases h
        exact isE_ok wd (X := Y) rfl rfl hb hc z fl
      lams := fun h => by cases h }
    have cs : SCtx (hotG P c) (Y.suite a [(a, oe)]) xa := {
      pass := fun h => by cases h
      fn := fun _ => rfl
      stk := rfl
      fr := rfl
      kind := q3.kind
      exc := fun c' hc' => by
        obtain ⟨x1, x2, x3, x4, x5⟩ := wd.exc c' hc'
        exact ⟨x1, x2, x3, raises_of x4 x5⟩
      hnd := wd.hnd
      exm := wd.exm
      hot := fun pn0 xe f' cc v hv => by cases hv
      ish := fun pn0 xe c' d' b hv hc' a' oe' pn' z' fl' => isE_ok wd (X := (Y.suite a [(a, oe)]).tr pn0 xe) rfl rfl hv hc' z' fl' }
    have hnl : (nms d).length = d.nm.length := List.length_map ..
    have hbody : TSsv (Y.suite a [(a, oe)]) (defBody st) { nx := fun _ H' => Q .non H', rt := Q } (L2.start (nms d) [.ref a]) H1 := by
      refine allSs_ok d.body cc cs (defBody st) q6 (List.replicate d.nm.length none) _ H1 ⟨[], []⟩ [] _ (heaps0 hT0) ⟨⟨?_, fun j s hj => ?_⟩, fun c' j hj => ?_⟩ ?_
      · rw [List.length_replicate]
        unfold L2.start
        rw [List.length_append, List.length_replicate]
        show d.nm.length = 1 + ((nms d).length - 1)
        omega
      · rw [List.getElem?_replicate] at hj
        split at hj <;> cases hj
      · cases hj
        rfl
      · split at h
        · rename_i v' S' ho
          have ho' : exs (hotG P c) d.body (List.replicate d.nm.length none) [] = .ret v' S' := ho
          rw [ho']
          split at h
          · rename_i hf
            cases h
            exact fun u H' L' hh' st' ru _ => hQ u H' (fun b o nt e => (st'.kept b o nt e fun l => by obtain ⟨n, _, e, _⟩ := l; simp at e).1) hh'.tbs (flat_rep hf ru)
          · cases h
        · cases h
    refine wpAny_mono ((PSs.nox (X := L2H.cxH (L2.CX X.prog X.w) X.prog X.w X.K X.mg X.base (nms d) (S' f) (defScope st) fa cdv (X.suite a ((a, oe) :: pn)).A (X.suite a ((a, oe) :: pn)).stack s1 H1 E0 (a, oe)) (pss_T (X := Y.suite a [(a, oe)]) (defBody st))).run [] s2 _ H1 _ J hbody) (fun fl s' hs => ?_) fun e s' hs => hs
    cases fl with
    | ret u =>
      obtain ⟨v, σ', H', J, rv, q⟩ := hs
      exact ⟨v, H', J.os, J.bare, J.base, J.hok, rv, q⟩
    | next =>
      obtain ⟨σ', H', J, q⟩ := hs
      exact ⟨.non, H', J.os, J.bare, J.base, J.hok, rfl, q⟩
    | brk => obtain ⟨_, _, _, q⟩ := hs; exact q.elim
    | cont => obtain ⟨_, _, _, q⟩ := hs; exact q.elim
  · cases h
end
/-! ## lambdas -/
section
variable {P : Prog} {PR : Program} {w : World} {K : PySem.W.Frag} {mg : Str → Option Value} {base : Heap} {xa : String → Addr}
def nmL (d : LDef) : List Str := d.nm.map S'
theorem ret_ok {g : Cfg} {ha : Addr} {K : PySem.W.Frag} {H H2 : Hp} {L L2 : Ads} {S S2 : Store} {o : SO} {Q : VK} {D : Ends} {W : WX} (hD : D.rt = Q) (h0 : Heaps K H L S) (st : Step H L S H2 L2 S2) (h : Post K xa (RepV K) H L S (retOnly S.length o) Q (fun _ _ _ => False)) : PostS g ha K xa H2 L2 S2 o D W := by
  cases o with
  | ret v S1 => exact fun u H1 L1 hh st1 r nl => by rw [hD]; exact h u H1 (L1.cut S.length) (hh.cut _) ((st.trans st1).cut h0) (Rep.keeps keeps_cut v u r)
  | next σ S1 => exact h.elim
  | cont σ S1 => exact h.elim
  | brk σ S1 => exact h.elim
  | err e σ S1 => exact h.elim
  | stuck => exact h.elim
/-- what such a def makes of what it is handed -/
def TTof (K : PySem.W.Frag) (xa : String → Addr) (P : Prog) (f : String) : (XK → Hp → VK → Prop) → Hp → VK → Prop := fun tl H Q => ∃ (F : Store → Out PV) (L : Ads) (S : Store), Heaps K H L S ∧
  (∀ H' L' S' Q' E, Heaps K H' L' S' → Step H L S H' L' S' → Post K xa (RepV K) H' L' S' (F S') Q' E → tl E H' Q') ∧ Post K xa (RepV K) H L S (lamB P f F S) Q (fun _ _ _ => False)
theorem slots_none {K : PySem.W.Frag} {H : Hp} {L : Ads} {S : Store} {n : Nat} {σ : Sx} (h : σ.length = n) : Slots K H L S (List.replicate n none) σ :=
  ⟨by rw [List.length_replicate, h], fun i s e => by rw [List.getElem?_replicate] at e; split at e <;> cases e⟩
theorem lam_gives (wd : Wld P PR w K mg base xa) {X : Cx} (hP : X.prog = PR) (hw : X.w = w) (hK : X.K = K) (hm : X.mg = mg) (hbs : X.base = base) (hr : Room 3 X.A) {f : String} {d : LDef} (hd : P.LD f = some d) (hxh : P.xh d.cls = true) {fa : Addr} {cdv : Value} {st : Stmt} {a : Str} (Sg : FnScope (nmL d) [a] (defScope st)) (hN0 : (nmL d)[0]? = some a)
    (hmt : mtL d (nmL d) a (defScope st) (defBody st) = true) (q : Str) : LamX.GivesTo X (nmL d) (S' f) (defScope st) fa cdv (defBody st) a q (TTof X.K xa P f) := by
  subst hP hw hK hm hbs
  intro fl c' s H Q tl act hc h
  obtain ⟨F, L, S0, hh, hF, hp⟩ := h
  let Y : Cx := (cxOf C8.CX0 X.prog X.w X.K X.mg X.base (nmL d) (S' f) (defScope st) fa cdv X.A X.stack s H C8.E0).nox
  have hrY : Room 2 Y.A := hr.deeper _
  have c : Ctx (lamG P) Y (fun _ _ _ _ => False) xa 2 0 := {
    calm := rfl
    nd := Sg.nd
    tk := takes0
    un := by have := hrY.un; omega
    ww := wd.ww
    room := fun _ => hrY
    con := wd.con
    blt := wd.blt
    fns := fun f' h => by cases h
    fnsN := fun f' h => by cases h
    cls := wd.cls
    k2 := fun h => Nat.le_refl _
    hxn := fun h => rfl
    hots := fun f' cc i v h => by cases h
    ish := fun cc i d' b h => by cases h
    lams := fun _ f' X' _ ps e' scope p lp pos σ' H2 L2 S2 Q2 F _ _ _ _ _ _ z => z.elim }
  have c2 : SCtx (lamG P) Y xa := {
    pass := fun h => PassesOwn.never
    fn := fun _ => rfl
    stk := rfl
    fr := rfl
    kind := Sg.kind
    exc := fun c' hc' => by
      obtain ⟨x1, x2, x3, x4, x5⟩ := wd.exc c' hc'
      exact ⟨x1, x2, x3, raises_of x4 x5⟩
    hnd := wd.hnd
    exm := wd.exm
    hot := fun pn0 xe f' cc v hv hc a oe pn z fl => hot_ok wd (X := Y.tr pn0 xe) rfl rfl rfl rfl rfl hrY hv hc z fl
    ish := fun pn0 xe cc d' b hv hc a oe pn z fl => isE_ok wd (X := Y.tr pn0 xe) rfl rfl hv hc z fl }
  refine ⟨TSsv Y (defBody st), pss_T _, ?_⟩
  have hlen : (L2.start (nmL d) [V.ref fl]).length = d.nm.length := by
    have h1 : (nmL d).length = d.nm.length := List.length_map ..
    have h2 : 0 < (nmL d).length := (List.getElem?_eq_some_iff.mp hN0).1
    unfold L2.start
    rw [List.length_append, List.length_replicate]
    show 1 + ((nmL d).length - 1) = _
    omega
  have h0 : (L2.start (nmL d) [V.ref fl])[0]? = some (some (V.ref fl)) := rfl
  generalize hσ : L2.start (nmL d) [V.ref fl] = σ0 at *
  generalize hbd : defBody st = bd at *
  unfold mtL at hmt
  split at hmt
  · rename_i t cn y hs hpos tpos r
    simp only [Bool.and_eq_true, Bool.not_eq_true', beq_iff_eq] at hmt
    obtain ⟨⟨⟨⟨⟨m1, m2⟩, m3⟩, m4⟩, m5⟩, m6⟩ := hmt
    cases hs with
    | nil => cases m5
    | cons b0 hr0 =>
    obtain ⟨p1, rfl, g1, pl1⟩ := isName_inv m1
    obtain ⟨d1, d2, d3⟩ := plain_ok pl1
    have nms : Names Y (S' d.cls) (.ref (xa d.cls)) := ⟨glo_ok g1, d1, .inl (wd.hnd d.cls hxh)⟩
    have hln : Y.env.kindOf y = some .local := by
      have z := m2.2
      unfold locB at z
      split at z
      · assumption
      · cases z
    let ts : Addr → Value → Option Addr → TS := fun ea cls dd D σ H => ∀ oe pn, Zc cls dd oe → (∃ vs, oe.data = .fields vs) → TSsv (Y.suite ea ((ea, oe) :: pn)) (b0 :: hr0) D σ H
    let tb : WX → TS := fun W' D σ H => ∀ pn xe, Takes (Y.tr pn xe) W' → PassesOwn (model X.prog X.w) Y.A Y.env xe → TSsv (Y.tr pn xe) [t] D σ H
    have pb : ∀ (W' : WX) (pn : List (Addr × Obj)) (xe : Value → Shared → Prop), Takes (Y.tr pn xe) W' → PassesOwn (model X.prog X.w) Y.A Y.env xe → PSs (Y.tr pn xe) [t] (tb W') := fun W' pn xe t p => ⟨fun pins s σ H D I h => h pn xe t p pins s I⟩
    have ps : ∀ (ea : Addr) (oe : Obj) (cls : Value) (dd : Option Addr) (pn : List (Addr × Obj)), Zc cls dd oe → (∃ vs, oe.data = .fields vs) → PSs (Y.suite ea ((ea, oe) :: pn)) (b0 :: hr0) (ts ea cls dd) := fun ea oe cls dd pn z f => ⟨fun pins s σ H D I h => h oe pn z f pins s I⟩
    refine TSs_of (pss_cons (ps_T _) (pss_T r)) (TS_of (ps_try_as c2.stk c2.fr Sg.nd m2.1 hln nms takes0 pb ps) ?_)
    intro pn xe tk po
    -- what comes of an exception
    have herr : ∀ {D : Ends} {e : Exn} {S1 : Store}, D.rt = Q → F S0 = .err e S1 → ∀ (dd : Option Addr) (H1 : Hp) (L1 : Ads), Heaps X.K H1 L1 S1 → Step H L S0 H1 L1 S1 → XPay e.pay dd → ∀ σ', wAs X.K (.ref (xa d.cls)) d.x ts (fun _ _ _ _ => False) D (.ref (xa e.cls)) dd σ' H1 := by
      intro D e S1 hD hf dd H1 L1 hh1 st1 xp σ'
      simp only [lamB, hd, hf] at hp
      split at hp
      · rename_i hxs
        rw [Bool.and_eq_true] at hxs
        refine ⟨true, by rw [← hxs.2]; exact wd.exm e.cls d.cls hxs.1 hxh, fun _ ea hea => ?_, fun z => by cases z⟩
        intro oe pn z f
        have hdd : dd = none := by
          cases hpp : e.pay with
          | non => rw [hpp] at xp; exact xp
          | _ => rw [hpp] at xp; exact xp.elim
        subst hdd
        intro pins s9 I
        have hl9 : (σ'.set d.x (some (V.ref ea))).length = d.nm.length := by
          rw [I.len]
          exact List.length_map ..
        have cs := c.suite c2 hxs.1 (some d.x) (a := ea) (oe := oe) (pn := pn) z f
        have c2s := c2.suite e.cls (some d.x) (a := ea) (p := (ea, oe) :: pn)
        refine allSs_ok d.suite cs c2s _ m4 (List.replicate d.nm.length none) (σ'.set d.x (some (.ref ea))) H1 L1 S1 { nx := fun σ' H' => D.nx (σ'.set d.x none) H', rt := D.rt, bk := fun σ' H' => D.bk (σ'.set d.x none) H', ct := fun σ' H' => D.ct (σ'.set d.x none) H' } hh1 ⟨slots_none hl9, fun cc j z => ?_⟩ (ret_ok hD hh st1 hp) pins s9 I
        cases z
        have h8 : d.x < σ'.length := by
          have l2 := (List.getElem?_eq_some_iff.mp m2.1).1
          have l3 : (nmL d).length = d.nm.length := List.length_map ..
          rw [List.length_set] at hl9
          omega
        rw [List.getElem?_set_self h8]
      · exact hp.elim
    unfold actB at m3
    split at m3
    · rename_i y' q1 q2 q3
      simp only [Bool.and_eq_true, beq_iff_eq] at m3
      obtain ⟨hret, rfl⟩ := m3
      refine TSs_of (pss_one (ps_ret (act _ pn xe (fun cls dd H' => ∀ σ', wAs X.K (.ref (xa d.cls)) d.x ts (fun _ _ _ _ => False) _ cls dd σ' H') q1 q2 tk (fun cls dd σ' H' z => z σ')))) ⟨h0, hc, hF H L S0 _ _ hh .refl ?_⟩
      cases hf : F S0 with
      | ok v S1 =>
        simp only [lamB, hd, hf, hret, if_true] at hp
        exact fun u H1 L1 hh1 st1 r => hp u H1 (L1.cut S0.length) (hh1.cut _) (st1.cut hh) (Rep.keeps keeps_cut v u r)
      | err e S1 => exact fun dd H1 L1 hh1 st1 xp σ' => herr rfl hf dd H1 L1 hh1 st1 xp σ'
      | stuck => simp only [lamB, hd, hf] at hp; exact hp
    · rename_i y' q1 q2 q3
      simp only [Bool.and_eq_true, beq_iff_eq, Bool.not_eq_true'] at m3
      obtain ⟨hret, rfl⟩ := m3
      refine TSs_of (pss_one (ps_expr (act _ pn xe (fun cls dd H' => ∀ σ', wAs X.K (.ref (xa d.cls)) d.x ts (fun _ _ _ _ => False) _ cls dd σ' H') q1 q2 tk (fun cls dd σ' H' z => z σ')) rfl)) ⟨h0, hc, hF H L S0 _ _ hh .refl ?_⟩
      cases hf : F S0 with
      | ok v S1 =>
        simp only [lamB, hd, hf, hret, Bool.false_eq_true, if_false] at hp
        exact fun u H1 L1 hh1 st1 r => allSs_ok d.rest c c2 _ m6 (List.replicate d.nm.length none) σ0 H1 L1 S1 _ hh1 ⟨slots_none hlen, fun cc j z => by cases z⟩ (ret_ok rfl hh st1 hp)
      | err e S1 => exact fun dd H1 L1 hh1 st1 xp σ' => herr rfl hf dd H1 L1 hh1 st1 xp σ'
      | stuck => simp only [lamB, hd, hf] at hp; exact hp
    · cases m3
  · cases hmt
end
theorem lk_of {K : PySem.W.Frag} {x qual : Str} {st : Stmt} {f : Addr} {fd : FuncData} (F : Fun K x qual st f fd) : ∃ oc od osl, K.lookup f = some ⟨oc, od, .func fd, osl⟩ := by
  obtain ⟨oc, od, kV, doc, pm, an, cdv, ct, osl, rfl, lk, hcd⟩ := F.ex
  exact ⟨oc, od, osl, lk⟩
theorem noPar_inv {a : Arguments} (h : noPar a = true) : a = ⟨[], [], none, [], [], none, []⟩ := by
  obtain ⟨a1, a2, a3, a4, a5, a6, a7⟩ := a
  simp only [noPar, Bool.and_eq_true, List.isEmpty_iff, Option.isNone_iff_eq_none] at h
  obtain ⟨⟨⟨⟨⟨⟨h1, h2⟩, h3⟩, h4⟩, h5⟩, h6⟩, h7⟩ := h
  subst h1 h2 h3 h4 h5 h6 h7
  rfl
theorem lam_ok {P : Prog} {PR : Program} {w : World} {K : PySem.W.Frag} {mg : Str → Option Value} {base : Heap} {xa : String → Addr} (wd : Wld P PR w K mg base xa) {X : Cx} (hP : X.prog = PR) (hw : X.w = w) (hK : X.K = K) (hm : X.mg = mg) (hbs : X.base = base) (hnd : X.N.Nodup) {k : Nat} (hr : Room (k + 2) X.A)
    {g : Cfg} (hg : g.low = ⟨true, none, callB P (k - 2) false, P.G, hotV P, P.sub, fun x => (P.D x).isSome, P.xc, P.xh, P.isx, false, callB P (k - 2) true, P.cls, fun _ _ _ => .stuck, g.CL, g.CLN⟩) (hl : g.lam = lamN P k)
    (hcode : ∀ f' d', P.LD f' = some d' → ∃ c Pt, X.env.code = .ref c ∧ LamX.TabB X.base X.mg c Pt ∧ (Pt, X.env.qual ++ "<lambda>") ∈ WW.tb ∧ ∀ p ∈ WW.tb, p.1 = Pt → p.2 = X.env.qual ++ "<lambda>")
    (fnc : ∀ (b' : Bool) (f' : String), (P.D f').isSome = true → ∀ Y : Cx, Y.prog = PR → Y.w = w → Y.K = K → Y.mg = mg → Y.base = base → FnC b' Y xa (callB P (k - 2) b') (k - 2 + 2) f') (f : String) : LamE g X xa f := by
  subst hP hw hK hm hbs
  intro ps e scope p lp pos σ H L S Q F hgl hpl hnp hsc hh hbody hq
  rw [hl] at hq
  unfold lamN at hq
  split at hq
  rotate_left
  · exact hq.elim
  rename_i hk2
  cases hd : P.LD f with
  | none =>
    unfold lamB at hq
    rw [hd] at hq
    exact hq.elim
  | some d =>
    obtain ⟨hxh, fa, fd, st, a, q1, q2, q3, q4, q5, q6, q7, q8⟩ := wd.ldefs f d hd
    obtain ⟨c, Pt, z1, z2, z3, z4⟩ := hcode f d hd
    obtain ⟨d1, d2, d3⟩ := plain_ok hpl
    obtain ⟨a1, a2, a3⟩ := plain_ok q6
    obtain ⟨oc, od, kV, doc, pm, an, cdv, ct, osl, rfl, lk, hcd⟩ := q2.ex
    obtain rfl := noPar_inv hnp
    have hG := lam_gives wd (X := X) rfl rfl rfl rfl rfl (hr.mono (by omega)) hd hxh (fa := fa) (cdv := cdv) (st := st) (a := a) q3 q4 q8 (X.env.qual ++ "<lambda>")
    refine T_of (LamX.pe_lamcall (T := WW.tb) (k := k) (t := fun E σ' H' Q' => σ' = σ ∧ ∃ L' S', Heaps X.K H' L' S' ∧ Step H L S H' L' S' ∧ Post X.K xa (RepV X.K) H' L' S' (F S') Q' E) (glo_ok hgl) q1 q2.kp lk hcd q7 q3 q4 (vis_ok q5) hG z2 z1 z3 z4 hr (LamX.lamS_by hsc) rfl (fun _ _ _ _ _ => rfl) (fun A outer s H0 E f' c' hr' => ?_) d1 a1 a2) ⟨hh.tbs, fun H1 ex T1 => ?_⟩
    · refine ⟨fun pins s' σ' H' Q' I hz => ?_⟩
      obtain ⟨rfl, L', S', hh', st', hp'⟩ := hz
      have hk : k - 2 + 2 = k := by omega
      have cb : CtxB g.low (LamX.lamCx X A outer s H0 E scope f' c') (fun cl d _ H => E cl d H) xa k 0 := {
        calm := by rw [hg]; rfl
        nd := hnd
        tk := takes_of rfl rfl rfl rfl
        un := by have := hr'.un; show (A.deeper _).units + 200 < cLine; omega
        ww := wd.ww
        room := fun _ => hr'
        con := by rw [hg]; exact wd.con
        blt := wd.blt
        fns := fun f2 h2 => by
          rw [hg] at h2 ⊢
          have z := fnc false f2 h2 (LamX.lamCx X A outer s H0 E scope f' c') rfl rfl rfl rfl rfl
          rw [hk] at z
          exact z
        fnsN := fun f2 h2 => by
          rw [hg] at h2 ⊢
          have z := fnc true f2 h2 (LamX.lamCx X A outer s H0 E scope f' c') rfl rfl rfl rfl rfl
          rw [hk] at z
          exact z
        cls := by rw [hg]; exact wd.cls
        k2 := fun _ => hk2
        hxn := fun _ => by rw [hg]
        hots := fun f2 cc i v h => by rw [hg] at h; cases h
        ish := fun f2 cc i v h => by rw [hg] at h; cases h }
      exact hbody _ E k 0 cb rfl rfl rfl H' L' S' Q' hh' st' hp' pins s' I
    · obtain ⟨h1, st1⟩ := hh.more (fun b o nt e => ex b o e nt) T1
      exact ⟨F, L, S, h1, fun H' L' S' Q' E hh' st' hp' => ⟨rfl, L', S', hh', st1.trans st', hp'⟩, Post.step hq st1⟩
/-- every def of the table keeps what it comes to -/
theorem fns_ok {P : Prog} {PR : Program} {w : World} {K : PySem.W.Frag} {mg : Str → Option Value} {base : Heap} {xa : String → Addr} (wd : Wld P PR w K mg base xa) : ∀ (k : Nat) (f : String) (d : Def), P.D f = some d →
    ∃ (fa : Addr) (fd : FuncData), mg (S' f) = some (.ref fa) ∧ PySem.W.keepIn K (.ref fa) = true ∧ L2.Binds K fd ((nms d).take d.np) [] ∧ ((nms d).take d.np).length = d.np ∧ (∃ oc od osl, K.lookup fa = some ⟨oc, od, .func fd, osl⟩) ∧ ∀ b, FnOk PR w K mg base (L2.CX PR w) (k + 2) fa fd ((nms d).take d.np) (spOf b K xa (callB P k b) f d.np) := by
  intro k
  induction k using Nat.strongRecOn with
  | _ k ih =>
  intro f d hd
  obtain ⟨fa, fd, st, h1, h2, h3, h4, h5, h6⟩ := wd.defs f d hd
  have hlen : ((nms d).take d.np).length = d.np := by rw [List.length_take]; omega
  cases k with
  | zero =>
    refine ⟨fa, fd, h1, h2.kp, h5, hlen, lk_of h2, fun b => ⟨fun vs H Q E h => by rw [hlen]; exact h.1, fun A outer s H args us vs Q E _ _ _ _ h => ?_⟩⟩
    obtain ⟨_, as, L, S, _, _, z⟩ := h
    rw [callB_zero] at z
    exact z.elim
  | succ k =>
    refine ⟨fa, fd, h1, h2.kp, h5, hlen, lk_of h2, fun b => ?_⟩
    have h2' := h2
    obtain ⟨oc, od, kV, doc, pm, an, cdv, ct, osl, rfl, lk, hcd⟩ := h2'.ex
    refine fn_of (k := k + 2) lk hcd h3 (fun vs H Q E h => by rw [hlen]; exact h.1) fun A outer s H vs Q E hr hsp => ?_
    obtain ⟨hvl, as, L, S, hh, rs, hp⟩ := hsp
    refine ⟨TSsv _ (defBody st), pss_T _, ?_⟩
    simp only [callB, hd] at hp
    split at hp
    · rename_i hal
      let X : Cx := cxOf (L2.CX PR w) PR w K mg base (nms d) (S' f) (defScope st) fa cdv A outer s H E
      let g : Cfg := ⟨true, none, callB P k false, P.G, hotV P, P.sub, fun x => (P.D x).isSome, P.xc, P.xh, P.isx, b, callB P k true, P.cls, lamN P k, callB P (k - 2) false, callB P (k - 2) true⟩
      have fnc : ∀ j, j < k + 1 → ∀ (b' : Bool) (f' : String), (P.D f').isSome = true → ∀ Y : Cx, Y.prog = PR → Y.w = w → Y.K = K → Y.mg = mg → Y.base = base → FnC b' Y xa (callB P j b') (j + 2) f' := fun j hj b' f' hf' Y e1 e2 e3 e4 e5 => by
        subst e1 e2 e3 e4 e5
        obtain ⟨d', hd'⟩ := Option.isSome_iff_exists.mp hf'
        obtain ⟨fa', fd', q1, q2, q3, q4, _, q5⟩ := ih j hj f' d' hd'
        refine ⟨fa', fd', (nms d').take d'.np, q1, q2, q3, fun as' S' hne => ?_, by rw [q4]; exact q5 b'⟩
        obtain ⟨d2, e2, e3⟩ := call_len hne
        rw [hd'] at e2
        cases e2
        rw [q4]
        exact e3
      have c : Ctx g X (fun cls d _ H => E cls d H) xa (k + 2) 0 := {
        calm := rfl
        nd := h3.nd
        tk := takes_of rfl rfl rfl rfl
        un := by have := hr.un; show (A.deeper _).units + 200 < cLine; omega
        ww := wd.ww
        room := fun _ => hr
        con := wd.con
        blt := wd.blt
        fns := fun f' hf' => fnc k (Nat.lt_succ_self k) false f' hf' X rfl rfl rfl rfl rfl
        fnsN := fun f' hf' => fnc k (Nat.lt_succ_self k) true f' hf' X rfl rfl rfl rfl rfl
        cls := wd.cls
        k2 := fun _ => by omega
        hxn := fun _ => rfl
        hots := fun f' cc i v h => by cases h
        ish := fun f' cc i v h => by cases h
        lams := fun _ f' X' sm => lam_ok wd sm.prog sm.w sm.K sm.mg sm.base (sm.nd h3.nd) (k := k) (by rw [sm.A]; exact hr) rfl rfl (fun f2 d2 hl => by
          obtain ⟨cc, Pt, y1, y2, y3, y4⟩ := wd.tabs f2 d2 hl f d fa _ oc od osl hd h1 lk
          exact ⟨cc, Pt, by rw [sm.code]; exact y1, by rw [sm.base, sm.mg]; exact y2, by rw [sm.qual]; exact y3, fun p hp e => by rw [sm.qual]; exact y4 p hp e⟩) (fun b' f2 hf2 Y e1 e2 e3 e4 e5 => fnc (k - 2) (by omega) b' f2 hf2 Y e1 e2 e3 e4 e5) f' }
      have c2 : SCtx g X xa := {
        pass := fun _ => passes_of rfl
        fn := fun _ => rfl
        stk := rfl
        fr := rfl
        kind := h3.kind
        exc := fun cc hc => by
          obtain ⟨q1, q2, q3, q4, q5⟩ := wd.exc cc hc
          exact ⟨q1, q2, q3, raises_of q4 q5⟩
        hnd := wd.hnd
        exm := wd.exm
        hot := fun pn0 xe f' cc v hv hc a oe pn z fl => hot_ok wd (X := X.tr pn0 xe) rfl rfl rfl rfl rfl (hr.mono (by omega)) hv hc z fl
        ish := fun pn0 xe cc d' b hv hc a oe pn z fl => isE_ok wd (X := X.tr pn0 xe) rfl rfl hv hc z fl }
      exact allSs_ok d.body c c2 (defBody st) h6 (begins d as) (L2.start (nms d) vs) H L S _ hh ⟨slots_start rs hal h4, fun cc i z => by cases z⟩ (ends_ok (b := b) rfl hh hp)
    · exact hp.elim
end Ev
end
section
set_option maxHeartbeats 1000000
namespace Ev
open PySem PySem.Spec PyProof.Rows L2
def CXw (PR : Program) : CXT := fun o H s E e s' => ∃ w, L2.CX PR w o H s E e s'
variable [WW]

/-! ## the module's top -/
/-- a def: its name, its place among the top's statements, its core -/
structure Ent where
  f : String
  i : Nat
  d : Def
def stAt (pr : Program) (i : Nat) : Stmt := pr.main.body.getD i (.Pass ⟨0, 0, 0, 0⟩)
/-- how its arguments bind -/
def Bnd (st : Stmt) (f : Str) (ps : List Str) : Prop := ∀ (kV doc pm : Value) (an : Option Addr) (cdv ct : Value) (us : List Value), us.length = ps.length → bindArgs (PySem.W.fnOf f f (defArgs st) (defBody st) (defScope st) .none kV doc pm an cdv ct) ⟨us, []⟩ = pure (ps.zip us)
structure EntOk (pr : Program) (e : Ent) : Prop where
  sc : FnScope (nms e.d) ((nms e.d).take e.d.np) (defScope (stAt pr e.i))
  np : e.d.np ≤ (nms e.d).length
  bd : Bnd (stAt pr e.i) (S' e.f) ((nms e.d).take e.d.np)
  mt : mtSs (nms e.d) (defScope (stAt pr e.i)) e.d.body (defBody (stAt pr e.i)) = true
/-- a def that is handed a lambda: its name, place, parameter -/
structure LEnt where
  f : String
  i : Nat
  a : String
  d : LDef
structure Tab where
  es : List Ent
  hs : List Ent
  gis : List (String × Int)
  gss : List (String × String)
  xcs : List String
  xhs : List String
  iss : List String
  gts : List (String × PV)
  cs : List (String × Nat)
  ls : List LEnt
def subC (c d : String) : Bool := c == d || d == "WellError"
def Tab.prog (t : Tab) : Prog where
  D := fun f => (t.es.find? fun e => e.f == f).map (·.d)
  HD := fun f => (t.hs.find? fun e => e.f == f).map (·.d)
  G := fun x => match t.gis.lookup x with
    | some i => some (.int i)
    | none => (match t.gss.lookup x with
      | some z => some (.str (S' z).cps.toList)
      | none => t.gts.lookup x)
  sub := subC
  xc := fun c => t.xcs.contains c
  xh := fun c => t.xhs.contains c
  isx := fun c d => if t.iss.contains d then some (subC c d || d == "ValueError") else none
  cls := fun c => (t.cs.lookup c).isSome
  LD := fun f => (t.ls.find? fun e => e.f == f).map (·.d)
def Tab.fa (t : Tab) : List He.Fa := bnames.map (fun x => .free (S' x)) ++ ((t.es ++ t.hs).map fun e => .glo (S' e.f)) ++ ((t.es ++ t.hs).map fun e => .keep (S' e.f)) ++ ((t.gis.map fun p => .int (S' p.1) p.2) ++ (t.gss.map fun p => .str (S' p.1) (S' p.2))) ++
  (t.xcs.map fun c => .glo (S' c)) ++ (t.xcs.map fun c => .exc (S' c)) ++ (t.xhs.map fun c => .glo (S' c)) ++ (t.xcs.flatMap fun c => t.xhs.map fun d => .exm (S' c) (S' d) (subC c d))
def Ent.fn (pr : Program) (e : Ent) : He.FnD := ⟨(S' e.f, none), S' e.f, S' e.f, defArgs (stAt pr e.i), defBody (stAt pr e.i), defScope (stAt pr e.i)⟩
/-- a class's __init__ -/
def iniAt (pr : Program) (i : Nat) : Stmt := match stAt pr i with
  | .ClassDef _ _ _ b _ _ _ _ _ _ _ => b.getD 0 (.Pass ⟨0, 0, 0, 0⟩)
  | _ => .Pass ⟨0, 0, 0, 0⟩
def iniFn (pr : Program) (c : String × Nat) : He.FnD := ⟨(S' c.1, some "__init__"), "__init__", S' (c.1 ++ ".__init__"), defArgs (iniAt pr c.2), defBody (iniAt pr c.2), defScope (iniAt pr c.2)⟩
def iniN (c : String) : List Str := S' "self" :: fldS c
def iniB (N : List Str) (sc : Scope) : List String → List Stmt → Bool
  | [f1, f2], [.Assign [.Attribute o1 n1 _] v1 _, .Assign [.Attribute o2 n2 _] v2 _] => isVar N sc 0 o1 && n1 == S' f1 && isVar N sc 1 v1 && isVar N sc 0 o2 && n2 == S' f2 && isVar N sc 2 v2
  | _, _ => false
structure IniOk (pr : Program) (c : String × Nat) : Prop where
  sc : FnScope (iniN c.1) (iniN c.1) (defScope (iniAt pr c.2))
  bd : ∀ (kV doc pm : Value) (an : Option Addr) (cdv ct : Value) (us : List Value), us.length = (iniN c.1).length → bindArgs (PySem.W.fnOf "__init__" (S' (c.1 ++ ".__init__")) (defArgs (iniAt pr c.2)) (defBody (iniAt pr c.2)) (defScope (iniAt pr c.2)) .none kV doc pm an cdv ct) ⟨us, []⟩ = pure ((iniN c.1).zip us)
  mt : iniB (iniN c.1) (defScope (iniAt pr c.2)) (fldNames c.1) (defBody (iniAt pr c.2)) = true
structure LEntOk (pr : Program) (t : Tab) (e : LEnt) : Prop where
  xh : t.xhs.contains e.d.cls = true
  sc : FnScope (e.d.nm.map S') [S' e.a] (defScope (stAt pr e.i))
  n0 : (e.d.nm.map S')[0]? = some (S' e.a)
  vi : vis (defScope (stAt pr e.i)) (S' e.a) = true
  pl : plain (S' e.a) = true
  bd : Bnd (stAt pr e.i) (S' e.f) [S' e.a]
  mt : mtL e.d (e.d.nm.map S') (S' e.a) (defScope (stAt pr e.i)) (defBody (stAt pr e.i)) = true
def LEnt.fn (pr : Program) (e : LEnt) : He.FnD := ⟨(S' e.f, none), S' e.f, S' e.f, defArgs (stAt pr e.i), defBody (stAt pr e.i), defScope (stAt pr e.i)⟩
def Tab.fn (t : Tab) (pr : Program) : List He.FnD := ((t.es ++ t.hs).map fun e => e.fn pr) ++ (t.cs.map (iniFn pr) ++ t.ls.map fun e => e.fn pr)
/-- what is to be known of a class -/
def clsB (K : PySem.W.Frag) (c : String) : Bool := (He.Fa.glo (S' c)).ok K && ((He.Fa.cls (S' c)).ok K && ((He.Fa.mkr (S' c)).ok K && ((He.Fa.meth (S' c) "__init__").ok K && (((fldS c).all fun f => (He.Fa.noat (S' c) f).ok K) &&
  (decide (PySem.W.findIn K (.ref (He.ga K (S' c))) "__class__" = some (some (.builtin "object.__class__"))) && (decide (PySem.W.specialIn K (.builtin "object.__class__") "__get__" = some (some (.builtin "getset_descriptor.__get__"))) &&
  (decide (PySem.W.takesIn K (.builtin "object.__class__") = some true) && (decide (PySem.W.mroIn K (He.ga K (S' c)) (.type "object") = some true) && (decide (PySem.W.kitOne K (.ref (He.ga K (S' c))) (.ref (He.ga K (S' c))) = some true) &&
  kinds.all fun n => decide (PySem.W.kitOne K (.type n) (.ref (He.ga K (S' c))) = some false))))))))))
mutual
/-- a constant tuple of the written part -/
def repKB (K : PySem.W.Frag) : PV → Value → Bool
  | .str x, .str y _ => decide (y = toStr x)
  | .int i, .int j _ => decide (i = j)
  | .tup ps, .ref a => (match K.lookup a with
    | some ⟨.type n, _, .seq its _, _⟩ => n == "tuple" && decide (its.size ≤ 1000) && repKBs K ps its.toList
    | _ => false)
  | _, _ => false
def repKBs (K : PySem.W.Frag) : List PV → List Value → Bool
  | [], [] => true
  | p :: ps, u :: us => repKB K p u && repKBs K ps us
  | _, _ => false
end
def tupKB (K : PySem.W.Frag) (x : String) (p : PV) : Bool := match PySem.W.nsIn K mainGlobals (S' x) with
  | some (some u) => repKB K p u
  | _ => false
def excCB (K : PySem.W.Frag) (D : Addr) : Bool := decide (PySem.W.findIn K (.ref D) "__getattribute__" = some (some (.builtin "BaseException.__getattribute__"))) && (decide (PySem.W.findIn K (.ref D) "__getattr__" = some none) &&
  (decide (PySem.W.subIn K (.ref D) (.type "BaseException") = some true) && (PySem.W.hasDictIn K D && (decide (PySem.W.findIn K (.ref D) "__class__" = some (some (.builtin "object.__class__"))) &&
  (decide (PySem.W.specialIn K (.builtin "object.__class__") "__get__" = some (some (.builtin "getset_descriptor.__get__"))) && (decide (PySem.W.takesIn K (.builtin "object.__class__") = some true) && decide (PySem.W.mroIn K D (.type "object") = some true)))))))
theorem excC_ok {K : PySem.W.Frag} {D : Addr} (h : excCB K D = true) : ExcC K D := by
  unfold excCB at h
  simp only [Bool.and_eq_true, decide_eq_true_eq] at h
  obtain ⟨h1, h2, h3, h4, h5, h6, h7, h8⟩ := h
  exact ⟨h1, h2, h3, h4, h5, h6, h7, h8⟩
/-- isinstance of an exception of the class c asks the class d -/
def issB (K : PySem.W.Frag) (c d : String) : Bool := if d == "ValueError" then (He.Fa.free (S' d)).ok K && decide (PySem.W.kitOne K (.ref (He.ga K (S' c))) (.type "ValueError") = some true)
  else (He.Fa.glo (S' d)).ok K && decide (PySem.W.kitOne K (.ref (He.ga K (S' c))) (.ref (He.ga K (S' d))) = some (subC c d))
def Tab.xt0 (t : Tab) (K : PySem.W.Frag) : Bool := if t.iss.isEmpty then true else t.xcs.all fun c => excCB K (He.ga K (S' c)) && t.iss.all fun d => issB K c d
def Tab.ct (t : Tab) (K : PySem.W.Frag) : Bool := (t.gts.all fun p => tupKB K p.1 p.2) && t.cs.all fun c => clsB K c.1
def Tab.lt (t : Tab) (K : PySem.W.Frag) : Bool := t.ls.all fun e => (He.Fa.glo (S' e.f)).ok K && (He.Fa.keep (S' e.f)).ok K
def Tab.xt (t : Tab) (K : PySem.W.Frag) : Bool := (t.xt0 K && t.ct K) && t.lt K
/-- the tables of the defs' code objects -/
def isTabB : Option Obj → Bool
  | some ⟨.none, none, .fields vs, sl⟩ => vs.size == 0 && sl.size == 0
  | _ => false
omit [WW] in
theorem isTabB_ok {o : Option Obj} (h : isTabB o = true) : o = some (PySem.W.tabObj #[]) := by
  unfold isTabB at h
  split at h
  · rename_i vs sl
    simp only [Bool.and_eq_true, beq_iff_eq] at h
    rw [Array.eq_empty_of_size_eq_zero h.1, Array.eq_empty_of_size_eq_zero h.2]
  · cases h
def tabP (K : PySem.W.Frag) (f : String) : Addr := match PySem.W.tabIn K (S' f) with
  | some p => p.2
  | none => 0
def tabC (K : PySem.W.Frag) (f : String) : Addr := match PySem.W.tabIn K (S' f) with
  | some p => p.1
  | none => 0
def incB : List Nat → Bool
  | a :: b :: r => Nat.blt a b && incB (b :: r)
  | _ => true
def tabB1 (K : PySem.W.Frag) (g : Addr → Option Obj) (f : String) : Bool := (PySem.W.tabIn K (S' f)).isSome && (PySem.W.codeHdIn K (tabC K f) (tabP K f) && ((K.lookup (tabP K f)).isNone && isTabB (g (tabP K f))))
def Tab.tbB (t : Tab) (K : PySem.W.Frag) (g : Addr → Option Obj) : Bool := t.ls.isEmpty || ((t.es.all fun e => tabB1 K g e.f) && incB (t.es.map fun e => tabP K e.f))
structure TbOk (t : Tab) (K : PySem.W.Frag) (h : Heap) : Prop where
  tin : ∀ e ∈ t.es, PySem.W.tabIn K (S' e.f) = some (tabC K e.f, tabP K e.f)
  hd : ∀ e ∈ t.es, PySem.W.codeHdIn K (tabC K e.f) (tabP K e.f) = true
  no : ∀ e ∈ t.es, K.lookup (tabP K e.f) = none
  at_ : ∀ e ∈ t.es, h.get? (tabP K e.f) = some (PySem.W.tabObj #[])
  inc : incB (t.es.map fun e => tabP K e.f) = true
omit [WW] in
theorem tbB_ok {t : Tab} {K : PySem.W.Frag} {h : Heap} (z : t.tbB K h.get? = true) : t.ls = [] ∨ TbOk t K h := by
  unfold Tab.tbB at z
  rw [Bool.or_eq_true] at z
  rcases z with z | z
  · exact .inl (List.isEmpty_iff.mp z)
  · rw [Bool.and_eq_true, List.all_eq_true] at z
    have y : ∀ e ∈ t.es, _ := fun e he => z.1 e he
    simp only [tabB1, Bool.and_eq_true] at y
    refine .inr ⟨fun e he => ?_, fun e he => (y e he).2.1, fun e he => by simpa using (y e he).2.2.1, fun e he => isTabB_ok (y e he).2.2.2, z.2⟩
    obtain ⟨p, hp⟩ := Option.isSome_iff_exists.mp (y e he).1
    unfold tabC tabP
    rw [hp]
abbrev AlX : Type := Bool × He.Al
def refsAt (g : Addr → Option Obj) (a : Addr) : List Addr := match g a with
  | some o => He.refsO o
  | none => []
def dictAt (g : Addr → Option Obj) (a : Addr) : List Addr := match g a with
  | some ⟨c, d, .dict es m, s⟩ => He.refsO ⟨c, d, .dict es m, s⟩
  | _ => []
/-- what the module's names reach: defs and their code, classes, their names, methods and their code -/
def asK (g : Addr → Option Obj) : List Addr := mainGlobals :: (refsAt g mainGlobals ++ ((refsAt g mainGlobals).flatMap (refsAt g) ++ ((((refsAt g mainGlobals).flatMap (refsAt g)).flatMap (dictAt g)) ++ (((refsAt g mainGlobals).flatMap (refsAt g)).flatMap (dictAt g)).flatMap (refsAt g))))
def Tab.obsG (t : Tab) (pr : Program) (n : Nat) (g : Addr → Option Obj) : AlX := (t.xt (He.frG g (asK g)) && t.tbB (He.frG g (asK g)) g, He.obsE t.fa (t.fn pr) (He.frG g (asK g)))
def Tab.hook (t : Tab) (pr : Program) (n : Nat) : PySem.W.Hook where
  α := AlX
  obs := fun s => t.obsG pr n s.heap.get?
  val := fun _ => (true, He.valE (t.fn pr))
  says := fun _ h => ∃ K : PySem.W.Frag, K.In h ∧ t.xt K = true ∧ He.SaysE t.fa (t.fn pr) K ∧ (t.ls = [] ∨ TbOk t K h)
  of := fun _ s e => by
    have e1 : (t.xt (He.frG s.heap.get? (asK s.heap.get?)) && t.tbB (He.frG s.heap.get? (asK s.heap.get?)) s.heap.get?) = true := congrArg (fun z : AlX => z.1) e
    rw [Bool.and_eq_true] at e1
    exact ⟨_, He.frG_in, e1.1, congrArg (fun z : AlX => z.2) e, tbB_ok e1.2⟩
  keeps := fun _ _ _ ⟨K, hK, c, d, z⟩ k => ⟨K, PySem.W.Frag.In.keeps hK k, c, d, z.imp id fun y => ⟨y.tin, y.hd, y.no, fun e he => k _ _ (y.at_ e he), y.inc⟩⟩
def Tab.ob (t : Tab) (pr : Program) (n : Nat) (s : PySem.W.SharedT) : AlX := t.obsG pr n (HandSHeadRun.getT s)
omit [WW] in
theorem Tab.ob_eq (t : Tab) (pr : Program) (n : Nat) (s : PySem.W.SharedT) : t.ob pr n s = (t.hook pr n).obs s.abs := by
  have e : HandSHeadRun.getT s = s.abs.heap.get? := funext (HandSHeadRun.getT_eq s)
  show t.obsG pr n (HandSHeadRun.getT s) = t.obsG pr n s.abs.heap.get?
  rw [e]
omit [WW] in
theorem map_three {α β γ δ : Type} {o : Option α} {f : α → β} {g : α → γ} {k : α → δ} {a : β} {b : γ} {c : δ} (h1 : o.map f = some a) (h2 : o.map g = some b) (h3 : o.map k = some c) : o.map (fun s => (f s, g s, k s)) = some (a, b, c) := by
  cases o with
  | none => cases h1
  | some s =>
    simp only [Option.map_some, Option.some.injEq] at h1 h2 h3 ⊢
    rw [h1, h2, h3]
theorem says_mem {fa : List He.Fa} {fn : List He.FnD} {K : PySem.W.Frag} (c : He.SaysE fa fn K) {f : He.Fa} (h : f ∈ fa) : f.ok K = true := by
  obtain ⟨i, hi, e⟩ := List.mem_iff_getElem.mp h
  exact c.fact i (by rw [List.getElem?_eq_getElem hi, e])
theorem says_fn {fa : List He.Fa} {fn : List He.FnD} {K : PySem.W.Frag} (c : He.SaysE fa fn K) {d : He.FnD} (h : d ∈ fn) :
    ∃ oc od osl kV doc pm an cdv ct, K.lookup (He.fAd K d.at_) = some ⟨oc, od, .func (PySem.W.fnOf d.name d.qual d.params d.body d.scope .none kV doc pm an cdv ct), osl⟩ ∧ PySem.W.codeIn K cdv d.qual = true := by
  obtain ⟨i, hi, e⟩ := List.mem_iff_getElem.mp h
  exact c.def_ i (by rw [List.getElem?_eq_getElem hi, e])
theorem find_mem {es : List Ent} {f : String} {d : Def} (h : (es.find? fun e => e.f == f).map (·.d) = some d) : ∃ e ∈ es, e.f = f ∧ e.d = d := by
  cases q : es.find? fun e => e.f == f with
  | none => rw [q] at h; cases h
  | some e =>
    rw [q] at h
    cases h
    exact ⟨e, List.mem_of_find?_eq_some q, by simpa using List.find?_some q, rfl⟩
theorem lookup_mem' {β : Type} {l : List (String × β)} {x : String} {i : β} : l.lookup x = some i → (x, i) ∈ l := by
  induction l with
  | nil => intro h; cases h
  | cons p r ih =>
    intro h
    obtain ⟨y, j⟩ := p
    rw [List.lookup_cons] at h
    split at h
    · rename_i hb
      cases h
      rw [beq_iff_eq.mp hb]
      exact List.mem_cons_self
    · exact List.mem_cons_of_mem _ (ih h)
section
variable {t : Tab} {pr PR : Program} {w : World} {K : PySem.W.Frag} {mg : Str → Option Value} {base h : Heap}
theorem ent_ok (X : K.In h) (G : h.Ns mainGlobals mg) (c : He.SaysE t.fa (t.fn pr) K) {e : Ent} (he : e ∈ t.es ++ t.hs) (ok : EntOk pr e) : ∃ fa fd st, mg (S' e.f) = some (.ref fa) ∧ Fun K (S' e.f) (S' e.f) st fa fd ∧ FnScope (nms e.d) ((nms e.d).take e.d.np) (defScope st) ∧ e.d.np ≤ (nms e.d).length ∧
    L2.Binds K fd ((nms e.d).take e.d.np) [] ∧ mtSs (nms e.d) (defScope st) e.d.body (defBody st) = true := by
  have f1 : He.Fa.glo (S' e.f) ∈ t.fa := by
    unfold Tab.fa
    simp only [List.mem_append]
    exact .inl (.inl (.inl (.inl (.inl (.inl (.inr (List.mem_map.mpr ⟨e, he, rfl⟩)))))))
  have f2 : He.Fa.keep (S' e.f) ∈ t.fa := by
    unfold Tab.fa
    simp only [List.mem_append]
    exact .inl (.inl (.inl (.inl (.inl (.inr (List.mem_map.mpr ⟨e, he, rfl⟩))))))
  obtain ⟨oc, od, osl, kV, doc, pm, an, cdv, ct, l, cd⟩ := says_fn c (d := e.fn pr) (List.mem_append_left _ (List.mem_map.mpr ⟨e, he, rfl⟩))
  have F := fun_mk (x := S' e.f) (qual := S' e.f) (st := stAt pr e.i) l cd (He.keep_ok (says_mem c f2))
  exact ⟨_, _, stAt pr e.i, He.glo_ok X G (says_mem c f1), F, ok.sc, ok.np, F.binds ok.bd, ok.mt⟩
mutual
theorem repKB_ok {K : PySem.W.Frag} : ∀ (p : PV) (u : Value), repKB K p u = true → ∃ v, RelV v u ∧ ∀ H W, Rep K H W p v
  | .str x, u, h => by
    cases u with
    | str y t => simp only [repKB, decide_eq_true_eq] at h; exact ⟨.str y, ⟨t, rfl⟩, fun _ _ => by rw [h]; rfl⟩
    | _ => simp [repKB] at h
  | .int i, u, h => by
    cases u with
    | int j t => simp only [repKB, decide_eq_true_eq] at h; exact ⟨.int j, ⟨t, rfl⟩, fun _ _ => by rw [h]; rfl⟩
    | _ => simp [repKB] at h
  | .tup ps, u, h => by
    cases u with
    | ref a =>
      simp only [repKB] at h
      split at h
      · rename_i n od its m sl hl
        simp only [Bool.and_eq_true, beq_iff_eq, decide_eq_true_eq] at h
        obtain ⟨⟨rfl, h2⟩, h3⟩ := h
        obtain ⟨vs, r1, r2⟩ := repKBs_ok ps its.toList h3
        exact ⟨.ref a, rfl, fun H W => ⟨a, vs, rfl, .inr ⟨_, its, m, hl, rfl, rfl, by rw [sizeLine_eq]; omega, r1⟩, r2 H W⟩⟩
      · cases h
    | _ => simp [repKB] at h
  | .non, u, h => by simp [repKB] at h
  | .bl b, u, h => by simp [repKB] at h
  | .lst b, u, h => by simp [repKB] at h
  | .dct _ _, u, h => by simp [repKB] at h
  | .obj _ _, u, h => by simp [repKB] at h
theorem repKBs_ok {K : PySem.W.Frag} : ∀ (ps : List PV) (us : List Value), repKBs K ps us = true → ∃ vs, Vals vs us ∧ ∀ H W, Reps K H W ps vs
  | [], us, h => by
    cases us with
    | nil => exact ⟨[], .nil, fun _ _ => rfl⟩
    | cons _ _ => simp [repKBs] at h
  | p :: ps, us, h => by
    cases us with
    | nil => simp [repKBs] at h
    | cons u us =>
      simp only [repKBs, Bool.and_eq_true] at h
      obtain ⟨v, r1, r2⟩ := repKB_ok p u h.1
      obtain ⟨vs, r3, r4⟩ := repKBs_ok ps us h.2
      exact ⟨v :: vs, .cons r1 r3, fun H W => ⟨v, vs, rfl, r2 H W, r4 H W⟩⟩
end
theorem fld_two {c : String} {f1 f2 : String} (h : fldNames c = [f1, f2]) : c = "Sentence" ∧ f1 = "given" ∧ f2 = "claim" := by
  unfold fldNames at h
  split at h
  · cases h; exact ⟨rfl, rfl, rfl⟩
  · cases h
theorem cls_ok {c : String × Nat} (ok : IniOk pr c) (X : K.In h) (G : h.Ns mainGlobals mg) (sy : He.SaysE t.fa (t.fn pr) K) (hm : c ∈ t.cs) (hb : clsB K c.1 = true) : ClsOk PR w K mg base c.1 := by
  unfold clsB at hb
  simp only [Bool.and_eq_true, decide_eq_true_eq] at hb
  obtain ⟨b1, b2, b3, b4, b5, b6, b7, b8, b9, b10, b11⟩ := hb
  have cl : Cls K (clsA K c.1) := He.cls_ok b2
  have na : ∀ f ∈ fldS c.1, NoAttr K (clsA K c.1) f := fun f hf => He.noat_ok (List.all_eq_true.mp b5 f hf)
  have M := He.mkr_ok b3
  have me := He.meth_ok b4
  obtain ⟨oc, od, osl, kV, doc, pm, an, cdv, ct, l, cd⟩ := says_fn sy (d := iniFn pr c) (List.mem_append_right _ (List.mem_append_left _ (List.mem_map.mpr ⟨c, hm, rfl⟩)))
  have F := fun_mk (x := "__init__") (qual := S' (c.1 ++ ".__init__")) (st := iniAt pr c.2) l cd me.kp
  refine ⟨He.glo_ok X G b1, ⟨_, _, iniN c.1, M, F.binds ok.bd, F.ok (k := 0) ok.sc (fun vs H Q E z => ?_) fun cdv A outer s H vs Q E hr hsp => ?_⟩, cl, na, fun e => .base (.ins e cl b6 b7 b8 b9), b10, fun n hn => of_decide_eq_true (List.all_eq_true.mp b11 n hn)⟩
  · rw [z.1]; show _ = ((fldNames c.1).map Str.ofString).length + 1; rw [List.length_map]
  · obtain ⟨hl, x, dx, ws, rfl, hx, hQ⟩ := hsp
    have mt := ok.mt
    have nd := ok.sc.nd
    unfold iniB at mt
    split at mt
    · rename_i f1 f2 o1 n1 p1 v1 p2 o2 n2 p3 v2 p4 hf hbd
      simp only [Bool.and_eq_true, beq_iff_eq] at mt
      obtain ⟨⟨⟨⟨⟨m1, rfl⟩, m2⟩, m3⟩, rfl⟩, m4⟩ := mt
      obtain ⟨hc, rfl, rfl⟩ := fld_two hf
      obtain ⟨y1, q1, rfl, N1, V1, P1⟩ := isVar_inv m1
      obtain ⟨y2, q2, rfl, N2, V2, P2⟩ := isVar_inv m2
      obtain ⟨y3, q3, rfl, N3, V3, P3⟩ := isVar_inv m3
      obtain ⟨y4, q4, rfl, N4, V4, P4⟩ := isVar_inv m4
      obtain ⟨d1, e1, _⟩ := plain_ok P1
      obtain ⟨d2, e2, _⟩ := plain_ok P2
      obtain ⟨d3, e3, _⟩ := plain_ok P3
      obtain ⟨d4, e4, _⟩ := plain_ok P4
      rw [hbd]
      have hfl : fldNames c.1 = ["given", "claim"] := hf
      have hfs : fldS c.1 = [S' "given", S' "claim"] := by unfold fldS; rw [hfl]; rfl
      rw [hfl] at hl
      match ws, hl with
      | [w1, w2], _ =>
        refine ⟨_, pss_cons (ps_fld (pe_var N1 (vis_ok V1) d1 e1) (pe_var N2 (vis_ok V2) d2 e2) rfl) (pss_one (ps_fld (pe_var N3 (vis_ok V3) d3 e3) (pe_var N4 (vis_ok V4) d4 e4) rfl)), ?_⟩
        have m1 : S' "given" ∈ fldS c.1 := by rw [hfs]; exact List.mem_cons_self
        have m2 : S' "claim" ∈ fldS c.1 := by rw [hfs]; exact List.mem_cons_of_mem _ List.mem_cons_self
        have hN : (iniN c.1).length = 3 := by unfold iniN; rw [hfs]; rfl
        have s0 : (L2.start (iniN c.1) [V.ref x, w1, w2])[0]? = some (some (.ref x)) := rfl
        have s1 : (L2.start (iniN c.1) [V.ref x, w1, w2])[1]? = some (some w1) := rfl
        have s2 : (L2.start (iniN c.1) [V.ref x, w1, w2])[2]? = some (some w2) := rfl
        refine ⟨w1, s1, .ref x, s0, x, clsA K c.1, dx, [], rfl, hx, cl, na _ m1, by decide, ?_⟩
        refine ⟨w2, s2, .ref x, s0, x, clsA K c.1, dx, [(S' "given", w1)], rfl, upd_same, cl, na _ m2, (show 1 < 1000 by decide), ?_⟩
        rw [upd_upd]
        rw [hfs] at hQ
        have ne : ¬ S' "given" = S' "claim" := by decide +kernel
        show Q .non (upd H x (.ins (clsA K c.1) dx (putF (S' "claim") w2 [(S' "given", w1)])))
        simp only [putF, if_neg ne]
        exact hQ
    · cases mt
theorem find_memL {es : List LEnt} {f : String} {d : LDef} (h : (es.find? fun e => e.f == f).map (·.d) = some d) : ∃ e ∈ es, e.f = f ∧ e.d = d := by
  cases q : es.find? fun e => e.f == f with
  | none => rw [q] at h; cases h
  | some e =>
    rw [q] at h
    cases h
    exact ⟨e, List.mem_of_find?_eq_some q, by simpa using List.find?_some q, rfl⟩
def lamName (f : String) : Str := S' f ++ ".<locals>." ++ "<lambda>"
theorem wld_of (hww : w = WW.w) (hls : ∀ e ∈ t.ls, LEntOk pr t e) (hT : t.ls ≠ [] → ∀ e ∈ t.es, PySem.W.tabIn K (S' e.f) = some (tabC K e.f, tabP K e.f) ∧ LamX.TabB base mg (tabC K e.f) (tabP K e.f) ∧ (tabP K e.f, lamName e.f) ∈ WW.tb ∧ ∀ p ∈ WW.tb, p.1 = tabP K e.f → p.2 = lamName e.f) (hcs : ∀ c ∈ t.cs, IniOk pr c) (hes : ∀ e ∈ t.es ++ t.hs, EntOk pr e) (X : K.In h) (G : h.Ns mainGlobals mg) (c : He.SaysE t.fa (t.fn pr) K) (cx : t.xt K = true) : Wld t.prog PR w K mg base (fun c => He.ga K (S' c)) where
  ww := hww
  ldefs := fun f d hd => by
    obtain ⟨e, he, rfl, rfl⟩ := find_memL hd
    have ok := hls e he
    unfold Tab.xt Tab.lt at cx
    rw [Bool.and_eq_true] at cx
    have y := List.all_eq_true.mp cx.2 e he
    rw [Bool.and_eq_true] at y
    obtain ⟨oc, od, osl, kV, doc, pm, an, cdv, ct, l, cd⟩ := says_fn c (d := e.fn pr) (List.mem_append_right _ (List.mem_append_right _ (List.mem_map.mpr ⟨e, he, rfl⟩)))
    have F := fun_mk (x := S' e.f) (qual := S' e.f) (st := stAt pr e.i) l cd (He.keep_ok y.2)
    exact ⟨ok.xh, _, _, stAt pr e.i, S' e.a, He.glo_ok X G y.1, F, ok.sc, ok.n0, ok.vi, ok.pl, F.binds ok.bd, ok.mt⟩
  tabs := fun f' d' hl f d fa fd oc od osl hd hm lk => by
    have hne : t.ls ≠ [] := fun z => by
      obtain ⟨e, he, _⟩ := find_memL hl
      rw [z] at he
      cases he
    obtain ⟨e, he, rfl, rfl⟩ := find_mem hd
    obtain ⟨h1, h2, h3, h4⟩ := hT hne e he
    refine ⟨tabC K e.f, tabP K e.f, ?_, h2, h3, h4⟩
    have f1 : He.Fa.glo (S' e.f) ∈ t.fa := by
      unfold Tab.fa
      simp only [List.mem_append]
      exact .inl (.inl (.inl (.inl (.inl (.inl (.inr (List.mem_map.mpr ⟨e, List.mem_append_left _ he, rfl⟩)))))))
    have z := He.glo_ok X G (says_mem c f1)
    rw [hm] at z
    cases z
    have y := He.eqO_ok (says_mem c f1)
    unfold PySem.W.tabIn at h1
    rw [y] at h1
    simp only [lk] at h1
    split at h1
    · rename_i cc hc
      split at h1
      · split at h1
        · cases h1
          rw [hc]
        · cases h1
      · cases h1
    · cases h1
  cls := fun cc hc => by
    obtain ⟨i, hi⟩ := Option.isSome_iff_exists.mp (show (t.cs.lookup cc).isSome = true from hc)
    have hm := lookup_mem' hi
    unfold Tab.xt Tab.ct at cx
    simp only [Bool.and_eq_true] at cx
    exact cls_ok (hcs _ hm) X G c hm (List.all_eq_true.mp cx.1.2.2 _ hm)
  con := fun x p hp => by
    have hp : (match t.gis.lookup x with
      | some i => some (PV.int i)
      | none => (match t.gss.lookup x with
        | some z => some (PV.str (S' z).cps.toList)
        | none => t.gts.lookup x)) = some p := hp
    split at hp
    · rename_i i hi
      cases hp
      have f1 : He.Fa.int (S' x) i ∈ t.fa := by
        unfold Tab.fa
        simp only [List.mem_append]
        exact .inl (.inl (.inl (.inl (.inr (.inl (List.mem_map.mpr ⟨(x, i), lookup_mem' hi, rfl⟩))))))
      obtain ⟨tk, e⟩ := He.int_ok X G (says_mem c f1)
      exact ⟨.int i tk, .int i, e, ⟨tk, rfl⟩, fun _ _ => rfl⟩
    · split at hp
      rotate_left
      · have hm := lookup_mem' hp
        unfold Tab.xt Tab.ct at cx
        simp only [Bool.and_eq_true] at cx
        have y := List.all_eq_true.mp cx.1.2.1 _ hm
        unfold tupKB at y
        split at y
        · rename_i u hu
          obtain ⟨v, r1, r2⟩ := repKB_ok p u y
          exact ⟨u, v, PySem.W.mg_of X G hu, r1, r2⟩
        · cases y
      rename_i z hz
      cases hp
      have f1 : He.Fa.str (S' x) (S' z) ∈ t.fa := by
        unfold Tab.fa
        simp only [List.mem_append]
        exact .inl (.inl (.inl (.inl (.inr (.inr (List.mem_map.mpr ⟨(x, z), lookup_mem' hz, rfl⟩))))))
      obtain ⟨tk, e⟩ := He.str_ok X G (says_mem c f1)
      refine ⟨.str (S' z) tk, .str (S' z), e, ⟨tk, rfl⟩, fun _ _ => ?_⟩
      show V.str (S' z) = V.str (toStr (S' z).cps.toList)
      rfl
  blt := fun x hx => by
    have f1 : He.Fa.free (S' x) ∈ t.fa := by
      unfold Tab.fa
      simp only [List.mem_append]
      exact .inl (.inl (.inl (.inl (.inl (.inl (.inl (List.mem_map.mpr ⟨x, hx, rfl⟩)))))))
    exact He.free_ok X G (says_mem c f1)
  defs := fun f d hd => by
    obtain ⟨e, he, rfl, rfl⟩ := find_mem hd
    exact ent_ok X G c (List.mem_append_left _ he) (hes e (List.mem_append_left _ he))
  hdefs := fun f d hd => by
    obtain ⟨e, he, rfl, rfl⟩ := find_mem hd
    exact ent_ok X G c (List.mem_append_right _ he) (hes e (List.mem_append_right _ he))
  exc := fun cc hc => by
    have hc : cc ∈ t.xcs := by simpa [Tab.prog] using hc
    have f1 : He.Fa.glo (S' cc) ∈ t.fa := by
      unfold Tab.fa
      simp only [List.mem_append]
      exact .inl (.inl (.inl (.inr (List.mem_map.mpr ⟨cc, hc, rfl⟩))))
    have f2 : He.Fa.exc (S' cc) ∈ t.fa := by
      unfold Tab.fa
      simp only [List.mem_append]
      exact .inl (.inl (.inr (List.mem_map.mpr ⟨cc, hc, rfl⟩)))
    obtain ⟨q1, q2, q3, q4⟩ := He.exc_ok (says_mem c f2)
    exact ⟨He.glo_ok X G (says_mem c f1), q1, q2, q3, q4⟩
  hnd := fun cc hc => by
    have hc : cc ∈ t.xhs := by simpa [Tab.prog] using hc
    have f1 : He.Fa.glo (S' cc) ∈ t.fa := by
      unfold Tab.fa
      simp only [List.mem_append]
      exact .inl (.inr (List.mem_map.mpr ⟨cc, hc, rfl⟩))
    exact He.glo_ok X G (says_mem c f1)
  exm := fun cc d hc hd => by
    have hc : cc ∈ t.xcs := by simpa [Tab.prog] using hc
    have hd : d ∈ t.xhs := by simpa [Tab.prog] using hd
    have f1 : He.Fa.exm (S' cc) (S' d) (subC cc d) ∈ t.fa := by
      unfold Tab.fa
      simp only [List.mem_append]
      exact .inr (List.mem_flatMap.mpr ⟨cc, hc, List.mem_map.mpr ⟨d, hd, rfl⟩⟩)
    exact He.exm_ok (says_mem c f1)
  isx := fun cc d b hb hc => by
    have hc : cc ∈ t.xcs := by simpa [Tab.prog] using hc
    obtain ⟨hd, hb⟩ := if_inv (show (if t.iss.contains d then some (subC cc d || d == "ValueError") else none) = some b from hb)
    have hd : d ∈ t.iss := by simpa using hd
    have hb : (subC cc d || d == "ValueError") = b := hb.symm
    have cx : t.xt0 K = true := by
      unfold Tab.xt at cx
      rw [Bool.and_eq_true, Bool.and_eq_true] at cx
      exact cx.1.1
    unfold Tab.xt0 at cx
    split at cx
    · rename_i he
      rw [List.isEmpty_iff] at he
      rw [he] at hd
      cases hd
    · have z := List.all_eq_true.mp cx cc hc
      rw [Bool.and_eq_true] at z
      have y := List.all_eq_true.mp z.2 d hd
      refine ⟨excC_ok z.1, ?_⟩
      unfold issB at y
      split at y
      · rename_i hv
        rw [beq_iff_eq] at hv
        subst hv
        rw [Bool.and_eq_true, decide_eq_true_eq] at y
        have : b = true := by rw [← hb]; simp
        subst this
        exact .inr ⟨He.free_ok X G y.1, rfl, y.2⟩
      · rename_i hv
        rw [Bool.and_eq_true, decide_eq_true_eq] at y
        have : b = subC cc d := by rw [← hb]; simp [hv]
        subst this
        exact .inl ⟨_, He.glo_ok X G y.1, y.2⟩
theorem FnOk.cx {C1 C2 : CXT} {k : Nat} {f : Addr} {fd : FuncData} {ps : List Str} {sp : Sp} (F : FnOk PR w K mg base C1 k f fd ps sp) (hc : ∀ o H s E e s', C1 o H s E e s' → C2 o H s E e s') : FnOk PR w K mg base C2 k f fd ps sp :=
  ⟨F.len, fun A outer s H args us vs Q E hr he hb hv hs => codeAny_mono (F.run A outer s H args us vs Q E hr he hb hv hs) fun r s' z => by
    cases r with
    | error e => exact hc _ _ _ _ _ _ z
    | ok fl => cases fl <;> exact z⟩
theorem ints_rep {H : Hp} {W : Addr → Prop} : ∀ ns : List Int, Reps K H W (ns.map PV.int) (ns.map V.int)
  | [] => rfl
  | n :: ns => ⟨.int n, ns.map V.int, rfl, rfl, ints_rep ns⟩
/-- the law's def, from what it comes to -/
theorem law_ofW (hww : w = WW.w) (hls : ∀ e ∈ t.ls, LEntOk pr t e) (hcs : ∀ c ∈ t.cs, IniOk pr c) (hes : ∀ e ∈ t.es ++ t.hs, EntOk pr e) (X : K.In h) (G : h.Ns mainGlobals mg) (c : He.SaysE t.fa (t.fn pr) K) (cx : t.xt K = true) {d : Def} {x : String} {n k : Nat} (hd : t.prog.D "law" = some d) (hps : (nms d).take d.np = [S' x]) (hnp : d.np = 1)
    (hl : ∀ ns : List Int, ns.length ≤ n → ∃ S, call t.prog k "law" [.val (.lst (ns.map .int))] [] = .ok (.bl true) S) {fa : Addr} (hfa : mg (S' "law") = some (.ref fa)) :
    ∃ (fd : FuncData) (sp : Sp), (∀ (s : Shared) (u : Value), BindsTo s fd ⟨[u], []⟩ [(S' x, u)]) ∧
        (∀ (H : Hp) (a : Addr) (ns : List Int), ns.length ≤ n → LamX.Tabs WW.tb H → SqL K H a (ns.map V.int) → sp [.ref a] H (fun v _ => v = .bl true) fun _ _ _ => False) ∧
        ∀ base : Heap, K.In base → base.Ns mainGlobals mg → (t.ls ≠ [] → ∀ e ∈ t.es, PySem.W.tabIn K (S' e.f) = some (tabC K e.f, tabP K e.f) ∧ LamX.TabB base mg (tabC K e.f) (tabP K e.f) ∧ (tabP K e.f, lamName e.f) ∈ WW.tb ∧ ∀ p ∈ WW.tb, p.1 = tabP K e.f → p.2 = lamName e.f) → FnOk PR w K mg base (L2.CX PR w) (k + 2) fa fd [S' x] sp := by
  obtain ⟨oe, he, e1, e2⟩ := find_mem hd
  obtain ⟨oc, od, osl, kV, doc, pm, an, cdv, ct, l, cd⟩ := says_fn c (d := oe.fn pr) (List.mem_append_left _ (List.mem_map.mpr ⟨oe, List.mem_append_left _ he, rfl⟩))
  have bd := (hes oe (List.mem_append_left _ he)).bd
  rw [e2, hps] at bd
  have hlk : He.fAd K (oe.fn pr).at_ = fa := by
    have f1 : He.Fa.glo (S' oe.f) ∈ t.fa := by
      unfold Tab.fa
      simp only [List.mem_append]
      exact .inl (.inl (.inl (.inl (.inl (.inl (.inr (List.mem_map.mpr ⟨oe, List.mem_append_left _ he, rfl⟩)))))))
    have z := He.glo_ok X G (says_mem c f1)
    rw [e1, hfa] at z
    cases z
    show He.ga K (S' oe.f) = _
    rw [e1]
  rw [hlk] at l
  refine ⟨PySem.W.fnOf (S' oe.f) (S' oe.f) (defArgs (stAt pr oe.i)) (defBody (stAt pr oe.i)) (defScope (stAt pr oe.i)) .none kV doc pm an cdv ct, spOf false K (fun c => He.ga K (S' c)) (callB t.prog k false) "law" 1, fun s u => ?_, fun H a ns hn hT hS => ?_, fun base' Xb Gb hT => ?_⟩
  · exact .of_eq (bd kV doc pm an cdv ct [u] rfl)
  · refine ⟨rfl, [.val (.lst (ns.map .int))], ⟨[], []⟩, [], heaps0 hT, ⟨.ref a, [], rfl, ⟨a, ns.map V.int, rfl, ?_, ints_rep ns⟩, rfl⟩, ?_⟩
    · rcases hS with z | z
      · refine .inl ⟨z, fun l => ?_⟩
        rcases l with ⟨m, cc, e, _⟩ | l
        · simp at e
        · cases l
      · exact .inr z
    · obtain ⟨S, hS⟩ := hl ns hn
      have hS : callB t.prog k false "law" [.val (.lst (ns.map .int))] [] = .ok (.bl true) S := hS
      rw [hS]
      exact fun b H' L' _ _ r => r.1
  · have wd : Wld t.prog PR w K mg base' (fun c => He.ga K (S' c)) := wld_of hww hls hT hcs hes Xb Gb c cx
    obtain ⟨fa2, fd2, r1, r2, r3, r4, ⟨oc2, od2, osl2, r7⟩, r5⟩ := fns_ok wd k "law" d hd
    rw [hfa] at r1
    cases r1
    rw [l] at r7
    cases r7
    rw [hps, hnp] at r5
    exact r5 false
omit [WW] in
theorem law_of (hno : t.ls = []) (hcs : ∀ c ∈ t.cs, IniOk pr c) (hes : ∀ e ∈ t.es ++ t.hs, EntOk pr e) (X : K.In h) (G : h.Ns mainGlobals mg) (c : He.SaysE t.fa (t.fn pr) K) (cx : t.xt K = true) {d : Def} {x : String} {n k : Nat} (hd : t.prog.D "law" = some d) (hps : (nms d).take d.np = [S' x]) (hnp : d.np = 1)
    (hl : ∀ ns : List Int, ns.length ≤ n → ∃ S, call t.prog k "law" [.val (.lst (ns.map .int))] [] = .ok (.bl true) S) {fa : Addr} (hfa : mg (S' "law") = some (.ref fa)) :
    ∃ (K : PySem.W.Frag) (fd : FuncData) (sp : Sp), K.In h ∧ (∀ (s : Shared) (u : Value), BindsTo s fd ⟨[u], []⟩ [(S' x, u)]) ∧
        (∀ (H : Hp) (a : Addr) (ns : List Int), ns.length ≤ n → Only H → SqL K H a (ns.map V.int) → sp [.ref a] H (fun v _ => v = .bl true) fun _ _ _ => False) ∧
        ∀ base : Heap, K.In base → base.Ns mainGlobals mg → FnOk PR w K mg base (CXw PR) (k + 2) fa fd [S' x] sp := by
  obtain ⟨fd, sp, h2, h3, h4⟩ := @law_ofW ⟨w, []⟩ _ _ PR _ _ _ _ rfl (fun e he => by rw [hno] at he; cases he) hcs hes X G c cx _ _ _ _ hd hps hnp hl _ hfa
  exact ⟨K, fd, sp, X, h2, fun H a ns hn _ hS => h3 H a ns hn (fun p hp => by cases hp) hS, fun base' Xb Gb => @FnOk.cx ⟨w, []⟩ _ _ _ _ _ _ _ _ _ _ _ _ (h4 base' Xb Gb fun z => absurd hno z) fun _ _ _ _ _ _ z => ⟨w, z⟩⟩
omit [WW] in
theorem inc_inj : ∀ {l : List Nat}, incB l = true → ∀ (i j : Nat) (a : Nat), l[i]? = some a → l[j]? = some a → i = j := by
  have lt : ∀ {l : List Nat}, incB l = true → ∀ (i : Nat) (a b : Nat), l.head? = some a → l[i + 1]? = some b → a < b := by
    intro l
    induction l with
    | nil => intro _ i a b e; cases e
    | cons x r ih =>
      intro h i a b e1 e2
      cases e1
      cases r with
      | nil => simp at e2
      | cons y r =>
        simp only [incB, Bool.and_eq_true] at h
        have hxy : x < y := Nat.le_of_ble_eq_true h.1
        cases i with
        | zero => simp at e2; omega
        | succ i =>
          have := ih h.2 i y b rfl (by simpa using e2)
          omega
  intro l
  induction l with
  | nil => intro _ i j a e; simp at e
  | cons x r ih =>
    intro h i j a e1 e2
    have hr : incB r = true := by
      cases r with
      | nil => rfl
      | cons y r => simp only [incB, Bool.and_eq_true] at h; exact h.2
    cases i with
    | zero =>
      cases j with
      | zero => rfl
      | succ j =>
        have := lt h j x a rfl e2
        simp at e1
        omega
    | succ i =>
      cases j with
      | zero =>
        have := lt h i x a rfl e1
        simp at e2
        omega
      | succ j => rw [ih hr i j a (by simpa using e1) (by simpa using e2)]
omit [WW] in
theorem law_ofT {l : PySem.W.OpenLaw} (hPR : l.prog = PR) (hls : ∀ e ∈ t.ls, LEntOk pr t e) (tb : t.ls = [] ∨ TbOk t K h) (hne : t.ls ≠ []) (hcs : ∀ c ∈ t.cs, IniOk pr c) (hes : ∀ e ∈ t.es ++ t.hs, EntOk pr e) (X : K.In h) (G : h.Ns mainGlobals mg) (c : He.SaysE t.fa (t.fn pr) K) (cx : t.xt K = true) {d : Def} {x : String} {n k : Nat} (hd : t.prog.D "law" = some d) (hps : (nms d).take d.np = [S' x]) (hnp : d.np = 1)
    (hl : ∀ ns : List Int, ns.length ≤ n → ∃ S, call t.prog k "law" [.val (.lst (ns.map .int))] [] = .ok (.bl true) S) {fa : Addr} (hfa : mg (S' "law") = some (.ref fa)) :
    ∃ K : PySem.W.Frag, K.In h ∧ LamX.LawAtS l w K (L2.CX l.prog w) (k + 2) n (S' x) mg fa h := by
  have T : TbOk t K h := tb.elim (fun z => absurd z hne) id
  obtain ⟨fd, sp, h2, h3, h4⟩ := @law_ofW ⟨w, t.es.map fun e => (tabP K e.f, lamName e.f)⟩ _ _ PR _ _ _ _ rfl hls hcs hes X G c cx _ _ _ _ hd hps hnp hl _ hfa
  have mem : ∀ p ∈ t.es.map fun e => (tabC K e.f, tabP K e.f), ∃ e ∈ t.es, p = (tabC K e.f, tabP K e.f) := fun p hp => by
    obtain ⟨e, he, rfl⟩ := List.mem_map.mp hp
    exact ⟨e, he, rfl⟩
  refine ⟨K, X, fd, t.es.map fun e => (tabC K e.f, tabP K e.f), sp, fun p hp => ?_, fun p hp => ?_, fun p hp => ?_, h2, fun H a ns hn _ hH hS => h3 H a ns hn (fun p hp => ?_) hS, fun base' Xb Gb TB => ?_⟩
  · obtain ⟨e, he, rfl⟩ := mem p hp
    exact T.at_ e he
  · obtain ⟨e, he, rfl⟩ := mem p hp
    exact T.no e he
  · obtain ⟨e, he, rfl⟩ := mem p hp
    exact PySem.W.codeHd_of_K X (T.hd e he)
  · obtain ⟨e, he, rfl⟩ := List.mem_map.mp hp
    exact LamX.TabS.nil (hH _ (List.mem_map.mpr ⟨e, he, rfl⟩))
  · rw [hPR]
    refine h4 base' Xb Gb fun _ e he => ⟨T.tin e he, TB _ (List.mem_map.mpr ⟨e, he, rfl⟩), List.mem_map.mpr ⟨e, he, rfl⟩, fun p hp hq => ?_⟩
    obtain ⟨e', he', rfl⟩ := List.mem_map.mp hp
    obtain ⟨i, hi, ei⟩ := List.mem_iff_getElem.mp he
    obtain ⟨j, hj, ej⟩ := List.mem_iff_getElem.mp he'
    have q1 : (t.es.map fun e => tabP K e.f)[i]? = some (tabP K e.f) := by rw [List.getElem?_map, List.getElem?_eq_getElem hi, ei]; rfl
    have q2 : (t.es.map fun e => tabP K e.f)[j]? = some (tabP K e.f) := by rw [List.getElem?_map, List.getElem?_eq_getElem hj, ej]; exact congrArg some hq
    have := inc_inj T.inc i j _ q1 q2
    subst this
    rw [← ei, ← ej]
end
end Ev
end
section
set_option maxHeartbeats 1000000
namespace Ev

/-! ## the evaluator's equations, for simp -/
section
variable {g : Cfg} {σ : Lo} {S : Store}
@[simp] theorem e_var {i : Nat} : ev g (.var i) σ S = look σ i S := by simp only [ev]
@[simp] theorem e_gl {x : String} : ev g (.gl x) σ S = liftV (g.G x) S := by simp only [ev]
@[simp] theorem e_int {i : Int} : ev g (.int i) σ S = .ok (.val (.int i)) S := by simp only [ev]
@[simp] theorem e_str {x : List Nat} : ev g (.str x) σ S = .ok (.val (.str x)) S := by simp only [ev]
@[simp] theorem e_bl {b : Bool} : ev g (.bl b) σ S = .ok (.val (.bl b)) S := by simp only [ev]
@[simp] theorem e_non : ev g .non σ S = .ok (.val .non) S := by simp only [ev]
@[simp] theorem e_prim {p : Prim} {es : List CE} : ev g (.prim p es) σ S = if !g.cm && calmP p then .stuck else (evs g es σ S).bind fun sls S1 => primGo p sls S1 := by simp only [ev]
@[simp] theorem e_meth {p : Prim} {o : CE} {es : List CE} : ev g (.meth p o es) σ S = if !g.cm && calmP p then .stuck else (ev g o σ S).bind fun s S1 => if recvOk p s S1 then (evs g es σ S1).bind fun sls S2 => primGo p (s :: sls) S2 else .stuck := by simp only [ev]
@[simp] theorem e_sl11 {a i j : CE} : ev g (.sl11 a i j) σ S = (ev g a σ S).bind fun s S1 => (ev g i σ S1).bind fun x S2 => match intOf x with
    | some lo => (ev g j σ S2).bind fun y S3 => (match intOf y, valOf s with
      | some hi, some v => liftV (slP v (some lo) (some hi)) S3
      | _, _ => .stuck)
    | none => .stuck := by first | (simp only [ev]; done) | (simp only [ev]; rfl)
@[simp] theorem e_and {es : List CE} : ev g (.and_ es) σ S = evAnd g es σ S := by simp only [ev]
@[simp] theorem e_or {es : List CE} : ev g (.or_ es) σ S = evOr g es σ S := by simp only [ev]
@[simp] theorem e_not {e : CE} : ev g (.not_ e) σ S = (ev g e σ S).bind fun s S1 => match s with
    | .val (.bl b) => .ok (.val (.bl (!b))) S1
    | _ => .stuck := by first | (simp only [ev]; done) | (simp only [ev]; rfl)
@[simp] theorem e_ife {c a b : CE} : ev g (.ife c a b) σ S = (ev g c σ S).bind fun s S1 => (truthOf s S1).bind fun t S2 => if t then ev g a σ S2 else ev g b σ S2 := by simp only [ev]
@[simp] theorem e_cmp2 {o o' : CO} {a b c : CE} : ev g (.cmp2 o o' a b c) σ S = (ev g a σ S).bind fun x S1 => (ev g b σ S1).bind fun y S2 => (cmpGo o x y S2).bind fun t S3 =>
      if t then (ev g c σ S3).bind fun z S4 => (cmpGo o' y z S4).bind fun t' S5 => .ok (.val (.bl t')) S5 else .ok (.val (.bl false)) S3 := by simp only [ev]
@[simp] theorem e_call {f : String} {es : List CE} : ev g (.call f es) σ S = if g.cm && g.has f then (evs g es σ S).bind fun sls S1 => (g.C f sls S1).bind fun v S2 => .ok (.val v) S2 else .stuck := by simp only [ev]
@[simp] theorem e_lc {i : Nat} {it : IT} {elt : CE} {cnd : List CE} : ev g (.lc i it elt cnd) σ S = if g.cm then (evIt g it σ S).bind fun xs S1 => lcGo (fun x S2 => ev g elt (σ.set i (some (.val x))) S2)
      (fun x S2 => evTs g cnd (σ.set i (some (.val x))) S2) xs [] S1 else .stuck := by simp only [ev]
@[simp] theorem e_mv {i : Nat} : ev g (.mv i) σ S = move σ i S := by simp only [ev]
@[simp] theorem e_hot {f : String} {i : Nat} : ev g (.hot f i) σ S = (match g.hx with
    | some c => if c.2 = i then liftV (g.hv f c.1) S else .stuck
    | none => .stuck) := by first | (simp only [ev]; done) | (simp only [ev]; rfl)
@[simp] theorem e_isE {i : Nat} {d : String} : ev g (.isE i d) σ S = (match g.hx with
    | some c => if c.2 = i then liftV ((g.isx c.1 d).map .bl) S else .stuck
    | none => .stuck) := by first | (simp only [ev]; done) | (simp only [ev]; rfl)
@[simp] theorem e_lrep {es : List CE} {n : Nat} : ev g (.lrep es n) σ S = (evs g es σ S).bind fun sls S1 => (match mapO valOf sls with
    | some xs => if xs.length ≤ lim ∧ xs.length * n ≤ lim ∧ n ≤ 1000000 then .ok (.val (.lst (List.replicate n xs).flatten)) S1 else .stuck
    | none => .stuck) := by first | (simp only [ev]; done) | (simp only [ev]; rfl)
@[simp] theorem e_dlit {k v : CE} : ev g (.dlit k v) σ S = (match ev g k σ S with
    | .ok s S1 => (match ev g v σ S1 with
      | .ok t S2 => dlitGo s t S2
      | _ => .stuck)
    | _ => .stuck) := by first | (simp only [ev]; done) | (simp only [ev]; rfl)
@[simp] theorem dl_val {a b : PV} : dlitGo (.val a) (.val b) S = if keyOk a then .ok (.val (.dct [a] [b])) S else .stuck := rfl
@[simp] theorem n_dlit {k v : CE} : evN g (.dlit k v) σ S = lstOnly (ev g (.dlit k v) σ S) := rfl
@[simp] theorem n_dict0 {es : List CE} : evN g (.prim .dict0 es) σ S = lstOnly (ev g (.prim .dict0 es) σ S) := rfl
@[simp] theorem lo_dct {ks xs : List PV} : lstOnly (.ok (.val (.dct ks xs)) S) = .ok (.val (.dct ks xs)) S := rfl
@[simp] theorem x_sto {i : Nat} {k e : CE} : ex g (.sto i k e) σ S = (ev g e σ S).thn σ fun s S1 => if liveD σ i S1 then (ev g k σ S1).thn σ fun t S2 => stoGo σ i t s S2 else .stuck := by simp only [ex]
@[simp] theorem e_mk {c : String} {es : List CE} : ev g (.mk c es) σ S = if g.cm && g.cls c then (evs g es σ S).bind fun sls S1 => mkGo c sls S1 else .stuck := by simp only [ev]
@[simp] theorem e_fld {e : CE} {c f : String} : ev g (.fld e c f) σ S = if g.cls c then (ev g e σ S).bind fun s S1 => fldGo c f s S1 else .stuck := by simp only [ev]
@[simp] theorem e_isO {e : CE} {c : String} : ev g (.isO e c) σ S = if g.cls c then (ev g e σ S).bind fun s S1 => isoGo c s S1 else .stuck := by simp only [ev]
@[simp] theorem e_subS {i : Nat} {k : CE} : ev g (.subS i k) σ S = (match cellAt σ i with
    | some n => (ev g k σ S).bind fun s S1 => subSGo n s S1
    | none => .stuck) := by first | (simp only [ev]; done) | (simp only [ev]; rfl)
@[simp] theorem e_sortS {i : Nat} : ev g (.sortS i) σ S = (match cellAt σ i with
    | some n => if g.cm then sortSGo n S else .stuck
    | none => .stuck) := by first | (simp only [ev]; done) | (simp only [ev]; rfl)
@[simp] theorem e_lam {f : String} {b : CE} : ev g (.lam f b) σ S = if g.cm then okOnly (g.lam f (fun S1 => (ev g.low b σ S1).bind valGo) S) else .stuck := by simp only [ev]
@[simp] theorem oO_ok {v : PV} : okOnly (.ok v S) = .ok (.val v) S := rfl
@[simp] theorem vG_val {v : PV} : valGo (.val v) S = .ok v S := rfl
@[simp] theorem e_lrepN {es : List CE} {e : CE} : ev g (.lrepN es e) σ S = (evs g es σ S).bind fun sls S1 => (match mapO valOf sls with
    | some xs => if xs.length ≤ lim then (ev g e σ S1).bind fun s S2 => lrepGo xs s S2 else .stuck
    | none => .stuck) := by first | (simp only [ev]; done) | (simp only [ev]; rfl)
@[simp] theorem x_newS {i : Nat} : ex g (.newS i) σ S = if g.hx.isSome then .stuck else .next (σ.set i (some (.cell S.length))) (S ++ [some (.sdc [] [])]) := by simp only [ex]
@[simp] theorem x_stoS {i : Nat} {k e : CE} : ex g (.stoS i k e) σ S = (ev g e σ S).thn σ fun s S1 => if liveSd σ i S1 then (ev g k σ S1).thn σ fun t S2 => stoSGo σ i t s S2 else .stuck := by simp only [ex]
@[simp] theorem x_forT {is : List Nat} {it : IT} {b : List CS} : ex g (.forT is it b) σ S = if g.cm then (evIt g it σ S).thn σ fun xs S1 => forTGo is (fun σ' S' => exs g b σ' S') xs σ S1 else .stuck := by simp only [ex]
@[simp] theorem e_nil : evs g [] σ S = .ok [] S := by simp only [evs]
@[simp] theorem e_cons {e : CE} {r : List CE} : evs g (e :: r) σ S = (ev g e σ S).bind fun s S1 => (evs g r σ S1).bind fun t S2 => .ok (s :: t) S2 := by simp only [evs]
@[simp] theorem e_and1 {e : CE} : evAnd g [e] σ S = ev g e σ S := by simp only [evAnd]
@[simp] theorem e_and2 {e e' : CE} {r : List CE} : evAnd g (e :: e' :: r) σ S = (ev g e σ S).bind fun s S1 => match s with
    | .val (.bl b) => if b then evAnd g (e' :: r) σ S1 else .ok (.val (.bl false)) S1
    | _ => .stuck := by first | (simp only [evAnd]; done) | (simp only [evAnd]; rfl)
@[simp] theorem e_or1 {e : CE} : evOr g [e] σ S = ev g e σ S := by simp only [evOr]
@[simp] theorem e_or2 {e e' : CE} {r : List CE} : evOr g (e :: e' :: r) σ S = (ev g e σ S).bind fun s S1 => match s with
    | .val (.bl b) => if b then .ok (.val (.bl true)) S1 else evOr g (e' :: r) σ S1
    | _ => .stuck := by first | (simp only [evOr]; done) | (simp only [evOr]; rfl)
@[simp] theorem e_ts0 : evTs g [] σ S = .ok true S := by simp only [evTs]
@[simp] theorem e_ts1 {e : CE} : evTs g [e] σ S = (ev g e σ S).bind fun s S1 => truthOf s S1 := by simp only [evTs]
@[simp] theorem e_seq {e : CE} : evIt g (.seq e) σ S = (ev g e σ S).bind fun s S1 => match s with
    | .val v => (match itemsP v with
      | some xs => .ok xs S1
      | none => .stuck)
    | .cell _ => .stuck := by first | (simp only [evIt]; done) | (simp only [evIt]; rfl)
@[simp] theorem e_range {es : List CE} : evIt g (.range es) σ S = (evs g es σ S).bind fun sls S1 => match mapO valOf sls with
    | some pvs => (match rangeP pvs with
      | some xs => .ok xs S1
      | none => .stuck)
    | none => .stuck := by first | (simp only [evIt]; done) | (simp only [evIt]; rfl)
@[simp] theorem e_rev {e : CE} : evIt g (.rev e) σ S = (ev g e σ S).bind fun s S1 => match s with
    | .val (.lst xs) => .ok xs.reverse S1
    | _ => .stuck := by first | (simp only [evIt]; done) | (simp only [evIt]; rfl)
/-! statements -/
@[simp] theorem x_asg {i : Nat} {e : CE} : ex g (.asg i e) σ S = if g.hx.any (fun c => c.2 == i) then .stuck else (ev g e σ S).thn σ fun s S1 => .next (σ.set i (some s)) S1 := by simp only [ex]
@[simp] theorem x_asgT {is : List Nat} {e : CE} : ex g (.asgT is e) σ S = if g.cm then (ev g e σ S).thn σ fun s S1 => (match s with
    | .val (.tup xs) => (match setAll σ is xs with
      | some σ' => .next σ' S1
      | none => .stuck)
    | _ => .stuck) else .stuck := by first | (simp only [ex]; done) | (simp only [ex]; rfl)
@[simp] theorem x_new {i : Nat} {e : CE} : ex g (.new i e) σ S = if g.hx.isSome then .stuck else (evN g e σ S).thn σ fun s S1 => (match s with
    | .val v => (match cellOf v with
      | some c => .next (σ.set i (some (.cell S1.length))) (S1 ++ [some c])
      | none => .stuck)
    | .cell _ => .stuck) := by first | (simp only [ex]; done) | (simp only [ex]; rfl)
@[simp] theorem n_call {f : String} {es : List CE} : evN g (.call f es) σ S = if g.cm && g.has f then (evs g es σ S).bind fun sls S1 => lstOnly ((g.CN f sls S1).bind fun v S2 => .ok (.val v) S2) else .stuck := rfl
@[simp] theorem n_lc {i : Nat} {it : IT} {elt : CE} {cnd : List CE} : evN g (.lc i it elt cnd) σ S = lstOnly (ev g (.lc i it elt cnd) σ S) := rfl
@[simp] theorem n_lst {es : List CE} : evN g (.prim .lst es) σ S = lstOnly (ev g (.prim .lst es) σ S) := rfl
@[simp] theorem n_add {es : List CE} : evN g (.prim (.bin .add) es) σ S = lstOnly (ev g (.prim (.bin .add) es) σ S) := rfl
@[simp] theorem lo_ok {xs : List PV} : lstOnly (.ok (.val (.lst xs)) S) = .ok (.val (.lst xs)) S := rfl
@[simp] theorem lo_err {x : Exn} : lstOnly (.err x S) = .err x S := rfl
@[simp] theorem x_app {i : Nat} {e : CE} : ex g (.app i e) σ S = if liveL σ i S then (ev g e σ S).thn σ fun s S1 => (match s with
    | .val v => appGo σ i v S1
    | .cell _ => .stuck) else .stuck := by first | (simp only [ex]; done) | (simp only [ex]; rfl)
@[simp] theorem x_expr {e : CE} : ex g (.expr e) σ S = (ev g e σ S).thn σ fun _ S1 => .next σ S1 := by simp only [ex]
@[simp] theorem x_ret {e : CE} : ex g (.ret e) σ S = (if g.nw then evN g e σ S else ev g e σ S).thn σ fun s S1 => (match s with
    | .val v => .ret v S1
    | .cell _ => .stuck) := by first | (simp only [ex]; done) | (simp only [ex]; rfl)
@[simp] theorem x_ifs {c : CE} {t e : List CS} : ex g (.ifs c t e) σ S = ((ev g c σ S).bind fun s S1 => truthOf s S1).thn σ fun b S1 => if b then exs g t σ S1 else exs g e σ S1 := by simp only [ex]
@[simp] theorem x_for {i : Nat} {it : IT} {b : List CS} : ex g (.for_ i it b) σ S = if g.cm then (evIt g it σ S).thn σ fun xs S1 => forGo i (fun σ' S' => exs g b σ' S') xs σ S1 else .stuck := by simp only [ex]
@[simp] theorem x_whl {c : CE} {b : List CS} : ex g (.whl c b) σ S = if g.cm then whGo (fun σ' S' => (ev g c σ' S').bind fun s S1 => truthOf s S1) (fun σ' S' => exs g b σ' S') turns σ S else .stuck := by simp only [ex]
@[simp] theorem x_raise {c : String} {m : List Nat} : ex g (.raise c m) σ S = if g.cm && g.xc c then .err ⟨c, .non⟩ σ S else .stuck := by simp only [ex]
@[simp] theorem x_try {b : List CS} {c : String} {x : Option Nat} {s : List CS} : ex g (.try_ b c x s) σ S = if g.cm && g.xh c then (match exs g b σ S with
    | .err e σ' S' => if !g.xc e.cls then .stuck else if g.sub e.cls c then (match exs { g with cm := false, hx := x.map fun i => (e.cls, i) } s (unset σ' x) S' with
        | .next σ2 S2 => .next (unset σ2 x) S2
        | .ret v S2 => .ret v S2
        | _ => .stuck) else .err e σ' S'
    | o => o) else .stuck := by first | (simp only [ex]; done) | (simp only [ex]; rfl)
@[simp] theorem x_cont : ex g .cont σ S = .cont σ S := by simp only [ex]
@[simp] theorem x_brk : ex g .brk σ S = .brk σ S := by simp only [ex]
@[simp] theorem x_pass : ex g .pass σ S = .next σ S := by simp only [ex]
@[simp] theorem x_frz {s : CS} {i : Nat} : ex g (.frz s i) σ S = (ex g s σ S).seq fun σ' S' => frzGo i σ' S' := by simp only [ex]
@[simp] theorem x_nil : exs g [] σ S = .next σ S := by simp only [exs]
@[simp] theorem x_cons {s : CS} {r : List CS} : exs g (s :: r) σ S = (ex g s σ S).seq fun σ' S' => exs g r σ' S' := by simp only [exs]
end
/-! parts -/
section
variable {S : Store}
@[simp] theorem m_nil {α β : Type} {f : α → Option β} : mapO f [] = some [] := rfl
@[simp] theorem m_cons {α β : Type} {f : α → Option β} {a : α} {r : List α} : mapO f (a :: r) = (match f a with
    | some b => (mapO f r).map (b :: ·)
    | none => none) := rfl
@[simp] theorem v_val {v : PV} : valOf (.val v) = some v := rfl
@[simp] theorem d_val {v : PV} : deref S (.val v) = some v := rfl
@[simp] theorem i_val {i : Int} : intOf (.val (.int i)) = some i := rfl
@[simp] theorem lk_cons {s : Sl} {r : Lo} : look (some s :: r) 0 S = .ok s S := rfl
@[simp] theorem lk_succ {s : Option Sl} {r : Lo} {i : Nat} : look (s :: r) (i + 1) S = look r i S := by unfold look; rw [List.getElem?_cons_succ]
@[simp] theorem l_some {v : PV} : liftV (some v) S = .ok (.val v) S := rfl
@[simp] theorem l_none : liftV none S = .stuck := rfl
@[simp] theorem p_go1 {p : Prim} {a : PV} : primGo p [.val a] S = liftV (primP p [a]) S := by unfold primGo; split <;> rename_i h <;> split at h <;> simp at h <;> subst h <;> unfold liftV <;> rfl
@[simp] theorem p_go2 {p : Prim} {a b : PV} : primGo p [.val a, .val b] S = liftV (primP p [a, b]) S := by unfold primGo; split <;> rename_i h <;> split at h <;> simp at h <;> subst h <;> unfold liftV <;> rfl
theorem mapO_vals : ∀ xs : List PV, mapO valOf (xs.map .val) = some xs
  | [] => rfl
  | x :: xs => by rw [List.map_cons, m_cons, v_val, mapO_vals xs]; rfl
theorem mapO_der : ∀ xs : List PV, mapO (deref S) (xs.map .val) = some xs
  | [] => rfl
  | x :: xs => by rw [List.map_cons, m_cons, d_val, mapO_der xs]; rfl
@[simp] theorem p_goN {p : Prim} {xs : List PV} : primGo p (xs.map .val) S = liftV (primP p xs) S := by
  unfold primGo
  rw [mapO_vals, mapO_der, ite_self]
  unfold liftV
  rfl
@[simp] theorem p_lst {sls : List Sl} : primGo .lst sls S = liftV ((mapO valOf sls).bind fun xs => primP .lst xs) S := by
  unfold primGo
  simp only [borrows, Bool.false_eq_true, if_false]
  cases mapO valOf sls <;> rfl
@[simp] theorem p_tup {sls : List Sl} : primGo .tup sls S = liftV ((mapO valOf sls).bind fun xs => primP .tup xs) S := by
  unfold primGo
  simp only [borrows, Bool.false_eq_true, if_false]
  cases mapO valOf sls <;> rfl
@[simp] theorem pp_bin {o : BO} {a b : PV} : primP (.bin o) [a, b] = binP o a b := rfl
@[simp] theorem pp_cmp {o : CO} {a b : PV} : primP (.cmp o) [a, b] = (cmpP o a b).map .bl := rfl
@[simp] theorem pp_neg {a : PV} : primP .neg [a] = negP a := rfl
@[simp] theorem pp_tup {xs : List PV} : primP .tup xs = if xs.length ≤ lim then some (.tup xs) else none := rfl
@[simp] theorem pp_lst {xs : List PV} : primP .lst xs = if xs.length ≤ lim then some (.lst xs) else none := rfl
@[simp] theorem pp_sub {a b : PV} : primP .sub [a, b] = subP a b := rfl
@[simp] theorem pp_sl00 {a : PV} : primP .sl00 [a] = slP a none none := rfl
@[simp] theorem pp_sl01 {a b : PV} : primP .sl01 [a, b] = sl01P a b := rfl
@[simp] theorem pp_sl10 {a b : PV} : primP .sl10 [a, b] = sl10P a b := rfl
@[simp] theorem pp_isi {t : Ty} {a : PV} : primP (.isi t) [a] = (isiP t a).map .bl := rfl
@[simp] theorem pp_len {a : PV} : primP .len [a] = lenP a := rfl
@[simp] theorem pp_str {a : PV} : primP .str [a] = strP a := rfl
@[simp] theorem pp_int {a : PV} : primP .int [a] = intP a := rfl
@[simp] theorem pp_max {a b : PV} : primP .max2 [a, b] = maxP a b := rfl
@[simp] theorem pp_min {a b : PV} : primP .min2 [a, b] = minP a b := rfl
@[simp] theorem pp_all {a : PV} : primP .all [a] = allP a := rfl
@[simp] theorem pp_list {a : PV} : primP .list [a] = listP a := rfl
@[simp] theorem pp_tuple {a : PV} : primP .tuple [a] = tupleP a := rfl
@[simp] theorem pp_count {a b : PV} : primP .count [a, b] = countP a b := rfl
@[simp] theorem pp_join {a b : PV} : primP .join [a, b] = joinP a b := rfl
@[simp] theorem t_val {v : PV} : truthOf (.val v) S = (match truth v with
    | some b => .ok b S
    | none => .stuck) := rfl
@[simp] theorem cg_val {o : CO} {a b : PV} : cmpGo o (.val a) (.val b) S = (match cmpP o a b with
    | some r => .ok r S
    | none => .stuck) := rfl
@[simp] theorem tr_bl {b : Bool} : truth (.bl b) = some b := rfl
@[simp] theorem tr_int {i : Int} : truth (.int i) = some (i != 0) := rfl
@[simp] theorem tr_non : truth .non = some false := rfl
@[simp] theorem tr_tup {xs : List PV} : truth (.tup xs) = some (!xs.isEmpty) := rfl
@[simp] theorem tr_lst {xs : List PV} : truth (.lst xs) = some (!xs.isEmpty) := rfl
@[simp] theorem b_add {i j : Int} : binP .add (.int i) (.int j) = some (.int (i + j)) := rfl
@[simp] theorem b_adds {x y : List Nat} : binP .add (.str x) (.str y) = if x.length + y.length ≤ lim then some (.str (x ++ y)) else none := rfl
@[simp] theorem b_addl {x y : List PV} : binP .add (.lst x) (.lst y) = if x.length + y.length ≤ lim then some (.lst (x ++ y)) else none := rfl
@[simp] theorem b_addt {x y : List PV} : binP .add (.tup x) (.tup y) = if x.length + y.length ≤ lim then some (.tup (x ++ y)) else none := rfl
@[simp] theorem b_sub {i j : Int} : binP .sub (.int i) (.int j) = some (.int (i - j)) := rfl
@[simp] theorem b_mul {i j : Int} : binP .mul (.int i) (.int j) = if mulOk i j then some (.int (i * j)) else none := rfl
@[simp] theorem b_fdiv {i j : Int} : binP .fdiv (.int i) (.int j) = if 0 < j ∧ j < wid then some (.int (i / j)) else none := rfl
@[simp] theorem b_mod {i j : Int} : binP .mod (.int i) (.int j) = if 0 < j then some (.int (i % j)) else none := rfl
@[simp] theorem b_pow {i j : Int} : binP .pow (.int i) (.int j) = if powOk i j then some (.int (i ^ j.toNat)) else none := rfl
@[simp] theorem b_shl {i j : Int} : binP .shl (.int i) (.int j) = if powOk i j then some (.int (i * 2 ^ j.toNat)) else none := rfl
@[simp] theorem c_eq {a b : PV} : cmpP .eq a b = if okd a b then some (eqv a b) else none := by cases a <;> rfl
@[simp] theorem c_ne {a b : PV} : cmpP .ne a b = if okd a b then some (!eqv a b) else none := by cases a <;> rfl
@[simp] theorem c_lt {i j : Int} : cmpP .lt (.int i) (.int j) = some (decide (i < j)) := rfl
@[simp] theorem c_le {i j : Int} : cmpP .le (.int i) (.int j) = some (decide (i ≤ j)) := rfl
@[simp] theorem c_gt {i j : Int} : cmpP .gt (.int i) (.int j) = some (decide (j < i)) := rfl
@[simp] theorem c_ge {i j : Int} : cmpP .ge (.int i) (.int j) = some (decide (j ≤ i)) := rfl
@[simp] theorem c_isn {a : PV} : cmpP .isn a .non = some (isNon a) := by cases a <;> rfl
@[simp] theorem c_ntn {a : PV} : cmpP .ntn a .non = some (!isNon a) := by cases a <;> rfl
@[simp] theorem c_inl {a : PV} {ys : List PV} : cmpP .in_ a (.lst ys) = if ys.all (fun y => okd y a) then some (ys.any fun y => eqv y a) else none := by cases a <;> rfl
@[simp] theorem c_int {a : PV} {ys : List PV} : cmpP .in_ a (.tup ys) = if ys.all (fun y => okd y a) then some (ys.any fun y => eqv y a) else none := by cases a <;> rfl
@[simp] theorem c_ins {c : Nat} {ys : List Nat} : cmpP .in_ (.str [c]) (.str ys) = some (decide (c ∈ ys)) := rfl
@[simp] theorem c_ninl {a : PV} {ys : List PV} : cmpP .nin a (.lst ys) = if ys.all (fun y => okd y a) then some (!ys.any fun y => eqv y a) else none := by cases a <;> rfl
@[simp] theorem c_nint {a : PV} {ys : List PV} : cmpP .nin a (.tup ys) = if ys.all (fun y => okd y a) then some (!ys.any fun y => eqv y a) else none := by cases a <;> rfl
@[simp] theorem c_nins {c : Nat} {ys : List Nat} : cmpP .nin (.str [c]) (.str ys) = some (!decide (c ∈ ys)) := rfl
@[simp] theorem isNon_non : isNon .non = true := rfl
@[simp] theorem isNon_bl {b : Bool} : isNon (.bl b) = false := rfl
@[simp] theorem isNon_int {b : Int} : isNon (.int b) = false := rfl
@[simp] theorem isNon_str {b : List Nat} : isNon (.str b) = false := rfl
@[simp] theorem isNon_tup {b : List PV} : isNon (.tup b) = false := rfl
@[simp] theorem isNon_lst {b : List PV} : isNon (.lst b) = false := rfl
@[simp] theorem s_tup {xs : List PV} {i : Int} : subP (.tup xs) (.int i) = atp xs i := rfl
@[simp] theorem s_lst {xs : List PV} {i : Int} : subP (.lst xs) (.int i) = atp xs i := rfl
@[simp] theorem s_str {x : List Nat} {i : Int} : subP (.str x) (.int i) = if x.length ≤ lim then (atp x i).map fun c => .str [c] else none := rfl
theorem at_nat {α : Type} {xs : List α} {i : Nat} : atp xs (i : Int) = xs[i]? := by
  unfold atp ixp
  by_cases h : i < xs.length
  · simp [h]
  · rw [if_pos (by omega), if_neg (by omega), Option.bind_none, List.getElem?_eq_none (by omega)]
@[simp] theorem at_zero {α : Type} {x : α} {r : List α} : atp (x :: r) 0 = some x := at_nat (i := 0)
@[simp] theorem at_one {α : Type} {x y : α} {r : List α} : atp (x :: y :: r) 1 = some y := at_nat (i := 1)
@[simp] theorem at_two {α : Type} {x y z : α} {r : List α} : atp (x :: y :: z :: r) 2 = some z := at_nat (i := 2)
@[simp] theorem at_three {α : Type} {x y z w : α} {r : List α} : atp (x :: y :: z :: w :: r) 3 = some w := at_nat (i := 3)
@[simp] theorem is_non {t : Ty} : isiP t .non = some false := by cases t <;> rfl
@[simp] theorem is_bl {t : Ty} {b : Bool} : isiP t (.bl b) = some (t == .bool || t == .int) := by cases t <;> rfl
@[simp] theorem is_int {t : Ty} {b : Int} : isiP t (.int b) = some (t == .int) := by cases t <;> rfl
@[simp] theorem is_str {t : Ty} {b : List Nat} : isiP t (.str b) = some (t == .str) := by cases t <;> rfl
@[simp] theorem is_tup {t : Ty} {b : List PV} : isiP t (.tup b) = some (t == .tuple) := by cases t <;> rfl
@[simp] theorem is_lst {t : Ty} {b : List PV} : isiP t (.lst b) = some (t == .list) := by cases t <;> rfl
@[simp] theorem ln_str {x : List Nat} : lenP (.str x) = if x.length ≤ lim then some (.int x.length) else none := rfl
@[simp] theorem ln_tup {x : List PV} : lenP (.tup x) = some (.int x.length) := rfl
@[simp] theorem ln_lst {x : List PV} : lenP (.lst x) = some (.int x.length) := rfl
@[simp] theorem mx {i j : Int} : maxP (.int i) (.int j) = some (.int (if j > i then j else i)) := rfl
@[simp] theorem mn {i j : Int} : minP (.int i) (.int j) = some (.int (if j < i then j else i)) := rfl
@[simp] theorem in_int {i : Int} : intP (.int i) = some (.int i) := rfl
@[simp] theorem in_bl {b : Bool} : intP (.bl b) = some (.int (if b then 1 else 0)) := rfl
@[simp] theorem ng {i : Int} : negP (.int i) = some (.int (-i)) := rfl
@[simp] theorem sl1 {a : PV} {j : Int} : sl01P a (.int j) = slP a none (some j) := rfl
@[simp] theorem sl2 {a : PV} {j : Int} : sl10P a (.int j) = slP a (some j) none := rfl
@[simp] theorem calm_bin {o : BO} : calmP (.bin o) = false := rfl
@[simp] theorem calm_cmp {o : CO} : calmP (.cmp o) = false := rfl
@[simp] theorem calm_neg : calmP .neg = false := rfl
@[simp] theorem calm_tup : calmP .tup = false := rfl
@[simp] theorem calm_lst : calmP .lst = false := rfl
@[simp] theorem calm_sub : calmP .sub = false := rfl
@[simp] theorem calm_sl00 : calmP .sl00 = false := rfl
@[simp] theorem calm_sl01 : calmP .sl01 = false := rfl
@[simp] theorem calm_sl10 : calmP .sl10 = false := rfl
@[simp] theorem calm_len : calmP .len = false := rfl
@[simp] theorem calm_str : calmP .str = false := rfl
@[simp] theorem calm_int : calmP .int = false := rfl
@[simp] theorem calm_max2 : calmP .max2 = true := rfl
@[simp] theorem calm_min2 : calmP .min2 = true := rfl
@[simp] theorem calm_all : calmP .all = true := rfl
@[simp] theorem calm_list : calmP .list = true := rfl
@[simp] theorem calm_tuple : calmP .tuple = true := rfl
@[simp] theorem calm_count : calmP .count = false := rfl
@[simp] theorem calm_join : calmP .join = true := rfl
@[simp] theorem calm_isi {t : Ty} : calmP (.isi t) = false := rfl
@[simp] theorem end_ret {n : Nat} {v : PV} : ends n (.ret v S) = .ok v (S.take n) := rfl
@[simp] theorem end_next {n : Nat} {σ : Lo} : ends n (.next σ S) = .ok .non (S.take n) := rfl
@[simp] theorem end_err {n : Nat} {e : Exn} {σ : Lo} : ends n (.err e σ S) = .err e (S.take n) := rfl
@[simp] theorem ok_str1 {x y : List Nat} : okd (.str x) (.str y) = true := rfl
@[simp] theorem ok_int1 {x y : Int} : okd (.int x) (.int y) = true := rfl
@[simp] theorem ok_bl1 {x y : Bool} : okd (.bl x) (.bl y) = true := rfl
@[simp] theorem eq_bl1 {x y : Bool} : eqv (.bl x) (.bl y) = (x == y) := by simp only [eqv]
@[simp] theorem eq_str1 {x y : List Nat} : eqv (.str x) (.str y) = (x == y) := by simp only [eqv]
@[simp] theorem eq_int1 {x y : Int} : eqv (.int x) (.int y) = (x == y) := by simp only [eqv]
@[simp] theorem un_some {σ : Lo} {i : Nat} : unset σ (some i) = σ.set i none := rfl
@[simp] theorem un_none {σ : Lo} : unset σ none = σ := rfl
@[simp] theorem co_dct {ks xs : List PV} : cellOf (.dct ks xs) = some (.dct ks xs) := rfl
@[simp] theorem pp_get2 {ks xs : List PV} {k d : PV} : primP .get2 [.dct ks xs, k, d] = if keyOk k && plainV d then some ((dgetP ks xs k).getD d) else none := rfl
@[simp] theorem pp_dict0 : primP .dict0 [] = some (.dct [] []) := rfl
@[simp] theorem s_dct {ks xs : List PV} {k : PV} : subP (.dct ks xs) k = if keyOk k then dgetP ks xs k else none := rfl
@[simp] theorem calm_get2 : calmP .get2 = false := rfl
@[simp] theorem calm_dict0 : calmP .dict0 = false := rfl
@[simp] theorem co_lst {xs : List PV} : cellOf (.lst xs) = some (.lst xs) := rfl
@[simp] theorem fr_lst {es : List CE} : frE (.prim .lst es) = true := rfl
@[simp] theorem fr_lc {i : Nat} {it : IT} {e : CE} {c : List CE} : frE (.lc i it e c) = true := rfl
@[simp] theorem sA_nil {σ : Lo} : setAll σ [] [] = some σ := rfl
@[simp] theorem sA_cons {σ : Lo} {i : Nat} {is : List Nat} {x : PV} {xs : List PV} : setAll σ (i :: is) (x :: xs) = setAll (σ.set i (some (.val x))) is xs := rfl
end
/-- a call of a def of the table -/
def cfg (P : Prog) (n : Nat) : Cfg := ⟨true, none, call P n, P.G, hotV P, P.sub, fun x => (P.D x).isSome, P.xc, P.xh, P.isx, false, callB P n true, P.cls, lamN P n, callB P (n - 2) false, callB P (n - 2) true⟩
/-- a call of a def that returns a new list -/
def cfgN (P : Prog) (n : Nat) : Cfg := ⟨true, none, call P n, P.G, hotV P, P.sub, fun x => (P.D x).isSome, P.xc, P.xh, P.isx, true, callB P n true, P.cls, lamN P n, callB P (n - 2) false, callB P (n - 2) true⟩
section
variable {P : Prog} {n : Nat}
@[simp] theorem cfg_cm : (cfg P n).cm = true := rfl
@[simp] theorem cfg_hx : (cfg P n).hx = none := rfl
@[simp] theorem cfg_C : (cfg P n).C = call P n := rfl
@[simp] theorem cfg_G : (cfg P n).G = P.G := rfl
@[simp] theorem cfg_has {x : String} : (cfg P n).has x = (P.D x).isSome := rfl
@[simp] theorem cfg_xc : (cfg P n).xc = P.xc := rfl
@[simp] theorem cfg_xh : (cfg P n).xh = P.xh := rfl
@[simp] theorem cfg_hv : (cfg P n).hv = hotV P := rfl
@[simp] theorem cfg_isx : (cfg P n).isx = P.isx := rfl
@[simp] theorem cfg_sub : (cfg P n).sub = P.sub := rfl
@[simp] theorem cfg_nw : (cfg P n).nw = false := rfl
@[simp] theorem cfg_cls : (cfg P n).cls = P.cls := rfl
@[simp] theorem cfgN_cls : (cfgN P n).cls = P.cls := rfl
@[simp] theorem cfg_lam : (cfg P n).lam = lamN P n := rfl
/-- what is around in a lambda's body -/
def cfgL (P : Prog) (n : Nat) : Cfg := (cfg P n).low
@[simp] theorem cfg_low : (cfg P n).low = cfgL P n := rfl
@[simp] theorem cfgL_cm : (cfgL P n).cm = true := rfl
@[simp] theorem cfgL_hx : (cfgL P n).hx = none := rfl
@[simp] theorem cfgL_C : (cfgL P n).C = call P (n - 2) := rfl
@[simp] theorem cfgL_G : (cfgL P n).G = P.G := rfl
@[simp] theorem cfgL_has {x : String} : (cfgL P n).has x = (P.D x).isSome := rfl
@[simp] theorem cfgL_cls : (cfgL P n).cls = P.cls := rfl
@[simp] theorem cfg_CN : (cfg P n).CN = callB P n true := rfl
@[simp] theorem cfgN_cm : (cfgN P n).cm = true := rfl
@[simp] theorem cfgN_hx : (cfgN P n).hx = none := rfl
@[simp] theorem cfgN_C : (cfgN P n).C = call P n := rfl
@[simp] theorem cfgN_G : (cfgN P n).G = P.G := rfl
@[simp] theorem cfgN_has {x : String} : (cfgN P n).has x = (P.D x).isSome := rfl
@[simp] theorem cfgN_xc : (cfgN P n).xc = P.xc := rfl
@[simp] theorem cfgN_xh : (cfgN P n).xh = P.xh := rfl
@[simp] theorem cfgN_hv : (cfgN P n).hv = hotV P := rfl
@[simp] theorem cfgN_isx : (cfgN P n).isx = P.isx := rfl
@[simp] theorem cfgN_sub : (cfgN P n).sub = P.sub := rfl
@[simp] theorem cfgN_nw : (cfgN P n).nw = true := rfl
@[simp] theorem cfgN_CN : (cfgN P n).CN = callB P n true := rfl
theorem call_def {f : String} {d : Def} (h : P.D f = some d) (n : Nat) (as : List Sl) (S : Store) (hl : as.length = d.np) : call P (n + 1) f as S = ends S.length (exs (cfg P n) d.body (begins d as) S) := by
  simp only [call, callB, h, hl, if_true, cfg, endsB]
theorem callN_def {f : String} {d : Def} (h : P.D f = some d) (n : Nat) (as : List Sl) (S : Store) (hl : as.length = d.np) : callB P (n + 1) true f as S = endsB true S.length (exs (cfgN P n) d.body (begins d as) S) := by
  simp only [callB, h, hl, if_true, cfgN, call]
@[simp] theorem endB_ret {n : Nat} {v : PV} {S : Store} : endsB true n (.ret v S) = .ok v (S.take n) := rfl
@[simp] theorem endB_err {n : Nat} {e : Exn} {σ : Lo} {S : Store} : endsB true n (.err e σ S) = .err e (S.take n) := rfl
end
end Ev
end
section
set_option maxHeartbeats 1000000
namespace Pg
open Ev

def d__law_cell : Def := ⟨["script", "k"], 2,
  [.ifs (.prim (.cmp .eq) [(.var 0), (.prim .lst [])])
     [.ret (.prim (.bin .mul) [(.var 1), (.int 7919)])]
     [],
   .ret (.prim (.bin .add) [(.prim .sub [(.var 0), (.prim (.bin .mod) [(.var 1), (.prim .len [(.var 0)])])]), (.prim (.bin .mul) [(.prim (.bin .fdiv) [(.var 1), (.prim .len [(.var 0)])]), (.int 104729)])])]⟩
def d__law_drawn : Def := ⟨["cell", "k", "more"], 2,
  [.asg 2 (.prim (.bin .mod) [(.prim (.bin .add) [(.prim (.bin .mul) [(.var 0), (.int 6364136223846793005)]), (.prim (.bin .mul) [(.prim (.bin .add) [(.var 1), (.int 1)]), (.int 1442695040888963407)])]), (.int 340282366920938463463374607431768211507)]),
   .asg 2 (.prim (.bin .mod) [(.prim (.bin .mul) [(.var 2), (.var 2)]), (.int 340282366920938463463374607431768211297)]),
   .asg 2 (.prim (.bin .mul) [(.prim (.bin .mul) [(.prim (.bin .add) [(.prim (.bin .mod) [(.var 2), (.int 18446744073709551557)]), (.int 1)]), (.prim (.bin .add) [(.prim (.bin .fdiv) [(.var 2), (.int 18446744073709551557)]), (.int 1)])]), (.var 2)]),
   .ret (.prim (.bin .mod) [(.var 2), (.int 340282366920938463463374607431768211507)])]⟩
def d_sort_depth : Def := ⟨["sort"], 1,
  [.ifs (.prim (.isi .tuple) [(.var 0)])
     [.ret (.prim (.bin .add) [(.int 1), (.prim .max2 [(.call "sort_depth" [(.prim .sub [(.var 0), (.int 0)])]), (.call "sort_depth" [(.prim .sub [(.var 0), (.int 1)])])])])]
     [],
   .ret (.int 0)]⟩
def d_is_made : Def := ⟨["thing", "left"], 2,
  [.ifs (.or_ [(.prim (.cmp .eq) [(.var 0), (.str [116])]), (.prim (.cmp .eq) [(.var 0), (.str [105])])])
     [.ret (.bl true)]
     [],
   .ifs (.or_ [(.not_ (.prim (.isi .tuple) [(.var 0)])), (.prim (.cmp .ne) [(.prim .len [(.var 0)]), (.int 2)]), (.prim (.cmp .eq) [(.var 1), (.int 0)])])
     [.ret (.bl false)]
     [],
   .ret (.and_ [(.call "is_made" [(.prim .sub [(.var 0), (.int 0)]), (.prim (.bin .sub) [(.var 1), (.int 1)])]), (.call "is_made" [(.prim .sub [(.var 0), (.int 1)]), (.prim (.bin .sub) [(.var 1), (.int 1)])])])]⟩
def d_is_sort : Def := ⟨["thing"], 1,
  [.ret (.call "is_made" [(.var 0), (.gl "MOST_SORT")])]⟩
def d_sort_text : Def := ⟨["sort"], 1,
  [.ifs (.prim (.isi .tuple) [(.var 0)])
     [.ret (.prim (.bin .add) [(.prim (.bin .add) [(.prim (.bin .add) [(.prim (.bin .add) [(.str [40]), (.call "sort_text" [(.prim .sub [(.var 0), (.int 0)])])]), (.str [62])]), (.call "sort_text" [(.prim .sub [(.var 0), (.int 1)])])]), (.str [41])])]
     [],
   .ret (.var 0)]⟩
def d_sort_from : Def := ⟨["text", "at", "left", "sign", "first", "second"], 3,
  [.asg 3 (.sl11 (.var 0) (.var 1) (.prim (.bin .add) [(.var 1), (.int 1)])),
   .ifs (.or_ [(.prim (.cmp .eq) [(.var 3), (.str [116])]), (.prim (.cmp .eq) [(.var 3), (.str [105])])])
     [.ret (.prim .tup [(.var 3), (.prim (.bin .add) [(.var 1), (.int 1)])])]
     [],
   .ifs (.or_ [(.prim (.cmp .ne) [(.var 3), (.str [40])]), (.prim (.cmp .eq) [(.var 2), (.int 0)])])
     [.raise "BadText" [110, 111, 32, 115, 111, 114, 116]]
     [],
   .asgT [4, 1] (.call "sort_from" [(.var 0), (.prim (.bin .add) [(.var 1), (.int 1)]), (.prim (.bin .sub) [(.var 2), (.int 1)])]),
   .ifs (.prim (.cmp .ne) [(.sl11 (.var 0) (.var 1) (.prim (.bin .add) [(.var 1), (.int 1)])), (.str [62])])
     [.raise "BadText" [110, 111, 32, 115, 111, 114, 116]]
     [],
   .asgT [5, 1] (.call "sort_from" [(.var 0), (.prim (.bin .add) [(.var 1), (.int 1)]), (.prim (.bin .sub) [(.var 2), (.int 1)])]),
   .ifs (.prim (.cmp .ne) [(.sl11 (.var 0) (.var 1) (.prim (.bin .add) [(.var 1), (.int 1)])), (.str [41])])
     [.raise "BadText" [110, 111, 32, 115, 111, 114, 116]]
     [],
   .ret (.prim .tup [(.prim .tup [(.var 4), (.var 5)]), (.prim (.bin .add) [(.var 1), (.int 1)])])]⟩
def d_read_sort : Def := ⟨["text", "sort", "at"], 1,
  [.asgT [1, 2] (.call "sort_from" [(.var 0), (.int 0), (.gl "MOST_SORT")]),
   .ifs (.prim (.cmp .lt) [(.var 2), (.prim .len [(.var 0)])])
     [.raise "BadText" [110, 111, 32, 115, 111, 114, 116]]
     [],
   .ret (.var 1)]⟩
def d__law_alone : Def := ⟨["e", "flags"], 1,
  [.asg 1 (.prim .lst [(.isE 0 "NoRule"), (.isE 0 "TooGreat"), (.isE 0 "Untrue"), (.isE 0 "BadText")]),
   .asg 1 (.prim (.bin .add) [(.var 1), (.prim .lst [(.isE 0 "BadRow"), (.isE 0 "NoSuch")])]),
   .ret (.and_ [(.prim (.cmp .eq) [(.meth .count (.var 1) [(.bl true)]), (.int 1)]), (.isE 0 "WellError"), (.isE 0 "ValueError")])]⟩
def d__law_sort_by : Def := ⟨["more", "deep"], 2,
  [.ifs (.or_ [(.prim (.cmp .eq) [(.var 1), (.int 0)]), (.prim (.cmp .eq) [(.prim (.bin .mod) [(.var 0), (.int 3)]), (.int 0)])])
     [.ret (.prim .sub [(.prim .lst [(.str [116]), (.str [105])]), (.prim (.bin .mod) [(.prim (.bin .fdiv) [(.var 0), (.int 3)]), (.int 2)])])]
     [],
   .ret (.prim .tup [(.call "_law_sort_by" [(.prim (.bin .fdiv) [(.var 0), (.int 7)]), (.prim (.bin .sub) [(.var 1), (.int 1)])]), (.call "_law_sort_by" [(.prim (.bin .fdiv) [(.var 0), (.int 1009)]), (.prim (.bin .sub) [(.var 1), (.int 1)])])])]⟩
def d__law_sort_text : Def := ⟨["sort"], 1,
  [.ifs (.prim (.isi .tuple) [(.var 0)])
     [.ret (.prim (.bin .add) [(.prim (.bin .add) [(.prim (.bin .add) [(.prim (.bin .add) [(.str [40]), (.call "_law_sort_text" [(.prim .sub [(.var 0), (.int 0)])])]), (.str [62])]), (.call "_law_sort_text" [(.prim .sub [(.var 0), (.int 1)])])]), (.str [41])])]
     [],
   .ret (.var 0)]⟩
def d__law_sort_depth : Def := ⟨["sort"], 1,
  [.ifs (.prim (.isi .tuple) [(.var 0)])
     [.ret (.prim (.bin .add) [(.int 1), (.prim .max2 [(.call "_law_sort_depth" [(.prim .sub [(.var 0), (.int 0)])]), (.call "_law_sort_depth" [(.prim .sub [(.var 0), (.int 1)])])])])]
     [],
   .ret (.int 0)]⟩
def d__law_is_sort : Def := ⟨["thing", "left"], 2,
  [.ifs (.prim (.isi .str) [(.var 0)])
     [.ret (.prim (.cmp .in_) [(.var 0), (.prim .lst [(.str [116]), (.str [105])])])]
     [],
   .ifs (.or_ [(.not_ (.prim (.isi .tuple) [(.var 0)])), (.prim (.cmp .ne) [(.prim .len [(.var 0)]), (.int 2)]), (.prim (.cmp .eq) [(.var 1), (.int 0)])])
     [.ret (.bl false)]
     [],
   .ret (.and_ [(.call "_law_is_sort" [(.prim .sub [(.var 0), (.int 0)]), (.prim (.bin .sub) [(.var 1), (.int 1)])]), (.call "_law_is_sort" [(.prim .sub [(.var 0), (.int 1)]), (.prim (.bin .sub) [(.var 1), (.int 1)])])])]⟩
def d_is_name : Def := ⟨["thing", "sign"], 1,
  [.ifs (.or_ [(.not_ (.prim (.isi .str) [(.var 0)])), (.not_ (.cmp2 .le .le (.int 1) (.prim .len [(.var 0)]) (.gl "MOST_NAME"))), (.prim (.cmp .nin) [(.prim .sub [(.var 0), (.int 0)]), (.gl "LETTERS")])])
     [.ret (.bl false)]
     [],
   .ret (.prim .all [(.lc 1 (.seq (.var 0)) (.or_ [(.prim (.cmp .in_) [(.var 1), (.gl "LETTERS")]), (.prim (.cmp .in_) [(.var 1), (.gl "FIGURES")])]) [])])]⟩
def d_is_whole : Def := ⟨["thing"], 1,
  [.ret (.and_ [(.prim (.isi .int) [(.var 0)]), (.not_ (.prim (.isi .bool) [(.var 0)]))])]⟩
def d_good_sort : Def := ⟨["sort"], 1,
  [.ifs (.prim (.cmp .gt) [(.call "sort_depth" [(.var 0)]), (.gl "MOST_SORT")])
     [.ret .non]
     [],
   .ret (.var 0)]⟩
def d_leaf_sort : Def := ⟨["thing", "around"], 2,
  [.ifs (.and_ [(.prim (.cmp .eq) [(.prim .sub [(.var 0), (.int 0)]), (.str [102, 114, 101, 101])]), (.prim (.cmp .eq) [(.prim .len [(.var 0)]), (.int 3)]), (.call "is_name" [(.prim .sub [(.var 0), (.int 1)])]), (.call "is_sort" [(.prim .sub [(.var 0), (.int 2)])])])
     [.ret (.prim .sub [(.var 0), (.int 2)])]
     [],
   .ifs (.and_ [(.prim (.cmp .eq) [(.prim .sub [(.var 0), (.int 0)]), (.str [98, 111, 117, 110, 100])]), (.prim (.cmp .eq) [(.prim .len [(.var 0)]), (.int 2)]), (.call "is_whole" [(.prim .sub [(.var 0), (.int 1)])]), (.cmp2 .le .lt (.int 0) (.prim .sub [(.var 0), (.int 1)]) (.prim .len [(.var 1)]))])
     [.ret (.prim .sub [(.var 1), (.prim (.bin .sub) [(.prim (.bin .sub) [(.prim .len [(.var 1)]), (.int 1)]), (.prim .sub [(.var 0), (.int 1)])])])]
     [],
   .ifs (.and_ [(.prim (.cmp .eq) [(.prim .sub [(.var 0), (.int 0)]), (.str [115, 97, 109, 101])]), (.prim (.cmp .eq) [(.prim .len [(.var 0)]), (.int 2)]), (.call "is_sort" [(.prim .sub [(.var 0), (.int 1)])])])
     [.ret (.call "good_sort" [(.prim .tup [(.prim .sub [(.var 0), (.int 1)]), (.prim .tup [(.prim .sub [(.var 0), (.int 1)]), (.str [116])])])])]
     [],
   .ret .non]⟩
def d_sort_in : Def := ⟨["thing", "around", "inner", "first", "second"], 2,
  [.ifs (.or_ [(.not_ (.prim (.isi .tuple) [(.var 0)])), (.prim (.cmp .nin) [(.prim .len [(.var 0)]), (.prim .tup [(.int 2), (.int 3)])]), (.not_ (.prim (.isi .str) [(.prim .sub [(.var 0), (.int 0)])]))])
     [.ret .non]
     [],
   .ifs (.and_ [(.prim (.cmp .eq) [(.prim .sub [(.var 0), (.int 0)]), (.str [102, 111, 114])]), (.prim (.cmp .eq) [(.prim .len [(.var 0)]), (.int 3)])])
     [.ifs (.not_ (.call "is_sort" [(.prim .sub [(.var 0), (.int 1)])]))
        [.ret .non]
        [],
      .asg 2 (.call "sort_in" [(.prim .sub [(.var 0), (.int 2)]), (.prim (.bin .add) [(.var 1), (.prim .lst [(.prim .sub [(.var 0), (.int 1)])])])]),
      .ifs (.prim (.cmp .isn) [(.var 2), .non])
        [.ret .non]
        [],
      .ret (.call "good_sort" [(.prim .tup [(.prim .sub [(.var 0), (.int 1)]), (.var 2)])])]
     [],
   .ifs (.and_ [(.prim (.cmp .eq) [(.prim .sub [(.var 0), (.int 0)]), (.str [111, 102])]), (.prim (.cmp .eq) [(.prim .len [(.var 0)]), (.int 3)])])
     [.asg 3 (.call "sort_in" [(.prim .sub [(.var 0), (.int 1)]), (.var 1)]),
      .asg 4 (.call "sort_in" [(.prim .sub [(.var 0), (.int 2)]), (.var 1)]),
      .ifs (.or_ [(.not_ (.prim (.isi .tuple) [(.var 3)])), (.prim (.cmp .isn) [(.var 4), .non]), (.prim (.cmp .ne) [(.prim .sub [(.var 3), (.int 0)]), (.var 4)])])
        [.ret .non]
        [],
      .ret (.prim .sub [(.var 3), (.int 1)])]
     [],
   .ret (.call "leaf_sort" [(.var 0), (.var 1)])]⟩
def d_size_of : Def := ⟨["term"], 1,
  [.ifs (.prim (.cmp .eq) [(.prim .sub [(.var 0), (.int 0)]), (.str [111, 102])])
     [.ret (.prim (.bin .add) [(.prim (.bin .add) [(.int 1), (.call "size_of" [(.prim .sub [(.var 0), (.int 1)])])]), (.call "size_of" [(.prim .sub [(.var 0), (.int 2)])])])]
     [],
   .ifs (.prim (.cmp .eq) [(.prim .sub [(.var 0), (.int 0)]), (.str [102, 111, 114])])
     [.ret (.prim (.bin .add) [(.int 1), (.call "size_of" [(.prim .sub [(.var 0), (.int 2)])])])]
     [],
   .ret (.int 1)]⟩
def d_depth_of : Def := ⟨["term"], 1,
  [.ifs (.prim (.cmp .eq) [(.prim .sub [(.var 0), (.int 0)]), (.str [111, 102])])
     [.ret (.prim (.bin .add) [(.int 1), (.prim .max2 [(.call "depth_of" [(.prim .sub [(.var 0), (.int 1)])]), (.call "depth_of" [(.prim .sub [(.var 0), (.int 2)])])])])]
     [],
   .ifs (.prim (.cmp .eq) [(.prim .sub [(.var 0), (.int 0)]), (.str [102, 111, 114])])
     [.ret (.prim (.bin .add) [(.int 1), (.call "depth_of" [(.prim .sub [(.var 0), (.int 2)])])])]
     [],
   .ret (.int 0)]⟩
def d_is_small : Def := ⟨["term"], 1,
  [.ret (.and_ [(.prim (.cmp .le) [(.call "depth_of" [(.var 0)]), (.gl "MOST_DEPTH")]), (.prim (.cmp .le) [(.call "size_of" [(.var 0)]), (.gl "MOST_SIZE")])])]⟩
def d_is_term : Def := ⟨["thing"], 1,
  [.ret (.and_ [(.prim (.cmp .ntn) [(.call "sort_in" [(.var 0), (.prim .lst [])]), .non]), (.call "is_small" [(.var 0)])])]⟩
def d__law_whole : Def := ⟨["thing"], 1,
  [.ret (.and_ [(.prim (.isi .int) [(.var 0)]), (.not_ (.prim (.isi .bool) [(.var 0)]))])]⟩
def d__law_some_sort : Def := ⟨["more"], 1,
  [.ret (.prim .sub [(.prim .lst [(.str [116]), (.str [105]), (.str [116]), (.prim .tup [(.str [105]), (.str [116])]), (.prim .tup [(.str [116]), (.str [116])]), (.prim .tup [(.str [105]), (.str [105])])]), (.prim (.bin .mod) [(.var 0), (.int 6)])])]⟩
def d__law_leaf : Def := ⟨["sort", "more"], 2,
  [.ret (.prim .tup [(.str [102, 114, 101, 101]), (.prim .sub [(.prim .lst [(.str [120]), (.str [121]), (.str [112]), (.str [113, 55]), (.str [102]), (.str [97, 98, 99, 100, 101, 102, 103, 104])]), (.prim (.bin .mod) [(.var 1), (.prim .sub [(.prim .lst [(.int 3), (.int 6)]), (.prim (.bin .mod) [(.prim (.bin .fdiv) [(.var 1), (.int 6)]), (.int 2)])])])]), (.var 0)])]⟩
def d__law_part : Def := ⟨["script", "k", "sort", "around", "deep", "more", "places", "some", "j"], 5,
  [.asg 5 (.call "_law_drawn" [(.call "_law_cell" [(.var 0), (.var 1)]), (.var 1)]),
   .asg 6 (.lc 8 (.range [(.prim .len [(.var 3)])]) (.var 8) [(.prim (.cmp .eq) [(.prim .sub [(.var 3), (.prim (.bin .sub) [(.prim (.bin .sub) [(.prim .len [(.var 3)]), (.int 1)]), (.var 8)])]), (.var 2)])]),
   .ifs (.and_ [(.prim (.cmp .ne) [(.var 6), (.prim .lst [])]), (.prim (.cmp .lt) [(.prim (.bin .mod) [(.var 5), (.int 3)]), (.int 2)])])
     [.ret (.prim .tup [(.str [98, 111, 117, 110, 100]), (.prim .sub [(.var 6), (.prim (.bin .mod) [(.prim (.bin .fdiv) [(.var 5), (.int 3)]), (.prim .len [(.var 6)])])])])]
     [],
   .asg 5 (.prim (.bin .fdiv) [(.var 5), (.int 16)]),
   .ifs (.or_ [(.prim (.cmp .eq) [(.var 4), (.int 0)]), (.prim (.cmp .eq) [(.prim (.bin .mod) [(.var 5), (.int 7)]), (.int 0)]), (.prim (.cmp .gt) [(.call "_law_sort_depth" [(.var 2)]), (.int 2)])])
     [.ifs (.and_ [(.prim (.isi .tuple) [(.var 2)]), (.prim (.cmp .eq) [(.prim (.bin .mod) [(.prim (.bin .fdiv) [(.var 5), (.int 7)]), (.int 3)]), (.int 0)]), (.prim (.cmp .eq) [(.var 2), (.prim .tup [(.prim .sub [(.var 2), (.int 0)]), (.prim .tup [(.prim .sub [(.var 2), (.int 0)]), (.str [116])])])])])
        [.ret (.prim .tup [(.str [115, 97, 109, 101]), (.prim .sub [(.var 2), (.int 0)])])]
        [],
      .ret (.call "_law_leaf" [(.var 2), (.prim (.bin .fdiv) [(.var 5), (.int 7)])])]
     [],
   .ifs (.and_ [(.prim (.isi .tuple) [(.var 2)]), (.prim (.cmp .lt) [(.prim (.bin .mod) [(.var 5), (.int 7)]), (.int 5)])])
     [.ret (.prim .tup [(.str [102, 111, 114]), (.prim .sub [(.var 2), (.int 0)]), (.call "_law_part" [(.var 0), (.prim (.bin .add) [(.prim (.bin .mul) [(.int 3), (.var 1)]), (.int 1)]), (.prim .sub [(.var 2), (.int 1)]), (.prim (.bin .add) [(.var 3), (.prim .lst [(.prim .sub [(.var 2), (.int 0)])])]), (.prim (.bin .sub) [(.var 4), (.int 1)])])])]
     [],
   .asg 7 (.call "_law_some_sort" [(.prim (.bin .fdiv) [(.var 5), (.int 7)])]),
   .ifs (.and_ [(.prim (.cmp .eq) [(.var 2), (.str [116])]), (.prim (.cmp .eq) [(.prim (.bin .mod) [(.prim (.bin .fdiv) [(.var 5), (.int 49)]), (.int 2)]), (.int 0)])])
     [.ret (.prim .tup [(.str [111, 102]), (.prim .tup [(.str [111, 102]), (.prim .tup [(.str [115, 97, 109, 101]), (.var 7)]), (.call "_law_part" [(.var 0), (.prim (.bin .add) [(.prim (.bin .mul) [(.int 3), (.var 1)]), (.int 1)]), (.var 7), (.var 3), (.prim (.bin .sub) [(.var 4), (.int 1)])])]), (.call "_law_part" [(.var 0), (.prim (.bin .add) [(.prim (.bin .mul) [(.int 3), (.var 1)]), (.int 2)]), (.var 7), (.var 3), (.prim (.bin .sub) [(.var 4), (.int 1)])])])]
     [],
   .ret (.prim .tup [(.str [111, 102]), (.call "_law_part" [(.var 0), (.prim (.bin .add) [(.prim (.bin .mul) [(.int 3), (.var 1)]), (.int 1)]), (.prim .tup [(.var 7), (.var 2)]), (.var 3), (.prim (.bin .sub) [(.var 4), (.int 1)])]), (.call "_law_part" [(.var 0), (.prim (.bin .add) [(.prim (.bin .mul) [(.int 3), (.var 1)]), (.int 2)]), (.var 7), (.var 3), (.prim (.bin .sub) [(.var 4), (.int 1)])])])]⟩
def d__law_name_good : Def := ⟨["thing", "sign"], 1,
  [.ifs (.or_ [(.not_ (.prim (.isi .str) [(.var 0)])), (.prim (.cmp .lt) [(.prim .len [(.var 0)]), (.int 1)]), (.prim (.cmp .gt) [(.prim .len [(.var 0)]), (.int 8)]), (.prim (.cmp .nin) [(.prim .sub [(.var 0), (.int 0)]), (.str [97, 98, 99, 100, 101, 102, 103, 104, 105, 106, 107, 108, 109, 110, 111, 112, 113, 114, 115, 116, 117, 118, 119, 120, 121, 122])])])
     [.ret (.bl false)]
     [],
   .ret (.prim .all [(.lc 1 (.seq (.var 0)) (.prim (.cmp .in_) [(.var 1), (.str [97, 98, 99, 100, 101, 102, 103, 104, 105, 106, 107, 108, 109, 110, 111, 112, 113, 114, 115, 116, 117, 118, 119, 120, 121, 122, 48, 49, 50, 51, 52, 53, 54, 55, 56, 57])]) [])])]⟩
def d__law_leaf_sort : Def := ⟨["thing", "around"], 2,
  [.ifs (.and_ [(.prim (.cmp .eq) [(.prim .sub [(.var 0), (.int 0)]), (.str [102, 114, 101, 101])]), (.prim (.cmp .eq) [(.prim .len [(.var 0)]), (.int 3)]), (.call "_law_name_good" [(.prim .sub [(.var 0), (.int 1)])]), (.call "_law_is_sort" [(.prim .sub [(.var 0), (.int 2)]), (.int 5)])])
     [.ret (.prim .sub [(.var 0), (.int 2)])]
     [],
   .ifs (.and_ [(.prim (.cmp .eq) [(.prim .sub [(.var 0), (.int 0)]), (.str [98, 111, 117, 110, 100])]), (.prim (.cmp .eq) [(.prim .len [(.var 0)]), (.int 2)]), (.call "_law_whole" [(.prim .sub [(.var 0), (.int 1)])]), (.cmp2 .le .lt (.int 0) (.prim .sub [(.var 0), (.int 1)]) (.prim .len [(.var 1)]))])
     [.ret (.prim .sub [(.var 1), (.prim (.bin .sub) [(.prim (.bin .sub) [(.prim .len [(.var 1)]), (.int 1)]), (.prim .sub [(.var 0), (.int 1)])])])]
     [],
   .ifs (.and_ [(.prim (.cmp .eq) [(.prim .sub [(.var 0), (.int 0)]), (.str [115, 97, 109, 101])]), (.prim (.cmp .eq) [(.prim .len [(.var 0)]), (.int 2)]), (.call "_law_is_sort" [(.prim .sub [(.var 0), (.int 1)]), (.int 5)])])
     [.ret (.prim .tup [(.prim .sub [(.var 0), (.int 1)]), (.prim .tup [(.prim .sub [(.var 0), (.int 1)]), (.str [116])])])]
     [],
   .ret .non]⟩
def d__law_edge : Def := ⟨["more", "variable", "two", "made", "extra", "k", "rest"], 1,
  [.asg 1 (.prim .tup [(.str [102, 114, 101, 101]), (.str [120]), (.str [116])]),
   .ifs (.prim (.cmp .eq) [(.prim (.bin .mod) [(.var 0), (.int 3)]), (.int 0)])
     [.asg 3 (.var 1),
      .for_ 5 (.range [(.prim .sub [(.prim .lst [(.int 39), (.int 40), (.int 41)]), (.prim (.bin .mod) [(.prim (.bin .fdiv) [(.var 0), (.int 3)]), (.int 3)])])])
        [.asg 3 (.prim .tup [(.str [111, 102]), (.prim .tup [(.str [102, 114, 101, 101]), (.str [102]), (.prim .tup [(.str [116]), (.str [116])])]), (.var 3)])],
      .ret (.var 3)]
     [],
   .ifs (.prim (.cmp .eq) [(.prim (.bin .mod) [(.var 0), (.int 3)]), (.int 1)])
     [.asg 3 (.var 1),
      .for_ 5 (.range [(.prim (.bin .add) [(.int 5), (.prim (.bin .mod) [(.prim (.bin .fdiv) [(.var 0), (.int 3)]), (.int 2)])])])
        [.asg 3 (.prim .tup [(.str [102, 111, 114]), (.str [116]), (.var 3)])],
      .ret (.var 3)]
     [],
   .asg 2 (.prim .tup [(.str [102, 114, 101, 101]), (.str [103]), (.prim .tup [(.str [116]), (.prim .tup [(.str [116]), (.str [116])])])]),
   .asg 3 (.lrep [(.prim .tup [(.str [111, 102]), (.prim .tup [(.str [111, 102]), (.var 2), (.var 1)]), (.var 1)])] 74),
   .asg 3 (.prim (.bin .add) [(.var 3), (.prim .lst [(.prim .sub [(.prim .lst [(.var 1), (.prim .tup [(.str [111, 102]), (.prim .tup [(.str [102, 114, 101, 101]), (.str [102]), (.prim .tup [(.str [116]), (.str [116])])]), (.var 1)])]), (.prim (.bin .mod) [(.prim (.bin .fdiv) [(.var 0), (.int 3)]), (.int 2)])])])]),
   .asg 4 (.prim (.bin .mod) [(.prim (.bin .fdiv) [(.var 0), (.int 6)]), (.int 4)]),
   .whl (.prim (.cmp .gt) [(.prim .len [(.var 3)]), (.int 1)])
     [.new 6 (.lc 5 (.range [(.int 0), (.prim (.bin .sub) [(.prim .len [(.var 3)]), (.int 1)]), (.int 2)]) (.prim .tup [(.str [111, 102]), (.prim .tup [(.str [111, 102]), (.var 2), (.prim .sub [(.var 3), (.var 5)])]), (.prim .sub [(.var 3), (.prim (.bin .add) [(.var 5), (.int 1)])])]) []),
      .ifs (.prim (.cmp .eq) [(.prim (.bin .mod) [(.prim .len [(.var 3)]), (.int 2)]), (.int 1)])
        [.app 6 (.prim .sub [(.var 3), (.prim .neg [(.int 1)])])]
        [],
      .asg 3 (.mv 6)],
   .for_ 5 (.range [(.var 4)])
     [.asg 3 (.prim .lst [(.prim .tup [(.str [111, 102]), (.prim .tup [(.str [102, 114, 101, 101]), (.str [102]), (.prim .tup [(.str [116]), (.str [116])])]), (.prim .sub [(.var 3), (.int 0)])])])],
   .ifs (.prim (.cmp .eq) [(.prim (.bin .mod) [(.prim (.bin .fdiv) [(.var 0), (.int 24)]), (.int 2)]), (.int 1)])
     [.ret (.prim .tup [(.str [102, 111, 114]), (.str [105]), (.prim .sub [(.var 3), (.int 0)])])]
     [],
   .ret (.prim .sub [(.var 3), (.int 0)])]⟩
def d_sort_of : Def := ⟨["term"], 1,
  [.ret (.call "sort_in" [(.var 0), (.prim .lst [])])]⟩
def d_bounded : Def := ⟨["term"], 1,
  [.ifs (.not_ (.call "is_term" [(.var 0)]))
     [.raise "TooGreat" [98, 101, 121, 111, 110, 100, 32, 116, 104, 101, 32, 98, 111, 117, 110, 100, 115, 32, 111, 102, 32, 116, 101, 114, 109, 115]]
     [],
   .ret (.var 0)]⟩
def d_frees : Def := ⟨["term", "found", "one"], 1,
  [.ifs (.prim (.cmp .eq) [(.prim .sub [(.var 0), (.int 0)]), (.str [102, 114, 101, 101])])
     [.ret (.prim .lst [(.var 0)])]
     [],
   .ifs (.prim (.cmp .eq) [(.prim .sub [(.var 0), (.int 0)]), (.str [102, 111, 114])])
     [.ret (.call "frees" [(.prim .sub [(.var 0), (.int 2)])])]
     [],
   .ifs (.prim (.cmp .ne) [(.prim .sub [(.var 0), (.int 0)]), (.str [111, 102])])
     [.ret (.prim .lst [])]
     [],
   .asg 1 (.call "frees" [(.prim .sub [(.var 0), (.int 1)])]),
   .ret (.prim (.bin .add) [(.var 1), (.lc 2 (.seq (.call "frees" [(.prim .sub [(.var 0), (.int 2)])])) (.var 2) [(.prim (.cmp .nin) [(.var 2), (.var 1)])])])]⟩
def d_equality : Def := ⟨["one", "other"], 2,
  [.ret (.call "bounded" [(.prim .tup [(.str [111, 102]), (.prim .tup [(.str [111, 102]), (.prim .tup [(.str [115, 97, 109, 101]), (.call "sort_of" [(.var 0)])]), (.var 0)]), (.var 1)])])]⟩
def d_sides : Def := ⟨["term"], 1,
  [.ifs (.or_ [(.prim (.cmp .ne) [(.prim .sub [(.var 0), (.int 0)]), (.str [111, 102])]), (.prim (.cmp .ne) [(.prim .sub [(.prim .sub [(.var 0), (.int 1)]), (.int 0)]), (.str [111, 102])]), (.prim (.cmp .ne) [(.prim .sub [(.prim .sub [(.prim .sub [(.var 0), (.int 1)]), (.int 1)]), (.int 0)]), (.str [115, 97, 109, 101])])])
     [.raise "NoRule" [110, 111, 32, 101, 113, 117, 97, 108, 105, 116, 121]]
     [],
   .ret (.prim .tup [(.prim .sub [(.prim .sub [(.var 0), (.int 1)]), (.int 2)]), (.prim .sub [(.var 0), (.int 2)])])]⟩
def d__law_sort : Def := ⟨["part", "around"], 2,
  [.ifs (.prim (.cmp .eq) [(.prim .sub [(.var 0), (.int 0)]), (.str [102, 114, 101, 101])])
     [.ret (.prim .sub [(.var 0), (.int 2)])]
     [],
   .ifs (.prim (.cmp .eq) [(.prim .sub [(.var 0), (.int 0)]), (.str [98, 111, 117, 110, 100])])
     [.ret (.prim .sub [(.var 1), (.prim (.bin .sub) [(.prim (.bin .sub) [(.prim .len [(.var 1)]), (.int 1)]), (.prim .sub [(.var 0), (.int 1)])])])]
     [],
   .ifs (.prim (.cmp .eq) [(.prim .sub [(.var 0), (.int 0)]), (.str [115, 97, 109, 101])])
     [.ret (.prim .tup [(.prim .sub [(.var 0), (.int 1)]), (.prim .tup [(.prim .sub [(.var 0), (.int 1)]), (.str [116])])])]
     [],
   .ifs (.prim (.cmp .eq) [(.prim .sub [(.var 0), (.int 0)]), (.str [102, 111, 114])])
     [.ret (.prim .tup [(.prim .sub [(.var 0), (.int 1)]), (.call "_law_sort" [(.prim .sub [(.var 0), (.int 2)]), (.prim (.bin .add) [(.var 1), (.prim .lst [(.prim .sub [(.var 0), (.int 1)])])])])])]
     [],
   .ret (.prim .sub [(.call "_law_sort" [(.prim .sub [(.var 0), (.int 1)]), (.var 1)]), (.int 1)])]⟩
def d__law_size : Def := ⟨["part"], 1,
  [.ifs (.prim (.cmp .eq) [(.prim .sub [(.var 0), (.int 0)]), (.str [111, 102])])
     [.ret (.prim (.bin .add) [(.prim (.bin .add) [(.int 1), (.call "_law_size" [(.prim .sub [(.var 0), (.int 1)])])]), (.call "_law_size" [(.prim .sub [(.var 0), (.int 2)])])])]
     [],
   .ifs (.prim (.cmp .eq) [(.prim .sub [(.var 0), (.int 0)]), (.str [102, 111, 114])])
     [.ret (.prim (.bin .add) [(.int 1), (.call "_law_size" [(.prim .sub [(.var 0), (.int 2)])])])]
     [],
   .ret (.int 1)]⟩
def d__law_depth : Def := ⟨["part"], 1,
  [.ifs (.prim (.cmp .eq) [(.prim .sub [(.var 0), (.int 0)]), (.str [111, 102])])
     [.ret (.prim (.bin .add) [(.int 1), (.prim .max2 [(.call "_law_depth" [(.prim .sub [(.var 0), (.int 1)])]), (.call "_law_depth" [(.prim .sub [(.var 0), (.int 2)])])])])]
     [],
   .ifs (.prim (.cmp .eq) [(.prim .sub [(.var 0), (.int 0)]), (.str [102, 111, 114])])
     [.ret (.prim (.bin .add) [(.int 1), (.call "_law_depth" [(.prim .sub [(.var 0), (.int 2)])])])]
     [],
   .ret (.int 0)]⟩
def d__law_frees : Def := ⟨["part", "made", "one"], 1,
  [.ifs (.prim (.cmp .eq) [(.prim .sub [(.var 0), (.int 0)]), (.str [102, 114, 101, 101])])
     [.ret (.prim .lst [(.var 0)])]
     [],
   .ifs (.prim (.cmp .eq) [(.prim .sub [(.var 0), (.int 0)]), (.str [102, 111, 114])])
     [.ret (.call "_law_frees" [(.prim .sub [(.var 0), (.int 2)])])]
     [],
   .ifs (.prim (.cmp .ne) [(.prim .sub [(.var 0), (.int 0)]), (.str [111, 102])])
     [.ret (.prim .lst [])]
     [],
   .asg 1 (.call "_law_frees" [(.prim .sub [(.var 0), (.int 1)])]),
   .ret (.prim (.bin .add) [(.var 1), (.lc 2 (.seq (.call "_law_frees" [(.prim .sub [(.var 0), (.int 2)])])) (.var 2) [(.prim (.cmp .nin) [(.var 2), (.var 1)])])])]⟩
def d__law_equal : Def := ⟨["one", "other"], 2,
  [.ret (.prim .tup [(.str [111, 102]), (.prim .tup [(.str [111, 102]), (.prim .tup [(.str [115, 97, 109, 101]), (.call "_law_sort" [(.var 0), (.prim .lst [])])]), (.var 0)]), (.var 1)])]⟩
def d__law_good : Def := ⟨["part", "around"], 2,
  [.ifs (.prim (.cmp .gt) [(.call "_law_sort_depth" [(.call "_law_sort" [(.var 0), (.var 1)])]), (.int 5)])
     [.ret (.bl false)]
     [],
   .ifs (.prim (.cmp .eq) [(.prim .sub [(.var 0), (.int 0)]), (.str [111, 102])])
     [.ret (.and_ [(.call "_law_good" [(.prim .sub [(.var 0), (.int 1)]), (.var 1)]), (.call "_law_good" [(.prim .sub [(.var 0), (.int 2)]), (.var 1)])])]
     [],
   .ifs (.prim (.cmp .eq) [(.prim .sub [(.var 0), (.int 0)]), (.str [102, 111, 114])])
     [.ret (.call "_law_good" [(.prim .sub [(.var 0), (.int 2)]), (.prim (.bin .add) [(.var 1), (.prim .lst [(.prim .sub [(.var 0), (.int 1)])])])])]
     [],
   .ret (.bl true)]⟩
def d__law_is_term : Def := ⟨["part"], 1,
  [.ret (.and_ [(.call "_law_good" [(.var 0), (.prim .lst [])]), (.prim (.cmp .le) [(.call "_law_size" [(.var 0)]), (.int 600)]), (.prim (.cmp .le) [(.call "_law_depth" [(.var 0)]), (.int 40)])])]⟩
def d__law_sides : Def := ⟨["term", "e"], 1,
  [.try_
     [.ret (.call "sides" [(.var 0)])]
     "NoRule" (some 1)
     [.ret (.prim .sub [(.prim .lst [(.str [110, 111, 110, 101]), (.str [111, 116, 104, 101, 114])]), (.prim .int [(.not_ (.hot "_law_alone" 1))])])]]⟩
def d__law_equality : Def := ⟨["one", "other", "e"], 2,
  [.try_
     [.ret (.call "equality" [(.var 0), (.var 1)])]
     "TooGreat" (some 2)
     [.ret (.prim .sub [(.prim .lst [(.str [103, 114, 101, 97, 116]), (.str [111, 116, 104, 101, 114])]), (.prim .int [(.not_ (.hot "_law_alone" 2))])])]]⟩
def d_written : Def := ⟨["term"], 1,
  [.ifs (.prim (.cmp .eq) [(.prim .sub [(.var 0), (.int 0)]), (.str [102, 114, 101, 101])])
     [.ret (.prim (.bin .add) [(.prim (.bin .add) [(.prim .sub [(.var 0), (.int 1)]), (.str [58])]), (.call "sort_text" [(.prim .sub [(.var 0), (.int 2)])])])]
     [],
   .ifs (.prim (.cmp .eq) [(.prim .sub [(.var 0), (.int 0)]), (.str [98, 111, 117, 110, 100])])
     [.ret (.prim (.bin .add) [(.str [35]), (.prim .str [(.prim .sub [(.var 0), (.int 1)])])])]
     [],
   .ifs (.prim (.cmp .eq) [(.prim .sub [(.var 0), (.int 0)]), (.str [115, 97, 109, 101])])
     [.ret (.prim (.bin .add) [(.str [61]), (.call "sort_text" [(.prim .sub [(.var 0), (.int 1)])])])]
     [],
   .ifs (.prim (.cmp .eq) [(.prim .sub [(.var 0), (.int 0)]), (.str [102, 111, 114])])
     [.ret (.prim (.bin .add) [(.prim (.bin .add) [(.prim (.bin .add) [(.prim (.bin .add) [(.str [91]), (.call "sort_text" [(.prim .sub [(.var 0), (.int 1)])])]), (.str [32])]), (.call "written" [(.prim .sub [(.var 0), (.int 2)])])]), (.str [93])])]
     [],
   .ret (.prim (.bin .add) [(.prim (.bin .add) [(.prim (.bin .add) [(.prim (.bin .add) [(.str [40]), (.call "written" [(.prim .sub [(.var 0), (.int 1)])])]), (.str [32])]), (.call "written" [(.prim .sub [(.var 0), (.int 2)])])]), (.str [41])])]⟩
def d_need_sign : Def := ⟨["text", "at", "sign"], 3,
  [.ifs (.prim (.cmp .ne) [(.sl11 (.var 0) (.var 1) (.prim (.bin .add) [(.var 1), (.int 1)])), (.var 2)])
     [.raise "BadText" [110, 111, 32, 116, 101, 114, 109]]
     [],
   .ret (.prim (.bin .add) [(.var 1), (.int 1)])]⟩
def d_run_end : Def := ⟨["text", "at", "signs"], 3,
  [.whl (.and_ [(.prim (.cmp .lt) [(.var 1), (.prim .len [(.var 0)])]), (.prim (.cmp .in_) [(.prim .sub [(.var 0), (.var 1)]), (.var 2)])])
     [.asg 1 (.prim (.bin .add) [(.var 1), (.int 1)])],
   .ret (.var 1)]⟩
def d_part_from : Def := ⟨["text", "at", "left", "sign", "first", "second", "sort", "inner"], 3,
  [.asg 3 (.sl11 (.var 0) (.var 1) (.prim (.bin .add) [(.var 1), (.int 1)])),
   .ifs (.prim (.cmp .eq) [(.var 3), (.str [35])])
     [.ret (.call "bound_from" [(.var 0), (.prim (.bin .add) [(.var 1), (.int 1)])])]
     [],
   .ifs (.prim (.cmp .eq) [(.var 3), (.str [61])])
     [.asgT [6, 1] (.call "sort_from" [(.var 0), (.prim (.bin .add) [(.var 1), (.int 1)]), (.gl "MOST_SORT")]),
      .ret (.prim .tup [(.prim .tup [(.str [115, 97, 109, 101]), (.var 6)]), (.var 1)])]
     [],
   .ifs (.and_ [(.prim (.cmp .ne) [(.var 3), (.str [91])]), (.prim (.cmp .ne) [(.var 3), (.str [40])])])
     [.ret (.call "free_from" [(.var 0), (.var 1)])]
     [],
   .ifs (.prim (.cmp .eq) [(.var 2), (.int 0)])
     [.raise "BadText" [110, 111, 32, 116, 101, 114, 109]]
     [],
   .ifs (.prim (.cmp .eq) [(.var 3), (.str [91])])
     [.asgT [6, 1] (.call "sort_from" [(.var 0), (.prim (.bin .add) [(.var 1), (.int 1)]), (.gl "MOST_SORT")]),
      .asgT [7, 1] (.call "part_from" [(.var 0), (.call "need_sign" [(.var 0), (.var 1), (.str [32])]), (.prim (.bin .sub) [(.var 2), (.int 1)])]),
      .ret (.prim .tup [(.prim .tup [(.str [102, 111, 114]), (.var 6), (.var 7)]), (.call "need_sign" [(.var 0), (.var 1), (.str [93])])])]
     [],
   .asgT [4, 1] (.call "part_from" [(.var 0), (.prim (.bin .add) [(.var 1), (.int 1)]), (.prim (.bin .sub) [(.var 2), (.int 1)])]),
   .asgT [5, 1] (.call "part_from" [(.var 0), (.call "need_sign" [(.var 0), (.var 1), (.str [32])]), (.prim (.bin .sub) [(.var 2), (.int 1)])]),
   .ret (.prim .tup [(.prim .tup [(.str [111, 102]), (.var 4), (.var 5)]), (.call "need_sign" [(.var 0), (.var 1), (.str [41])])])]⟩
def d_read_term : Def := ⟨["text", "term", "at"], 1,
  [.asgT [1, 2] (.call "part_from" [(.var 0), (.int 0), (.gl "MOST_DEPTH")]),
   .ifs (.or_ [(.prim (.cmp .lt) [(.var 2), (.prim .len [(.var 0)])]), (.not_ (.call "is_term" [(.var 1)]))])
     [.raise "BadText" [110, 111, 32, 116, 101, 114, 109]]
     [],
   .ret (.var 1)]⟩
def d__law_written : Def := ⟨["part"], 1,
  [.ifs (.prim (.cmp .eq) [(.prim .sub [(.var 0), (.int 0)]), (.str [102, 114, 101, 101])])
     [.ret (.prim (.bin .add) [(.prim (.bin .add) [(.prim .sub [(.var 0), (.int 1)]), (.str [58])]), (.call "_law_sort_text" [(.prim .sub [(.var 0), (.int 2)])])])]
     [],
   .ifs (.prim (.cmp .eq) [(.prim .sub [(.var 0), (.int 0)]), (.str [98, 111, 117, 110, 100])])
     [.ret (.prim (.bin .add) [(.str [35]), (.prim .str [(.prim .sub [(.var 0), (.int 1)])])])]
     [],
   .ifs (.prim (.cmp .eq) [(.prim .sub [(.var 0), (.int 0)]), (.str [115, 97, 109, 101])])
     [.ret (.prim (.bin .add) [(.str [61]), (.call "_law_sort_text" [(.prim .sub [(.var 0), (.int 1)])])])]
     [],
   .ifs (.prim (.cmp .eq) [(.prim .sub [(.var 0), (.int 0)]), (.str [102, 111, 114])])
     [.ret (.prim (.bin .add) [(.prim (.bin .add) [(.prim (.bin .add) [(.prim (.bin .add) [(.str [91]), (.call "_law_sort_text" [(.prim .sub [(.var 0), (.int 1)])])]), (.str [32])]), (.call "_law_written" [(.prim .sub [(.var 0), (.int 2)])])]), (.str [93])])]
     [],
   .ret (.prim (.bin .add) [(.prim (.bin .add) [(.prim (.bin .add) [(.prim (.bin .add) [(.str [40]), (.call "_law_written" [(.prim .sub [(.var 0), (.int 1)])])]), (.str [32])]), (.call "_law_written" [(.prim .sub [(.var 0), (.int 2)])])]), (.str [41])])]⟩
def d__law_read_sort : Def := ⟨["text", "at", "left", "sign", "first", "second"], 3,
  [.asg 3 (.sl11 (.var 0) (.var 1) (.prim (.bin .add) [(.var 1), (.int 1)])),
   .ifs (.prim (.cmp .in_) [(.var 3), (.prim .lst [(.str [116]), (.str [105])])])
     [.ret (.prim .tup [(.var 3), (.prim (.bin .add) [(.var 1), (.int 1)])])]
     [],
   .ifs (.or_ [(.prim (.cmp .ne) [(.var 3), (.str [40])]), (.prim (.cmp .eq) [(.var 2), (.int 0)])])
     [.ret (.prim .tup [.non, (.var 1)])]
     [],
   .asgT [4, 1] (.call "_law_read_sort" [(.var 0), (.prim (.bin .add) [(.var 1), (.int 1)]), (.prim (.bin .sub) [(.var 2), (.int 1)])]),
   .ifs (.or_ [(.prim (.cmp .isn) [(.var 4), .non]), (.prim (.cmp .ne) [(.sl11 (.var 0) (.var 1) (.prim (.bin .add) [(.var 1), (.int 1)])), (.str [62])])])
     [.ret (.prim .tup [.non, (.var 1)])]
     [],
   .asgT [5, 1] (.call "_law_read_sort" [(.var 0), (.prim (.bin .add) [(.var 1), (.int 1)]), (.prim (.bin .sub) [(.var 2), (.int 1)])]),
   .ifs (.or_ [(.prim (.cmp .isn) [(.var 5), .non]), (.prim (.cmp .ne) [(.sl11 (.var 0) (.var 1) (.prim (.bin .add) [(.var 1), (.int 1)])), (.str [41])])])
     [.ret (.prim .tup [.non, (.var 1)])]
     [],
   .ret (.prim .tup [(.prim .tup [(.var 4), (.var 5)]), (.prim (.bin .add) [(.var 1), (.int 1)])])]⟩
def d__law_run : Def := ⟨["text", "at", "signs"], 3,
  [.whl (.and_ [(.prim (.cmp .lt) [(.var 1), (.prim .len [(.var 0)])]), (.prim (.cmp .in_) [(.prim .sub [(.var 0), (.var 1)]), (.var 2)])])
     [.asg 1 (.prim (.bin .add) [(.var 1), (.int 1)])],
   .ret (.var 1)]⟩
def d__law_read_leaf : Def := ⟨["text", "at", "end", "name", "figures", "sort"], 2,
  [.ifs (.prim (.cmp .eq) [(.sl11 (.var 0) (.var 1) (.prim (.bin .add) [(.var 1), (.int 1)])), (.str [35])])
     [.asg 2 (.call "_law_run" [(.var 0), (.prim (.bin .add) [(.var 1), (.int 1)]), (.str [48, 49, 50, 51, 52, 53, 54, 55, 56, 57])]),
      .asg 4 (.sl11 (.var 0) (.prim (.bin .add) [(.var 1), (.int 1)]) (.var 2)),
      .ifs (.or_ [(.prim (.cmp .eq) [(.var 4), (.str [])]), (.prim (.cmp .gt) [(.prim .len [(.var 4)]), (.int 3)]), (.and_ [(.prim (.cmp .eq) [(.prim .sub [(.var 4), (.int 0)]), (.str [48])]), (.prim (.cmp .gt) [(.prim .len [(.var 4)]), (.int 1)])])])
        [.ret (.prim .tup [.non, (.var 1)])]
        [],
      .ret (.prim .tup [(.prim .tup [(.str [98, 111, 117, 110, 100]), (.prim .int [(.var 4)])]), (.var 2)])]
     [],
   .ifs (.prim (.cmp .eq) [(.sl11 (.var 0) (.var 1) (.prim (.bin .add) [(.var 1), (.int 1)])), (.str [61])])
     [.asgT [5, 2] (.call "_law_read_sort" [(.var 0), (.prim (.bin .add) [(.var 1), (.int 1)]), (.int 5)]),
      .ifs (.prim (.cmp .isn) [(.var 5), .non])
        [.ret (.prim .tup [.non, (.var 1)])]
        [],
      .ret (.prim .tup [(.prim .tup [(.str [115, 97, 109, 101]), (.var 5)]), (.var 2)])]
     [],
   .asg 2 (.call "_law_run" [(.var 0), (.var 1), (.str [97, 98, 99, 100, 101, 102, 103, 104, 105, 106, 107, 108, 109, 110, 111, 112, 113, 114, 115, 116, 117, 118, 119, 120, 121, 122, 48, 49, 50, 51, 52, 53, 54, 55, 56, 57])]),
   .asg 3 (.sl11 (.var 0) (.var 1) (.var 2)),
   .ifs (.or_ [(.prim (.cmp .eq) [(.var 3), (.str [])]), (.prim (.cmp .gt) [(.prim .len [(.var 3)]), (.int 8)]), (.prim (.cmp .in_) [(.prim .sub [(.var 3), (.int 0)]), (.str [48, 49, 50, 51, 52, 53, 54, 55, 56, 57])]), (.prim (.cmp .ne) [(.sl11 (.var 0) (.var 2) (.prim (.bin .add) [(.var 2), (.int 1)])), (.str [58])])])
     [.ret (.prim .tup [.non, (.var 1)])]
     [],
   .asgT [5, 2] (.call "_law_read_sort" [(.var 0), (.prim (.bin .add) [(.var 2), (.int 1)]), (.int 5)]),
   .ifs (.prim (.cmp .isn) [(.var 5), .non])
     [.ret (.prim .tup [.non, (.var 1)])]
     [],
   .ret (.prim .tup [(.prim .tup [(.str [102, 114, 101, 101]), (.var 3), (.var 5)]), (.var 2)])]⟩
def d_put_raw : Def := ⟨["term", "found"], 2,
  [.ifs (.prim (.cmp .eq) [(.prim .sub [(.var 0), (.int 0)]), (.str [102, 114, 101, 101])])
     [.ret (.meth .get2 (.var 1) [(.var 0), (.var 0)])]
     [],
   .ifs (.prim (.cmp .eq) [(.prim .sub [(.var 0), (.int 0)]), (.str [111, 102])])
     [.ret (.prim .tup [(.str [111, 102]), (.call "put_raw" [(.prim .sub [(.var 0), (.int 1)]), (.var 1)]), (.call "put_raw" [(.prim .sub [(.var 0), (.int 2)]), (.var 1)])])]
     [],
   .ifs (.prim (.cmp .eq) [(.prim .sub [(.var 0), (.int 0)]), (.str [102, 111, 114])])
     [.ret (.prim .tup [(.str [102, 111, 114]), (.prim .sub [(.var 0), (.int 1)]), (.call "put_raw" [(.prim .sub [(.var 0), (.int 2)]), (.var 1)])])]
     [],
   .ret (.var 0)]⟩
def d_put_all : Def := ⟨["term", "found"], 2,
  [.ret (.call "bounded" [(.call "put_raw" [(.var 0), (.var 1)])])]⟩
def d_put : Def := ⟨["term", "variable", "other"], 3,
  [.ret (.call "put_all" [(.var 0), (.dlit (.var 1) (.var 2))])]⟩
def d__law_put : Def := ⟨["part", "pairs"], 2,
  [.ifs (.prim (.cmp .eq) [(.prim .sub [(.var 0), (.int 0)]), (.str [102, 114, 101, 101])])
     [.ret (.meth .get2 (.var 1) [(.var 0), (.var 0)])]
     [],
   .ifs (.prim (.cmp .eq) [(.prim .sub [(.var 0), (.int 0)]), (.str [111, 102])])
     [.ret (.prim .tup [(.str [111, 102]), (.call "_law_put" [(.prim .sub [(.var 0), (.int 1)]), (.var 1)]), (.call "_law_put" [(.prim .sub [(.var 0), (.int 2)]), (.var 1)])])]
     [],
   .ifs (.prim (.cmp .eq) [(.prim .sub [(.var 0), (.int 0)]), (.str [102, 111, 114])])
     [.ret (.prim .tup [(.str [102, 111, 114]), (.prim .sub [(.var 0), (.int 1)]), (.call "_law_put" [(.prim .sub [(.var 0), (.int 2)]), (.var 1)])])]
     [],
   .ret (.var 0)]⟩
def d_bound_raw : Def := ⟨["term", "variable", "level"], 3,
  [.ifs (.prim (.cmp .eq) [(.var 0), (.var 1)])
     [.ret (.prim .tup [(.str [98, 111, 117, 110, 100]), (.var 2)])]
     [],
   .ifs (.prim (.cmp .eq) [(.prim .sub [(.var 0), (.int 0)]), (.str [111, 102])])
     [.ret (.prim .tup [(.str [111, 102]), (.call "bound_raw" [(.prim .sub [(.var 0), (.int 1)]), (.var 1), (.var 2)]), (.call "bound_raw" [(.prim .sub [(.var 0), (.int 2)]), (.var 1), (.var 2)])])]
     [],
   .ifs (.prim (.cmp .eq) [(.prim .sub [(.var 0), (.int 0)]), (.str [102, 111, 114])])
     [.ret (.prim .tup [(.str [102, 111, 114]), (.prim .sub [(.var 0), (.int 1)]), (.call "bound_raw" [(.prim .sub [(.var 0), (.int 2)]), (.var 1), (.prim (.bin .add) [(.var 2), (.int 1)])])])]
     [],
   .ret (.var 0)]⟩
def d_bound_over : Def := ⟨["variable", "term"], 2,
  [.ret (.call "bounded" [(.prim .tup [(.str [102, 111, 114]), (.prim .sub [(.var 0), (.int 2)]), (.call "bound_raw" [(.var 1), (.var 0), (.int 0)])])])]⟩
def d_lifted : Def := ⟨["part", "by", "level"], 3,
  [.ifs (.and_ [(.prim (.cmp .eq) [(.prim .sub [(.var 0), (.int 0)]), (.str [98, 111, 117, 110, 100])]), (.prim (.cmp .ge) [(.prim .sub [(.var 0), (.int 1)]), (.var 2)])])
     [.ret (.prim .tup [(.str [98, 111, 117, 110, 100]), (.prim (.bin .add) [(.prim .sub [(.var 0), (.int 1)]), (.var 1)])])]
     [],
   .ifs (.prim (.cmp .eq) [(.prim .sub [(.var 0), (.int 0)]), (.str [111, 102])])
     [.ret (.prim .tup [(.str [111, 102]), (.call "lifted" [(.prim .sub [(.var 0), (.int 1)]), (.var 1), (.var 2)]), (.call "lifted" [(.prim .sub [(.var 0), (.int 2)]), (.var 1), (.var 2)])])]
     [],
   .ifs (.prim (.cmp .eq) [(.prim .sub [(.var 0), (.int 0)]), (.str [102, 111, 114])])
     [.ret (.prim .tup [(.str [102, 111, 114]), (.prim .sub [(.var 0), (.int 1)]), (.call "lifted" [(.prim .sub [(.var 0), (.int 2)]), (.var 1), (.prim (.bin .add) [(.var 2), (.int 1)])])])]
     [],
   .ret (.var 0)]⟩
def d_opened : Def := ⟨["part", "other", "level"], 3,
  [.ifs (.prim (.cmp .eq) [(.prim .sub [(.var 0), (.int 0)]), (.str [98, 111, 117, 110, 100])])
     [.ifs (.prim (.cmp .eq) [(.prim .sub [(.var 0), (.int 1)]), (.var 2)])
        [.ret (.call "lifted" [(.var 1), (.var 2), (.int 0)])]
        [],
      .ret (.prim .tup [(.str [98, 111, 117, 110, 100]), (.prim (.bin .sub) [(.prim .sub [(.var 0), (.int 1)]), (.prim .int [(.prim (.cmp .gt) [(.prim .sub [(.var 0), (.int 1)]), (.var 2)])])])])]
     [],
   .ifs (.prim (.cmp .eq) [(.prim .sub [(.var 0), (.int 0)]), (.str [111, 102])])
     [.ret (.prim .tup [(.str [111, 102]), (.call "opened" [(.prim .sub [(.var 0), (.int 1)]), (.var 1), (.var 2)]), (.call "opened" [(.prim .sub [(.var 0), (.int 2)]), (.var 1), (.var 2)])])]
     [],
   .ifs (.prim (.cmp .eq) [(.prim .sub [(.var 0), (.int 0)]), (.str [102, 111, 114])])
     [.ret (.prim .tup [(.str [102, 111, 114]), (.prim .sub [(.var 0), (.int 1)]), (.call "opened" [(.prim .sub [(.var 0), (.int 2)]), (.var 1), (.prim (.bin .add) [(.var 2), (.int 1)])])])]
     [],
   .ret (.var 0)]⟩
def d_is_fold : Def := ⟨["part"], 1,
  [.ret (.and_ [(.prim (.cmp .eq) [(.prim .sub [(.var 0), (.int 0)]), (.str [111, 102])]), (.prim (.cmp .eq) [(.prim .sub [(.prim .sub [(.var 0), (.int 1)]), (.int 0)]), (.str [102, 111, 114])])])]⟩
def d_unfolded : Def := ⟨["term"], 1,
  [.ifs (.not_ (.call "is_fold" [(.var 0)]))
     [.raise "NoRule" [110, 111, 116, 104, 105, 110, 103, 32, 116, 111, 32, 117, 110, 102, 111, 108, 100]]
     [],
   .ret (.call "bounded" [(.call "opened" [(.prim .sub [(.prim .sub [(.var 0), (.int 1)]), (.int 2)]), (.prim .sub [(.var 0), (.int 2)]), (.int 0)])])]⟩
def d__law_over : Def := ⟨["part", "variable", "level"], 3,
  [.ifs (.prim (.cmp .eq) [(.var 0), (.var 1)])
     [.ret (.prim .tup [(.str [98, 111, 117, 110, 100]), (.var 2)])]
     [],
   .ifs (.prim (.cmp .eq) [(.prim .sub [(.var 0), (.int 0)]), (.str [111, 102])])
     [.ret (.prim .tup [(.str [111, 102]), (.call "_law_over" [(.prim .sub [(.var 0), (.int 1)]), (.var 1), (.var 2)]), (.call "_law_over" [(.prim .sub [(.var 0), (.int 2)]), (.var 1), (.var 2)])])]
     [],
   .ifs (.prim (.cmp .eq) [(.prim .sub [(.var 0), (.int 0)]), (.str [102, 111, 114])])
     [.ret (.prim .tup [(.str [102, 111, 114]), (.prim .sub [(.var 0), (.int 1)]), (.call "_law_over" [(.prim .sub [(.var 0), (.int 2)]), (.var 1), (.prim (.bin .add) [(.var 2), (.int 1)])])])]
     [],
   .ret (.var 0)]⟩
def d_counted : Def := ⟨["sort", "things", "first", "second", "found", "k"], 2,
  [.ifs (.prim (.cmp .eq) [(.var 0), (.str [116])])
     [.ret (.int 2)]
     [],
   .ifs (.prim (.cmp .eq) [(.var 0), (.str [105])])
     [.ret (.var 1)]
     [],
   .asg 2 (.call "counted" [(.prim .sub [(.var 0), (.int 0)]), (.var 1)]),
   .asg 3 (.call "counted" [(.prim .sub [(.var 0), (.int 1)]), (.var 1)]),
   .asg 4 (.int 1),
   .ifs (.prim (.cmp .gt) [(.var 3), (.int 1)])
     [.for_ 5 (.range [(.var 2)])
        [.asg 4 (.prim (.bin .mul) [(.var 4), (.var 3)]),
         .ifs (.prim (.cmp .gt) [(.var 4), (.gl "MOST_CARRIER")])
           [.ret (.prim (.bin .add) [(.gl "MOST_CARRIER"), (.int 1)])]
           []]]
     [],
   .ret (.var 4)]⟩
def d_carrier : Def := ⟨["sort", "things", "found"], 2,
  [.asg 2 (.call "counted" [(.var 0), (.var 1)]),
   .ifs (.prim (.cmp .gt) [(.var 2), (.gl "MOST_CARRIER")])
     [.raise "TooGreat" [116, 111, 111, 32, 109, 97, 110, 121, 32, 111, 102, 32, 97, 32, 115, 111, 114, 116]]
     [],
   .ret (.var 2)]⟩
def d_handed_of : Def := ⟨["sort", "things", "found"], 2,
  [.asg 2 (.call "carrier" [(.var 0), (.var 1)]),
   .ifs (.prim (.cmp .gt) [(.var 2), (.gl "MOST_HANDED")])
     [.raise "TooGreat" [116, 111, 111, 32, 109, 97, 110, 121, 32, 116, 111, 32, 98, 101, 32, 104, 97, 110, 100, 101, 100]]
     [],
   .ret (.var 2)]⟩
def d_is_equality : Def := ⟨["part"], 1,
  [.ret (.and_ [(.prim (.cmp .eq) [(.prim .sub [(.var 0), (.int 0)]), (.str [111, 102])]), (.prim (.cmp .eq) [(.prim .sub [(.prim .sub [(.var 0), (.int 1)]), (.int 0)]), (.str [111, 102])]), (.prim (.cmp .eq) [(.prim .sub [(.prim .sub [(.prim .sub [(.var 0), (.int 1)]), (.int 1)]), (.int 0)]), (.str [115, 97, 109, 101])])])]⟩
def d_looked_at : Def := ⟨["part", "around", "things", "sort"], 3,
  [.ifs (.call "is_equality" [(.var 0)])
     [.expr (.call "looked_at" [(.prim .sub [(.prim .sub [(.var 0), (.int 1)]), (.int 2)]), (.var 1), (.var 2)]),
      .expr (.call "looked_at" [(.prim .sub [(.var 0), (.int 2)]), (.var 1), (.var 2)]),
      .ret (.str [116])]
     [],
   .ifs (.prim (.cmp .eq) [(.prim .sub [(.var 0), (.int 0)]), (.str [102, 114, 101, 101])])
     [.asg 3 (.prim .sub [(.var 0), (.int 2)])]
     [.ifs (.prim (.cmp .eq) [(.prim .sub [(.var 0), (.int 0)]), (.str [98, 111, 117, 110, 100])])
        [.asg 3 (.prim .sub [(.var 1), (.prim (.bin .sub) [(.prim (.bin .sub) [(.prim .len [(.var 1)]), (.int 1)]), (.prim .sub [(.var 0), (.int 1)])])])]
        [.ifs (.prim (.cmp .eq) [(.prim .sub [(.var 0), (.int 0)]), (.str [115, 97, 109, 101])])
           [.asg 3 (.prim .tup [(.prim .sub [(.var 0), (.int 1)]), (.prim .tup [(.prim .sub [(.var 0), (.int 1)]), (.str [116])])])]
           [.ifs (.prim (.cmp .eq) [(.prim .sub [(.var 0), (.int 0)]), (.str [102, 111, 114])])
              [.expr (.call "handed_of" [(.prim .sub [(.var 0), (.int 1)]), (.var 2)]),
               .asg 3 (.prim .tup [(.prim .sub [(.var 0), (.int 1)]), (.call "looked_at" [(.prim .sub [(.var 0), (.int 2)]), (.prim (.bin .add) [(.var 1), (.prim .lst [(.prim .sub [(.var 0), (.int 1)])])]), (.var 2)])])]
              [.asg 3 (.prim .sub [(.call "looked_at" [(.prim .sub [(.var 0), (.int 1)]), (.var 1), (.var 2)]), (.int 1)]),
               .expr (.call "looked_at" [(.prim .sub [(.var 0), (.int 2)]), (.var 1), (.var 2)])]]]],
   .expr (.call "carrier" [(.var 3), (.var 2)]),
   .ret (.var 3)]⟩
def d_power_of : Def := ⟨["base", "many", "found", "k"], 2,
  [.asg 2 (.int 1),
   .ifs (.prim (.cmp .gt) [(.var 0), (.int 1)])
     [.for_ 3 (.range [(.var 1)])
        [.asg 2 (.prim (.bin .mul) [(.var 2), (.var 0)])]]
     [],
   .ret (.var 2)]⟩
def d_same_code : Def := ⟨["many", "code", "k"], 1,
  [.asg 1 (.int 0),
   .for_ 2 (.range [(.var 0)])
     [.asg 1 (.prim (.bin .add) [(.var 1), (.prim (.bin .shl) [(.prim (.bin .shl) [(.int 1), (.var 2)]), (.prim (.bin .mul) [(.var 0), (.var 2)])])])],
   .ret (.var 1)]⟩
def d_uses : Def := ⟨["part", "level"], 2,
  [.ifs (.prim (.cmp .eq) [(.prim .sub [(.var 0), (.int 0)]), (.str [111, 102])])
     [.ret (.or_ [(.call "uses" [(.prim .sub [(.var 0), (.int 1)]), (.var 1)]), (.call "uses" [(.prim .sub [(.var 0), (.int 2)]), (.var 1)])])]
     [],
   .ifs (.prim (.cmp .eq) [(.prim .sub [(.var 0), (.int 0)]), (.str [102, 111, 114])])
     [.ret (.call "uses" [(.prim .sub [(.var 0), (.int 2)]), (.prim (.bin .add) [(.var 1), (.int 1)])])]
     [],
   .ret (.and_ [(.prim (.cmp .eq) [(.prim .sub [(.var 0), (.int 0)]), (.str [98, 111, 117, 110, 100])]), (.prim (.cmp .eq) [(.prim .sub [(.var 0), (.int 1)]), (.var 1)])])]⟩
def d_settled : Def := ⟨["part", "around", "things", "filling", "first", "code", "sort"], 4,
  [.ifs (.not_ (.call "uses" [(.var 0), (.int 0)]))
     [.asgT [5, 6] (.call "reckoned" [(.var 0), (.prim (.bin .add) [(.var 1), (.prim .lst [(.prim .tup [(.int 0), (.str [116])])])]), (.var 2), (.var 3)]),
      .ret (.prim .tup [(.str [99, 111, 100, 101]), (.var 5), (.var 6)])]
     [],
   .ifs (.call "is_equality" [(.var 0)])
     [.asg 4 (.call "settled" [(.prim .sub [(.prim .sub [(.var 0), (.int 1)]), (.int 2)]), (.var 1), (.var 2), (.var 3)]),
      .ret (.prim .tup [(.str [111, 102]), (.prim .tup [(.str [111, 102]), (.prim .sub [(.prim .sub [(.var 0), (.int 1)]), (.int 1)]), (.var 4)]), (.call "settled" [(.prim .sub [(.var 0), (.int 2)]), (.var 1), (.var 2), (.var 3)])])]
     [],
   .ifs (.prim (.cmp .eq) [(.prim .sub [(.var 0), (.int 0)]), (.str [111, 102])])
     [.ret (.prim .tup [(.str [111, 102]), (.call "settled" [(.prim .sub [(.var 0), (.int 1)]), (.var 1), (.var 2), (.var 3)]), (.call "settled" [(.prim .sub [(.var 0), (.int 2)]), (.var 1), (.var 2), (.var 3)])])]
     [],
   .ret (.var 0)]⟩
def d_function_code : Def := ⟨["part", "around", "things", "filling", "inner", "codes", "sort", "k", "base", "found", "code"], 4,
  [.asg 4 (.call "settled" [(.prim .sub [(.var 0), (.int 2)]), (.var 1), (.var 2), (.var 3)]),
   .new 5 (.prim .lst []),
   .asg 6 (.str [116]),
   .for_ 7 (.range [(.call "carrier" [(.prim .sub [(.var 0), (.int 1)]), (.var 2)])])
     [.asgT [10, 6] (.call "reckoned" [(.var 4), (.prim (.bin .add) [(.var 1), (.prim .lst [(.prim .tup [(.var 7), (.prim .sub [(.var 0), (.int 1)])])])]), (.var 2), (.var 3)]),
      .app 5 (.var 10)],
   .asg 8 (.call "carrier" [(.var 6), (.var 2)]),
   .asg 9 (.int 0),
   .for_ 10 (.rev (.var 5))
     [.asg 9 (.prim (.bin .add) [(.prim (.bin .mul) [(.var 9), (.var 8)]), (.var 10)])],
   .ret (.prim .tup [(.var 9), (.prim .tup [(.prim .sub [(.var 0), (.int 1)]), (.var 6)])])]⟩
def d_reckoned : Def := ⟨["part", "around", "things", "filling", "at", "base", "first", "code", "sort"], 4,
  [.ifs (.prim (.cmp .eq) [(.prim .sub [(.var 0), (.int 0)]), (.str [99, 111, 100, 101])])
     [.ret (.prim .tup [(.prim .sub [(.var 0), (.int 1)]), (.prim .sub [(.var 0), (.int 2)])])]
     [],
   .ifs (.prim (.cmp .eq) [(.prim .sub [(.var 0), (.int 0)]), (.str [102, 114, 101, 101])])
     [.ret (.prim .tup [(.prim .sub [(.var 3), (.var 0)]), (.prim .sub [(.var 0), (.int 2)])])]
     [],
   .ifs (.prim (.cmp .eq) [(.prim .sub [(.var 0), (.int 0)]), (.str [98, 111, 117, 110, 100])])
     [.ret (.prim .sub [(.var 1), (.prim (.bin .sub) [(.prim (.bin .sub) [(.prim .len [(.var 1)]), (.int 1)]), (.prim .sub [(.var 0), (.int 1)])])])]
     [],
   .ifs (.prim (.cmp .eq) [(.prim .sub [(.var 0), (.int 0)]), (.str [115, 97, 109, 101])])
     [.ret (.prim .tup [(.call "same_code" [(.call "carrier" [(.prim .sub [(.var 0), (.int 1)]), (.var 2)])]), (.prim .tup [(.prim .sub [(.var 0), (.int 1)]), (.prim .tup [(.prim .sub [(.var 0), (.int 1)]), (.str [116])])])])]
     [],
   .ifs (.prim (.cmp .eq) [(.prim .sub [(.var 0), (.int 0)]), (.str [102, 111, 114])])
     [.ret (.call "function_code" [(.var 0), (.var 1), (.var 2), (.var 3)])]
     [],
   .ifs (.call "is_equality" [(.var 0)])
     [.asg 6 (.prim .sub [(.call "reckoned" [(.prim .sub [(.prim .sub [(.var 0), (.int 1)]), (.int 2)]), (.var 1), (.var 2), (.var 3)]), (.int 0)]),
      .ret (.prim .tup [(.prim .int [(.prim (.cmp .eq) [(.var 6), (.prim .sub [(.call "reckoned" [(.prim .sub [(.var 0), (.int 2)]), (.var 1), (.var 2), (.var 3)]), (.int 0)])])]), (.str [116])])]
     [],
   .asgT [7, 8] (.call "reckoned" [(.prim .sub [(.var 0), (.int 1)]), (.var 1), (.var 2), (.var 3)]),
   .asg 4 (.prim .sub [(.call "reckoned" [(.prim .sub [(.var 0), (.int 2)]), (.var 1), (.var 2), (.var 3)]), (.int 0)]),
   .asg 5 (.call "carrier" [(.prim .sub [(.var 8), (.int 1)]), (.var 2)]),
   .ret (.prim .tup [(.prim (.bin .mod) [(.prim (.bin .fdiv) [(.var 7), (.call "power_of" [(.var 5), (.var 4)])]), (.var 5)]), (.prim .sub [(.var 8), (.int 1)])])]⟩
def d_value : Def := ⟨["term", "things", "filling"], 3,
  [.expr (.call "looked_at" [(.var 0), (.prim .lst []), (.var 1)]),
   .ret (.prim .sub [(.call "reckoned" [(.var 0), (.prim .lst []), (.var 1), (.var 2)]), (.int 0)])]⟩
def d__law_counted : Def := ⟨["sort", "things", "base", "found", "k"], 2,
  [.ifs (.not_ (.prim (.isi .tuple) [(.var 0)]))
     [.ret (.prim .sub [(.prim .lst [(.var 1), (.int 2)]), (.prim .int [(.prim (.cmp .eq) [(.var 0), (.str [116])])])])]
     [],
   .asg 2 (.call "_law_counted" [(.prim .sub [(.var 0), (.int 1)]), (.var 1)]),
   .asg 3 (.int 1),
   .ifs (.prim (.cmp .gt) [(.var 2), (.int 1)])
     [.for_ 4 (.range [(.prim .min2 [(.int 101), (.call "_law_counted" [(.prim .sub [(.var 0), (.int 0)]), (.var 1)])])])
        [.asg 3 (.prim .min2 [(.prim (.bin .add) [(.prim (.bin .pow) [(.int 10), (.int 30)]), (.int 1)]), (.prim (.bin .mul) [(.var 3), (.var 2)])])]]
     [],
   .ret (.var 3)]⟩
def d__law_work : Def := ⟨["part", "around", "things", "sort", "many", "steps", "inner", "first"], 3,
  [.ifs (.or_ [(.prim (.cmp .eq) [(.prim .sub [(.var 0), (.int 0)]), (.str [102, 114, 101, 101])]), (.prim (.cmp .eq) [(.prim .sub [(.var 0), (.int 0)]), (.str [98, 111, 117, 110, 100])]), (.prim (.cmp .eq) [(.prim .sub [(.var 0), (.int 0)]), (.str [115, 97, 109, 101])])])
     [.asg 3 (.call "_law_sort" [(.var 0), (.var 1)]),
      .ret (.prim .tup [(.prim (.bin .add) [(.int 1), (.prim (.bin .mul) [(.int 8999), (.prim .int [(.prim (.cmp .gt) [(.call "_law_counted" [(.var 3), (.var 2)]), (.prim (.bin .pow) [(.int 10), (.int 30)])])])])]), (.var 3)])]
     [],
   .ifs (.prim (.cmp .eq) [(.prim .sub [(.var 0), (.int 0)]), (.str [102, 111, 114])])
     [.asg 4 (.call "_law_counted" [(.prim .sub [(.var 0), (.int 1)]), (.var 2)]),
      .asgT [6, 3] (.call "_law_work" [(.prim .sub [(.var 0), (.int 2)]), (.prim (.bin .add) [(.var 1), (.prim .lst [(.prim .sub [(.var 0), (.int 1)])])]), (.var 2)]),
      .asg 5 (.prim (.bin .add) [(.prim (.bin .mul) [(.var 6), (.var 4)]), (.prim (.bin .mul) [(.int 9000), (.prim .int [(.prim (.cmp .gt) [(.var 4), (.int 300)])])])]),
      .asg 3 (.prim .tup [(.prim .sub [(.var 0), (.int 1)]), (.var 3)])]
     [.ifs (.and_ [(.prim (.cmp .eq) [(.prim .sub [(.prim .sub [(.var 0), (.int 1)]), (.int 0)]), (.str [111, 102])]), (.prim (.cmp .eq) [(.prim .sub [(.prim .sub [(.prim .sub [(.var 0), (.int 1)]), (.int 1)]), (.int 0)]), (.str [115, 97, 109, 101])])])
        [.asg 5 (.prim (.bin .add) [(.prim .sub [(.call "_law_work" [(.prim .sub [(.prim .sub [(.var 0), (.int 1)]), (.int 2)]), (.var 1), (.var 2)]), (.int 0)]), (.prim .sub [(.call "_law_work" [(.prim .sub [(.var 0), (.int 2)]), (.var 1), (.var 2)]), (.int 0)])]),
         .asg 3 (.str [116])]
        [.asgT [7, 3] (.call "_law_work" [(.prim .sub [(.var 0), (.int 1)]), (.var 1), (.var 2)]),
         .asg 5 (.prim (.bin .add) [(.var 7), (.prim .sub [(.call "_law_work" [(.prim .sub [(.var 0), (.int 2)]), (.var 1), (.var 2)]), (.int 0)])]),
         .asg 3 (.prim .sub [(.var 3), (.int 1)])]],
   .ret (.prim .tup [(.prim .min2 [(.int 9000), (.prim (.bin .add) [(.prim (.bin .add) [(.int 1), (.var 5)]), (.prim (.bin .mul) [(.int 8999), (.prim .int [(.prim (.cmp .gt) [(.call "_law_counted" [(.var 3), (.var 2)]), (.prim (.bin .pow) [(.int 10), (.int 30)])])])])])]), (.var 3)])]⟩
def d__law_filling : Def := ⟨["script", "k", "terms", "things", "made", "term", "one"], 4,
  [.new 4 (.prim .dict0 []),
   .for_ 5 (.seq (.var 2))
     [.for_ 6 (.seq (.call "_law_frees" [(.var 5)]))
        [.sto 4 (.var 6) (.prim (.bin .mod) [(.call "_law_drawn" [(.call "_law_cell" [(.var 0), (.var 1)]), (.prim (.bin .add) [(.prim (.bin .add) [(.var 1), (.int 900)]), (.prim .len [(.var 4)])])]), (.call "_law_counted" [(.prim .sub [(.var 6), (.int 2)]), (.var 3)])])]],
   .ret (.mv 4)]⟩
def d__law_carrier : Def := ⟨["sort", "things", "e"], 2,
  [.try_
     [.ret (.call "carrier" [(.var 0), (.var 1)])]
     "TooGreat" (some 2)
     [.ret (.prim .sub [(.prim .lst [(.str [103, 114, 101, 97, 116]), (.str [111, 116, 104, 101, 114])]), (.prim .int [(.not_ (.hot "_law_alone" 2))])])]]⟩
def d__law_too_many : Def := ⟨["part", "around", "things"], 3,
  [.ifs (.and_ [(.prim (.cmp .eq) [(.prim .sub [(.var 0), (.int 0)]), (.str [111, 102])]), (.prim (.cmp .eq) [(.prim .sub [(.prim .sub [(.var 0), (.int 1)]), (.int 0)]), (.str [111, 102])]), (.prim (.cmp .eq) [(.prim .sub [(.prim .sub [(.prim .sub [(.var 0), (.int 1)]), (.int 1)]), (.int 0)]), (.str [115, 97, 109, 101])])])
     [.ret (.or_ [(.call "_law_too_many" [(.prim .sub [(.prim .sub [(.var 0), (.int 1)]), (.int 2)]), (.var 1), (.var 2)]), (.call "_law_too_many" [(.prim .sub [(.var 0), (.int 2)]), (.var 1), (.var 2)])])]
     [],
   .ifs (.prim (.cmp .gt) [(.call "_law_counted" [(.call "_law_sort" [(.var 0), (.var 1)]), (.var 2)]), (.prim (.bin .pow) [(.int 10), (.int 30)])])
     [.ret (.bl true)]
     [],
   .ifs (.prim (.cmp .eq) [(.prim .sub [(.var 0), (.int 0)]), (.str [102, 111, 114])])
     [.ret (.or_ [(.prim (.cmp .gt) [(.call "_law_counted" [(.prim .sub [(.var 0), (.int 1)]), (.var 2)]), (.int 300)]), (.call "_law_too_many" [(.prim .sub [(.var 0), (.int 2)]), (.prim (.bin .add) [(.var 1), (.prim .lst [(.prim .sub [(.var 0), (.int 1)])])]), (.var 2)])])]
     [],
   .ifs (.prim (.cmp .ne) [(.prim .sub [(.var 0), (.int 0)]), (.str [111, 102])])
     [.ret (.bl false)]
     [],
   .ret (.or_ [(.call "_law_too_many" [(.prim .sub [(.var 0), (.int 1)]), (.var 1), (.var 2)]), (.call "_law_too_many" [(.prim .sub [(.var 0), (.int 2)]), (.var 1), (.var 2)])])]⟩
def d_is_truth : Def := ⟨["term"], 1,
  [.ret (.prim (.cmp .eq) [(.call "sort_of" [(.var 0)]), (.str [116])])]⟩
def d_by_text : Def := ⟨["terms", "texts", "term", "text"], 1,
  [.newS 1,
   .for_ 2 (.seq (.var 0))
     [.stoS 1 (.call "written" [(.var 2)]) (.var 2)],
   .ret (.prim .tuple [(.lc 3 (.seq (.sortS 1)) (.subS 1 (.var 3)) [])])]⟩
def d_follows : Def := ⟨["given", "claim", "term"], 2,
  [.asg 0 (.call "by_text" [(.var 0)]),
   .ifs (.or_ [(.prim (.cmp .gt) [(.prim .len [(.var 0)]), (.gl "MOST_GIVEN")]), (.not_ (.prim .all [(.lc 2 (.seq (.var 0)) (.call "is_term" [(.var 2)]) [])])), (.not_ (.call "is_term" [(.var 1)]))])
     [.raise "TooGreat" [98, 101, 121, 111, 110, 100, 32, 116, 104, 101, 32, 98, 111, 117, 110, 100, 115, 32, 111, 102, 32, 115, 101, 110, 116, 101, 110, 99, 101, 115]]
     [],
   .ret (.mk "Sentence" [(.var 0), (.var 1)])]⟩
def d_but_one : Def := ⟨["given", "term", "one"], 2,
  [.ret (.lc 2 (.seq (.var 0)) (.var 2) [(.prim (.cmp .ne) [(.var 2), (.var 1)])])]⟩
def d_same_self : Def := ⟨["term"], 1,
  [.ret (.call "follows" [(.prim .tup []), (.call "equality" [(.var 0), (.var 0)])])]⟩
def d_in_turn : Def := ⟨["one", "other", "first", "middle", "again", "last"], 2,
  [.asgT [2, 3] (.call "sides" [(.fld (.var 0) "Sentence" "claim")]),
   .asgT [4, 5] (.call "sides" [(.fld (.var 1) "Sentence" "claim")]),
   .ifs (.prim (.cmp .ne) [(.var 3), (.var 4)])
     [.raise "NoRule" [110, 111, 116, 32, 116, 104, 101, 32, 115, 97, 109, 101, 32, 105, 110, 32, 116, 104, 101, 32, 109, 105, 100, 115, 116]]
     [],
   .ret (.call "follows" [(.prim (.bin .add) [(.fld (.var 0) "Sentence" "given"), (.fld (.var 1) "Sentence" "given")]), (.call "equality" [(.var 2), (.var 5)])])]⟩
def d_need_truth : Def := ⟨["term"], 1,
  [.ifs (.not_ (.call "is_truth" [(.var 0)]))
     [.raise "NoRule" [110, 111, 32, 116, 114, 117, 116, 104]]
     []]⟩
def d_supposed : Def := ⟨["term"], 1,
  [.expr (.call "need_truth" [(.var 0)]),
   .ret (.call "follows" [(.prim .tup [(.var 0)]), (.var 0)])]⟩
def d_carried : Def := ⟨["one", "other", "first", "second"], 2,
  [.asgT [2, 3] (.call "sides" [(.fld (.var 0) "Sentence" "claim")]),
   .ifs (.prim (.cmp .ne) [(.var 2), (.fld (.var 1) "Sentence" "claim")])
     [.raise "NoRule" [97, 110, 111, 116, 104, 101, 114, 32, 116, 114, 117, 116, 104]]
     [],
   .ret (.call "follows" [(.prim (.bin .add) [(.fld (.var 0) "Sentence" "given"), (.fld (.var 1) "Sentence" "given")]), (.var 3)])]⟩
def d_each_other : Def := ⟨["one", "other", "given"], 2,
  [.asg 2 (.prim (.bin .add) [(.call "but_one" [(.fld (.var 0) "Sentence" "given"), (.fld (.var 1) "Sentence" "claim")]), (.call "but_one" [(.fld (.var 1) "Sentence" "given"), (.fld (.var 0) "Sentence" "claim")])]),
   .ret (.call "follows" [(.var 2), (.call "equality" [(.fld (.var 0) "Sentence" "claim"), (.fld (.var 1) "Sentence" "claim")])])]⟩
def d_turned : Def := ⟨["one", "first", "second"], 1,
  [.asgT [1, 2] (.call "sides" [(.fld (.var 0) "Sentence" "claim")]),
   .ret (.call "follows" [(.fld (.var 0) "Sentence" "given"), (.call "equality" [(.var 2), (.var 1)])])]⟩
def d__law_claimed : Def := ⟨["claim", "extra", "made", "other"], 2,
  [.asg 2 (.call "supposed" [(.var 0)]),
   .for_ 3 (.seq (.var 1))
     [.asg 2 (.call "carried" [(.call "each_other" [(.call "supposed" [(.var 3)]), (.var 2)]), (.call "supposed" [(.var 3)])])],
   .ret (.var 2)]⟩
def d__law_right : Def := ⟨["sentence", "given", "claim", "texts", "term", "due", "text"], 3,
  [.newS 3,
   .for_ 4 (.seq (.var 1))
     [.stoS 3 (.call "_law_written" [(.var 4)]) (.var 4)],
   .asg 5 (.prim .tuple [(.lc 6 (.seq (.sortS 3)) (.subS 3 (.var 6)) [])]),
   .ret (.and_ [(.isO (.var 0) "Sentence"), (.prim (.cmp .eq) [(.fld (.var 0) "Sentence" "given"), (.var 5)]), (.prim (.cmp .eq) [(.fld (.var 0) "Sentence" "claim"), (.var 2)])])]⟩
def d_need_apart : Def := ⟨["variable", "terms", "term"], 2,
  [.for_ 2 (.seq (.var 1))
     [.ifs (.prim (.cmp .in_) [(.var 0), (.call "frees" [(.var 2)])])
        [.raise "NoRule" [116, 104, 101, 32, 118, 97, 114, 105, 97, 98, 108, 101, 32, 115, 116, 97, 110, 100, 115, 32, 105, 110, 32, 119, 104, 97, 116, 32, 105, 115, 32, 103, 105, 118, 101, 110]]
        []]]⟩
def d_bound_both : Def := ⟨["variable", "one", "first", "second"], 2,
  [.asgT [2, 3] (.call "sides" [(.fld (.var 1) "Sentence" "claim")]),
   .expr (.call "need_apart" [(.var 0), (.fld (.var 1) "Sentence" "given")]),
   .ret (.call "follows" [(.fld (.var 1) "Sentence" "given"), (.call "equality" [(.call "bound_over" [(.var 0), (.var 2)]), (.call "bound_over" [(.var 0), (.var 3)])])])]⟩
def d_fresh : Def := ⟨["terms", "names", "term", "count"], 1,
  [.asg 1 (.prim .lst []),
   .for_ 2 (.seq (.var 0))
     [.asg 1 (.prim (.bin .add) [(.var 1), (.call "names_of" [(.var 2)])])],
   .asg 3 (.int 0),
   .whl (.prim (.cmp .in_) [(.prim (.bin .add) [(.str [118]), (.prim .str [(.var 3)])]), (.var 1)])
     [.asg 3 (.prim (.bin .add) [(.var 3), (.int 1)])],
   .ret (.prim .tup [(.str [102, 114, 101, 101]), (.prim (.bin .add) [(.str [118]), (.prim .str [(.var 3)])]), (.str [116])])]⟩
def d_names_of : Def := ⟨["term"], 1,
  [.ifs (.prim (.cmp .eq) [(.prim .sub [(.var 0), (.int 0)]), (.str [102, 114, 101, 101])])
     [.ret (.prim .lst [(.prim .sub [(.var 0), (.int 1)])])]
     [],
   .ifs (.prim (.cmp .eq) [(.prim .sub [(.var 0), (.int 0)]), (.str [111, 102])])
     [.ret (.prim (.bin .add) [(.call "names_of" [(.prim .sub [(.var 0), (.int 1)])]), (.call "names_of" [(.prim .sub [(.var 0), (.int 2)])])])]
     [],
   .ifs (.prim (.cmp .eq) [(.prim .sub [(.var 0), (.int 0)]), (.str [102, 111, 114])])
     [.ret (.call "names_of" [(.prim .sub [(.var 0), (.int 2)])])]
     [],
   .ret (.prim .lst [])]⟩
def d_need_truths : Def := ⟨["terms", "term"], 1,
  [.for_ 1 (.seq (.var 0))
     [.ifs (.not_ (.call "is_truth" [(.var 1)]))
        [.raise "NoRule" [110, 111, 32, 116, 114, 117, 116, 104]]
        []]]⟩
def d_always : Def := ⟨["same"], 0,
  [.asg 0 (.prim .tup [(.str [102, 111, 114]), (.str [116]), (.prim .tup [(.str [98, 111, 117, 110, 100]), (.int 0)])]),
   .ret (.prim .tup [(.str [111, 102]), (.prim .tup [(.str [111, 102]), (.prim .tup [(.str [115, 97, 109, 101]), (.prim .tup [(.str [116]), (.str [116])])]), (.var 0)]), (.var 0)])]⟩
def d_all_of : Def := ⟨["variable", "term"], 2,
  [.expr (.call "need_truths" [(.prim .lst [(.var 1)])]),
   .ret (.call "equality" [(.call "bound_over" [(.var 0), (.var 1)]), (.call "bounded" [(.prim .tup [(.str [102, 111, 114]), (.prim .sub [(.var 0), (.int 2)]), (.call "always" [])])])])]⟩
def d_never : Def := ⟨["variable"], 0,
  [.asg 0 (.prim .tup [(.str [102, 114, 101, 101]), (.str [118]), (.str [116])]),
   .ret (.call "all_of" [(.var 0), (.var 0)])]⟩
def d_pair_of : Def := ⟨["one", "other"], 2,
  [.ret (.call "bounded" [(.prim .tup [(.str [102, 111, 114]), (.gl "TWO"), (.prim .tup [(.str [111, 102]), (.prim .tup [(.str [111, 102]), (.prim .tup [(.str [98, 111, 117, 110, 100]), (.int 0)]), (.var 0)]), (.var 1)])])])]⟩
def d_both : Def := ⟨["one", "other"], 2,
  [.expr (.call "need_truths" [(.prim .lst [(.var 0), (.var 1)])]),
   .ret (.call "equality" [(.call "pair_of" [(.var 0), (.var 1)]), (.call "pair_of" [(.call "always" []), (.call "always" [])])])]⟩
def d_implied : Def := ⟨["one", "other"], 2,
  [.ret (.call "equality" [(.call "both" [(.var 0), (.var 1)]), (.var 0)])]⟩
def d_negated : Def := ⟨["term"], 1,
  [.ret (.call "implied" [(.var 0), (.call "never" [])])]⟩
def d_either : Def := ⟨["one", "other", "end"], 2,
  [.expr (.call "need_truths" [(.prim .lst [(.var 0), (.var 1)])]),
   .asg 2 (.call "fresh" [(.prim .lst [(.var 0), (.var 1)])]),
   .ret (.call "all_of" [(.var 2), (.call "implied" [(.call "implied" [(.var 0), (.var 2)]), (.call "implied" [(.call "implied" [(.var 1), (.var 2)]), (.var 2)])])])]⟩
def d_some_of : Def := ⟨["variable", "term", "end"], 2,
  [.expr (.call "need_truths" [(.prim .lst [(.var 1)])]),
   .asg 2 (.call "fresh" [(.prim .lst [(.var 0), (.var 1)])]),
   .ret (.call "all_of" [(.var 2), (.call "implied" [(.call "all_of" [(.var 0), (.call "implied" [(.var 1), (.var 2)])]), (.var 2)])])]⟩
def d__law_always : Def := ⟨["same"], 0,
  [.asg 0 (.prim .tup [(.str [102, 111, 114]), (.str [116]), (.prim .tup [(.str [98, 111, 117, 110, 100]), (.int 0)])]),
   .ret (.prim .tup [(.str [111, 102]), (.prim .tup [(.str [111, 102]), (.prim .tup [(.str [115, 97, 109, 101]), (.prim .tup [(.str [116]), (.str [116])])]), (.var 0)]), (.var 0)])]⟩
def d__law_all : Def := ⟨["variable", "term"], 2,
  [.ret (.call "_law_equal" [(.prim .tup [(.str [102, 111, 114]), (.prim .sub [(.var 0), (.int 2)]), (.call "_law_over" [(.var 1), (.var 0), (.int 0)])]), (.prim .tup [(.str [102, 111, 114]), (.prim .sub [(.var 0), (.int 2)]), (.call "_law_always" [])])])]⟩
def d__law_never : Def := ⟨[], 0,
  [.ret (.call "_law_all" [(.prim .tup [(.str [102, 114, 101, 101]), (.str [122]), (.str [116])]), (.prim .tup [(.str [102, 114, 101, 101]), (.str [122]), (.str [116])])])]⟩
def d__law_both : Def := ⟨["one", "other", "two", "left"], 2,
  [.asg 2 (.prim .tup [(.str [116]), (.prim .tup [(.str [116]), (.str [116])])]),
   .asg 3 (.prim .tup [(.str [102, 111, 114]), (.var 2), (.prim .tup [(.str [111, 102]), (.prim .tup [(.str [111, 102]), (.prim .tup [(.str [98, 111, 117, 110, 100]), (.int 0)]), (.var 0)]), (.var 1)])]),
   .ret (.call "_law_equal" [(.var 3), (.prim .tup [(.str [102, 111, 114]), (.var 2), (.prim .tup [(.str [111, 102]), (.prim .tup [(.str [111, 102]), (.prim .tup [(.str [98, 111, 117, 110, 100]), (.int 0)]), (.call "_law_always" [])]), (.call "_law_always" [])])])])]⟩
def d__law_implied : Def := ⟨["one", "other"], 2,
  [.ret (.call "_law_equal" [(.call "_law_both" [(.var 0), (.var 1)]), (.var 0)])]⟩
def d__law_either : Def := ⟨["one", "other", "end"], 2,
  [.asg 2 (.prim .tup [(.str [102, 114, 101, 101]), (.str [111, 116, 104, 101, 114, 48, 48]), (.str [116])]),
   .ret (.call "_law_all" [(.var 2), (.call "_law_implied" [(.call "_law_implied" [(.var 0), (.var 2)]), (.call "_law_implied" [(.call "_law_implied" [(.var 1), (.var 2)]), (.var 2)])])])]⟩
def d__law_some : Def := ⟨["variable", "term", "end"], 2,
  [.asg 2 (.prim .tup [(.str [102, 114, 101, 101]), (.str [111, 116, 104, 101, 114, 48, 48]), (.str [116])]),
   .ret (.call "_law_all" [(.var 2), (.call "_law_implied" [(.call "_law_all" [(.var 0), (.call "_law_implied" [(.var 1), (.var 2)])]), (.var 2)])])]⟩
def d__law_joined : Def := ⟨["names", "half"], 1,
  [.ifs (.prim (.cmp .eq) [(.prim .len [(.var 0)]), (.int 1)])
     [.ret (.prim .tup [(.str [102, 114, 101, 101]), (.prim .sub [(.var 0), (.int 0)]), (.str [116])])]
     [],
   .asg 1 (.prim (.bin .fdiv) [(.prim .len [(.var 0)]), (.int 2)]),
   .ret (.prim .tup [(.str [111, 102]), (.prim .tup [(.str [111, 102]), (.prim .tup [(.str [115, 97, 109, 101]), (.str [116])]), (.call "_law_joined" [(.prim .sl01 [(.var 0), (.var 1)])])]), (.call "_law_joined" [(.prim .sl10 [(.var 0), (.var 1)])])])]⟩
def d__law_names : Def := ⟨["script", "way", "letters", "more", "names", "k", "one", "rest", "j"], 2,
  [.asg 2 (.str [97, 98, 99, 100, 101, 102, 103, 104, 105, 106, 107, 108, 109, 110, 111, 112, 113, 114, 115, 116, 117, 118, 119, 120, 121, 122]),
   .asg 3 (.call "_law_drawn" [(.call "_law_cell" [(.var 0), (.var 1)]), (.prim (.bin .add) [(.var 1), (.int 9000)])]),
   .ifs (.prim (.cmp .lt) [(.var 1), (.int 3)])
     [.ret (.prim .list [(.sl11 (.prim (.bin .add) [(.var 2), (.var 2)]) (.prim (.bin .mul) [(.int 9), (.var 1)]) (.prim (.bin .add) [(.prim (.bin .mul) [(.int 9), (.var 1)]), (.int 9)]))])]
     [],
   .ifs (.prim (.cmp .eq) [(.var 1), (.int 3)])
     [.ret (.lc 5 (.range [(.int 9)]) (.prim (.bin .add) [(.prim .sub [(.var 2), (.prim (.bin .mod) [(.var 3), (.int 26)])]), (.prim .str [(.var 5)])]) [])]
     [],
   .new 4 (.prim .lst []),
   .for_ 5 (.range [(.int 9)])
     [.asg 6 (.call "_law_drawn" [(.var 3), (.var 5)]),
      .asg 7 (.meth .join (.str []) [(.lc 8 (.range [(.prim (.bin .mod) [(.var 6), (.int 7)])]) (.prim .sub [(.prim (.bin .add) [(.var 2), (.str [48, 49, 50, 51, 52, 53, 54, 55, 56, 57])]), (.prim (.bin .mod) [(.prim (.bin .fdiv) [(.var 6), (.prim (.bin .mul) [(.int 36), (.prim (.bin .add) [(.var 8), (.int 1)])])]), (.int 36)])]) [])]),
      .app 4 (.prim (.bin .add) [(.prim .sub [(.var 2), (.prim (.bin .mod) [(.prim (.bin .fdiv) [(.var 6), (.int 7)]), (.int 14)])]), (.var 7)])],
   .ret (.mv 4)]⟩
def d__law_uncaught : Def := ⟨["script", "way", "names", "one", "variable", "first", "second"], 1,
  [.for_ 1 (.range [(.int 5)])
     [.asg 2 (.call "_law_names" [(.var 0), (.var 1)]),
      .asg 3 (.call "_law_joined" [(.var 2)]),
      .asg 4 (.prim .tup [(.str [102, 114, 101, 101]), (.prim .sub [(.var 2), (.prim (.bin .mod) [(.call "_law_cell" [(.var 0), (.int 5)]), (.int 9)])]), (.str [116])]),
      .asgT [5, 6] (.prim .sub [(.prim .lst [(.prim .tup [(.var 3), (.var 4)]), (.prim .tup [(.var 4), (.var 3)])]), (.prim (.bin .mod) [(.var 1), (.int 2)])]),
      .ifs (.prim (.cmp .ne) [(.call "either" [(.var 5), (.var 6)]), (.call "_law_either" [(.var 5), (.var 6)])])
        [.ret (.bl false)]
        [],
      .ifs (.prim (.cmp .ne) [(.call "some_of" [(.var 4), (.var 3)]), (.call "_law_some" [(.var 4), (.var 3)])])
        [.ret (.bl false)]
        []],
   .ret (.bl true)]⟩
def d_both_parts : Def := ⟨["term", "inner", "left", "right"], 1,
  [.asgT [2, 3] (.call "sides" [(.var 0)]),
   .ifs (.or_ [(.prim (.cmp .ne) [(.prim .sub [(.var 2), (.int 0)]), (.str [102, 111, 114])]), (.prim (.cmp .ne) [(.prim .sub [(.var 2), (.int 1)]), (.gl "TWO")]), (.prim (.cmp .ne) [(.var 3), (.call "pair_of" [(.call "always" []), (.call "always" [])])])])
     [.raise "NoRule" [110, 111, 32, 98, 111, 116, 104]]
     [],
   .asg 1 (.prim .sub [(.var 2), (.int 2)]),
   .ifs (.or_ [(.prim (.cmp .ne) [(.prim .sub [(.var 1), (.int 0)]), (.str [111, 102])]), (.prim (.cmp .ne) [(.prim .sub [(.prim .sub [(.var 1), (.int 1)]), (.int 0)]), (.str [111, 102])]), (.prim (.cmp .ne) [(.prim .sub [(.prim .sub [(.var 1), (.int 1)]), (.int 1)]), (.prim .tup [(.str [98, 111, 117, 110, 100]), (.int 0)])])])
     [.raise "NoRule" [110, 111, 32, 98, 111, 116, 104]]
     [],
   .ifs (.or_ [(.not_ (.call "is_term" [(.prim .sub [(.prim .sub [(.var 1), (.int 1)]), (.int 2)])])), (.not_ (.call "is_term" [(.prim .sub [(.var 1), (.int 2)])]))])
     [.raise "NoRule" [110, 111, 32, 98, 111, 116, 104]]
     [],
   .ret (.prim .tup [(.prim .sub [(.prim .sub [(.var 1), (.int 1)]), (.int 2)]), (.prim .sub [(.var 1), (.int 2)])])]⟩
def d_implied_parts : Def := ⟨["term", "left", "right", "one", "other"], 1,
  [.asgT [1, 2] (.call "sides" [(.var 0)]),
   .asgT [3, 4] (.call "both_parts" [(.var 1)]),
   .ifs (.prim (.cmp .ne) [(.var 3), (.var 2)])
     [.raise "NoRule" [110, 111, 32, 105, 109, 112, 108, 105, 101, 100]]
     [],
   .ret (.prim .tup [(.var 3), (.var 4)])]⟩
def d_it_is : Def := ⟨["one"], 1,
  [.ret (.call "follows" [(.fld (.var 0) "Sentence" "given"), (.call "equality" [(.fld (.var 0) "Sentence" "claim"), (.call "always" [])])])]⟩
def d_it_holds : Def := ⟨["one", "first", "second"], 1,
  [.asgT [1, 2] (.call "sides" [(.fld (.var 0) "Sentence" "claim")]),
   .ifs (.prim (.cmp .ne) [(.var 2), (.call "always" [])])
     [.raise "NoRule" [110, 111, 116, 32, 97, 108, 119, 97, 121, 115]]
     [],
   .ret (.call "follows" [(.fld (.var 0) "Sentence" "given"), (.var 1)])]⟩
def d_told_always : Def := ⟨[], 0,
  [.ret (.call "follows" [(.prim .tup []), (.call "always" [])])]⟩
def d_never_used : Def := ⟨["one", "term"], 2,
  [.expr (.call "need_truth" [(.var 1)]),
   .ifs (.prim (.cmp .ne) [(.fld (.var 0) "Sentence" "claim"), (.call "never" [])])
     [.raise "NoRule" [110, 111, 116, 32, 110, 101, 118, 101, 114]]
     [],
   .ret (.call "follows" [(.fld (.var 0) "Sentence" "given"), (.var 1)])]⟩
def d_both_told : Def := ⟨["one", "other"], 2,
  [.ret (.call "follows" [(.prim (.bin .add) [(.fld (.var 0) "Sentence" "given"), (.fld (.var 1) "Sentence" "given")]), (.call "both" [(.fld (.var 0) "Sentence" "claim"), (.fld (.var 1) "Sentence" "claim")])])]⟩
def d_first_told : Def := ⟨["one"], 1,
  [.ret (.call "follows" [(.fld (.var 0) "Sentence" "given"), (.prim .sub [(.call "both_parts" [(.fld (.var 0) "Sentence" "claim")]), (.int 0)])])]⟩
def d_second_told : Def := ⟨["one"], 1,
  [.ret (.call "follows" [(.fld (.var 0) "Sentence" "given"), (.prim .sub [(.call "both_parts" [(.fld (.var 0) "Sentence" "claim")]), (.int 1)])])]⟩
def d_implied_told : Def := ⟨["term", "one"], 2,
  [.expr (.call "need_truth" [(.var 0)]),
   .ret (.call "follows" [(.call "but_one" [(.fld (.var 1) "Sentence" "given"), (.var 0)]), (.call "implied" [(.var 0), (.fld (.var 1) "Sentence" "claim")])])]⟩
def d_implied_used : Def := ⟨["one", "other", "first", "second"], 2,
  [.asgT [2, 3] (.call "implied_parts" [(.fld (.var 0) "Sentence" "claim")]),
   .ifs (.prim (.cmp .ne) [(.var 2), (.fld (.var 1) "Sentence" "claim")])
     [.raise "NoRule" [97, 110, 111, 116, 104, 101, 114, 32, 116, 114, 117, 116, 104]]
     [],
   .ret (.call "follows" [(.prim (.bin .add) [(.fld (.var 0) "Sentence" "given"), (.fld (.var 1) "Sentence" "given")]), (.var 3)])]⟩
def d__law_implying : Def := ⟨["one", "other", "beside", "made", "given", "claim", "term"], 3,
  [.asg 3 (.call "_law_claimed" [(.var 1), (.var 2)]),
   .asg 4 (.lc 6 (.seq (.prim (.bin .add) [(.prim .lst [(.var 1)]), (.var 2)])) (.var 6) [(.prim (.cmp .ne) [(.var 6), (.var 0)])]),
   .ifs (.not_ (.call "_law_right" [(.call "implied_told" [(.var 0), (.var 3)]), (.var 4), (.call "_law_implied" [(.var 0), (.var 1)])]))
     [.ret (.bl false)]
     [],
   .asg 5 (.call "_law_implied" [(.var 0), (.var 1)]),
   .asg 3 (.call "implied_used" [(.call "_law_claimed" [(.var 5), (.var 2)]), (.call "supposed" [(.var 0)])]),
   .ret (.call "_law_right" [(.var 3), (.prim (.bin .add) [(.prim .lst [(.var 5), (.var 0)]), (.var 2)]), (.var 1)])]⟩
def d_all_told : Def := ⟨["variable", "one"], 2,
  [.expr (.call "need_apart" [(.var 0), (.fld (.var 1) "Sentence" "given")]),
   .ret (.call "follows" [(.fld (.var 1) "Sentence" "given"), (.call "all_of" [(.var 0), (.fld (.var 1) "Sentence" "claim")])])]⟩
def d_some_told : Def := ⟨["variable", "term", "other", "one"], 4,
  [.expr (.call "need_truth" [(.var 1)]),
   .ifs (.or_ [(.prim (.cmp .ne) [(.call "sort_of" [(.var 2)]), (.prim .sub [(.var 0), (.int 2)])]), (.prim (.cmp .ne) [(.call "put_raw" [(.var 1), (.dlit (.var 0) (.var 2))]), (.fld (.var 3) "Sentence" "claim")])])
     [.raise "NoRule" [97, 110, 111, 116, 104, 101, 114, 32, 116, 114, 117, 116, 104]]
     [],
   .ret (.call "follows" [(.fld (.var 3) "Sentence" "given"), (.call "some_of" [(.var 0), (.var 1)])])]⟩
def d_all_parts : Def := ⟨["term", "left", "right"], 1,
  [.asgT [1, 2] (.call "sides" [(.var 0)]),
   .ifs (.or_ [(.prim (.cmp .ne) [(.prim .sub [(.var 1), (.int 0)]), (.str [102, 111, 114])]), (.prim (.cmp .ne) [(.var 2), (.prim .tup [(.str [102, 111, 114]), (.prim .sub [(.var 1), (.int 1)]), (.call "always" [])])])])
     [.raise "NoRule" [110, 111, 32, 97, 108, 108]]
     [],
   .ret (.prim .tup [(.prim .sub [(.var 1), (.int 1)]), (.prim .sub [(.var 1), (.int 2)])])]⟩
def d_either_parts : Def := ⟨["term", "end", "one", "other", "sort", "inner", "first", "rest", "second", "last"], 1,
  [.asgT [4, 5] (.call "all_parts" [(.var 0)]),
   .ifs (.prim (.cmp .ne) [(.var 4), (.str [116])])
     [.raise "NoRule" [110, 111, 32, 101, 105, 116, 104, 101, 114]]
     [],
   .asg 1 (.call "fresh" [(.prim .lst [(.var 0)])]),
   .asgT [6, 7] (.call "implied_parts" [(.call "opened" [(.var 5), (.var 1), (.int 0)])]),
   .asgT [8, 9] (.call "implied_parts" [(.var 7)]),
   .asg 2 (.prim .sub [(.call "implied_parts" [(.var 6)]), (.int 0)]),
   .asg 3 (.prim .sub [(.call "implied_parts" [(.var 8)]), (.int 0)]),
   .ifs (.prim (.cmp .ne) [(.call "either" [(.var 2), (.var 3)]), (.var 0)])
     [.raise "NoRule" [110, 111, 32, 101, 105, 116, 104, 101, 114]]
     [],
   .ret (.prim .tup [(.var 2), (.var 3)])]⟩
def d_either_first : Def := ⟨["one", "term"], 2,
  [.ret (.call "follows" [(.fld (.var 0) "Sentence" "given"), (.call "either" [(.fld (.var 0) "Sentence" "claim"), (.var 1)])])]⟩
def d_either_second : Def := ⟨["term", "one"], 2,
  [.ret (.call "follows" [(.fld (.var 1) "Sentence" "given"), (.call "either" [(.var 0), (.fld (.var 1) "Sentence" "claim")])])]⟩
def d_either_used : Def := ⟨["one", "first", "second", "given", "left", "right"], 3,
  [.asgT [4, 5] (.call "either_parts" [(.fld (.var 0) "Sentence" "claim")]),
   .ifs (.prim (.cmp .ne) [(.fld (.var 1) "Sentence" "claim"), (.fld (.var 2) "Sentence" "claim")])
     [.raise "NoRule" [116, 119, 111, 32, 99, 108, 97, 105, 109, 115]]
     [],
   .asg 3 (.prim (.bin .add) [(.prim (.bin .add) [(.prim .list [(.fld (.var 0) "Sentence" "given")]), (.call "but_one" [(.fld (.var 1) "Sentence" "given"), (.var 4)])]), (.call "but_one" [(.fld (.var 2) "Sentence" "given"), (.var 5)])]),
   .ret (.call "follows" [(.var 3), (.fld (.var 1) "Sentence" "claim")])]⟩
def d__law_one : Def := ⟨["script", "k", "more", "variable"], 2,
  [.asg 2 (.call "_law_drawn" [(.call "_law_cell" [(.var 0), (.var 1)]), (.var 1)]),
   .asg 3 (.prim .tup [(.str [102, 114, 101, 101]), (.prim (.bin .add) [(.prim .sub [(.str [97, 98, 99, 100, 101, 102, 103, 104, 105, 106, 107, 108, 109, 110, 111, 112]), (.var 1)]), (.prim .sub [(.prim .lst [(.str []), (.str [55]), (.str [122, 122])]), (.prim (.bin .mod) [(.var 2), (.int 3)])])]), (.str [116])]),
   .ifs (.prim (.cmp .eq) [(.prim (.bin .mod) [(.prim (.bin .fdiv) [(.var 2), (.int 3)]), (.int 3)]), (.int 0)])
     [.ret (.call "_law_equal" [(.var 3), (.call "_law_part" [(.var 0), (.prim (.bin .add) [(.prim (.bin .mul) [(.int 64), (.var 1)]), (.int 5)]), (.str [116]), (.prim .lst []), (.int 1)])])]
     [],
   .ret (.var 3)]⟩
def d__law_lifted : Def := ⟨["part", "by", "level"], 3,
  [.ifs (.and_ [(.prim (.cmp .eq) [(.prim .sub [(.var 0), (.int 0)]), (.str [98, 111, 117, 110, 100])]), (.prim (.cmp .ge) [(.prim .sub [(.var 0), (.int 1)]), (.var 2)])])
     [.ret (.prim .tup [(.str [98, 111, 117, 110, 100]), (.prim (.bin .add) [(.prim .sub [(.var 0), (.int 1)]), (.var 1)])])]
     [],
   .ifs (.prim (.cmp .eq) [(.prim .sub [(.var 0), (.int 0)]), (.str [111, 102])])
     [.ret (.prim .tup [(.str [111, 102]), (.call "_law_lifted" [(.prim .sub [(.var 0), (.int 1)]), (.var 1), (.var 2)]), (.call "_law_lifted" [(.prim .sub [(.var 0), (.int 2)]), (.var 1), (.var 2)])])]
     [],
   .ifs (.prim (.cmp .eq) [(.prim .sub [(.var 0), (.int 0)]), (.str [102, 111, 114])])
     [.ret (.prim .tup [(.str [102, 111, 114]), (.prim .sub [(.var 0), (.int 1)]), (.call "_law_lifted" [(.prim .sub [(.var 0), (.int 2)]), (.var 1), (.prim (.bin .add) [(.var 2), (.int 1)])])])]
     [],
   .ret (.var 0)]⟩
def d__law_step : Def := ⟨["part", "first", "one"], 1,
  [.ifs (.and_ [(.prim (.cmp .eq) [(.prim .sub [(.var 0), (.int 0)]), (.str [111, 102])]), (.prim (.cmp .eq) [(.prim .sub [(.prim .sub [(.var 0), (.int 1)]), (.int 0)]), (.str [102, 111, 114])])])
     [.ret (.prim .lst [(.call "_law_opened" [(.prim .sub [(.prim .sub [(.var 0), (.int 1)]), (.int 2)]), (.prim .sub [(.var 0), (.int 2)]), (.int 0)])])]
     [],
   .ifs (.prim (.cmp .eq) [(.prim .sub [(.var 0), (.int 0)]), (.str [102, 111, 114])])
     [.ret (.lc 2 (.seq (.call "_law_step" [(.prim .sub [(.var 0), (.int 2)])])) (.prim .tup [(.str [102, 111, 114]), (.prim .sub [(.var 0), (.int 1)]), (.var 2)]) [])]
     [],
   .ifs (.prim (.cmp .ne) [(.prim .sub [(.var 0), (.int 0)]), (.str [111, 102])])
     [.ret (.prim .lst [])]
     [],
   .asg 1 (.call "_law_step" [(.prim .sub [(.var 0), (.int 1)])]),
   .ifs (.prim (.cmp .ne) [(.var 1), (.prim .lst [])])
     [.ret (.prim .lst [(.prim .tup [(.str [111, 102]), (.prim .sub [(.var 1), (.int 0)]), (.prim .sub [(.var 0), (.int 2)])])])]
     [],
   .ret (.lc 2 (.seq (.call "_law_step" [(.prim .sub [(.var 0), (.int 2)])])) (.prim .tup [(.str [111, 102]), (.prim .sub [(.var 0), (.int 1)]), (.var 2)]) [])]⟩
def d__law_folded : Def := ⟨["script", "k", "sort", "around", "deep", "more", "some", "first"], 5,
  [.asg 5 (.call "_law_drawn" [(.call "_law_cell" [(.var 0), (.var 1)]), (.prim (.bin .add) [(.var 1), (.int 300)])]),
   .ifs (.prim (.cmp .eq) [(.var 4), (.int 0)])
     [.ret (.call "_law_part" [(.var 0), (.var 1), (.var 2), (.var 3), (.int 1)])]
     [],
   .ifs (.prim (.cmp .lt) [(.prim (.bin .mod) [(.var 5), (.int 4)]), (.int 2)])
     [.asg 6 (.prim .sub [(.prim .lst [(.str [116]), (.str [105]), (.prim .tup [(.str [116]), (.str [116])]), (.prim .tup [(.str [105]), (.str [105])])]), (.prim (.bin .mod) [(.prim (.bin .fdiv) [(.var 5), (.int 4)]), (.int 4)])]),
      .asg 7 (.call "_law_folded" [(.var 0), (.prim (.bin .add) [(.prim (.bin .mul) [(.int 3), (.var 1)]), (.int 1)]), (.var 2), (.prim (.bin .add) [(.var 3), (.prim .lst [(.var 6)])]), (.prim (.bin .sub) [(.var 4), (.int 1)])]),
      .ret (.prim .tup [(.str [111, 102]), (.prim .tup [(.str [102, 111, 114]), (.var 6), (.var 7)]), (.call "_law_folded" [(.var 0), (.prim (.bin .add) [(.prim (.bin .mul) [(.int 3), (.var 1)]), (.int 2)]), (.var 6), (.var 3), (.prim (.bin .sub) [(.var 4), (.int 1)])])])]
     [],
   .ifs (.prim (.isi .tuple) [(.var 2)])
     [.ret (.prim .tup [(.str [102, 111, 114]), (.prim .sub [(.var 2), (.int 0)]), (.call "_law_folded" [(.var 0), (.prim (.bin .add) [(.prim (.bin .mul) [(.int 3), (.var 1)]), (.int 1)]), (.prim .sub [(.var 2), (.int 1)]), (.prim (.bin .add) [(.var 3), (.prim .lst [(.prim .sub [(.var 2), (.int 0)])])]), (.prim (.bin .sub) [(.var 4), (.int 1)])])])]
     [],
   .ifs (.prim (.cmp .eq) [(.prim (.bin .mod) [(.var 5), (.int 4)]), (.int 2)])
     [.asg 6 (.prim .sub [(.prim .lst [(.str [116]), (.str [105])]), (.prim (.bin .mod) [(.prim (.bin .fdiv) [(.var 5), (.int 4)]), (.int 2)])]),
      .ret (.prim .tup [(.str [111, 102]), (.call "_law_folded" [(.var 0), (.prim (.bin .add) [(.prim (.bin .mul) [(.int 3), (.var 1)]), (.int 1)]), (.prim .tup [(.var 6), (.var 2)]), (.var 3), (.prim (.bin .sub) [(.var 4), (.int 1)])]), (.call "_law_folded" [(.var 0), (.prim (.bin .add) [(.prim (.bin .mul) [(.int 3), (.var 1)]), (.int 2)]), (.var 6), (.var 3), (.prim (.bin .sub) [(.var 4), (.int 1)])])])]
     [],
   .ret (.call "_law_part" [(.var 0), (.var 1), (.var 2), (.var 3), (.int 2)])]⟩
def d__law_doubling : Def := ⟨["more", "twice", "made", "k"], 1,
  [.asg 1 (.prim .tup [(.str [102, 111, 114]), (.prim .tup [(.str [116]), (.str [116])]), (.prim .tup [(.str [102, 111, 114]), (.str [116]), (.prim .tup [(.str [111, 102]), (.prim .tup [(.str [98, 111, 117, 110, 100]), (.int 1)]), (.prim .tup [(.str [111, 102]), (.prim .tup [(.str [98, 111, 117, 110, 100]), (.int 1)]), (.prim .tup [(.str [98, 111, 117, 110, 100]), (.int 0)])])])])]),
   .asg 2 (.prim .tup [(.str [102, 114, 101, 101]), (.str [102]), (.prim .tup [(.str [116]), (.str [116])])]),
   .for_ 3 (.range [(.prim (.bin .add) [(.int 1), (.prim (.bin .mod) [(.var 0), (.int 6)])])])
     [.asg 2 (.prim .tup [(.str [111, 102]), (.var 1), (.var 2)])],
   .ret (.prim .tup [(.str [111, 102]), (.var 2), (.prim .tup [(.str [102, 114, 101, 101]), (.str [120]), (.str [116])])])]⟩
def d__law_wide : Def := ⟨["many", "more", "made", "two", "rest", "k"], 2,
  [.asg 2 (.lrepN [(.prim .tup [(.str [111, 102]), (.prim .tup [(.str [102, 111, 114]), (.str [116]), (.prim .tup [(.str [98, 111, 117, 110, 100]), (.int 0)])]), (.prim .tup [(.str [102, 114, 101, 101]), (.str [120]), (.str [116])])])] (.var 0)),
   .asg 3 (.prim .tup [(.str [102, 114, 101, 101]), (.str [103]), (.prim .tup [(.str [116]), (.prim .tup [(.str [116]), (.str [116])])])]),
   .whl (.prim (.cmp .gt) [(.prim .len [(.var 2)]), (.int 1)])
     [.new 4 (.lc 5 (.range [(.int 0), (.prim (.bin .sub) [(.prim .len [(.var 2)]), (.int 1)]), (.int 2)]) (.prim .tup [(.str [111, 102]), (.prim .tup [(.str [111, 102]), (.var 3), (.prim .sub [(.var 2), (.var 5)])]), (.prim .sub [(.var 2), (.prim (.bin .add) [(.var 5), (.int 1)])])]) []),
      .ifs (.prim (.cmp .eq) [(.prim (.bin .mod) [(.prim .len [(.var 2)]), (.int 2)]), (.int 1)])
        [.app 4 (.prim .sub [(.var 2), (.prim .neg [(.int 1)])])]
        [],
      .asg 2 (.mv 4)],
   .ifs (.prim (.cmp .eq) [(.prim (.bin .mod) [(.var 1), (.int 2)]), (.int 0)])
     [.ret (.prim .sub [(.var 2), (.int 0)])]
     [],
   .ret (.prim .tup [(.str [111, 102]), (.prim .tup [(.str [111, 102]), (.prim .tup [(.str [102, 111, 114]), (.str [116]), (.prim .tup [(.str [102, 111, 114]), (.str [116]), (.prim .tup [(.str [102, 114, 101, 101]), (.str [120]), (.str [116])])])]), (.prim .tup [(.str [102, 114, 101, 101]), (.str [121]), (.str [116])])]), (.prim .sub [(.var 2), (.int 0)])])]⟩
def d__law_end : Def := ⟨["term", "k", "after"], 1,
  [.for_ 1 (.range [(.int 61)])
     [.asg 2 (.call "_law_step" [(.var 0)]),
      .ifs (.prim (.cmp .eq) [(.var 2), (.prim .lst [])])
        [.ret (.var 0)]
        [],
      .ifs (.or_ [(.prim (.cmp .eq) [(.var 1), (.int 60)]), (.not_ (.call "_law_is_term" [(.prim .sub [(.var 2), (.int 0)])]))])
        [.ret .non]
        [],
      .asg 0 (.prim .sub [(.var 2), (.int 0)])],
   .ret .non]⟩
def d_one_step : Def := ⟨["part", "first", "second", "inner"], 1,
  [.ifs (.call "is_fold" [(.var 0)])
     [.ret (.call "opened" [(.prim .sub [(.prim .sub [(.var 0), (.int 1)]), (.int 2)]), (.prim .sub [(.var 0), (.int 2)]), (.int 0)])]
     [],
   .ifs (.prim (.cmp .eq) [(.prim .sub [(.var 0), (.int 0)]), (.str [102, 111, 114])])
     [.asg 3 (.call "one_step" [(.prim .sub [(.var 0), (.int 2)])]),
      .ifs (.prim (.cmp .isn) [(.var 3), .non])
        [.ret .non]
        [],
      .ret (.prim .tup [(.str [102, 111, 114]), (.prim .sub [(.var 0), (.int 1)]), (.var 3)])]
     [],
   .ifs (.prim (.cmp .ne) [(.prim .sub [(.var 0), (.int 0)]), (.str [111, 102])])
     [.ret .non]
     [],
   .asg 1 (.call "one_step" [(.prim .sub [(.var 0), (.int 1)])]),
   .ifs (.prim (.cmp .ntn) [(.var 1), .non])
     [.ret (.prim .tup [(.str [111, 102]), (.var 1), (.prim .sub [(.var 0), (.int 2)])])]
     [],
   .asg 2 (.call "one_step" [(.prim .sub [(.var 0), (.int 2)])]),
   .ifs (.prim (.cmp .isn) [(.var 2), .non])
     [.ret .non]
     [],
   .ret (.prim .tup [(.str [111, 102]), (.prim .sub [(.var 0), (.int 1)]), (.var 2)])]⟩
def d_reduced : Def := ⟨["term", "steps", "after"], 1,
  [.asg 1 (.int 0),
   .asg 2 (.call "one_step" [(.var 0)]),
   .whl (.prim (.cmp .ntn) [(.var 2), .non])
     [.asg 1 (.prim (.bin .add) [(.var 1), (.int 1)]),
      .ifs (.prim (.cmp .gt) [(.var 1), (.gl "MOST_STEPS")])
        [.raise "TooGreat" [116, 111, 111, 32, 109, 97, 110, 121, 32, 115, 116, 101, 112, 115]]
        [],
      .asg 0 (.call "bounded" [(.var 2)]),
      .asg 2 (.call "one_step" [(.var 0)])],
   .ret (.var 0)]⟩
def d__law_power : Def := ⟨["base", "many", "found", "k"], 2,
  [.asg 2 (.int 1),
   .ifs (.prim (.cmp .gt) [(.var 0), (.int 1)])
     [.for_ 3 (.range [(.var 1)])
        [.asg 2 (.prim (.bin .mul) [(.var 2), (.var 0)])]]
     [],
   .ret (.var 2)]⟩
def d__law_value : Def := ⟨["part", "around", "things", "filling", "base", "found", "k", "one", "other", "made", "sort", "many"], 4,
  [.ifs (.prim (.cmp .eq) [(.prim .sub [(.var 0), (.int 0)]), (.str [102, 114, 101, 101])])
     [.ret (.prim .tup [(.prim .sub [(.var 3), (.var 0)]), (.prim .sub [(.var 0), (.int 2)])])]
     [],
   .ifs (.prim (.cmp .eq) [(.prim .sub [(.var 0), (.int 0)]), (.str [98, 111, 117, 110, 100])])
     [.ret (.prim .sub [(.var 1), (.prim (.bin .sub) [(.prim (.bin .sub) [(.prim .len [(.var 1)]), (.int 1)]), (.prim .sub [(.var 0), (.int 1)])])])]
     [],
   .ifs (.and_ [(.prim (.cmp .eq) [(.prim .sub [(.var 0), (.int 0)]), (.str [111, 102])]), (.prim (.cmp .eq) [(.prim .sub [(.prim .sub [(.var 0), (.int 1)]), (.int 0)]), (.str [111, 102])]), (.prim (.cmp .eq) [(.prim .sub [(.prim .sub [(.prim .sub [(.var 0), (.int 1)]), (.int 1)]), (.int 0)]), (.str [115, 97, 109, 101])])])
     [.asg 7 (.call "_law_value" [(.prim .sub [(.prim .sub [(.var 0), (.int 1)]), (.int 2)]), (.var 1), (.var 2), (.var 3)]),
      .ret (.prim .tup [(.prim .int [(.prim (.cmp .eq) [(.var 7), (.call "_law_value" [(.prim .sub [(.var 0), (.int 2)]), (.var 1), (.var 2), (.var 3)])])]), (.str [116])])]
     [],
   .ifs (.prim (.cmp .eq) [(.prim .sub [(.var 0), (.int 0)]), (.str [111, 102])])
     [.asgT [7, 10] (.call "_law_value" [(.prim .sub [(.var 0), (.int 1)]), (.var 1), (.var 2), (.var 3)]),
      .asg 8 (.prim .sub [(.call "_law_value" [(.prim .sub [(.var 0), (.int 2)]), (.var 1), (.var 2), (.var 3)]), (.int 0)]),
      .asg 4 (.call "_law_counted" [(.prim .sub [(.var 10), (.int 1)]), (.var 2)]),
      .ret (.prim .tup [(.prim (.bin .mod) [(.prim (.bin .fdiv) [(.var 7), (.call "_law_power" [(.var 4), (.var 8)])]), (.var 4)]), (.prim .sub [(.var 10), (.int 1)])])]
     [],
   .ifs (.prim (.cmp .eq) [(.prim .sub [(.var 0), (.int 0)]), (.str [102, 111, 114])])
     [.asg 9 (.lc 6 (.range [(.call "_law_counted" [(.prim .sub [(.var 0), (.int 1)]), (.var 2)])]) (.call "_law_value" [(.prim .sub [(.var 0), (.int 2)]), (.prim (.bin .add) [(.var 1), (.prim .lst [(.prim .tup [(.var 6), (.prim .sub [(.var 0), (.int 1)])])])]), (.var 2), (.var 3)]) []),
      .asg 10 (.prim .tup [(.prim .sub [(.var 0), (.int 1)]), (.prim .sub [(.prim .sub [(.var 9), (.int 0)]), (.int 1)])])]
     [.asg 11 (.call "_law_counted" [(.prim .sub [(.var 0), (.int 1)]), (.var 2)]),
      .asg 9 (.lc 6 (.range [(.var 11)]) (.prim .tup [(.call "_law_power" [(.int 2), (.var 6)]), (.str [116])]) []),
      .asg 10 (.prim .tup [(.prim .sub [(.var 0), (.int 1)]), (.prim .tup [(.prim .sub [(.var 0), (.int 1)]), (.str [116])])])],
   .asg 4 (.call "_law_counted" [(.prim .sub [(.var 10), (.int 1)]), (.var 2)]),
   .asg 5 (.int 0),
   .for_ 6 (.range [(.prim (.bin .sub) [(.prim .len [(.var 9)]), (.int 1)]), (.prim .neg [(.int 1)]), (.prim .neg [(.int 1)])])
     [.asg 5 (.prim (.bin .add) [(.prim (.bin .mul) [(.var 5), (.var 4)]), (.prim .sub [(.prim .sub [(.var 9), (.var 6)]), (.int 0)])])],
   .ret (.prim .tup [(.var 5), (.var 10)])]⟩
def d__law_formula : Def := ⟨["script", "k", "deep", "more", "one", "other", "way"], 3,
  [.asg 3 (.call "_law_drawn" [(.call "_law_cell" [(.var 0), (.var 1)]), (.prim (.bin .add) [(.var 1), (.int 600)])]),
   .ifs (.or_ [(.prim (.cmp .eq) [(.var 2), (.int 0)]), (.prim (.cmp .eq) [(.prim (.bin .mod) [(.var 3), (.int 5)]), (.int 0)])])
     [.ret (.prim .tup [(.str [102, 114, 101, 101]), (.prim .sub [(.prim .lst [(.str [112]), (.str [113]), (.str [114])]), (.prim (.bin .mod) [(.prim (.bin .fdiv) [(.var 3), (.int 5)]), (.int 3)])]), (.str [116])])]
     [],
   .asg 4 (.call "_law_formula" [(.var 0), (.prim (.bin .add) [(.prim (.bin .mul) [(.int 3), (.var 1)]), (.int 1)]), (.prim (.bin .sub) [(.var 2), (.int 1)])]),
   .asg 5 (.call "_law_formula" [(.var 0), (.prim (.bin .add) [(.prim (.bin .mul) [(.int 3), (.var 1)]), (.int 2)]), (.prim (.bin .sub) [(.var 2), (.int 1)])]),
   .asg 6 (.prim (.bin .mod) [(.prim (.bin .fdiv) [(.var 3), (.int 5)]), (.int 6)]),
   .ifs (.prim (.cmp .eq) [(.var 6), (.int 0)])
     [.ret (.call "both" [(.var 4), (.var 5)])]
     [],
   .ifs (.and_ [(.prim (.cmp .eq) [(.var 6), (.int 1)]), (.or_ [(.prim (.cmp .eq) [(.prim .sub [(.var 4), (.int 0)]), (.str [102, 114, 101, 101])]), (.prim (.cmp .eq) [(.prim .sub [(.var 5), (.int 0)]), (.str [102, 114, 101, 101])])])])
     [.ret (.call "implied" [(.var 4), (.var 5)])]
     [],
   .ifs (.prim (.cmp .eq) [(.var 6), (.int 2)])
     [.ret (.call "negated" [(.var 4)])]
     [],
   .ifs (.and_ [(.prim (.cmp .eq) [(.var 6), (.int 3)]), (.prim (.cmp .eq) [(.prim .sub [(.var 4), (.int 0)]), (.str [102, 114, 101, 101])]), (.prim (.cmp .eq) [(.prim .sub [(.var 5), (.int 0)]), (.str [102, 114, 101, 101])])])
     [.ret (.call "either" [(.var 4), (.var 5)])]
     [],
   .ifs (.prim (.cmp .eq) [(.var 6), (.int 4)])
     [.ret (.call "all_of" [(.prim .tup [(.str [102, 114, 101, 101]), (.str [112]), (.str [116])]), (.var 4)])]
     [],
   .ret (.prim .tup [(.str [111, 102]), (.prim .tup [(.str [111, 102]), (.prim .tup [(.str [115, 97, 109, 101]), (.str [116])]), (.var 4)]), (.var 5)])]⟩
def d__law_about_things : Def := ⟨["part"], 1,
  [.ifs (.prim (.cmp .eq) [(.prim .sub [(.var 0), (.int 0)]), (.str [111, 102])])
     [.ret (.or_ [(.call "_law_about_things" [(.prim .sub [(.var 0), (.int 1)])]), (.call "_law_about_things" [(.prim .sub [(.var 0), (.int 2)])])])]
     [],
   .ifs (.prim (.cmp .eq) [(.prim .sub [(.var 0), (.int 0)]), (.str [102, 111, 114])])
     [.ret (.or_ [(.call "_law_in_sort" [(.prim .sub [(.var 0), (.int 1)])]), (.call "_law_about_things" [(.prim .sub [(.var 0), (.int 2)])])])]
     [],
   .ret (.and_ [(.prim (.cmp .ne) [(.prim .sub [(.var 0), (.int 0)]), (.str [98, 111, 117, 110, 100])]), (.call "_law_in_sort" [(.prim .sub [(.var 0), (.prim .neg [(.int 1)])])])])]⟩
def d__law_in_sort : Def := ⟨["sort"], 1,
  [.ifs (.prim (.isi .tuple) [(.var 0)])
     [.ret (.or_ [(.call "_law_in_sort" [(.prim .sub [(.var 0), (.int 0)])]), (.call "_law_in_sort" [(.prim .sub [(.var 0), (.int 1)])])])]
     [],
   .ret (.prim (.cmp .eq) [(.var 0), (.str [105])])]⟩
def d_is_closed : Def := ⟨["part", "level"], 2,
  [.ifs (.prim (.cmp .eq) [(.prim .sub [(.var 0), (.int 0)]), (.str [111, 102])])
     [.ret (.and_ [(.call "is_closed" [(.prim .sub [(.var 0), (.int 1)]), (.var 1)]), (.call "is_closed" [(.prim .sub [(.var 0), (.int 2)]), (.var 1)])])]
     [],
   .ifs (.prim (.cmp .eq) [(.prim .sub [(.var 0), (.int 0)]), (.str [102, 111, 114])])
     [.ret (.call "is_closed" [(.prim .sub [(.var 0), (.int 2)]), (.prim (.bin .add) [(.var 1), (.int 1)])])]
     [],
   .ret (.or_ [(.prim (.cmp .ne) [(.prim .sub [(.var 0), (.int 0)]), (.str [98, 111, 117, 110, 100])]), (.prim (.cmp .lt) [(.prim .sub [(.var 0), (.int 1)]), (.var 1)])])]⟩
def d_matched : Def := ⟨["pattern", "term", "variables", "found"], 3,
  [.asg 3 (.prim .dict0 []),
   .ifs (.call "matches" [(.var 0), (.var 1), (.var 2), (.var 3)])
     [.ret (.var 3)]
     [],
   .ret .non]⟩
def d__law_closed : Def := ⟨["part", "level"], 2,
  [.ifs (.prim (.cmp .eq) [(.prim .sub [(.var 0), (.int 0)]), (.str [111, 102])])
     [.ret (.and_ [(.call "_law_closed" [(.prim .sub [(.var 0), (.int 1)]), (.var 1)]), (.call "_law_closed" [(.prim .sub [(.var 0), (.int 2)]), (.var 1)])])]
     [],
   .ifs (.prim (.cmp .eq) [(.prim .sub [(.var 0), (.int 0)]), (.str [102, 111, 114])])
     [.ret (.call "_law_closed" [(.prim .sub [(.var 0), (.int 2)]), (.prim (.bin .add) [(.var 1), (.int 1)])])]
     [],
   .ret (.or_ [(.prim (.cmp .ne) [(.prim .sub [(.var 0), (.int 0)]), (.str [98, 111, 117, 110, 100])]), (.prim (.cmp .lt) [(.prim .sub [(.var 0), (.int 1)]), (.var 1)])])]⟩
def d__law_pairs : Def := ⟨["pattern", "part", "variables", "first", "second"], 3,
  [.ifs (.prim (.cmp .in_) [(.var 0), (.var 2)])
     [.ifs (.or_ [(.not_ (.call "_law_closed" [(.var 1), (.int 0)])), (.prim (.cmp .ne) [(.call "_law_sort" [(.var 1), (.prim .lst [])]), (.prim .sub [(.var 0), (.int 2)])])])
        [.ret .non]
        [],
      .ret (.prim .lst [(.prim .tup [(.var 0), (.var 1)])])]
     [],
   .ifs (.prim (.cmp .ne) [(.prim .sub [(.var 0), (.int 0)]), (.prim .sub [(.var 1), (.int 0)])])
     [.ret .non]
     [],
   .ifs (.prim (.cmp .eq) [(.prim .sub [(.var 0), (.int 0)]), (.str [111, 102])])
     [.asg 3 (.call "_law_pairs" [(.prim .sub [(.var 0), (.int 1)]), (.prim .sub [(.var 1), (.int 1)]), (.var 2)]),
      .asg 4 (.call "_law_pairs" [(.prim .sub [(.var 0), (.int 2)]), (.prim .sub [(.var 1), (.int 2)]), (.var 2)]),
      .ifs (.or_ [(.prim (.cmp .isn) [(.var 3), .non]), (.prim (.cmp .isn) [(.var 4), .non])])
        [.ret .non]
        [],
      .ret (.prim (.bin .add) [(.var 3), (.var 4)])]
     [],
   .ifs (.and_ [(.prim (.cmp .eq) [(.prim .sub [(.var 0), (.int 0)]), (.str [102, 111, 114])]), (.prim (.cmp .eq) [(.prim .sub [(.var 0), (.int 1)]), (.prim .sub [(.var 1), (.int 1)])])])
     [.ret (.call "_law_pairs" [(.prim .sub [(.var 0), (.int 2)]), (.prim .sub [(.var 1), (.int 2)]), (.var 2)])]
     [],
   .ifs (.prim (.cmp .eq) [(.var 0), (.var 1)])
     [.ret (.prim .lst [])]
     [],
   .ret .non]⟩
def d_unfolding : Def := ⟨["term"], 1,
  [.ret (.call "follows" [(.prim .tup []), (.call "equality" [(.var 0), (.call "unfolded" [(.var 0)])])])]⟩
def d_exchanged : Def := ⟨["part", "left", "right", "variables", "first", "second", "found", "inner"], 4,
  [.ifs (.call "is_closed" [(.var 0), (.int 0)])
     [.asg 6 (.call "matched" [(.var 1), (.var 0), (.var 3)]),
      .ifs (.prim (.cmp .ntn) [(.var 6), .non])
        [.ret (.call "put_raw" [(.var 2), (.var 6)])]
        []]
     [],
   .ifs (.prim (.cmp .eq) [(.prim .sub [(.var 0), (.int 0)]), (.str [102, 111, 114])])
     [.asg 7 (.call "exchanged" [(.prim .sub [(.var 0), (.int 2)]), (.var 1), (.var 2), (.var 3)]),
      .ifs (.prim (.cmp .isn) [(.var 7), .non])
        [.ret .non]
        [],
      .ret (.prim .tup [(.str [102, 111, 114]), (.prim .sub [(.var 0), (.int 1)]), (.var 7)])]
     [],
   .ifs (.prim (.cmp .ne) [(.prim .sub [(.var 0), (.int 0)]), (.str [111, 102])])
     [.ret .non]
     [],
   .asg 4 (.call "exchanged" [(.prim .sub [(.var 0), (.int 1)]), (.var 1), (.var 2), (.var 3)]),
   .ifs (.prim (.cmp .ntn) [(.var 4), .non])
     [.ret (.prim .tup [(.str [111, 102]), (.var 4), (.prim .sub [(.var 0), (.int 2)])])]
     [],
   .asg 5 (.call "exchanged" [(.prim .sub [(.var 0), (.int 2)]), (.var 1), (.var 2), (.var 3)]),
   .ifs (.prim (.cmp .isn) [(.var 5), .non])
     [.ret .non]
     [],
   .ret (.prim .tup [(.str [111, 102]), (.prim .sub [(.var 0), (.int 1)]), (.var 5)])]⟩
def d_rewritten : Def := ⟨["one", "variables", "term", "variable", "after", "left", "right"], 3,
  [.asgT [5, 6] (.call "sides" [(.fld (.var 0) "Sentence" "claim")]),
   .for_ 3 (.seq (.var 1))
     [.expr (.call "need_apart" [(.var 3), (.fld (.var 0) "Sentence" "given")])],
   .asg 4 (.call "exchanged" [(.var 2), (.var 5), (.var 6), (.var 1)]),
   .ifs (.prim (.cmp .isn) [(.var 4), .non])
     [.raise "NoRule" [110, 111, 116, 104, 105, 110, 103, 32, 105, 115, 32, 108, 105, 107, 101, 32, 105, 116]]
     [],
   .ret (.call "follows" [(.fld (.var 0) "Sentence" "given"), (.call "equality" [(.var 2), (.call "bounded" [(.var 4)])])])]⟩
def d__law_after : Def := ⟨["part", "first", "second", "variables", "made", "left", "one"], 4,
  [.asg 4 (.prim .dict0 []),
   .ifs (.and_ [(.call "_law_closed" [(.var 0), (.int 0)]), (.call "_law_like" [(.var 1), (.var 0), (.var 3), (.var 4)])])
     [.ret (.prim .lst [(.call "_law_put" [(.var 2), (.var 4)])])]
     [],
   .ifs (.prim (.cmp .eq) [(.prim .sub [(.var 0), (.int 0)]), (.str [102, 111, 114])])
     [.ret (.lc 6 (.seq (.call "_law_after" [(.prim .sub [(.var 0), (.int 2)]), (.var 1), (.var 2), (.var 3)])) (.prim .tup [(.str [102, 111, 114]), (.prim .sub [(.var 0), (.int 1)]), (.var 6)]) [])]
     [],
   .ifs (.prim (.cmp .ne) [(.prim .sub [(.var 0), (.int 0)]), (.str [111, 102])])
     [.ret (.prim .lst [])]
     [],
   .asg 5 (.call "_law_after" [(.prim .sub [(.var 0), (.int 1)]), (.var 1), (.var 2), (.var 3)]),
   .ifs (.prim (.cmp .ne) [(.var 5), (.prim .lst [])])
     [.ret (.prim .lst [(.prim .tup [(.str [111, 102]), (.prim .sub [(.var 5), (.int 0)]), (.prim .sub [(.var 0), (.int 2)])])])]
     [],
   .ret (.lc 6 (.seq (.call "_law_after" [(.prim .sub [(.var 0), (.int 2)]), (.var 1), (.var 2), (.var 3)])) (.prim .tup [(.str [111, 102]), (.prim .sub [(.var 0), (.int 1)]), (.var 6)]) [])]⟩
def d__law_around : Def := ⟨["script", "k", "sort", "more", "first", "made"], 5,
  [.ifs (.prim (.cmp .eq) [(.prim (.bin .mod) [(.var 3), (.int 4)]), (.int 0)])
     [.ret (.call "_law_part" [(.var 0), (.var 1), (.str [116]), (.prim .lst []), (.int 2)])]
     [],
   .asg 5 (.prim .tup [(.str [111, 102]), (.prim .tup [(.str [102, 114, 101, 101]), (.str [103]), (.prim .tup [(.var 2), (.str [116])])]), (.var 4)]),
   .ifs (.prim (.cmp .eq) [(.prim (.bin .mod) [(.var 3), (.int 4)]), (.int 1)])
     [.ret (.prim .tup [(.str [102, 111, 114]), (.str [105]), (.prim .tup [(.str [111, 102]), (.prim .tup [(.str [111, 102]), (.prim .tup [(.str [115, 97, 109, 101]), (.str [116])]), (.var 5)]), (.prim .tup [(.str [111, 102]), (.prim .tup [(.str [102, 114, 101, 101]), (.str [104]), (.prim .tup [(.str [105]), (.str [116])])]), (.prim .tup [(.str [98, 111, 117, 110, 100]), (.int 0)])])])])]
     [],
   .ifs (.prim (.cmp .eq) [(.prim (.bin .mod) [(.var 3), (.int 4)]), (.int 2)])
     [.ret (.prim .tup [(.str [111, 102]), (.prim .tup [(.str [111, 102]), (.prim .tup [(.str [115, 97, 109, 101]), (.str [116])]), (.call "_law_part" [(.var 0), (.var 1), (.str [116]), (.prim .lst []), (.int 1)])]), (.var 5)])]
     [],
   .ret (.call "_law_equal" [(.var 5), (.var 5)])]⟩
def d_sentence_text : Def := ⟨["sentence", "texts", "term"], 1,
  [.asg 1 (.lc 2 (.seq (.fld (.var 0) "Sentence" "given")) (.call "written" [(.var 2)]) []),
   .ret (.prim (.bin .add) [(.prim (.bin .add) [(.prim (.bin .add) [(.meth .join (.str [44, 32]) [(.var 1)]), (.prim (.bin .mul) [(.str [32]), (.prim .int [(.prim (.cmp .ne) [(.var 1), (.prim .lst [])])])])]), (.str [124, 45, 32])]), (.call "written" [(.fld (.var 0) "Sentence" "claim")])])]⟩
def d__law_row_by : Def := ⟨["script", "k", "row", "more", "words", "word", "parts", "texts", "marks", "j", "other", "at", "sort"], 3,
  [.asg 3 (.call "_law_drawn" [(.call "_law_cell" [(.var 0), (.var 1)]), (.prim (.bin .add) [(.var 1), (.int 800)])]),
   .asg 4 (.prim .lst [(.str [115, 117, 112, 112, 111, 115, 101]), (.str [115, 101, 108, 102]), (.str [115, 117, 112, 112, 111, 115, 101]), (.str [117, 110, 102, 111, 108, 100]), (.str [115, 112, 114, 101, 97, 100]), (.str [114, 101, 100, 117, 99, 101]), (.str [108, 111, 111, 107]), (.str [116, 117, 114, 110]), (.str [105, 115]), (.str [115, 111]), (.str [102, 105, 114, 115, 116]), (.str [115, 101, 99, 111, 110, 100])]),
   .asg 4 (.prim (.bin .add) [(.var 4), (.prim .lst [(.str [99, 104, 97, 105, 110]), (.str [97, 112, 112, 108, 121]), (.str [99, 97, 114, 114, 121]), (.str [101, 113, 117, 97, 108]), (.str [98, 111, 116, 104]), (.str [117, 115, 101]), (.str [98, 105, 110, 100]), (.str [110, 111, 116, 104, 105, 110, 103]), (.str [105, 109, 112, 108, 121]), (.str [97, 108, 108]), (.str [111, 110, 101])])]),
   .asg 4 (.prim (.bin .add) [(.var 4), (.prim .lst [(.str [108, 101, 102, 116]), (.str [114, 105, 103, 104, 116]), (.str [97, 108, 119, 97, 121, 115]), (.str [112, 117, 116]), (.str [99, 97, 115, 101, 115]), (.str [101, 105, 116, 104, 101, 114]), (.str [115, 111, 109, 101]), (.str [97, 110, 121]), (.str [114, 101, 119, 114, 105, 116, 101]), (.str [115, 117, 112, 112, 111, 115, 101]), (.str [98, 111, 116, 104])])]),
   .asg 5 (.prim .sub [(.var 4), (.prim (.bin .mod) [(.var 3), (.prim .len [(.var 4)])])]),
   .ifs (.prim (.cmp .eq) [(.var 2), (.prim .lst [])])
     [.asg 5 (.prim .sub [(.prim .lst [(.str [115, 117, 112, 112, 111, 115, 101]), (.str [115, 101, 108, 102]), (.str [97, 108, 119, 97, 121, 115])]), (.prim (.bin .mod) [(.var 3), (.int 3)])])]
     [],
   .new 6 (.prim .lst []),
   .new 7 (.prim .lst []),
   .asg 8 (.call "_law_shape" [(.var 5)]),
   .for_ 9 (.range [(.prim .len [(.var 8)])])
     [.asg 10 (.call "_law_drawn" [(.call "_law_cell" [(.var 0), (.var 1)]), (.prim (.bin .add) [(.prim (.bin .add) [(.var 1), (.int 820)]), (.prim (.bin .mul) [(.int 40), (.var 9)])])]),
      .ifs (.prim (.cmp .eq) [(.prim .sub [(.var 8), (.var 9)]), (.str [78])])
        [.asg 11 (.prim (.bin .sub) [(.prim (.bin .sub) [(.prim .len [(.var 2)]), (.int 1)]), (.prim (.bin .mod) [(.var 10), (.prim .min2 [(.int 4), (.prim .len [(.var 2)])])])]),
         .app 6 (.prim .sub [(.var 2), (.var 11)]),
         .app 7 (.prim .str [(.prim (.bin .add) [(.var 11), (.int 1)])])]
        [.ifs (.prim (.cmp .eq) [(.prim .sub [(.var 8), (.var 9)]), (.str [86])])
           [.app 6 (.prim .tup [(.str [102, 114, 101, 101]), (.prim .sub [(.prim .lst [(.str [120]), (.str [121]), (.str [112])]), (.prim (.bin .mod) [(.var 10), (.int 3)])]), (.prim .sub [(.prim .lst [(.str [105]), (.str [116])]), (.prim (.bin .mod) [(.prim (.bin .fdiv) [(.var 10), (.int 3)]), (.int 2)])])]),
            .app 7 (.call "written" [(.prim .sub [(.var 6), (.prim .neg [(.int 1)])])])]
           [.asg 12 (.prim .sub [(.prim .lst [(.prim .sub [(.prim .lst [(.str [116]), (.str [105]), (.prim .tup [(.str [116]), (.str [116])])]), (.prim (.bin .mod) [(.prim (.bin .fdiv) [(.var 10), (.int 4)]), (.int 3)])]), (.str [116])]), (.prim .int [(.prim (.cmp .gt) [(.prim (.bin .mod) [(.var 10), (.int 4)]), (.int 0)])])]),
            .app 6 (.call "_law_part" [(.var 0), (.prim (.bin .add) [(.prim (.bin .mul) [(.int 64), (.var 1)]), (.prim (.bin .mul) [(.int 9), (.var 9)])]), (.var 12), (.prim .lst []), (.prim (.bin .add) [(.int 1), (.prim (.bin .mod) [(.prim (.bin .fdiv) [(.var 10), (.int 12)]), (.int 2)])])]),
            .app 7 (.call "written" [(.prim .sub [(.var 6), (.prim .neg [(.int 1)])])])]]],
   .ret (.prim .tup [(.var 5), (.var 6), (.prim (.bin .add) [(.prim (.bin .add) [(.var 5), (.prim (.bin .mul) [(.str [32]), (.prim .int [(.prim (.cmp .ne) [(.var 7), (.prim .lst [])])])])]), (.meth .join (.str [59, 32]) [(.var 7)])])])]⟩
def d__law_bare : Def := ⟨["some"], 0,
  [.asg 0 (.prim .lst [(.prim .tup [(.str [115, 104, 111, 119, 32, 49]), (.str [78, 111, 83, 117, 99, 104])]), (.prim .tup [(.str [99, 104, 97, 105, 110, 32, 49, 59, 32, 49]), (.str [78, 111, 83, 117, 99, 104])]), (.prim .tup [(.str [99, 104, 97, 105, 110, 32, 49]), (.str [66, 97, 100, 82, 111, 119])])]),
   .asg 0 (.prim (.bin .add) [(.var 0), (.prim .lst [(.prim .tup [(.str [115, 111, 32, 49]), (.str [78, 111, 83, 117, 99, 104])]), (.prim .tup [(.str [115, 101, 108, 102, 32, 112]), (.str [66, 97, 100, 84, 101, 120, 116])]), (.prim .tup [(.str [109, 111, 100, 101, 108, 32, 49, 59, 32, 49]), (.str [78, 111, 83, 117, 99, 104])])])]),
   .asg 0 (.prim (.bin .add) [(.var 0), (.prim .lst [(.prim .tup [(.str [112, 117, 116, 32, 49, 59, 32, 112, 58, 116, 59, 32, 113, 58, 116]), (.str [78, 111, 83, 117, 99, 104])]), (.prim .tup [(.str [112, 117, 116, 32, 49, 59, 32, 112, 59, 32, 113, 58, 116]), (.str [66, 97, 100, 84, 101, 120, 116])]), (.prim .tup [(.str [120]), (.str [66, 97, 100, 82, 111, 119])])])]),
   .asg 0 (.prim (.bin .add) [(.var 0), (.prim .lst [(.prim .tup [(.str [117, 110, 102, 111, 108, 100, 32, 112, 58, 116]), (.str [78, 111, 82, 117, 108, 101])]), (.prim .tup [(.str [108, 111, 111, 107, 32, 112, 58, 116]), (.str [85, 110, 116, 114, 117, 101])]), (.prim .tup [(.str [115, 117, 112, 112, 111, 115, 101, 32, 120, 58, 105]), (.str [78, 111, 82, 117, 108, 101])])])]),
   .ret (.prim (.bin .add) [(.var 0), (.prim .lst [(.prim .tup [(.str [101, 105, 116, 104, 101, 114, 32, 49, 59, 32, 49, 59, 32, 49]), (.str [78, 111, 83, 117, 99, 104])])])])]⟩
def d__law_variable : Def := ⟨["more"], 1,
  [.ret (.prim .sub [(.prim .lst [(.str [112, 58, 116]), (.str [113, 58, 116]), (.str [120, 58, 105]), (.str [121, 58, 105])]), (.prim (.bin .mod) [(.var 0), (.int 4)])])]⟩
def d__law_line : Def := ⟨["more", "many", "one", "other", "way", "two", "term"], 2,
  [.ifs (.or_ [(.prim (.cmp .eq) [(.prim (.bin .mod) [(.var 0), (.int 3)]), (.int 0)]), (.prim (.cmp .eq) [(.var 1), (.int 0)])])
     [.ret (.prim (.bin .add) [(.str [115, 117, 112, 112, 111, 115, 101, 32]), (.call "_law_truth" [(.prim (.bin .fdiv) [(.var 0), (.int 3)])])])]
     [],
   .asg 2 (.prim .str [(.prim (.bin .sub) [(.var 1), (.prim (.bin .mod) [(.prim (.bin .fdiv) [(.var 0), (.int 3)]), (.prim .min2 [(.var 1), (.int 5)])])])]),
   .asg 3 (.prim .str [(.prim (.bin .sub) [(.var 1), (.prim (.bin .mod) [(.prim (.bin .fdiv) [(.var 0), (.int 17)]), (.prim .min2 [(.var 1), (.int 5)])])])]),
   .asg 4 (.prim (.bin .mod) [(.prim (.bin .fdiv) [(.var 0), (.int 90)]), (.int 16)]),
   .asg 5 (.prim .lst [(.str [99, 104, 97, 105, 110]), (.str [99, 97, 114, 114, 121]), (.str [101, 113, 117, 97, 108]), (.str [98, 111, 116, 104]), (.str [117, 115, 101]), (.str [97, 112, 112, 108, 121])]),
   .ifs (.prim (.cmp .lt) [(.var 4), (.int 6)])
     [.ret (.prim (.bin .add) [(.prim (.bin .add) [(.prim (.bin .add) [(.prim (.bin .add) [(.prim .sub [(.var 5), (.var 4)]), (.str [32])]), (.var 2)]), (.str [59, 32])]), (.var 3)])]
     [],
   .ifs (.prim (.cmp .lt) [(.var 4), (.int 11)])
     [.ret (.prim (.bin .add) [(.prim (.bin .add) [(.prim .sub [(.prim .lst [(.str [102, 105, 114, 115, 116]), (.str [115, 101, 99, 111, 110, 100]), (.str [105, 115]), (.str [115, 111]), (.str [116, 117, 114, 110])]), (.prim (.bin .sub) [(.var 4), (.int 6)])]), (.str [32])]), (.var 2)])]
     [],
   .ifs (.prim (.cmp .eq) [(.var 4), (.int 11)])
     [.ret (.prim (.bin .add) [(.prim (.bin .add) [(.prim (.bin .add) [(.str [105, 109, 112, 108, 121, 32]), (.call "_law_truth" [(.prim (.bin .fdiv) [(.var 0), (.int 1500)])])]), (.str [59, 32])]), (.var 2)])]
     [],
   .ifs (.prim (.cmp .eq) [(.var 4), (.int 12)])
     [.ret (.prim (.bin .add) [(.prim (.bin .add) [(.prim (.bin .add) [(.prim .sub [(.prim .lst [(.str [97, 108, 108, 32]), (.str [98, 105, 110, 100, 32])]), (.prim (.bin .mod) [(.prim (.bin .fdiv) [(.var 0), (.int 1500)]), (.int 2)])]), (.call "_law_variable" [(.prim (.bin .fdiv) [(.var 0), (.int 3000)])])]), (.str [59, 32])]), (.var 2)])]
     [],
   .ifs (.prim (.cmp .eq) [(.var 4), (.int 13)])
     [.ret (.prim (.bin .add) [(.prim (.bin .add) [(.prim (.bin .add) [(.str [111, 110, 101, 32]), (.var 2)]), (.str [59, 32])]), (.prim .sub [(.prim .lst [(.str [112, 58, 116]), (.str [120, 58, 105]), (.str [121, 58, 105])]), (.prim (.bin .mod) [(.prim (.bin .fdiv) [(.var 0), (.int 1500)]), (.int 3)])])])]
     [],
   .ifs (.prim (.cmp .eq) [(.var 4), (.int 14)])
     [.asg 6 (.prim .sub [(.prim .lst [(.prim .sub [(.prim .lst [(.str [113, 58, 116]), (.str [40, 40, 61, 116, 32, 113, 58, 116, 41, 32, 113, 58, 116, 41])]), (.prim (.bin .mod) [(.prim (.bin .fdiv) [(.var 0), (.int 3000)]), (.int 2)])]), (.str [121, 58, 105])]), (.prim (.bin .mod) [(.prim (.bin .fdiv) [(.var 0), (.int 1500)]), (.int 2)])]),
      .ret (.prim (.bin .add) [(.prim (.bin .add) [(.prim (.bin .add) [(.prim (.bin .add) [(.prim (.bin .add) [(.str [112, 117, 116, 32]), (.var 2)]), (.str [59, 32])]), (.prim .sub [(.prim .lst [(.str [112, 58, 116]), (.str [120, 58, 105])]), (.prim (.bin .mod) [(.prim (.bin .fdiv) [(.var 0), (.int 1500)]), (.int 2)])])]), (.str [59, 32])]), (.var 6)])]
     [],
   .ret (.prim (.bin .add) [(.prim .sub [(.prim .lst [(.str [115, 101, 108, 102, 32]), (.str [114, 101, 100, 117, 99, 101, 32])]), (.prim (.bin .mod) [(.prim (.bin .fdiv) [(.var 0), (.int 1500)]), (.int 2)])]), (.call "_law_truth" [(.prim (.bin .fdiv) [(.var 0), (.int 3000)])])])]⟩
def d_is_some : Def := ⟨["term", "variable", "one", "found"], 3,
  [.asg 3 (.bl false),
   .try_
     [.asg 3 (.prim (.cmp .eq) [(.call "some_of" [(.var 1), (.var 2)]), (.var 0)])]
     "TooGreat" none
     [.asg 3 (.bl false)],
   .ret (.var 3)]⟩
def d_together : Def := ⟨["one", "other", "sort", "first", "second", "left", "right"], 2,
  [.asgT [3, 4] (.call "sides" [(.fld (.var 0) "Sentence" "claim")]),
   .asgT [5, 6] (.call "sides" [(.fld (.var 1) "Sentence" "claim")]),
   .asg 2 (.call "sort_of" [(.var 3)]),
   .ifs (.or_ [(.not_ (.prim (.isi .tuple) [(.var 2)])), (.prim (.cmp .ne) [(.prim .sub [(.var 2), (.int 0)]), (.call "sort_of" [(.var 5)])])])
     [.raise "NoRule" [110, 111, 32, 102, 117, 110, 99, 116, 105, 111, 110, 32, 111, 102, 32, 115, 117, 99, 104]]
     [],
   .ret (.call "follows" [(.prim (.bin .add) [(.fld (.var 0) "Sentence" "given"), (.fld (.var 1) "Sentence" "given")]), (.call "equality" [(.call "bounded" [(.prim .tup [(.str [111, 102]), (.var 3), (.var 5)])]), (.call "bounded" [(.prim .tup [(.str [111, 102]), (.var 4), (.var 6)])])])])]⟩
def d_by_cases : Def := ⟨["one", "other", "term", "given"], 3,
  [.expr (.call "need_truth" [(.var 2)]),
   .ifs (.prim (.cmp .ne) [(.fld (.var 0) "Sentence" "claim"), (.fld (.var 1) "Sentence" "claim")])
     [.raise "NoRule" [116, 119, 111, 32, 99, 108, 97, 105, 109, 115]]
     [],
   .asg 3 (.prim (.bin .add) [(.call "but_one" [(.fld (.var 0) "Sentence" "given"), (.call "equality" [(.var 2), (.call "always" [])])]), (.call "but_one" [(.fld (.var 1) "Sentence" "given"), (.call "equality" [(.var 2), (.call "never" [])])])]),
   .ret (.call "follows" [(.var 3), (.fld (.var 0) "Sentence" "claim")])]⟩
def d_all_used : Def := ⟨["one", "term", "sort", "inner"], 2,
  [.asgT [2, 3] (.call "all_parts" [(.fld (.var 0) "Sentence" "claim")]),
   .ifs (.prim (.cmp .ne) [(.call "sort_of" [(.var 1)]), (.var 2)])
     [.raise "NoRule" [97, 110, 111, 116, 104, 101, 114, 32, 115, 111, 114, 116]]
     [],
   .ret (.call "follows" [(.fld (.var 0) "Sentence" "given"), (.call "bounded" [(.call "opened" [(.var 3), (.var 1), (.int 0)])])])]⟩
def d_some_used : Def := ⟨["one", "variable", "term", "other", "rest"], 4,
  [.expr (.call "need_truth" [(.var 2)]),
   .ifs (.not_ (.call "is_some" [(.fld (.var 0) "Sentence" "claim"), (.var 1), (.var 2)]))
     [.raise "NoRule" [97, 110, 111, 116, 104, 101, 114, 32, 116, 114, 117, 116, 104]]
     [],
   .asg 4 (.call "but_one" [(.fld (.var 3) "Sentence" "given"), (.var 2)]),
   .expr (.call "need_apart" [(.var 1), (.prim (.bin .add) [(.var 4), (.prim .lst [(.fld (.var 3) "Sentence" "claim")])])]),
   .ret (.call "follows" [(.prim (.bin .add) [(.prim .list [(.fld (.var 0) "Sentence" "given")]), (.var 4)]), (.fld (.var 3) "Sentence" "claim")])]⟩
def d__law_is : Def := ⟨["sentence", "claim"], 2,
  [.ret (.and_ [(.isO (.var 0) "Sentence"), (.prim (.cmp .eq) [(.fld (.var 0) "Sentence" "given"), (.prim .tup [])]), (.prim (.cmp .eq) [(.fld (.var 0) "Sentence" "claim"), (.var 1)])])]⟩
def d__law_turned_about : Def := ⟨["p", "q", "one", "made", "first", "second"], 2,
  [.asg 2 (.call "supposed" [(.call "both" [(.var 0), (.var 1)])]),
   .asg 3 (.call "implied_told" [(.call "both" [(.var 0), (.var 1)]), (.call "both_told" [(.call "second_told" [(.var 2)]), (.call "first_told" [(.var 2)])])]),
   .ifs (.not_ (.call "_law_is" [(.var 3), (.call "implied" [(.call "both" [(.var 0), (.var 1)]), (.call "both" [(.var 1), (.var 0)])])]))
     [.ret (.bl false)]
     [],
   .asg 2 (.call "supposed" [(.call "either" [(.var 0), (.var 1)])]),
   .asg 4 (.call "either_second" [(.var 1), (.call "supposed" [(.var 0)])]),
   .asg 5 (.call "either_first" [(.call "supposed" [(.var 1)]), (.var 0)]),
   .asg 3 (.call "either_used" [(.var 2), (.var 4), (.var 5)]),
   .ret (.and_ [(.isO (.var 3) "Sentence"), (.prim (.cmp .eq) [(.fld (.var 3) "Sentence" "given"), (.prim .tup [(.call "either" [(.var 0), (.var 1)])])]), (.prim (.cmp .eq) [(.fld (.var 3) "Sentence" "claim"), (.call "either" [(.var 1), (.var 0)])])])]⟩
def d__law_contrary : Def := ⟨["p", "q", "one", "two", "made"], 2,
  [.asg 2 (.call "implied_used" [(.call "supposed" [(.call "implied" [(.var 0), (.var 1)])]), (.call "supposed" [(.var 0)])]),
   .asg 3 (.call "implied_used" [(.call "supposed" [(.call "negated" [(.var 1)])]), (.var 2)]),
   .asg 4 (.call "implied_told" [(.call "negated" [(.var 1)]), (.call "implied_told" [(.var 0), (.var 3)])]),
   .asg 4 (.call "implied_told" [(.call "implied" [(.var 0), (.var 1)]), (.var 4)]),
   .ifs (.not_ (.call "_law_is" [(.var 4), (.call "implied" [(.call "implied" [(.var 0), (.var 1)]), (.call "implied" [(.call "negated" [(.var 1)]), (.call "negated" [(.var 0)])])])]))
     [.ret (.bl false)]
     [],
   .asg 2 (.call "implied_told" [(.var 0), (.call "implied_told" [(.var 1), (.call "supposed" [(.var 0)])])]),
   .ret (.call "_law_is" [(.var 2), (.call "implied" [(.var 0), (.call "implied" [(.var 1), (.var 0)])])])]⟩
def d__law_alls : Def := ⟨["variable", "p", "q", "one", "left", "right", "made"], 3,
  [.asg 3 (.call "all_used" [(.call "supposed" [(.call "all_of" [(.var 0), (.call "both" [(.var 1), (.var 2)])])]), (.var 0)]),
   .asg 4 (.call "all_told" [(.var 0), (.call "first_told" [(.var 3)])]),
   .asg 5 (.call "all_told" [(.var 0), (.call "second_told" [(.var 3)])]),
   .asg 6 (.call "implied_told" [(.call "all_of" [(.var 0), (.call "both" [(.var 1), (.var 2)])]), (.call "both_told" [(.var 4), (.var 5)])]),
   .ret (.call "_law_is" [(.var 6), (.call "implied" [(.call "all_of" [(.var 0), (.call "both" [(.var 1), (.var 2)])]), (.call "both" [(.call "all_of" [(.var 0), (.var 1)]), (.call "all_of" [(.var 0), (.var 2)])])])])]⟩
def d__law_exchanged : Def := ⟨["variable", "other", "p", "inner", "one", "made"], 3,
  [.asg 3 (.call "all_of" [(.var 1), (.var 2)]),
   .asg 4 (.call "all_used" [(.call "supposed" [(.var 3)]), (.var 1)]),
   .asg 5 (.call "all_told" [(.var 1), (.call "some_told" [(.var 0), (.var 2), (.var 0), (.var 4)])]),
   .asg 5 (.call "some_used" [(.call "supposed" [(.call "some_of" [(.var 0), (.var 3)])]), (.var 0), (.var 3), (.var 5)]),
   .ret (.and_ [(.prim (.cmp .eq) [(.fld (.var 5) "Sentence" "given"), (.prim .tup [(.call "some_of" [(.var 0), (.var 3)])])]), (.prim (.cmp .eq) [(.fld (.var 5) "Sentence" "claim"), (.call "all_of" [(.var 1), (.call "some_of" [(.var 0), (.var 2)])])])])]⟩
def d__law_cases : Def := ⟨["p", "whole", "none", "one", "two"], 1,
  [.asg 1 (.prim .tup [(.str [111, 102]), (.prim .tup [(.str [111, 102]), (.prim .tup [(.str [115, 97, 109, 101]), (.str [116])]), (.var 0)]), (.call "always" [])]),
   .asg 2 (.prim .tup [(.str [111, 102]), (.prim .tup [(.str [111, 102]), (.prim .tup [(.str [115, 97, 109, 101]), (.str [116])]), (.var 0)]), (.call "never" [])]),
   .asg 3 (.call "either_first" [(.call "it_holds" [(.call "supposed" [(.var 1)])]), (.call "negated" [(.var 0)])]),
   .asg 4 (.call "either_second" [(.var 0), (.call "implied_told" [(.var 0), (.call "carried" [(.call "supposed" [(.var 2)]), (.call "supposed" [(.var 0)])])])]),
   .ret (.call "_law_is" [(.call "by_cases" [(.var 3), (.var 4), (.var 0)]), (.call "either" [(.var 0), (.call "negated" [(.var 0)])])])]⟩
def d__law_equals : Def := ⟨["p", "q", "one", "two", "made", "many", "claim", "function", "due"], 2,
  [.asg 2 (.call "implied_used" [(.call "supposed" [(.call "implied" [(.var 0), (.var 1)])]), (.call "supposed" [(.var 0)])]),
   .asg 3 (.call "implied_used" [(.call "supposed" [(.call "implied" [(.var 1), (.var 0)])]), (.call "supposed" [(.var 1)])]),
   .asg 4 (.call "each_other" [(.var 3), (.var 2)]),
   .asg 5 (.prim (.bin .sub) [(.int 2), (.prim .int [(.prim (.cmp .eq) [(.call "implied" [(.var 0), (.var 1)]), (.call "implied" [(.var 1), (.var 0)])])])]),
   .ifs (.or_ [(.prim (.cmp .ne) [(.fld (.var 4) "Sentence" "claim"), (.prim .tup [(.str [111, 102]), (.prim .tup [(.str [111, 102]), (.prim .tup [(.str [115, 97, 109, 101]), (.str [116])]), (.var 0)]), (.var 1)])]), (.prim (.cmp .ne) [(.prim .len [(.fld (.var 4) "Sentence" "given")]), (.var 5)])])
     [.ret (.bl false)]
     [],
   .asg 6 (.prim .tup [(.str [111, 102]), (.prim .tup [(.str [111, 102]), (.prim .tup [(.str [115, 97, 109, 101]), (.str [105])]), (.prim .tup [(.str [102, 114, 101, 101]), (.str [120]), (.str [105])])]), (.prim .tup [(.str [102, 114, 101, 101]), (.str [122]), (.str [105])])]),
   .asg 7 (.prim .tup [(.str [102, 114, 101, 101]), (.str [103]), (.prim .tup [(.str [105]), (.str [116])])]),
   .asg 4 (.call "implied_told" [(.var 6), (.call "together" [(.call "same_self" [(.var 7)]), (.call "supposed" [(.var 6)])])]),
   .asg 8 (.prim .tup [(.str [111, 102]), (.prim .tup [(.str [111, 102]), (.prim .tup [(.str [115, 97, 109, 101]), (.str [116])]), (.prim .tup [(.str [111, 102]), (.var 7), (.prim .tup [(.str [102, 114, 101, 101]), (.str [120]), (.str [105])])])]), (.prim .tup [(.str [111, 102]), (.var 7), (.prim .tup [(.str [102, 114, 101, 101]), (.str [122]), (.str [105])])])]),
   .ret (.call "_law_is" [(.var 4), (.call "implied" [(.var 6), (.var 8)])])]⟩
end Pg
end
section
set_option maxHeartbeats 1000000
namespace Pg
open Ev

def d_put_in : Def := ⟨["one", "variable", "term", "given", "each"], 3,
  [.ifs (.prim (.cmp .ne) [(.call "sort_of" [(.var 2)]), (.prim .sub [(.var 1), (.int 2)])])
     [.raise "NoRule" [97, 110, 111, 116, 104, 101, 114, 32, 115, 111, 114, 116]]
     [],
   .asg 3 (.lc 4 (.seq (.fld (.var 0) "Sentence" "given")) (.call "put" [(.var 4), (.var 1), (.var 2)]) []),
   .ret (.call "follows" [(.var 3), (.call "put" [(.fld (.var 0) "Sentence" "claim"), (.var 1), (.var 2)])])]⟩
def d__law_second : Def := ⟨["script", "k", "more", "beside", "one", "other", "end", "claim", "first", "second", "given", "cases", "turned_about", "again", "term"], 4,
  [.asg 4 (.call "_law_part" [(.var 0), (.var 1), (.str [116]), (.prim .lst []), (.int 2)]),
   .asg 5 (.call "_law_part" [(.var 0), (.prim (.bin .add) [(.var 1), (.int 9)]), (.str [116]), (.prim .lst []), (.int 2)]),
   .asg 6 (.prim .tup [(.str [102, 114, 101, 101]), (.str [101, 110, 100, 49]), (.str [116])]),
   .asg 7 (.call "_law_equal" [(.var 4), (.var 5)]),
   .ifs (.not_ (.call "_law_right" [(.call "carried" [(.call "_law_claimed" [(.var 7), (.var 3)]), (.call "supposed" [(.var 4)])]), (.prim (.bin .add) [(.prim .lst [(.var 7), (.var 4)]), (.var 3)]), (.var 5)]))
     [.ret (.bl false)]
     [],
   .ifs (.and_ [(.prim (.cmp .ne) [(.var 4), (.var 5)]), (.not_ (.lam "_law_none" (.call "carried" [(.call "_law_claimed" [(.var 7), (.var 3)]), (.call "supposed" [(.var 5)])])))])
     [.ret (.bl false)]
     [],
   .ifs (.and_ [(.prim (.cmp .eq) [(.prim .sub [(.var 4), (.int 0)]), (.str [102, 114, 101, 101])]), (.not_ (.lam "_law_none" (.call "carried" [(.call "supposed" [(.var 4)]), (.call "supposed" [(.var 4)])])))])
     [.ret (.bl false)]
     [],
   .asg 8 (.call "_law_claimed" [(.var 4), (.prim (.bin .add) [(.prim .lst [(.var 5)]), (.var 3)])]),
   .asg 9 (.call "_law_claimed" [(.var 5), (.prim .lst [(.var 6)])]),
   .asg 10 (.prim (.bin .add) [(.lc 14 (.seq (.prim (.bin .add) [(.prim .lst [(.var 4)]), (.var 3)])) (.var 14) [(.prim (.cmp .ne) [(.var 14), (.var 5)])]), (.lc 14 (.seq (.prim .lst [(.var 5), (.var 6)])) (.var 14) [(.prim (.cmp .ne) [(.var 14), (.var 4)])])]),
   .ifs (.prim (.cmp .eq) [(.var 4), (.var 5)])
     [.asg 10 (.lc 14 (.seq (.prim (.bin .add) [(.var 3), (.prim .lst [(.var 6)])])) (.var 14) [(.prim (.cmp .ne) [(.var 14), (.var 4)])])]
     [],
   .ifs (.not_ (.call "_law_right" [(.call "each_other" [(.var 8), (.var 9)]), (.var 10), (.var 7)]))
     [.ret (.bl false)]
     [],
   .asg 11 (.prim .lst [(.call "_law_equal" [(.var 4), (.call "always" [])]), (.call "_law_equal" [(.var 4), (.call "never" [])])]),
   .asg 12 (.lrepN [(.prim .sub [(.var 11), (.int 1)])] (.prim (.bin .mod) [(.prim (.bin .fdiv) [(.var 2), (.int 7)]), (.int 2)])),
   .asg 13 (.lrepN [(.prim .sub [(.var 11), (.int 0)])] (.prim (.bin .mod) [(.prim (.bin .fdiv) [(.var 2), (.int 14)]), (.int 2)])),
   .asg 8 (.call "_law_claimed" [(.var 6), (.prim (.bin .add) [(.prim .lst [(.prim .sub [(.var 11), (.int 0)]), (.var 5)]), (.var 12)])]),
   .asg 9 (.call "_law_claimed" [(.var 6), (.prim (.bin .add) [(.prim (.bin .add) [(.prim .lst [(.prim .sub [(.var 11), (.int 1)])]), (.var 3)]), (.var 13)])]),
   .asg 10 (.lc 14 (.seq (.prim (.bin .add) [(.prim .lst [(.var 6), (.var 5)]), (.var 12)])) (.var 14) [(.prim (.cmp .ne) [(.var 14), (.prim .sub [(.var 11), (.int 0)])])]),
   .asg 10 (.prim (.bin .add) [(.var 10), (.lc 14 (.seq (.prim (.bin .add) [(.var 3), (.var 13)])) (.var 14) [(.prim (.cmp .ne) [(.var 14), (.prim .sub [(.var 11), (.int 1)])])])]),
   .ifs (.not_ (.call "_law_right" [(.call "by_cases" [(.var 8), (.var 9), (.var 4)]), (.var 10), (.var 6)]))
     [.ret (.bl false)]
     [],
   .ifs (.not_ (.lam "_law_none" (.call "by_cases" [(.var 8), (.call "supposed" [(.var 4)]), (.var 4)])))
     [.ret (.prim (.cmp .eq) [(.var 4), (.var 6)])]
     [],
   .ret (.lam "_law_none" (.call "by_cases" [(.var 8), (.var 9), (.prim .tup [(.str [102, 114, 101, 101]), (.str [120]), (.str [105])])]))]⟩
def d__law_all_right : Def := ⟨["one", "variable", "term", "beside", "here", "body", "told_all", "made", "twin", "each"], 4,
  [.asg 4 (.prim .tup [(.str [102, 114, 101, 101]), (.str [102, 114, 101, 115, 104, 57]), (.prim .sub [(.var 1), (.int 2)])]),
   .asg 5 (.call "_law_put" [(.var 0), (.dlit (.var 1) (.var 4))]),
   .asg 6 (.call "_law_all" [(.var 1), (.var 0)]),
   .asg 7 (.call "_law_claimed" [(.var 0), (.var 3)]),
   .ifs (.not_ (.call "_law_right" [(.call "all_told" [(.var 4), (.var 7)]), (.prim (.bin .add) [(.prim .lst [(.var 0)]), (.var 3)]), (.call "_law_all" [(.var 4), (.var 0)])]))
     [.ret (.bl false)]
     [],
   .ifs (.not_ (.lam "_law_none" (.call "all_told" [(.var 1), (.var 7)])))
     [.ret (.bl false)]
     [],
   .asg 8 (.prim .tup [(.str [102, 114, 101, 101]), (.prim .sub [(.var 1), (.int 1)]), (.prim .sub [(.prim .lst [(.str [116]), (.str [105])]), (.prim .int [(.prim (.cmp .eq) [(.prim .sub [(.var 1), (.int 2)]), (.str [116])])])])]),
   .ifs (.prim .all [(.lc 9 (.seq (.prim (.bin .add) [(.prim .lst [(.var 0)]), (.var 3)])) (.prim (.cmp .nin) [(.var 8), (.call "_law_frees" [(.var 9)])]) [])])
     [.ifs (.not_ (.call "_law_right" [(.call "all_told" [(.var 8), (.var 7)]), (.prim (.bin .add) [(.prim .lst [(.var 0)]), (.var 3)]), (.call "_law_all" [(.var 8), (.var 0)])]))
        [.ret (.bl false)]
        []]
     [],
   .ifs (.prim (.cmp .ne) [(.call "_law_all" [(.var 4), (.var 5)]), (.var 6)])
     [.ret (.bl false)]
     [],
   .asg 7 (.call "all_used" [(.call "_law_claimed" [(.var 6), (.var 3)]), (.var 2)]),
   .ifs (.not_ (.call "_law_right" [(.var 7), (.prim (.bin .add) [(.prim .lst [(.var 6)]), (.var 3)]), (.call "_law_put" [(.var 0), (.dlit (.var 1) (.var 2))])]))
     [.ret (.bl false)]
     [],
   .ifs (.not_ (.lam "_law_none" (.call "all_used" [(.call "supposed" [(.var 6)]), (.prim .tup [(.str [102, 114, 101, 101]), (.str [120]), (.prim .tup [(.str [116]), (.prim .sub [(.var 1), (.int 2)])])])])))
     [.ret (.bl false)]
     [],
   .ret (.lam "_law_none" (.call "all_used" [(.call "supposed" [(.prim .tup [(.str [102, 114, 101, 101]), (.str [101, 110, 100, 49]), (.str [116])])]), (.var 2)]))]⟩
def d__law_some_right : Def := ⟨["one", "variable", "term", "beside", "claim", "made", "here", "body", "whole", "end", "bad"], 4,
  [.asg 4 (.call "_law_put" [(.var 0), (.dlit (.var 1) (.var 2))]),
   .asg 5 (.call "some_told" [(.var 1), (.var 0), (.var 2), (.call "_law_claimed" [(.var 4), (.var 3)])]),
   .ifs (.not_ (.call "_law_right" [(.var 5), (.prim (.bin .add) [(.prim .lst [(.var 4)]), (.var 3)]), (.call "_law_some" [(.var 1), (.var 0)])]))
     [.ret (.bl false)]
     [],
   .ifs (.not_ (.lam "_law_none" (.call "some_told" [(.var 1), (.var 0), (.var 2), (.call "supposed" [(.call "_law_equal" [(.var 0), (.prim .tup [(.str [102, 114, 101, 101]), (.str [101, 110, 100, 49]), (.str [116])])])])])))
     [.ret (.bl false)]
     [],
   .asg 6 (.prim .tup [(.str [102, 114, 101, 101]), (.str [102, 114, 101, 115, 104, 57]), (.prim .sub [(.var 1), (.int 2)])]),
   .asg 7 (.call "_law_put" [(.var 0), (.dlit (.var 1) (.var 6))]),
   .asg 8 (.call "supposed" [(.call "_law_some" [(.var 1), (.var 0)])]),
   .asg 9 (.prim .tup [(.str [102, 114, 101, 101]), (.str [101, 110, 100, 49]), (.str [116])]),
   .ifs (.not_ (.call "_law_right" [(.call "some_used" [(.var 8), (.var 6), (.var 7), (.call "_law_claimed" [(.var 9), (.prim (.bin .add) [(.prim .lst [(.var 7)]), (.var 3)])])]), (.prim (.bin .add) [(.prim .lst [(.fld (.var 8) "Sentence" "claim"), (.var 9)]), (.lc 2 (.seq (.var 3)) (.var 2) [(.prim (.cmp .ne) [(.var 2), (.var 7)])])]), (.var 9)]))
     [.ret (.bl false)]
     [],
   .ifs (.not_ (.lam "_law_none" (.call "some_used" [(.var 8), (.var 6), (.var 7), (.call "supposed" [(.var 7)])])))
     [.ret (.bl false)]
     [],
   .asg 10 (.call "_law_claimed" [(.var 9), (.prim .lst [(.var 7), (.prim .tup [(.str [111, 102]), (.prim .tup [(.str [102, 114, 101, 101]), (.str [104, 57]), (.prim .tup [(.prim .sub [(.var 6), (.int 2)]), (.str [116])])]), (.var 6)])])]),
   .ifs (.not_ (.lam "_law_none" (.call "some_used" [(.var 8), (.var 6), (.var 7), (.var 10)])))
     [.ret (.bl false)]
     [],
   .ret (.lam "_law_none" (.call "some_used" [(.call "supposed" [(.var 9)]), (.var 6), (.var 7), (.call "supposed" [(.var 9)])]))]⟩
def d__law_text : Def := ⟨["sentence", "texts", "head", "k", "term"], 1,
  [.asg 1 (.lc 4 (.seq (.fld (.var 0) "Sentence" "given")) (.call "_law_written" [(.var 4)]) []),
   .asg 2 (.str []),
   .for_ 3 (.range [(.prim .len [(.var 1)])])
     [.asg 2 (.prim (.bin .add) [(.prim (.bin .add) [(.var 2), (.prim .sub [(.var 1), (.var 3)])]), (.prim .sub [(.prim .lst [(.str [44, 32]), (.str [32])]), (.prim .int [(.prim (.cmp .eq) [(.var 3), (.prim (.bin .sub) [(.prim .len [(.var 1)]), (.int 1)])])])])])],
   .ret (.prim (.bin .add) [(.prim (.bin .add) [(.var 2), (.str [124, 45, 32])]), (.call "_law_written" [(.fld (.var 0) "Sentence" "claim")])])]⟩
def d_reduction : Def := ⟨["term"], 1,
  [.ret (.call "follows" [(.prim .tup []), (.call "equality" [(.var 0), (.call "reduced" [(.var 0)])])])]⟩
end Pg
end
section
set_option maxHeartbeats 400000
namespace Pg
open Ev

/-! ## sorts -/
inductive So where
  | t | i | fn (a b : So)
  deriving DecidableEq
def So.enc : So → PV
  | .t => .str [116]
  | .i => .str [105]
  | .fn a b => .tup [a.enc, b.enc]
def So.dep : So → Nat
  | .fn a b => 1 + max a.dep b.dep
  | _ => 0
def So.txt : So → List Nat
  | .t => [116]
  | .i => [105]
  | .fn a b => [40] ++ a.txt ++ [62] ++ b.txt ++ [41]
@[simp] theorem lim_val : lim = 16777216 := rfl
@[simp] theorem so_dat : ∀ s : So, dat s.enc = true
  | .t => rfl
  | .i => rfl
  | .fn a b => by simp [So.enc, dat, dats, so_dat a, so_dat b]
@[simp] theorem so_pd : ∀ s : So, pd s.enc = s.dep
  | .t => rfl
  | .i => rfl
  | .fn a b => by simp only [So.enc, pd, pds, so_pd a, so_pd b, So.dep]; omega
theorem so_eqv : ∀ a b : So, eqv a.enc b.enc = decide (a = b)
  | .t, .t => rfl
  | .t, .i => rfl
  | .t, .fn _ _ => rfl
  | .i, .t => rfl
  | .i, .i => rfl
  | .i, .fn _ _ => rfl
  | .fn _ _, .t => rfl
  | .fn _ _, .i => rfl
  | .fn a b, .fn c d => by simp [So.enc, eqv, eqvs, so_eqv a c, so_eqv b d, Bool.decide_and]
theorem so_txt_len : ∀ s : So, s.txt.length + 3 ≤ 4 * 2 ^ s.dep
  | .t => by decide
  | .i => by decide
  | .fn a b => by
    have h1 := so_txt_len a
    have h2 := so_txt_len b
    have h3 : 2 ^ a.dep ≤ 2 ^ max a.dep b.dep := Nat.pow_le_pow_right (by decide) (Nat.le_max_left ..)
    have h4 : 2 ^ b.dep ≤ 2 ^ max a.dep b.dep := Nat.pow_le_pow_right (by decide) (Nat.le_max_right ..)
    have h5 : 2 ^ (1 + max a.dep b.dep) = 2 * 2 ^ max a.dep b.dep := by rw [Nat.pow_add]
    simp only [So.txt, So.dep, List.length_append, List.length_cons, List.length_nil]
    omega
theorem so_txt_lim {s : So} (h : s.dep ≤ 20) : s.txt.length + 3 ≤ lim := by
  have h1 := so_txt_len s
  have h2 : 2 ^ s.dep ≤ 2 ^ 20 := Nat.pow_le_pow_right (by decide) h
  rw [lim_val]
  omega
theorem okd_str (v : PV) (x : List Nat) (h : dat v = true) : okd v (.str x) = true := by
  simp [okd, h, dat, pd]
theorem okd_str' (v : PV) (x : List Nat) (h : dat v = true) : okd (.str x) v = true := by
  simp [okd, h, dat, pd]
theorem fuel {n k : Nat} (h : k < n) : ∃ m, n = m + 1 ∧ k ≤ m := ⟨n - 1, by omega, by omega⟩
section
variable {P : Prog}
theorem sort_depth_ok (h : P.D "sort_depth" = some d_sort_depth) : ∀ (s : So) (n : Nat) (S : Store), s.dep < n → call P n "sort_depth" [.val s.enc] S = .ok (.int s.dep) S
  | .t, n, S, hn => by obtain ⟨n, rfl, hn⟩ := fuel hn; rw [call_def h _ _ _ rfl]; simp [d_sort_depth, begins, So.enc, So.dep]
  | .i, n, S, hn => by obtain ⟨n, rfl, hn⟩ := fuel hn; rw [call_def h _ _ _ rfl]; simp [d_sort_depth, begins, So.enc, So.dep]
  | .fn a b, n, S, hn => by
    obtain ⟨n, rfl, hn⟩ := fuel hn
    simp only [So.dep] at hn
    rw [call_def h _ _ _ rfl]
    simp [d_sort_depth, begins, So.enc, So.dep, h, sort_depth_ok h a n S (by omega), sort_depth_ok h b n S (by omega), calmP]
    split <;> omega
theorem law_sort_depth_ok (h : P.D "_law_sort_depth" = some d__law_sort_depth) : ∀ (s : So) (n : Nat) (S : Store), s.dep < n → call P n "_law_sort_depth" [.val s.enc] S = .ok (.int s.dep) S
  | .t, n, S, hn => by obtain ⟨n, rfl, hn⟩ := fuel hn; rw [call_def h _ _ _ rfl]; simp [d__law_sort_depth, begins, So.enc, So.dep]
  | .i, n, S, hn => by obtain ⟨n, rfl, hn⟩ := fuel hn; rw [call_def h _ _ _ rfl]; simp [d__law_sort_depth, begins, So.enc, So.dep]
  | .fn a b, n, S, hn => by
    obtain ⟨n, rfl, hn⟩ := fuel hn
    simp only [So.dep] at hn
    rw [call_def h _ _ _ rfl]
    simp [d__law_sort_depth, begins, So.enc, So.dep, h, law_sort_depth_ok h a n S (by omega), law_sort_depth_ok h b n S (by omega), calmP]
    split <;> omega
theorem sort_text_ok (h : P.D "sort_text" = some d_sort_text) : ∀ (s : So) (n : Nat) (S : Store), s.dep < n → s.dep ≤ 20 → call P n "sort_text" [.val s.enc] S = .ok (.str s.txt) S
  | .t, n, S, hn, _ => by obtain ⟨n, rfl, hn⟩ := fuel hn; rw [call_def h _ _ _ rfl]; simp [d_sort_text, begins, So.enc, So.txt]
  | .i, n, S, hn, _ => by obtain ⟨n, rfl, hn⟩ := fuel hn; rw [call_def h _ _ _ rfl]; simp [d_sort_text, begins, So.enc, So.txt]
  | .fn a b, n, S, hn, hd => by
    obtain ⟨n, rfl, hn⟩ := fuel hn
    have hl := so_txt_lim hd
    simp only [So.dep] at hn hd
    simp only [So.txt, List.length_append, List.length_cons, List.length_nil, lim_val] at hl
    rw [call_def h _ _ _ rfl]
    have ea := sort_text_ok h a n S (by omega) (by omega)
    have eb := sort_text_ok h b n S (by omega) (by omega)
    simp [d_sort_text, begins, So.enc, So.txt, h, ea]
    repeat (first | rw [if_pos (by omega)] | simp [eb])
theorem law_sort_text_ok (h : P.D "_law_sort_text" = some d__law_sort_text) : ∀ (s : So) (n : Nat) (S : Store), s.dep < n → s.dep ≤ 20 → call P n "_law_sort_text" [.val s.enc] S = .ok (.str s.txt) S
  | .t, n, S, hn, _ => by obtain ⟨n, rfl, hn⟩ := fuel hn; rw [call_def h _ _ _ rfl]; simp [d__law_sort_text, begins, So.enc, So.txt]
  | .i, n, S, hn, _ => by obtain ⟨n, rfl, hn⟩ := fuel hn; rw [call_def h _ _ _ rfl]; simp [d__law_sort_text, begins, So.enc, So.txt]
  | .fn a b, n, S, hn, hd => by
    obtain ⟨n, rfl, hn⟩ := fuel hn
    have hl := so_txt_lim hd
    simp only [So.dep] at hn hd
    simp only [So.txt, List.length_append, List.length_cons, List.length_nil, lim_val] at hl
    rw [call_def h _ _ _ rfl]
    have ea := law_sort_text_ok h a n S (by omega) (by omega)
    have eb := law_sort_text_ok h b n S (by omega) (by omega)
    simp [d__law_sort_text, begins, So.enc, So.txt, h, ea]
    repeat (first | rw [if_pos (by omega)] | simp [eb])
/-! what is a sort -/
def isMade : Nat → PV → Bool
  | 0, v => eqv v (.str [116]) || eqv v (.str [105])
  | l + 1, v => (eqv v (.str [116]) || eqv v (.str [105])) || (match v with
    | .tup [a, b] => isMade l a && isMade l b
    | _ => false)
theorem is_made_ok (h : P.D "is_made" = some d_is_made) : ∀ (left n : Nat) (v : PV) (S : Store), left < n → dat v = true → call P n "is_made" [.val v, .val (.int left)] S = .ok (.bl (isMade left v)) S := by
  intro left
  induction left with
  | zero =>
    intro n v S hn hd
    obtain ⟨n, rfl, hn⟩ := fuel hn
    rw [call_def h _ _ _ rfl]
    cases h1 : eqv v (.str [116]) <;> cases h2 : eqv v (.str [105]) <;> try (simp [d_is_made, begins, okd_str v _ hd, isMade, h1, h2]; done)
    cases v with
    | dct ks vs => cases hd
    | obj c fs => cases hd
    | tup xs => cases h3 : ((xs.length : Int) == 2) <;> simp [d_is_made, begins, okd_str _ _ hd, isMade, h1, h2, h3]
    | _ => simp [d_is_made, begins, okd_str _ _ hd, isMade, h1, h2]
  | succ l ih =>
    intro n v S hn hd
    obtain ⟨n, rfl, hn⟩ := fuel hn
    rw [call_def h _ _ _ rfl]
    cases h1 : eqv v (.str [116]) <;> cases h2 : eqv v (.str [105]) <;> try (simp [d_is_made, begins, okd_str v _ hd, isMade, h1, h2]; done)
    cases v with
    | dct ks vs => cases hd
    | obj c fs => cases hd
    | tup xs =>
      match xs, hd with
      | [a, b], hd =>
        simp only [dat, dats, Bool.and_true, Bool.and_eq_true] at hd
        have e : ((l : Int) + 1) - 1 = l := by omega
        have e2 : ((l : Int) + 1 == 0) = false := by simp; omega
        cases h3 : isMade l a <;> simp [d_is_made, begins, okd_str _ _ (show dat (.tup [a, b]) = true by simp [dat, dats, hd]), isMade, h1, h2, h, e, e2, ih n a S (by omega) hd.1, ih n b S (by omega) hd.2, h3]
      | [], hd => simp [d_is_made, begins, okd_str _ _ hd, isMade, h1, h2]
      | [a], hd => simp [d_is_made, begins, okd_str _ _ hd, isMade, h1, h2]
      | a :: b :: c :: r, hd =>
        have e : ¬ ((r.length : Int) + 1 + 1 + 1 = 2) := by omega
        simp [d_is_made, begins, okd_str _ _ hd, isMade, h1, h2, e]
    | _ => simp [d_is_made, begins, okd_str _ _ hd, isMade, h1, h2]
theorem isMade_enc : ∀ (s : So) (l : Nat), isMade l s.enc = decide (s.dep ≤ l)
  | .t, l => by cases l <;> rfl
  | .i, l => by cases l <;> rfl
  | .fn a b, 0 => by simp [isMade, So.enc, eqv, So.dep]
  | .fn a b, l + 1 => by
    simp only [isMade, So.enc, eqv, isMade_enc a l, isMade_enc b l, So.dep, Bool.false_or]
    rw [← Bool.decide_and]
    congr 1
    rw [eq_iff_iff]
    omega
theorem is_sort_ok (h : P.D "is_sort" = some d_is_sort) (h2 : P.D "is_made" = some d_is_made) (hg : P.G "MOST_SORT" = some (.int 5)) {n : Nat} {v : PV} {S : Store} (hn : 6 < n) (hd : dat v = true) : call P n "is_sort" [.val v] S = .ok (.bl (isMade 5 v)) S := by
  obtain ⟨n, rfl, hn⟩ := fuel hn
  rw [call_def h _ _ _ rfl]
  have e : call P n "is_made" [.val v, .val (.int 5)] S = _ := is_made_ok h2 5 n v S (by omega) hd
  simp [d_is_sort, begins, h2, hg, e]
theorem law_is_sort_ok (h : P.D "_law_is_sort" = some d__law_is_sort) : ∀ (left n : Nat) (v : PV) (S : Store), left < n → dat v = true → call P n "_law_is_sort" [.val v, .val (.int left)] S = .ok (.bl (isMade left v)) S := by
  intro left
  induction left with
  | zero =>
    intro n v S hn hd
    obtain ⟨n, rfl, hn⟩ := fuel hn
    rw [call_def h _ _ _ rfl]
    cases v with
    | dct ks vs => cases hd
    | obj c fs => cases hd
    | tup xs => cases h3 : ((xs.length : Int) == 2) <;> simp [d__law_is_sort, begins, isMade, h3, eqv]
    | str x =>
      have e1 : ([116] == x) = (x == [116]) := Bool.beq_comm
      have e2 : ([105] == x) = (x == [105]) := Bool.beq_comm
      simp [d__law_is_sort, begins, isMade, e1, e2]
    | _ => simp [d__law_is_sort, begins, isMade, eqv]
  | succ l ih =>
    intro n v S hn hd
    obtain ⟨n, rfl, hn⟩ := fuel hn
    rw [call_def h _ _ _ rfl]
    cases v with
    | dct ks vs => cases hd
    | obj c fs => cases hd
    | tup xs =>
      match xs, hd with
      | [a, b], hd =>
        simp only [dat, dats, Bool.and_true, Bool.and_eq_true] at hd
        have e : ((l : Int) + 1) - 1 = l := by omega
        have e2 : ((l : Int) + 1 == 0) = false := by simp; omega
        cases h3 : isMade l a <;> simp [d__law_is_sort, begins, isMade, h, e, e2, ih n a S (by omega) hd.1, ih n b S (by omega) hd.2, h3, eqv]
      | [], hd => simp [d__law_is_sort, begins, isMade, eqv]
      | [a], hd => simp [d__law_is_sort, begins, isMade, eqv]
      | a :: b :: c :: r, hd =>
        have e : ¬ ((r.length : Int) + 1 + 1 + 1 = 2) := by omega
        simp [d__law_is_sort, begins, isMade, e, eqv]
    | str x =>
      have e1 : ([116] == x) = (x == [116]) := Bool.beq_comm
      have e2 : ([105] == x) = (x == [105]) := Bool.beq_comm
      simp [d__law_is_sort, begins, isMade, e1, e2]
    | _ => simp [d__law_is_sort, begins, isMade, eqv]
/-! reading a sort -/
def rd (x : List Nat) : Nat → Nat → Option (So × Nat)
  | l, p => match x[p]? with
    | some 116 => some (.t, p + 1)
    | some 105 => some (.i, p + 1)
    | some 40 => (match l with
      | 0 => none
      | l + 1 => (rd x l (p + 1)).bind fun a => if x[a.2]? = some 62 then (rd x l (a.2 + 1)).bind fun b => if x[b.2]? = some 41 then some (.fn a.1 b.1, b.2 + 1) else none else none)
    | _ => none
theorem slice1 {x : List Nat} (p : Nat) (h : x.length ≤ lim) : slP (.str x) (some (p : Int)) (some ((p : Int) + 1)) = some (.str x[p]?.toList) := by
  simp only [slP, h, if_true, Option.map_some, Option.getD_some, cl, cutp]
  rw [if_neg (by omega), if_neg (by omega)]
  congr 2
  have e1 : ((p : Int)).toNat = p := by omega
  have e2 : ((p : Int) + 1).toNat = p + 1 := by omega
  rw [e1, e2]
  by_cases hp : p < x.length
  · rw [Nat.min_eq_left (by omega), Nat.min_eq_left (by omega), List.getElem?_eq_getElem hp, Nat.add_sub_cancel_left]
    rw [List.drop_eq_getElem_cons hp]
    rfl
  · rw [Nat.min_eq_right (by omega), Nat.min_eq_right (by omega), List.getElem?_eq_none (by omega), Nat.sub_self]
    rfl
abbrev badText : Exn := ⟨"BadText", .non⟩
theorem sort_from_ok (h : P.D "sort_from" = some d_sort_from) (hx : P.xc "BadText" = true) {x : List Nat} (hl : x.length ≤ lim) : ∀ (left n p : Nat) (S : Store), left < n →
    call P n "sort_from" [.val (.str x), .val (.int p), .val (.int left)] S = (match rd x left p with
      | some (s, q) => .ok (.tup [s.enc, .int q]) S
      | none => .err badText S) := by
  intro left
  induction left with
  | zero =>
    intro n p S hn
    obtain ⟨n, rfl, hn⟩ := fuel hn
    rw [call_def h _ _ _ rfl]
    unfold rd
    cases e : x[p]? with
    | none => simp [d_sort_from, begins, slice1 p hl, e, hx]
    | some c =>
      by_cases c1 : c = 116
      · subst c1; simp [d_sort_from, begins, slice1 p hl, e, So.enc]
      by_cases c2 : c = 105
      · subst c2; simp [d_sort_from, begins, slice1 p hl, e, So.enc]
      by_cases c3 : c = 40
      · subst c3; simp [d_sort_from, begins, slice1 p hl, e, hx]
      simp [d_sort_from, begins, slice1 p hl, e, hx, c1, c2, c3]
  | succ l ih =>
    intro n p S hn
    obtain ⟨n, rfl, hn⟩ := fuel hn
    rw [call_def h _ _ _ rfl]
    unfold rd
    cases e : x[p]? with
    | none => simp [d_sort_from, begins, slice1 p hl, e, hx]
    | some c =>
      by_cases c1 : c = 116
      · subst c1; simp [d_sort_from, begins, slice1 p hl, e, So.enc]
      by_cases c2 : c = 105
      · subst c2; simp [d_sort_from, begins, slice1 p hl, e, So.enc]
      by_cases c3 : c = 40
      · subst c3
        have ih1 := ih n (p + 1) S (by omega)
        have e0 : ¬ ((l : Int) + 1 = 0) := by omega
        have e2 : ((l : Int) + 1) - 1 = l := by omega
        rw [Int.natCast_add, Int.natCast_one] at ih1
        cases r1 : rd x l (p + 1) with
        | none =>
          rw [r1] at ih1
          dsimp only at ih1
          simp [d_sort_from, begins, slice1 p hl, e, hx, h, e0, e2, r1, ih1]
        | some a =>
          obtain ⟨a, q⟩ := a
          rw [r1] at ih1
          dsimp only at ih1
          have ih2 := ih n (q + 1) S (by omega)
          rw [Int.natCast_add, Int.natCast_one] at ih2
          by_cases c4 : x[q]? = some 62
          · cases r2 : rd x l (q + 1) with
            | none =>
              rw [r2] at ih2
              dsimp only at ih2
              simp [d_sort_from, begins, slice1 p hl, slice1 q hl, e, hx, h, e0, e2, r1, ih1, ih2, c4, r2]
            | some b =>
              obtain ⟨b, r⟩ := b
              rw [r2] at ih2
              dsimp only at ih2
              by_cases c5 : x[r]? = some 41
              · simp [d_sort_from, begins, slice1 p hl, slice1 q hl, slice1 r hl, e, hx, h, e0, e2, r1, ih1, ih2, c4, c5, r2, So.enc]
              · have c6 : (x[r]?.toList == [41]) = false := by
                  cases z : x[r]? with
                  | none => rfl
                  | some c => rw [z] at c5; simpa using c5
                simp [d_sort_from, begins, slice1 p hl, slice1 q hl, slice1 r hl, e, hx, h, e0, e2, r1, ih1, ih2, c4, c5, c6, r2]
          · have c6 : (x[q]?.toList == [62]) = false := by
              cases z : x[q]? with
              | none => rfl
              | some c => rw [z] at c4; simpa using c4
            simp [d_sort_from, begins, slice1 p hl, slice1 q hl, e, hx, h, e0, e2, r1, ih1, c4, c6]
      simp [d_sort_from, begins, slice1 p hl, e, hx, c1, c2, c3]
theorem read_sort_ok (h : P.D "read_sort" = some d_read_sort) (h2 : P.D "sort_from" = some d_sort_from) (hx : P.xc "BadText" = true) (hg : P.G "MOST_SORT" = some (.int 5)) {x : List Nat} (hl : x.length ≤ lim) {n : Nat} {S : Store} (hn : 6 < n) :
    call P n "read_sort" [.val (.str x)] S = (match rd x 5 0 with
      | some (s, q) => if q < x.length then .err badText S else .ok s.enc S
      | none => .err badText S) := by
  obtain ⟨n, rfl, hn⟩ := fuel hn
  rw [call_def h _ _ _ rfl]
  have e : call P n "sort_from" [.val (.str x), .val (.int 0), .val (.int 5)] S = _ := sort_from_ok h2 hx hl 5 n 0 S (by omega)
  have hl' : x.length ≤ 16777216 := hl
  cases r : rd x 5 0 with
  | none =>
    rw [r] at e
    dsimp only at e
    simp [d_read_sort, begins, h2, hg, e]
  | some a =>
    obtain ⟨s, q⟩ := a
    rw [r] at e
    dsimp only at e
    by_cases c : q < x.length
    · have c' : ((q : Int) < (x.length : Int)) := by omega
      simp [d_read_sort, begins, h2, hg, e, c, c', hl', hx]
    · have c' : ¬ ((q : Int) < (x.length : Int)) := by omega
      simp [d_read_sort, begins, h2, hg, e, c, c', hl', hx]
theorem rd_txt : ∀ (s : So) (l : Nat) (pre post : List Nat), s.dep ≤ l → rd (pre ++ s.txt ++ post) l pre.length = some (s, pre.length + s.txt.length)
  | .t, l, pre, post, _ => by unfold rd; simp [So.txt]
  | .i, l, pre, post, _ => by unfold rd; simp [So.txt]
  | .fn a b, 0, pre, post, h => by simp [So.dep] at h
  | .fn a b, l + 1, pre, post, h => by
    simp only [So.dep] at h
    have h1 := rd_txt a l (pre ++ [40]) ([62] ++ b.txt ++ [41] ++ post) (by omega)
    have h2 := rd_txt b l (pre ++ [40] ++ a.txt ++ [62]) ([41] ++ post) (by omega)
    have e1 : pre ++ (So.fn a b).txt ++ post = (pre ++ [40]) ++ a.txt ++ ([62] ++ b.txt ++ [41] ++ post) := by simp [So.txt]
    have e2 : pre ++ (So.fn a b).txt ++ post = (pre ++ [40] ++ a.txt ++ [62]) ++ b.txt ++ ([41] ++ post) := by simp [So.txt]
    rw [← e1] at h1
    rw [← e2] at h2
    have g0 : (pre ++ (So.fn a b).txt ++ post)[pre.length]? = some 40 := by simp [So.txt]
    have g1 : (pre ++ (So.fn a b).txt ++ post)[pre.length + 1 + a.txt.length]? = some 62 := by
      rw [e2]
      have : pre.length + 1 + a.txt.length = (pre ++ [40] ++ a.txt).length := by simp; omega
      rw [this]
      simp only [List.append_assoc]
      rw [← List.append_assoc, ← List.append_assoc, List.getElem?_append_right (by simp), List.append_assoc]
      simp
    have g2 : (pre ++ (So.fn a b).txt ++ post)[pre.length + 1 + a.txt.length + 1 + b.txt.length]? = some 41 := by
      rw [e2]
      have : pre.length + 1 + a.txt.length + 1 + b.txt.length = (pre ++ [40] ++ a.txt ++ [62] ++ b.txt).length := by simp; omega
      rw [this, List.getElem?_append_right (by simp)]
      simp
    rw [List.length_append, List.length_singleton] at h1
    have l2 : (pre ++ [40] ++ a.txt ++ [62]).length = pre.length + 1 + a.txt.length + 1 := by simp; omega
    rw [l2] at h2
    unfold rd
    simp only [g0, h1, h2, Option.bind_some, g1, g2, if_true]
    simp [So.txt]
    omega
theorem rd_dep {x : List Nat} : ∀ (l p : Nat) (a : So × Nat), rd x l p = some a → a.1.dep ≤ l := by
  intro l
  induction l with
  | zero =>
    intro p a h
    unfold rd at h
    split at h
    · cases h; exact Nat.le_refl _
    · cases h; exact Nat.le_refl _
    · cases h
    · cases h
  | succ l ih =>
    intro p a h
    unfold rd at h
    split at h
    · cases h; exact Nat.zero_le _
    · cases h; exact Nat.zero_le _
    · dsimp only at h
      cases r1 : rd x l (p + 1) with
      | none => rw [r1] at h; cases h
      | some b =>
        rw [r1, Option.bind_some] at h
        split at h
        · cases r2 : rd x l (b.2 + 1) with
          | none => rw [r2] at h; cases h
          | some c =>
            rw [r2, Option.bind_some] at h
            split at h
            · cases h
              have h1 := ih _ _ r1
              have h2 := ih _ _ r2
              simp only [So.dep]
              omega
            · cases h
        · cases h
    · cases h
end
end Pg
end
section
set_option maxHeartbeats 400000
namespace Pg
open Ev

/-! ## what every law draws from its script -/
@[simp] theorem wid_val : wid = 1606938044258990275541962092341162602522202993782792835301376 := rfl
theorem mul_r {i j : Int} (h1 : -18446744073709551616 < j) (h2 : j < 18446744073709551616) : mulOk i j = true := by
  simp [mulOk, two64, h1, h2]
theorem mul_l {i j : Int} (h1 : -18446744073709551616 < i) (h2 : i < 18446744073709551616) : mulOk i j = true := by
  simp [mulOk, two64, h1, h2]
theorem mul_w {i j : Int} (h1 : 0 ≤ i) (h2 : i < 1606938044258990275541962092341162602522202993782792835301376) (h3 : 0 ≤ j) (h4 : j < 1606938044258990275541962092341162602522202993782792835301376) : mulOk i j = true := by
  have e1 : -1606938044258990275541962092341162602522202993782792835301376 < i := by omega
  have e2 : -1606938044258990275541962092341162602522202993782792835301376 < j := by omega
  simp [mulOk, wid, h2, h4, e1, e2]
theorem dats_ints : ∀ ns : List Int, dats (ns.map .int) = true
  | [] => rfl
  | n :: ns => by simp only [List.map_cons, dats, dat, dats_ints ns, Bool.and_self]
theorem pds_ints : ∀ ns : List Int, pds (ns.map .int) = 0
  | [] => rfl
  | n :: ns => by simp only [List.map_cons, pds, pd, pds_ints ns, Nat.max_self]
theorem atp_ints (ns : List Int) (i : Int) (h0 : 0 ≤ i) (h1 : i < (ns.length : Int)) : ∃ c : Int, atp (ns.map PV.int) i = some (.int c) := by
  obtain ⟨j, rfl⟩ := Int.eq_ofNat_of_zero_le h0
  rw [at_nat, List.getElem?_map]
  have h2 : j < ns.length := by omega
  rw [List.getElem?_eq_getElem h2]
  exact ⟨_, rfl⟩
section
variable {P : Prog}
theorem cell_nil (h : P.D "_law_cell" = some d__law_cell) {n : Nat} (j : Int) {S : Store} : call P (n + 1) "_law_cell" [.val (.lst []), .val (.int j)] S = .ok (.int (j * 7919)) S := by
  rw [call_def h _ _ _ rfl]
  have e : okd (.lst []) (.lst []) = true := by simp [okd, dat, dats, pd, pds]
  have m : mulOk j 7919 = true := mul_r (by decide) (by decide)
  simp [d__law_cell, begins, e, m, eqv, eqvs]
theorem cell_cons (h : P.D "_law_cell" = some d__law_cell) {n : Nat} (j L c : Int) {S : Store} {x : PV} {xs : List PV} (hok : okd (.lst (x :: xs)) (.lst []) = true) (hlen : lenP (.lst (x :: xs)) = some (.int L)) (p1 : 0 < L) (p2 : L < wid) (hc : atp (x :: xs) (j % L) = some (.int c)) :
    call P (n + 1) "_law_cell" [.val (.lst (x :: xs)), .val (.int j)] S = .ok (.int (c + j / L * 104729)) S := by
  rw [call_def h _ _ _ rfl]
  have m : mulOk (j / L) 104729 = true := mul_r (by decide) (by decide)
  simp [-ln_lst, -wid_val, d__law_cell, begins, hok, eqv, eqvs, m, p1, p2, hlen, hc]
theorem law_cell_ok (h : P.D "_law_cell" = some d__law_cell) {ns : List Int} (hn : ns.length ≤ 63) {n : Nat} (j : Int) {S : Store} (hf : 0 < n) : ∃ c : Int, call P n "_law_cell" [.val (.lst (ns.map .int)), .val (.int j)] S = .ok (.int c) S := by
  obtain ⟨n, rfl, _⟩ := fuel hf
  cases ns with
  | nil => exact ⟨_, cell_nil h j⟩
  | cons a r =>
    have hok : okd (.lst ((a :: r).map .int)) (.lst []) = true := by simp [okd, dat, dats, dats_ints, pd, pds]
    have hlen : lenP (.lst ((a :: r).map .int)) = some (.int ((a :: r).length : Int)) := by rw [ln_lst, List.length_map]
    have p1 : (0 : Int) < ((a :: r).length : Int) := by rw [List.length_cons]; omega
    have p2 : ((a :: r).length : Int) < wid := Int.lt_of_le_of_lt (Int.ofNat_le.mpr hn) (by decide)
    obtain ⟨c, hc⟩ := atp_ints (a :: r) (j % ((a :: r).length : Int)) (Int.emod_nonneg _ (by omega)) (Int.emod_lt_of_pos _ p1)
    exact ⟨_, cell_cons h j _ c hok hlen p1 p2 hc⟩
theorem law_drawn_ok (h : P.D "_law_drawn" = some d__law_drawn) {n : Nat} (c k : Int) {S : Store} (hf : 0 < n) : ∃ m : Nat, call P n "_law_drawn" [.val (.int c), .val (.int k)] S = .ok (.int m) S := by
  obtain ⟨n, rfl, _⟩ := fuel hf
  rw [call_def h _ _ _ rfl]
  generalize hr : (c * 6364136223846793005 + (k + 1) * 1442695040888963407) % 340282366920938463463374607431768211507 = r1
  have r1a : 0 ≤ r1 := by omega
  have r1b : r1 < 340282366920938463463374607431768211507 := by omega
  generalize hr2 : r1 * r1 % 340282366920938463463374607431768211297 = r2
  have r2a : 0 ≤ r2 := by rw [← hr2]; exact Int.emod_nonneg _ (by decide)
  have r2b : r2 < 340282366920938463463374607431768211297 := by rw [← hr2]; exact Int.emod_lt_of_pos _ (by decide)
  generalize hr3 : (r2 % 18446744073709551557 + 1) * (r2 / 18446744073709551557 + 1) = r3
  have ha : 0 ≤ r2 % 18446744073709551557 + 1 ∧ r2 % 18446744073709551557 + 1 ≤ 18446744073709551557 := by omega
  have hb : 0 ≤ r2 / 18446744073709551557 + 1 ∧ r2 / 18446744073709551557 + 1 ≤ 36893488147419103232 := by omega
  have r3a : 0 ≤ r3 := by rw [← hr3]; exact Int.mul_nonneg ha.1 hb.1
  have r3b : r3 ≤ 18446744073709551557 * 36893488147419103232 := by rw [← hr3]; exact Int.mul_le_mul ha.2 hb.2 hb.1 (by decide)
  have m1 : mulOk r1 r1 = true := mul_w r1a (by omega) r1a (by omega)
  have m2 : mulOk (r2 % 18446744073709551557 + 1) (r2 / 18446744073709551557 + 1) = true := mul_l (by omega) (by omega)
  have m3 : mulOk r3 r2 = true := mul_w r3a (by omega) r2a (by omega)
  have m4 : mulOk c 6364136223846793005 = true := mul_r (by decide) (by decide)
  have m5 : mulOk (k + 1) 1442695040888963407 = true := mul_r (by decide) (by decide)
  have nn : 0 ≤ r3 * r2 % 340282366920938463463374607431768211507 := Int.emod_nonneg _ (by decide)
  refine ⟨(r3 * r2 % 340282366920938463463374607431768211507).toNat, ?_⟩
  rw [Int.toNat_of_nonneg nn]
  simp [d__law_drawn, begins, m4, m5, hr, m1, hr2, m2, hr3, m3]
end
/-- a loop whose turns all go on -/
theorem forGo_inv {i : Nat} {b : Lo → Store → SO} {S : Store} (I : Lo → Prop) : ∀ (xs : List PV), (∀ x ∈ xs, ∀ σ, I σ → ∃ σ', b (σ.set i (some (.val x))) S = .next σ' S ∧ I σ') → ∀ σ, I σ → ∃ σ', forGo i b xs σ S = .next σ' S ∧ I σ'
  | [], _, σ, h => ⟨σ, rfl, h⟩
  | x :: r, hb, σ, h => by
    obtain ⟨σ1, e1, h1⟩ := hb x List.mem_cons_self σ h
    obtain ⟨σ2, e2, h2⟩ := forGo_inv I r (fun y hy => hb y (List.mem_cons_of_mem _ hy)) σ1 h1
    exact ⟨σ2, by simp only [forGo, e1, SO.turn_next, e2], h2⟩
theorem range1_ok (j : Int) (h1 : -1000000000 ≤ j) (h2 : j ≤ 1000000000) : rangeP [.int j] = some (rangeList 0 j.toNat) := by
  show (if small j then some (rangeList 0 j.toNat) else none) = _
  rw [if_pos]
  unfold small
  simp only [Bool.and_eq_true, decide_eq_true_eq]
  exact ⟨h1, h2⟩
theorem range_mem {n : Nat} {x : PV} (h : x ∈ rangeList 0 n) : ∃ k : Nat, k < n ∧ x = .int (k : Int) := by
  unfold rangeList at h
  obtain ⟨k, hk, rfl⟩ := List.mem_map.mp h
  exact ⟨k, List.mem_range.mp hk, by simp⟩
theorem forGo_any {i : Nat} {b : Lo → Store → SO} (I : Lo → Prop) : ∀ (xs : List PV), (∀ x ∈ xs, ∀ σ S, I σ → ∃ σ' S', (b (σ.set i (some (.val x))) S = .next σ' S' ∨ b (σ.set i (some (.val x))) S = .cont σ' S') ∧ I σ') → ∀ σ S, I σ → ∃ σ' S', forGo i b xs σ S = .next σ' S' ∧ I σ'
  | [], _, σ, S, h => ⟨σ, S, rfl, h⟩
  | x :: r, hb, σ, S, h => by
    obtain ⟨σ1, S1, e1, h1⟩ := hb x List.mem_cons_self σ S h
    obtain ⟨σ2, S2, e2, h2⟩ := forGo_any I r (fun y hy => hb y (List.mem_cons_of_mem _ hy)) σ1 S1 h1
    refine ⟨σ2, S2, ?_, h2⟩
    rcases e1 with e1 | e1 <;> simp only [forGo, e1, SO.turn_next, SO.turn_cont, e2]
/-- a law that goes through its script, from one turn of it -/
theorem law_loop {P : Prog} {n m : Nat} {N : Int} {d : Def} {body : List CS} (hl : P.D "law" = some d) (hd : d.body = [.for_ 1 (.range [.prim .max2 [.int 1, .prim .min2 [.int N, .prim .len [.var 0]]]]) body, .ret (.bl true)]) (hp : d.np = 1) (hm : d.nm.length = m + 2) (hN : 1 ≤ N ∧ N ≤ 1000)
    {ns : List Int} (hns : ns.length ≤ 63) (turn : ∀ (k : Nat) (tl : Lo) (S : Store), tl.length = m → ∃ tl' S', tl'.length = m ∧ exs (cfg P n) body (some (.val (.lst (ns.map .int))) :: some (.val (.int (k : Int))) :: tl) S = .next (some (.val (.lst (ns.map .int))) :: some (.val (.int (k : Int))) :: tl') S') :
    ∃ S, call P (n + 1) "law" [.val (.lst (ns.map .int))] [] = .ok (.bl true) S := by
  rw [call_def hl _ _ _ (by rw [hp]; rfl)]
  have hlen : lenP (.lst (ns.map .int)) = some (.int (ns.length : Int)) := by rw [ln_lst, List.length_map]
  have hr := range1_ok (if (if (ns.length : Int) < N then (ns.length : Int) else N) > 1 then (if (ns.length : Int) < N then (ns.length : Int) else N) else 1) (by split <;> split <;> omega) (by split <;> split <;> omega)
  generalize (if (if (ns.length : Int) < N then (ns.length : Int) else N) > 1 then (if (ns.length : Int) < N then (ns.length : Int) else N) else 1).toNat = c at hr
  obtain ⟨σ, S, e, _⟩ := forGo_any (i := 1) (b := fun σ' S' => exs (cfg P n) body σ' S') (fun σ => ∃ a1 tl, tl.length = m ∧ σ = some (.val (.lst (ns.map .int))) :: a1 :: tl) (rangeList 0 c) (fun x hx' σ S hσ => by
    obtain ⟨a1, tl, ht, rfl⟩ := hσ
    obtain ⟨k, _, rfl⟩ := range_mem hx'
    obtain ⟨tl', S', ht', e⟩ := turn k tl S ht
    exact ⟨_, S', .inl e, _, tl', ht', rfl⟩) (some (.val (.lst (ns.map .int))) :: none :: List.replicate m none) [] ⟨none, _, List.length_replicate .., rfl⟩
  refine ⟨[], ?_⟩
  have hb : begins d [.val (.lst (ns.map .int))] = some (.val (.lst (ns.map .int))) :: none :: List.replicate m none := by
    unfold begins
    rw [hp, hm]
    rfl
  rw [hd, hb]
  have e' : exs (cfg P n) [.for_ 1 (.range [.prim .max2 [.int 1, .prim .min2 [.int N, .prim .len [.var 0]]]]) body, .ret (.bl true)] (some (.val (.lst (ns.map .int))) :: none :: List.replicate m none) [] = .ret (.bl true) S := by
    simp only [x_cons, x_for, cfg_cm, if_true, e_range, e_cons, e_nil, e_prim, calm_max2, calm_min2, calm_len, e_int, e_var, lk_cons, Out.bind_ok, Bool.not_true, Bool.false_and, Bool.false_eq_true, if_false, p_go1, p_go2, pp_len, hlen, l_some, pp_min, mn, pp_max, mx, m_cons, m_nil, v_val, Option.map_some, hr, Out.thn_ok, e, SO.seq_next, x_ret, cfg_nw, e_bl, SO.seq_ret]
  rw [e']
  simp
end Pg
end
section
set_option maxHeartbeats 400000
namespace Pg
open Ev

/-! ## comprehensions whose parts all come to something -/
theorem lcGo_ok {f : PV → Store → Out Sl} {c : PV → Store → Out Bool} {S : Store} {h : PV → PV} {p : PV → Bool} : ∀ (xs acc : List PV), (∀ x ∈ xs, c x S = .ok (p x) S) → (∀ x ∈ xs, p x = true → f x S = .ok (.val (h x)) S) → acc.length + xs.length ≤ lim →
    lcGo f c xs acc S = .ok (.val (.lst (acc ++ (xs.filter p).map h))) S
  | [], acc, _, _, _ => by simp [lcGo]
  | x :: r, acc, hc, hf, hl => by
    simp only [List.length_cons] at hl
    have c1 := hc x List.mem_cons_self
    cases hp : p x with
    | false =>
      have ih := lcGo_ok r acc (fun y hy => hc y (List.mem_cons_of_mem _ hy)) (fun y hy => hf y (List.mem_cons_of_mem _ hy)) (by omega)
      rw [hp] at c1
      simp [lcGo, c1, ih, hp]
    | true =>
      have f1 := hf x List.mem_cons_self hp
      have ih := lcGo_ok r (acc ++ [h x]) (fun y hy => hc y (List.mem_cons_of_mem _ hy)) (fun y hy => hf y (List.mem_cons_of_mem _ hy)) (by rw [List.length_append, List.length_singleton]; omega)
      rw [hp] at c1
      have hlt : acc.length < lim := by omega
      have hlt' : acc.length < 16777216 := hlt
      simp [lcGo, c1, f1, ih, hp, hlt']
theorem allTrue_bl : ∀ bs : List Bool, allTrue (bs.map PV.bl) = some (bs.all id)
  | [] => rfl
  | b :: bs => by simp [allTrue, allTrue_bl bs]
@[simp] theorem al_lst {xs : List PV} : allP (.lst xs) = (allTrue xs).map .bl := rfl
/-! ## terms -/
abbrev wBound : List Nat := [98, 111, 117, 110, 100]
abbrev wFree : List Nat := [102, 114, 101, 101]
abbrev wSame : List Nat := [115, 97, 109, 101]
abbrev wOf : List Nat := [111, 102]
abbrev wFor : List Nat := [102, 111, 114]
inductive Tm where
  | bd (k : Nat) | fr (x : List Nat) (s : So) | sm (s : So) | ap (a b : Tm) | fn (s : So) (t : Tm)
  deriving DecidableEq
def Tm.enc : Tm → PV
  | .bd k => .tup [.str wBound, .int k]
  | .fr x s => .tup [.str wFree, .str x, s.enc]
  | .sm s => .tup [.str wSame, s.enc]
  | .ap a b => .tup [.str wOf, a.enc, b.enc]
  | .fn s t => .tup [.str wFor, s.enc, t.enc]
def Tm.size : Tm → Nat
  | .ap a b => 1 + a.size + b.size
  | .fn _ t => 1 + t.size
  | _ => 1
def Tm.depth : Tm → Nat
  | .ap a b => 1 + max a.depth b.depth
  | .fn _ t => 1 + t.depth
  | _ => 0
def isLetter (c : Nat) : Bool := decide (97 ≤ c ∧ c ≤ 122)
def isFigure (c : Nat) : Bool := decide (48 ≤ c ∧ c ≤ 57)
def nameOk (x : List Nat) : Bool := decide (1 ≤ x.length ∧ x.length ≤ 8) && (match x with
  | c :: _ => isLetter c
  | [] => false) && x.all fun c => isLetter c || isFigure c
abbrev letters : List Nat := [97, 98, 99, 100, 101, 102, 103, 104, 105, 106, 107, 108, 109, 110, 111, 112, 113, 114, 115, 116, 117, 118, 119, 120, 121, 122]
abbrev figures : List Nat := [48, 49, 50, 51, 52, 53, 54, 55, 56, 57]
theorem mem_letters (c : Nat) : decide (c ∈ letters) = isLetter c := by
  unfold isLetter
  rw [decide_eq_decide]
  simp only [letters, List.mem_cons, List.not_mem_nil, or_false]
  omega
theorem mem_figures (c : Nat) : decide (c ∈ figures) = isFigure c := by
  unfold isFigure
  rw [decide_eq_decide]
  simp only [figures, List.mem_cons, List.not_mem_nil, or_false]
  omega
section
variable {P : Prog}
theorem name_lc (h2 : P.G "LETTERS" = some (.str letters)) (h3 : P.G "FIGURES" = some (.str figures)) {n : Nat} {S : Store} {x : List Nat} (hx : x.length ≤ lim) :
    ev (cfg P n) (.lc 1 (.seq (.var 0)) (.or_ [(.prim (.cmp .in_) [(.var 1), (.gl "LETTERS")]), (.prim (.cmp .in_) [(.var 1), (.gl "FIGURES")])]) []) [some (.val (.str x)), none] S = .ok (.val (.lst ((x.map fun c => isLetter c || isFigure c).map PV.bl))) S := by
  have hx' : x.length ≤ 16777216 := hx
  rw [e_lc, cfg_cm, if_pos rfl, e_seq, e_var, lk_cons, Out.bind_ok]
  simp only [itemsP, hx, if_true, Out.bind_ok]
  rw [lcGo_ok (p := fun _ => true) (h := fun v => match v with
    | .str [c] => .bl (isLetter c || isFigure c)
    | _ => .non)]
  · rw [List.filter_eq_self.mpr (fun _ _ => rfl), List.map_map, List.map_map, List.nil_append]
    rfl
  · intro y hy; simp
  · intro y hy _
    obtain ⟨c, _, rfl⟩ := List.mem_map.mp hy
    have m1 := mem_letters c
    have m2 := mem_figures c
    cases hc : isLetter c <;> simp [-List.mem_cons, h2, h3, m1, m2, hc]
  · simpa using hx
theorem is_name_ok (h : P.D "is_name" = some d_is_name) (h1 : P.G "MOST_NAME" = some (.int 8)) (h2 : P.G "LETTERS" = some (.str letters)) (h3 : P.G "FIGURES" = some (.str figures)) {n : Nat} {v : PV} {S : Store} (hn : 0 < n) (hd : dat v = true) (hz : ∀ x, v = .str x → x.length ≤ lim) :
    call P n "is_name" [.val v] S = .ok (.bl (match v with
      | .str x => nameOk x
      | _ => false)) S := by
  obtain ⟨n, rfl, hn⟩ := fuel hn
  rw [call_def h _ _ _ rfl]
  cases v with
  | dct ks vs => cases hd
  | obj c fs => cases hd
  | str x =>
    have hx := hz x rfl
    have hx' : x.length ≤ 16777216 := hx
    have hlc := name_lc h2 h3 (n := n) (S := S) hx
    cases x with
    | nil => simp [-e_lc, d_is_name, begins, nameOk]
    | cons c r =>
      simp only [List.length_cons] at hx'
      by_cases hl : r.length + 1 ≤ 8
      · have e1 : (r.length : Int) + 1 ≤ 8 := by omega
        have e2 : (1 : Int) ≤ (r.length : Int) + 1 := by omega
        have e4 : r.length ≤ 7 := by omega
        have m1 := mem_letters c
        cases hc : isLetter c <;> simp [-List.mem_cons, -e_lc, -List.map_map, d_is_name, begins, nameOk, h1, h2, e1, e2, hx', m1, hc, hlc, allTrue, allTrue_bl, e4]
      · have e1 : ¬ (r.length : Int) + 1 ≤ 8 := by omega
        have e2 : (1 : Int) ≤ (r.length : Int) + 1 := by omega
        have e4 : ¬ r.length ≤ 7 := by omega
        simp [-e_lc, d_is_name, begins, nameOk, h1, e1, e2, hx', e4]
  | _ => simp [-e_lc, d_is_name, begins]
theorem is_whole_ok (h : P.D "is_whole" = some d_is_whole) {n : Nat} {v : PV} {S : Store} (hn : 0 < n) (hd : dat v = true) : call P n "is_whole" [.val v] S = .ok (.bl (match v with
    | .int _ => true
    | _ => false)) S := by
  obtain ⟨n, rfl, hn⟩ := fuel hn
  rw [call_def h _ _ _ rfl]
  cases v with
  | dct ks vs => cases hd
  | obj c fs => cases hd
  | _ => simp [d_is_whole, begins]
theorem isMade_inv : ∀ (l : Nat) (v : PV), isMade l v = true → ∃ s : So, v = s.enc ∧ s.dep ≤ l := by
  intro l
  induction l with
  | zero =>
    intro v h
    simp only [isMade, Bool.or_eq_true] at h
    cases v with
    | str x =>
      simp only [eq_str1, beq_iff_eq] at h
      rcases h with h | h <;> subst h
      · exact ⟨.t, rfl, Nat.le_refl _⟩
      · exact ⟨.i, rfl, Nat.le_refl _⟩
    | _ => simp [eqv] at h
  | succ l ih =>
    intro v h
    simp only [isMade, Bool.or_eq_true] at h
    cases v with
    | str x =>
      simp only [eq_str1, beq_iff_eq, Bool.false_eq_true, or_false] at h
      rcases h with h | h <;> subst h
      · exact ⟨.t, rfl, Nat.zero_le _⟩
      · exact ⟨.i, rfl, Nat.zero_le _⟩
    | tup xs =>
      match xs, h with
      | [a, b], h =>
        simp only [eqv, Bool.false_eq_true, false_or, Bool.and_eq_true] at h
        obtain ⟨s1, rfl, d1⟩ := ih a h.1
        obtain ⟨s2, rfl, d2⟩ := ih b h.2
        exact ⟨.fn s1 s2, rfl, by simp only [So.dep]; omega⟩
      | [], h => simp [eqv] at h
      | [_], h => simp [eqv] at h
      | _ :: _ :: _ :: _, h => simp [eqv] at h
    | _ => simp [eqv] at h
theorem good_sort_ok (h : P.D "good_sort" = some d_good_sort) (h2 : P.D "sort_depth" = some d_sort_depth) (hg : P.G "MOST_SORT" = some (.int 5)) {n : Nat} {s : So} {S : Store} (hn : s.dep + 1 < n) : call P n "good_sort" [.val s.enc] S = .ok (if s.dep ≤ 5 then s.enc else .non) S := by
  obtain ⟨n, rfl, hn⟩ := fuel hn
  rw [call_def h _ _ _ rfl]
  have e := sort_depth_ok h2 s n S (by omega)
  by_cases c : s.dep ≤ 5
  · have c' : ¬ (5 : Int) < (s.dep : Int) := by omega
    simp [d_good_sort, begins, h2, hg, e, c, c']
  · have c' : (5 : Int) < (s.dep : Int) := by omega
    simp [d_good_sort, begins, h2, hg, e, c, c']
/-! what a thing says as a term -/
def soOf : Nat → PV → Option So
  | 0, v => if eqv v (.str [116]) then some .t else if eqv v (.str [105]) then some .i else none
  | l + 1, v => if eqv v (.str [116]) then some .t else if eqv v (.str [105]) then some .i else (match v with
    | .tup [a, b] => (soOf l a).bind fun x => (soOf l b).map fun y => .fn x y
    | _ => none)
theorem soOf_made : ∀ (l : Nat) (v : PV), (soOf l v).isSome = isMade l v := by
  intro l
  induction l with
  | zero =>
    intro v
    simp only [soOf, isMade]
    cases eqv v (.str [116]) <;> cases eqv v (.str [105]) <;> rfl
  | succ l ih =>
    intro v
    simp only [soOf, isMade]
    cases eqv v (.str [116]) <;> cases eqv v (.str [105]) <;> try rfl
    simp only [Bool.false_eq_true, if_false, Bool.false_or]
    split
    · rename_i a b
      show _ = (isMade l a && isMade l b)
      rw [← ih a, ← ih b]
      cases soOf l a <;> cases soOf l b <;> rfl
    · rename_i h
      first
        | rfl
        | (split
           · rename_i a b
             exact (h a b rfl).elim
           · rfl)
theorem soOf_inv : ∀ (l : Nat) (v : PV) (s : So), soOf l v = some s → v = s.enc ∧ s.dep ≤ l := by
  intro l
  induction l with
  | zero =>
    intro v s h
    simp only [soOf] at h
    split at h
    · rename_i h1
      cases h
      cases v with
      | str x => simp at h1; subst h1; exact ⟨rfl, Nat.le_refl _⟩
      | _ => simp [eqv] at h1
    · split at h
      · rename_i h1
        cases h
        cases v with
        | str x => simp at h1; subst h1; exact ⟨rfl, Nat.le_refl _⟩
        | _ => simp [eqv] at h1
      · cases h
  | succ l ih =>
    intro v s h
    simp only [soOf] at h
    split at h
    · rename_i h1
      cases h
      cases v with
      | str x => simp at h1; subst h1; exact ⟨rfl, Nat.zero_le _⟩
      | _ => simp [eqv] at h1
    · split at h
      · rename_i h1
        cases h
        cases v with
        | str x => simp at h1; subst h1; exact ⟨rfl, Nat.zero_le _⟩
        | _ => simp [eqv] at h1
      · split at h
        · rename_i a b _ _
          cases ea : soOf l a with
          | none => rw [ea] at h; cases h
          | some x =>
            cases eb : soOf l b with
            | none => rw [ea, eb] at h; cases h
            | some y =>
              rw [ea, eb] at h
              cases h
              obtain ⟨rfl, d1⟩ := ih a x ea
              obtain ⟨rfl, d2⟩ := ih b y eb
              exact ⟨rfl, by simp only [So.dep]; omega⟩
        · cases h
theorem soOf_enc {l : Nat} {s : So} (h : s.dep ≤ l) : soOf l s.enc = some s := by
  have z : (soOf l s.enc).isSome = true := by rw [soOf_made, isMade_enc]; simpa using h
  obtain ⟨s', e⟩ := Option.isSome_iff_exists.mp z
  obtain ⟨h1, _⟩ := soOf_inv l _ _ e
  have z2 := so_eqv s s'
  rw [← h1, so_eqv] at z2
  simp at z2
  rw [e, ← z2]
def tmOf : PV → Option Tm
  | .tup [.str w, a] => if w = wBound then (match a with
      | .int k => if 0 ≤ k then some (.bd k.toNat) else none
      | _ => none) else if w = wSame then (soOf 5 a).map .sm else none
  | .tup [.str w, a, b] => if w = wFor then (soOf 5 a).bind fun s => (tmOf b).map (.fn s) else if w = wOf then (tmOf a).bind fun x => (tmOf b).map (.ap x) else if w = wFree then (match a with
      | .str x => if nameOk x then (soOf 5 b).map (.fr x) else none
      | _ => none) else none
  | _ => none
termination_by v => sizeOf v
def Tm.sort : List So → Tm → Option So
  | ar, .bd k => if k < ar.length then ar[ar.length - 1 - k]? else none
  | _, .fr _ s => some s
  | _, .sm s => if (So.fn s (.fn s .t)).dep ≤ 5 then some (.fn s (.fn s .t)) else none
  | ar, .ap a b => (match Tm.sort ar a, Tm.sort ar b with
    | some (.fn x y), some z => if x = z then some y else none
    | _, _ => none)
  | ar, .fn s t => (match Tm.sort (ar ++ [s]) t with
    | some r => if (So.fn s r).dep ≤ 5 then some (.fn s r) else none
    | none => none)
def encS : Option So → PV
  | some s => s.enc
  | none => .non
mutual
/-- data whose texts are not too long -/
def gd : PV → Bool
  | .str x => decide (x.length ≤ lim)
  | .tup xs => gds xs
  | .lst xs => gds xs
  | .dct _ _ => false
  | .obj _ _ => false
  | _ => true
def gds : List PV → Bool
  | [] => true
  | x :: xs => gd x && gds xs
end
mutual
theorem gd_dat : ∀ v : PV, gd v = true → dat v = true
  | .non, _ => rfl
  | .bl _, _ => rfl
  | .int _, _ => rfl
  | .str _, _ => rfl
  | .tup xs, h => by simp only [gd] at h; simp only [dat]; exact gds_dats xs h
  | .lst xs, h => by simp only [gd] at h; simp only [dat]; exact gds_dats xs h
  | .dct _ _, h => by simp [gd] at h
  | .obj _ _, h => by simp [gd] at h
theorem gds_dats : ∀ xs : List PV, gds xs = true → dats xs = true
  | [], _ => rfl
  | x :: xs, h => by
    simp only [gds, Bool.and_eq_true] at h
    simp only [dats, gd_dat x h.1, gds_dats xs h.2, Bool.and_self]
end
/-- the defs about terms, and what they lean on -/
structure HasT (P : Prog) : Prop where
  isName : P.D "is_name" = some d_is_name
  isWhole : P.D "is_whole" = some d_is_whole
  goodSort : P.D "good_sort" = some d_good_sort
  depth : P.D "sort_depth" = some d_sort_depth
  isSort : P.D "is_sort" = some d_is_sort
  isMade : P.D "is_made" = some d_is_made
  leaf : P.D "leaf_sort" = some d_leaf_sort
  sortIn : P.D "sort_in" = some d_sort_in
  most : P.G "MOST_SORT" = some (.int 5)
  mname : P.G "MOST_NAME" = some (.int 8)
  lets : P.G "LETTERS" = some (.str letters)
  figs : P.G "FIGURES" = some (.str figures)
theorem len_sorts {ar : List So} : lenP (.lst (ar.map So.enc)) = some (.int (ar.length : Int)) := by rw [ln_lst, List.length_map]
theorem leaf2_ok (H : HasT P) {n : Nat} {w : List Nat} {a : PV} {ar : List So} {S : Store} (hn : 10 < n) (hg : gd a = true) :
    call P n "leaf_sort" [.val (.tup [.str w, a]), .val (.lst (ar.map So.enc))] S = .ok (encS ((tmOf (.tup [.str w, a])).bind (Tm.sort ar))) S := by
  obtain ⟨n, rfl, hn⟩ := fuel hn
  rw [call_def H.leaf _ _ _ rfl]
  have hd := gd_dat a hg
  have e1 := is_whole_ok H.isWhole (n := n) (v := a) (S := S) (by omega) hd
  have e2 := is_sort_ok H.isSort H.isMade H.most (n := n) (v := a) (S := S) (by omega) hd
  rw [← soOf_made] at e2
  unfold tmOf
  by_cases w1 : w = wBound
  · subst w1
    cases a with
    | int k =>
      by_cases c0 : 0 ≤ k
      · obtain ⟨j, rfl⟩ := Int.eq_ofNat_of_zero_le c0
        have hlen := len_sorts (ar := ar)
        by_cases c1 : j < ar.length
        · have c2 : (j : Int) < (ar.length : Int) := by omega
          obtain ⟨s, hs⟩ : ∃ s, ar[ar.length - 1 - j]? = some s := ⟨_, List.getElem?_eq_getElem (by omega)⟩
          have hat : atp (ar.map So.enc) ((ar.length : Int) - 1 - (j : Int)) = some s.enc := by
            have e : (ar.length : Int) - 1 - (j : Int) = ((ar.length - 1 - j : Nat) : Int) := by omega
            rw [e, at_nat, List.getElem?_map, hs]
            rfl
          generalize (ar.length : Int) = L at hlen c2 hat
          simp [-ln_lst, d_leaf_sort, begins, H.isWhole, e1, encS, Tm.sort, c1, c2, hs, hat, hlen]
        · have c2 : ¬ (j : Int) < (ar.length : Int) := by omega
          generalize (ar.length : Int) = L at hlen c2
          simp [-ln_lst, d_leaf_sort, begins, H.isWhole, e1, encS, Tm.sort, c1, c2, hlen]
      · simp [d_leaf_sort, begins, H.isWhole, e1, encS, c0]
    | _ => simp [d_leaf_sort, begins, H.isWhole, e1, encS]
  · by_cases w2 : w = wSame
    · subst w2
      cases hs : soOf 5 a with
      | none =>
        rw [hs] at e2
        simp [d_leaf_sort, begins, H.isSort, e2, encS, hs]
      | some s =>
        obtain ⟨rfl, ds⟩ := soOf_inv 5 a s hs
        rw [hs] at e2
        have e3 := good_sort_ok H.goodSort H.depth H.most (n := n) (s := .fn s (.fn s .t)) (S := S) (by simp only [So.dep]; omega)
        simp only [So.enc] at e3
        by_cases c : (So.fn s (.fn s .t)).dep ≤ 5
        · simp [d_leaf_sort, begins, H.isSort, H.goodSort, e2, e3, encS, hs, Tm.sort, c, So.enc]
        · simp [d_leaf_sort, begins, H.isSort, H.goodSort, e2, e3, encS, hs, Tm.sort, c, So.enc]
    · simp [d_leaf_sort, begins, w1, w2, encS]
theorem leaf3_ok (H : HasT P) {n : Nat} {w : List Nat} {a c : PV} {ar : List So} {S : Store} (hn : 10 < n) (hg : gd a = true) (hc : gd c = true) (w1 : ¬ w = wFor) (w2 : ¬ w = wOf) :
    call P n "leaf_sort" [.val (.tup [.str w, a, c]), .val (.lst (ar.map So.enc))] S = .ok (encS ((tmOf (.tup [.str w, a, c])).bind (Tm.sort ar))) S := by
  obtain ⟨n, rfl, hn⟩ := fuel hn
  rw [call_def H.leaf _ _ _ rfl]
  have e1 := is_name_ok H.isName H.mname H.lets H.figs (n := n) (v := a) (S := S) (by omega) (gd_dat a hg) (fun x hx => by subst hx; simp only [gd, decide_eq_true_eq] at hg; exact hg)
  have e2 := is_sort_ok H.isSort H.isMade H.most (n := n) (v := c) (S := S) (by omega) (gd_dat c hc)
  rw [← soOf_made] at e2
  unfold tmOf
  by_cases w3 : w = wFree
  · subst w3
    cases a with
    | str x =>
      cases hx : nameOk x with
      | false => simp [d_leaf_sort, begins, H.isName, e1, encS, hx]
      | true =>
        cases hs : soOf 5 c with
        | none =>
          rw [hs] at e2
          simp [d_leaf_sort, begins, H.isName, H.isSort, e1, e2, encS, hx, hs]
        | some s =>
          obtain ⟨rfl, ds⟩ := soOf_inv 5 c s hs
          rw [hs] at e2
          simp [d_leaf_sort, begins, H.isName, H.isSort, e1, e2, encS, hx, hs, Tm.sort]
    | _ => simp [d_leaf_sort, begins, H.isName, e1, encS]
  · simp [d_leaf_sort, begins, w1, w2, w3, encS]
theorem map_inv' {α β : Type} {o : Option α} {f : α → β} {b : β} (h : o.map f = some b) : ∃ a, o = some a ∧ b = f a := by
  cases o with
  | none => cases h
  | some a => cases h; exact ⟨a, rfl, rfl⟩
/-- names and sorts are good -/
def Tm.wf : Tm → Prop
  | .bd _ => True
  | .fr x s => nameOk x = true ∧ s.dep ≤ 5
  | .sm s => s.dep ≤ 5
  | .ap a b => a.wf ∧ b.wf
  | .fn s t => s.dep ≤ 5 ∧ t.wf
theorem sort_dep : ∀ (t : Tm) (ar : List So) (r : So), t.wf → (∀ s ∈ ar, s.dep ≤ 5) → t.sort ar = some r → r.dep ≤ 5
  | .bd k, ar, r, _, har, h => by
    simp only [Tm.sort] at h
    split at h
    · exact har r (List.mem_of_getElem? h)
    · cases h
  | .fr x s, ar, r, hw, har, h => by simp only [Tm.sort] at h; cases h; exact hw.2
  | .sm s, ar, r, hw, har, h => by
    simp only [Tm.sort] at h
    split at h
    · cases h; assumption
    · cases h
  | .ap a b, ar, r, hw, har, h => by
    simp only [Tm.sort] at h
    split at h
    · rename_i x y z e1 e2
      split at h
      · cases h
        have := sort_dep a ar _ hw.1 har e1
        simp only [So.dep] at this
        omega
      · cases h
    · cases h
  | .fn s t, ar, r, hw, har, h => by
    simp only [Tm.sort] at h
    split at h
    · split at h
      · cases h; assumption
      · cases h
    · cases h
theorem tmOf_wf : ∀ (n : Nat) (v : PV) (t : Tm), pd v ≤ n → tmOf v = some t → t.wf := by
  intro n
  induction n with
  | zero =>
    intro v t hn h
    cases v with
    | tup xs => simp [pd] at hn
    | _ => simp [tmOf] at h
  | succ n ih =>
    intro v t hn h
    unfold tmOf at h
    split at h
    · split at h
      · split at h
        · split at h
          · cases h; trivial
          · cases h
        · cases h
      · split at h
        · obtain ⟨s, hs, rfl⟩ := map_inv' h
          exact (soOf_inv _ _ _ hs).2
        · cases h
    · rename_i w a b
      simp only [pd, pds] at hn
      split at h
      · cases e1 : soOf 5 a with
        | none => rw [e1] at h; cases h
        | some s =>
          rw [e1, Option.bind_some] at h
          obtain ⟨t', ht, rfl⟩ := map_inv' h
          exact ⟨(soOf_inv _ _ _ e1).2, ih b t' (by omega) ht⟩
      · split at h
        · cases e1 : tmOf a with
          | none => rw [e1] at h; cases h
          | some x =>
            rw [e1, Option.bind_some] at h
            obtain ⟨t', ht, rfl⟩ := map_inv' h
            exact ⟨ih a x (by omega) e1, ih b t' (by omega) ht⟩
        · split at h
          · split at h
            · split at h
              · rename_i hn
                obtain ⟨s, hs, rfl⟩ := map_inv' h
                exact ⟨hn, (soOf_inv _ _ _ hs).2⟩
              · cases h
            · cases h
          · cases h
    · cases h
theorem tmOf_for {a b : PV} : tmOf (.tup [.str wFor, a, b]) = (soOf 5 a).bind fun s => (tmOf b).map (.fn s) := by
  conv => lhs; unfold tmOf
  rw [if_pos rfl]
theorem tmOf_of {a b : PV} : tmOf (.tup [.str wOf, a, b]) = (tmOf a).bind fun x => (tmOf b).map (.ap x) := by
  conv => lhs; unfold tmOf
  rw [if_neg (by decide), if_pos rfl]
theorem so_non (s : So) : isNon s.enc = false := by cases s <;> rfl
theorem so_okd {s r : So} (h : s.dep ≤ 150) : okd s.enc r.enc = true := by simp [okd, so_dat, so_pd, h]
theorem sort_in_ok (H : HasT P) : ∀ (n : Nat) (v : PV) (ar : List So) (S : Store), pd v + 12 < n → gd v = true → ar.length + pd v ≤ 1000000 → (∀ s ∈ ar, s.dep ≤ 5) →
    call P n "sort_in" [.val v, .val (.lst (ar.map So.enc))] S = .ok (encS ((tmOf v).bind (Tm.sort ar))) S := by
  intro n
  induction n with
  | zero => intro v ar S hn; omega
  | succ n ih =>
    intro v ar S hn hg hl har
    rw [call_def H.sortIn _ _ _ rfl]
    cases v with
    | tup xs =>
      match xs, hg, hn, hl with
      | [], _, _, _ => simp [d_sort_in, begins, encS, tmOf]
      | [x], _, _, _ => simp [d_sort_in, begins, encS, tmOf]
      | x :: y :: z :: u :: r, _, _, _ =>
        have q1 : ¬ 2 = (r.length : Int) + 1 + 1 + 1 + 1 := by omega
        have q2 : ¬ 3 = (r.length : Int) + 1 + 1 + 1 + 1 := by omega
        simp [d_sort_in, begins, encS, tmOf, q1, q2]
      | [x, a], hg, hn, hl =>
        simp only [gd, gds, Bool.and_true, Bool.and_eq_true] at hg
        cases x with
        | str w =>
          have e := leaf2_ok H (n := n) (w := w) (a := a) (ar := ar) (S := S) (by omega) hg.2
          by_cases w1 : w = wFor
          · subst w1; simp [d_sort_in, begins, H.leaf, e]
          · by_cases w2 : w = wOf
            · subst w2; simp [d_sort_in, begins, H.leaf, e]
            · simp [d_sort_in, begins, H.leaf, e, w1, w2]
        | dct ks vs => simp [gd] at hg
        | obj c fs => simp [gd] at hg
        | _ => simp [d_sort_in, begins, encS, tmOf]
      | [x, a, b], hg, hn, hl =>
        simp only [gd, gds, Bool.and_true, Bool.and_eq_true] at hg
        simp only [pd, pds] at hn hl
        cases x with
        | str w =>
          by_cases w1 : w = wFor
          · subst w1
            have e1 := is_sort_ok H.isSort H.isMade H.most (n := n) (v := a) (S := S) (by omega) (gd_dat a hg.2.1)
            rw [← soOf_made] at e1
            cases hs : soOf 5 a with
            | none =>
              rw [hs] at e1
              simp [d_sort_in, begins, H.isSort, e1, encS, tmOf_for, hs]
            | some s =>
              obtain ⟨rfl, ds⟩ := soOf_inv 5 a s hs
              rw [hs] at e1
              have e2 := ih b (ar ++ [s]) S (by omega) hg.2.2 (by rw [List.length_append, List.length_singleton]; omega) (fun x hx => by
                rcases List.mem_append.mp hx with z | z
                · exact har x z
                · rw [List.mem_singleton.mp z]; exact ds)
              rw [List.map_append, List.map_singleton] at e2
              have hl2 : ar.length + 1 ≤ 16777216 := by omega
              rw [tmOf_for, hs, Option.bind_some]
              cases ht : tmOf b with
              | none =>
                rw [ht, Option.bind_none] at e2
                simp only [encS] at e2
                simp [d_sort_in, begins, H.isSort, H.sortIn, e1, e2, encS, hl2]
              | some t =>
                rw [ht, Option.bind_some] at e2
                cases hr : t.sort (ar ++ [s]) with
                | none =>
                  rw [hr] at e2
                  simp only [encS] at e2
                  simp [d_sort_in, begins, H.isSort, H.sortIn, e1, e2, encS, hl2, Tm.sort, hr]
                | some r =>
                  rw [hr] at e2
                  simp only [encS] at e2
                  have dr : r.dep ≤ 5 := sort_dep t (ar ++ [s]) r (tmOf_wf _ b t (Nat.le_refl _) ht) (fun x hx => by
                    rcases List.mem_append.mp hx with z | z
                    · exact har x z
                    · rw [List.mem_singleton.mp z]; exact ds) hr
                  have e3 := good_sort_ok H.goodSort H.depth H.most (n := n) (s := .fn s r) (S := S) (by simp only [So.dep]; omega)
                  simp only [So.enc] at e3
                  by_cases c : (So.fn s r).dep ≤ 5
                  · simp [d_sort_in, begins, H.isSort, H.sortIn, H.goodSort, e1, e2, e3, encS, hl2, Tm.sort, hr, so_non, c, So.enc]
                  · simp [d_sort_in, begins, H.isSort, H.sortIn, H.goodSort, e1, e2, e3, encS, hl2, Tm.sort, hr, so_non, c, So.enc]
          · by_cases w2 : w = wOf
            · subst w2
              have e1 := ih a ar S (by omega) hg.2.1 (by omega) har
              have e2 := ih b ar S (by omega) hg.2.2 (by omega) har
              rw [tmOf_of]
              cases ha : tmOf a with
              | none =>
                rw [ha] at e1
                simp only [encS, Option.bind_none] at e1
                simp [d_sort_in, begins, H.sortIn, e1, e2, encS]
              | some t1 =>
                rw [ha, Option.bind_some] at e1
                cases hb : tmOf b with
                | none =>
                  rw [hb] at e2
                  simp only [encS, Option.bind_none] at e2
                  cases h1 : t1.sort ar with
                  | none => rw [h1] at e1; simp only [encS] at e1; simp [d_sort_in, begins, H.sortIn, e1, e2, encS]
                  | some r1 => rw [h1] at e1; simp only [encS] at e1; cases r1 <;> simp [d_sort_in, begins, H.sortIn, e1, e2, encS, So.enc]
                | some t2 =>
                  rw [hb, Option.bind_some] at e2
                  cases h1 : t1.sort ar with
                  | none => rw [h1] at e1; simp only [encS] at e1; simp [d_sort_in, begins, H.sortIn, e1, e2, encS, Tm.sort, h1]
                  | some r1 =>
                    rw [h1] at e1
                    simp only [encS] at e1
                    cases r1 with
                    | t => simp [d_sort_in, begins, H.sortIn, e1, e2, encS, Tm.sort, h1, So.enc]
                    | i => simp [d_sort_in, begins, H.sortIn, e1, e2, encS, Tm.sort, h1, So.enc]
                    | fn x y =>
                      cases h2 : t2.sort ar with
                      | none => rw [h2] at e2; simp only [encS] at e2; simp [d_sort_in, begins, H.sortIn, e1, e2, encS, Tm.sort, h1, h2, So.enc]
                      | some z =>
                        rw [h2] at e2
                        simp only [encS] at e2
                        have d1 := sort_dep t1 ar _ (tmOf_wf _ a t1 (Nat.le_refl _) ha) har h1
                        simp only [So.dep] at d1
                        have ok : okd x.enc z.enc = true := so_okd (by omega)
                        have q := so_eqv x z
                        simp only [So.enc] at e1
                        by_cases c : x = z
                        · subst c
                          simp [d_sort_in, begins, H.sortIn, e1, e2, encS, Tm.sort, h1, h2, so_non, ok, q]
                        · simp [d_sort_in, begins, H.sortIn, e1, e2, encS, Tm.sort, h1, h2, so_non, ok, q, c]
            · have e := leaf3_ok H (n := n) (w := w) (a := a) (c := b) (ar := ar) (S := S) (by omega) hg.2.1 hg.2.2 w1 w2
              simp [d_sort_in, begins, H.leaf, e, w1, w2]
        | dct ks vs => simp [gd] at hg
        | obj c fs => simp [gd] at hg
        | _ => simp [d_sort_in, begins, encS, tmOf]
    | dct ks vs => simp [gd] at hg
    | obj c fs => simp [gd] at hg
    | _ => simp [d_sort_in, begins, encS, tmOf]
end
end Pg
end
section
set_option maxHeartbeats 400000
namespace Pg
open Ev

theorem tmOf_inv : ∀ (n : Nat) (v : PV) (t : Tm), pd v ≤ n → tmOf v = some t → v = t.enc := by
  intro n
  induction n with
  | zero =>
    intro v t hn h
    cases v with
    | tup xs => simp [pd] at hn
    | _ => simp [tmOf] at h
  | succ n ih =>
    intro v t hn h
    unfold tmOf at h
    split at h
    · split at h
      · rename_i w a hw
        subst hw
        split at h
        · split at h
          · rename_i c
            cases h
            simp only [Tm.enc, Int.toNat_of_nonneg c]
          · cases h
        · cases h
      · split at h
        · rename_i hw
          subst hw
          obtain ⟨s, hs, rfl⟩ := map_inv' h
          rw [(soOf_inv _ _ _ hs).1]
          rfl
        · cases h
    · rename_i w a b
      simp only [pd, pds] at hn
      split at h
      · rename_i hw
        subst hw
        cases e1 : soOf 5 a with
        | none => rw [e1] at h; cases h
        | some s =>
          rw [e1, Option.bind_some] at h
          obtain ⟨t', ht, rfl⟩ := map_inv' h
          rw [(soOf_inv _ _ _ e1).1, ih b t' (by omega) ht]
          rfl
      · split at h
        · rename_i hw
          subst hw
          cases e1 : tmOf a with
          | none => rw [e1] at h; cases h
          | some x =>
            rw [e1, Option.bind_some] at h
            obtain ⟨t', ht, rfl⟩ := map_inv' h
            rw [ih a x (by omega) e1, ih b t' (by omega) ht]
            rfl
        · split at h
          · rename_i hw
            subst hw
            split at h
            · split at h
              · obtain ⟨s, hs, rfl⟩ := map_inv' h
                rw [(soOf_inv _ _ _ hs).1]
                rfl
              · cases h
            · cases h
          · cases h
    · cases h
theorem tmOf_enc : ∀ t : Tm, t.wf → tmOf t.enc = some t
  | .bd k, _ => by simp [Tm.enc, tmOf]
  | .fr x s, h => by simp [Tm.enc, tmOf, h.1, soOf_enc h.2]
  | .sm s, h => by
    have h' : s.dep ≤ 5 := h
    simp only [Tm.enc]
    conv => lhs; unfold tmOf
    rw [if_neg (by decide), if_pos rfl, soOf_enc h']
    rfl
  | .ap a b, h => by simp only [Tm.enc]; rw [tmOf_of, tmOf_enc a h.1, tmOf_enc b h.2]; rfl
  | .fn s t, h => by simp only [Tm.enc]; rw [tmOf_for, soOf_enc h.1, tmOf_enc t h.2]; rfl
theorem so_gd : ∀ s : So, gd s.enc = true
  | .t => rfl
  | .i => rfl
  | .fn a b => by simp [So.enc, gd, gds, so_gd a, so_gd b]
theorem name_len {x : List Nat} (h : nameOk x = true) : x.length ≤ 8 := by
  simp only [nameOk, Bool.and_eq_true, decide_eq_true_eq] at h
  exact h.1.1.2
theorem tm_gd : ∀ t : Tm, t.wf → gd t.enc = true
  | .bd k, _ => rfl
  | .fr x s, h => by
    have := name_len h.1
    have h2 : x.length ≤ 16777216 := Nat.le_trans this (by decide)
    simp [Tm.enc, gd, gds, so_gd, h2]
  | .sm s, h => by simp [Tm.enc, gd, gds, so_gd]
  | .ap a b, h => by simp [Tm.enc, gd, gds, tm_gd a h.1, tm_gd b h.2]
  | .fn s t, h => by simp [Tm.enc, gd, gds, so_gd, tm_gd t h.2]
theorem tm_pd : ∀ t : Tm, t.wf → pd t.enc ≤ t.depth + 6
  | .bd k, _ => by simp [Tm.enc, pd, pds]
  | .fr x s, h => by have := h.2; simp only [Tm.enc, pd, pds, so_pd]; omega
  | .sm s, h => by
    have h' : s.dep ≤ 5 := h
    simp only [Tm.enc, pd, pds, so_pd]; omega
  | .ap a b, h => by
    have h1 := tm_pd a h.1
    have h2 := tm_pd b h.2
    simp only [Tm.enc, pd, pds, Tm.depth]; omega
  | .fn s t, h => by
    have h1 := tm_pd t h.2
    have := h.1
    simp only [Tm.enc, pd, pds, so_pd, Tm.depth]; omega
theorem pd_depth : ∀ t : Tm, t.depth ≤ pd t.enc
  | .bd k => Nat.zero_le _
  | .fr x s => Nat.zero_le _
  | .sm s => Nat.zero_le _
  | .ap a b => by
    have h1 := pd_depth a
    have h2 := pd_depth b
    simp only [Tm.enc, pd, pds, Tm.depth]; omega
  | .fn s t => by
    have h1 := pd_depth t
    simp only [Tm.enc, pd, pds, Tm.depth]; omega
section
variable {P : Prog}
theorem size_of_ok (h : P.D "size_of" = some d_size_of) : ∀ (t : Tm) (n : Nat) (S : Store), t.depth < n → call P n "size_of" [.val t.enc] S = .ok (.int t.size) S
  | .bd k, n, S, hn => by
    obtain ⟨n, rfl, hn⟩ := fuel hn
    rw [call_def h _ _ _ rfl]
    simp [d_size_of, begins, Tm.enc, Tm.size]
  | .fr x s, n, S, hn => by
    obtain ⟨n, rfl, hn⟩ := fuel hn
    rw [call_def h _ _ _ rfl]
    simp [d_size_of, begins, Tm.enc, Tm.size]
  | .sm s, n, S, hn => by
    obtain ⟨n, rfl, hn⟩ := fuel hn
    rw [call_def h _ _ _ rfl]
    simp [d_size_of, begins, Tm.enc, Tm.size]
  | .ap a b, n, S, hn => by
    obtain ⟨n, rfl, hn⟩ := fuel hn
    rw [call_def h _ _ _ rfl]
    simp only [Tm.depth] at hn
    have e1 := size_of_ok h a n S (by omega)
    have e2 := size_of_ok h b n S (by omega)
    simp [d_size_of, begins, Tm.enc, Tm.size, h, e1, e2]
  | .fn s t, n, S, hn => by
    obtain ⟨n, rfl, hn⟩ := fuel hn
    rw [call_def h _ _ _ rfl]
    simp only [Tm.depth] at hn
    have e1 := size_of_ok h t n S (by omega)
    simp [d_size_of, begins, Tm.enc, Tm.size, h, e1]
theorem depth_of_ok (h : P.D "depth_of" = some d_depth_of) : ∀ (t : Tm) (n : Nat) (S : Store), t.depth < n → call P n "depth_of" [.val t.enc] S = .ok (.int t.depth) S
  | .bd k, n, S, hn => by
    obtain ⟨n, rfl, hn⟩ := fuel hn
    rw [call_def h _ _ _ rfl]
    simp [d_depth_of, begins, Tm.enc, Tm.depth]
  | .fr x s, n, S, hn => by
    obtain ⟨n, rfl, hn⟩ := fuel hn
    rw [call_def h _ _ _ rfl]
    simp [d_depth_of, begins, Tm.enc, Tm.depth]
  | .sm s, n, S, hn => by
    obtain ⟨n, rfl, hn⟩ := fuel hn
    rw [call_def h _ _ _ rfl]
    simp [d_depth_of, begins, Tm.enc, Tm.depth]
  | .ap a b, n, S, hn => by
    obtain ⟨n, rfl, hn⟩ := fuel hn
    rw [call_def h _ _ _ rfl]
    simp only [Tm.depth] at hn
    have e1 := depth_of_ok h a n S (by omega)
    have e2 := depth_of_ok h b n S (by omega)
    simp [d_depth_of, begins, Tm.enc, Tm.depth, h, e1, e2]
    split <;> omega
  | .fn s t, n, S, hn => by
    obtain ⟨n, rfl, hn⟩ := fuel hn
    rw [call_def h _ _ _ rfl]
    simp only [Tm.depth] at hn
    have e1 := depth_of_ok h t n S (by omega)
    simp [d_depth_of, begins, Tm.enc, Tm.depth, h, e1]
/-- the bounds -/
def Tm.small (t : Tm) : Bool := decide (t.depth ≤ 40) && decide (t.size ≤ 600)
structure HasM (P : Prog) : Prop extends HasT P where
  size : P.D "size_of" = some d_size_of
  deep : P.D "depth_of" = some d_depth_of
  small : P.D "is_small" = some d_is_small
  isTerm : P.D "is_term" = some d_is_term
  mdepth : P.G "MOST_DEPTH" = some (.int 40)
  msize : P.G "MOST_SIZE" = some (.int 600)
theorem is_small_ok (H : HasM P) {t : Tm} {n : Nat} {S : Store} (hn : t.depth + 1 < n) : call P n "is_small" [.val t.enc] S = .ok (.bl t.small) S := by
  obtain ⟨n, rfl, hn⟩ := fuel hn
  rw [call_def H.small _ _ _ rfl]
  have e1 := depth_of_ok H.deep t n S (by omega)
  have e2 := size_of_ok H.size t n S (by omega)
  by_cases c1 : t.depth ≤ 40
  · have c1' : (t.depth : Int) ≤ 40 := by omega
    by_cases c2 : t.size ≤ 600
    · have c2' : (t.size : Int) ≤ 600 := by omega
      simp [d_is_small, begins, H.size, H.deep, H.mdepth, H.msize, e1, e2, c1, c2, c1', c2', Tm.small]
    · have c2' : ¬ (t.size : Int) ≤ 600 := by omega
      simp [d_is_small, begins, H.size, H.deep, H.mdepth, H.msize, e1, e2, c1, c2, c1', c2', Tm.small]
  · have c1' : ¬ (t.depth : Int) ≤ 40 := by omega
    simp [d_is_small, begins, H.size, H.deep, H.mdepth, H.msize, e1, e2, c1, c1', Tm.small]
def isTerm (v : PV) : Bool := match tmOf v with
  | some t => (t.sort []).isSome && t.small
  | none => false
theorem is_term_ok (H : HasM P) {v : PV} {n : Nat} {S : Store} (hn : pd v + 13 < n) (hg : gd v = true) (hp : pd v ≤ 1000000) : call P n "is_term" [.val v] S = .ok (.bl (isTerm v)) S := by
  obtain ⟨n, rfl, hn⟩ := fuel hn
  rw [call_def H.isTerm _ _ _ rfl]
  have e1 := sort_in_ok H.toHasT n v [] S (by omega) hg (by simpa using hp) (by simp)
  rw [List.map_nil] at e1
  unfold isTerm
  cases ht : tmOf v with
  | none =>
    rw [ht] at e1
    simp only [Option.bind_none, encS] at e1
    simp [d_is_term, begins, H.sortIn, e1]
  | some t =>
    rw [ht, Option.bind_some] at e1
    cases hs : t.sort [] with
    | none =>
      rw [hs] at e1
      simp only [encS] at e1
      simp [d_is_term, begins, H.sortIn, e1, hs]
    | some s =>
      rw [hs] at e1
      simp only [encS] at e1
      have hv := tmOf_inv _ v t (Nat.le_refl _) ht
      have hd := pd_depth t
      rw [← hv] at hd
      have e2 := is_small_ok H (t := t) (n := n) (S := S) (by omega)
      rw [← hv] at e2
      simp [d_is_term, begins, H.sortIn, H.small, e1, e2, hs, so_non]
theorem isTerm_enc {t : Tm} (h : t.wf) : isTerm t.enc = ((t.sort []).isSome && t.small) := by
  unfold isTerm
  rw [tmOf_enc t h]
end
end Pg
end
section
set_option maxHeartbeats 400000
namespace Pg
open Ev

theorem atp_mem {α : Type} {xs : List α} {i : Int} (h0 : 0 ≤ i) (h1 : i < (xs.length : Int)) : ∃ x ∈ xs, atp xs i = some x := by
  obtain ⟨j, rfl⟩ := Int.eq_ofNat_of_zero_le h0
  rw [at_nat]
  have h2 : j < xs.length := by omega
  exact ⟨xs[j], List.getElem_mem h2, List.getElem?_eq_getElem h2⟩
theorem mod_lt {x : Int} {m : Nat} (h : 0 < m) : 0 ≤ x % (m : Int) ∧ x % (m : Int) < (m : Int) := ⟨Int.emod_nonneg _ (by omega), Int.emod_lt_of_pos _ (by omega)⟩
/-- the names that the law draws -/
def lawNames : List (List Nat) := [[120], [121], [112], [113, 55], [102], [97, 98, 99, 100, 101, 102, 103, 104]]
theorem lawNames_ok {x : List Nat} (h : x ∈ lawNames) : nameOk x = true := by
  simp only [lawNames, List.mem_cons, List.not_mem_nil, or_false] at h
  rcases h with rfl | rfl | rfl | rfl | rfl | rfl <;> decide
section
variable {P : Prog}
theorem law_some_sort_ok (h : P.D "_law_some_sort" = some d__law_some_sort) {n : Nat} (x : Int) {S : Store} (hn : 0 < n) : ∃ s : So, call P n "_law_some_sort" [.val (.int x)] S = .ok s.enc S ∧ s.dep ≤ 1 := by
  obtain ⟨n, rfl, hn⟩ := fuel hn
  rw [call_def h _ _ _ rfl]
  obtain ⟨y, hy, e⟩ := atp_mem (xs := [So.t, So.i, So.t, So.fn .i .t, So.fn .t .t, So.fn .i .i].map So.enc) (i := x % 6) (by omega) (by simp; omega)
  obtain ⟨s, hs, rfl⟩ := List.mem_map.mp hy
  refine ⟨s, ?_, ?_⟩
  · simp only [List.map_cons, List.map_nil, So.enc] at e
    simp [d__law_some_sort, begins, e]
  · simp only [List.mem_cons, List.not_mem_nil, or_false] at hs
    rcases hs with rfl | rfl | rfl | rfl | rfl | rfl <;> decide
theorem law_leaf_ok (h : P.D "_law_leaf" = some d__law_leaf) {n : Nat} (s : So) (x : Int) {S : Store} (hn : 0 < n) : ∃ nm : List Nat, call P n "_law_leaf" [.val s.enc, .val (.int x)] S = .ok (Tm.fr nm s).enc S ∧ nm ∈ lawNames := by
  obtain ⟨n, rfl, hn⟩ := fuel hn
  rw [call_def h _ _ _ rfl]
  obtain ⟨m, hm, e1⟩ := atp_mem (xs := [PV.int 3, PV.int 6]) (i := x / 6 % 2) (by omega) (by simp; omega)
  have : ∃ j : Int, m = .int j ∧ 0 < j ∧ j ≤ 6 := by
    simp only [List.mem_cons, List.not_mem_nil, or_false] at hm
    rcases hm with rfl | rfl
    · exact ⟨3, rfl, by decide, by decide⟩
    · exact ⟨6, rfl, by decide, by decide⟩
  obtain ⟨j, rfl, j0, j6⟩ := this
  obtain ⟨y, hy, e⟩ := atp_mem (xs := ([[120], [121], [112], [113, 55], [102], [97, 98, 99, 100, 101, 102, 103, 104]] : List (List Nat)).map PV.str) (i := x % j) (Int.emod_nonneg _ (by omega)) (by have := Int.emod_lt_of_pos x j0; simp; omega)
  obtain ⟨nm, hs, rfl⟩ := List.mem_map.mp hy
  refine ⟨nm, ?_, ?_⟩
  · simp only [List.map_cons, List.map_nil] at e
    simp [d__law_leaf, begins, e, e1, Tm.enc, j0]
  · exact hs
/-- where a sort stands around -/
def places (ar : List So) (s : So) : List Nat := (List.range ar.length).filter fun j => decide (ar[ar.length - 1 - j]? = some s)
theorem places_ok (ar : List So) (s : So) {n : Nat} {S : Store} {a0 a1 a4 a5 a6 a7 a8 : Option Sl} (hl : ar.length ≤ 1000) (hd : s.dep ≤ 5) :
    ev (cfg P n) (.lc 8 (.range [(.prim .len [(.var 3)])]) (.var 8) [(.prim (.cmp .eq) [(.prim .sub [(.var 3), (.prim (.bin .sub) [(.prim (.bin .sub) [(.prim .len [(.var 3)]), (.int 1)]), (.var 8)])]), (.var 2)])]) [a0, a1, some (.val s.enc), some (.val (.lst (ar.map So.enc))), a4, a5, a6, a7, a8] S
      = .ok (.val (.lst ((places ar s).map fun j : Nat => PV.int (j : Int)))) S := by
  have hlen := len_sorts (ar := ar)
  have hr := range1_ok (ar.length : Int) (by omega) (by omega)
  rw [Int.toNat_natCast] at hr
  rw [e_lc, cfg_cm, if_pos rfl]
  have e1 : evIt (cfg P n) (.range [(.prim .len [(.var 3)])]) [a0, a1, some (.val s.enc), some (.val (.lst (ar.map So.enc))), a4, a5, a6, a7, a8] S = .ok (rangeList 0 ar.length) S := by
    generalize (ar.length : Int) = L at hlen hr
    simp [-ln_lst, hlen, hr]
  rw [e1, Out.bind_ok, lcGo_ok (p := fun v => match v with
    | .int j => decide (ar[ar.length - 1 - j.toNat]? = some s)
    | _ => false) (h := fun v => v)]
  · unfold places rangeList
    simp [List.filter_map, Function.comp_def]
  · intro x hx
    obtain ⟨k, hk, rfl⟩ := range_mem hx
    obtain ⟨r, hr⟩ : ∃ s, ar[ar.length - 1 - k]? = some s := ⟨_, List.getElem?_eq_getElem (by omega)⟩
    have hat : atp (ar.map So.enc) ((ar.length : Int) - 1 - (k : Int)) = some r.enc := by
      have e : (ar.length : Int) - 1 - (k : Int) = ((ar.length - 1 - k : Nat) : Int) := by omega
      rw [e, at_nat, List.getElem?_map, hr]
      rfl
    have ok : okd r.enc s.enc = true := by simp [okd, so_dat, so_pd]; omega
    have q := so_eqv r s
    generalize (ar.length : Int) = L at hlen hat
    simp [-ln_lst, hlen, hat, ok, q, hr]
  · intro x hx _
    simp
  · simp [rangeList]; exact Nat.le_trans hl (by decide)
structure HasP (P : Prog) : Prop where
  cell : P.D "_law_cell" = some d__law_cell
  drawn : P.D "_law_drawn" = some d__law_drawn
  sdep : P.D "_law_sort_depth" = some d__law_sort_depth
  some_sort : P.D "_law_some_sort" = some d__law_some_sort
  leaf : P.D "_law_leaf" = some d__law_leaf
  part : P.D "_law_part" = some d__law_part
theorem pow_step (d : Nat) : 2 ^ (d + 1 + 2) = 2 * 2 ^ (d + 2) := by rw [Nat.pow_succ 2 (d + 2)]; omega
theorem pow_ge (d : Nat) : 4 ≤ 2 ^ (d + 2) := by
  have := Nat.one_le_two_pow (n := d)
  rw [Nat.pow_add]; omega
theorem dats_nats (l : List Nat) : dats (l.map fun j : Nat => PV.int (j : Int)) = true := by
  induction l with
  | nil => rfl
  | cons a r ih => simp only [List.map_cons, dats, dat, ih, Bool.and_self]
theorem places_mem {ar : List So} {s : So} {j : Nat} (h : j ∈ places ar s) : (Tm.bd j).sort ar = some s := by
  unfold places at h
  obtain ⟨h1, h2⟩ := List.mem_filter.mp h
  have h3 := List.mem_range.mp h1
  simp only [decide_eq_true_eq] at h2
  simp only [Tm.sort, if_pos h3, h2]
/-- names are good, sorts not deeper than d -/
def Tm.wfd (d : Nat) : Tm → Prop
  | .bd _ => True
  | .fr x s => nameOk x = true ∧ s.dep ≤ d
  | .sm s => s.dep ≤ d
  | .ap a b => a.wfd d ∧ b.wfd d
  | .fn s t => s.dep ≤ d ∧ t.wfd d
theorem wfd_wf {d : Nat} (hd : d ≤ 5) : ∀ t : Tm, t.wfd d → t.wf
  | .bd _, _ => trivial
  | .fr x s, h => ⟨h.1, Nat.le_trans h.2 hd⟩
  | .sm s, h => Nat.le_trans (show s.dep ≤ d from h) hd
  | .ap a b, h => ⟨wfd_wf hd a h.1, wfd_wf hd b h.2⟩
  | .fn s t, h => ⟨Nat.le_trans h.1 hd, wfd_wf hd t h.2⟩
/-- a term as the law draws it: its names, its sorts' depth -/
def Tm.drawn : Tm → Prop
  | .bd _ => True
  | .fr x s => x ∈ lawNames ∧ s.dep ≤ 3
  | .sm s => s.dep ≤ 3
  | .ap a b => a.drawn ∧ b.drawn
  | .fn s t => s.dep ≤ 3 ∧ t.drawn
/-- how often variables and what is bound stand in a term -/
def Tm.occ : Tm → Nat
  | .fr _ _ => 1
  | .bd _ => 1
  | .ap a b => a.occ + b.occ
  | .fn _ t => t.occ
  | _ => 0
theorem drawn_wfd : ∀ t : Tm, t.drawn → t.wfd 3
  | .bd _, _ => trivial
  | .fr x s, h => ⟨lawNames_ok h.1, h.2⟩
  | .sm s, h => h
  | .ap a b, h => ⟨drawn_wfd a h.1, drawn_wfd b h.2⟩
  | .fn s t, h => ⟨h.1, drawn_wfd t h.2⟩
def partOk (P : Prog) (ns : List Int) (d : Nat) : Prop := ∀ (n : Nat) (k : Int) (s : So) (ar : List So) (S : Store), d + 6 < n → s.dep ≤ 3 → (∀ x ∈ ar, x.dep ≤ 3) → ar.length + d ≤ 1000 →
    ∃ t : Tm, call P n "_law_part" [.val (.lst (ns.map .int)), .val (.int k), .val s.enc, .val (.lst (ar.map So.enc)), .val (.int (d : Int))] S = .ok t.enc S ∧ t.wfd 3 ∧ t.sort ar = some s ∧ t.depth ≤ 2 * d ∧ t.size + 3 ≤ 2 ^ (d + 2) ∧ t.drawn ∧ t.occ ≤ 2 ^ d
theorem part_step (H : HasP P) {ns : List Int} (hns : ns.length ≤ 63) (d : Nat) (ih : ∀ d', d = d' + 1 → partOk P ns d') : partOk P ns d := by
  intro n k s ar S hn hs har hl
  obtain ⟨n, rfl, hn⟩ := fuel hn
  rw [call_def H.part _ _ _ rfl]
  obtain ⟨c, e1⟩ := law_cell_ok H.cell hns (n := n) k (S := S) (by omega)
  obtain ⟨m, e2⟩ := law_drawn_ok H.drawn (n := n) c k (S := S) (by omega)
  have e3 := places_ok (P := P) ar s (n := n) (S := S) (a0 := some (.val (.lst (ns.map .int)))) (a1 := some (.val (.int k))) (a4 := some (.val (.int (d : Int)))) (a5 := some (.val (.int (m : Int)))) (a6 := none) (a7 := none) (a8 := none) (by omega) (by omega)
  have e4 := law_sort_depth_ok H.sdep s n S (by omega)
  have m1 : mulOk 3 k = true := mul_l (by decide) (by decide)
  have pg := pow_ge d
  by_cases b1 : places ar s ≠ [] ∧ (m : Int) % 3 < 2
  · obtain ⟨b1, b2⟩ := b1
    obtain ⟨j, r, hp⟩ := List.exists_cons_of_ne_nil b1
    have hlen : lenP (.lst ((places ar s).map fun j : Nat => PV.int (j : Int))) = some (.int ((places ar s).length : Int)) := by rw [ln_lst, List.length_map]
    have p1 : (0 : Int) < ((places ar s).length : Int) := by rw [hp, List.length_cons]; omega
    have okp : okd (.lst ((places ar s).map fun j : Nat => PV.int (j : Int))) (.lst []) = true := by simp [okd, dat, dats, pd, pds, dats_nats]
    have neq : eqv (.lst ((places ar s).map fun j : Nat => PV.int (j : Int))) (.lst []) = false := by rw [hp]; simp [eqv, eqvs]
    obtain ⟨y, hy, e⟩ := atp_mem (xs := (places ar s).map fun j : Nat => PV.int (j : Int)) (i := (m : Int) / 3 % ((places ar s).length : Int)) (Int.emod_nonneg _ (by omega)) (by rw [List.length_map]; exact Int.emod_lt_of_pos _ p1)
    obtain ⟨j', hj, rfl⟩ := List.mem_map.mp hy
    refine ⟨.bd j', ?_, trivial, places_mem hj, Nat.zero_le _, by simp only [Tm.size]; exact pg, trivial, Nat.one_le_two_pow⟩
    generalize (places ar s).map (fun j : Nat => PV.int (j : Int)) = L at *
    generalize ((places ar s).length : Int) = l at *
    simp [-e_lc, -ln_lst, d__law_part, begins, H.drawn, H.cell, e1, e2, e3, okp, neq, b2, hlen, p1, e, Tm.enc]
  · have okp : okd (.lst ((places ar s).map fun j : Nat => PV.int (j : Int))) (.lst []) = true := by simp [okd, dat, dats, pd, pds, dats_nats]
    have hskip : ∃ b : Bool, eqv (.lst ((places ar s).map fun j : Nat => PV.int (j : Int))) (.lst []) = b ∧ (b = true ∨ ¬ (m : Int) % 3 < 2) := by
      cases hp : places ar s with
      | nil => exact ⟨_, rfl, .inl (by simp [eqv, eqvs])⟩
      | cons j r => exact ⟨_, rfl, .inr (fun h => b1 ⟨by rw [hp]; simp, h⟩)⟩
    obtain ⟨b, hb, hbb⟩ := hskip
    generalize (places ar s).map (fun j : Nat => PV.int (j : Int)) = L at *
    have cond : ev (cfg P n) (.or_ [(.prim (.cmp .eq) [(.var 4), (.int 0)]), (.prim (.cmp .eq) [(.prim (.bin .mod) [(.var 5), (.int 7)]), (.int 0)]), (.prim (.cmp .gt) [(.call "_law_sort_depth" [(.var 2)]), (.int 2)])]) [some (.val (.lst (ns.map .int))), some (.val (.int k)), some (.val s.enc), some (.val (.lst (ar.map So.enc))), some (.val (.int (d : Int))), some (.val (.int ((m : Int) / 16))), some (.val (.lst L)), none, none] S = .ok (.val (.bl (decide (d = 0 ∨ (m : Int) / 16 % 7 = 0 ∨ 2 < s.dep)))) S := by
      by_cases q1 : d = 0
      · have q1' : (d : Int) = 0 := by omega
        simp [q1]
      · have q1' : ¬ (d : Int) = 0 := by omega
        by_cases q2 : (m : Int) / 16 % 7 = 0
        · simp [q1, q1', q2]
        · by_cases q3 : 2 < s.dep
          · have q3' : (2 : Int) < (s.dep : Int) := by omega
            simp [q1, q1', q2, q3, q3', H.sdep, e4]
          · have q3' : ¬ (2 : Int) < (s.dep : Int) := by omega
            simp [q1, q1', q2, q3, q3', H.sdep, e4]
    by_cases c1 : d = 0 ∨ (m : Int) / 16 % 7 = 0 ∨ 2 < s.dep
    · rw [decide_eq_true c1] at cond
      by_cases c2 : ∃ a, s = .fn a (.fn a .t) ∧ (m : Int) / 16 / 7 % 3 = 0
      · obtain ⟨a, rfl, c2⟩ := c2
        simp only [So.dep] at hs
        refine ⟨.sm a, ?_, show a.dep ≤ 3 by omega, by simp only [Tm.sort]; rw [if_pos (by simp only [So.dep]; omega)], Nat.zero_le _, by simp only [Tm.size]; exact pg, show a.dep ≤ 3 by omega, Nat.zero_le _⟩
        have okd' : okd (So.fn a (.fn a .t)).enc (So.fn a (.fn a .t)).enc = true := by simp [okd, so_dat, so_pd, So.dep]; omega
        have q := so_eqv (.fn a (.fn a .t)) (.fn a (.fn a .t))
        simp only [So.enc] at okd' q e3 e4 cond
        rcases hbb with rfl | hb2
        · simp [-e_lc, -e_or, d__law_part, begins, H.drawn, H.cell, e1, e2, e3, okp, hb, cond, So.enc, okd', q, c2, Tm.enc]
        · simp [-e_lc, -e_or, d__law_part, begins, H.drawn, H.cell, e1, e2, e3, okp, hb, hb2, cond, So.enc, okd', q, c2, Tm.enc]
      · obtain ⟨nm, e5, hnm⟩ := law_leaf_ok H.leaf (n := n) s ((m : Int) / 16 / 7) (S := S) (by omega)
        refine ⟨.fr nm s, ?_, ⟨lawNames_ok hnm, by omega⟩, rfl, Nat.zero_le _, by simp only [Tm.size]; exact pg, ⟨hnm, by omega⟩, Nat.one_le_two_pow⟩
        cases s with
        | t =>
          simp only [So.enc] at e3 e4 e5 cond
          rcases hbb with rfl | hb2
          · simp [-e_lc, -e_or, d__law_part, begins, H.drawn, H.cell, H.leaf, e1, e2, e3, okp, hb, cond, So.enc, e5]
          · simp [-e_lc, -e_or, d__law_part, begins, H.drawn, H.cell, H.leaf, e1, e2, e3, okp, hb, hb2, cond, So.enc, e5]
        | i =>
          simp only [So.enc] at e3 e4 e5 cond
          rcases hbb with rfl | hb2
          · simp [-e_lc, -e_or, d__law_part, begins, H.drawn, H.cell, H.leaf, e1, e2, e3, okp, hb, cond, So.enc, e5]
          · simp [-e_lc, -e_or, d__law_part, begins, H.drawn, H.cell, H.leaf, e1, e2, e3, okp, hb, hb2, cond, So.enc, e5]
        | fn x y =>
          simp only [So.dep] at hs
          have okd' : okd (So.fn x y).enc (So.fn x (.fn x .t)).enc = true := by simp [okd, so_dat, so_pd, So.dep]; omega
          have q := so_eqv (.fn x y) (.fn x (.fn x .t))
          by_cases c3 : (m : Int) / 16 / 7 % 3 = 0
          · have c4 : ¬ So.fn x y = .fn x (.fn x .t) := fun h => c2 ⟨x, h, c3⟩
            rw [decide_eq_false c4] at q
            simp only [So.enc] at e3 e4 e5 cond okd' q
            rcases hbb with rfl | hb2
            · simp [-e_lc, -e_or, d__law_part, begins, H.drawn, H.cell, H.leaf, e1, e2, e3, okp, hb, cond, So.enc, e5, okd', q, c3]
            · simp [-e_lc, -e_or, d__law_part, begins, H.drawn, H.cell, H.leaf, e1, e2, e3, okp, hb, hb2, cond, So.enc, e5, okd', q, c3]
          · simp only [So.enc] at e3 e4 e5 cond
            rcases hbb with rfl | hb2
            · simp [-e_lc, -e_or, d__law_part, begins, H.drawn, H.cell, H.leaf, e1, e2, e3, okp, hb, cond, So.enc, e5, c3]
            · simp [-e_lc, -e_or, d__law_part, begins, H.drawn, H.cell, H.leaf, e1, e2, e3, okp, hb, hb2, cond, So.enc, e5, c3]
    · rw [decide_eq_false c1] at cond
      obtain ⟨d, rfl⟩ : ∃ d', d = d' + 1 := ⟨d - 1, by omega⟩
      have dd : ((d + 1 : Nat) : Int) - 1 = (d : Int) := by omega
      rw [pow_step] at *
      have pg' := pow_ge d
      have ih := ih d rfl
      generalize ((d + 1 : Nat) : Int) = D at *
      have hs2 : s.dep ≤ 2 := by omega
      by_cases c2 : ∃ x y, s = .fn x y ∧ (m : Int) / 16 % 7 < 5
      · obtain ⟨x, y, rfl, c2⟩ := c2
        simp only [So.dep] at hs2
        obtain ⟨t, e5, w1, w2, w3, w4, w5, w6⟩ := ih n (3 * k + 1) y (ar ++ [x]) S (by omega) (by omega) (fun z hz => by
          rcases List.mem_append.mp hz with hz | hz
          · exact har z hz
          · rw [List.mem_singleton.mp hz]; omega) (by rw [List.length_append, List.length_singleton]; omega)
        rw [List.map_append, List.map_singleton] at e5
        have hl2 : ar.length + 1 ≤ 16777216 := by omega
        refine ⟨.fn x t, ?_, ⟨by omega, w1⟩, ?_, by simp only [Tm.depth]; omega, by simp only [Tm.size]; omega, ⟨by omega, w5⟩, by simp only [Tm.occ]; rw [Nat.pow_succ]; omega⟩
        · simp only [So.enc] at e3 e4 cond
          rcases hbb with rfl | hb2
          · simp [-e_lc, -e_or, d__law_part, begins, H.drawn, H.cell, H.part, e1, e2, e3, okp, hb, cond, So.enc, e5, c2, m1, hl2, dd, Tm.enc]
          · simp [-e_lc, -e_or, d__law_part, begins, H.drawn, H.cell, H.part, e1, e2, e3, okp, hb, hb2, cond, So.enc, e5, c2, m1, hl2, dd, Tm.enc]
        · simp only [Tm.sort, w2]
          rw [if_pos (by simp only [So.dep]; omega)]
      · obtain ⟨so, e6, d6⟩ := law_some_sort_ok H.some_sort (n := n) ((m : Int) / 16 / 7) (S := S) (by omega)
        obtain ⟨t2, f5, v1, v2, v3, v4, v5, v6⟩ := ih n (3 * k + 2) so ar S (by omega) (by omega) har (by omega)
        have hh : ∀ x y, s = .fn x y → ¬ (m : Int) / 16 % 7 < 5 := fun x y h1 h2 => c2 ⟨x, y, h1, h2⟩
        by_cases c3 : s = .t ∧ (m : Int) / 16 / 49 % 2 = 0
        · obtain ⟨rfl, c3⟩ := c3
          obtain ⟨t, e5, w1, w2, w3, w4, w5, w6⟩ := ih n (3 * k + 1) so ar S (by omega) (by omega) har (by omega)
          refine ⟨.ap (.ap (.sm so) t) t2, ?_, ⟨⟨show so.dep ≤ 3 by omega, w1⟩, v1⟩, ?_, by simp only [Tm.depth]; omega, by simp only [Tm.size]; omega, ⟨⟨show so.dep ≤ 3 by omega, w5⟩, v5⟩, by simp only [Tm.occ]; rw [Nat.pow_succ]; omega⟩
          · simp only [So.enc] at e3 e4 cond
            rcases hbb with rfl | hb2
            · simp [-e_lc, -e_or, d__law_part, begins, H.drawn, H.cell, H.part, H.some_sort, e1, e2, e3, okp, hb, cond, So.enc, e5, e6, f5, c3, m1, dd, Tm.enc]
            · simp [-e_lc, -e_or, d__law_part, begins, H.drawn, H.cell, H.part, H.some_sort, e1, e2, e3, okp, hb, hb2, cond, So.enc, e5, e6, f5, c3, m1, dd, Tm.enc]
          · simp only [Tm.sort, w2, v2]
            rw [if_pos (by simp only [So.dep]; omega)]
            simp
        · obtain ⟨t, e5, w1, w2, w3, w4, w5, w6⟩ := ih n (3 * k + 1) (.fn so s) ar S (by omega) (by simp only [So.dep]; omega) har (by omega)
          refine ⟨.ap t t2, ?_, ⟨w1, v1⟩, by simp [Tm.sort, w2, v2], by simp only [Tm.depth]; omega, by simp only [Tm.size]; omega, ⟨w5, v5⟩, by simp only [Tm.occ]; rw [Nat.pow_succ]; omega⟩
          simp only [So.enc] at e5
          cases s with
          | t =>
            have c4 : ¬ (m : Int) / 16 / 49 % 2 = 0 := fun h => c3 ⟨rfl, h⟩
            simp only [So.enc] at e3 e4 cond e5
            rcases hbb with rfl | hb2
            · simp [-e_lc, -e_or, d__law_part, begins, H.drawn, H.cell, H.part, H.some_sort, e1, e2, e3, okp, hb, cond, So.enc, e5, e6, f5, c4, m1, dd, Tm.enc]
            · simp [-e_lc, -e_or, d__law_part, begins, H.drawn, H.cell, H.part, H.some_sort, e1, e2, e3, okp, hb, hb2, cond, So.enc, e5, e6, f5, c4, m1, dd, Tm.enc]
          | i =>
            simp only [So.enc] at e3 e4 cond e5
            rcases hbb with rfl | hb2
            · simp [-e_lc, -e_or, d__law_part, begins, H.drawn, H.cell, H.part, H.some_sort, e1, e2, e3, okp, hb, cond, So.enc, e5, e6, f5, m1, dd, Tm.enc]
            · simp [-e_lc, -e_or, d__law_part, begins, H.drawn, H.cell, H.part, H.some_sort, e1, e2, e3, okp, hb, hb2, cond, So.enc, e5, e6, f5, m1, dd, Tm.enc]
          | fn x y =>
            have c4 := hh x y rfl
            have ok2 := okd_str (So.fn x y).enc [116] (so_dat _)
            have q2 : eqv (.tup [x.enc, y.enc]) (.str [116]) = false := by simp [eqv]
            simp only [So.enc] at e3 e4 cond e5 ok2
            rcases hbb with rfl | hb2
            · simp [-e_lc, -e_or, d__law_part, begins, H.drawn, H.cell, H.part, H.some_sort, e1, e2, e3, okp, hb, cond, So.enc, e5, e6, f5, c4, m1, dd, Tm.enc, ok2, q2]
            · simp [-e_lc, -e_or, d__law_part, begins, H.drawn, H.cell, H.part, H.some_sort, e1, e2, e3, okp, hb, hb2, cond, So.enc, e5, e6, f5, c4, m1, dd, Tm.enc, ok2, q2]
theorem law_partX_ok (H : HasP P) {ns : List Int} (hns : ns.length ≤ 63) : ∀ d : Nat, partOk P ns d
  | 0 => part_step H hns 0 (fun d' h => by omega)
  | d + 1 => part_step H hns (d + 1) (fun d' h => by
    cases h
    exact law_partX_ok H hns d)
theorem law_part3_ok (H : HasP P) {ns : List Int} (hns : ns.length ≤ 63) (d : Nat) (n : Nat) (k : Int) (s : So) (ar : List So) (S : Store) (h1 : d + 6 < n) (h2 : s.dep ≤ 3) (h3 : ∀ x ∈ ar, x.dep ≤ 3) (h4 : ar.length + d ≤ 1000) :
    ∃ t : Tm, call P n "_law_part" [.val (.lst (ns.map .int)), .val (.int k), .val s.enc, .val (.lst (ar.map So.enc)), .val (.int (d : Int))] S = .ok t.enc S ∧ t.wfd 3 ∧ t.sort ar = some s ∧ t.depth ≤ 2 * d ∧ t.size + 3 ≤ 2 ^ (d + 2) := by
  obtain ⟨t, e, w1, w2, w3, w4, _⟩ := law_partX_ok H hns d n k s ar S h1 h2 h3 h4
  exact ⟨t, e, w1, w2, w3, w4⟩
theorem law_part_ok (H : HasP P) {ns : List Int} (hns : ns.length ≤ 63) (d n : Nat) (k : Int) (s : So) (ar : List So) (S : Store) (h1 : d + 6 < n) (h2 : s.dep ≤ 3) (h3 : ∀ x ∈ ar, x.dep ≤ 3) (h4 : ar.length + d ≤ 1000) :
    ∃ t : Tm, call P n "_law_part" [.val (.lst (ns.map .int)), .val (.int k), .val s.enc, .val (.lst (ar.map So.enc)), .val (.int (d : Int))] S = .ok t.enc S ∧ t.wf ∧ t.sort ar = some s ∧ t.depth ≤ 2 * d ∧ t.size + 3 ≤ 2 ^ (d + 2) := by
  obtain ⟨t, e, w, r⟩ := law_part3_ok H hns d n k s ar S h1 h2 h3 h4
  exact ⟨t, e, wfd_wf (by decide) t w, r⟩
end
end Pg
end
section
set_option maxHeartbeats 400000
namespace Pg
open Ev

/-! ## terms as texts -/
def t_bound_from : Def := ⟨["text", "at", "end", "figures"], 2,
  [.asg 2 (.call "run_end" [(.var 0), (.var 1), (.gl "FIGURES")]),
   .asg 3 (.sl11 (.var 0) (.var 1) (.var 2)),
   .ifs (.or_ [(.not_ (.cmp2 .le .le (.int 1) (.prim .len [(.var 3)]) (.gl "MOST_FIGURES"))), (.and_ [(.prim (.cmp .eq) [(.prim .sub [(.var 3), (.int 0)]), (.str [48])]), (.prim (.cmp .ne) [(.var 3), (.str [48])])])])
     [.raise "BadText" [110, 111, 32, 116, 101, 114, 109]]
     [],
   .ret (.prim .tup [(.prim .tup [(.str [98, 111, 117, 110, 100]), (.prim .int [(.var 3)])]), (.var 2)])]⟩
def t_free_from : Def := ⟨["text", "at", "end", "name", "sort"], 2,
  [.asg 2 (.call "run_end" [(.var 0), (.var 1), (.prim (.bin .add) [(.gl "LETTERS"), (.gl "FIGURES")])]),
   .asg 3 (.sl11 (.var 0) (.var 1) (.var 2)),
   .ifs (.not_ (.call "is_name" [(.var 3)]))
     [.raise "BadText" [110, 111, 32, 116, 101, 114, 109]]
     [],
   .asgT [4, 2] (.call "sort_from" [(.var 0), (.call "need_sign" [(.var 0), (.var 2), (.str [58])]), (.gl "MOST_SORT")]),
   .ret (.prim .tup [(.prim .tup [(.str [102, 114, 101, 101]), (.var 3), (.var 4)]), (.var 2)])]⟩
abbrev isLF (c : Nat) : Bool := isLetter c || isFigure c
def run (p : Nat → Bool) (x : List Nat) (a : Nat) : List Nat := (x.drop a).takeWhile p
theorem run_step {p : Nat → Bool} {x : List Nat} {a c : Nat} (h : x[a]? = some c) : run p x a = if p c then c :: run p x (a + 1) else [] := by
  obtain ⟨hl, rfl⟩ := List.getElem?_eq_some_iff.mp h
  unfold run
  rw [List.drop_eq_getElem_cons hl, List.takeWhile_cons]
theorem run_end {p : Nat → Bool} {x : List Nat} {a : Nat} (h : x[a]? = none) : run p x a = [] := by
  have : x.length ≤ a := List.getElem?_eq_none_iff.mp h
  unfold run
  rw [List.drop_eq_nil_of_le this]
  rfl
theorem run_take (p : Nat → Bool) (x : List Nat) (a : Nat) : (x.drop a).take (run p x a).length = run p x a := by
  unfold run
  generalize x.drop a = y
  induction y with
  | nil => rfl
  | cons c r ih =>
    rw [List.takeWhile_cons]
    split
    · simp [ih]
    · rfl
theorem run_len (p : Nat → Bool) (x : List Nat) (a : Nat) : (run p x a).length ≤ x.length - a := by
  have := congrArg List.length (run_take p x a)
  rw [List.length_take, List.length_drop] at this
  omega
theorem run_all (p : Nat → Bool) (x : List Nat) (a : Nat) : (run p x a).all p = true := by
  unfold run
  exact List.all_takeWhile
theorem sliceN {x : List Nat} (p m : Nat) (h : x.length ≤ lim) : slP (.str x) (some (p : Int)) (some ((p : Int) + (m : Int))) = some (.str ((x.drop p).take m)) := by
  simp only [slP, h, if_true, Option.map_some, Option.getD_some, cl, cutp]
  rw [if_neg (by omega), if_neg (by omega)]
  congr 2
  have e1 : ((p : Int)).toNat = p := by omega
  have e2 : ((p : Int) + (m : Int)).toNat = p + m := by omega
  rw [e1, e2]
  by_cases hp : p ≤ x.length
  · rw [Nat.min_eq_left hp]
    by_cases hm : p + m ≤ x.length
    · rw [Nat.min_eq_left hm, Nat.add_sub_cancel_left]
    · rw [Nat.min_eq_right (by omega), List.take_of_length_le (by simp), List.take_of_length_le (by simp; omega)]
  · rw [Nat.min_eq_right (by omega), Nat.min_eq_right (by omega), Nat.sub_self, List.drop_eq_nil_of_le (by omega : x.length ≤ p)]
    simp
section
variable {P : Prog}
theorem run_go {n : Nat} {x sg : List Nat} (hx : x.length ≤ lim) {S : Store} : ∀ (k a f : Nat), x.length ≤ a + k → k < f →
    whGo (fun σ' S' => (ev (cfg P n) (.and_ [(.prim (.cmp .lt) [(.var 1), (.prim .len [(.var 0)])]), (.prim (.cmp .in_) [(.prim .sub [(.var 0), (.var 1)]), (.var 2)])]) σ' S').bind fun s S1 => truthOf s S1) (fun σ' S' => exs (cfg P n) [.asg 1 (.prim (.bin .add) [(.var 1), (.int 1)])] σ' S') f [some (.val (.str x)), some (.val (.int (a : Int))), some (.val (.str sg))] S
      = .next [some (.val (.str x)), some (.val (.int ((a : Int) + ((run (fun c => decide (c ∈ sg)) x a).length : Int)))), some (.val (.str sg))] S := by
  have hlen : lenP (.str x) = some (.int (x.length : Int)) := by rw [ln_str, if_pos hx]
  have stop : ∀ (a f : Nat), x.length ≤ a → whGo (fun σ' S' => (ev (cfg P n) (.and_ [(.prim (.cmp .lt) [(.var 1), (.prim .len [(.var 0)])]), (.prim (.cmp .in_) [(.prim .sub [(.var 0), (.var 1)]), (.var 2)])]) σ' S').bind fun s S1 => truthOf s S1) (fun σ' S' => exs (cfg P n) [.asg 1 (.prim (.bin .add) [(.var 1), (.int 1)])] σ' S') (f + 1) [some (.val (.str x)), some (.val (.int (a : Int))), some (.val (.str sg))] S
      = .next [some (.val (.str x)), some (.val (.int ((a : Int) + ((run (fun c => decide (c ∈ sg)) x a).length : Int)))), some (.val (.str sg))] S := by
    intro a f h
    have c : ¬ (a : Int) < (x.length : Int) := by omega
    rw [run_end (List.getElem?_eq_none h)]
    unfold whGo
    generalize (x.length : Int) = l at hlen c
    simp [-ln_str, hlen, c]
  intro k
  induction k with
  | zero =>
    intro a f h hf
    obtain ⟨f, rfl, _⟩ := fuel hf
    exact stop a f h
  | succ k ih =>
    intro a f h hf
    obtain ⟨f, rfl, hf⟩ := fuel hf
    by_cases hl : x.length ≤ a
    · exact stop a f hl
    · have hg : x[a]? = some x[a] := List.getElem?_eq_getElem (by omega)
      have c : (a : Int) < (x.length : Int) := by omega
      have hs : subP (.str x) (.int (a : Int)) = some (.str [x[a]]) := by
        rw [s_str, if_pos hx, at_nat, hg]; rfl
      rw [run_step hg]
      by_cases hm : x[a] ∈ sg
      · have ih1 := ih (a + 1) f (by omega) (by omega)
        rw [if_pos (by simpa using hm)]
        unfold whGo
        rw [Int.natCast_add, Int.natCast_one] at ih1
        have e : (a : Int) + ((x[a] :: run (fun c => decide (c ∈ sg)) x (a + 1)).length : Int) = (a : Int) + 1 + ((run (fun c => decide (c ∈ sg)) x (a + 1)).length : Int) := by
          rw [List.length_cons]; omega
        rw [e, ← ih1]
        generalize (x.length : Int) = l at hlen c
        have hc : (ev (cfg P n) (.and_ [(.prim (.cmp .lt) [(.var 1), (.prim .len [(.var 0)])]), (.prim (.cmp .in_) [(.prim .sub [(.var 0), (.var 1)]), (.var 2)])]) [some (.val (.str x)), some (.val (.int (a : Int))), some (.val (.str sg))] S).bind (fun s S1 => truthOf s S1) = .ok true S := by
          simp [-ln_str, -s_str, hlen, c, hs, hm]
        have hb : exs (cfg P n) [.asg 1 (.prim (.bin .add) [(.var 1), (.int 1)])] [some (.val (.str x)), some (.val (.int (a : Int))), some (.val (.str sg))] S = .next [some (.val (.str x)), some (.val (.int ((a : Int) + 1))), some (.val (.str sg))] S := by simp
        simp only [hc, Out.thn_ok, if_true, hb, SO.turn_next]
      · rw [if_neg (by simpa using hm)]
        unfold whGo
        generalize (x.length : Int) = l at hlen c
        simp [-ln_str, -s_str, hlen, c, hs, hm]
theorem run_end_ok (h : P.D "run_end" = some d_run_end) {n : Nat} {x sg : List Nat} (hx : x.length ≤ 100000) {S : Store} (a : Nat) (hn : 0 < n) :
    call P n "run_end" [.val (.str x), .val (.int (a : Int)), .val (.str sg)] S = .ok (.int ((a : Int) + ((run (fun c => decide (c ∈ sg)) x a).length : Int))) S := by
  obtain ⟨n, rfl, hn⟩ := fuel hn
  rw [call_def h _ _ _ rfl]
  have e := run_go (P := P) (n := n) (x := x) (sg := sg) (S := S) (Nat.le_trans hx (by decide)) x.length a turns (by omega) (Nat.lt_of_le_of_lt hx (by decide))
  have e2 : ex (cfg P n) (.whl (.and_ [(.prim (.cmp .lt) [(.var 1), (.prim .len [(.var 0)])]), (.prim (.cmp .in_) [(.prim .sub [(.var 0), (.var 1)]), (.var 2)])]) [.asg 1 (.prim (.bin .add) [(.var 1), (.int 1)])]) [some (.val (.str x)), some (.val (.int (a : Int))), some (.val (.str sg))] S = .next [some (.val (.str x)), some (.val (.int ((a : Int) + ((run (fun c => decide (c ∈ sg)) x a).length : Int)))), some (.val (.str sg))] S := by
    rw [x_whl, cfg_cm, if_pos rfl, e]
  generalize ((run (fun c => decide (c ∈ sg)) x a).length : Int) = L at e2
  simp [-x_whl, d_run_end, begins, e2]
theorem need_sign_ok (h : P.D "need_sign" = some d_need_sign) (hxc : P.xc "BadText" = true) {n : Nat} {x : List Nat} (hx : x.length ≤ lim) {S : Store} (a c : Nat) (hn : 0 < n) :
    call P n "need_sign" [.val (.str x), .val (.int (a : Int)), .val (.str [c])] S = if x[a]? = some c then .ok (.int ((a : Int) + 1)) S else .err badText S := by
  obtain ⟨n, rfl, hn⟩ := fuel hn
  rw [call_def h _ _ _ rfl]
  cases e : x[a]? with
  | none => simp [d_need_sign, begins, slice1 a hx, e, hxc]
  | some d =>
    by_cases hc : d = c
    · subst hc; simp [d_need_sign, begins, slice1 a hx, e, hxc]
    · simp [d_need_sign, begins, slice1 a hx, e, hxc, hc]
structure HasR (P : Prog) : Prop extends HasM P where
  runEnd : P.D "run_end" = some d_run_end
  needSign : P.D "need_sign" = some d_need_sign
  boundFrom : P.D "bound_from" = some t_bound_from
  freeFrom : P.D "free_from" = some t_free_from
  partFrom : P.D "part_from" = some d_part_from
  readTerm : P.D "read_term" = some d_read_term
  sortFrom : P.D "sort_from" = some d_sort_from
  mfig : P.G "MOST_FIGURES" = some (.int 2)
  xc : P.xc "BadText" = true
def pfB (x : List Nat) (a : Nat) : Option (Tm × Nat) :=
  if (1 ≤ (run isFigure x a).length ∧ (run isFigure x a).length ≤ 2) ∧ ¬ ((run isFigure x a).head? = some 48 ∧ run isFigure x a ≠ [48]) then some (.bd (digVal (run isFigure x a)), a + (run isFigure x a).length) else none
def encP (o : Option (Tm × Nat)) (S : Store) : Out PV := match o with
  | some (t, q) => .ok (.tup [t.enc, .int (q : Int)]) S
  | none => .err badText S
theorem run_figs (x : List Nat) (a : Nat) : run (fun c => decide (c ∈ figures)) x a = run isFigure x a := by
  have : (fun c => decide (c ∈ figures)) = isFigure := funext mem_figures
  rw [this]
theorem bound_from_ok (H : HasR P) {n : Nat} {x : List Nat} (hx : x.length ≤ 100000) {S : Store} (a : Nat) (hn : 1 < n) :
    call P n "bound_from" [.val (.str x), .val (.int (a : Int))] S = encP (pfB x a) S := by
  obtain ⟨n, rfl, hn⟩ := fuel hn
  rw [call_def H.boundFrom _ _ _ rfl]
  have e1 := run_end_ok H.runEnd (n := n) (sg := figures) hx (S := S) a (by omega)
  rw [run_figs] at e1
  have hl : x.length ≤ lim := Nat.le_trans hx (by decide)
  have e2 := sliceN a (run isFigure x a).length hl
  rw [run_take] at e2
  have ha := run_all isFigure x a
  have hfl := run_len isFigure x a
  unfold pfB
  generalize run isFigure x a = f at *
  match f, ha with
  | [], _ => simp [t_bound_from, begins, H.runEnd, H.figs, H.mfig, H.xc, e1, e2, encP] at e2 ⊢; simp [e2]
  | [c], ha =>
    have ha' : (48 ≤ c ∧ c ≤ 57) := by simpa [isFigure] using ha
    by_cases hc : c = 48
    · subst hc
      simp at e1 e2
      simp [t_bound_from, begins, H.runEnd, H.figs, H.mfig, H.xc, e1, e2, encP, intP, Tm.enc]
    · simp at e1 e2
      simp [t_bound_from, begins, H.runEnd, H.figs, H.mfig, H.xc, e1, e2, encP, intP, Tm.enc, hc, ha'.1, ha'.2]
  | [c, d], ha =>
    have ha' : (48 ≤ c ∧ c ≤ 57) ∧ (48 ≤ d ∧ d ≤ 57) := by simpa [isFigure] using ha
    by_cases hc : c = 48
    · subst hc
      simp at e1 e2
      simp [t_bound_from, begins, H.runEnd, H.figs, H.mfig, H.xc, e1, e2, encP, intP, Tm.enc]
    · simp at e1 e2
      simp [t_bound_from, begins, H.runEnd, H.figs, H.mfig, H.xc, e1, e2, encP, intP, Tm.enc, hc, ha'.1.1, ha'.1.2, ha'.2.1, ha'.2.2]
  | c :: d :: e :: r, ha =>
    have q1 : ¬ (r.length : Int) + 1 + 1 + 1 ≤ 2 := by omega
    have q2 : (1 : Int) ≤ (r.length : Int) + 1 + 1 + 1 := by omega
    have q3 : r.length + 1 + 1 + 1 ≤ 16777216 := by simp only [List.length_cons] at hfl; omega
    simp at e1 e2
    simp [t_bound_from, begins, H.runEnd, H.figs, H.mfig, H.xc, e1, e2, encP, q1, q2, q3]
def pfF (x : List Nat) (a : Nat) : Option (Tm × Nat) :=
  if nameOk (run isLF x a) = true ∧ x[a + (run isLF x a).length]? = some 58 then (rd x 5 (a + (run isLF x a).length + 1)).map fun r => (.fr (run isLF x a) r.1, r.2) else none
theorem run_lf (x : List Nat) (a : Nat) : run (fun c => decide (c ∈ letters ++ figures)) x a = run isLF x a := by
  have : (fun c => decide (c ∈ letters ++ figures)) = isLF := funext fun c => by
    rw [isLF, ← mem_letters, ← mem_figures, ← Bool.decide_or, decide_eq_decide, List.mem_append]
  rw [this]
theorem sort_from5 (H : HasR P) {n : Nat} {x : List Nat} (hx : x.length ≤ lim) {S : Store} (a : Nat) (hn : 5 < n) : call P n "sort_from" [.val (.str x), .val (.int (a : Int)), .val (.int 5)] S = (match rd x 5 a with
      | some (s, q) => .ok (.tup [s.enc, .int q]) S
      | none => .err badText S) := sort_from_ok H.sortFrom H.xc hx 5 n a S hn
theorem free_from_ok (H : HasR P) {n : Nat} {x : List Nat} (hx : x.length ≤ 100000) {S : Store} (a : Nat) (hn : 6 < n) :
    call P n "free_from" [.val (.str x), .val (.int (a : Int))] S = encP (pfF x a) S := by
  obtain ⟨n, rfl, hn⟩ := fuel hn
  rw [call_def H.freeFrom _ _ _ rfl]
  have e1 := run_end_ok H.runEnd (n := n) (sg := letters ++ figures) hx (S := S) a (by omega)
  rw [run_lf] at e1
  have hl : x.length ≤ lim := Nat.le_trans hx (by decide)
  have e2 := sliceN a (run isLF x a).length hl
  rw [run_take] at e2
  have hfl := run_len isLF x a
  have e3 : call P n "is_name" [.val (.str (run isLF x a))] S = .ok (.bl (nameOk (run isLF x a))) S := is_name_ok H.isName H.mname H.lets H.figs (n := n) (v := .str (run isLF x a)) (S := S) (by omega) rfl (fun y hy => by cases hy; exact Nat.le_trans (Nat.le_trans hfl (by omega)) hl)
  have e4 := need_sign_ok H.needSign H.xc (n := n) hl (S := S) (a + (run isLF x a).length) 58 (by omega)
  have e5 := sort_from5 H (n := n) hl (S := S) (a + (run isLF x a).length + 1) (by omega)
  have elf : binP .add (.str letters) (.str figures) = some (.str (letters ++ figures)) := by rw [b_adds, if_pos (by decide)]
  generalize hLF : letters ++ figures = lf at *
  unfold pfF
  rw [Int.natCast_add, Int.natCast_one, Int.natCast_add] at e5
  rw [Int.natCast_add] at e4
  generalize run isLF x a = f at *
  generalize (f.length : Int) = L at *
  cases hN : nameOk f with
  | false =>
    rw [hN] at e3
    simp [-b_adds, t_free_from, begins, H.runEnd, H.lets, H.figs, H.isName, H.xc, elf, e1, e2, e3, encP]
  | true =>
    rw [hN] at e3
    by_cases c : x[a + f.length]? = some 58
    · rw [if_pos c] at e4
      cases hr : rd x 5 (a + f.length + 1) with
      | none =>
        rw [hr] at e5
        dsimp only at e5
        simp [-b_adds, t_free_from, begins, H.runEnd, H.lets, H.figs, H.isName, H.xc, H.needSign, H.sortFrom, H.most, elf, e1, e2, e3, e4, e5, encP, c, hr]
      | some r =>
        obtain ⟨s, q⟩ := r
        rw [hr] at e5
        dsimp only at e5
        simp [-b_adds, t_free_from, begins, H.runEnd, H.lets, H.figs, H.isName, H.xc, H.needSign, H.sortFrom, H.most, elf, e1, e2, e3, e4, e5, encP, c, hr, Tm.enc]
    · rw [if_neg c] at e4
      simp [-b_adds, t_free_from, begins, H.runEnd, H.lets, H.figs, H.isName, H.xc, H.needSign, H.sortFrom, H.most, elf, e1, e2, e3, e4, encP, c]
def pf (x : List Nat) : Nat → Nat → Option (Tm × Nat)
  | l, a => match x[a]? with
    | some 35 => pfB x (a + 1)
    | some 61 => (rd x 5 (a + 1)).map fun r => (.sm r.1, r.2)
    | some 91 => (match l with
      | 0 => none
      | l + 1 => (rd x 5 (a + 1)).bind fun r => if x[r.2]? = some 32 then (pf x l (r.2 + 1)).bind fun b => if x[b.2]? = some 93 then some (.fn r.1 b.1, b.2 + 1) else none else none)
    | some 40 => (match l with
      | 0 => none
      | l + 1 => (pf x l (a + 1)).bind fun r => if x[r.2]? = some 32 then (pf x l (r.2 + 1)).bind fun b => if x[b.2]? = some 41 then some (.ap r.1 b.1, b.2 + 1) else none else none)
    | _ => pfF x a
theorem part_from_ok (H : HasR P) {x : List Nat} (hx : x.length ≤ 100000) : ∀ (l n a : Nat) (S : Store), l + 8 < n → call P n "part_from" [.val (.str x), .val (.int (a : Int)), .val (.int (l : Int))] S = encP (pf x l a) S := by
  have hl : x.length ≤ lim := Nat.le_trans hx (by decide)
  have leaf : ∀ (l n a : Nat) (S : Store), 8 < n + 1 → (∀ c, x[a]? = some c → c ≠ 91 ∧ c ≠ 40) → call P (n + 1) "part_from" [.val (.str x), .val (.int (a : Int)), .val (.int (l : Int))] S = encP (pf x l a) S := by
    intro l n a S hn hc
    rw [call_def H.partFrom _ _ _ rfl]
    have e1 := bound_from_ok H (n := n) hx (S := S) (a + 1) (by omega)
    have e2 := free_from_ok H (n := n) hx (S := S) a (by omega)
    have e3 := sort_from5 H (n := n) hl (S := S) (a + 1) (by omega)
    rw [Int.natCast_add, Int.natCast_one] at e1 e3
    unfold pf
    cases e : x[a]? with
    | none =>
      cases hp : pfF x a with
      | none => rw [hp] at e2; simp only [encP] at e2; simp [d_part_from, begins, slice1 a hl, e, H.freeFrom, e2, encP]
      | some r => rw [hp] at e2; simp only [encP] at e2; simp [d_part_from, begins, slice1 a hl, e, H.freeFrom, e2, encP]
    | some c =>
      obtain ⟨n1, n2⟩ := hc c e
      by_cases c1 : c = 35
      · subst c1
        cases hp : pfB x (a + 1) with
        | none => rw [hp] at e1; simp only [encP] at e1; simp [d_part_from, begins, slice1 a hl, e, H.boundFrom, e1, encP, hp]
        | some r => rw [hp] at e1; simp only [encP] at e1; simp [d_part_from, begins, slice1 a hl, e, H.boundFrom, e1, encP, hp]
      by_cases c2 : c = 61
      · subst c2
        cases hp : rd x 5 (a + 1) with
        | none => rw [hp] at e3; dsimp only at e3; simp [d_part_from, begins, slice1 a hl, e, H.sortFrom, H.most, e3, encP, hp]
        | some r =>
          obtain ⟨s, q⟩ := r
          rw [hp] at e3; dsimp only at e3; simp [d_part_from, begins, slice1 a hl, e, H.sortFrom, H.most, e3, encP, hp, Tm.enc]
      · cases hp : pfF x a with
        | none => rw [hp] at e2; simp only [encP] at e2; simp [d_part_from, begins, slice1 a hl, e, H.freeFrom, e2, encP, hp, c1, c2, n1, n2]
        | some r => rw [hp] at e2; simp only [encP] at e2; simp [d_part_from, begins, slice1 a hl, e, H.freeFrom, e2, encP, hp, c1, c2, n1, n2]
  intro l
  induction l with
  | zero =>
    intro n a S hn
    obtain ⟨n, rfl, hn⟩ := fuel hn
    by_cases c1 : x[a]? = some 91
    · rw [call_def H.partFrom _ _ _ rfl]
      unfold pf
      simp [d_part_from, begins, slice1 a hl, c1, H.xc, encP]
    by_cases c2 : x[a]? = some 40
    · rw [call_def H.partFrom _ _ _ rfl]
      unfold pf
      simp [d_part_from, begins, slice1 a hl, c2, H.xc, encP]
    exact leaf 0 n a S (by omega) (fun c h => ⟨fun h' => c1 (by rw [h, h']), fun h' => c2 (by rw [h, h'])⟩)
  | succ l ih =>
    intro n a S hn
    obtain ⟨n, rfl, hn⟩ := fuel hn
    have z0 : ¬ ((l : Int) + 1 = 0) := by omega
    have z2 : ((l : Int) + 1) - 1 = l := by omega
    by_cases c1 : x[a]? = some 91
    · rw [call_def H.partFrom _ _ _ rfl]
      have e3 := sort_from5 H (n := n) hl (S := S) (a + 1) (by omega)
      rw [Int.natCast_add, Int.natCast_one] at e3
      unfold pf
      cases hp : rd x 5 (a + 1) with
      | none => rw [hp] at e3; dsimp only at e3; simp [d_part_from, begins, slice1 a hl, c1, H.sortFrom, H.most, e3, encP, hp, z0]
      | some r =>
        obtain ⟨s, q⟩ := r
        rw [hp] at e3; dsimp only at e3
        have e4 := need_sign_ok H.needSign H.xc (n := n) hl (S := S) q 32 (by omega)
        by_cases c3 : x[q]? = some 32
        · rw [if_pos c3] at e4
          have e5 := ih n (q + 1) S (by omega)
          rw [Int.natCast_add, Int.natCast_one] at e5
          cases hb : pf x l (q + 1) with
          | none => rw [hb] at e5; simp only [encP] at e5; simp [d_part_from, begins, slice1 a hl, c1, H.sortFrom, H.most, H.needSign, H.partFrom, e3, e4, e5, encP, hp, z0, z2, c3, hb]
          | some b =>
            obtain ⟨t, u⟩ := b
            rw [hb] at e5; simp only [encP] at e5
            have e6 := need_sign_ok H.needSign H.xc (n := n) hl (S := S) u 93 (by omega)
            by_cases c4 : x[u]? = some 93
            · rw [if_pos c4] at e6
              simp [d_part_from, begins, slice1 a hl, c1, H.sortFrom, H.most, H.needSign, H.partFrom, e3, e4, e5, e6, encP, hp, z0, z2, c3, c4, hb, Tm.enc]
            · rw [if_neg c4] at e6
              simp [d_part_from, begins, slice1 a hl, c1, H.sortFrom, H.most, H.needSign, H.partFrom, e3, e4, e5, e6, encP, hp, z0, z2, c3, c4, hb, Tm.enc]
        · rw [if_neg c3] at e4
          simp [d_part_from, begins, slice1 a hl, c1, H.sortFrom, H.most, H.needSign, H.partFrom, e3, e4, encP, hp, z0, z2, c3]
    by_cases c2 : x[a]? = some 40
    · rw [call_def H.partFrom _ _ _ rfl]
      have e3 := ih n (a + 1) S (by omega)
      rw [Int.natCast_add, Int.natCast_one] at e3
      unfold pf
      cases hp : pf x l (a + 1) with
      | none => rw [hp] at e3; simp only [encP] at e3; simp [d_part_from, begins, slice1 a hl, c2, H.partFrom, e3, encP, hp, z0, z2]
      | some r =>
        obtain ⟨s, q⟩ := r
        rw [hp] at e3; simp only [encP] at e3
        have e4 := need_sign_ok H.needSign H.xc (n := n) hl (S := S) q 32 (by omega)
        by_cases c3 : x[q]? = some 32
        · rw [if_pos c3] at e4
          have e5 := ih n (q + 1) S (by omega)
          rw [Int.natCast_add, Int.natCast_one] at e5
          cases hb : pf x l (q + 1) with
          | none => rw [hb] at e5; simp only [encP] at e5; simp [d_part_from, begins, slice1 a hl, c2, H.needSign, H.partFrom, e3, e4, e5, encP, hp, z0, z2, c3, hb]
          | some b =>
            obtain ⟨t, u⟩ := b
            rw [hb] at e5; simp only [encP] at e5
            have e6 := need_sign_ok H.needSign H.xc (n := n) hl (S := S) u 41 (by omega)
            by_cases c4 : x[u]? = some 41
            · rw [if_pos c4] at e6
              simp [d_part_from, begins, slice1 a hl, c2, H.needSign, H.partFrom, e3, e4, e5, e6, encP, hp, z0, z2, c3, c4, hb, Tm.enc]
            · rw [if_neg c4] at e6
              simp [d_part_from, begins, slice1 a hl, c2, H.needSign, H.partFrom, e3, e4, e5, e6, encP, hp, z0, z2, c3, c4, hb, Tm.enc]
        · rw [if_neg c3] at e4
          simp [d_part_from, begins, slice1 a hl, c2, H.needSign, H.partFrom, e3, e4, encP, hp, z0, z2, c3]
    exact leaf (l + 1) n a S (by omega) (fun c h => ⟨fun h' => c1 (by rw [h, h']), fun h' => c2 (by rw [h, h'])⟩)
end
end Pg
end
section
set_option maxHeartbeats 400000
namespace Pg
open Ev

/-! ## what is read back -/
def Tm.txt : Tm → List Nat
  | .bd k => 35 :: numText (k : Int)
  | .fr x s => x ++ 58 :: s.txt
  | .sm s => 61 :: s.txt
  | .ap a b => 40 :: (a.txt ++ 32 :: (b.txt ++ [41]))
  | .fn s t => 91 :: (s.txt ++ 32 :: (t.txt ++ [93]))
/-- what is bound is told by few figures -/
def Tm.bok : Tm → Prop
  | .bd k => k < 100
  | .ap a b => a.bok ∧ b.bok
  | .fn _ t => t.bok
  | _ => True
theorem sort_bok : ∀ (t : Tm) (ar : List So) (s : So), t.sort ar = some s → ar.length + t.depth ≤ 100 → t.bok
  | .bd k, ar, s, h, hl => by
    simp only [Tm.sort] at h
    split at h
    · simp only [Tm.depth] at hl; show k < 100; omega
    · cases h
  | .fr x r, ar, s, h, hl => trivial
  | .sm r, ar, s, h, hl => trivial
  | .ap a b, ar, s, h, hl => by
    simp only [Tm.sort] at h
    simp only [Tm.depth] at hl
    split at h
    · rename_i x y z e1 e2
      exact ⟨sort_bok a ar _ e1 (by omega), sort_bok b ar _ e2 (by omega)⟩
    · cases h
  | .fn r t, ar, s, h, hl => by
    simp only [Tm.sort] at h
    simp only [Tm.depth] at hl
    split at h
    · rename_i q e
      exact sort_bok t (ar ++ [r]) _ e (by rw [List.length_append, List.length_singleton]; omega)
    · cases h
theorem num100 : ∀ k : Fin 100, (numText ((k.val : Nat) : Int)).all isFigure = true ∧ 1 ≤ (numText ((k.val : Nat) : Int)).length ∧ (numText ((k.val : Nat) : Int)).length ≤ 2 ∧ digVal (numText ((k.val : Nat) : Int)) = k.val ∧ ((numText ((k.val : Nat) : Int)).head? = some 48 → numText ((k.val : Nat) : Int) = [48]) := by decide +kernel
theorem num_ok {k : Nat} (h : k < 100) : (numText (k : Int)).all isFigure = true ∧ 1 ≤ (numText (k : Int)).length ∧ (numText (k : Int)).length ≤ 2 ∧ digVal (numText (k : Int)) = k ∧ ((numText (k : Int)).head? = some 48 → numText (k : Int) = [48]) := num100 ⟨k, h⟩
theorem so_txt5 {s : So} (h : s.dep ≤ 5) : s.txt.length ≤ 125 := by
  have h1 := so_txt_len s
  have h2 : 2 ^ s.dep ≤ 2 ^ 5 := Nat.pow_le_pow_right (by decide) h
  omega
theorem tm_txt_len : ∀ t : Tm, t.wf → t.bok → t.txt.length ≤ 140 * t.size
  | .bd k, _, h => by have := (num_ok h).2.2.1; simp only [Tm.txt, Tm.size, List.length_cons]; omega
  | .fr x s, h, _ => by have := so_txt5 h.2; have := name_len h.1; simp only [Tm.txt, Tm.size, List.length_cons, List.length_append]; omega
  | .sm s, h, _ => by have := so_txt5 (s := s) h; simp only [Tm.txt, Tm.size, List.length_cons]; omega
  | .ap a b, h, hb => by
    have := tm_txt_len a h.1 hb.1
    have := tm_txt_len b h.2 hb.2
    simp only [Tm.txt, Tm.size, List.length_cons, List.length_append, List.length_nil]; omega
  | .fn s t, h, hb => by
    have := so_txt5 h.1
    have := tm_txt_len t h.2 hb
    simp only [Tm.txt, Tm.size, List.length_cons, List.length_append, List.length_nil]; omega
theorem wid_big : (100 : Int) < wid := by decide
theorem strP_small (i : Int) (h0 : 0 ≤ i) (h1 : i < 100) : strP (.int i) = some (.str (numText i)) := by
  show (if -wid < i ∧ i < wid then some (PV.str (numText i)) else none) = _
  have := wid_big
  rw [if_pos ⟨by omega, by omega⟩]
section
variable {P : Prog}
theorem written_bd0 (h : P.D "written" = some d_written) {n : Nat} {K : Int} {T : List Nat} {S : Store} (e : strP (.int K) = some (.str T)) (hT : T.length ≤ 2) : call P (n + 1) "written" [.val (.tup [.str wBound, .int K])] S = .ok (.str (35 :: T)) S := by
  rw [call_def h _ _ _ rfl]
  have hL : 2000000 ≤ lim := by decide
  have q4 : 1 + T.length ≤ lim := by omega
  have q5 : T.length + 1 ≤ lim := by omega
  simp [-lim_val, d_written, begins, e, q4, q5]
theorem written_bd (h : P.D "written" = some d_written) {n k : Nat} {S : Store} (hb : k < 100) : call P (n + 1) "written" [.val (Tm.bd k).enc] S = .ok (.str (Tm.bd k).txt) S :=
  written_bd0 h (strP_small (k : Int) (by omega) (by omega)) (num_ok hb).2.2.1
theorem written_fr (h : P.D "written" = some d_written) (h2 : P.D "sort_text" = some d_sort_text) {n : Nat} {x : List Nat} {s : So} {S : Store} (hx : nameOk x = true) (hd : s.dep ≤ 5) (hn : 6 < n) : call P (n + 1) "written" [.val (Tm.fr x s).enc] S = .ok (.str (Tm.fr x s).txt) S := by
  rw [call_def h _ _ _ rfl]
  have e := sort_text_ok h2 s n S (by omega) (by omega)
  have l1 := so_txt5 hd
  have l2 := name_len hx
  have hL : 2000000 ≤ lim := by decide
  have q1 : x.length + 1 ≤ lim := by omega
  simp [-lim_val, d_written, begins, Tm.enc, Tm.txt, h2, e, q1]
  try rw [if_pos (by omega)]
  try simp
theorem written_sm (h : P.D "written" = some d_written) (h2 : P.D "sort_text" = some d_sort_text) {n : Nat} {s : So} {S : Store} (hd : s.dep ≤ 5) (hn : 6 < n) : call P (n + 1) "written" [.val (Tm.sm s).enc] S = .ok (.str (Tm.sm s).txt) S := by
  rw [call_def h _ _ _ rfl]
  have e := sort_text_ok h2 s n S (by omega) (by omega)
  have l1 := so_txt5 hd
  have hL : 2000000 ≤ lim := by decide
  simp [-lim_val, d_written, begins, Tm.enc, Tm.txt, h2, e]
  try rw [if_pos (by omega)]
  try simp
theorem written_ap (h : P.D "written" = some d_written) {n : Nat} {a b : Tm} {S : Store} (e1 : call P n "written" [.val a.enc] S = .ok (.str a.txt) S) (e2 : call P n "written" [.val b.enc] S = .ok (.str b.txt) S) (hl : a.txt.length + b.txt.length + 10 ≤ 2000000) : call P (n + 1) "written" [.val (Tm.ap a b).enc] S = .ok (.str (Tm.ap a b).txt) S := by
  rw [call_def h _ _ _ rfl]
  have hL : 2000000 ≤ lim := by decide
  simp [-lim_val, d_written, begins, Tm.enc, Tm.txt, h, e1]
  repeat (first | rw [if_pos (by omega)] | simp [-lim_val, e2])
theorem written_fn (h : P.D "written" = some d_written) (h2 : P.D "sort_text" = some d_sort_text) {n : Nat} {s : So} {t : Tm} {S : Store} (hd : s.dep ≤ 5) (hn : 6 < n) (e2 : call P n "written" [.val t.enc] S = .ok (.str t.txt) S) (hl : t.txt.length + 200 ≤ 2000000) : call P (n + 1) "written" [.val (Tm.fn s t).enc] S = .ok (.str (Tm.fn s t).txt) S := by
  rw [call_def h _ _ _ rfl]
  have e1 := sort_text_ok h2 s n S (by omega) (by omega)
  have l1 := so_txt5 hd
  have hL : 2000000 ≤ lim := by decide
  simp [-lim_val, d_written, begins, Tm.enc, Tm.txt, h, h2, e1]
  repeat (first | rw [if_pos (by omega)] | simp [-lim_val, e2])
theorem written_ok (h : P.D "written" = some d_written) (h2 : P.D "sort_text" = some d_sort_text) (t : Tm) : ∀ (n : Nat) (S : Store), t.depth + 7 < n → t.wf → t.bok → t.size ≤ 10000 → call P n "written" [.val t.enc] S = .ok (.str t.txt) S := by
  induction t with
  | bd k => intro n S hn hw hb hs; obtain ⟨n, rfl, hn⟩ := fuel hn; exact written_bd h hb
  | fr x s => intro n S hn hw hb hs; obtain ⟨n, rfl, hn⟩ := fuel hn; exact written_fr h h2 hw.1 hw.2 (by omega)
  | sm s => intro n S hn hw hb hs; obtain ⟨n, rfl, hn⟩ := fuel hn; exact written_sm h h2 hw (by omega)
  | ap a b iha ihb =>
    intro n S hn hw hb hs
    obtain ⟨n, rfl, hn⟩ := fuel hn
    simp only [Tm.depth] at hn
    simp only [Tm.size] at hs
    have l1 := tm_txt_len a hw.1 hb.1
    have l2 := tm_txt_len b hw.2 hb.2
    exact written_ap h (iha n S (by omega) hw.1 hb.1 (by omega)) (ihb n S (by omega) hw.2 hb.2 (by omega)) (by omega)
  | fn s t ih =>
    intro n S hn hw hb hs
    obtain ⟨n, rfl, hn⟩ := fuel hn
    simp only [Tm.depth] at hn
    simp only [Tm.size] at hs
    have l2 := tm_txt_len t hw.2 hb
    exact written_fn h h2 hw.1 (by omega) (ih n S (by omega) hw.2 hb (by omega)) (by omega)
theorem law_written_bd0 (h : P.D "_law_written" = some d__law_written) {n : Nat} {K : Int} {T : List Nat} {S : Store} (e : strP (.int K) = some (.str T)) (hT : T.length ≤ 2) : call P (n + 1) "_law_written" [.val (.tup [.str wBound, .int K])] S = .ok (.str (35 :: T)) S := by
  rw [call_def h _ _ _ rfl]
  have hL : 2000000 ≤ lim := by decide
  have q4 : 1 + T.length ≤ lim := by omega
  have q5 : T.length + 1 ≤ lim := by omega
  simp [-lim_val, d__law_written, begins, e, q4, q5]
theorem law_written_bd (h : P.D "_law_written" = some d__law_written) {n k : Nat} {S : Store} (hb : k < 100) : call P (n + 1) "_law_written" [.val (Tm.bd k).enc] S = .ok (.str (Tm.bd k).txt) S :=
  law_written_bd0 h (strP_small (k : Int) (by omega) (by omega)) (num_ok hb).2.2.1
theorem law_written_fr (h : P.D "_law_written" = some d__law_written) (h2 : P.D "_law_sort_text" = some d__law_sort_text) {n : Nat} {x : List Nat} {s : So} {S : Store} (hx : nameOk x = true) (hd : s.dep ≤ 5) (hn : 6 < n) : call P (n + 1) "_law_written" [.val (Tm.fr x s).enc] S = .ok (.str (Tm.fr x s).txt) S := by
  rw [call_def h _ _ _ rfl]
  have e := law_sort_text_ok h2 s n S (by omega) (by omega)
  have l1 := so_txt5 hd
  have l2 := name_len hx
  have hL : 2000000 ≤ lim := by decide
  have q1 : x.length + 1 ≤ lim := by omega
  simp [-lim_val, d__law_written, begins, Tm.enc, Tm.txt, h2, e, q1]
  try rw [if_pos (by omega)]
  try simp
theorem law_written_sm (h : P.D "_law_written" = some d__law_written) (h2 : P.D "_law_sort_text" = some d__law_sort_text) {n : Nat} {s : So} {S : Store} (hd : s.dep ≤ 5) (hn : 6 < n) : call P (n + 1) "_law_written" [.val (Tm.sm s).enc] S = .ok (.str (Tm.sm s).txt) S := by
  rw [call_def h _ _ _ rfl]
  have e := law_sort_text_ok h2 s n S (by omega) (by omega)
  have l1 := so_txt5 hd
  have hL : 2000000 ≤ lim := by decide
  simp [-lim_val, d__law_written, begins, Tm.enc, Tm.txt, h2, e]
  try rw [if_pos (by omega)]
  try simp
theorem law_written_ap (h : P.D "_law_written" = some d__law_written) {n : Nat} {a b : Tm} {S : Store} (e1 : call P n "_law_written" [.val a.enc] S = .ok (.str a.txt) S) (e2 : call P n "_law_written" [.val b.enc] S = .ok (.str b.txt) S) (hl : a.txt.length + b.txt.length + 10 ≤ 2000000) : call P (n + 1) "_law_written" [.val (Tm.ap a b).enc] S = .ok (.str (Tm.ap a b).txt) S := by
  rw [call_def h _ _ _ rfl]
  have hL : 2000000 ≤ lim := by decide
  simp [-lim_val, d__law_written, begins, Tm.enc, Tm.txt, h, e1]
  repeat (first | rw [if_pos (by omega)] | simp [-lim_val, e2])
theorem law_written_fn (h : P.D "_law_written" = some d__law_written) (h2 : P.D "_law_sort_text" = some d__law_sort_text) {n : Nat} {s : So} {t : Tm} {S : Store} (hd : s.dep ≤ 5) (hn : 6 < n) (e2 : call P n "_law_written" [.val t.enc] S = .ok (.str t.txt) S) (hl : t.txt.length + 200 ≤ 2000000) : call P (n + 1) "_law_written" [.val (Tm.fn s t).enc] S = .ok (.str (Tm.fn s t).txt) S := by
  rw [call_def h _ _ _ rfl]
  have e1 := law_sort_text_ok h2 s n S (by omega) (by omega)
  have l1 := so_txt5 hd
  have hL : 2000000 ≤ lim := by decide
  simp [-lim_val, d__law_written, begins, Tm.enc, Tm.txt, h, h2, e1]
  repeat (first | rw [if_pos (by omega)] | simp [-lim_val, e2])
theorem law_written_ok (h : P.D "_law_written" = some d__law_written) (h2 : P.D "_law_sort_text" = some d__law_sort_text) (t : Tm) : ∀ (n : Nat) (S : Store), t.depth + 7 < n → t.wf → t.bok → t.size ≤ 10000 → call P n "_law_written" [.val t.enc] S = .ok (.str t.txt) S := by
  induction t with
  | bd k => intro n S hn hw hb hs; obtain ⟨n, rfl, hn⟩ := fuel hn; exact law_written_bd h hb
  | fr x s => intro n S hn hw hb hs; obtain ⟨n, rfl, hn⟩ := fuel hn; exact law_written_fr h h2 hw.1 hw.2 (by omega)
  | sm s => intro n S hn hw hb hs; obtain ⟨n, rfl, hn⟩ := fuel hn; exact law_written_sm h h2 hw (by omega)
  | ap a b iha ihb =>
    intro n S hn hw hb hs
    obtain ⟨n, rfl, hn⟩ := fuel hn
    simp only [Tm.depth] at hn
    simp only [Tm.size] at hs
    have l1 := tm_txt_len a hw.1 hb.1
    have l2 := tm_txt_len b hw.2 hb.2
    exact law_written_ap h (iha n S (by omega) hw.1 hb.1 (by omega)) (ihb n S (by omega) hw.2 hb.2 (by omega)) (by omega)
  | fn s t ih =>
    intro n S hn hw hb hs
    obtain ⟨n, rfl, hn⟩ := fuel hn
    simp only [Tm.depth] at hn
    simp only [Tm.size] at hs
    have l2 := tm_txt_len t hw.2 hb
    exact law_written_fn h h2 hw.1 (by omega) (ih n S (by omega) hw.2 hb (by omega)) (by omega)
end
end Pg
end
section
set_option maxHeartbeats 400000
namespace Pg
open Ev

theorem drop_cons {x v : List Nat} {a c : Nat} (h : x.drop a = c :: v) : x[a]? = some c ∧ x.drop (a + 1) = v := by
  constructor
  · have := congrArg (·[0]?) h
    simpa using this
  · rw [← List.drop_drop, h]
    rfl
theorem drop_app {x u v : List Nat} {a : Nat} (h : x.drop a = u ++ v) : x.drop (a + u.length) = v := by
  rw [← List.drop_drop, h, List.drop_left]
theorem rd_drop {x post : List Nat} {a l : Nat} {s : So} (hs : s.dep ≤ l) (h : x.drop a = s.txt ++ post) : rd x l a = some (s, a + s.txt.length) := by
  have hne : s.txt ≠ [] := by cases s <;> simp [So.txt]
  have hl : a ≤ x.length := by
    refine Nat.le_of_not_lt fun hlt => ?_
    rw [List.drop_eq_nil_of_le (by omega)] at h
    have := (List.append_eq_nil_iff.mp h.symm).1
    exact hne this
  have e := rd_txt s l (x.take a) post hs
  rw [List.append_assoc, ← h, List.take_append_drop, List.length_take, Nat.min_eq_left hl] at e
  exact e
theorem run_drop {p : Nat → Bool} {x u v : List Nat} {a : Nat} (hu : u.all p = true) (hv : ∀ c r, v = c :: r → p c = false) (h : x.drop a = u ++ v) : run p x a = u := by
  unfold run
  rw [h, List.takeWhile_append_of_pos (fun c hc => List.all_eq_true.mp hu c hc)]
  cases v with
  | nil => simp
  | cons c r => rw [List.takeWhile_cons, hv c r rfl]; simp
theorem name_head {x : List Nat} (h : nameOk x = true) : ∃ c r, x = c :: r ∧ isLetter c = true ∧ x.all isLF = true := by
  simp only [nameOk, Bool.and_eq_true] at h
  cases x with
  | nil => simp at h
  | cons c r => exact ⟨c, r, rfl, h.1.2, h.2⟩
def nf (post : List Nat) : Prop := ∀ c r, post = c :: r → isFigure c = false
theorem pf_txt : ∀ (t : Tm) (x post : List Nat) (l a : Nat), t.wf → t.bok → t.depth ≤ l → nf post → x.drop a = t.txt ++ post → pf x l a = some (t, a + t.txt.length)
  | .bd k, x, post, l, a, hw, hb, hd, hp, h => by
    obtain ⟨g1, g2⟩ := drop_cons (show x.drop a = 35 :: (numText (k : Int) ++ post) from h)
    obtain ⟨n1, n2, n3, n4, n5⟩ := num_ok (k := k) hb
    have hr := run_drop (p := isFigure) n1 hp g2
    unfold pf
    rw [g1]
    simp only [pfB]
    rw [hr, if_pos ⟨⟨n2, n3⟩, fun z => z.2 (n5 z.1)⟩, n4]
    simp only [Tm.txt, List.length_cons]
    congr 2
    omega
  | .fr y s, x, post, l, a, hw, hb, hd, hp, h => by
    obtain ⟨c, r, hy, hc, hall⟩ := name_head hw.1
    have h' : x.drop a = y ++ (58 :: (s.txt ++ post)) := by rw [h]; simp [Tm.txt]
    have hr := run_drop (p := isLF) hall (fun c r e => by cases e; decide) h'
    have g0 := drop_cons (show x.drop a = c :: (r ++ (58 :: (s.txt ++ post))) by rw [h', hy]; rfl)
    obtain ⟨g1, g2⟩ := drop_cons (drop_app h')
    have hrd := rd_drop (l := 5) hw.2 g2
    have hcc : 97 ≤ c ∧ c ≤ 122 := by simpa [isLetter] using hc
    unfold pf
    rw [g0.1]
    split
    · rename_i e; cases e; omega
    · rename_i e; cases e; omega
    · rename_i e; cases e; omega
    · rename_i e; cases e; omega
    · simp only [pfF]
      rw [hr, if_pos ⟨hw.1, g1⟩, hrd]
      simp only [Option.map_some, Tm.txt, List.length_append, List.length_cons]
      congr 2
      omega
  | .sm s, x, post, l, a, hw, hb, hd, hp, h => by
    obtain ⟨g1, g2⟩ := drop_cons (show x.drop a = 61 :: (s.txt ++ post) from h)
    have hrd := rd_drop (l := 5) (s := s) hw g2
    unfold pf
    rw [g1]
    simp only []
    rw [hrd]
    simp only [Option.map_some, Tm.txt, List.length_cons]
    congr 2
    omega
  | .ap t u, x, post, l, a, hw, hb, hd, hp, h => by
    obtain ⟨l, rfl⟩ : ∃ l', l = l' + 1 := ⟨l - 1, by simp only [Tm.depth] at hd; omega⟩
    simp only [Tm.depth] at hd
    obtain ⟨g1, g2⟩ := drop_cons (show x.drop a = 40 :: (t.txt ++ (32 :: (u.txt ++ (41 :: post)))) by rw [h]; simp [Tm.txt])
    have e1 := pf_txt t x (32 :: (u.txt ++ (41 :: post))) l (a + 1) hw.1 hb.1 (by omega) (fun c r e => by cases e; decide) g2
    obtain ⟨g3, g4⟩ := drop_cons (drop_app g2)
    have e2 := pf_txt u x (41 :: post) l _ hw.2 hb.2 (by omega) (fun c r e => by cases e; decide) g4
    obtain ⟨g5, g6⟩ := drop_cons (drop_app g4)
    unfold pf
    rw [g1]
    simp only []
    rw [e1]
    simp only [Option.bind_some, g3, if_true]
    rw [e2]
    simp only [Option.bind_some, g5, if_true]
    simp only [Tm.txt, List.length_append, List.length_cons, List.length_nil]
    congr 2
    omega
  | .fn s u, x, post, l, a, hw, hb, hd, hp, h => by
    obtain ⟨l, rfl⟩ : ∃ l', l = l' + 1 := ⟨l - 1, by simp only [Tm.depth] at hd; omega⟩
    simp only [Tm.depth] at hd
    obtain ⟨g1, g2⟩ := drop_cons (show x.drop a = 91 :: (s.txt ++ (32 :: (u.txt ++ (93 :: post)))) by rw [h]; simp [Tm.txt])
    have e1 := rd_drop (l := 5) hw.1 g2
    obtain ⟨g3, g4⟩ := drop_cons (drop_app g2)
    have e2 := pf_txt u x (93 :: post) l _ hw.2 hb (by omega) (fun c r e => by cases e; decide) g4
    obtain ⟨g5, g6⟩ := drop_cons (drop_app g4)
    unfold pf
    rw [g1]
    simp only []
    rw [e1]
    simp only [Option.bind_some, g3, if_true]
    rw [e2]
    simp only [Option.bind_some, g5, if_true]
    simp only [Tm.txt, List.length_append, List.length_cons, List.length_nil]
    congr 2
    omega
theorem txt_inj {t u : Tm} (ht : t.wf) (hu : u.wf) (bt : t.bok) (bu : u.bok) (h : t.txt = u.txt) : t = u := by
  have e1 := pf_txt t t.txt [] (max t.depth u.depth) 0 ht bt (Nat.le_max_left ..) (fun c r e => by cases e) (by simp)
  have e2 := pf_txt u t.txt [] (max t.depth u.depth) 0 hu bu (Nat.le_max_right ..) (fun c r e => by cases e) (by simp [h])
  rw [e1] at e2
  cases e2
  rfl
theorem pf_wf {x : List Nat} : ∀ (l a : Nat) (t : Tm) (q : Nat), pf x l a = some (t, q) → t.wf ∧ t.depth ≤ l := by
  have hB : ∀ (a : Nat) (t : Tm) (q : Nat), pfB x a = some (t, q) → t.wf ∧ t.depth ≤ 0 := by
    intro a t q h
    unfold pfB at h
    split at h
    · cases h; exact ⟨trivial, Nat.le_refl _⟩
    · cases h
  have hF : ∀ (a : Nat) (t : Tm) (q : Nat), pfF x a = some (t, q) → t.wf ∧ t.depth ≤ 0 := by
    intro a t q h
    unfold pfF at h
    split at h
    · rename_i c
      obtain ⟨r, hr, e⟩ := map_inv' h
      cases e
      exact ⟨⟨c.1, rd_dep _ _ _ hr⟩, Nat.le_refl _⟩
    · cases h
  intro l
  induction l with
  | zero =>
    intro a t q h
    unfold pf at h
    split at h
    · exact hB _ _ _ h
    · obtain ⟨r, hr, e⟩ := map_inv' h
      cases e
      exact ⟨rd_dep _ _ _ hr, Nat.le_refl _⟩
    · cases h
    · cases h
    · exact hF _ _ _ h
  | succ l ih =>
    intro a t q h
    unfold pf at h
    split at h
    · have := hB _ _ _ h; exact ⟨this.1, by omega⟩
    · obtain ⟨r, hr, e⟩ := map_inv' h
      cases e
      exact ⟨rd_dep _ _ _ hr, Nat.zero_le _⟩
    · dsimp only at h
      cases r1 : rd x 5 (a + 1) with
      | none => rw [r1] at h; cases h
      | some b =>
        rw [r1, Option.bind_some] at h
        split at h
        · cases r2 : pf x l (b.2 + 1) with
          | none => rw [r2] at h; cases h
          | some c =>
            rw [r2, Option.bind_some] at h
            split at h
            · cases h
              have h1 := rd_dep _ _ _ r1
              have h2 := ih _ _ _ r2
              exact ⟨⟨h1, h2.1⟩, by simp only [Tm.depth]; omega⟩
            · cases h
        · cases h
    · dsimp only at h
      cases r1 : pf x l (a + 1) with
      | none => rw [r1] at h; cases h
      | some b =>
        rw [r1, Option.bind_some] at h
        split at h
        · cases r2 : pf x l (b.2 + 1) with
          | none => rw [r2] at h; cases h
          | some c =>
            rw [r2, Option.bind_some] at h
            split at h
            · cases h
              have h1 := ih _ _ _ r1
              have h2 := ih _ _ _ r2
              exact ⟨⟨h1.1, h2.1⟩, by simp only [Tm.depth]; omega⟩
            · cases h
        · cases h
    · have := hF _ _ _ h; exact ⟨this.1, by omega⟩
section
variable {P : Prog}
def rdTerm (x : List Nat) : Option Tm := match pf x 40 0 with
  | some (t, q) => if x.length ≤ q ∧ ((t.sort []).isSome && t.small) = true then some t else none
  | none => none
theorem read_term_ok (H : HasR P) {x : List Nat} (hx : x.length ≤ 100000) {n : Nat} {S : Store} (hn : 70 < n) : call P n "read_term" [.val (.str x)] S = (match rdTerm x with
    | some t => .ok t.enc S
    | none => .err badText S) := by
  obtain ⟨n, rfl, hn⟩ := fuel hn
  rw [call_def H.readTerm _ _ _ rfl]
  have hl : x.length ≤ lim := Nat.le_trans hx (by decide)
  have hlen : lenP (.str x) = some (.int (x.length : Int)) := by rw [ln_str, if_pos hl]
  have e1 : call P n "part_from" [.val (.str x), .val (.int 0), .val (.int 40)] S = encP (pf x 40 0) S := part_from_ok H hx 40 n 0 S (by omega)
  unfold rdTerm
  cases hp : pf x 40 0 with
  | none =>
    rw [hp] at e1
    simp only [encP] at e1
    simp [d_read_term, begins, H.partFrom, H.mdepth, e1]
  | some r =>
    obtain ⟨t, q⟩ := r
    rw [hp] at e1
    simp only [encP] at e1
    obtain ⟨w1, w2⟩ := pf_wf _ _ _ _ hp
    have tp := tm_pd t w1
    have e2 := is_term_ok H.toHasM (v := t.enc) (n := n) (S := S) (by omega) (tm_gd t w1) (by omega)
    rw [isTerm_enc w1] at e2
    by_cases c : x.length ≤ q
    · have c' : ¬ (q : Int) < (x.length : Int) := by omega
      generalize (x.length : Int) = L at hlen c'
      cases h1 : (t.sort []).isSome <;> cases h2 : t.small <;> rw [h1, h2] at e2 <;> simp [-ln_str, d_read_term, begins, H.partFrom, H.mdepth, H.isTerm, H.xc, e1, e2, hlen, c, c', h1, h2]
    · have c' : (q : Int) < (x.length : Int) := by omega
      generalize (x.length : Int) = L at hlen c'
      simp [-ln_str, d_read_term, begins, H.partFrom, H.mdepth, H.isTerm, H.xc, e1, hlen, c, c']
theorem rdTerm_txt {t : Tm} {s : So} (hw : t.wf) (hs : t.sort [] = some s) (hm : t.small = true) : rdTerm t.txt = some t := by
  have hd : t.depth ≤ 40 := by simp only [Tm.small, Bool.and_eq_true, decide_eq_true_eq] at hm; exact hm.1
  have hb := sort_bok t [] s hs (by simp; omega)
  have e := pf_txt t t.txt [] 40 0 hw hb hd (fun c r e => by cases e) (by simp)
  unfold rdTerm
  rw [e]
  simp [hs, hm]
/-! terms as data -/
theorem ne_head {w w' : List Nat} {r r' : List PV} (h : w ≠ w') : eqv (.tup (.str w :: r)) (.tup (.str w' :: r')) = false := by
  rw [eqv, eqvs, eqv]
  simp [h]
theorem tm_eqv : ∀ a b : Tm, eqv a.enc b.enc = decide (a = b)
  | .bd k, .bd j => by
    simp only [Tm.enc, eqv, eqvs, Bool.and_true]
    rw [Bool.eq_iff_iff]
    simp
    omega
  | .fr x s, .fr y r => by simp only [Tm.enc, eqv, eqvs, Bool.and_true, so_eqv]; rw [Bool.eq_iff_iff]; simp
  | .sm s, .sm r => by simp only [Tm.enc, eqv, eqvs, Bool.and_true, so_eqv]; rw [Bool.eq_iff_iff]; simp
  | .ap a b, .ap c d => by simp only [Tm.enc, eqv, eqvs, Bool.and_true, tm_eqv a c, tm_eqv b d]; rw [Bool.eq_iff_iff]; simp
  | .fn s t, .fn r u => by simp only [Tm.enc, eqv, eqvs, Bool.and_true, so_eqv, tm_eqv t u]; rw [Bool.eq_iff_iff]; simp
  | .bd _, .fr _ _ => (ne_head (by decide)).trans (decide_eq_false (by intro h; cases h)).symm
  | .bd _, .sm _ => (ne_head (by decide)).trans (decide_eq_false (by intro h; cases h)).symm
  | .bd _, .ap _ _ => (ne_head (by decide)).trans (decide_eq_false (by intro h; cases h)).symm
  | .bd _, .fn _ _ => (ne_head (by decide)).trans (decide_eq_false (by intro h; cases h)).symm
  | .fr _ _, .bd _ => (ne_head (by decide)).trans (decide_eq_false (by intro h; cases h)).symm
  | .fr _ _, .sm _ => (ne_head (by decide)).trans (decide_eq_false (by intro h; cases h)).symm
  | .fr _ _, .ap _ _ => (ne_head (by decide)).trans (decide_eq_false (by intro h; cases h)).symm
  | .fr _ _, .fn _ _ => (ne_head (by decide)).trans (decide_eq_false (by intro h; cases h)).symm
  | .sm _, .bd _ => (ne_head (by decide)).trans (decide_eq_false (by intro h; cases h)).symm
  | .sm _, .fr _ _ => (ne_head (by decide)).trans (decide_eq_false (by intro h; cases h)).symm
  | .sm _, .ap _ _ => (ne_head (by decide)).trans (decide_eq_false (by intro h; cases h)).symm
  | .sm _, .fn _ _ => (ne_head (by decide)).trans (decide_eq_false (by intro h; cases h)).symm
  | .ap _ _, .bd _ => (ne_head (by decide)).trans (decide_eq_false (by intro h; cases h)).symm
  | .ap _ _, .fr _ _ => (ne_head (by decide)).trans (decide_eq_false (by intro h; cases h)).symm
  | .ap _ _, .sm _ => (ne_head (by decide)).trans (decide_eq_false (by intro h; cases h)).symm
  | .ap _ _, .fn _ _ => (ne_head (by decide)).trans (decide_eq_false (by intro h; cases h)).symm
  | .fn _ _, .bd _ => (ne_head (by decide)).trans (decide_eq_false (by intro h; cases h)).symm
  | .fn _ _, .fr _ _ => (ne_head (by decide)).trans (decide_eq_false (by intro h; cases h)).symm
  | .fn _ _, .sm _ => (ne_head (by decide)).trans (decide_eq_false (by intro h; cases h)).symm
  | .fn _ _, .ap _ _ => (ne_head (by decide)).trans (decide_eq_false (by intro h; cases h)).symm
theorem tm_dat : ∀ t : Tm, dat t.enc = true
  | .bd k => rfl
  | .fr x s => by simp [Tm.enc, dat, dats]
  | .sm s => by simp [Tm.enc, dat, dats]
  | .ap a b => by simp [Tm.enc, dat, dats, tm_dat a, tm_dat b]
  | .fn s t => by simp [Tm.enc, dat, dats, tm_dat t]
theorem tm_okd {a b : Tm} (ha : a.wf) (h : a.depth ≤ 140) : okd a.enc b.enc = true := by
  have := tm_pd a ha
  have h2 : pd a.enc ≤ 150 := by omega
  simp [okd, tm_dat, h2]
end
end Pg
end
section
set_option maxHeartbeats 400000
namespace Pg
open Ev

/-! ## measures of terms -/
def Tm.fv : Tm → List Tm
  | .fr x s => [.fr x s]
  | .fn _ t => t.fv
  | .ap a b => a.fv ++ b.fv.filter fun v => !a.fv.any fun u => decide (u = v)
  | _ => []
theorem fv_fr : ∀ (t u : Tm), u ∈ t.fv → ∃ x s, u = .fr x s
  | .bd _, u, h => by cases h
  | .fr x s, u, h => by simp only [Tm.fv, List.mem_singleton] at h; exact ⟨x, s, h⟩
  | .sm _, u, h => by cases h
  | .ap a b, u, h => by
    simp only [Tm.fv] at h
    rcases List.mem_append.mp h with h | h
    · exact fv_fr a u h
    · exact fv_fr b u (List.mem_filter.mp h).1
  | .fn _ t, u, h => fv_fr t u h
theorem fv_wf : ∀ (t u : Tm), t.wf → u ∈ t.fv → u.wf
  | .bd _, u, _, h => by cases h
  | .fr x s, u, w, h => by simp only [Tm.fv, List.mem_singleton] at h; rw [h]; exact w
  | .sm _, u, _, h => by cases h
  | .ap a b, u, w, h => by
    simp only [Tm.fv] at h
    rcases List.mem_append.mp h with h | h
    · exact fv_wf a u w.1 h
    · exact fv_wf b u w.2 (List.mem_filter.mp h).1
  | .fn _ t, u, w, h => fv_wf t u w.2 h
theorem fv_len : ∀ t : Tm, t.fv.length ≤ t.size
  | .bd _ => Nat.zero_le _
  | .fr x s => Nat.le_refl _
  | .sm _ => Nat.zero_le _
  | .ap a b => by
    have h1 := fv_len a
    have h2 := fv_len b
    have h3 := List.length_filter_le (fun v => !a.fv.any fun u => decide (u = v)) b.fv
    simp only [Tm.fv, List.length_append, Tm.size]
    omega
  | .fn _ t => by have := fv_len t; simp only [Tm.fv, Tm.size]; omega
theorem fr_dep {t u : Tm} (h : u ∈ t.fv) : u.depth = 0 := by
  obtain ⟨x, s, rfl⟩ := fv_fr t u h
  rfl
theorem nin_ok {fs : List Tm} {v : Tm} (hf : ∀ u ∈ fs, u.wf ∧ u.depth = 0) : cmpP .nin v.enc (.lst (fs.map Tm.enc)) = some (!fs.any fun u => decide (u = v)) := by
  rw [c_ninl, if_pos]
  · congr 2
    rw [List.any_map]
    congr 1
    funext u
    exact tm_eqv u v
  · rw [List.all_map, List.all_eq_true]
    intro u hu
    exact tm_okd (hf u hu).1 (by rw [(hf u hu).2]; decide)
section
variable {P : Prog}
theorem frees_lc {g : Cfg} (hg : g.cm = true) {fs gs : List Tm} {S : Store} {a0 : Option Sl} {e : CE} (hf : ∀ u ∈ fs, u.wf ∧ u.depth = 0) (hl : gs.length ≤ 100000) (he : ev g e [a0, some (.val (.lst (fs.map Tm.enc))), none] S = .ok (.val (.lst (gs.map Tm.enc))) S) :
    ev g (.lc 2 (.seq e) (.var 2) [(.prim (.cmp .nin) [(.var 2), (.var 1)])]) [a0, some (.val (.lst (fs.map Tm.enc))), none] S = .ok (.val (.lst ((gs.filter fun v => !fs.any fun u => decide (u = v)).map Tm.enc))) S := by
  rw [e_lc, hg, if_pos rfl, e_seq, he, Out.bind_ok]
  simp only [itemsP, Out.bind_ok]
  have key : ∀ v : Tm, (!(fs.map Tm.enc).any fun y => eqv y v.enc) = !fs.any fun u => decide (u = v) := fun v => by
    rw [List.any_map]
    congr 2
    funext u
    exact tm_eqv u v
  rw [lcGo_ok (p := fun v => !(fs.map Tm.enc).any fun y => eqv y v) (h := fun v => v)]
  · rw [List.nil_append, List.map_id', List.filter_map]
    rw [show ((fun v => !(fs.map Tm.enc).any fun y => eqv y v) ∘ Tm.enc) = (fun v => !fs.any fun u => decide (u = v)) from funext key]
  · intro x hx
    obtain ⟨v, _, rfl⟩ := List.mem_map.mp hx
    have hn := nin_ok (v := v) hf
    rw [key v]
    simp [-c_ninl, hn]
  · intro x hx _
    simp
  · simp only [List.length_nil, List.length_map]
    exact Nat.le_trans (by omega) (show 100000 ≤ lim by decide)
theorem frees_ok (h : P.D "frees" = some d_frees) (t : Tm) : ∀ (n : Nat) (S : Store), t.depth < n → t.wf → t.size ≤ 100000 → call P n "frees" [.val t.enc] S = .ok (.lst (t.fv.map Tm.enc)) S := by
  induction t with
  | bd k => intro n S hn hw hs; obtain ⟨n, rfl, hn⟩ := fuel hn; rw [call_def h _ _ _ rfl]; simp [d_frees, begins, Tm.enc, Tm.fv]
  | fr x s => intro n S hn hw hs; obtain ⟨n, rfl, hn⟩ := fuel hn; rw [call_def h _ _ _ rfl]; simp [d_frees, begins, Tm.enc, Tm.fv]
  | sm s => intro n S hn hw hs; obtain ⟨n, rfl, hn⟩ := fuel hn; rw [call_def h _ _ _ rfl]; simp [d_frees, begins, Tm.enc, Tm.fv]
  | fn s t ih =>
    intro n S hn hw hs
    obtain ⟨n, rfl, hn⟩ := fuel hn
    simp only [Tm.depth] at hn
    simp only [Tm.size] at hs
    rw [call_def h _ _ _ rfl]
    have e := ih n S (by omega) hw.2 (by omega)
    simp [d_frees, begins, Tm.enc, Tm.fv, h, e]
  | ap a b iha ihb =>
    intro n S hn hw hs
    obtain ⟨n, rfl, hn⟩ := fuel hn
    simp only [Tm.depth] at hn
    simp only [Tm.size] at hs
    rw [call_def h _ _ _ rfl]
    have e1 := iha n S (by omega) hw.1 (by omega)
    have e2 := ihb n S (by omega) hw.2 (by omega)
    have l1 := fv_len a
    have l2 := fv_len b
    have hlc := frees_lc (g := cfg P n) rfl (fs := a.fv) (gs := b.fv) (S := S) (a0 := some (.val (Tm.ap a b).enc)) (e := .call "frees" [(.prim .sub [(.var 0), (.int 2)])]) (fun u hu => ⟨fv_wf a u hw.1 hu, fr_dep hu⟩) (by omega) (by simp [h, e2, Tm.enc])
    simp only [Tm.enc] at hlc
    have l3 := List.length_filter_le (fun v => !a.fv.any fun u => decide (u = v)) b.fv
    have ll : (a.fv.map Tm.enc).length + ((b.fv.filter fun v => !a.fv.any fun u => decide (u = v)).map Tm.enc).length ≤ lim := by
      rw [List.length_map, List.length_map]
      exact Nat.le_trans (by omega) (show 200000 ≤ lim by decide)
    simp only [Tm.fv, List.map_append]
    generalize (b.fv.filter fun v => !a.fv.any fun u => decide (u = v)).map Tm.enc = G at *
    generalize a.fv.map Tm.enc = F at *
    have ll' : F.length + G.length ≤ 16777216 := ll
    simp [-e_lc, d_frees, begins, Tm.enc, h, e1, hlc, ll']
theorem freesN_ok (h : P.D "frees" = some d_frees) (t : Tm) : ∀ (n : Nat) (S : Store), t.depth < n → t.wf → t.size ≤ 100000 → callB P n true "frees" [.val t.enc] S = .ok (.lst (t.fv.map Tm.enc)) S := by
  induction t with
  | bd k => intro n S hn hw hs; obtain ⟨n, rfl, hn⟩ := fuel hn; rw [callN_def h _ _ _ rfl]; simp [d_frees, begins, Tm.enc, Tm.fv]
  | fr x s => intro n S hn hw hs; obtain ⟨n, rfl, hn⟩ := fuel hn; rw [callN_def h _ _ _ rfl]; simp [d_frees, begins, Tm.enc, Tm.fv]
  | sm s => intro n S hn hw hs; obtain ⟨n, rfl, hn⟩ := fuel hn; rw [callN_def h _ _ _ rfl]; simp [d_frees, begins, Tm.enc, Tm.fv]
  | fn s t ih =>
    intro n S hn hw hs
    obtain ⟨n, rfl, hn⟩ := fuel hn
    simp only [Tm.depth] at hn
    simp only [Tm.size] at hs
    rw [callN_def h _ _ _ rfl]
    have e := ih n S (by omega) hw.2 (by omega)
    simp [d_frees, begins, Tm.enc, Tm.fv, h, e]
  | ap a b iha ihb =>
    intro n S hn hw hs
    obtain ⟨n, rfl, hn⟩ := fuel hn
    simp only [Tm.depth] at hn
    simp only [Tm.size] at hs
    rw [callN_def h _ _ _ rfl]
    have e1 := frees_ok h a n S (by omega) hw.1 (by omega)
    have e2 := frees_ok h b n S (by omega) hw.2 (by omega)
    have l1 := fv_len a
    have l2 := fv_len b
    have hlc := frees_lc (g := cfgN P n) rfl (fs := a.fv) (gs := b.fv) (S := S) (a0 := some (.val (Tm.ap a b).enc)) (e := .call "frees" [(.prim .sub [(.var 0), (.int 2)])]) (fun u hu => ⟨fv_wf a u hw.1 hu, fr_dep hu⟩) (by omega) (by simp [h, e2, Tm.enc])
    simp only [Tm.enc] at hlc
    have l3 := List.length_filter_le (fun v => !a.fv.any fun u => decide (u = v)) b.fv
    have ll : (a.fv.map Tm.enc).length + ((b.fv.filter fun v => !a.fv.any fun u => decide (u = v)).map Tm.enc).length ≤ lim := by
      rw [List.length_map, List.length_map]
      exact Nat.le_trans (by omega) (show 200000 ≤ lim by decide)
    simp only [Tm.fv, List.map_append]
    generalize (b.fv.filter fun v => !a.fv.any fun u => decide (u = v)).map Tm.enc = G at *
    generalize a.fv.map Tm.enc = F at *
    have ll' : F.length + G.length ≤ 16777216 := ll
    simp [-e_lc, d_frees, begins, Tm.enc, h, e1, hlc, ll']
theorem law_frees_ok (h : P.D "_law_frees" = some d__law_frees) (t : Tm) : ∀ (n : Nat) (S : Store), t.depth < n → t.wf → t.size ≤ 100000 → call P n "_law_frees" [.val t.enc] S = .ok (.lst (t.fv.map Tm.enc)) S := by
  induction t with
  | bd k => intro n S hn hw hs; obtain ⟨n, rfl, hn⟩ := fuel hn; rw [call_def h _ _ _ rfl]; simp [d__law_frees, begins, Tm.enc, Tm.fv]
  | fr x s => intro n S hn hw hs; obtain ⟨n, rfl, hn⟩ := fuel hn; rw [call_def h _ _ _ rfl]; simp [d__law_frees, begins, Tm.enc, Tm.fv]
  | sm s => intro n S hn hw hs; obtain ⟨n, rfl, hn⟩ := fuel hn; rw [call_def h _ _ _ rfl]; simp [d__law_frees, begins, Tm.enc, Tm.fv]
  | fn s t ih =>
    intro n S hn hw hs
    obtain ⟨n, rfl, hn⟩ := fuel hn
    simp only [Tm.depth] at hn
    simp only [Tm.size] at hs
    rw [call_def h _ _ _ rfl]
    have e := ih n S (by omega) hw.2 (by omega)
    simp [d__law_frees, begins, Tm.enc, Tm.fv, h, e]
  | ap a b iha ihb =>
    intro n S hn hw hs
    obtain ⟨n, rfl, hn⟩ := fuel hn
    simp only [Tm.depth] at hn
    simp only [Tm.size] at hs
    rw [call_def h _ _ _ rfl]
    have e1 := iha n S (by omega) hw.1 (by omega)
    have e2 := ihb n S (by omega) hw.2 (by omega)
    have l1 := fv_len a
    have l2 := fv_len b
    have hlc := frees_lc (g := cfg P n) rfl (fs := a.fv) (gs := b.fv) (S := S) (a0 := some (.val (Tm.ap a b).enc)) (e := .call "_law_frees" [(.prim .sub [(.var 0), (.int 2)])]) (fun u hu => ⟨fv_wf a u hw.1 hu, fr_dep hu⟩) (by omega) (by simp [h, e2, Tm.enc])
    simp only [Tm.enc] at hlc
    have l3 := List.length_filter_le (fun v => !a.fv.any fun u => decide (u = v)) b.fv
    have ll : (a.fv.map Tm.enc).length + ((b.fv.filter fun v => !a.fv.any fun u => decide (u = v)).map Tm.enc).length ≤ lim := by
      rw [List.length_map, List.length_map]
      exact Nat.le_trans (by omega) (show 200000 ≤ lim by decide)
    simp only [Tm.fv, List.map_append]
    generalize (b.fv.filter fun v => !a.fv.any fun u => decide (u = v)).map Tm.enc = G at *
    generalize a.fv.map Tm.enc = F at *
    have ll' : F.length + G.length ≤ 16777216 := ll
    simp [-e_lc, d__law_frees, begins, Tm.enc, h, e1, hlc, ll']
theorem law_size_ok (h : P.D "_law_size" = some d__law_size) (t : Tm) : ∀ (n : Nat) (S : Store), t.depth < n → call P n "_law_size" [.val t.enc] S = .ok (.int t.size) S := by
  induction t with
  | fn s t ih =>
    intro n S hn
    obtain ⟨n, rfl, hn⟩ := fuel hn
    rw [call_def h _ _ _ rfl]
    simp only [Tm.depth] at hn
    have e1 := ih n S (by omega)
    simp [d__law_size, begins, Tm.enc, Tm.size, h, e1]
  | ap a b iha ihb =>
    intro n S hn
    obtain ⟨n, rfl, hn⟩ := fuel hn
    rw [call_def h _ _ _ rfl]
    simp only [Tm.depth] at hn
    have e1 := iha n S (by omega)
    have e2 := ihb n S (by omega)
    simp [d__law_size, begins, Tm.enc, Tm.size, h, e1, e2]
  | _ => intro n S hn; obtain ⟨n, rfl, hn⟩ := fuel hn; rw [call_def h _ _ _ rfl]; simp [d__law_size, begins, Tm.enc, Tm.size]
theorem law_depth_ok (h : P.D "_law_depth" = some d__law_depth) (t : Tm) : ∀ (n : Nat) (S : Store), t.depth < n → call P n "_law_depth" [.val t.enc] S = .ok (.int t.depth) S := by
  induction t with
  | fn s t ih =>
    intro n S hn
    obtain ⟨n, rfl, hn⟩ := fuel hn
    rw [call_def h _ _ _ rfl]
    simp only [Tm.depth] at hn
    have e1 := ih n S (by omega)
    simp [d__law_depth, begins, Tm.enc, Tm.depth, h, e1]
  | ap a b iha ihb =>
    intro n S hn
    obtain ⟨n, rfl, hn⟩ := fuel hn
    rw [call_def h _ _ _ rfl]
    simp only [Tm.depth] at hn
    have e1 := iha n S (by omega)
    have e2 := ihb n S (by omega)
    simp [d__law_depth, begins, Tm.enc, Tm.depth, h, e1, e2]
    split <;> omega
  | _ => intro n S hn; obtain ⟨n, rfl, hn⟩ := fuel hn; rw [call_def h _ _ _ rfl]; simp [d__law_depth, begins, Tm.enc, Tm.depth]
theorem law_sort_ok (h : P.D "_law_sort" = some d__law_sort) (t : Tm) : ∀ (n : Nat) (ar : List So) (r : So) (S : Store), t.depth < n → t.sort ar = some r → ar.length + t.depth ≤ 1000000 → call P n "_law_sort" [.val t.enc, .val (.lst (ar.map So.enc))] S = .ok r.enc S := by
  induction t with
  | bd k =>
    intro n ar r S hn hr hl
    obtain ⟨n, rfl, hn⟩ := fuel hn
    rw [call_def h _ _ _ rfl]
    simp only [Tm.sort] at hr
    split at hr
    · rename_i c1
      have hlen := len_sorts (ar := ar)
      have hat : atp (ar.map So.enc) ((ar.length : Int) - 1 - (k : Int)) = some r.enc := by
        have e : (ar.length : Int) - 1 - (k : Int) = ((ar.length - 1 - k : Nat) : Int) := by omega
        rw [e, at_nat, List.getElem?_map, hr]
        rfl
      generalize (ar.length : Int) = L at hlen hat
      simp [-ln_lst, d__law_sort, begins, Tm.enc, hlen, hat]
    · cases hr
  | fr x s =>
    intro n ar r S hn hr hl
    obtain ⟨n, rfl, hn⟩ := fuel hn
    rw [call_def h _ _ _ rfl]
    simp only [Tm.sort] at hr
    cases hr
    simp [d__law_sort, begins, Tm.enc]
  | sm s =>
    intro n ar r S hn hr hl
    obtain ⟨n, rfl, hn⟩ := fuel hn
    rw [call_def h _ _ _ rfl]
    simp only [Tm.sort] at hr
    split at hr
    · cases hr
      simp [d__law_sort, begins, Tm.enc, So.enc]
    · cases hr
  | fn s t ih =>
    intro n ar r S hn hr hl
    obtain ⟨n, rfl, hn⟩ := fuel hn
    rw [call_def h _ _ _ rfl]
    simp only [Tm.depth] at hn hl
    simp only [Tm.sort] at hr
    split at hr
    · rename_i q hq
      split at hr
      · cases hr
        have e := ih n (ar ++ [s]) q S (by omega) hq (by rw [List.length_append, List.length_singleton]; omega)
        rw [List.map_append, List.map_singleton] at e
        have hl2 : ar.length + 1 ≤ 16777216 := by omega
        simp [d__law_sort, begins, Tm.enc, So.enc, h, e, hl2]
      · cases hr
    · cases hr
  | ap a b iha ihb =>
    intro n ar r S hn hr hl
    obtain ⟨n, rfl, hn⟩ := fuel hn
    rw [call_def h _ _ _ rfl]
    simp only [Tm.depth] at hn hl
    simp only [Tm.sort] at hr
    split at hr
    · rename_i x y z h1 h2
      split at hr
      · cases hr
        have e := iha n ar _ S (by omega) h1 (by omega)
        simp only [So.enc] at e
        simp [d__law_sort, begins, Tm.enc, h, e]
      · cases hr
    · cases hr
theorem law_good_ok (h : P.D "_law_good" = some d__law_good) (h1 : P.D "_law_sort" = some d__law_sort) (h2 : P.D "_law_sort_depth" = some d__law_sort_depth) (t : Tm) : ∀ (n : Nat) (ar : List So) (r : So) (S : Store), t.depth + 7 < n → t.sort ar = some r → t.wf → (∀ s ∈ ar, s.dep ≤ 5) → ar.length + t.depth ≤ 1000000 → call P n "_law_good" [.val t.enc, .val (.lst (ar.map So.enc))] S = .ok (.bl true) S := by
  have top : ∀ (t : Tm) (n : Nat) (ar : List So) (r : So) (S : Store), t.depth + 7 < n + 1 → t.sort ar = some r → t.wf → (∀ s ∈ ar, s.dep ≤ 5) → ar.length + t.depth ≤ 1000000 → call P n "_law_sort" [.val t.enc, .val (.lst (ar.map So.enc))] S = .ok r.enc S ∧ call P n "_law_sort_depth" [.val r.enc] S = .ok (.int r.dep) S ∧ ¬ (5 : Int) < (r.dep : Int) := by
    intro t n ar r S hn hr hw har hl
    have dr := sort_dep t ar r hw har hr
    exact ⟨law_sort_ok h1 t n ar r S (by omega) hr hl, law_sort_depth_ok h2 r n S (by omega), by omega⟩
  induction t with
  | bd k =>
    intro n ar r S hn hr hw har hl
    obtain ⟨n, rfl, hn'⟩ := fuel hn
    obtain ⟨e1, e2, e3⟩ := top _ n ar r S hn hr hw har hl
    rw [call_def h _ _ _ rfl]
    simp only [Tm.enc] at e1
    simp [d__law_good, begins, Tm.enc, h1, h2, e1, e2, e3]
  | fr x s =>
    intro n ar r S hn hr hw har hl
    obtain ⟨n, rfl, hn'⟩ := fuel hn
    obtain ⟨e1, e2, e3⟩ := top _ n ar r S hn hr hw har hl
    rw [call_def h _ _ _ rfl]
    simp only [Tm.enc] at e1
    simp [d__law_good, begins, Tm.enc, h1, h2, e1, e2, e3]
  | sm s =>
    intro n ar r S hn hr hw har hl
    obtain ⟨n, rfl, hn'⟩ := fuel hn
    obtain ⟨e1, e2, e3⟩ := top _ n ar r S hn hr hw har hl
    rw [call_def h _ _ _ rfl]
    simp only [Tm.enc] at e1
    simp [d__law_good, begins, Tm.enc, h1, h2, e1, e2, e3]
  | fn s t ih =>
    intro n ar r S hn hr hw har hl
    obtain ⟨n, rfl, hn'⟩ := fuel hn
    obtain ⟨e1, e2, e3⟩ := top _ n ar r S hn hr hw har hl
    rw [call_def h _ _ _ rfl]
    simp only [Tm.enc] at e1
    simp only [Tm.depth] at hn' hl
    simp only [Tm.sort] at hr
    split at hr
    · rename_i q hq
      have ds := hw.1
      have e := ih n (ar ++ [s]) q S (by omega) hq hw.2 (fun x hx => by
        rcases List.mem_append.mp hx with z | z
        · exact har x z
        · rw [List.mem_singleton.mp z]; exact ds) (by rw [List.length_append, List.length_singleton]; omega)
      rw [List.map_append, List.map_singleton] at e
      have hl2 : ar.length + 1 ≤ 16777216 := by omega
      simp [d__law_good, begins, Tm.enc, h, h1, h2, e1, e2, e3, e, hl2]
    · cases hr
  | ap a b iha ihb =>
    intro n ar r S hn hr hw har hl
    obtain ⟨n, rfl, hn'⟩ := fuel hn
    obtain ⟨e1, e2, e3⟩ := top _ n ar r S hn hr hw har hl
    rw [call_def h _ _ _ rfl]
    simp only [Tm.enc] at e1
    simp only [Tm.depth] at hn' hl
    simp only [Tm.sort] at hr
    split at hr
    · rename_i x y z k1 k2
      have f1 := iha n ar _ S (by omega) k1 hw.1 har (by omega)
      have f2 := ihb n ar _ S (by omega) k2 hw.2 har (by omega)
      simp [d__law_good, begins, Tm.enc, h, h1, h2, e1, e2, e3, f1, f2]
    · cases hr
end
end Pg
end
section
set_option maxHeartbeats 400000
namespace Pg
open Ev

/-! ## terms put in the stead of others -/
def eqT (s : So) (a b : Tm) : Tm := .ap (.ap (.sm s) a) b
theorem eqT_enc (s : So) (a b : Tm) : (eqT s a b).enc = .tup [.str wOf, .tup [.str wOf, .tup [.str wSame, s.enc], a.enc], b.enc] := rfl
abbrev tooGreat : Exn := ⟨"TooGreat", .non⟩
abbrev noRule : Exn := ⟨"NoRule", .non⟩
def Tm.isT (t : Tm) : Bool := (t.sort []).isSome && t.small
theorem small_iff {t : Tm} : t.small = true ↔ t.depth ≤ 40 ∧ t.size ≤ 600 := by simp [Tm.small]
/-- what lists of keys and values hold at a term -/
def lkT : List Tm → List Tm → Tm → Option Tm
  | k :: ks, v :: vs, t => if k = t then some v else lkT ks vs t
  | _, _, _ => none
theorem dget_tm : ∀ (ks vs : List Tm) (t : Tm), dgetP (ks.map Tm.enc) (vs.map Tm.enc) t.enc = (lkT ks vs t).map Tm.enc
  | [], _, _ => by simp [dgetP, lkT]
  | _ :: _, [], _ => by simp [dgetP, lkT]
  | k :: ks, v :: vs, t => by
    simp only [List.map_cons, dgetP, lkT, tm_eqv, dget_tm ks vs t]
    by_cases c : k = t <;> simp [c]
def Tm.putA (ks vs : List Tm) : Tm → Tm
  | .fr x s => (lkT ks vs (.fr x s)).getD (.fr x s)
  | .ap a b => .ap (a.putA ks vs) (b.putA ks vs)
  | .fn s t => .fn s (t.putA ks vs)
  | t => t
theorem so_hsh : ∀ s : So, hsh s.enc = true
  | .t => rfl
  | .i => rfl
  | .fn a b => by simp only [So.enc, hsh, hshs, so_hsh a, so_hsh b, Bool.and_self]
theorem key_fr {x : List Nat} {s : So} (h : s.dep ≤ 5) : keyOk (Tm.fr x s).enc = true := by
  simp only [Tm.enc, keyOk, hshs, hsh, so_hsh, pds, pd, so_pd]
  simp
  omega
theorem plain_tm (t : Tm) : plainV t.enc = true := by cases t <;> rfl
theorem pg_get2 {S : Store} {d : Sl} {ks vs : List PV} {k e : PV} (h : deref S d = some (.dct ks vs)) : primGo .get2 [d, .val k, .val e] S = if keyOk k && plainV e then .ok (.val ((dgetP ks vs k).getD e)) S else .stuck := by
  unfold primGo
  have hm : mapO (deref S) [d, .val k, .val e] = some [.dct ks vs, k, e] := by
    simp only [mapO, h, show ∀ v, deref S (.val v) = some v from fun _ => rfl, Option.map_some]
  rw [show borrows .get2 = true from rfl, if_pos rfl, hm]
  simp only [primP, get2P]
  cases keyOk k <;> cases plainV e <;> rfl
theorem rc_get2 {S : Store} {d : Sl} {ks vs : List PV} (h : deref S d = some (.dct ks vs)) : recvOk .get2 d S = true := by
  unfold recvOk
  simp only [borrows, if_true, h, recv]
def Tm.over : Tm → Tm → Nat → Tm
  | .ap a b, v, l => if .ap a b = v then .bd l else .ap (a.over v l) (b.over v l)
  | .fn s t, v, l => if .fn s t = v then .bd l else .fn s (t.over v (l + 1))
  | .bd k, v, l => if .bd k = v then .bd l else .bd k
  | .fr x s, v, l => if .fr x s = v then .bd l else .fr x s
  | .sm s, v, l => if .sm s = v then .bd l else .sm s
def Tm.lift (d : Nat) : Nat → Tm → Tm
  | l, .bd k => if l ≤ k then .bd (k + d) else .bd k
  | l, .ap a b => .ap (a.lift d l) (b.lift d l)
  | l, .fn s t => .fn s (t.lift d (l + 1))
  | _, t => t
def Tm.op : Tm → Tm → Nat → Tm
  | .bd k, o, l => if k = l then o.lift l 0 else .bd (if l < k then k - 1 else k)
  | .ap a b, o, l => .ap (a.op o l) (b.op o l)
  | .fn s t, o, l => .fn s (t.op o (l + 1))
  | t, _, _ => t
/-- the law's own -/
def Tm.opL : Tm → Tm → Nat → Tm
  | .bd k, o, l => if k = l then o else .bd k
  | .ap a b, o, l => .ap (a.opL o l) (b.opL o l)
  | .fn s t, o, l => .fn s (t.opL o (l + 1))
  | t, _, _ => t
section
variable {P : Prog}
theorem put_raw_ok (h : P.D "put_raw" = some d_put_raw) {ks vs : List Tm} {d : Sl} {S : Store} (hd : deref S d = some (.dct (ks.map Tm.enc) (vs.map Tm.enc))) (t : Tm) : ∀ (n : Nat), t.depth < n → t.wf → call P n "put_raw" [.val t.enc, d] S = .ok (t.putA ks vs).enc S := by
  induction t with
  | bd k => intro n hn hw; obtain ⟨n, rfl, hn⟩ := fuel hn; rw [call_def h _ _ _ rfl]; simp [d_put_raw, begins, Tm.enc, Tm.putA]
  | sm s => intro n hn hw; obtain ⟨n, rfl, hn⟩ := fuel hn; rw [call_def h _ _ _ rfl]; simp [d_put_raw, begins, Tm.enc, Tm.putA]
  | fr x s =>
    intro n hn hw
    obtain ⟨n, rfl, hn⟩ := fuel hn
    rw [call_def h _ _ _ rfl]
    have e1 := pg_get2 (k := (Tm.fr x s).enc) (e := (Tm.fr x s).enc) hd
    rw [key_fr hw.2, plain_tm, dget_tm] at e1
    have e2 := rc_get2 hd
    have e3 : ((lkT ks vs (.fr x s)).map Tm.enc).getD (Tm.fr x s).enc = ((Tm.fr x s).putA ks vs).enc := by
      simp only [Tm.putA]
      cases lkT ks vs (.fr x s) <;> rfl
    rw [e3] at e1
    generalize ((Tm.fr x s).putA ks vs).enc = z at *
    simp only [Tm.enc] at e1
    simp [d_put_raw, begins, Tm.enc, e1, e2]
  | fn s t ih =>
    intro n hn hw
    obtain ⟨n, rfl, hn⟩ := fuel hn
    simp only [Tm.depth] at hn
    rw [call_def h _ _ _ rfl]
    have e := ih n (by omega) hw.2
    simp [d_put_raw, begins, Tm.enc, Tm.putA, h, e]
  | ap a b iha ihb =>
    intro n hn hw
    obtain ⟨n, rfl, hn⟩ := fuel hn
    simp only [Tm.depth] at hn
    rw [call_def h _ _ _ rfl]
    have e1 := iha n (by omega) hw.1
    have e2 := ihb n (by omega) hw.2
    simp [d_put_raw, begins, Tm.enc, Tm.putA, h, e1, e2]
theorem _law_put_ok (h : P.D "_law_put" = some d__law_put) {ks vs : List Tm} {d : Sl} {S : Store} (hd : deref S d = some (.dct (ks.map Tm.enc) (vs.map Tm.enc))) (t : Tm) : ∀ (n : Nat), t.depth < n → t.wf → call P n "_law_put" [.val t.enc, d] S = .ok (t.putA ks vs).enc S := by
  induction t with
  | bd k => intro n hn hw; obtain ⟨n, rfl, hn⟩ := fuel hn; rw [call_def h _ _ _ rfl]; simp [d__law_put, begins, Tm.enc, Tm.putA]
  | sm s => intro n hn hw; obtain ⟨n, rfl, hn⟩ := fuel hn; rw [call_def h _ _ _ rfl]; simp [d__law_put, begins, Tm.enc, Tm.putA]
  | fr x s =>
    intro n hn hw
    obtain ⟨n, rfl, hn⟩ := fuel hn
    rw [call_def h _ _ _ rfl]
    have e1 := pg_get2 (k := (Tm.fr x s).enc) (e := (Tm.fr x s).enc) hd
    rw [key_fr hw.2, plain_tm, dget_tm] at e1
    have e2 := rc_get2 hd
    have e3 : ((lkT ks vs (.fr x s)).map Tm.enc).getD (Tm.fr x s).enc = ((Tm.fr x s).putA ks vs).enc := by
      simp only [Tm.putA]
      cases lkT ks vs (.fr x s) <;> rfl
    rw [e3] at e1
    generalize ((Tm.fr x s).putA ks vs).enc = z at *
    simp only [Tm.enc] at e1
    simp [d__law_put, begins, Tm.enc, e1, e2]
  | fn s t ih =>
    intro n hn hw
    obtain ⟨n, rfl, hn⟩ := fuel hn
    simp only [Tm.depth] at hn
    rw [call_def h _ _ _ rfl]
    have e := ih n (by omega) hw.2
    simp [d__law_put, begins, Tm.enc, Tm.putA, h, e]
  | ap a b iha ihb =>
    intro n hn hw
    obtain ⟨n, rfl, hn⟩ := fuel hn
    simp only [Tm.depth] at hn
    rw [call_def h _ _ _ rfl]
    have e1 := iha n (by omega) hw.1
    have e2 := ihb n (by omega) hw.2
    simp [d__law_put, begins, Tm.enc, Tm.putA, h, e1, e2]
theorem bound_raw_ok (h : P.D "bound_raw" = some d_bound_raw) {v : Tm} (t : Tm) : ∀ (n l : Nat) (S : Store), t.depth < n → t.wf → t.depth ≤ 140 → call P n "bound_raw" [.val t.enc, .val v.enc, .val (.int l)] S = .ok (t.over v l).enc S := by
  induction t with
  | fn s t ih =>
    intro n l S hn hw hd
    obtain ⟨n, rfl, hn⟩ := fuel hn
    rw [call_def h _ _ _ rfl]
    have ok := tm_okd (b := v) hw hd
    have q := tm_eqv (.fn s t) v
    simp only [Tm.depth] at hn hd
    have e := ih n (l + 1) S (by omega) hw.2 (by omega)
    simp only [Int.natCast_add, Int.natCast_one] at e
    simp only [Tm.over]
    simp only [Tm.enc] at ok q ⊢
    by_cases c : Tm.fn s t = v
    · rw [if_pos c]; simp [d_bound_raw, begins, Tm.enc, h, ok, q, c]
    · rw [if_neg c]; simp [d_bound_raw, begins, Tm.enc, h, ok, q, c, e]
  | ap a b iha ihb =>
    intro n l S hn hw hd
    obtain ⟨n, rfl, hn⟩ := fuel hn
    rw [call_def h _ _ _ rfl]
    have ok := tm_okd (b := v) hw hd
    have q := tm_eqv (.ap a b) v
    simp only [Tm.depth] at hn hd
    have e1 := iha n l S (by omega) hw.1 (by omega)
    have e2 := ihb n l S (by omega) hw.2 (by omega)
    simp only [Tm.over]
    simp only [Tm.enc] at ok q ⊢
    by_cases c : Tm.ap a b = v
    · rw [if_pos c]; simp [d_bound_raw, begins, Tm.enc, h, ok, q, c]
    · rw [if_neg c]; simp [d_bound_raw, begins, Tm.enc, h, ok, q, c, e1, e2]
  | bd k =>
    intro n l S hn hw hd
    obtain ⟨n, rfl, hn⟩ := fuel hn
    rw [call_def h _ _ _ rfl]
    have ok := tm_okd (a := .bd k) (b := v) hw hd
    have q := tm_eqv (.bd k) v
    simp only [Tm.over]
    simp only [Tm.enc] at ok q ⊢
    by_cases c : Tm.bd k = v
    · rw [if_pos c]; simp [d_bound_raw, begins, Tm.enc, h, ok, q, c]
    · rw [if_neg c]; simp [d_bound_raw, begins, Tm.enc, h, ok, q, c]
  | fr x s =>
    intro n l S hn hw hd
    obtain ⟨n, rfl, hn⟩ := fuel hn
    rw [call_def h _ _ _ rfl]
    have ok := tm_okd (a := .fr x s) (b := v) hw hd
    have q := tm_eqv (.fr x s) v
    simp only [Tm.over]
    simp only [Tm.enc] at ok q ⊢
    by_cases c : Tm.fr x s = v
    · rw [if_pos c]; simp [d_bound_raw, begins, Tm.enc, h, ok, q, c]
    · rw [if_neg c]; simp [d_bound_raw, begins, Tm.enc, h, ok, q, c]
  | sm s =>
    intro n l S hn hw hd
    obtain ⟨n, rfl, hn⟩ := fuel hn
    rw [call_def h _ _ _ rfl]
    have ok := tm_okd (a := .sm s) (b := v) hw hd
    have q := tm_eqv (.sm s) v
    simp only [Tm.over]
    simp only [Tm.enc] at ok q ⊢
    by_cases c : Tm.sm s = v
    · rw [if_pos c]; simp [d_bound_raw, begins, Tm.enc, h, ok, q, c]
    · rw [if_neg c]; simp [d_bound_raw, begins, Tm.enc, h, ok, q, c]
theorem _law_over_ok (h : P.D "_law_over" = some d__law_over) {v : Tm} (t : Tm) : ∀ (n l : Nat) (S : Store), t.depth < n → t.wf → t.depth ≤ 140 → call P n "_law_over" [.val t.enc, .val v.enc, .val (.int l)] S = .ok (t.over v l).enc S := by
  induction t with
  | fn s t ih =>
    intro n l S hn hw hd
    obtain ⟨n, rfl, hn⟩ := fuel hn
    rw [call_def h _ _ _ rfl]
    have ok := tm_okd (b := v) hw hd
    have q := tm_eqv (.fn s t) v
    simp only [Tm.depth] at hn hd
    have e := ih n (l + 1) S (by omega) hw.2 (by omega)
    simp only [Int.natCast_add, Int.natCast_one] at e
    simp only [Tm.over]
    simp only [Tm.enc] at ok q ⊢
    by_cases c : Tm.fn s t = v
    · rw [if_pos c]; simp [d__law_over, begins, Tm.enc, h, ok, q, c]
    · rw [if_neg c]; simp [d__law_over, begins, Tm.enc, h, ok, q, c, e]
  | ap a b iha ihb =>
    intro n l S hn hw hd
    obtain ⟨n, rfl, hn⟩ := fuel hn
    rw [call_def h _ _ _ rfl]
    have ok := tm_okd (b := v) hw hd
    have q := tm_eqv (.ap a b) v
    simp only [Tm.depth] at hn hd
    have e1 := iha n l S (by omega) hw.1 (by omega)
    have e2 := ihb n l S (by omega) hw.2 (by omega)
    simp only [Tm.over]
    simp only [Tm.enc] at ok q ⊢
    by_cases c : Tm.ap a b = v
    · rw [if_pos c]; simp [d__law_over, begins, Tm.enc, h, ok, q, c]
    · rw [if_neg c]; simp [d__law_over, begins, Tm.enc, h, ok, q, c, e1, e2]
  | bd k =>
    intro n l S hn hw hd
    obtain ⟨n, rfl, hn⟩ := fuel hn
    rw [call_def h _ _ _ rfl]
    have ok := tm_okd (a := .bd k) (b := v) hw hd
    have q := tm_eqv (.bd k) v
    simp only [Tm.over]
    simp only [Tm.enc] at ok q ⊢
    by_cases c : Tm.bd k = v
    · rw [if_pos c]; simp [d__law_over, begins, Tm.enc, h, ok, q, c]
    · rw [if_neg c]; simp [d__law_over, begins, Tm.enc, h, ok, q, c]
  | fr x s =>
    intro n l S hn hw hd
    obtain ⟨n, rfl, hn⟩ := fuel hn
    rw [call_def h _ _ _ rfl]
    have ok := tm_okd (a := .fr x s) (b := v) hw hd
    have q := tm_eqv (.fr x s) v
    simp only [Tm.over]
    simp only [Tm.enc] at ok q ⊢
    by_cases c : Tm.fr x s = v
    · rw [if_pos c]; simp [d__law_over, begins, Tm.enc, h, ok, q, c]
    · rw [if_neg c]; simp [d__law_over, begins, Tm.enc, h, ok, q, c]
  | sm s =>
    intro n l S hn hw hd
    obtain ⟨n, rfl, hn⟩ := fuel hn
    rw [call_def h _ _ _ rfl]
    have ok := tm_okd (a := .sm s) (b := v) hw hd
    have q := tm_eqv (.sm s) v
    simp only [Tm.over]
    simp only [Tm.enc] at ok q ⊢
    by_cases c : Tm.sm s = v
    · rw [if_pos c]; simp [d__law_over, begins, Tm.enc, h, ok, q, c]
    · rw [if_neg c]; simp [d__law_over, begins, Tm.enc, h, ok, q, c]
theorem lifted_ok (h : P.D "lifted" = some d_lifted) {d : Nat} (t : Tm) : ∀ (n l : Nat) (S : Store), t.depth < n → call P n "lifted" [.val t.enc, .val (.int d), .val (.int l)] S = .ok (t.lift d l).enc S := by
  induction t with
  | bd k =>
    intro n l S hn
    obtain ⟨n, rfl, hn⟩ := fuel hn
    rw [call_def h _ _ _ rfl]
    by_cases c : l ≤ k
    · have c' : (l : Int) ≤ (k : Int) := by omega
      simp [d_lifted, begins, Tm.enc, Tm.lift, c, c']
    · have c' : ¬ (l : Int) ≤ (k : Int) := by omega
      simp [d_lifted, begins, Tm.enc, Tm.lift, c, c']
  | fr x s => intro n l S hn; obtain ⟨n, rfl, hn⟩ := fuel hn; rw [call_def h _ _ _ rfl]; simp [d_lifted, begins, Tm.enc, Tm.lift]
  | sm s => intro n l S hn; obtain ⟨n, rfl, hn⟩ := fuel hn; rw [call_def h _ _ _ rfl]; simp [d_lifted, begins, Tm.enc, Tm.lift]
  | fn s t ih =>
    intro n l S hn
    obtain ⟨n, rfl, hn⟩ := fuel hn
    simp only [Tm.depth] at hn
    rw [call_def h _ _ _ rfl]
    have e := ih n (l + 1) S (by omega)
    simp only [Int.natCast_add, Int.natCast_one] at e
    simp [d_lifted, begins, Tm.enc, Tm.lift, h, e]
  | ap a b iha ihb =>
    intro n l S hn
    obtain ⟨n, rfl, hn⟩ := fuel hn
    simp only [Tm.depth] at hn
    rw [call_def h _ _ _ rfl]
    have e1 := iha n l S (by omega)
    have e2 := ihb n l S (by omega)
    simp [d_lifted, begins, Tm.enc, Tm.lift, h, e1, e2]
theorem opened_ok (h : P.D "opened" = some d_opened) (hl : P.D "lifted" = some d_lifted) {o : Tm} (t : Tm) : ∀ (n l : Nat) (S : Store), t.depth + o.depth + 1 < n → call P n "opened" [.val t.enc, .val o.enc, .val (.int l)] S = .ok (t.op o l).enc S := by
  induction t with
  | bd k =>
    intro n l S hn
    obtain ⟨n, rfl, hn⟩ := fuel hn
    rw [call_def h _ _ _ rfl]
    simp only [Tm.depth] at hn
    have e : call P n "lifted" [.val o.enc, .val (.int l), .val (.int 0)] S = .ok (o.lift l 0).enc S := lifted_ok hl (d := l) o n 0 S (by omega)
    have ok : okd (.int (k : Int)) (.int (l : Int)) = true := by simp [okd, dat, pd]
    by_cases c : k = l
    · have c' : (k : Int) = (l : Int) := by omega
      simp [d_opened, begins, Tm.enc, Tm.op, c, hl, e, ok]
    · have c' : ¬ (k : Int) = (l : Int) := by omega
      by_cases b : l < k
      · have b' : (l : Int) < (k : Int) := by omega
        have z : ((k - 1 : Nat) : Int) = (k : Int) - 1 := by omega
        simp [d_opened, begins, Tm.enc, Tm.op, c, c', b, b', ok, z]
      · have b' : ¬ (l : Int) < (k : Int) := by omega
        simp [d_opened, begins, Tm.enc, Tm.op, c, c', b, b', ok]
  | fr x s => intro n l S hn; obtain ⟨n, rfl, hn⟩ := fuel hn; rw [call_def h _ _ _ rfl]; simp [d_opened, begins, Tm.enc, Tm.op]
  | sm s => intro n l S hn; obtain ⟨n, rfl, hn⟩ := fuel hn; rw [call_def h _ _ _ rfl]; simp [d_opened, begins, Tm.enc, Tm.op]
  | fn s t ih =>
    intro n l S hn
    obtain ⟨n, rfl, hn⟩ := fuel hn
    simp only [Tm.depth] at hn
    rw [call_def h _ _ _ rfl]
    have e := ih n (l + 1) S (by omega)
    simp only [Int.natCast_add, Int.natCast_one] at e
    simp [d_opened, begins, Tm.enc, Tm.op, h, e]
  | ap a b iha ihb =>
    intro n l S hn
    obtain ⟨n, rfl, hn⟩ := fuel hn
    simp only [Tm.depth] at hn
    rw [call_def h _ _ _ rfl]
    have e1 := iha n l S (by omega)
    have e2 := ihb n l S (by omega)
    simp [d_opened, begins, Tm.enc, Tm.op, h, e1, e2]
/-! ### bounded, sort_of, equality, sides -/
structure HasB (P : Prog) : Prop extends HasM P where
  sortOf : P.D "sort_of" = some d_sort_of
  bounded : P.D "bounded" = some d_bounded
  xcT : P.xc "TooGreat" = true
theorem sort_of_ok (H : HasB P) {t : Tm} {n : Nat} {S : Store} (hw : t.wf) (hd : t.depth ≤ 100) (hn : t.depth + 20 < n) : call P n "sort_of" [.val t.enc] S = .ok (encS (t.sort [])) S := by
  obtain ⟨n, rfl, hn⟩ := fuel hn
  rw [call_def H.sortOf _ _ _ rfl]
  have hp := tm_pd t hw
  have e := sort_in_ok H.toHasT n t.enc [] S (by omega) (tm_gd t hw) (by simp; omega) (by simp)
  rw [tmOf_enc t hw, Option.bind_some, List.map_nil] at e
  simp [d_sort_of, begins, H.sortIn, e]
theorem is_term_tm (H : HasB P) {t : Tm} {n : Nat} {S : Store} (hw : t.wf) (hd : t.depth ≤ 100) (hn : t.depth + 20 < n) : call P n "is_term" [.val t.enc] S = .ok (.bl t.isT) S := by
  have hp := tm_pd t hw
  have e := is_term_ok H.toHasM (v := t.enc) (n := n) (S := S) (by omega) (tm_gd t hw) (by omega)
  rw [isTerm_enc hw] at e
  exact e
theorem bounded_ok (H : HasB P) {t : Tm} {n : Nat} {S : Store} (hw : t.wf) (hd : t.depth ≤ 100) (hn : t.depth + 21 < n) : call P n "bounded" [.val t.enc] S = if t.isT then .ok t.enc S else .err tooGreat S := by
  obtain ⟨n, rfl, hn⟩ := fuel hn
  rw [call_def H.bounded _ _ _ rfl]
  have e := is_term_tm H (t := t) (n := n) (S := S) hw hd (by omega)
  cases hs : t.isT with
  | true => rw [hs] at e; simp [d_bounded, begins, H.isTerm, e]
  | false => rw [hs] at e; simp [d_bounded, begins, H.isTerm, H.xcT, e]
end
/-! ## mathematics of sorts -/
theorem wf_lift (d : Nat) : ∀ (t : Tm) (l : Nat), t.wf → (t.lift d l).wf
  | .bd k, l, _ => by simp only [Tm.lift]; split <;> trivial
  | .fr x s, l, h => h
  | .sm s, l, h => h
  | .ap a b, l, h => ⟨wf_lift d a l h.1, wf_lift d b l h.2⟩
  | .fn s t, l, h => ⟨h.1, wf_lift d t (l + 1) h.2⟩
theorem wf_op {o : Tm} (ho : o.wf) : ∀ (t : Tm) (l : Nat), t.wf → (t.op o l).wf
  | .bd k, l, _ => by
    simp only [Tm.op]
    split
    · exact wf_lift l o 0 ho
    · trivial
  | .fr x s, l, h => h
  | .sm s, l, h => h
  | .ap a b, l, h => ⟨wf_op ho a l h.1, wf_op ho b l h.2⟩
  | .fn s t, l, h => ⟨h.1, wf_op ho t (l + 1) h.2⟩
theorem wf_over {v : Tm} : ∀ (t : Tm) (l : Nat), t.wf → (t.over v l).wf
  | .bd k, l, h => by simp only [Tm.over]; split <;> trivial
  | .fr x s, l, h => by simp only [Tm.over]; split <;> first | trivial | exact h
  | .sm s, l, h => by simp only [Tm.over]; split <;> first | trivial | exact h
  | .ap a b, l, h => by
    simp only [Tm.over]
    split
    · trivial
    · exact ⟨wf_over a l h.1, wf_over b l h.2⟩
  | .fn s t, l, h => by
    simp only [Tm.over]
    split
    · trivial
    · exact ⟨h.1, wf_over t (l + 1) h.2⟩
theorem lkT_mem : ∀ {ks vs : List Tm} {t o : Tm}, lkT ks vs t = some o → ∃ i : Nat, ks[i]? = some t ∧ vs[i]? = some o
  | [], _, _, _, h => by simp [lkT] at h
  | _ :: _, [], _, _, h => by simp [lkT] at h
  | k :: ks, v :: vs, t, o, h => by
    simp only [lkT] at h
    split at h
    · rename_i c
      cases h
      exact ⟨0, by rw [c]; rfl, rfl⟩
    · obtain ⟨i, h1, h2⟩ := lkT_mem h
      exact ⟨i + 1, by simpa using h1, by simpa using h2⟩
/-- all that is put is of the sort of its variable, and closed -/
def Puts (ks vs : List Tm) : Prop := ∀ x s o, lkT ks vs (.fr x s) = some o → o.wf ∧ o.sort [] = some s
theorem wf_put {ks vs : List Tm} (hp : Puts ks vs) : ∀ t : Tm, t.wf → (t.putA ks vs).wf
  | .bd k, _ => trivial
  | .fr x s, h => by
    simp only [Tm.putA]
    cases e : lkT ks vs (.fr x s) with
    | none => exact h
    | some o => exact (hp x s o e).1
  | .sm s, h => h
  | .ap a b, h => ⟨wf_put hp a h.1, wf_put hp b h.2⟩
  | .fn s t, h => ⟨h.1, wf_put hp t h.2⟩
theorem lift_size (d : Nat) : ∀ (t : Tm) (l : Nat), (t.lift d l).size = t.size ∧ (t.lift d l).depth = t.depth ∧ (t.lift d l).occ = t.occ
  | .bd k, l => by simp only [Tm.lift]; split <;> exact ⟨rfl, rfl, rfl⟩
  | .fr x s, l => ⟨rfl, rfl, rfl⟩
  | .sm s, l => ⟨rfl, rfl, rfl⟩
  | .ap a b, l => by
    obtain ⟨a1, a2, a3⟩ := lift_size d a l
    obtain ⟨b1, b2, b3⟩ := lift_size d b l
    simp only [Tm.lift, Tm.size, Tm.depth, Tm.occ, a1, a2, a3, b1, b2, b3, and_self]
  | .fn s t, l => by
    obtain ⟨a1, a2, a3⟩ := lift_size d t (l + 1)
    simp only [Tm.lift, Tm.size, Tm.depth, Tm.occ, a1, a2, a3, and_self]
theorem op_size (o : Tm) : ∀ (t : Tm) (l : Nat), (t.op o l).size ≤ t.size + t.occ * o.size ∧ (t.op o l).depth ≤ t.depth + o.depth
  | .bd k, l => by
    simp only [Tm.op]
    split
    · obtain ⟨a1, a2, _⟩ := lift_size l o 0
      rw [a1, a2]
      simp only [Tm.occ, Tm.size, Tm.depth]
      omega
    · exact ⟨by simp only [Tm.size]; omega, Nat.zero_le _⟩
  | .fr x s, l => ⟨by simp only [Tm.op, Tm.size]; omega, Nat.zero_le _⟩
  | .sm s, l => ⟨by simp only [Tm.op, Tm.size]; omega, Nat.zero_le _⟩
  | .ap a b, l => by
    obtain ⟨a1, a2⟩ := op_size o a l
    obtain ⟨b1, b2⟩ := op_size o b l
    simp only [Tm.op, Tm.size, Tm.depth, Tm.occ, Nat.add_mul]
    omega
  | .fn s t, l => by
    obtain ⟨a1, a2⟩ := op_size o t (l + 1)
    simp only [Tm.op, Tm.size, Tm.depth, Tm.occ]
    omega
theorem put_size {ks vs : List Tm} {m e : Nat} (hp : ∀ t o, lkT ks vs t = some o → o.size ≤ m ∧ o.depth ≤ e) : ∀ t : Tm, (t.putA ks vs).size ≤ t.size + t.occ * m ∧ (t.putA ks vs).depth ≤ t.depth + e
  | .bd k => ⟨by simp only [Tm.putA, Tm.size]; omega, Nat.zero_le _⟩
  | .fr x s => by
    simp only [Tm.putA]
    cases q : lkT ks vs (.fr x s) with
    | none => exact ⟨by simp only [Option.getD_none, Tm.size]; omega, Nat.zero_le _⟩
    | some o =>
      have := hp _ _ q
      simp only [Option.getD_some, Tm.size, Tm.occ, Tm.depth]
      omega
  | .sm s => ⟨by simp only [Tm.putA, Tm.size]; omega, Nat.zero_le _⟩
  | .ap a b => by
    obtain ⟨a1, a2⟩ := put_size hp a
    obtain ⟨b1, b2⟩ := put_size hp b
    simp only [Tm.putA, Tm.size, Tm.depth, Tm.occ, Nat.add_mul]
    omega
  | .fn s t => by
    obtain ⟨a1, a2⟩ := put_size hp t
    simp only [Tm.putA, Tm.size, Tm.depth, Tm.occ]
    omega
theorem over_size {x : List Nat} {s : So} : ∀ (t : Tm) (l : Nat), (t.over (.fr x s) l).size = t.size ∧ (t.over (.fr x s) l).depth = t.depth ∧ (t.over (.fr x s) l).occ = t.occ
  | .bd k, l => by simp only [Tm.over]; split <;> exact ⟨rfl, rfl, rfl⟩
  | .fr y r, l => by simp only [Tm.over]; split <;> exact ⟨rfl, rfl, rfl⟩
  | .sm r, l => by simp only [Tm.over]; rw [if_neg (by intro z; cases z)]; exact ⟨rfl, rfl, rfl⟩
  | .ap a b, l => by
    obtain ⟨a1, a2, a3⟩ := over_size (x := x) (s := s) a l
    obtain ⟨b1, b2, b3⟩ := over_size (x := x) (s := s) b l
    simp only [Tm.over]
    rw [if_neg (by intro z; cases z)]
    simp only [Tm.size, Tm.depth, Tm.occ, a1, a2, a3, b1, b2, b3, and_self]
  | .fn r t, l => by
    obtain ⟨a1, a2, a3⟩ := over_size (x := x) (s := s) t (l + 1)
    simp only [Tm.over]
    rw [if_neg (by intro z; cases z)]
    simp only [Tm.size, Tm.depth, Tm.occ, a1, a2, a3, and_self]
/-- what is bound stands within so many functions -/
def Tm.cl : Nat → Tm → Prop
  | l, .bd k => k < l
  | l, .ap a b => a.cl l ∧ b.cl l
  | l, .fn _ t => t.cl (l + 1)
  | _, _ => True
theorem sort_ap {ar : List So} {a b : Tm} {r : So} (h : (Tm.ap a b).sort ar = some r) : ∃ x, a.sort ar = some (.fn x r) ∧ b.sort ar = some x := by
  simp only [Tm.sort] at h
  cases ea : a.sort ar with
  | none => rw [ea] at h; cases h
  | some f =>
    cases f with
    | t => rw [ea] at h; cases h
    | i => rw [ea] at h; cases h
    | fn x y =>
      cases eb : b.sort ar with
      | none => rw [ea, eb] at h; cases h
      | some z =>
        rw [ea, eb] at h
        simp only at h
        split at h
        · rename_i c
          cases h
          exact ⟨x, rfl, by rw [c]⟩
        · cases h
theorem sort_fn {ar : List So} {s : So} {t : Tm} {r : So} (h : (Tm.fn s t).sort ar = some r) : ∃ q, t.sort (ar ++ [s]) = some q ∧ r = .fn s q ∧ (So.fn s q).dep ≤ 5 := by
  simp only [Tm.sort] at h
  cases e : t.sort (ar ++ [s]) with
  | none => rw [e] at h; cases h
  | some q =>
    rw [e] at h
    simp only at h
    split at h
    · cases h; exact ⟨q, rfl, rfl, by assumption⟩
    · cases h
theorem sort_ap_of {ar : List So} {a b : Tm} {x r : So} (h1 : a.sort ar = some (.fn x r)) (h2 : b.sort ar = some x) : (Tm.ap a b).sort ar = some r := by simp [Tm.sort, h1, h2]
theorem sort_fn_of {ar : List So} {s q : So} {t : Tm} (h1 : t.sort (ar ++ [s]) = some q) (h2 : (So.fn s q).dep ≤ 5) : (Tm.fn s t).sort ar = some (.fn s q) := by simp only [Tm.sort, h1, if_pos h2]
theorem sort_cl : ∀ (t : Tm) (ar : List So) (r : So), t.sort ar = some r → t.cl ar.length
  | .bd k, ar, r, h => by
    simp only [Tm.sort] at h
    split at h
    · assumption
    · cases h
  | .fr x s, ar, r, h => trivial
  | .sm s, ar, r, h => trivial
  | .ap a b, ar, r, h => by
    obtain ⟨x, h1, h2⟩ := sort_ap h
    exact ⟨sort_cl a ar _ h1, sort_cl b ar _ h2⟩
  | .fn s t, ar, r, h => by
    obtain ⟨q, h1, _⟩ := sort_fn h
    have := sort_cl t _ _ h1
    rw [List.length_append, List.length_singleton] at this
    exact this
theorem lift_cl {d : Nat} : ∀ (t : Tm) (l : Nat), t.cl l → t.lift d l = t
  | .bd k, l, h => by
    have h : k < l := h
    simp only [Tm.lift]
    rw [if_neg (by omega)]
  | .fr x s, l, h => rfl
  | .sm s, l, h => rfl
  | .ap a b, l, h => by simp only [Tm.lift, lift_cl a l h.1, lift_cl b l h.2]
  | .fn s t, l, h => by simp only [Tm.lift, lift_cl t (l + 1) h]
theorem lift_zero : ∀ (t : Tm) (l : Nat), t.lift 0 l = t
  | .bd k, l => by simp only [Tm.lift]; split <;> rfl
  | .fr x s, l => rfl
  | .sm s, l => rfl
  | .ap a b, l => by simp only [Tm.lift, lift_zero a l, lift_zero b l]
  | .fn s t, l => by simp only [Tm.lift, lift_zero t (l + 1)]
/-- lifting over new functions in the midst -/
theorem sort_lift : ∀ (t : Tm) (A M B : List So) (r : So), t.sort (A ++ B) = some r → (t.lift M.length B.length).sort (A ++ M ++ B) = some r
  | .bd k, A, M, B, r, h => by
    simp only [Tm.sort, List.length_append] at h
    split at h
    · rename_i hk
      simp only [Tm.lift]
      split
      · rename_i hb
        simp only [Tm.sort, List.length_append]
        rw [if_pos (by omega)]
        rw [List.getElem?_append_left (by omega)] at h
        rw [List.append_assoc, List.getElem?_append_left (by omega), ← h]
        congr 1
        omega
      · rename_i hb
        simp only [Tm.sort, List.length_append]
        rw [if_pos (by omega)]
        rw [List.getElem?_append_right (by omega)] at h
        rw [List.getElem?_append_right (by rw [List.length_append]; omega), ← h]
        congr 1
        rw [List.length_append]
        omega
    · cases h
  | .fr x s, A, M, B, r, h => h
  | .sm s, A, M, B, r, h => h
  | .ap a b, A, M, B, r, h => by
    obtain ⟨x, h1, h2⟩ := sort_ap h
    exact sort_ap_of (sort_lift a A M B _ h1) (sort_lift b A M B _ h2)
  | .fn s t, A, M, B, r, h => by
    obtain ⟨q, h1, rfl, h3⟩ := sort_fn h
    rw [List.append_assoc] at h1
    have z := sort_lift t A M (B ++ [s]) q h1
    simp only [List.length_append, List.length_singleton] at z
    refine sort_fn_of ?_ h3
    rw [← List.append_assoc] at z
    exact z
theorem sort_weak {t : Tm} {r : So} (h : t.sort [] = some r) (ar : List So) : t.sort ar = some r := by
  have c := sort_cl t [] r h
  have z := sort_lift t [] ar [] r (by simpa using h)
  rw [List.length_nil, lift_cl t 0 c] at z
  simpa using z
/-- unfolding keeps the sort -/
theorem sort_op {o : Tm} {A : List So} {q : So} (ho : o.sort A = some q) : ∀ (t : Tm) (B : List So) (r : So), t.sort (A ++ q :: B) = some r → (t.op o B.length).sort (A ++ B) = some r
  | .bd k, B, r, h => by
    simp only [Tm.sort, List.length_append, List.length_cons] at h
    split at h
    · rename_i hk
      simp only [Tm.op]
      split
      · rename_i e
        rw [List.getElem?_append_right (by omega)] at h
        rw [show A.length + (B.length + 1) - 1 - k - A.length = 0 by omega] at h
        simp only [List.getElem?_cons_zero, Option.some.injEq] at h
        subst h
        have z := sort_lift o A B [] q (by simpa using ho)
        simpa using z
      · rename_i e
        split
        · rename_i c
          simp only [Tm.sort, List.length_append]
          rw [if_pos (by omega)]
          rw [List.getElem?_append_left (by omega)] at h
          rw [List.getElem?_append_left (by omega), ← h]
          congr 1
          omega
        · rename_i c
          simp only [Tm.sort, List.length_append]
          rw [if_pos (by omega)]
          rw [List.getElem?_append_right (by omega)] at h
          rw [List.getElem?_append_right (by omega), ← h]
          rw [show A.length + (B.length + 1) - 1 - k - A.length = (A.length + B.length - 1 - k - A.length) + 1 by omega, List.getElem?_cons_succ]
    · cases h
  | .fr x s, B, r, h => h
  | .sm s, B, r, h => h
  | .ap a b, B, r, h => by
    obtain ⟨x, h1, h2⟩ := sort_ap h
    exact sort_ap_of (sort_op ho a B _ h1) (sort_op ho b B _ h2)
  | .fn s t, B, r, h => by
    obtain ⟨p, h1, rfl, h3⟩ := sort_fn h
    rw [List.append_assoc] at h1
    have z := sort_op ho t (B ++ [s]) p h1
    simp only [List.length_append, List.length_singleton] at z
    refine sort_fn_of ?_ h3
    rw [← List.append_assoc] at z
    exact z
theorem sort_put {ks vs : List Tm} (hp : Puts ks vs) : ∀ (t : Tm) (ar : List So) (r : So), t.sort ar = some r → (t.putA ks vs).sort ar = some r
  | .bd k, ar, r, h => h
  | .fr x s, ar, r, h => by
    simp only [Tm.putA]
    cases e : lkT ks vs (.fr x s) with
    | none => exact h
    | some o =>
      simp only [Tm.sort, Option.some.injEq] at h
      subst h
      exact sort_weak (hp x s o e).2 ar
  | .sm s, ar, r, h => h
  | .ap a b, ar, r, h => by
    obtain ⟨x, h1, h2⟩ := sort_ap h
    exact sort_ap_of (sort_put hp a ar _ h1) (sort_put hp b ar _ h2)
  | .fn s t, ar, r, h => by
    obtain ⟨p, h1, rfl, h3⟩ := sort_fn h
    exact sort_fn_of (sort_put hp t _ _ h1) h3
theorem sort_over {x : List Nat} {s : So} : ∀ (t : Tm) (A B : List So) (r : So), A = [] → t.sort B = some r → (t.over (.fr x s) B.length).sort (s :: B) = some r
  | .bd k, A, B, r, hA, h => by
    simp only [Tm.sort] at h
    split at h
    · rename_i hk
      simp only [Tm.over]
      rw [if_neg (by intro z; cases z)]
      simp only [Tm.sort, List.length_cons]
      rw [if_pos (by omega), ← h, show B.length + 1 - 1 - k = (B.length - 1 - k) + 1 by omega, List.getElem?_cons_succ]
    · cases h
  | .fr y q, A, B, r, hA, h => by
    simp only [Tm.over]
    split
    · rename_i c
      cases c
      simp only [Tm.sort, Option.some.injEq] at h
      subst h
      simp only [Tm.sort, List.length_cons]
      rw [if_pos (by omega), show B.length + 1 - 1 - B.length = 0 by omega]
      rfl
    · exact h
  | .sm q, A, B, r, hA, h => by
    simp only [Tm.over]
    rw [if_neg (by intro z; cases z)]
    exact h
  | .ap a b, A, B, r, hA, h => by
    obtain ⟨y, h1, h2⟩ := sort_ap h
    simp only [Tm.over]
    rw [if_neg (by intro z; cases z)]
    exact sort_ap_of (sort_over a A B _ hA h1) (sort_over b A B _ hA h2)
  | .fn q t, A, B, r, hA, h => by
    obtain ⟨p, h1, rfl, h3⟩ := sort_fn h
    simp only [Tm.over]
    rw [if_neg (by intro z; cases z)]
    have z := sort_over (x := x) (s := s) t A (B ++ [q]) p hA h1
    simp only [List.length_append, List.length_singleton] at z
    exact sort_fn_of z h3
/-- a function that has a term at a variable, unfolded -/
theorem op_over {x : List Nat} {s : So} {o : Tm} (ho : o.cl 0) : ∀ (t : Tm) (l : Nat), t.cl l → (t.over (.fr x s) l).op o l = t.putA [.fr x s] [o]
  | .bd k, l, h => by
    have h : k < l := h
    simp only [Tm.over]
    rw [if_neg (by intro z; cases z)]
    simp only [Tm.op, Tm.putA]
    rw [if_neg (by omega), if_neg (by omega)]
  | .fr y q, l, h => by
    simp only [Tm.over, Tm.putA, lkT]
    by_cases c : Tm.fr y q = .fr x s
    · rw [if_pos c, if_pos c.symm]
      simp only [Tm.op, if_true, Option.getD_some]
      exact lift_cl o 0 ho
    · rw [if_neg c, if_neg (fun z => c z.symm)]
      rfl
  | .sm q, l, h => by simp only [Tm.over]; rw [if_neg (by intro z; cases z)]; rfl
  | .ap a b, l, h => by
    simp only [Tm.over]
    rw [if_neg (by intro z; cases z)]
    simp only [Tm.op, Tm.putA, op_over ho a l h.1, op_over ho b l h.2]
  | .fn q t, l, h => by
    simp only [Tm.over]
    rw [if_neg (by intro z; cases z)]
    simp only [Tm.op, Tm.putA, op_over ho t (l + 1) h]
theorem op_opL {o : Tm} (ho : o.cl 0) : ∀ (t : Tm) (l : Nat), t.cl (l + 1) → t.op o l = t.opL o l
  | .bd k, l, h => by
    have h : k < l + 1 := h
    simp only [Tm.op, Tm.opL]
    by_cases c : k = l
    · rw [if_pos c, if_pos c, lift_cl o 0 ho]
    · rw [if_neg c, if_neg c, if_neg (by omega)]
  | .fr y q, l, h => rfl
  | .sm q, l, h => rfl
  | .ap a b, l, h => by simp only [Tm.op, Tm.opL, op_opL ho a l h.1, op_opL ho b l h.2]
  | .fn q t, l, h => by simp only [Tm.op, Tm.opL, op_opL ho t (l + 1) h]
end Pg
end
section
set_option maxHeartbeats 400000
namespace Pg
open Ev

theorem exs_append {g : Cfg} : ∀ (a b : List CS) (σ : Lo) (S : Store), exs g (a ++ b) σ S = (exs g a σ S).seq fun σ' S' => exs g b σ' S'
  | [], b, σ, S => by simp
  | s :: a, b, σ, S => by
    rw [List.cons_append, x_cons, x_cons]
    cases h : ex g s σ S with
    | next σ1 S1 => simp only [SO.seq_next]; exact exs_append a b σ1 S1
    | _ => rfl
theorem ne_tm {a b : Tm} (w : a.wf) (d : a.depth ≤ 140) : cmpP .ne a.enc b.enc = some (!decide (a = b)) := by
  simp only [cmpP]
  rw [tm_okd w d, tm_eqv, if_pos rfl]
theorem eq_tm {a b : Tm} (w : a.wf) (d : a.depth ≤ 140) : cmpP .eq a.enc b.enc = some (decide (a = b)) := by
  simp only [cmpP]
  rw [tm_okd w d, tm_eqv, if_pos rfl]
theorem ne_tm1 {a : Tm} (w : a.wf) (d : a.depth ≤ 140) : cmpP .ne a.enc a.enc = some false := by rw [ne_tm w d]; simp
theorem ne_so {a b : So} (d : a.dep ≤ 140) : cmpP .ne a.enc b.enc = some (!decide (a = b)) := by
  simp only [cmpP]
  rw [so_okd (by omega), so_eqv, if_pos rfl]
theorem ne_so1 {a : So} (d : a.dep ≤ 140) : cmpP .ne a.enc a.enc = some false := by rw [ne_so d]; simp
theorem ne_str {x y : List Nat} : cmpP .ne (.str x) (.str y) = some (!(x == y)) := by
  simp [cmpP, okd, dat, pd, eqv]
theorem eq_str {x y : List Nat} : cmpP .eq (.str x) (.str y) = some (x == y) := by
  simp [cmpP, okd, dat, pd, eqv]
/-- the body of a law's loop -/
def loopBody (d : Def) : List CS := match d.body with
  | .for_ _ _ b :: _ => b
  | _ => []
structure HasPl (P : Prog) : Prop where
  putRaw : P.D "put_raw" = some d_put_raw
  putAll : P.D "put_all" = some d_put_all
  put : P.D "put" = some d_put
structure HasOv (P : Prog) : Prop where
  boundRaw : P.D "bound_raw" = some d_bound_raw
  boundOver : P.D "bound_over" = some d_bound_over
structure HasUn (P : Prog) : Prop where
  lifted : P.D "lifted" = some d_lifted
  opened : P.D "opened" = some d_opened
  isFold : P.D "is_fold" = some d_is_fold
  unfolded : P.D "unfolded" = some d_unfolded
  xcN : P.xc "NoRule" = true
def bd? (t : Tm) (S : Store) : Out PV := if t.isT then .ok t.enc S else .err tooGreat S
section
variable {P : Prog}
theorem bound_over_ok (H : HasB P) (O : HasOv P) {x : List Nat} {s : So} {t : Tm} {n : Nat} {S : Store} (hw : t.wf) (hs : s.dep ≤ 5) (hd : t.depth ≤ 90) (hn : t.depth + 25 < n) :
    call P n "bound_over" [.val (Tm.fr x s).enc, .val t.enc] S = bd? (.fn s (t.over (.fr x s) 0)) S := by
  obtain ⟨n, rfl, hn⟩ := fuel hn
  rw [call_def O.boundOver _ _ _ rfl]
  have e : call P n "bound_raw" [.val t.enc, .val (Tm.fr x s).enc, .val (.int 0)] S = .ok (t.over (.fr x s) 0).enc S := bound_raw_ok O.boundRaw (v := .fr x s) t n 0 S (by omega) hw (by omega)
  have hz := (over_size (x := x) (s := s) t 0).2.1
  have e2 := bounded_ok H (t := .fn s (t.over (.fr x s) 0)) (n := n) (S := S) ⟨hs, wf_over t 0 hw⟩ (by simp only [Tm.depth, hz]; omega) (by simp only [Tm.depth, hz]; omega)
  unfold bd?
  simp only [Tm.enc] at e e2 ⊢
  cases c : (Tm.fn s (t.over (.fr x s) 0)).isT <;> rw [c] at e2 <;> simp [d_bound_over, begins, O.boundRaw, H.bounded, e, e2]
theorem put_all_ok (H : HasB P) (O : HasPl P) {ks vs : List Tm} {d : Sl} {t : Tm} {n : Nat} {S : Store} (hd : deref S d = some (.dct (ks.map Tm.enc) (vs.map Tm.enc))) (hw : t.wf) (hp : Puts ks vs) (hdd : t.depth ≤ 100) (hd2 : (t.putA ks vs).depth ≤ 100) (hn : t.depth + 25 < n) (hn2 : (t.putA ks vs).depth + 25 < n) :
    call P n "put_all" [.val t.enc, d] S = bd? (t.putA ks vs) S := by
  obtain ⟨n, rfl, hn⟩ := fuel hn
  rw [call_def O.putAll _ _ _ rfl]
  have e := put_raw_ok O.putRaw hd t n (by omega) hw
  have e2 := bounded_ok H (t := t.putA ks vs) (n := n) (S := S) (wf_put hp t hw) hd2 (by omega)
  unfold bd?
  cases c : (t.putA ks vs).isT <;> rw [c] at e2 <;> simp [d_put_all, begins, O.putRaw, H.bounded, e, e2]
theorem puts_one {x : List Nat} {s : So} {o : Tm} (hw : o.wf) (hs : o.sort [] = some s) : Puts [.fr x s] [o] := by
  intro y r p h
  simp only [lkT] at h
  split at h
  · rename_i c
    cases c
    cases h
    exact ⟨hw, hs⟩
  · cases h
theorem put1_size {x : List Nat} {s : So} {o : Tm} (t : Tm) : (t.putA [.fr x s] [o]).size ≤ t.size + t.occ * o.size ∧ (t.putA [.fr x s] [o]).depth ≤ t.depth + o.depth :=
  put_size (fun u p h => by
    simp only [lkT] at h
    split at h
    · cases h; exact ⟨Nat.le_refl _, Nat.le_refl _⟩
    · cases h) t
theorem put_ok (H : HasB P) (O : HasPl P) {x : List Nat} {s : So} {o t : Tm} {n : Nat} {S : Store} (hw : t.wf) (hs : s.dep ≤ 5) (how : o.wf) (hos : o.sort [] = some s) (hd : t.depth + o.depth ≤ 100) (hn : t.depth + o.depth + 26 < n) :
    call P n "put" [.val t.enc, .val (Tm.fr x s).enc, .val o.enc] S = bd? (t.putA [.fr x s] [o]) S := by
  obtain ⟨n, rfl, hn⟩ := fuel hn
  rw [call_def O.put _ _ _ rfl]
  have hz := (put1_size (x := x) (s := s) (o := o) t).2
  have e := put_all_ok H O (ks := [.fr x s]) (vs := [o]) (d := .val (.dct [(Tm.fr x s).enc] [o.enc])) (t := t) (n := n) (S := S) rfl hw (puts_one how hos) (by omega) (by omega) (by omega) (by omega)
  have k := key_fr (x := x) hs
  unfold bd? at e ⊢
  generalize (Tm.fr x s).enc = v at *
  cases c : (t.putA [.fr x s] [o]).isT <;> rw [c] at e <;> simp [d_put, begins, O.putAll, e, k]
def fold? : Tm → Option (Tm × Tm)
  | .ap (.fn _ p) o => some (p, o)
  | _ => none
theorem is_fold_ok (O : HasUn P) (t : Tm) {n : Nat} {S : Store} (hn : 0 < n) : call P n "is_fold" [.val t.enc] S = .ok (.bl (fold? t).isSome) S := by
  obtain ⟨n, rfl, hn⟩ := fuel hn
  rw [call_def O.isFold _ _ _ rfl]
  cases t with
  | ap a b => cases a <;> simp [d_is_fold, begins, Tm.enc, fold?]
  | _ => simp [d_is_fold, begins, Tm.enc, fold?]
theorem unfolded_no (O : HasUn P) {t : Tm} (h : fold? t = none) {n : Nat} {S : Store} (hn : 1 < n) : call P n "unfolded" [.val t.enc] S = .err noRule S := by
  obtain ⟨n, rfl, hn⟩ := fuel hn
  rw [call_def O.unfolded _ _ _ rfl]
  have e := is_fold_ok O t (n := n) (S := S) (by omega)
  rw [h] at e
  simp [d_unfolded, begins, O.isFold, e, O.xcN]
theorem unfolded_ok (H : HasB P) (O : HasUn P) {s : So} {p o : Tm} {n : Nat} {S : Store} (hp : p.wf) (ho : o.wf) (hd : p.depth + o.depth ≤ 100) (hn : p.depth + o.depth + 25 < n) : call P n "unfolded" [.val (Tm.ap (.fn s p) o).enc] S = bd? (p.op o 0) S := by
  obtain ⟨n, rfl, hn⟩ := fuel hn
  rw [call_def O.unfolded _ _ _ rfl]
  have e := is_fold_ok O (.ap (.fn s p) o) (n := n) (S := S) (by omega)
  have e1 : call P n "opened" [.val p.enc, .val o.enc, .val (.int 0)] S = .ok (p.op o 0).enc S := opened_ok O.opened O.lifted (o := o) p n 0 S (by omega)
  have hz := (op_size o p 0).2
  have e2 := bounded_ok H (t := p.op o 0) (n := n) (S := S) (wf_op ho p 0 hp) (by omega) (by omega)
  unfold bd?
  simp only [Tm.enc, fold?, Option.isSome_some] at e ⊢
  cases c : (p.op o 0).isT <;> rw [c] at e2 <;> simp [d_unfolded, begins, O.isFold, O.opened, H.bounded, e, e1, e2]
end
end Pg
end
section
set_option maxHeartbeats 1000000
namespace Pg
open Ev

/-! ## words of sentences -/
inductive Er where
  | great | norule
  deriving DecidableEq
def Er.exn : Er → Exn
  | .great => tooGreat
  | .norule => noRule
abbrev Rs (α : Type) := Except Er α
def Rs.bd {α β : Type} (r : Rs α) (f : α → Rs β) : Rs β := match r with
  | .ok a => f a
  | .error e => .error e
@[simp] theorem bd_ok {α β : Type} (a : α) (f : α → Rs β) : Rs.bd (.ok a) f = f a := rfl
@[simp] theorem bd_error {α β : Type} (e : Er) (f : α → Rs β) : Rs.bd (.error e : Rs α) f = .error e := rfl
def toO {α : Type} (enc : α → PV) (r : Rs α) (S : Store) : Out PV := match r with
  | .ok t => .ok (enc t) S
  | .error e => .err e.exn S
@[simp] theorem toO_ok {α : Type} (enc : α → PV) (a : α) (S : Store) : toO enc (.ok a) S = .ok (enc a) S := rfl
@[simp] theorem toO_error {α : Type} (enc : α → PV) (e : Er) (S : Store) : toO enc (.error e : Rs α) S = .err e.exn S := rfl
/-- a term -/
def Tm.tm (t : Tm) : Prop := t.wf ∧ t.isT = true
theorem tm_parts {t : Tm} (h : t.tm) : t.wf ∧ (∃ s, t.sort [] = some s ∧ s.dep ≤ 5) ∧ t.depth ≤ 40 ∧ t.size ≤ 600 := by
  obtain ⟨w, i⟩ := h
  simp only [Tm.isT, Bool.and_eq_true] at i
  obtain ⟨s, hs⟩ := Option.isSome_iff_exists.mp i.1
  exact ⟨w, ⟨s, hs, sort_dep t [] s w (by simp) hs⟩, small_iff.mp i.2⟩
def bnd (t : Tm) : Rs Tm := if t.isT then .ok t else .error .great
theorem bnd_eq (t : Tm) (S : Store) : bd? t S = toO Tm.enc (bnd t) S := by
  unfold bd? bnd
  cases t.isT <;> rfl
theorem bnd_tm {t u : Tm} (h : bnd t = .ok u) (w : t.wf) : u = t ∧ u.tm := by
  unfold bnd at h
  split at h
  · rename_i i
    cases h
    exact ⟨rfl, w, i⟩
  · cases h
def equalM (a b : Tm) : Rs Tm := match a.sort [] with
  | some s => bnd (eqT s a b)
  | none => .error .great
def overM (x : List Nat) (s : So) (t : Tm) : Rs Tm := bnd (.fn s (t.over (.fr x s) 0))
def Tm.truth (t : Tm) : Bool := decide (t.sort [] = some .t)
def idT : Tm := .fn .t (.bd 0)
def alw : Tm := eqT (.fn .t .t) idT idT
def two : So := .fn .t (.fn .t .t)
def allM (x : List Nat) (s : So) (t : Tm) : Rs Tm := if t.truth then (overM x s t).bd fun l => (bnd (.fn s alw)).bd fun r => equalM l r else .error .norule
def pairM (a b : Tm) : Rs Tm := bnd (.fn two (.ap (.ap (.bd 0) a) b))
def pairA : Tm := .fn two (.ap (.ap (.bd 0) alw) alw)
def bothM (a b : Tm) : Rs Tm := if a.truth && b.truth then (pairM a b).bd fun l => equalM l pairA else .error .norule
def impM (a b : Tm) : Rs Tm := (bothM a b).bd fun c => equalM c a
def nvr : Tm := eqT (.fn .t .t) (.fn .t (.bd 0)) (.fn .t alw)
def negM (t : Tm) : Rs Tm := impM t nvr
theorem alw_tm : alw.tm := ⟨by simp [alw, eqT, idT, Tm.wf, So.dep], by decide⟩
theorem pairA_tm : pairA.tm := ⟨by simp [pairA, two, alw, eqT, idT, Tm.wf, So.dep], by decide⟩
theorem nvr_tm : nvr.tm := ⟨by simp [nvr, alw, eqT, idT, Tm.wf, So.dep], by decide⟩
theorem wf_eqT {s : So} {a b : Tm} (hs : s.dep ≤ 5) (ha : a.wf) (hb : b.wf) : (eqT s a b).wf := ⟨⟨hs, ha⟩, hb⟩
theorem equalM_tm {a b t : Tm} (ha : a.tm) (hb : b.tm) (h : equalM a b = .ok t) : t.tm := by
  obtain ⟨w, ⟨s, hs, ds⟩, _⟩ := tm_parts ha
  unfold equalM at h
  rw [hs] at h
  exact (bnd_tm h (wf_eqT ds w hb.1)).2
theorem overM_tm {x : List Nat} {s : So} {t u : Tm} (hs : s.dep ≤ 5) (ht : t.tm) (h : overM x s t = .ok u) : u.tm := (bnd_tm h ⟨hs, wf_over t 0 ht.1⟩).2
structure HasEq (P : Prog) : Prop extends HasB P where
  equality : P.D "equality" = some d_equality
structure HasW0 (P : Prog) : Prop extends HasEq P where
  isTruth : P.D "is_truth" = some d_is_truth
  needTruths : P.D "need_truths" = some d_need_truths
  always : P.D "always" = some d_always
  allOf : P.D "all_of" = some d_all_of
  boundRaw : P.D "bound_raw" = some d_bound_raw
  boundOver : P.D "bound_over" = some d_bound_over
  xcN : P.xc "NoRule" = true
structure HasW (P : Prog) : Prop extends HasW0 P where
  pairOf : P.D "pair_of" = some d_pair_of
  both : P.D "both" = some d_both
  implied : P.D "implied" = some d_implied
  gTwo : P.G "TWO" = some (.tup [.str [116], .tup [.str [116], .str [116]]])
section
variable {P : Prog}
theorem equality_ok (H : HasEq P) {a b : Tm} (ha : a.tm) (hb : b.tm) {n : Nat} {S : Store} (hn : 70 < n) : call P n "equality" [.val a.enc, .val b.enc] S = toO Tm.enc (equalM a b) S := by
  obtain ⟨w, ⟨s, hs, ds⟩, da, _⟩ := tm_parts ha
  obtain ⟨wb, _, db, _⟩ := tm_parts hb
  obtain ⟨n, rfl, hn⟩ := fuel hn
  rw [call_def H.equality _ _ _ rfl]
  have e1 := sort_of_ok H.toHasB (n := n) (S := S) w (by omega) (by omega)
  rw [hs] at e1
  have e2 := bounded_ok H.toHasB (t := eqT s a b) (n := n) (S := S) (wf_eqT ds w wb) (by simp only [eqT, Tm.depth]; omega) (by simp only [eqT, Tm.depth]; omega)
  unfold equalM bnd
  rw [hs]
  simp only [encS] at e1
  rw [eqT_enc] at e2
  cases c : (eqT s a b).isT <;> rw [c] at e2 <;> simp [d_equality, begins, H.equality, H.bounded, H.sortOf, e1, e2, eqT_enc, Er.exn, c]
theorem is_truth_ok (H : HasW0 P) {t : Tm} (ht : t.tm) {n : Nat} {S : Store} (hn : 70 < n) : call P n "is_truth" [.val t.enc] S = .ok (.bl t.truth) S := by
  obtain ⟨w, ⟨s, hs, ds⟩, da, _⟩ := tm_parts ht
  obtain ⟨n, rfl, hn⟩ := fuel hn
  rw [call_def H.isTruth _ _ _ rfl]
  have e1 := sort_of_ok H.toHasB (n := n) (S := S) w (by omega) (by omega)
  rw [hs] at e1
  simp only [encS] at e1
  have ok := so_okd (s := s) (r := .t) (by omega)
  have q := so_eqv s .t
  simp only [So.enc] at ok q
  unfold Tm.truth
  rw [hs]
  simp [d_is_truth, begins, H.equality, H.isTruth, H.needTruths, H.always, H.allOf, H.boundOver, H.bounded, H.sortOf, e1, ok, q]
theorem need1_ok (H : HasW0 P) {t : Tm} (ht : t.tm) {n : Nat} {S : Store} (hn : 71 < n) : call P n "need_truths" [.val (.lst [t.enc])] S = if t.truth then .ok .non S else .err noRule S := by
  obtain ⟨n, rfl, hn⟩ := fuel hn
  rw [call_def H.needTruths _ _ _ rfl]
  have e1 := is_truth_ok H ht (n := n) (S := S) (by omega)
  cases c : t.truth <;> rw [c] at e1 <;> simp [d_need_truths, begins, H.equality, H.isTruth, H.needTruths, H.always, H.allOf, H.boundOver, H.bounded, H.sortOf, itemsP, forGo, e1, H.xcN]
theorem need2_ok (H : HasW0 P) {a b : Tm} (ha : a.tm) (hb : b.tm) {n : Nat} {S : Store} (hn : 71 < n) : call P n "need_truths" [.val (.lst [a.enc, b.enc])] S = if a.truth && b.truth then .ok .non S else .err noRule S := by
  obtain ⟨n, rfl, hn⟩ := fuel hn
  rw [call_def H.needTruths _ _ _ rfl]
  have e1 := is_truth_ok H ha (n := n) (S := S) (by omega)
  have e2 := is_truth_ok H hb (n := n) (S := S) (by omega)
  cases c : a.truth <;> rw [c] at e1 <;> cases d : b.truth <;> rw [d] at e2 <;> simp [d_need_truths, begins, H.equality, H.isTruth, H.needTruths, H.always, H.allOf, H.boundOver, H.bounded, H.sortOf, itemsP, forGo, e1, e2, H.xcN]
theorem alw_enc : alw.enc = .tup [.str [111, 102], .tup [.str [111, 102], .tup [.str [115, 97, 109, 101], .tup [.str [116], .str [116]]], .tup [.str [102, 111, 114], .str [116], .tup [.str [98, 111, 117, 110, 100], .int 0]]], .tup [.str [102, 111, 114], .str [116], .tup [.str [98, 111, 117, 110, 100], .int 0]]] := by
  simp only [alw, eqT, idT, Tm.enc, So.enc]
  rfl
theorem always_ok (H : HasW0 P) {n : Nat} {S : Store} (hn : 0 < n) : call P n "always" [] S = .ok alw.enc S := by
  obtain ⟨n, rfl, hn⟩ := fuel hn
  rw [call_def H.always _ _ _ rfl, alw_enc]
  simp [d_always, begins, H.equality, H.isTruth, H.needTruths, H.always, H.allOf, H.boundOver, H.bounded, H.sortOf]
theorem all_of_ok (H : HasW0 P) {x : List Nat} {s : So} {t : Tm} (hs : s.dep ≤ 5) (ht : t.tm) {n : Nat} {S : Store} (hn : 72 < n) : call P n "all_of" [.val (Tm.fr x s).enc, .val t.enc] S = toO Tm.enc (allM x s t) S := by
  obtain ⟨n, rfl, hn⟩ := fuel hn
  obtain ⟨w, _, da, _⟩ := tm_parts ht
  rw [call_def H.allOf _ _ _ rfl]
  have e1 := need1_ok H ht (n := n) (S := S) (by omega)
  have e2 := bound_over_ok H.toHasB ⟨H.boundRaw, H.boundOver⟩ (x := x) (s := s) (t := t) (n := n) (S := S) w hs (by omega) (by omega)
  rw [bnd_eq] at e2
  have e3 := always_ok H (n := n) (S := S) (by omega)
  have w3 : (Tm.fn s alw).wf := ⟨hs, alw_tm.1⟩
  have d3 : (Tm.fn s alw).depth = 3 + 1 := by show 1 + alw.depth = _; rw [show alw.depth = 3 by decide]
  have e4 := bounded_ok H.toHasB (t := .fn s alw) (n := n) (S := S) w3 (by omega) (by omega)
  unfold allM
  simp only [Tm.enc] at e2 e4 ⊢
  cases c : t.truth with
  | false => rw [c] at e1; simp [d_all_of, begins, H.equality, H.isTruth, H.needTruths, H.always, H.allOf, H.boundOver, H.bounded, H.sortOf, e1, Er.exn]
  | true =>
    rw [c] at e1
    unfold overM
    cases o : bnd (.fn s (t.over (.fr x s) 0)) with
    | error e => rw [o] at e2; simp [d_all_of, begins, H.equality, H.isTruth, H.needTruths, H.always, H.allOf, H.boundOver, H.bounded, H.sortOf, e1, e2]
    | ok l =>
      rw [o] at e2
      obtain ⟨_, hl⟩ := bnd_tm o ⟨hs, wf_over t 0 w⟩
      unfold bnd
      cases q : (Tm.fn s alw).isT with
      | false => rw [q] at e4; simp [d_all_of, begins, H.equality, H.isTruth, H.needTruths, H.always, H.allOf, H.boundOver, H.bounded, H.sortOf, e1, e2, e3, e4, Er.exn]
      | true =>
        rw [q] at e4
        have e5 := equality_ok H.toHasEq hl (b := .fn s alw) ⟨w3, q⟩ (n := n) (S := S) (by omega)
        simp only [Tm.enc] at e5
        cases r : equalM l (.fn s alw) with
        | error e => rw [r] at e5; simp [d_all_of, begins, H.equality, H.isTruth, H.needTruths, H.always, H.allOf, H.boundOver, H.bounded, H.sortOf, e1, e2, e3, e4, e5, r]
        | ok z => rw [r] at e5; simp [d_all_of, begins, H.equality, H.isTruth, H.needTruths, H.always, H.allOf, H.boundOver, H.bounded, H.sortOf, e1, e2, e3, e4, e5, r]
theorem pair_of_ok (H : HasW P) {a b : Tm} (ha : a.tm) (hb : b.tm) {n : Nat} {S : Store} (hn : 70 < n) : call P n "pair_of" [.val a.enc, .val b.enc] S = toO Tm.enc (pairM a b) S := by
  obtain ⟨n, rfl, hn⟩ := fuel hn
  obtain ⟨wa, _, da, _⟩ := tm_parts ha
  obtain ⟨wb, _, db, _⟩ := tm_parts hb
  rw [call_def H.pairOf _ _ _ rfl]
  have e := bounded_ok H.toHasB (t := .fn two (.ap (.ap (.bd 0) a) b)) (n := n) (S := S) ⟨by decide, ⟨trivial, wa⟩, wb⟩ (by simp only [Tm.depth]; omega) (by simp only [Tm.depth]; omega)
  have he : (Tm.fn two (.ap (.ap (.bd 0) a) b)).enc = .tup [.str [102, 111, 114], .tup [.str [116], .tup [.str [116], .str [116]]], .tup [.str [111, 102], .tup [.str [111, 102], .tup [.str [98, 111, 117, 110, 100], .int 0], a.enc], b.enc]] := rfl
  unfold pairM bnd
  generalize Tm.fn two (.ap (.ap (.bd 0) a) b) = T at *
  rw [he] at e
  cases c : T.isT <;> rw [c] at e <;> simp [d_pair_of, begins, H.equality, H.isTruth, H.needTruths, H.always, H.allOf, H.pairOf, H.both, H.implied, H.boundOver, H.bounded, H.sortOf, H.gTwo, e, he, Er.exn]
theorem pairA_eq : pairM alw alw = .ok pairA := by
  unfold pairM bnd
  rw [if_pos (show (Tm.fn two (.ap (.ap (.bd 0) alw) alw)).isT = true from pairA_tm.2)]
  rfl
theorem pairM_tm {a b t : Tm} (ha : a.tm) (hb : b.tm) (h : pairM a b = .ok t) : t.tm := (bnd_tm h ⟨by decide, ⟨trivial, ha.1⟩, hb.1⟩).2
theorem bothM_tm {a b t : Tm} (ha : a.tm) (hb : b.tm) (h : bothM a b = .ok t) : t.tm := by
  unfold bothM at h
  split at h
  · cases q : pairM a b with
    | error e => rw [q] at h; cases h
    | ok l => rw [q] at h; exact equalM_tm (pairM_tm ha hb q) pairA_tm h
  · cases h
theorem impM_tm {a b t : Tm} (ha : a.tm) (hb : b.tm) (h : impM a b = .ok t) : t.tm := by
  unfold impM at h
  cases q : bothM a b with
  | error e => rw [q] at h; cases h
  | ok c => rw [q] at h; exact equalM_tm (bothM_tm ha hb q) ha h
theorem allM_tm {x : List Nat} {s : So} {t u : Tm} (hs : s.dep ≤ 5) (ht : t.tm) (h : allM x s t = .ok u) : u.tm := by
  unfold allM at h
  split at h
  · cases q : overM x s t with
    | error e => rw [q] at h; cases h
    | ok l =>
      rw [q] at h
      cases r : bnd (.fn s alw) with
      | error e => rw [r] at h; cases h
      | ok z =>
        rw [r] at h
        exact equalM_tm (overM_tm hs ht q) (bnd_tm r ⟨hs, alw_tm.1⟩).2 h
  · cases h
theorem both_ok (H : HasW P) {a b : Tm} (ha : a.tm) (hb : b.tm) {n : Nat} {S : Store} (hn : 72 < n) : call P n "both" [.val a.enc, .val b.enc] S = toO Tm.enc (bothM a b) S := by
  obtain ⟨n, rfl, hn⟩ := fuel hn
  rw [call_def H.both _ _ _ rfl]
  have e1 := need2_ok H.toHasW0 ha hb (n := n) (S := S) (by omega)
  have e2 := pair_of_ok H ha hb (n := n) (S := S) (by omega)
  have e3 := always_ok H.toHasW0 (n := n) (S := S) (by omega)
  have e4 := pair_of_ok H alw_tm alw_tm (n := n) (S := S) (by omega)
  rw [pairA_eq] at e4
  unfold bothM
  cases c : (a.truth && b.truth) with
  | false => rw [c] at e1; simp [d_both, begins, H.equality, H.isTruth, H.needTruths, H.always, H.allOf, H.pairOf, H.both, H.implied, H.boundOver, H.bounded, H.sortOf, e1, Er.exn]
  | true =>
    rw [c] at e1
    cases q : pairM a b with
    | error e => rw [q] at e2; simp [d_both, begins, H.equality, H.isTruth, H.needTruths, H.always, H.allOf, H.pairOf, H.both, H.implied, H.boundOver, H.bounded, H.sortOf, e1, e2]
    | ok l =>
      rw [q] at e2
      have e5 := equality_ok H.toHasEq (pairM_tm ha hb q) pairA_tm (n := n) (S := S) (by omega)
      cases r : equalM l pairA with
      | error e => rw [r] at e5; simp [d_both, begins, H.equality, H.isTruth, H.needTruths, H.always, H.allOf, H.pairOf, H.both, H.implied, H.boundOver, H.bounded, H.sortOf, e1, e2, e3, e4, e5, r]
      | ok z => rw [r] at e5; simp [d_both, begins, H.equality, H.isTruth, H.needTruths, H.always, H.allOf, H.pairOf, H.both, H.implied, H.boundOver, H.bounded, H.sortOf, e1, e2, e3, e4, e5, r]
theorem implied_ok (H : HasW P) {a b : Tm} (ha : a.tm) (hb : b.tm) {n : Nat} {S : Store} (hn : 73 < n) : call P n "implied" [.val a.enc, .val b.enc] S = toO Tm.enc (impM a b) S := by
  obtain ⟨n, rfl, hn⟩ := fuel hn
  rw [call_def H.implied _ _ _ rfl]
  have e1 := both_ok H ha hb (n := n) (S := S) (by omega)
  unfold impM
  cases q : bothM a b with
  | error e => rw [q] at e1; simp [d_implied, begins, H.equality, H.isTruth, H.needTruths, H.always, H.allOf, H.pairOf, H.both, H.implied, H.boundOver, H.bounded, H.sortOf, e1]
  | ok c =>
    rw [q] at e1
    have e2 := equality_ok H.toHasEq (bothM_tm ha hb q) ha (n := n) (S := S) (by omega)
    cases r : equalM c a with
    | error e => rw [r] at e2; simp [d_implied, begins, H.equality, H.isTruth, H.needTruths, H.always, H.allOf, H.pairOf, H.both, H.implied, H.boundOver, H.bounded, H.sortOf, e1, e2, r]
    | ok z => rw [r] at e2; simp [d_implied, begins, H.equality, H.isTruth, H.needTruths, H.always, H.allOf, H.pairOf, H.both, H.implied, H.boundOver, H.bounded, H.sortOf, e1, e2, r]
theorem fr_tm {x : List Nat} {s : So} (hx : nameOk x = true) (hs : s.dep ≤ 5) : (Tm.fr x s).tm := ⟨⟨hx, hs⟩, by simp [Tm.isT, Tm.sort, Tm.small, Tm.depth, Tm.size]⟩
theorem never_ok (H : HasW0 P) (h : P.D "never" = some d_never) {n : Nat} {S : Store} (hn : 73 < n) : call P n "never" [] S = .ok nvr.enc S := by
  obtain ⟨n, rfl, hn⟩ := fuel hn
  rw [call_def h _ _ _ rfl]
  have e := all_of_ok H (x := [118]) (s := .t) (t := .fr [118] .t) (by decide) (fr_tm (by decide) (by decide)) (n := n) (S := S) (by omega)
  rw [show allM [118] .t (.fr [118] .t) = .ok nvr from rfl] at e
  simp only [Tm.enc, So.enc] at e
  simp [d_never, begins, H.equality, H.isTruth, H.needTruths, H.always, H.allOf, H.boundOver, H.bounded, H.sortOf, e]
theorem negated_ok (H : HasW P) (h : P.D "never" = some d_never) (h2 : P.D "negated" = some d_negated) {t : Tm} (ht : t.tm) {n : Nat} {S : Store} (hn : 74 < n) : call P n "negated" [.val t.enc] S = toO Tm.enc (negM t) S := by
  obtain ⟨n, rfl, hn⟩ := fuel hn
  rw [call_def h2 _ _ _ rfl]
  have e1 := never_ok H.toHasW0 h (n := n) (S := S) (by omega)
  have e2 := implied_ok H ht nvr_tm (n := n) (S := S) (by omega)
  unfold negM
  cases r : impM t nvr with
  | error e => rw [r] at e2; simp [d_negated, begins, H.equality, H.isTruth, H.needTruths, H.always, H.allOf, H.pairOf, H.both, H.implied, H.boundOver, H.bounded, H.sortOf, h, e1, e2]
  | ok z => rw [r] at e2; simp [d_negated, begins, H.equality, H.isTruth, H.needTruths, H.always, H.allOf, H.pairOf, H.both, H.implied, H.boundOver, H.bounded, H.sortOf, h, e1, e2]
end
end Pg
end
section
set_option maxHeartbeats 1000000
namespace Pg
open Ev

/-! ## a variable that stands nowhere -/
def namesM : Tm → List (List Nat)
  | .fr x _ => [x]
  | .ap a b => namesM a ++ namesM b
  | .fn _ t => namesM t
  | _ => []
def vn (c : Nat) : List Nat := 118 :: numText (c : Int)
theorem vn_ok {c : Nat} (h : c < 100) : nameOk (vn c) = true ∧ (numText (c : Int)).length ≤ 2 := by
  obtain ⟨h1, h0, h2, _⟩ := num_ok h
  refine ⟨?_, h2⟩
  unfold vn nameOk
  simp only [List.length_cons, List.all_cons, Bool.and_eq_true, decide_eq_true_eq]
  refine ⟨⟨by omega, by decide⟩, ?_⟩
  have : isLetter 118 = true := by decide
  rw [this]
  refine ⟨rfl, ?_⟩
  rw [List.all_eq_true] at h1 ⊢
  intro d hd
  rw [h1 d hd]
  simp
theorem vn_inj {c d : Nat} (hc : c < 100) (hd : d < 100) (h : vn c = vn d) : c = d := by
  have e : numText (c : Int) = numText (d : Int) := by unfold vn at h; simpa using h
  have e1 := (num_ok hc).2.2.2.1
  have e2 := (num_ok hd).2.2.2.1
  rw [← e1, ← e2, e]
def freshFrom (ns : List (List Nat)) : Nat → Nat → Nat
  | 0, c => c
  | k + 1, c => if vn c ∈ ns then freshFrom ns k (c + 1) else c
def freshC (ns : List (List Nat)) : Nat := freshFrom ns ns.length 0
theorem sub_len {α : Type} [DecidableEq α] : ∀ (l m : List α), l.Nodup → (∀ x ∈ l, x ∈ m) → l.length ≤ m.length
  | [], m, _, _ => Nat.zero_le _
  | a :: l, m, h, hs => by
    obtain ⟨h1, h2⟩ := List.nodup_cons.mp h
    have ha : a ∈ m := hs a List.mem_cons_self
    have := sub_len l (m.erase a) h2 fun x hx => by
      have hne : x ≠ a := fun e => h1 (e ▸ hx)
      exact (List.mem_erase_of_ne hne).mpr (hs x (List.mem_cons_of_mem _ hx))
    rw [List.length_erase_of_mem ha] at this
    have hp : 0 < m.length := List.length_pos_of_mem ha
    simp only [List.length_cons]
    omega
/-- where it stops, or all are there -/
theorem freshFrom_spec (ns : List (List Nat)) : ∀ (k c : Nat), c ≤ freshFrom ns k c ∧ freshFrom ns k c ≤ c + k ∧ (∀ d, c ≤ d → d < freshFrom ns k c → vn d ∈ ns) ∧ (freshFrom ns k c < c + k → vn (freshFrom ns k c) ∉ ns)
  | 0, c => ⟨Nat.le_refl _, Nat.le_refl _, fun d h1 h2 => by simp only [freshFrom] at h2; omega, fun h => by simp only [freshFrom] at h; omega⟩
  | k + 1, c => by
    simp only [freshFrom]
    split
    · rename_i h
      obtain ⟨h1, h2, h3, h4⟩ := freshFrom_spec ns k (c + 1)
      refine ⟨by omega, by omega, fun d hd hd2 => ?_, fun z => h4 (by omega)⟩
      by_cases e : d = c
      · rw [e]; exact h
      · exact h3 d (by omega) hd2
    · rename_i h
      exact ⟨Nat.le_refl _, by omega, fun d h1 h2 => by omega, fun _ => h⟩
theorem freshC_not (ns : List (List Nat)) (hl : ns.length < 90) : vn (freshC ns) ∉ ns ∧ freshC ns ≤ ns.length := by
  obtain ⟨h1, h2, h3, h4⟩ := freshFrom_spec ns ns.length 0
  have h2 : freshC ns ≤ ns.length := by unfold freshC; omega
  refine ⟨fun hm => ?_, h2⟩
  by_cases c : freshC ns < ns.length
  · exact h4 (by unfold freshC at c; omega) hm
  · have e : freshC ns = ns.length := by omega
    have := sub_len ((List.range (ns.length + 1)).map vn) ns (by
      show List.Pairwise _ _
      rw [List.pairwise_map]
      refine List.Pairwise.imp_of_mem (R := fun a b => a ≠ b) (fun {a b} ha hb hne z => ?_) List.nodup_range
      have := List.mem_range.mp ha
      have := List.mem_range.mp hb
      exact hne (vn_inj (by omega) (by omega) z)) fun x hx => by
        obtain ⟨d, hd, rfl⟩ := List.mem_map.mp hx
        have hd := List.mem_range.mp hd
        by_cases q : d = ns.length
        · rw [q, ← e]; exact hm
        · exact h3 d (Nat.zero_le _) (by show d < freshC ns; omega)
    rw [List.length_map, List.length_range] at this
    omega
theorem names_len : ∀ t : Tm, (namesM t).length ≤ t.size
  | .bd _ => Nat.zero_le _
  | .fr _ _ => Nat.le_refl _
  | .sm _ => Nat.zero_le _
  | .ap a b => by have := names_len a; have := names_len b; simp only [namesM, List.length_append, Tm.size]; omega
  | .fn _ t => by have := names_len t; simp only [namesM, Tm.size]; omega
structure HasF (P : Prog) : Prop where
  fresh : P.D "fresh" = some d_fresh
  namesOf : P.D "names_of" = some d_names_of
section
variable {P : Prog}
theorem names_of_ok (h : P.D "names_of" = some d_names_of) (t : Tm) : ∀ (n : Nat) (S : Store), t.depth < n → t.size ≤ 100000 → call P n "names_of" [.val t.enc] S = .ok (.lst ((namesM t).map .str)) S := by
  induction t with
  | bd k => intro n S hn hs; obtain ⟨n, rfl, hn⟩ := fuel hn; rw [call_def h _ _ _ rfl]; simp [d_names_of, begins, Tm.enc, namesM]
  | fr x s => intro n S hn hs; obtain ⟨n, rfl, hn⟩ := fuel hn; rw [call_def h _ _ _ rfl]; simp [d_names_of, begins, Tm.enc, namesM]
  | sm s => intro n S hn hs; obtain ⟨n, rfl, hn⟩ := fuel hn; rw [call_def h _ _ _ rfl]; simp [d_names_of, begins, Tm.enc, namesM]
  | fn s t ih =>
    intro n S hn hs
    obtain ⟨n, rfl, hn⟩ := fuel hn
    simp only [Tm.depth] at hn
    simp only [Tm.size] at hs
    rw [call_def h _ _ _ rfl]
    have e := ih n S (by omega) (by omega)
    simp [d_names_of, begins, Tm.enc, namesM, h, e]
  | ap a b iha ihb =>
    intro n S hn hs
    obtain ⟨n, rfl, hn⟩ := fuel hn
    simp only [Tm.depth] at hn
    simp only [Tm.size] at hs
    rw [call_def h _ _ _ rfl]
    have e1 := iha n S (by omega) (by omega)
    have e2 := ihb n S (by omega) (by omega)
    have l1 := names_len a
    have l2 := names_len b
    have ll : ((namesM a).map PV.str).length + ((namesM b).map PV.str).length ≤ 16777216 := by rw [List.length_map, List.length_map]; omega
    simp only [namesM, List.map_append]
    generalize (namesM a).map PV.str = A at *
    generalize (namesM b).map PV.str = B at *
    simp [d_names_of, begins, Tm.enc, h, e1, e2, ll]
def wCond : CE := .prim (.cmp .in_) [(.prim (.bin .add) [(.str [118]), (.prim .str [(.var 3)])]), (.var 1)]
def wBody : List CS := [.asg 3 (.prim (.bin .add) [(.var 3), (.int 1)])]
theorem in_strs {ns : List (List Nat)} {x : List Nat} : cmpP .in_ (.str x) (.lst (ns.map .str)) = some (decide (x ∈ ns)) := by
  have e : (ns.map PV.str).all (fun y => okd y (.str x)) = true := by
    rw [List.all_map, List.all_eq_true]
    intro y _
    simp [okd, dat, pd]
  show (if (ns.map PV.str).all (fun y => okd y (.str x)) then some ((ns.map PV.str).any fun y => eqv y (.str x)) else none) = _
  rw [if_pos e, List.any_map]
  congr 1
  rw [Bool.eq_iff_iff]
  simp
theorem wcond_raw {n : Nat} {S : Store} {a0 a2 : Option Sl} {z : Int} {N V : List Nat} {L : List PV} {b : Bool} (e1 : strP (.int z) = some (.str N)) (e2 : binP .add (.str [118]) (.str N) = some (.str V)) (e3 : cmpP .in_ (.str V) (.lst L) = some b) :
    ev (cfg P n) wCond [a0, some (.val (.lst L)), a2, some (.val (.int z))] S = .ok (.val (.bl b)) S := by
  unfold wCond
  simp [-c_inl, e1, e2, e3]
theorem vn_add {c : Nat} (hc : c < 100) : binP .add (.str [118]) (.str (numText (c : Int))) = some (.str (vn c)) := by
  have l := (vn_ok hc).2
  show (if [118].length + (numText (c : Int)).length ≤ lim then some (PV.str ([118] ++ numText (c : Int))) else none) = _
  rw [if_pos (Nat.le_trans (show [118].length + (numText (c : Int)).length ≤ 5 by rw [List.length_singleton]; omega) (by decide))]
  rfl
theorem wcond_ok {n : Nat} {S : Store} {a0 a2 : Option Sl} {ns : List (List Nat)} {c : Nat} (hc : c < 100) :
    ev (cfg P n) wCond [a0, some (.val (.lst (ns.map .str))), a2, some (.val (.int (c : Int)))] S = .ok (.val (.bl (decide (vn c ∈ ns)))) S :=
  wcond_raw (strP_small (c : Int) (by omega) (by omega)) (vn_add hc) in_strs
theorem fret_raw {n : Nat} {S : Store} {a0 a1 a2 : Option Sl} {z : Int} {N V : List Nat} (e1 : strP (.int z) = some (.str N)) (e2 : binP .add (.str [118]) (.str N) = some (.str V)) :
    exs (cfg P n) [.ret (.prim .tup [(.str [102, 114, 101, 101]), (.prim (.bin .add) [(.str [118]), (.prim .str [(.var 3)])]), (.str [116])])] [a0, a1, a2, some (.val (.int z))] S = .ret (.tup [.str [102, 114, 101, 101], .str V, .str [116]]) S := by
  simp [e1, e2]
theorem while_fresh {n : Nat} {S : Store} {a0 a2 : Option Sl} {ns : List (List Nat)} (hl : ns.length < 90) : ∀ (j c f : Nat), c + j = freshC ns → j < f →
    whGo (fun σ' S' => (ev (cfg P n) wCond σ' S').bind fun s S1 => truthOf s S1) (fun σ' S' => exs (cfg P n) wBody σ' S') f [a0, some (.val (.lst (ns.map .str))), a2, some (.val (.int (c : Int)))] S = .next [a0, some (.val (.lst (ns.map .str))), a2, some (.val (.int (freshC ns : Int)))] S
  | 0, c, f + 1, hc, hf => by
    have hb := freshC_not ns hl
    have e := wcond_ok (P := P) (n := n) (S := S) (a0 := a0) (a2 := a2) (ns := ns) (c := c) (by omega)
    have hc : c = freshC ns := by omega
    subst hc
    rw [show decide (vn (freshC ns) ∈ ns) = false by simpa using hb.1] at e
    simp only [whGo, e, Out.bind_ok, truthOf, truth, Out.thn_ok]
    rfl
  | j + 1, c, f + 1, hc, hf => by
    have hb := freshC_not ns hl
    have e := wcond_ok (P := P) (n := n) (S := S) (a0 := a0) (a2 := a2) (ns := ns) (c := c) (by omega)
    have hm : vn c ∈ ns := by
      obtain ⟨_, _, h3, _⟩ := freshFrom_spec ns ns.length 0
      exact h3 c (Nat.zero_le _) (by show c < freshC ns; omega)
    rw [show decide (vn c ∈ ns) = true by simpa using hm] at e
    have ih := while_fresh (n := n) (S := S) (a0 := a0) (a2 := a2) hl j (c + 1) f (by omega) (by omega)
    have eb : exs (cfg P n) wBody [a0, some (.val (.lst (ns.map .str))), a2, some (.val (.int (c : Int)))] S = .next [a0, some (.val (.lst (ns.map .str))), a2, some (.val (.int ((c + 1 : Nat) : Int)))] S := by
      simp [wBody]
    simp only [whGo, e, Out.bind_ok, truthOf, truth, Out.thn_ok, if_true, eb, SO.turn_next]
    exact ih
  | _, _, 0, _, hf => by omega
def freshT (ns : List (List Nat)) : Tm := .fr (vn (freshC ns)) .t
theorem freshT_tm {ns : List (List Nat)} (hl : ns.length < 90) : (freshT ns).tm := fr_tm (vn_ok (by have := (freshC_not ns hl).2; omega)).1 (by decide)
theorem fresh_tail (F : HasF P) {n : Nat} {S : Store} {a0 a2 a3 : Option Sl} {ns : List (List Nat)} (hl : ns.length < 90) : exs (cfg P n) (d_fresh.body.drop 2) [a0, some (.val (.lst (ns.map .str))), a2, a3] S = .ret (freshT ns).enc S := by
  have hb := freshC_not ns hl
  have w := while_fresh (P := P) (n := n) (S := S) (a0 := a0) (a2 := a2) hl (freshC ns) 0 turns (by omega) (by show freshC ns < 1000000; omega)
  have w' : whGo (fun σ' S' => (ev (cfg P n) wCond σ' S').bind fun s S1 => truthOf s S1) (fun σ' S' => exs (cfg P n) wBody σ' S') turns [a0, some (.val (.lst (ns.map .str))), a2, some (.val (.int 0))] S = _ := w
  show exs (cfg P n) [.asg 3 (.int 0), .whl wCond wBody, .ret (.prim .tup [(.str [102, 114, 101, 101]), (.prim (.bin .add) [(.str [118]), (.prim .str [(.var 3)])]), (.str [116])])] _ S = _
  rw [x_cons, x_asg, cfg_hx]
  simp only [Option.any_none, Bool.false_eq_true, if_false, e_int, Out.thn_ok, SO.seq_next, List.set]
  rw [x_cons, x_whl, cfg_cm, if_pos rfl, w', SO.seq_next]
  exact fret_raw (strP_small (freshC ns : Int) (by omega) (by omega)) (vn_add (by omega))
theorem fresh1_ok (F : HasF P) {a : Tm} (ha : a.depth ≤ 60 ∧ a.size ≤ 900) (hna : (namesM a).length < 90) {n : Nat} {S : Store} (hn : 62 < n) : call P n "fresh" [.val (.lst [a.enc])] S = .ok (freshT (namesM a)).enc S := by
  obtain ⟨n, rfl, hn⟩ := fuel hn
  rw [call_def F.fresh _ _ _ rfl]
  have l1 := names_len a
  have t := fresh_tail F (n := n) (S := S) (a0 := some (.val (.lst [a.enc]))) (a2 := some (.val a.enc)) (a3 := none) (ns := namesM a) hna
  have e1 := names_of_ok F.namesOf a n S (by omega) (by omega)
  have hl : ((namesM a).map PV.str).length ≤ 16777216 := by rw [List.length_map]; omega
  rw [show d_fresh.body = d_fresh.body.take 2 ++ d_fresh.body.drop 2 from rfl, exs_append]
  generalize (namesM a).map PV.str = A at *
  have h1 : exs (cfg P n) (d_fresh.body.take 2) (begins d_fresh [.val (.lst [a.enc])]) S = .next [some (.val (.lst [a.enc])), some (.val (.lst A)), some (.val a.enc), none] S := by
    simp [d_fresh, begins, itemsP, forGo, F.namesOf, e1, hl]
  rw [h1, SO.seq_next, t]
  simp
theorem fresh2_ok (F : HasF P) {a b : Tm} (ha : a.depth ≤ 60 ∧ a.size ≤ 900) (hb : b.depth ≤ 60 ∧ b.size ≤ 900) (hna : (namesM a ++ namesM b).length < 90) {n : Nat} {S : Store} (hn : 62 < n) : call P n "fresh" [.val (.lst [a.enc, b.enc])] S = .ok (freshT (namesM a ++ namesM b)).enc S := by
  obtain ⟨n, rfl, hn⟩ := fuel hn
  rw [call_def F.fresh _ _ _ rfl]
  have l1 := names_len a
  have l2 := names_len b
  have t := fresh_tail F (n := n) (S := S) (a0 := some (.val (.lst [a.enc, b.enc]))) (a2 := some (.val b.enc)) (a3 := none) (ns := namesM a ++ namesM b) hna
  have e1 := names_of_ok F.namesOf a n S (by omega) (by omega)
  have e2 := names_of_ok F.namesOf b n S (by omega) (by omega)
  have hl : ((namesM a).map PV.str).length ≤ 16777216 := by rw [List.length_map]; omega
  have hl2 : ((namesM a).map PV.str).length + ((namesM b).map PV.str).length ≤ 16777216 := by rw [List.length_map, List.length_map]; omega
  rw [show d_fresh.body = d_fresh.body.take 2 ++ d_fresh.body.drop 2 from rfl, exs_append]
  rw [List.map_append] at t
  generalize (namesM a).map PV.str = A at *
  generalize (namesM b).map PV.str = B at *
  have h1 : exs (cfg P n) (d_fresh.body.take 2) (begins d_fresh [.val (.lst [a.enc, b.enc])]) S = .next [some (.val (.lst [a.enc, b.enc])), some (.val (.lst (A ++ B))), some (.val b.enc), none] S := by
    simp [d_fresh, begins, itemsP, forGo, F.namesOf, e1, e2, hl, hl2]
  rw [h1, SO.seq_next, t]
  simp
end
end Pg
end
section
set_option maxHeartbeats 1000000
namespace Pg
open Ev

/-! ## either, some; what words are made of -/
def eitE (a b : Tm) : List Nat := vn (freshC (namesM a ++ namesM b))
def eitB (e : List Nat) (a b : Tm) : Rs Tm := (impM a (.fr e .t)).bd fun x => (impM b (.fr e .t)).bd fun y => (impM y (.fr e .t)).bd fun z => (impM x z).bd fun w => allM e .t w
def eitM (a b : Tm) : Rs Tm := if a.truth && b.truth then (if (namesM a ++ namesM b).length < 90 then eitB (eitE a b) a b else .error .great) else .error .norule
def somB (e : List Nat) (x : List Nat) (s : So) (t : Tm) : Rs Tm := (impM t (.fr e .t)).bd fun u => (allM x s u).bd fun v => (impM v (.fr e .t)).bd fun w => allM e .t w
def somM (x : List Nat) (s : So) (t : Tm) : Rs Tm := if t.truth then (if ([x] ++ namesM t).length < 90 then somB (vn (freshC ([x] ++ namesM t))) x s t else .error .great) else .error .norule
theorem eitB_tm {e : List Nat} {a b t : Tm} (he : (Tm.fr e .t).tm) (ha : a.tm) (hb : b.tm) (h : eitB e a b = .ok t) : t.tm := by
  unfold eitB at h
  cases q1 : impM a (.fr e .t) with
  | error _ => rw [q1] at h; cases h
  | ok x =>
    rw [q1] at h
    cases q2 : impM b (.fr e .t) with
    | error _ => rw [q2] at h; cases h
    | ok y =>
      rw [q2] at h
      simp only [bd_ok] at h
      cases q3 : impM y (.fr e .t) with
      | error _ => rw [q3] at h; cases h
      | ok z =>
        rw [q3] at h
        simp only [bd_ok] at h
        cases q4 : impM x z with
        | error _ => rw [q4] at h; cases h
        | ok w =>
          rw [q4] at h
          exact allM_tm (by decide) (impM_tm (impM_tm ha he q1) (impM_tm (impM_tm hb he q2) he q3) q4) h
theorem somB_tm {e x : List Nat} {s : So} {a t : Tm} (he : (Tm.fr e .t).tm) (hs : s.dep ≤ 5) (ha : a.tm) (h : somB e x s a = .ok t) : t.tm := by
  unfold somB at h
  cases q1 : impM a (.fr e .t) with
  | error _ => rw [q1] at h; cases h
  | ok u =>
    rw [q1] at h
    simp only [bd_ok] at h
    cases q2 : allM x s u with
    | error _ => rw [q2] at h; cases h
    | ok v =>
      rw [q2] at h
      simp only [bd_ok] at h
      cases q3 : impM v (.fr e .t) with
      | error _ => rw [q3] at h; cases h
      | ok w =>
        rw [q3] at h
        exact allM_tm (by decide) (impM_tm (allM_tm hs (impM_tm ha he q1) q2) he q3) h
theorem eitM_tm {a b t : Tm} (ha : a.tm) (hb : b.tm) (h : eitM a b = .ok t) : t.tm ∧ (namesM a ++ namesM b).length < 90 := by
  unfold eitM at h
  split at h
  · split at h
    · rename_i hn
      exact ⟨eitB_tm (freshT_tm hn) ha hb h, hn⟩
    · cases h
  · cases h
theorem somM_tm {x : List Nat} {s : So} {a t : Tm} (hs : s.dep ≤ 5) (ha : a.tm) (h : somM x s a = .ok t) : t.tm ∧ ([x] ++ namesM a).length < 90 := by
  unfold somM at h
  split at h
  · split at h
    · rename_i hn
      exact ⟨somB_tm (freshT_tm hn) hs ha h, hn⟩
    · cases h
  · cases h
structure HasWS (P : Prog) : Prop extends HasW P where
  sides : P.D "sides" = some d_sides
structure HasE (P : Prog) : Prop extends HasW P, HasF P where
  either : P.D "either" = some d_either
structure HasS (P : Prog) : Prop extends HasW P, HasF P where
  someOf : P.D "some_of" = some d_some_of
section
variable {P : Prog}
theorem either_ok (H : HasE P) {a b : Tm} (ha : a.tm) (hb : b.tm) (hna : (namesM a ++ namesM b).length < 90) {n : Nat} {S : Store} (hn : 75 < n) : call P n "either" [.val a.enc, .val b.enc] S = toO Tm.enc (eitM a b) S := by
  obtain ⟨n, rfl, hn⟩ := fuel hn
  obtain ⟨_, _, da, sa⟩ := tm_parts ha
  obtain ⟨_, _, db, sb⟩ := tm_parts hb
  rw [call_def H.either _ _ _ rfl]
  have e1 := need2_ok H.toHasW0 ha hb (n := n) (S := S) (by omega)
  have e2 := fresh2_ok H.toHasF (a := a) (b := b) ⟨by omega, by omega⟩ ⟨by omega, by omega⟩ hna (n := n) (S := S) (by omega)
  have he := freshT_tm hna
  unfold eitM
  cases c : (a.truth && b.truth) with
  | false => rw [c] at e1; simp [d_either, begins, H.needTruths, e1, Er.exn]
  | true =>
    rw [c] at e1
    rw [if_pos rfl, if_pos hna]
    have hfe : (freshT (namesM a ++ namesM b)) = .fr (eitE a b) .t := rfl
    rw [hfe] at e2 he
    generalize eitE a b = e at *
    have i1 := implied_ok H.toHasW ha he (n := n) (S := S) (by omega)
    have i2 := implied_ok H.toHasW hb he (n := n) (S := S) (by omega)
    unfold eitB
    cases q1 : impM a (.fr e .t) with
    | error _ => rw [q1] at i1; simp [d_either, begins, H.needTruths, H.fresh, H.implied, H.allOf, e1, e2, i1]
    | ok x =>
      rw [q1] at i1
      have hx := impM_tm ha he q1
      cases q2 : impM b (.fr e .t) with
      | error _ => rw [q2] at i2; simp [d_either, begins, H.needTruths, H.fresh, H.implied, H.allOf, e1, e2, i1, i2]
      | ok y =>
        rw [q2] at i2
        have hy := impM_tm hb he q2
        have i3 := implied_ok H.toHasW hy he (n := n) (S := S) (by omega)
        cases q3 : impM y (.fr e .t) with
        | error _ => rw [q3] at i3; simp [d_either, begins, H.needTruths, H.fresh, H.implied, H.allOf, e1, e2, i1, i2, i3, q3]
        | ok z =>
          rw [q3] at i3
          have hz := impM_tm hy he q3
          have i4 := implied_ok H.toHasW hx hz (n := n) (S := S) (by omega)
          cases q4 : impM x z with
          | error _ => rw [q4] at i4; simp [d_either, begins, H.needTruths, H.fresh, H.implied, H.allOf, e1, e2, i1, i2, i3, i4, q3, q4]
          | ok w =>
            rw [q4] at i4
            have hw := impM_tm hx hz q4
            have i5 := all_of_ok H.toHasW0 (x := e) (s := .t) (by decide) hw (n := n) (S := S) (by omega)
            cases q5 : allM e .t w with
            | error _ => rw [q5] at i5; simp [d_either, begins, H.needTruths, H.fresh, H.implied, H.allOf, e1, e2, i1, i2, i3, i4, i5, q3, q4, q5]
            | ok u => rw [q5] at i5; simp [d_either, begins, H.needTruths, H.fresh, H.implied, H.allOf, e1, e2, i1, i2, i3, i4, i5, q3, q4, q5]
theorem some_of_ok (H : HasS P) {x : List Nat} {s : So} {a : Tm} (hx : nameOk x = true) (hs : s.dep ≤ 5) (ha : a.tm) (hna : ([x] ++ namesM a).length < 90) {n : Nat} {S : Store} (hn : 75 < n) : call P n "some_of" [.val (Tm.fr x s).enc, .val a.enc] S = toO Tm.enc (somM x s a) S := by
  obtain ⟨n, rfl, hn⟩ := fuel hn
  obtain ⟨_, _, da, sa⟩ := tm_parts ha
  rw [call_def H.someOf _ _ _ rfl]
  have e1 := need1_ok H.toHasW0 ha (n := n) (S := S) (by omega)
  have e2 := fresh2_ok H.toHasF (a := .fr x s) (b := a) ⟨Nat.zero_le _, (show 1 ≤ 900 by decide)⟩ ⟨by omega, by omega⟩ hna (n := n) (S := S) (by omega)
  have he := freshT_tm hna
  unfold somM
  cases c : a.truth with
  | false => rw [c] at e1; simp [d_some_of, begins, H.needTruths, e1, Er.exn]
  | true =>
    rw [c] at e1
    rw [if_pos rfl, if_pos hna]
    have hfe : (freshT (namesM (.fr x s) ++ namesM a)) = .fr (vn (freshC ([x] ++ namesM a))) .t := rfl
    rw [hfe] at e2
    have he : (Tm.fr (vn (freshC ([x] ++ namesM a))) .t).tm := he
    generalize vn (freshC ([x] ++ namesM a)) = e at *
    have i1 := implied_ok H.toHasW ha he (n := n) (S := S) (by omega)
    generalize hv : (Tm.fr x s).enc = V at *
    unfold somB
    cases q1 : impM a (.fr e .t) with
    | error _ => rw [q1] at i1; simp [d_some_of, begins, H.needTruths, H.fresh, H.implied, H.allOf, e1, e2, i1]
    | ok u =>
      rw [q1] at i1
      have hu := impM_tm ha he q1
      have i2 := all_of_ok H.toHasW0 (x := x) (s := s) hs hu (n := n) (S := S) (by omega)
      rw [hv] at i2
      cases q2 : allM x s u with
      | error _ => rw [q2] at i2; simp [d_some_of, begins, H.needTruths, H.fresh, H.implied, H.allOf, e1, e2, i1, i2, q2]
      | ok v =>
        rw [q2] at i2
        have hvv := allM_tm hs hu q2
        have i3 := implied_ok H.toHasW hvv he (n := n) (S := S) (by omega)
        cases q3 : impM v (.fr e .t) with
        | error _ => rw [q3] at i3; simp [d_some_of, begins, H.needTruths, H.fresh, H.implied, H.allOf, e1, e2, i1, i2, i3, q2, q3]
        | ok w =>
          rw [q3] at i3
          have hw := impM_tm hvv he q3
          have i5 := all_of_ok H.toHasW0 (x := e) (s := .t) (by decide) hw (n := n) (S := S) (by omega)
          cases q5 : allM e .t w with
          | error _ => rw [q5] at i5; simp [d_some_of, begins, H.needTruths, H.fresh, H.implied, H.allOf, e1, e2, i1, i2, i3, i5, q2, q3, q5]
          | ok z => rw [q5] at i5; simp [d_some_of, begins, H.needTruths, H.fresh, H.implied, H.allOf, e1, e2, i1, i2, i3, i5, q2, q3, q5]
/-! ### parts -/
def sidesM : Tm → Rs (Tm × Tm)
  | .ap (.ap (.sm _) a) b => .ok (a, b)
  | _ => .error .norule
def encT2 (p : Tm × Tm) : PV := .tup [p.1.enc, p.2.enc]
theorem sides_ok (h : P.D "sides" = some d_sides) (hx : P.xc "NoRule" = true) (t : Tm) {n : Nat} {S : Store} (hn : 0 < n) : call P n "sides" [.val t.enc] S = toO encT2 (sidesM t) S := by
  obtain ⟨n, rfl, hn⟩ := fuel hn
  rw [call_def h _ _ _ rfl]
  cases t with
  | ap t b =>
    cases t with
    | ap t a => cases t <;> simp [d_sides, begins, Tm.enc, hx, sidesM, encT2, Er.exn]
    | _ => simp [d_sides, begins, Tm.enc, hx, sidesM, Er.exn]
  | _ => simp [d_sides, begins, Tm.enc, hx, sidesM, Er.exn]
def bothP2 : Tm → Rs (Tm × Tm)
  | .ap (.ap (.bd 0) a) b => if a.isT && b.isT then .ok (a, b) else .error .norule
  | _ => .error .norule
def bothP1 : Tm → Tm → Rs (Tm × Tm)
  | .fn s i, r => if s = two ∧ r = pairA then bothP2 i else .error .norule
  | _, _ => .error .norule
def bothP (t : Tm) : Rs (Tm × Tm) := (sidesM t).bd fun p => bothP1 p.1 p.2
def impP (t : Tm) : Rs (Tm × Tm) := (sidesM t).bd fun p => (bothP p.1).bd fun q => if q.1 = p.2 then .ok q else .error .norule
def allP1 : Tm → Tm → Rs (So × Tm)
  | .fn s i, r => if r = .fn s alw then .ok (s, i) else .error .norule
  | _, _ => .error .norule
def allP (t : Tm) : Rs (So × Tm) := (sidesM t).bd fun p => allP1 p.1 p.2
def encSP (p : So × Tm) : PV := .tup [p.1.enc, p.2.enc]
theorem sidesM_wf {t : Tm} {p : Tm × Tm} (w : t.wf) (h : sidesM t = .ok p) : p.1.wf ∧ p.2.wf ∧ p.1.depth + 2 ≤ t.depth ∧ p.2.depth + 1 ≤ t.depth ∧ p.1.size + p.2.size < t.size := by
  unfold sidesM at h
  split at h
  · rename_i s a b
    cases h
    exact ⟨w.1.2, w.2, by simp only [Tm.depth]; omega, by simp only [Tm.depth]; omega, by simp only [Tm.size]; omega⟩
  · cases h
theorem bothP_wf {t : Tm} {p : Tm × Tm} (w : t.wf) (h : bothP t = .ok p) : p.1.tm ∧ p.2.tm := by
  unfold bothP at h
  cases q : sidesM t with
  | error _ => rw [q] at h; cases h
  | ok lr =>
    rw [q] at h
    obtain ⟨l, r⟩ := lr
    obtain ⟨wl, wr, _⟩ := sidesM_wf w q
    have h : bothP1 l r = .ok p := h
    unfold bothP1 at h
    split at h
    · split at h
      · unfold bothP2 at h
        split at h
        · split at h
          · rename_i c
            rw [Bool.and_eq_true] at c
            cases h
            exact ⟨⟨wl.2.1.2, c.1⟩, wl.2.2, c.2⟩
          · cases h
        · cases h
      · cases h
    · cases h
theorem impP_wf {t : Tm} {p : Tm × Tm} (w : t.wf) (h : impP t = .ok p) : p.1.tm ∧ p.2.tm := by
  unfold impP at h
  cases q : sidesM t with
  | error _ => rw [q] at h; cases h
  | ok lr =>
    rw [q] at h
    simp only [bd_ok] at h
    obtain ⟨wl, wr, _⟩ := sidesM_wf w q
    cases q2 : bothP lr.1 with
    | error _ => rw [q2] at h; cases h
    | ok z =>
      rw [q2] at h
      simp only [bd_ok] at h
      split at h
      · cases h; exact bothP_wf wl q2
      · cases h
theorem isTerm_any (H : HasB P) {t : Tm} {n : Nat} {S : Store} (hw : t.wf) (hd : t.depth ≤ 100) (hn : t.depth + 20 < n) : call P n "is_term" [.val t.enc] S = .ok (.bl t.isT) S := is_term_tm H hw hd hn
theorem both_parts_ok (H : HasWS P) (h : P.D "both_parts" = some d_both_parts) {t : Tm} (w : t.wf) (hd : t.depth ≤ 100) {n : Nat} {S : Store} (hn : 121 < n) : call P n "both_parts" [.val t.enc] S = toO encT2 (bothP t) S := by
  obtain ⟨n, rfl, hn⟩ := fuel hn
  rw [call_def h _ _ _ rfl]
  have e1 := sides_ok H.sides H.xcN t (n := n) (S := S) (by omega)
  have e3 := always_ok H.toHasW0 (n := n) (S := S) (by omega)
  have e4 := pair_of_ok H.toHasW alw_tm alw_tm (n := n) (S := S) (by omega)
  rw [pairA_eq] at e4
  unfold bothP
  cases q : sidesM t with
  | error _ => rw [q] at e1; simp [d_both_parts, begins, H.sides, e1]
  | ok lr =>
    rw [q] at e1
    obtain ⟨l, r⟩ := lr
    obtain ⟨wl, wr, dl, dr, _⟩ := sidesM_wf w q
    have wl : l.wf := wl
    have wr : r.wf := wr
    have dl : l.depth + 2 ≤ t.depth := dl
    have dr : r.depth + 1 ≤ t.depth := dr
    simp only [toO_ok, encT2] at e1
    show _ = toO encT2 (bothP1 l r) S
    have nr := ne_tm (a := r) (b := pairA) wr (by omega)
    cases l with
    | fn s i =>
      have ns := ne_so (a := s) (b := two) (by have := wl.1; omega)
      simp only [two, So.enc] at ns
      simp only [bothP1]
      simp only [Tm.enc] at e1
      by_cases c1 : s = two
      · have ns' : cmpP .ne s.enc (.tup [.str [116], .tup [.str [116], .str [116]]]) = some false := by rw [ns]; simp [c1, two]
        by_cases c2 : r = pairA
        · have nr' : cmpP .ne r.enc pairA.enc = some false := by rw [nr]; simp [c2]
          rw [if_pos ⟨c1, c2⟩]
          cases i with
          | ap j b =>
            cases j with
            | ap f a =>
              have wf_f : f.wf := wl.2.1.1
              have wa : a.wf := wl.2.1.2
              have wb : b.wf := wl.2.2
              simp only [Tm.depth] at dl
              have nf := ne_tm (a := f) (b := .bd 0) wf_f (by omega)
              have nf0 : cmpP .ne f.enc (.tup [.str [98, 111, 117, 110, 100], .int 0]) = some (!decide (f = .bd 0)) := nf
              have ta := is_term_tm H.toHasB (t := a) (n := n) (S := S) wa (by omega) (by omega)
              have tb := is_term_tm H.toHasB (t := b) (n := n) (S := S) wb (by omega) (by omega)
              simp only [Tm.enc] at e1
              by_cases hf : f = .bd 0
              · subst hf
                have nf1 : cmpP .ne (Tm.bd 0).enc (.tup [.str [98, 111, 117, 110, 100], .int 0]) = some false := by rw [nf0]; rfl
                generalize (Tm.bd 0).enc = B at *
                simp only [bothP2]
                cases ca : a.isT <;> rw [ca] at ta <;> cases cb : b.isT <;> rw [cb] at tb <;> simp [-c_ne, ne_str, d_both_parts, begins, H.sides, H.pairOf, H.always, H.gTwo, H.xcN, e1, e3, e4, ns', nr', setAll, Er.exn, nf1, H.isTerm, ta, tb, encT2]
              · have nf1 : cmpP .ne f.enc (.tup [.str [98, 111, 117, 110, 100], .int 0]) = some true := by rw [nf0]; simp [hf]
                have hb2 : bothP2 (.ap (.ap f a) b) = .error .norule := by
                  unfold bothP2
                  split
                  · rename_i z
                    cases z
                    exact absurd rfl hf
                  · rfl
                rw [hb2]
                simp [-c_ne, ne_str, d_both_parts, begins, H.sides, H.pairOf, H.always, H.gTwo, H.xcN, e1, e3, e4, ns', nr', setAll, Er.exn, nf1]
            | _ =>
              simp only [Tm.enc] at e1
              simp [-c_ne, ne_str, d_both_parts, begins, H.sides, H.pairOf, H.always, H.gTwo, H.xcN, e1, e3, e4, ns', nr', setAll, Er.exn, bothP2]
          | _ =>
            simp only [Tm.enc] at e1
            simp [-c_ne, ne_str, d_both_parts, begins, H.sides, H.pairOf, H.always, H.gTwo, H.xcN, e1, e3, e4, ns', nr', setAll, Er.exn, bothP2]
        · have nr' : cmpP .ne r.enc pairA.enc = some true := by rw [nr]; simp [c2]
          rw [if_neg (fun z => c2 z.2)]
          simp [-c_ne, ne_str, d_both_parts, begins, H.sides, H.pairOf, H.always, H.gTwo, H.xcN, e1, e3, e4, ns', nr', setAll, Er.exn]
      · have ns' : cmpP .ne s.enc (.tup [.str [116], .tup [.str [116], .str [116]]]) = some true := by rw [ns]; simp [show ¬ s = So.fn .t (.fn .t .t) from c1]
        rw [if_neg (fun z => c1 z.1)]
        simp [-c_ne, ne_str, d_both_parts, begins, H.sides, H.pairOf, H.always, H.gTwo, H.xcN, e1, e3, e4, ns', setAll, Er.exn]
    | _ =>
      simp only [Tm.enc] at e1
      simp [-c_ne, ne_str, d_both_parts, begins, H.sides, H.pairOf, H.always, H.gTwo, H.xcN, e1, setAll, bothP1, Er.exn]
theorem implied_parts_ok (H : HasWS P) (hb : P.D "both_parts" = some d_both_parts) (h : P.D "implied_parts" = some d_implied_parts) {t : Tm} (w : t.wf) (hd : t.depth ≤ 100) {n : Nat} {S : Store} (hn : 122 < n) : call P n "implied_parts" [.val t.enc] S = toO encT2 (impP t) S := by
  obtain ⟨n, rfl, hn⟩ := fuel hn
  rw [call_def h _ _ _ rfl]
  have e1 := sides_ok H.sides H.xcN t (n := n) (S := S) (by omega)
  unfold impP
  cases q : sidesM t with
  | error _ => rw [q] at e1; simp [d_implied_parts, begins, H.sides, e1]
  | ok lr =>
    rw [q] at e1
    obtain ⟨l, r⟩ := lr
    obtain ⟨wl, wr, dl, dr, _⟩ := sidesM_wf w q
    have wl : l.wf := wl
    have dl : l.depth + 2 ≤ t.depth := dl
    simp only [toO_ok, encT2] at e1
    have e2 := both_parts_ok H hb wl (by omega) (n := n) (S := S) (by omega)
    simp only [bd_ok]
    cases q2 : bothP l with
    | error _ => rw [q2] at e2; simp [d_implied_parts, begins, H.sides, hb, e1, e2, setAll]
    | ok ab =>
      rw [q2] at e2
      obtain ⟨a, b⟩ := ab
      obtain ⟨ta, tb⟩ := bothP_wf wl q2
      have ta : a.tm := ta
      obtain ⟨wa, _, da, _⟩ := tm_parts ta
      simp only [toO_ok, encT2] at e2
      have nr := ne_tm (a := a) (b := r) wa (by omega)
      simp only [bd_ok]
      by_cases c : a = r
      · have nr' : cmpP .ne a.enc r.enc = some false := by rw [nr]; simp [c]
        rw [if_pos c]
        simp [-c_ne, d_implied_parts, begins, H.sides, hb, e1, e2, setAll, nr', encT2]
      · have nr' : cmpP .ne a.enc r.enc = some true := by rw [nr]; simp [c]
        rw [if_neg c]
        simp [-c_ne, d_implied_parts, begins, H.sides, hb, e1, e2, setAll, nr', H.xcN, Er.exn]
theorem all_parts_ok (H : HasWS P) (h : P.D "all_parts" = some d_all_parts) {t : Tm} (w : t.wf) (hd : t.depth ≤ 100) {n : Nat} {S : Store} (hn : 3 < n) : call P n "all_parts" [.val t.enc] S = toO encSP (allP t) S := by
  obtain ⟨n, rfl, hn⟩ := fuel hn
  rw [call_def h _ _ _ rfl]
  have e1 := sides_ok H.sides H.xcN t (n := n) (S := S) (by omega)
  have e3 := always_ok H.toHasW0 (n := n) (S := S) (by omega)
  unfold allP
  cases q : sidesM t with
  | error _ => rw [q] at e1; simp [d_all_parts, begins, H.sides, e1]
  | ok lr =>
    rw [q] at e1
    obtain ⟨l, r⟩ := lr
    obtain ⟨wl, wr, dl, dr, _⟩ := sidesM_wf w q
    have wr : r.wf := wr
    have dr : r.depth + 1 ≤ t.depth := dr
    simp only [toO_ok, encT2] at e1
    show _ = toO encSP (allP1 l r) S
    cases l with
    | fn s i =>
      have nr := ne_tm (a := r) (b := .fn s alw) wr (by omega)
      simp only [Tm.enc] at e1 nr
      simp only [allP1]
      by_cases c : r = .fn s alw
      · have nr' : cmpP .ne r.enc (.tup [.str wFor, s.enc, alw.enc]) = some false := by rw [nr]; simp [c]
        rw [if_pos c]
        simp [-c_ne, ne_str, d_all_parts, begins, H.sides, H.always, e1, e3, setAll, nr', encSP]
      · have nr' : cmpP .ne r.enc (.tup [.str wFor, s.enc, alw.enc]) = some true := by rw [nr]; simp [c]
        rw [if_neg c]
        simp [-c_ne, ne_str, d_all_parts, begins, H.sides, H.always, e1, e3, setAll, nr', H.xcN, Er.exn]
    | _ =>
      simp only [Tm.enc] at e1
      simp [-c_ne, ne_str, d_all_parts, begins, H.sides, H.always, e1, setAll, allP1, H.xcN, Er.exn]
end
end Pg
end
section
set_option maxHeartbeats 1000000
namespace Pg
open Ev

/-! ## sentences -/
structure Sen where
  given : List Tm
  claim : Tm
  deriving DecidableEq
def encSn (q : Sen) : PV := .obj "Sentence" [.tup (q.given.map Tm.enc), q.claim.enc]
/-- each once -/
def ddT : List Tm → List Tm → List Tm
  | acc, [] => acc
  | acc, t :: r => ddT (if t ∈ acc then acc else acc ++ [t]) r
def insT (t : Tm) : List Tm → List Tm
  | [] => [t]
  | u :: r => if leS t.txt u.txt then t :: u :: r else u :: insT t r
def sortT : List Tm → List Tm
  | [] => []
  | t :: r => insT t (sortT r)
def byText (ts : List Tm) : List Tm := sortT (ddT [] ts)
theorem ddT_mem : ∀ (r acc : List Tm) (t : Tm), t ∈ ddT acc r ↔ t ∈ acc ∨ t ∈ r
  | [], acc, t => by simp [ddT]
  | u :: r, acc, t => by
    simp only [ddT]
    rw [ddT_mem r]
    by_cases h : u ∈ acc
    · rw [if_pos h]
      simp only [List.mem_cons]
      constructor
      · rintro (z | z)
        · exact .inl z
        · exact .inr (.inr z)
      · rintro (z | z | z)
        · exact .inl z
        · subst z; exact .inl h
        · exact .inr z
    · rw [if_neg h]
      simp only [List.mem_append, List.mem_cons, List.not_mem_nil, or_false, or_assoc]
theorem ddT_nodup : ∀ (r acc : List Tm), acc.Nodup → (ddT acc r).Nodup
  | [], acc, h => h
  | u :: r, acc, h => by
    simp only [ddT]
    refine ddT_nodup r _ ?_
    split
    · exact h
    · rename_i c
      rw [List.nodup_append]
      refine ⟨h, by simp, fun a ha b hb => ?_⟩
      rw [List.mem_singleton.mp hb]
      exact fun z => c (z ▸ ha)
theorem ddT_len : ∀ (r acc : List Tm), (ddT acc r).length ≤ acc.length + r.length
  | [], acc => by simp [ddT]
  | u :: r, acc => by
    simp only [ddT]
    refine Nat.le_trans (ddT_len r _) ?_
    split
    · simp only [List.length_cons]; omega
    · simp only [List.length_append, List.length_cons, List.length_nil]; omega
theorem insT_perm (t : Tm) : ∀ l, (insT t l).Perm (t :: l)
  | [] => .refl _
  | u :: r => by
    simp only [insT]
    split
    · exact .refl _
    · exact ((insT_perm t r).cons u).trans (.swap t u r)
theorem sortT_perm : ∀ l, (sortT l).Perm l
  | [] => .refl _
  | t :: r => (insT_perm t (sortT r)).trans ((sortT_perm r).cons t)
theorem insT_txt (t : Tm) : ∀ l : List Tm, (insT t l).map Tm.txt = insS t.txt (l.map Tm.txt)
  | [] => rfl
  | u :: r => by
    simp only [insT, List.map_cons, insS]
    split
    · rfl
    · rw [List.map_cons, insT_txt t r]
theorem sortT_txt : ∀ l : List Tm, (sortT l).map Tm.txt = sortP (l.map Tm.txt)
  | [] => rfl
  | t :: r => by simp only [sortT, List.map_cons, sortP, insT_txt, sortT_txt r]
theorem byText_mem (ts : List Tm) (t : Tm) : t ∈ byText ts ↔ t ∈ ts := by
  unfold byText
  rw [(sortT_perm _).mem_iff, ddT_mem]
  simp
theorem byText_len (ts : List Tm) : (byText ts).length ≤ ts.length := by
  unfold byText
  rw [(sortT_perm _).length_eq]
  simpa using ddT_len ts []
theorem tm_bok {t : Tm} (h : t.tm) : t.bok := by
  obtain ⟨w, ⟨s, hs, _⟩, d, _⟩ := tm_parts h
  exact sort_bok t [] s hs (by simp; omega)
theorem tm_inj {t u : Tm} (ht : t.tm) (hu : u.tm) (h : t.txt = u.txt) : t = u := txt_inj ht.1 hu.1 (tm_bok ht) (tm_bok hu) h
theorem leS_total' : ∀ x y : List Nat, leS x y = true ∨ leS y x = true
  | [], _ => .inl rfl
  | _ :: _, [] => .inr rfl
  | a :: x, b :: y => by
    simp only [leS]
    by_cases h1 : a < b
    · exact .inl (by rw [if_pos h1])
    · by_cases h2 : b < a
      · exact .inr (by rw [if_pos h2])
      · rw [if_neg h1, if_neg h2, if_neg h2, if_neg h1]
        exact leS_total' x y
theorem leS_anti' : ∀ x y : List Nat, leS x y = true → leS y x = true → x = y
  | [], [], _, _ => rfl
  | [], _ :: _, _, h => by cases h
  | _ :: _, [], h, _ => by cases h
  | a :: x, b :: y, h1, h2 => by
    simp only [leS] at h1 h2
    by_cases c1 : a < b
    · rw [if_neg (show ¬ b < a by omega), if_pos c1] at h2; cases h2
    · by_cases c2 : b < a
      · rw [if_neg c1, if_pos c2] at h1; cases h1
      · rw [if_neg c1, if_neg c2] at h1
        rw [if_neg c2, if_neg c1] at h2
        rw [leS_anti' x y h1 h2, show a = b by omega]
theorem leS_trans' : ∀ x y z : List Nat, leS x y = true → leS y z = true → leS x z = true
  | [], _, _, _, _ => rfl
  | _ :: _, [], _, h, _ => by cases h
  | _ :: _, _ :: _, [], _, h => by cases h
  | a :: x, b :: y, d :: z, h1, h2 => by
    simp only [leS] at h1 h2 ⊢
    by_cases c1 : a < b
    · by_cases c3 : b < d
      · rw [if_pos (by omega)]
      · by_cases c4 : d < b
        · rw [if_neg c3, if_pos c4] at h2; cases h2
        · rw [if_pos (by omega)]
    · by_cases c2 : b < a
      · rw [if_neg c1, if_pos c2] at h1; cases h1
      · rw [if_neg c1, if_neg c2] at h1
        by_cases c3 : b < d
        · rw [if_pos (by omega)]
        · by_cases c4 : d < b
          · rw [if_neg c3, if_pos c4] at h2; cases h2
          · rw [if_neg c3, if_neg c4] at h2
            rw [if_neg (by omega), if_neg (by omega)]
            exact leS_trans' x y z h1 h2
theorem insT_sorted (t : Tm) : ∀ l : List Tm, l.Pairwise (fun a b => leS a.txt b.txt = true) → (insT t l).Pairwise fun a b => leS a.txt b.txt = true
  | [], _ => List.pairwise_singleton _ _
  | u :: r, h => by
    simp only [insT]
    obtain ⟨h1, h2⟩ := List.pairwise_cons.mp h
    split
    · rename_i c
      refine List.pairwise_cons.mpr ⟨fun z hz => ?_, h⟩
      rcases List.mem_cons.mp hz with rfl | hz
      · exact c
      · exact leS_trans' _ _ _ c (h1 z hz)
    · rename_i c
      refine List.pairwise_cons.mpr ⟨fun z hz => ?_, insT_sorted t r h2⟩
      rcases List.mem_cons.mp ((insT_perm t r).mem_iff.mp hz) with rfl | hz
      · rcases leS_total' u.txt z.txt with q | q
        · exact q
        · exact absurd q c
      · exact h1 z hz
theorem sortT_sorted : ∀ l : List Tm, (sortT l).Pairwise fun a b => leS a.txt b.txt = true
  | [] => .nil
  | t :: r => insT_sorted t _ (sortT_sorted r)
/-- what is given depends only on which terms there are -/
theorem byText_set {ts us : List Tm} (h1 : ∀ t ∈ ts, t.tm) (h : ∀ t, t ∈ ts ↔ t ∈ us) : byText ts = byText us := by
  have p : (byText ts).Perm (byText us) := by
    unfold byText
    refine (sortT_perm _).trans (List.Perm.trans ?_ (sortT_perm _).symm)
    rw [List.perm_ext_iff_of_nodup (ddT_nodup ts [] List.nodup_nil) (ddT_nodup us [] List.nodup_nil)]
    intro t
    rw [ddT_mem, ddT_mem]
    simp [h t]
  refine List.Perm.eq_of_pairwise (le := fun a b : Tm => leS a.txt b.txt = true) (fun a b ha hb q1 q2 => ?_) (sortT_sorted _) (sortT_sorted _) p
  have ha := (byText_mem ts a).mp ha
  have hb := (byText_mem us b).mp hb
  exact tm_inj (h1 a ha) (h1 b ((h b).mpr hb)) (leS_anti' _ _ q1 q2)
structure HasN (P : Prog) : Prop where
  byText : P.D "by_text" = some d_by_text
  written : P.D "written" = some d_written
  sortText : P.D "sort_text" = some d_sort_text
  follows : P.D "follows" = some d_follows
  gMost : P.G "MOST_GIVEN" = some (.int 12)
  cls : P.cls "Sentence" = true
theorem sget_tm : ∀ (acc : List Tm) (t : Tm), (∀ u ∈ acc, u.tm) → t ∈ acc → t.tm → sgetP (acc.map Tm.txt) (acc.map Tm.enc) t.txt = some t.enc
  | [], t, _, h, _ => by cases h
  | u :: r, t, ha, h, ht => by
    simp only [List.map_cons, sgetP]
    by_cases c : u.txt = t.txt
    · rw [if_pos c, tm_inj (ha u List.mem_cons_self) ht c]
    · rw [if_neg c]
      rcases List.mem_cons.mp h with z | z
      · exact absurd (by rw [z]) c
      · exact sget_tm r t (fun v hv => ha v (List.mem_cons_of_mem _ hv)) z ht
theorem sget_no : ∀ (acc : List Tm) (t : Tm), (∀ u ∈ acc, u.tm) → t ∉ acc → t.tm → sgetP (acc.map Tm.txt) (acc.map Tm.enc) t.txt = none
  | [], t, _, h, _ => rfl
  | u :: r, t, ha, h, ht => by
    simp only [List.map_cons, sgetP]
    by_cases c : u.txt = t.txt
    · exact absurd (by rw [tm_inj (ha u List.mem_cons_self) ht c]; exact List.mem_cons_self) h
    · rw [if_neg c]
      exact sget_no r t (fun v hv => ha v (List.mem_cons_of_mem _ hv)) (fun z => h (List.mem_cons_of_mem _ z)) ht
theorem zip_same : ∀ (acc : List Tm) (t : Tm), (∀ u ∈ acc, u.tm) → t.tm → ((acc.map Tm.txt).zip (acc.map Tm.enc)).map (fun p => if p.1 = t.txt then t.enc else p.2) = acc.map Tm.enc
  | [], _, _, _ => rfl
  | u :: r, t, ha, ht => by
    simp only [List.map_cons, List.zip_cons_cons]
    rw [zip_same r t (fun v hv => ha v (List.mem_cons_of_mem _ hv)) ht]
    by_cases c : u.txt = t.txt
    · rw [if_pos c, tm_inj (ha u List.mem_cons_self) ht c]
    · rw [if_neg c]
theorem sput_tm {acc : List Tm} {t : Tm} (ha : ∀ u ∈ acc, u.tm) (ht : t.tm) : sputP (acc.map Tm.txt) (acc.map Tm.enc) t.txt t.enc = ((if t ∈ acc then acc else acc ++ [t]).map Tm.txt, (if t ∈ acc then acc else acc ++ [t]).map Tm.enc) := by
  unfold sputP
  by_cases c : t ∈ acc
  · rw [sget_tm acc t ha c ht, if_pos c]
    simp only [Option.isSome_some, if_true]
    rw [zip_same acc t ha ht]
  · rw [sget_no acc t ha c ht, if_neg c]
    simp
section
variable {P : Prog}
theorem at_end {α : Type} (S : List α) (x : α) : (S ++ [x])[S.length]? = some x := by simp
theorem set_end {α : Type} (S : List α) (x y : α) : (S ++ [x]).set S.length y = S ++ [y] := by simp
theorem sto_turn (H : HasN P) {n : Nat} {S : Store} {a0 a3 : Option Sl} {acc : List Tm} {t : Tm} (ha : ∀ u ∈ acc, u.tm) (hl : acc.length < 1000) (ht : t.tm) (hn : 50 < n) :
    exs (cfg P n) [.stoS 1 (.call "written" [(.var 2)]) (.var 2)] [a0, some (.cell S.length), some (.val t.enc), a3] (S ++ [some (.sdc (acc.map Tm.txt) (acc.map Tm.enc))]) =
      .next [a0, some (.cell S.length), some (.val t.enc), a3] (S ++ [some (.sdc ((if t ∈ acc then acc else acc ++ [t]).map Tm.txt) ((if t ∈ acc then acc else acc ++ [t]).map Tm.enc))]) := by
  obtain ⟨w, _, d, s⟩ := tm_parts ht
  have e1 := written_ok H.written H.sortText t n (S ++ [some (.sdc (acc.map Tm.txt) (acc.map Tm.enc))]) (by omega) w (tm_bok ht) (by omega)
  have e2 := sput_tm ha ht
  have hll : (acc.map Tm.txt).length < 16777216 := by rw [List.length_map]; omega
  generalize hA : acc.map Tm.txt = A at *
  generalize hB : acc.map Tm.enc = B at *
  have lv : liveSd [a0, some (.cell S.length), some (.val t.enc), a3] 1 (S ++ [some (.sdc A B)]) = true := by
    unfold liveSd
    simp only [List.getElem?_cons_succ, List.getElem?_cons_zero, at_end]
  have sg : stoSGo [a0, some (.cell S.length), some (.val t.enc), a3] 1 (.val (.str t.txt)) (.val t.enc) (S ++ [some (.sdc A B)]) = .next [a0, some (.cell S.length), some (.val t.enc), a3] (S ++ [some (.sdc (sputP A B t.txt t.enc).1 (sputP A B t.txt t.enc).2)]) := by
    unfold stoSGo
    simp only [List.getElem?_cons_succ, List.getElem?_cons_zero, at_end]
    rw [if_pos (show A.length < lim from hll), set_end]
  rw [e2] at sg
  simp [H.written, e1, lv, sg]
theorem sto_loop (H : HasN P) {n : Nat} {S : Store} {a0 a3 : Option Sl} (hn : 50 < n) : ∀ (r acc : List Tm) (a2 : Option Sl), (∀ u ∈ acc, u.tm) → (∀ u ∈ r, u.tm) → acc.length + r.length < 1000 →
    ∃ b2, forGo 2 (fun σ' S' => exs (cfg P n) [.stoS 1 (.call "written" [(.var 2)]) (.var 2)] σ' S') (r.map Tm.enc) [a0, some (.cell S.length), a2, a3] (S ++ [some (.sdc (acc.map Tm.txt) (acc.map Tm.enc))]) =
      .next [a0, some (.cell S.length), b2, a3] (S ++ [some (.sdc ((ddT acc r).map Tm.txt) ((ddT acc r).map Tm.enc))])
  | [], acc, a2, _, _, _ => ⟨a2, rfl⟩
  | t :: r, acc, a2, ha, hr, hl => by
    simp only [List.length_cons] at hl
    have e := sto_turn H (n := n) (S := S) (a0 := a0) (a3 := a3) ha (by omega) (hr t List.mem_cons_self) hn
    obtain ⟨b2, ih⟩ := sto_loop H (n := n) (S := S) (a0 := a0) (a3 := a3) hn r (if t ∈ acc then acc else acc ++ [t]) (some (.val t.enc)) (fun u hu => by
      split at hu
      · exact ha u hu
      · rcases List.mem_append.mp hu with z | z
        · exact ha u z
        · rw [List.mem_singleton.mp z]; exact hr t List.mem_cons_self) (fun u hu => hr u (List.mem_cons_of_mem _ hu)) (by
      split
      · omega
      · simp only [List.length_append, List.length_cons, List.length_nil]; omega)
    refine ⟨b2, ?_⟩
    simp only [List.map_cons, forGo, List.set, e, SO.turn_next, ddT]
    exact ih
theorem text_lc {n : Nat} {S : Store} {a0 a2 a3 : Option Sl} {acc : List Tm} (ha : ∀ u ∈ acc, u.tm) (hl : acc.length < 64) :
    ev (cfg P n) (.lc 3 (.seq (.sortS 1)) (.subS 1 (.var 3)) []) [a0, some (.cell S.length), a2, a3] (S ++ [some (.sdc (acc.map Tm.txt) (acc.map Tm.enc))]) = .ok (.val (.lst ((sortT acc).map Tm.enc))) (S ++ [some (.sdc (acc.map Tm.txt) (acc.map Tm.enc))]) := by
  have es : ev (cfg P n) (.sortS 1) [a0, some (.cell S.length), a2, a3] (S ++ [some (.sdc (acc.map Tm.txt) (acc.map Tm.enc))]) = .ok (.val (.lst (((sortT acc).map Tm.txt).map PV.str))) (S ++ [some (.sdc (acc.map Tm.txt) (acc.map Tm.enc))]) := by
    rw [e_sortS]
    unfold cellAt sortSGo
    simp only [List.getElem?_cons_succ, List.getElem?_cons_zero, at_end, cfg_cm, if_true]
    rw [if_pos (by rw [List.length_map]; exact hl), sortT_txt]
  rw [e_lc, cfg_cm, if_pos rfl, e_seq, es, Out.bind_ok]
  simp only [itemsP, Out.bind_ok]
  have key : ∀ t ∈ sortT acc, sgetP (acc.map Tm.txt) (acc.map Tm.enc) t.txt = some t.enc := fun t ht => by
    have hm := (sortT_perm acc).mem_iff.mp ht
    exact sget_tm acc t ha hm (ha t hm)
  rw [lcGo_ok (p := fun _ => true) (h := fun v => match v with
    | .str x => (sgetP (acc.map Tm.txt) (acc.map Tm.enc) x).getD .non
    | _ => .non)]
  · rw [List.filter_eq_self.mpr (fun _ _ => rfl), List.map_map, List.map_map, List.nil_append]
    congr 3
    refine List.map_congr_left fun t ht => ?_
    simp only [Function.comp_apply, key t ht, Option.getD_some]
  · intro y hy; simp
  · intro y hy _
    rw [List.map_map] at hy
    obtain ⟨t, ht, rfl⟩ := List.mem_map.mp hy
    rw [e_subS]
    unfold cellAt
    simp only [List.set, List.getElem?_cons_succ, List.getElem?_cons_zero, e_var, Function.comp_apply]
    rw [show look [a0, some (.cell S.length), a2, some (.val (.str t.txt))] 3 (S ++ [some (.sdc (acc.map Tm.txt) (acc.map Tm.enc))]) = .ok (.val (.str t.txt)) (S ++ [some (.sdc (acc.map Tm.txt) (acc.map Tm.enc))]) from rfl]
    simp only [Out.bind_ok]
    unfold subSGo
    simp only [at_end, key t ht, liftV, Option.getD_some]
  · simp only [List.length_nil, List.length_map, Nat.zero_add]
    rw [(sortT_perm acc).length_eq]
    exact Nat.le_trans (by omega) (show 64 ≤ lim by decide)
theorem by_text_ok (H : HasN P) {n : Nat} {S : Store} {v : PV} {ts : List Tm} (hv : itemsP v = some (ts.map Tm.enc)) (ht : ∀ t ∈ ts, t.tm) (hl : ts.length < 64) (hn : 51 < n) : call P n "by_text" [.val v] S = .ok (.tup ((byText ts).map Tm.enc)) S := by
  obtain ⟨n, rfl, hn⟩ := fuel hn
  rw [call_def H.byText _ _ _ rfl]
  obtain ⟨b2, e1⟩ := sto_loop H (n := n) (S := S) (a0 := some (.val v)) (a3 := none) (by omega) ts [] none (by simp) ht (by simp; omega)
  have dl : (ddT [] ts).length < 64 := by have := ddT_len ts []; simp at this; omega
  have dm : ∀ u ∈ ddT [] ts, u.tm := fun u hu => ht u (by have := (ddT_mem ts [] u).mp hu; simpa using this)
  have e2 := text_lc (P := P) (n := n) (S := S) (a0 := some (.val v)) (a2 := b2) (a3 := none) dm dl
  simp only [List.map_nil] at e1
  show ends S.length (exs (cfg P n) [.newS 1, .for_ 2 (.seq (.var 0)) [.stoS 1 (.call "written" [(.var 2)]) (.var 2)], .ret (.prim .tuple [(.lc 3 (.seq (.sortS 1)) (.subS 1 (.var 3)) [])])] [some (.val v), none, none, none] S) = _
  rw [x_cons, x_newS, cfg_hx]
  simp only [Option.isSome_none, Bool.false_eq_true, if_false, SO.seq_next, List.set]
  rw [x_cons, x_for, cfg_cm, if_pos rfl, e_seq, e_var, lk_cons, Out.bind_ok]
  simp only [hv, Out.thn_ok]
  rw [e1, SO.seq_next]
  unfold byText
  generalize (sortT (ddT [] ts)).map Tm.enc = R at *
  generalize (ddT [] ts).map Tm.txt = A at *
  generalize (ddT [] ts).map Tm.enc = B at *
  simp [-e_lc, e2, tupleP]
end
end Pg
end
section
set_option maxHeartbeats 1000000
namespace Pg
open Ev

/-! ## rules -/
def mkSen (ts : List Tm) (c : Tm) : Rs Sen := if (byText ts).length ≤ 12 then .ok ⟨byText ts, c⟩ else .error .great
/-- a sentence -/
structure Sen.ok (q : Sen) : Prop where
  g : ∀ t ∈ q.given, t.tm
  l : q.given.length ≤ 12
  c : q.claim.tm
theorem mkSen_ok {ts : List Tm} {c : Tm} {q : Sen} (ht : ∀ t ∈ ts, t.tm) (hc : c.tm) (h : mkSen ts c = .ok q) : q.ok := by
  unfold mkSen at h
  split at h
  · rename_i hl
    cases h
    exact ⟨fun t hm => ht t ((byText_mem ts t).mp hm), hl, hc⟩
  · cases h
theorem itemsP_tup (xs : List PV) : itemsP (.tup xs) = some xs := rfl
theorem itemsP_lst (xs : List PV) : itemsP (.lst xs) = some xs := rfl
theorem encSn_eq (q : Sen) : encSn q = .obj "Sentence" [.tup (q.given.map Tm.enc), q.claim.enc] := rfl
theorem fld_claim {q : Sen} {S : Store} : fldGo "Sentence" "claim" (.val (encSn q)) S = .ok (.val q.claim.enc) S := rfl
theorem fld_given {q : Sen} {S : Store} : fldGo "Sentence" "given" (.val (encSn q)) S = .ok (.val (.tup (q.given.map Tm.enc))) S := rfl
theorem mk_go {a b : PV} {S : Store} : mkGo "Sentence" [.val a, .val b] S = .ok (.val (.obj "Sentence" [a, b])) S := rfl
theorem add_tup {g h : List Tm} (hl : g.length + h.length ≤ 1000) : binP .add (.tup (g.map Tm.enc)) (.tup (h.map Tm.enc)) = some (.tup ((g ++ h).map Tm.enc)) := by
  show (if (g.map Tm.enc).length + (h.map Tm.enc).length ≤ lim then some (PV.tup (g.map Tm.enc ++ h.map Tm.enc)) else none) = _
  rw [if_pos (by rw [List.length_map, List.length_map]; exact Nat.le_trans hl (by decide)), List.map_append]
theorem add_lst {g h : List Tm} (hl : g.length + h.length ≤ 1000) : binP .add (.lst (g.map Tm.enc)) (.lst (h.map Tm.enc)) = some (.lst ((g ++ h).map Tm.enc)) := by
  show (if (g.map Tm.enc).length + (h.map Tm.enc).length ≤ lim then some (PV.lst (g.map Tm.enc ++ h.map Tm.enc)) else none) = _
  rw [if_pos (by rw [List.length_map, List.length_map]; exact Nat.le_trans hl (by decide)), List.map_append]
/-- without one -/
def butT (g : List Tm) (t : Tm) : List Tm := g.filter fun u => !decide (u = t)
theorem butT_mem {g : List Tm} {t u : Tm} : u ∈ butT g t ↔ u ∈ g ∧ u ≠ t := by simp [butT]
theorem butT_len (g : List Tm) (t : Tm) : (butT g t).length ≤ g.length := List.length_filter_le _ _
structure HasFo (P : Prog) : Prop extends HasB P, HasN P
structure HasQ0 (P : Prog) : Prop extends HasW0 P, HasN P where
  sides : P.D "sides" = some d_sides
theorem HasQ0.fo {P : Prog} (H : HasQ0 P) : HasFo P := ⟨H.toHasB, H.toHasN⟩
structure HasQ (P : Prog) : Prop extends HasWS P, HasN P
theorem HasQ.q0 {P : Prog} (H : HasQ P) : HasQ0 P := ⟨H.toHasW0, H.toHasN, H.sides⟩
section
variable {P : Prog}
theorem terms_lc (H : HasB P) {n : Nat} {S : Store} {a1 a2 : Option Sl} {g : List Tm} (hg : ∀ t ∈ g, t.tm) (hl : g.length ≤ 1000) (hn : 62 < n) :
    ev (cfg P n) (.lc 2 (.seq (.var 0)) (.call "is_term" [(.var 2)]) []) [some (.val (.tup (g.map Tm.enc))), a1, a2] S = .ok (.val (.lst ((g.map fun _ => true).map PV.bl))) S := by
  rw [e_lc, cfg_cm, if_pos rfl, e_seq, e_var, lk_cons, Out.bind_ok]
  simp only [itemsP, Out.bind_ok]
  rw [lcGo_ok (p := fun _ => true) (h := fun _ => .bl true)]
  · rw [List.filter_eq_self.mpr (fun _ _ => rfl), List.map_map, List.map_map, List.nil_append]
    rfl
  · intro y hy; simp
  · intro y hy _
    obtain ⟨t, ht, rfl⟩ := List.mem_map.mp hy
    obtain ⟨w, _, d, _⟩ := tm_parts (hg t ht)
    have e := is_term_tm H (t := t) (n := n) (S := S) w (by omega) (by omega)
    rw [(hg t ht).2] at e
    simp [H.isTerm, e]
  · simp only [List.length_nil, List.length_map, Nat.zero_add]
    exact Nat.le_trans hl (show 1000 ≤ lim by decide)
theorem follows_ok (H : HasFo P) {n : Nat} {S : Store} {v : PV} {ts : List Tm} {c : Tm} (hv : itemsP v = some (ts.map Tm.enc)) (ht : ∀ t ∈ ts, t.tm) (hc : c.tm) (hl : ts.length < 64) (hn : 64 < n) : call P n "follows" [.val v, .val c.enc] S = toO encSn (mkSen ts c) S := by
  obtain ⟨n, rfl, hn⟩ := fuel hn
  rw [call_def H.follows _ _ _ rfl]
  have e1 := by_text_ok H.toHasN hv ht hl (n := n) (S := S) (by omega)
  have hb : ∀ t ∈ byText ts, t.tm := fun t hm => ht t ((byText_mem ts t).mp hm)
  have bl := byText_len ts
  have e2 := terms_lc H.toHasB (n := n) (S := S) (a1 := some (.val c.enc)) (a2 := none) hb (by omega) (by omega)
  obtain ⟨w, _, d, _⟩ := tm_parts hc
  have e3 := is_term_tm H.toHasB (t := c) (n := n) (S := S) w (by omega) (by omega)
  rw [hc.2] at e3
  have e4 : allTrue (((byText ts).map fun _ => true).map PV.bl) = some true := by
    rw [allTrue_bl]
    simp
  have e5 : lenP (.tup ((byText ts).map Tm.enc)) = some (.int ((byText ts).length : Int)) := by
    show some (PV.int (((byText ts).map Tm.enc).length : Nat)) = _
    rw [List.length_map]
  unfold mkSen
  by_cases h : (byText ts).length ≤ 12
  · have h' : ¬ (12 : Int) < ((byText ts).length : Int) := by omega
    rw [if_pos h]
    simp only [toO_ok, encSn]
    generalize (byText ts).map Tm.enc = G at *
    generalize ((byText ts).map fun _ => true).map PV.bl = B at *
    generalize ((byText ts).length : Int) = z at *
    simp [-e_lc, -ln_tup, d_follows, begins, H.byText, H.gMost, H.isTerm, H.cls, e1, e2, e3, e4, e5, h', mk_go]
  · have h' : (12 : Int) < ((byText ts).length : Int) := by omega
    rw [if_neg h]
    simp only [toO_error, Er.exn]
    generalize (byText ts).map Tm.enc = G at *
    generalize ((byText ts).length : Int) = z at *
    simp [-e_lc, -ln_tup, d_follows, begins, H.byText, H.gMost, H.isTerm, H.cls, H.xcT, e1, e5, h']
theorem but_one_ok (h : P.D "but_one" = some d_but_one) {n : Nat} {S : Store} {g : List Tm} {t : Tm} (hg : ∀ u ∈ g, u.tm) (hl : g.length ≤ 1000) (hn : 0 < n) : call P n "but_one" [.val (.tup (g.map Tm.enc)), .val t.enc] S = .ok (.lst ((butT g t).map Tm.enc)) S := by
  obtain ⟨n, rfl, hn⟩ := fuel hn
  rw [call_def h _ _ _ rfl]
  have e : ev (cfg P n) (.lc 2 (.seq (.var 0)) (.var 2) [(.prim (.cmp .ne) [(.var 2), (.var 1)])]) [some (.val (.tup (g.map Tm.enc))), some (.val t.enc), none] S = .ok (.val (.lst ((butT g t).map Tm.enc))) S := by
    rw [e_lc, cfg_cm, if_pos rfl, e_seq, e_var, lk_cons, Out.bind_ok]
    simp only [itemsP, Out.bind_ok]
    rw [lcGo_ok (p := fun v => !eqv v t.enc) (h := fun v => v)]
    · rw [List.nil_append, List.map_id', List.filter_map]
      unfold butT
      rw [show ((fun v => !eqv v t.enc) ∘ Tm.enc) = (fun u => !decide (u = t)) from funext fun u => by simp only [Function.comp_apply, tm_eqv]]
    · intro x hx
      obtain ⟨u, hu, rfl⟩ := List.mem_map.mp hx
      have hn := ne_tm (a := u) (b := t) (hg u hu).1 (by have := (tm_parts (hg u hu)).2.2.1; omega)
      rw [tm_eqv]
      simp [-c_ne, hn]
    · intro x hx _; simp
    · simp only [List.length_nil, List.length_map, Nat.zero_add]
      exact Nat.le_trans hl (show 1000 ≤ lim by decide)
  simp [-e_lc, d_but_one, begins, e]
theorem need_truth_ok (H : HasW0 P) (h : P.D "need_truth" = some d_need_truth) {t : Tm} (ht : t.tm) {n : Nat} {S : Store} (hn : 71 < n) : call P n "need_truth" [.val t.enc] S = if t.truth then .ok .non S else .err noRule S := by
  obtain ⟨n, rfl, hn⟩ := fuel hn
  rw [call_def h _ _ _ rfl]
  have e1 := is_truth_ok H ht (n := n) (S := S) (by omega)
  cases c : t.truth <;> rw [c] at e1 <;> simp [d_need_truth, begins, H.isTruth, e1, H.xcN]
/-! ### the rules -/
def supM (t : Tm) : Rs Sen := if t.truth then mkSen [t] t else .error .norule
theorem supposed_ok (H : HasQ0 P) (h : P.D "supposed" = some d_supposed) (h1 : P.D "need_truth" = some d_need_truth) {t : Tm} (ht : t.tm) {n : Nat} {S : Store} (hn : 72 < n) : call P n "supposed" [.val t.enc] S = toO encSn (supM t) S := by
  obtain ⟨n, rfl, hn⟩ := fuel hn
  rw [call_def h _ _ _ rfl]
  have e1 := need_truth_ok H.toHasW0 h1 ht (n := n) (S := S) (by omega)
  have e2 := follows_ok H.fo (n := n) (S := S) (v := .tup [t.enc]) (ts := [t]) (c := t) rfl (by simpa using ht) ht (show 1 < 64 by decide) (by omega)
  unfold supM
  cases c : t.truth with
  | false => rw [c] at e1; simp [d_supposed, begins, h1, e1, Er.exn]
  | true =>
    rw [c] at e1
    cases q : mkSen [t] t <;> rw [q] at e2 <;> simp [d_supposed, begins, h1, H.follows, e1, e2, q]
def sameM (t : Tm) : Rs Sen := (equalM t t).bd fun e => mkSen [] e
theorem same_self_ok (H : HasQ0 P) (h : P.D "same_self" = some d_same_self) {t : Tm} (ht : t.tm) {n : Nat} {S : Store} (hn : 72 < n) : call P n "same_self" [.val t.enc] S = toO encSn (sameM t) S := by
  obtain ⟨n, rfl, hn⟩ := fuel hn
  rw [call_def h _ _ _ rfl]
  have e1 := equality_ok H.toHasEq ht ht (n := n) (S := S) (by omega)
  unfold sameM
  cases c : equalM t t with
  | error _ => rw [c] at e1; simp [d_same_self, begins, H.equality, H.follows, e1]
  | ok z =>
    rw [c] at e1
    have hz := equalM_tm ht ht c
    have e2 := follows_ok H.fo (n := n) (S := S) (v := .tup []) (ts := []) (c := z) rfl (by simp) hz (show 0 < 64 by decide) (by omega)
    cases q : mkSen [] z <;> rw [q] at e2 <;> simp [d_same_self, begins, H.equality, H.follows, e1, e2, q]
def carM (a b : Sen) : Rs Sen := (sidesM a.claim).bd fun p => if p.1 = b.claim then mkSen (a.given ++ b.given) p.2 else .error .norule
/-- the sides of a term are parts of it, terms if it is one of equality's -/
theorem sides_tm {t : Tm} {p : Tm × Tm} (ht : t.tm) (h : sidesM t = .ok p) : p.1.tm ∧ p.2.tm := by
  obtain ⟨w, ⟨s, hs, _⟩, d, z⟩ := tm_parts ht
  obtain ⟨w1, w2, d1, d2, zz⟩ := sidesM_wf w h
  unfold sidesM at h
  split at h
  · rename_i q a b
    cases h
    simp only at w1 w2 d1 d2 zz
    obtain ⟨x, h1, h2⟩ := sort_ap hs
    obtain ⟨y, h3, h4⟩ := sort_ap h1
    exact ⟨⟨w1, by simp only [Tm.isT, h4, Option.isSome_some, Bool.true_and]; exact small_iff.mpr ⟨by omega, by omega⟩⟩, w2, by simp only [Tm.isT, h2, Option.isSome_some, Bool.true_and]; exact small_iff.mpr ⟨by omega, by omega⟩⟩
  · cases h
theorem app_tm {a b : Sen} (ha : a.ok) (hb : b.ok) : ∀ t ∈ a.given ++ b.given, t.tm := fun t h => by
  rcases List.mem_append.mp h with z | z
  · exact ha.g t z
  · exact hb.g t z
theorem carried_ok (H : HasQ0 P) (h : P.D "carried" = some d_carried) {a b : Sen} (ha : a.ok) (hb : b.ok) {n : Nat} {S : Store} (hn : 72 < n) : call P n "carried" [.val (encSn a), .val (encSn b)] S = toO encSn (carM a b) S := by
  obtain ⟨n, rfl, hn⟩ := fuel hn
  rw [call_def h _ _ _ rfl]
  have e1 := sides_ok H.sides H.xcN a.claim (n := n) (S := S) (by omega)
  have l1 := ha.l
  have l2 := hb.l
  have e2 := add_tup (g := a.given) (h := b.given) (by omega)
  unfold carM
  cases c : sidesM a.claim with
  | error _ => rw [c] at e1; simp [d_carried, begins, H.sides, H.cls, fld_claim, e1]
  | ok p =>
    rw [c] at e1
    obtain ⟨l, r⟩ := p
    obtain ⟨tl, tr⟩ := sides_tm ha.c c
    have tl : l.tm := tl
    have tr : r.tm := tr
    simp only [toO_ok, encT2] at e1
    have nr := ne_tm (a := l) (b := b.claim) tl.1 (by have := (tm_parts tl).2.2.1; omega)
    have e3 := follows_ok H.fo (n := n) (S := S) (v := .tup ((a.given ++ b.given).map Tm.enc)) (ts := a.given ++ b.given) (c := r) rfl (app_tm ha hb) tr (by rw [List.length_append]; omega) (by omega)
    simp only [bd_ok]
    by_cases q : l = b.claim
    · have nr' : cmpP .ne l.enc b.claim.enc = some false := by rw [nr]; simp [q]
      rw [if_pos q]
      cases z : mkSen (a.given ++ b.given) r <;> rw [z] at e3 <;> simp [-c_ne, -List.map_append, d_carried, begins, H.sides, H.cls, H.follows, fld_claim, fld_given, e1, e2, e3, setAll, nr', z]
    · have nr' : cmpP .ne l.enc b.claim.enc = some true := by rw [nr]; simp [q]
      rw [if_neg q]
      simp [-c_ne, -List.map_append, d_carried, begins, H.sides, H.cls, H.follows, fld_claim, fld_given, H.xcN, e1, setAll, nr', Er.exn]
end
end Pg
end
section
set_option maxHeartbeats 1000000
namespace Pg
open Ev

/-! ## steps of unfolding -/
def stepT : Tm → Option Tm
  | .ap a b => match a with
    | .fn _ p => some (p.op b 0)
    | _ => (match stepT a with
      | some a' => some (.ap a' b)
      | none => (stepT b).map (.ap a ·))
  | .fn s t => (stepT t).map (.fn s ·)
  | _ => none
def red : Nat → Tm → Option Tm
  | 0, t => match stepT t with
    | none => some t
    | some _ => none
  | k + 1, t => match stepT t with
    | none => some t
    | some u => if u.isT then red k u else none
def oE : Option Tm → PV
  | some t => t.enc
  | none => .non
theorem tm_isNon (t : Tm) : isNon t.enc = false := by cases t <;> rfl
theorem oE_isNon (o : Option Tm) : isNon (oE o) = o.isNone := by cases o with
  | none => rfl
  | some t => exact tm_isNon t
theorem step_ap {a b : Tm} (h : fold? (.ap a b) = none) : stepT (.ap a b) = (match stepT a with
      | some a' => some (.ap a' b)
      | none => (stepT b).map (.ap a ·)) := by
  cases a with
  | fn s p => cases h
  | _ => simp only [stepT]
theorem step_fold {s : So} {p b : Tm} : stepT (.ap (.fn s p) b) = some (p.op b 0) := by simp only [stepT]
theorem fold_none {a b : Tm} (h : fold? (.ap a b) = none) : ∀ s p, a ≠ .fn s p := fun s p e => by rw [e] at h; cases h
theorem fold_some {a b : Tm} {z : Tm × Tm} (h : fold? (.ap a b) = some z) : ∃ s p, a = .fn s p ∧ z = (p, b) := by
  cases a with
  | fn s p => cases h; exact ⟨s, p, rfl, rfl⟩
  | _ => cases h
/-- a step keeps the sort -/
theorem step_sort : ∀ (t u : Tm) (A : List So) (r : So), stepT t = some u → t.sort A = some r → u.sort A = some r
  | .bd _, u, A, r, h, _ => by cases h
  | .fr _ _, u, A, r, h, _ => by cases h
  | .sm _, u, A, r, h, _ => by cases h
  | .fn s t, u, A, r, h, hs => by
    simp only [stepT] at h
    cases q : stepT t with
    | none => rw [q] at h; cases h
    | some v =>
      rw [q] at h
      cases h
      simp only [Tm.sort] at hs ⊢
      cases z : t.sort (A ++ [s]) with
      | none => rw [z] at hs; cases hs
      | some w =>
        rw [step_sort t v (A ++ [s]) w q z]
        rw [z] at hs
        exact hs
  | .ap a b, u, A, r, h, hs => by
    obtain ⟨x, h1, h2⟩ := sort_ap hs
    cases q : fold? (.ap a b) with
    | some z =>
      obtain ⟨s, p, rfl, rfl⟩ := fold_some q
      rw [step_fold] at h
      cases h
      simp only [Tm.sort] at h1
      cases z : p.sort (A ++ [s]) with
      | none => rw [z] at h1; cases h1
      | some w =>
        rw [z] at h1
        have h1 : (if (So.fn s w).dep ≤ 5 then some (So.fn s w) else none) = some (So.fn x r) := h1
        split at h1
        · cases h1
          have := sort_op (o := b) (A := A) h2 p [] _ (by simpa using z)
          simpa using this
        · cases h1
    | none =>
      rw [step_ap q] at h
      cases e1 : stepT a with
      | some a' =>
        rw [e1] at h
        cases h
        exact sort_ap_of (step_sort a a' A _ e1 h1) h2
      | none =>
        rw [e1] at h
        cases e2 : stepT b with
        | none => rw [e2] at h; cases h
        | some b' =>
          rw [e2] at h
          cases h
          exact sort_ap_of h1 (step_sort b b' A _ e2 h2)
theorem step_wf : ∀ (t u : Tm), stepT t = some u → t.wf → u.wf
  | .bd _, u, h, _ => by cases h
  | .fr _ _, u, h, _ => by cases h
  | .sm _, u, h, _ => by cases h
  | .fn s t, u, h, w => by
    simp only [stepT] at h
    cases q : stepT t with
    | none => rw [q] at h; cases h
    | some v => rw [q] at h; cases h; exact ⟨w.1, step_wf t v q w.2⟩
  | .ap a b, u, h, w => by
    cases q : fold? (.ap a b) with
    | some z =>
      obtain ⟨s, p, rfl, rfl⟩ := fold_some q
      rw [step_fold] at h
      cases h
      exact wf_op w.2 p 0 w.1.2
    | none =>
      rw [step_ap q] at h
      cases e1 : stepT a with
      | some a' => rw [e1] at h; cases h; exact ⟨step_wf a a' e1 w.1, w.2⟩
      | none =>
        rw [e1] at h
        cases e2 : stepT b with
        | none => rw [e2] at h; cases h
        | some b' => rw [e2] at h; cases h; exact ⟨w.1, step_wf b b' e2 w.2⟩
theorem step_depth : ∀ (t u : Tm), stepT t = some u → u.depth ≤ 2 * t.depth
  | .bd _, u, h => by cases h
  | .fr _ _, u, h => by cases h
  | .sm _, u, h => by cases h
  | .fn s t, u, h => by
    simp only [stepT] at h
    cases q : stepT t with
    | none => rw [q] at h; cases h
    | some v => rw [q] at h; cases h; have := step_depth t v q; simp only [Tm.depth]; omega
  | .ap a b, u, h => by
    cases q : fold? (.ap a b) with
    | some z =>
      obtain ⟨s, p, rfl, rfl⟩ := fold_some q
      rw [step_fold] at h
      cases h
      have := (op_size b p 0).2
      simp only [Tm.depth]
      omega
    | none =>
      rw [step_ap q] at h
      cases e1 : stepT a with
      | some a' => rw [e1] at h; cases h; have := step_depth a a' e1; simp only [Tm.depth]; omega
      | none =>
        rw [e1] at h
        cases e2 : stepT b with
        | none => rw [e2] at h; cases h
        | some b' => rw [e2] at h; cases h; have := step_depth b b' e2; simp only [Tm.depth]; omega
theorem red_end : ∀ (k : Nat) (t u : Tm), red k t = some u → stepT u = none ∧ (t.wf → u.wf) ∧ (∀ s, t.sort [] = some s → u.sort [] = some s) ∧ (t.isT = true → u.isT = true)
  | 0, t, u, h => by
    simp only [red] at h
    cases q : stepT t with
    | none => rw [q] at h; cases h; exact ⟨q, id, fun _ => id, id⟩
    | some v => rw [q] at h; cases h
  | k + 1, t, u, h => by
    simp only [red] at h
    cases q : stepT t with
    | none => rw [q] at h; cases h; exact ⟨q, id, fun _ => id, id⟩
    | some v =>
      rw [q] at h
      simp only [] at h
      split at h
      · rename_i hv
        obtain ⟨h1, h2, h3, h4⟩ := red_end k v u h
        exact ⟨h1, fun w => h2 (step_wf t v q w), fun s hs => h3 s (step_sort t v [] s q hs), fun _ => h4 hv⟩
      · cases h
section
variable {P : Prog}
structure HasRe (P : Prog) : Prop where
  isFold : P.D "is_fold" = some d_is_fold
  opened : P.D "opened" = some d_opened
  lifted : P.D "lifted" = some d_lifted
  step : P.D "one_step" = some d_one_step
  reduced : P.D "reduced" = some d_reduced
  most : P.G "MOST_STEPS" = some (.int 60)
theorem isFold_ok (h : P.D "is_fold" = some d_is_fold) (t : Tm) {n : Nat} {S : Store} (hn : 0 < n) : call P n "is_fold" [.val t.enc] S = .ok (.bl (fold? t).isSome) S := by
  obtain ⟨n, rfl, hn⟩ := fuel hn
  rw [call_def h _ _ _ rfl]
  cases t with
  | ap a b => cases a <;> simp [d_is_fold, begins, Tm.enc, fold?]
  | _ => simp [d_is_fold, begins, Tm.enc, fold?]
theorem one_step_ok (H : HasRe P) : ∀ (t : Tm) (n : Nat) (S : Store), 2 * t.depth + 3 < n → call P n "one_step" [.val t.enc] S = .ok (oE (stepT t)) S
  | .bd k, n, S, hn => by
    obtain ⟨n, rfl, hn⟩ := fuel hn
    rw [call_def H.step _ _ _ rfl]
    have e := isFold_ok H.isFold (.bd k) (n := n) (S := S) (by omega)
    simp only [Tm.enc] at e
    simp [d_one_step, begins, H.isFold, e, Tm.enc, fold?, stepT, oE]
  | .fr x s, n, S, hn => by
    obtain ⟨n, rfl, hn⟩ := fuel hn
    rw [call_def H.step _ _ _ rfl]
    have e := isFold_ok H.isFold (.fr x s) (n := n) (S := S) (by omega)
    simp only [Tm.enc] at e
    simp [d_one_step, begins, H.isFold, e, Tm.enc, fold?, stepT, oE]
  | .sm s, n, S, hn => by
    obtain ⟨n, rfl, hn⟩ := fuel hn
    rw [call_def H.step _ _ _ rfl]
    have e := isFold_ok H.isFold (.sm s) (n := n) (S := S) (by omega)
    simp only [Tm.enc] at e
    simp [d_one_step, begins, H.isFold, e, Tm.enc, fold?, stepT, oE]
  | .fn s t, n, S, hn => by
    obtain ⟨n, rfl, hn⟩ := fuel hn
    simp only [Tm.depth] at hn
    rw [call_def H.step _ _ _ rfl]
    have e := isFold_ok H.isFold (.fn s t) (n := n) (S := S) (by omega)
    have e1 := one_step_ok H t n S (by omega)
    simp only [Tm.enc] at e
    cases q : stepT t with
    | none => rw [q] at e1; simp [d_one_step, begins, H.isFold, H.step, e, e1, Tm.enc, fold?, stepT, oE, q]
    | some v =>
      rw [q] at e1
      have nv := tm_isNon v
      simp only [oE] at e1
      simp [d_one_step, begins, H.isFold, H.step, e, e1, Tm.enc, fold?, stepT, oE, q, nv]
  | .ap a b, n, S, hn => by
    obtain ⟨n, rfl, hn⟩ := fuel hn
    simp only [Tm.depth] at hn
    rw [call_def H.step _ _ _ rfl]
    have e := isFold_ok H.isFold (.ap a b) (n := n) (S := S) (by omega)
    cases q : fold? (.ap a b) with
    | some z =>
      rw [q] at e
      obtain ⟨s, p, rfl, rfl⟩ := fold_some q
      simp only [Tm.depth] at hn
      have e1 := opened_ok H.opened H.lifted (o := b) p n 0 S (by omega)
      simp only [Int.natCast_zero] at e1
      rw [step_fold]
      simp only [Tm.enc] at e
      simp [d_one_step, begins, H.isFold, H.opened, e, e1, Tm.enc, oE]
    | none =>
      rw [q] at e
      have e1 := one_step_ok H a n S (by omega)
      have e2 := one_step_ok H b n S (by omega)
      rw [step_ap q]
      simp only [Tm.enc] at e
      cases z1 : stepT a with
      | some a' =>
        rw [z1] at e1
        have nv := tm_isNon a'
        simp only [oE] at e1
        simp [d_one_step, begins, H.isFold, H.step, e, e1, Tm.enc, oE, nv, -c_ne, ne_str]
      | none =>
        rw [z1] at e1
        simp only [oE] at e1
        cases z2 : stepT b with
        | some b' =>
          rw [z2] at e2
          have nv := tm_isNon b'
          simp only [oE] at e2
          simp [d_one_step, begins, H.isFold, H.step, e, e1, e2, Tm.enc, oE, nv, -c_ne, ne_str]
        | none =>
          rw [z2] at e2
          simp only [oE] at e2
          simp [d_one_step, begins, H.isFold, H.step, e, e1, e2, Tm.enc, oE, -c_ne, ne_str]
/-! ## reduced -/
def rC : CE := .prim (.cmp .ntn) [(.var 2), .non]
def rW : List CS := match d_reduced.body.drop 2 with
  | .whl _ b :: _ => b
  | _ => []
theorem red_loop (H : HasB P) (O : HasRe P) {n : Nat} {S : Store} (hn : 120 < n) : ∀ (k j f : Nat) (t : Tm), j + k = 60 → t.tm → k + 1 < f →
    (∃ u σ', red k t = some u ∧ whGo (fun σ' S' => (ev (cfg P n) rC σ' S').bind fun s S1 => truthOf s S1) (fun σ' S' => exs (cfg P n) rW σ' S') f [some (.val t.enc), some (.val (.int (j : Int))), some (.val (oE (stepT t)))] S = .next [some (.val u.enc), σ', some (.val .non)] S) ∨ (red k t = none ∧ ∃ σ1, whGo (fun σ' S' => (ev (cfg P n) rC σ' S').bind fun s S1 => truthOf s S1) (fun σ' S' => exs (cfg P n) rW σ' S') f [some (.val t.enc), some (.val (.int (j : Int))), some (.val (oE (stepT t)))] S = .err tooGreat σ1 S)
  | _, _, 0, _, _, _, hf => by omega
  | k, j, f + 1, t, hj, ht, hf => by
    obtain ⟨w, _, d, sz⟩ := tm_parts ht
    have ec : ev (cfg P n) rC [some (.val t.enc), some (.val (.int (j : Int))), some (.val (oE (stepT t)))] S = .ok (.val (.bl (!(stepT t).isNone))) S := by
      have := oE_isNon (stepT t)
      simp [rC, this]
    cases q : stepT t with
    | none =>
      rw [q] at ec
      have hr : red k t = some t := by cases k <;> simp only [red, q]
      refine .inl ⟨t, some (.val (.int (j : Int))), hr, ?_⟩
      simp only [whGo, ec, Out.bind_ok, truthOf, truth, Out.thn_ok]
      rfl
    | some u =>
      rw [q] at ec
      have wu := step_wf t u q w
      have du := step_depth t u q
      have eb := bounded_ok H (t := u) (n := n) (S := S) wu (by omega) (by omega)
      change ev (cfg P n) rC [some (.val t.enc), some (.val (.int (j : Int))), some (.val u.enc)] S = .ok (.val (.bl (!(some u).isNone))) S at ec
      show (∃ u_1 σ', red k t = some u_1 ∧ whGo (fun σ' S' => (ev (cfg P n) rC σ' S').bind fun s S1 => truthOf s S1) (fun σ' S' => exs (cfg P n) rW σ' S') (f + 1) [some (.val t.enc), some (.val (.int (j : Int))), some (.val u.enc)] S = .next [some (.val u_1.enc), σ', some (.val .non)] S) ∨ (red k t = none ∧ ∃ σ1, whGo (fun σ' S' => (ev (cfg P n) rC σ' S').bind fun s S1 => truthOf s S1) (fun σ' S' => exs (cfg P n) rW σ' S') (f + 1) [some (.val t.enc), some (.val (.int (j : Int))), some (.val u.enc)] S = .err tooGreat σ1 S)
      cases k with
      | zero =>
        refine .inr ⟨by simp only [red, q], ?_⟩
        have j60 : j = 60 := by omega
        subst j60
        have bod : exs (cfg P n) rW [some (.val t.enc), some (.val (.int ((60 : Nat) : Int))), some (.val u.enc)] S = .err tooGreat [some (.val t.enc), some (.val (.int 61)), some (.val u.enc)] S := by
          simp [rW, d_reduced, O.most, H.xcT, tooGreat]
        refine ⟨[some (.val t.enc), some (.val (.int 61)), some (.val u.enc)], ?_⟩
        simp only [whGo, ec, Out.bind_ok, truthOf, truth, Out.thn_ok]
        simp only [Option.isNone_some, Bool.not_false, if_true, bod]
        rfl
      | succ k =>
        have j60 : ¬ (60 : Int) < (j : Int) + 1 := by omega
        cases hu : u.isT with
        | false =>
          rw [hu] at eb
          refine .inr ⟨by simp only [red, q, hu]; rfl, ?_⟩
          have bod : exs (cfg P n) rW [some (.val t.enc), some (.val (.int (j : Int))), some (.val u.enc)] S = .err tooGreat [some (.val t.enc), some (.val (.int ((j : Int) + 1))), some (.val u.enc)] S := by
            simp [rW, d_reduced, O.most, H.xcT, H.bounded, eb, j60]
          refine ⟨[some (.val t.enc), some (.val (.int ((j : Int) + 1))), some (.val u.enc)], ?_⟩
          simp only [whGo, ec, Out.bind_ok, truthOf, truth, Out.thn_ok]
          simp only [Option.isNone_some, Bool.not_false, if_true, bod]
          rfl
        | true =>
          rw [hu] at eb
          have tu : u.tm := ⟨wu, hu⟩
          have es := one_step_ok O u n S (by have := (tm_parts tu).2.2.1; omega)
          have ih := red_loop H O hn (S := S) k (j + 1) f u (by omega) tu (by omega)
          have bod : exs (cfg P n) rW [some (.val t.enc), some (.val (.int (j : Int))), some (.val u.enc)] S = .next [some (.val u.enc), some (.val (.int ((j + 1 : Nat) : Int))), some (.val (oE (stepT u)))] S := by
            generalize oE (stepT u) = W at *
            simp [rW, d_reduced, O.most, H.xcT, H.bounded, O.step, eb, es, j60]
          have hr : red (k + 1) t = red k u := by simp only [red, q, hu, if_true]
          rw [hr]
          have stp : whGo (fun σ' S' => (ev (cfg P n) rC σ' S').bind fun s S1 => truthOf s S1) (fun σ' S' => exs (cfg P n) rW σ' S') (f + 1) [some (.val t.enc), some (.val (.int (j : Int))), some (.val u.enc)] S = whGo (fun σ' S' => (ev (cfg P n) rC σ' S').bind fun s S1 => truthOf s S1) (fun σ' S' => exs (cfg P n) rW σ' S') f [some (.val u.enc), some (.val (.int ((j + 1 : Nat) : Int))), some (.val (oE (stepT u)))] S := by
            simp only [whGo, ec, Out.bind_ok, truthOf, truth, Out.thn_ok]
            simp only [Option.isNone_some, Bool.not_false, if_true, bod, SO.turn_next]
          rw [stp]
          exact ih
def rdO (o : Option Tm) (S : Store) : Out PV := match o with
  | some u => .ok u.enc S
  | none => .err tooGreat S
theorem reduced_ok (H : HasB P) (O : HasRe P) {t : Tm} (ht : t.tm) {n : Nat} {S : Store} (hn : 122 < n) : call P n "reduced" [.val t.enc] S = rdO (red 60 t) S := by
  obtain ⟨n, rfl, hn⟩ := fuel hn
  rw [call_def O.reduced _ _ _ rfl]
  have d := (tm_parts ht).2.2.1
  have e1 := one_step_ok O t n S (by omega)
  have w := red_loop H O (n := n) (S := S) (by omega) 60 0 turns t rfl ht (by unfold turns; omega)
  rw [show d_reduced.body = [.asg 1 (.int 0), .asg 2 (.call "one_step" [(.var 0)]), .whl rC rW, .ret (.var 0)] from rfl, show begins d_reduced [.val t.enc] = [some (.val t.enc), none, none] from rfl]
  simp only [Int.natCast_zero] at w
  generalize oE (stepT t) = W at *
  rcases w with ⟨u, σ', h1, h2⟩ | ⟨h1, σ1, h2⟩
  · rw [h1]
    simp [O.step, e1, h2, rdO]
  · rw [h1]
    simp [O.step, e1, h2, rdO]
/-- reduction -/
def redM (t : Tm) : Rs Sen := match red 60 t with
  | some u => (equalM t u).bd fun e => mkSen [] e
  | none => .error .great
theorem reduction_ok (H : HasFo P) (Q : HasEq P) (O : HasRe P) (h : P.D "reduction" = some d_reduction) {t : Tm} (ht : t.tm) {n : Nat} {S : Store} (hn : 123 < n) : call P n "reduction" [.val t.enc] S = toO encSn (redM t) S := by
  obtain ⟨n, rfl, hn⟩ := fuel hn
  rw [call_def h _ _ _ rfl]
  have e1 := reduced_ok H.toHasB O ht (n := n) (S := S) (by omega)
  unfold redM
  cases q : red 60 t with
  | none => rw [q] at e1; simp only [rdO] at e1; simp [d_reduction, begins, O.reduced, Q.equality, H.follows, e1, Er.exn]
  | some u =>
    rw [q] at e1
    simp only [rdO] at e1
    obtain ⟨_, r2, _, r4⟩ := red_end 60 t u q
    have tu : u.tm := ⟨r2 ht.1, r4 ht.2⟩
    have e2 := equality_ok Q ht tu (n := n) (S := S) (by omega)
    simp only []
    cases c : equalM t u with
    | error _ => rw [c] at e2; simp [d_reduction, begins, O.reduced, Q.equality, H.follows, e1, e2]
    | ok e =>
      rw [c] at e2
      have e3 := follows_ok H (n := n) (S := S) (v := .tup []) (ts := []) (c := e) rfl (by simp) (equalM_tm ht tu c) (by simp) (by omega)
      simp only [bd_ok, toO_ok] at *
      cases z : mkSen [] e <;> rw [z] at e3 <;> simp [d_reduction, begins, O.reduced, Q.equality, H.follows, e1, e2, e3, z]
end
end Pg
end
section
set_option maxHeartbeats 1000000
/-! ## law_k29_whole_unfolded_to_the_end: the defs -/
namespace K29
open Ev Pg
def d__law_opened : Def := ⟨["part", "other", "level"], 3,
  [.ifs (.prim (.cmp .eq) [(.prim .sub [(.var 0), (.int 0)]), (.str [98, 111, 117, 110, 100])])
     [.ifs (.prim (.cmp .eq) [(.prim .sub [(.var 0), (.int 1)]), (.var 2)])
        [.ret (.call "_law_lifted" [(.var 1), (.var 2), (.int 0)])]
        [],
      .ret (.prim .tup [(.str [98, 111, 117, 110, 100]), (.prim (.bin .sub) [(.prim .sub [(.var 0), (.int 1)]), (.prim .int [(.prim (.cmp .gt) [(.prim .sub [(.var 0), (.int 1)]), (.var 2)])])])])]
     [],
   .ifs (.prim (.cmp .eq) [(.prim .sub [(.var 0), (.int 0)]), (.str [111, 102])])
     [.ret (.prim .tup [(.str [111, 102]), (.call "_law_opened" [(.prim .sub [(.var 0), (.int 1)]), (.var 1), (.var 2)]), (.call "_law_opened" [(.prim .sub [(.var 0), (.int 2)]), (.var 1), (.var 2)])])]
     [],
   .ifs (.prim (.cmp .eq) [(.prim .sub [(.var 0), (.int 0)]), (.str [102, 111, 114])])
     [.ret (.prim .tup [(.str [102, 111, 114]), (.prim .sub [(.var 0), (.int 1)]), (.call "_law_opened" [(.prim .sub [(.var 0), (.int 2)]), (.var 1), (.prim (.bin .add) [(.var 2), (.int 1)])])])]
     [],
   .ret (.var 0)]⟩
def d_law : Def := ⟨["script", "k", "more", "term", "due", "told", "sentence", "claim"], 1,
  [.for_ 1 (.range [(.prim .max2 [(.int 1), (.prim .min2 [(.int 4), (.prim .len [(.var 0)])])])])
     [.asg 2 (.call "_law_drawn" [(.call "_law_cell" [(.var 0), (.var 1)]), (.prim (.bin .add) [(.var 1), (.int 5000)])]),
      .asg 3 (.call "_law_folded" [(.var 0), (.prim (.bin .mul) [(.int 40), (.var 1)]), (.prim .sub [(.prim .lst [(.str [116]), (.str [105]), (.prim .tup [(.str [116]), (.str [116])])]), (.prim (.bin .mod) [(.var 2), (.int 3)])]), (.prim .lst []), (.prim (.bin .add) [(.int 2), (.prim (.bin .mod) [(.prim (.bin .fdiv) [(.var 2), (.int 3)]), (.int 3)])])]),
      .ifs (.prim (.cmp .eq) [(.prim (.bin .mod) [(.prim (.bin .fdiv) [(.var 2), (.int 9)]), (.int 5)]), (.int 0)])
        [.asg 3 (.call "_law_doubling" [(.prim (.bin .fdiv) [(.var 2), (.int 45)])])]
        [],
      .ifs (.prim (.cmp .eq) [(.prim (.bin .mod) [(.prim (.bin .fdiv) [(.var 2), (.int 9)]), (.int 5)]), (.int 1)])
        [.asg 3 (.call "_law_wide" [(.prim (.bin .add) [(.int 59), (.prim (.bin .mod) [(.prim (.bin .fdiv) [(.var 2), (.int 45)]), (.int 4)])]), (.prim (.bin .fdiv) [(.var 2), (.int 180)])])]
        [],
      .ifs (.not_ (.call "is_term" [(.var 3)]))
        [.cont]
        [],
      .asg 4 (.call "_law_end" [(.var 3)]),
      .asg 5 (.lam "_law_told" (.call "reduced" [(.var 3)])),
      .asg 6 (.lam "_law_told" (.call "reduction" [(.var 3)])),
      .ifs (.prim (.cmp .isn) [(.var 4), .non])
        [.ifs (.or_ [(.prim (.cmp .ne) [(.var 5), (.str [103, 114, 101, 97, 116])]), (.prim (.cmp .ne) [(.var 6), (.str [103, 114, 101, 97, 116])])])
           [.ret (.bl false)]
           [],
         .cont]
        [],
      .ifs (.or_ [(.prim (.cmp .ne) [(.var 5), (.var 4)]), (.prim (.cmp .ne) [(.call "sort_of" [(.var 5)]), (.call "sort_of" [(.var 3)])]), (.prim (.cmp .ne) [(.call "reduced" [(.var 5)]), (.var 5)])])
        [.ret (.bl false)]
        [],
      .asg 7 (.call "_law_equal" [(.var 3), (.var 4)]),
      .ifs (.not_ (.call "_law_is_term" [(.var 7)]))
        [.ifs (.prim (.cmp .ne) [(.var 6), (.str [103, 114, 101, 97, 116])])
           [.ret (.bl false)]
           []]
        [.ifs (.or_ [(.not_ (.isO (.var 6) "Sentence")), (.prim (.cmp .ne) [(.fld (.var 6) "Sentence" "given"), (.prim .tup [])]), (.prim (.cmp .ne) [(.fld (.var 6) "Sentence" "claim"), (.var 7)])])
           [.ret (.bl false)]
           []]],
   .ret (.bl true)]⟩
def ldTold : LDef := ⟨["rule", "e"], true, "TooGreat", 1, [.ret (.prim .sub [(.prim .lst [(.str [103, 114, 101, 97, 116]), (.str [111, 116, 104, 101, 114])]), (.prim .int [(.not_ (.hot "_law_alone" 1))])])], []⟩
structure HasTo (P : Prog) : Prop where
  ld : P.LD "_law_told" = some ldTold
  xc : P.xc "TooGreat" = true
  sub : P.sub "TooGreat" "TooGreat" = true
  hot : hotV P "_law_alone" "TooGreat" = some (.bl true)
structure Has (P : Prog) : Prop where
  fo : HasFo P
  eq : HasEq P
  re : HasRe P
  p : HasP P
  to_ : HasTo P
  reduction : P.D "reduction" = some d_reduction
  lsort : P.D "_law_sort" = some d__law_sort
  lsize : P.D "_law_size" = some d__law_size
  ldepth : P.D "_law_depth" = some d__law_depth
  lequal : P.D "_law_equal" = some d__law_equal
  lgood : P.D "_law_good" = some d__law_good
  lisTerm : P.D "_law_is_term" = some d__law_is_term
  llifted : P.D "_law_lifted" = some d__law_lifted
  lopened : P.D "_law_opened" = some d__law_opened
  lstep : P.D "_law_step" = some d__law_step
  lend : P.D "_law_end" = some d__law_end
  folded : P.D "_law_folded" = some d__law_folded
  doubling : P.D "_law_doubling" = some d__law_doubling
  wide : P.D "_law_wide" = some d__law_wide
section
variable {P : Prog}
theorem told_yes (H : HasTo P) {F : Store → Out PV} {S : Store} {n : Nat} {v : PV} (hn : 2 ≤ n) (h : F S = .ok v S) : lamN P n "_law_told" F S = .ok v S := by
  unfold lamN
  rw [if_pos hn]
  unfold lamB
  rw [H.ld]
  simp only [h]
  simp [ldTold]
theorem told_great (H : HasTo P) {F : Store → Out PV} {S : Store} {n : Nat} (hn : 2 ≤ n) (h : F S = .err tooGreat S) : lamN P n "_law_told" F S = .ok (.str [103, 114, 101, 97, 116]) S := by
  unfold lamN
  rw [if_pos hn]
  unfold lamB
  rw [H.ld]
  simp only [h]
  have e2 : ldTold.cls = "TooGreat" := rfl
  rw [e2, H.xc, H.sub]
  simp [ldTold, lamG, H.hot, retOnly]
theorem lam_yes (H : HasTo P) {b : CE} {σ : Lo} {S : Store} {n : Nat} {v : PV} (hn : 2 ≤ n) (h : ev (cfgL P n) b σ S = .ok (.val v) S) : ev (cfg P n) (.lam "_law_told" b) σ S = .ok (.val v) S := by
  rw [e_lam, cfg_cm, if_pos rfl, cfg_lam, cfg_low, told_yes H hn (v := v) (by rw [h]; rfl)]
  rfl
theorem lam_great (H : HasTo P) {b : CE} {σ : Lo} {S : Store} {n : Nat} (hn : 2 ≤ n) (h : ev (cfgL P n) b σ S = .err tooGreat S) : ev (cfg P n) (.lam "_law_told" b) σ S = .ok (.val (.str [103, 114, 101, 97, 116])) S := by
  rw [e_lam, cfg_cm, if_pos rfl, cfg_lam, cfg_low, told_great H hn (by rw [h]; rfl)]
  rfl
/-! ### the law's own steps -/
theorem llifted_ok (h : P.D "_law_lifted" = some d__law_lifted) {d : Nat} (t : Tm) : ∀ (n l : Nat) (S : Store), t.depth < n → call P n "_law_lifted" [.val t.enc, .val (.int d), .val (.int l)] S = .ok (t.lift d l).enc S := by
  induction t with
  | bd k =>
    intro n l S hn
    obtain ⟨n, rfl, hn⟩ := fuel hn
    rw [call_def h _ _ _ rfl]
    by_cases c : l ≤ k
    · have c' : (l : Int) ≤ (k : Int) := by omega
      simp [d__law_lifted, begins, Tm.enc, Tm.lift, c, c']
    · have c' : ¬ (l : Int) ≤ (k : Int) := by omega
      simp [d__law_lifted, begins, Tm.enc, Tm.lift, c, c']
  | fr x s => intro n l S hn; obtain ⟨n, rfl, hn⟩ := fuel hn; rw [call_def h _ _ _ rfl]; simp [d__law_lifted, begins, Tm.enc, Tm.lift]
  | sm s => intro n l S hn; obtain ⟨n, rfl, hn⟩ := fuel hn; rw [call_def h _ _ _ rfl]; simp [d__law_lifted, begins, Tm.enc, Tm.lift]
  | fn s t ih =>
    intro n l S hn
    obtain ⟨n, rfl, hn⟩ := fuel hn
    simp only [Tm.depth] at hn
    rw [call_def h _ _ _ rfl]
    have e := ih n (l + 1) S (by omega)
    simp only [Int.natCast_add, Int.natCast_one] at e
    simp [d__law_lifted, begins, Tm.enc, Tm.lift, h, e]
  | ap a b iha ihb =>
    intro n l S hn
    obtain ⟨n, rfl, hn⟩ := fuel hn
    simp only [Tm.depth] at hn
    rw [call_def h _ _ _ rfl]
    have e1 := iha n l S (by omega)
    have e2 := ihb n l S (by omega)
    simp [d__law_lifted, begins, Tm.enc, Tm.lift, h, e1, e2]
theorem lopened_ok (h : P.D "_law_opened" = some d__law_opened) (hl : P.D "_law_lifted" = some d__law_lifted) {o : Tm} (t : Tm) : ∀ (n l : Nat) (S : Store), t.depth + o.depth + 1 < n → call P n "_law_opened" [.val t.enc, .val o.enc, .val (.int l)] S = .ok (t.op o l).enc S := by
  induction t with
  | bd k =>
    intro n l S hn
    obtain ⟨n, rfl, hn⟩ := fuel hn
    rw [call_def h _ _ _ rfl]
    simp only [Tm.depth] at hn
    have e : call P n "_law_lifted" [.val o.enc, .val (.int l), .val (.int 0)] S = .ok (o.lift l 0).enc S := llifted_ok hl (d := l) o n 0 S (by omega)
    have ok : okd (.int (k : Int)) (.int (l : Int)) = true := by simp [okd, dat, pd]
    by_cases c : k = l
    · have c' : (k : Int) = (l : Int) := by omega
      simp [d__law_opened, begins, Tm.enc, Tm.op, c, hl, e, ok]
    · have c' : ¬ (k : Int) = (l : Int) := by omega
      by_cases b : l < k
      · have b' : (l : Int) < (k : Int) := by omega
        have z : ((k - 1 : Nat) : Int) = (k : Int) - 1 := by omega
        simp [d__law_opened, begins, Tm.enc, Tm.op, c, c', b, b', ok, z]
      · have b' : ¬ (l : Int) < (k : Int) := by omega
        simp [d__law_opened, begins, Tm.enc, Tm.op, c, c', b, b', ok]
  | fr x s => intro n l S hn; obtain ⟨n, rfl, hn⟩ := fuel hn; rw [call_def h _ _ _ rfl]; simp [d__law_opened, begins, Tm.enc, Tm.op]
  | sm s => intro n l S hn; obtain ⟨n, rfl, hn⟩ := fuel hn; rw [call_def h _ _ _ rfl]; simp [d__law_opened, begins, Tm.enc, Tm.op]
  | fn s t ih =>
    intro n l S hn
    obtain ⟨n, rfl, hn⟩ := fuel hn
    simp only [Tm.depth] at hn
    rw [call_def h _ _ _ rfl]
    have e := ih n (l + 1) S (by omega)
    simp only [Int.natCast_add, Int.natCast_one] at e
    simp [d__law_opened, begins, Tm.enc, Tm.op, h, e]
  | ap a b iha ihb =>
    intro n l S hn
    obtain ⟨n, rfl, hn⟩ := fuel hn
    simp only [Tm.depth] at hn
    rw [call_def h _ _ _ rfl]
    have e1 := iha n l S (by omega)
    have e2 := ihb n l S (by omega)
    simp [d__law_opened, begins, Tm.enc, Tm.op, h, e1, e2]
def lL (o : Option Tm) : PV := .lst (o.toList.map Tm.enc)
theorem lstep_ok (H : Has P) : ∀ (t : Tm) (n : Nat) (S : Store), 2 * t.depth + 3 < n → call P n "_law_step" [.val t.enc] S = .ok (lL (stepT t)) S
  | .bd k, n, S, hn => by
    obtain ⟨n, rfl, hn⟩ := fuel hn
    rw [call_def H.lstep _ _ _ rfl]
    simp [d__law_step, begins, Tm.enc, stepT, lL]
  | .fr x s, n, S, hn => by
    obtain ⟨n, rfl, hn⟩ := fuel hn
    rw [call_def H.lstep _ _ _ rfl]
    simp [d__law_step, begins, Tm.enc, stepT, lL]
  | .sm s, n, S, hn => by
    obtain ⟨n, rfl, hn⟩ := fuel hn
    rw [call_def H.lstep _ _ _ rfl]
    simp [d__law_step, begins, Tm.enc, stepT, lL]
  | .fn s t, n, S, hn => by
    obtain ⟨n, rfl, hn⟩ := fuel hn
    simp only [Tm.depth] at hn
    rw [call_def H.lstep _ _ _ rfl]
    have e1 := lstep_ok H t n S (by omega)
    cases q : stepT t with
    | none => rw [q] at e1; simp only [lL, Option.toList_none, List.map_nil] at e1; simp [d__law_step, begins, H.lstep, e1, Tm.enc, stepT, lL, q, itemsP, lcGo]
    | some v => rw [q] at e1; simp only [lL, Option.toList_some, List.map_cons, List.map_nil] at e1; simp [d__law_step, begins, H.lstep, e1, Tm.enc, stepT, lL, q, itemsP, lcGo]
  | .ap a b, n, S, hn => by
    obtain ⟨n, rfl, hn⟩ := fuel hn
    simp only [Tm.depth] at hn
    rw [call_def H.lstep _ _ _ rfl]
    cases q : fold? (.ap a b) with
    | some z =>
      obtain ⟨s, p, rfl, rfl⟩ := fold_some q
      simp only [Tm.depth] at hn
      have e1 := lopened_ok H.lopened H.llifted (o := b) p n 0 S (by omega)
      simp only [Int.natCast_zero] at e1
      rw [step_fold]
      simp [d__law_step, begins, H.lopened, e1, Tm.enc, lL]
    | none =>
      have e1 := lstep_ok H a n S (by omega)
      have e2 := lstep_ok H b n S (by omega)
      rw [step_ap q]
      have hw : ∃ w r, a.enc = .tup (.str w :: r) ∧ w ≠ [102, 111, 114] := by
        cases a with
        | fn s p => cases q
        | bd k => exact ⟨_, _, rfl, by decide⟩
        | fr x s => exact ⟨_, _, rfl, by decide⟩
        | sm s => exact ⟨_, _, rfl, by decide⟩
        | ap c d => exact ⟨_, _, rfl, by decide⟩
      obtain ⟨w, r, hw, hne⟩ := hw
      have ok1 : okd (.lst [] : PV) (.lst []) = true := by decide
      cases z1 : stepT a with
      | some a' =>
        rw [z1] at e1
        simp only [lL, Option.toList_some, List.map_cons, List.map_nil] at e1
        have nq : cmpP .ne (.lst [a'.enc]) (.lst []) = some true := by
          rw [c_ne, show okd (.lst [a'.enc]) (.lst []) = true from by simp [okd, dat, dats, tm_dat, pd, pds]]
          simp [eqv, eqvs]
        simp only [Tm.enc, hw] at e1 ⊢
        simp [-c_ne, ne_str, nq, d__law_step, begins, H.lstep, e1, Tm.enc, lL, hne]
      | none =>
        rw [z1] at e1
        simp only [lL, Option.toList_none, List.map_nil] at e1
        have nq : cmpP .ne (.lst [] : PV) (.lst []) = some false := by
          rw [c_ne, ok1]
          simp [eqv, eqvs]
        cases z2 : stepT b with
        | none =>
          rw [z2] at e2
          simp only [lL, Option.toList_none, List.map_nil] at e2
          simp only [Tm.enc, hw] at e1 ⊢
          simp [-c_ne, ne_str, nq, d__law_step, begins, H.lstep, e1, e2, Tm.enc, lL, hne, itemsP, lcGo]
        | some b' =>
          rw [z2] at e2
          simp only [lL, Option.toList_some, List.map_cons, List.map_nil] at e2
          simp only [Tm.enc, hw] at e1 ⊢
          simp [-c_ne, ne_str, nq, d__law_step, begins, H.lstep, e1, e2, Tm.enc, lL, hne, hw, itemsP, lcGo]
theorem lis_term_ok (H : Has P) {t : Tm} {s : So} {n : Nat} {S : Store} (w : t.wf) (hs : t.sort [] = some s) (hd : t.depth ≤ 100) (hn : t.depth + 9 < n) : call P n "_law_is_term" [.val t.enc] S = .ok (.bl t.isT) S := by
  obtain ⟨n, rfl, hn⟩ := fuel hn
  rw [call_def H.lisTerm _ _ _ rfl]
  have e1 := law_good_ok H.lgood H.lsort H.p.sdep t n [] s S (by omega) hs w (by simp) (by simp; omega)
  have e2 := law_size_ok H.lsize t n S (by omega)
  have e3 := law_depth_ok H.ldepth t n S (by omega)
  rw [List.map_nil] at e1
  have hT : t.isT = t.small := by simp [Tm.isT, hs]
  rw [hT]
  by_cases c1 : t.size ≤ 600
  · have c1' : (t.size : Int) ≤ 600 := by omega
    by_cases c2 : t.depth ≤ 40
    · have c2' : (t.depth : Int) ≤ 40 := by omega
      simp [d__law_is_term, begins, H.lgood, H.lsize, H.ldepth, e1, e2, e3, c1, c2, c1', c2', Tm.small]
    · have c2' : ¬ (t.depth : Int) ≤ 40 := by omega
      simp [d__law_is_term, begins, H.lgood, H.lsize, H.ldepth, e1, e2, e3, c1, c2, c1', c2', Tm.small]
  · have c1' : ¬ (t.size : Int) ≤ 600 := by omega
    simp [d__law_is_term, begins, H.lgood, H.lsize, H.ldepth, e1, e2, e3, c1, c1', Tm.small]
theorem range_cons (lo : Int) (m : Nat) : rangeList lo (m + 1) = .int lo :: rangeList (lo + 1) m := by
  unfold rangeList
  rw [List.range_succ_eq_map, List.map_cons, List.map_map]
  congr 1
  · simp
  · apply List.map_congr_left
    intro k _
    simp only [Function.comp_apply, Nat.succ_eq_add_one, Int.natCast_add, Int.natCast_one]
    congr 1
    omega
def eB : List CS := loopBody d__law_end
theorem end_loop (H : Has P) {n : Nat} {S : Store} (hn : 120 < n) : ∀ (k j : Nat) (t : Tm) (a1 a2 : Option Sl), j + k = 60 → t.tm → forGo 1 (fun σ' S' => exs (cfg P n) eB σ' S') (rangeList (j : Int) (k + 1)) [some (.val t.enc), a1, a2] S = .ret (oE (red k t)) S
  | k, j, t, a1, a2, hj, ht => by
    obtain ⟨w, ⟨s, hs, _⟩, d, sz⟩ := tm_parts ht
    have es := lstep_ok H t n S (by omega)
    rw [range_cons, forGo]
    simp only [List.set]
    cases q : stepT t with
    | none =>
      rw [q] at es
      simp only [lL, Option.toList_none, List.map_nil] at es
      have hr : red k t = some t := by cases k <;> simp only [red, q]
      have qn : cmpP .eq (.lst [] : PV) (.lst []) = some true := by
        rw [c_eq, show okd (.lst [] : PV) (.lst []) = true from by decide]
        simp [eqv, eqvs]
      rw [hr]
      have bod : exs (cfg P n) eB [some (.val t.enc), some (.val (.int (j : Int))), a2] S = .ret t.enc S := by
        simp [-c_eq, qn, eB, loopBody, d__law_end, H.lstep, es]
      rw [bod]
      rfl
    | some u =>
      rw [q] at es
      simp only [lL, Option.toList_some, List.map_cons, List.map_nil] at es
      have wu := step_wf t u q w
      have du := step_depth t u q
      have su := step_sort t u [] s q hs
      have ei := lis_term_ok H wu su (by omega) (n := n) (S := S) (by omega)
      have qn : cmpP .eq (.lst [u.enc]) (.lst []) = some false := by
        rw [c_eq, show okd (.lst [u.enc]) (.lst []) = true from by simp [okd, dat, dats, tm_dat, pd, pds]]
        simp [eqv, eqvs]
      have q6 : cmpP .eq (.int (j : Int)) (.int 60) = some (decide (j = 60)) := by
        rw [c_eq, ok_int1, if_pos rfl, eq_int1]
        congr 1
        by_cases z : j = 60
        · subst z; rfl
        · have : ¬ (j : Int) = 60 := by omega
          simp [z, this]
      cases k with
      | zero =>
        have j60 : j = 60 := by omega
        rw [decide_eq_true j60] at q6
        have bod : exs (cfg P n) eB [some (.val t.enc), some (.val (.int (j : Int))), a2] S = .ret .non S := by
          simp [-c_eq, qn, q6, eB, loopBody, d__law_end, H.lstep, es]
        rw [bod]
        simp only [red, q]
        rfl
      | succ k =>
        have j60 : ¬ j = 60 := by omega
        rw [decide_eq_false j60] at q6
        cases hu : u.isT with
        | false =>
          rw [hu] at ei
          have bod : exs (cfg P n) eB [some (.val t.enc), some (.val (.int (j : Int))), a2] S = .ret .non S := by
            simp [-c_eq, qn, q6, eB, loopBody, d__law_end, H.lstep, H.lisTerm, es, ei]
          rw [bod]
          simp only [red, q, hu]
          rfl
        | true =>
          rw [hu] at ei
          have bod : exs (cfg P n) eB [some (.val t.enc), some (.val (.int (j : Int))), a2] S = .next [some (.val u.enc), some (.val (.int (j : Int))), some (.val (.lst [u.enc]))] S := by
            simp [-c_eq, qn, q6, eB, loopBody, d__law_end, H.lstep, H.lisTerm, es, ei]
          rw [bod, SO.turn_next]
          simp only [red, q, hu, if_true]
          have := end_loop H (S := S) hn k (j + 1) u (some (.val (.int (j : Int)))) (some (.val (.lst [u.enc]))) (by omega) ⟨wu, hu⟩
          rw [Int.natCast_add, Int.natCast_one] at this
          exact this
theorem lend_ok (H : Has P) {t : Tm} (ht : t.tm) {n : Nat} {S : Store} (hn : 121 < n) : call P n "_law_end" [.val t.enc] S = .ok (oE (red 60 t)) S := by
  obtain ⟨n, rfl, hn⟩ := fuel hn
  rw [call_def H.lend _ _ _ rfl]
  have hr := range1_ok 61 (by omega) (by omega)
  have e := end_loop H (n := n) (S := S) (by omega) 60 0 t none none rfl ht
  rw [show d__law_end.body = [.for_ 1 (.range [(.int 61)]) eB, .ret .non] from rfl]
  rw [show (61 : Int).toNat = 60 + 1 from rfl] at hr
  simp only [Int.natCast_zero] at e
  generalize oE (red 60 t) = W at *
  generalize hR : rangeList 0 (60 + 1) = R at *
  simp [begins, d__law_end, hr, e]
end
end K29
end
section
set_option maxHeartbeats 1000000
namespace K29
open Ev Pg
section
variable {P : Prog}
/-! ### what the law draws -/
def foldOk (P : Prog) (ns : List Int) (d : Nat) : Prop := ∀ (n : Nat) (k : Int) (s : So) (ar : List So) (S : Store), d + 12 < n → s.dep ≤ 1 → (∀ x ∈ ar, x.dep ≤ 1) → ar.length + d ≤ 900 →
    ∃ t : Tm, call P n "_law_folded" [.val (.lst (ns.map .int)), .val (.int k), .val s.enc, .val (.lst (ar.map So.enc)), .val (.int (d : Int))] S = .ok t.enc S ∧ t.wf ∧ t.sort ar = some s ∧ t.depth ≤ 2 * d + 4
theorem atS {L : List So} {i : Int} (h0 : 0 ≤ i) (h1 : i < (L.length : Int)) : ∃ r ∈ L, atp (L.map So.enc) i = some r.enc := by
  obtain ⟨r, hr, er⟩ := atp_mem (xs := L) h0 h1
  refine ⟨r, hr, ?_⟩
  obtain ⟨z, rfl⟩ := Int.eq_ofNat_of_zero_le h0
  rw [at_nat] at er ⊢
  rw [List.getElem?_map, er]
  rfl
theorem fold_step (H : Has P) {ns : List Int} (hns : ns.length ≤ 63) : ∀ d : Nat, foldOk P ns d
  | 0, n, k, s, ar, S, hn, hs, har, hl => by
    obtain ⟨n, rfl, hn⟩ := fuel hn
    rw [call_def H.folded _ _ _ rfl]
    obtain ⟨c, e1⟩ := law_cell_ok H.p.cell hns (n := n) k (S := S) (by omega)
    obtain ⟨m, e2⟩ := law_drawn_ok H.p.drawn (n := n) c (k + 300) (S := S) (by omega)
    obtain ⟨t, e3, w1, w2, w3, _⟩ := law_part_ok H.p hns 1 n k s ar S (by omega) (by omega) (fun x hx => by have := har x hx; omega) (by omega)
    refine ⟨t, ?_, w1, w2, by omega⟩
    simp only [Int.natCast_one] at e3
    simp [d__law_folded, begins, H.p.cell, H.p.drawn, H.p.part, e1, e2, e3]
  | d + 1, n, k, s, ar, S, hn, hs, har, hl => by
    obtain ⟨n, rfl, hn⟩ := fuel hn
    rw [call_def H.folded _ _ _ rfl]
    have ih := fold_step H hns d
    obtain ⟨c, e1⟩ := law_cell_ok H.p.cell hns (n := n) k (S := S) (by omega)
    obtain ⟨m, e2⟩ := law_drawn_ok H.p.drawn (n := n) c (k + 300) (S := S) (by omega)
    have m3 : mulOk 3 k = true := mul_l (by decide) (by decide)
    have dd : ((d + 1 : Nat) : Int) - 1 = (d : Int) := by omega
    have d0 : ¬ ((d + 1 : Nat) : Int) = 0 := by omega
    have hll : ar.length + 1 ≤ 16777216 := by omega
    by_cases c1 : (m : Int) % 4 < 2
    · obtain ⟨q, hq, eq⟩ := atS (L := [.t, .i, .fn .t .t, .fn .i .i]) (i := (m : Int) / 4 % 4) (by omega) (by simp; omega)
      have hq' : q.dep ≤ 1 := by
        have : ∀ r ∈ [So.t, .i, .fn .t .t, .fn .i .i], r.dep ≤ 1 := by decide
        exact this q hq
      obtain ⟨t1, f1, v1, v2, v3⟩ := ih n (3 * k + 1) s (ar ++ [q]) S (by omega) hs (fun x hx => by
        rcases List.mem_append.mp hx with h | h
        · exact har x h
        · rw [List.mem_singleton.mp h]; exact hq') (by rw [List.length_append, List.length_singleton]; omega)
      obtain ⟨t2, f2, u1, u2, u3⟩ := ih n (3 * k + 2) q ar S (by omega) hq' har (by omega)
      rw [List.map_append, List.map_singleton] at f1
      refine ⟨.ap (.fn q t1) t2, ?_, ⟨⟨by omega, v1⟩, u1⟩, sort_ap_of (sort_fn_of v2 (by simp only [So.dep]; omega)) u2, by simp only [Tm.depth]; omega⟩
      simp only [List.map_cons, List.map_nil, So.enc] at eq
      generalize ((d + 1 : Nat) : Int) = D at *
      simp [d__law_folded, begins, H.p.cell, H.p.drawn, H.folded, e1, e2, c1, d0, dd, m3, eq, f1, f2, hll, Tm.enc]
    · cases s with
      | fn x y =>
        simp only [So.dep] at hs
        obtain ⟨t1, f1, v1, v2, v3⟩ := ih n (3 * k + 1) y (ar ++ [x]) S (by omega) (by omega) (fun z hz => by
          rcases List.mem_append.mp hz with h | h
          · exact har z h
          · rw [List.mem_singleton.mp h]; omega) (by rw [List.length_append, List.length_singleton]; omega)
        rw [List.map_append, List.map_singleton] at f1
        refine ⟨.fn x t1, ?_, ⟨by omega, v1⟩, sort_fn_of v2 (by simp only [So.dep]; omega), by simp only [Tm.depth]; omega⟩
        generalize ((d + 1 : Nat) : Int) = D at *
        simp only [So.enc]
        simp [d__law_folded, begins, H.p.cell, H.p.drawn, H.folded, e1, e2, c1, d0, dd, m3, f1, hll, Tm.enc]
      | t =>
        by_cases c2 : (m : Int) % 4 = 2
        · obtain ⟨q, hq, eq⟩ := atS (L := [.t, .i]) (i := (m : Int) / 4 % 2) (by omega) (by simp; omega)
          have hq' : q.dep = 0 := by
            have : ∀ r ∈ [So.t, .i], r.dep = 0 := by decide
            exact this q hq
          obtain ⟨t1, f1, v1, v2, v3⟩ := ih n (3 * k + 1) (.fn q .t) ar S (by omega) (by simp only [So.dep]; omega) har (by omega)
          obtain ⟨t2, f2, u1, u2, u3⟩ := ih n (3 * k + 2) q ar S (by omega) (by omega) har (by omega)
          refine ⟨.ap t1 t2, ?_, ⟨v1, u1⟩, sort_ap_of v2 u2, by simp only [Tm.depth]; omega⟩
          simp only [List.map_cons, List.map_nil, So.enc] at eq f1
          generalize ((d + 1 : Nat) : Int) = D at *
          simp only [So.enc]
          simp [d__law_folded, begins, H.p.cell, H.p.drawn, H.folded, e1, e2, c1, c2, d0, dd, m3, eq, f1, f2, Tm.enc]
        · obtain ⟨t, e3, w1, w2, w3, _⟩ := law_part_ok H.p hns 2 n k .t ar S (by omega) (by decide) (fun x hx => by have := har x hx; omega) (by omega)
          refine ⟨t, ?_, w1, w2, by omega⟩
          simp only [So.enc] at e3 ⊢
          generalize ((d + 1 : Nat) : Int) = D at *
          have e3' : call P n "_law_part" [.val (.lst (ns.map .int)), .val (.int k), .val (.str [116]), .val (.lst (ar.map So.enc)), .val (.int 2)] S = .ok t.enc S := e3
          simp [d__law_folded, begins, H.p.cell, H.p.drawn, H.p.part, e1, e2, c1, c2, d0, e3']
      | i =>
        by_cases c2 : (m : Int) % 4 = 2
        · obtain ⟨q, hq, eq⟩ := atS (L := [.t, .i]) (i := (m : Int) / 4 % 2) (by omega) (by simp; omega)
          have hq' : q.dep = 0 := by
            have : ∀ r ∈ [So.t, .i], r.dep = 0 := by decide
            exact this q hq
          obtain ⟨t1, f1, v1, v2, v3⟩ := ih n (3 * k + 1) (.fn q .i) ar S (by omega) (by simp only [So.dep]; omega) har (by omega)
          obtain ⟨t2, f2, u1, u2, u3⟩ := ih n (3 * k + 2) q ar S (by omega) (by omega) har (by omega)
          refine ⟨.ap t1 t2, ?_, ⟨v1, u1⟩, sort_ap_of v2 u2, by simp only [Tm.depth]; omega⟩
          simp only [List.map_cons, List.map_nil, So.enc] at eq f1
          generalize ((d + 1 : Nat) : Int) = D at *
          simp only [So.enc]
          simp [d__law_folded, begins, H.p.cell, H.p.drawn, H.folded, e1, e2, c1, c2, d0, dd, m3, eq, f1, f2, Tm.enc]
        · obtain ⟨t, e3, w1, w2, w3, _⟩ := law_part_ok H.p hns 2 n k .i ar S (by omega) (by decide) (fun x hx => by have := har x hx; omega) (by omega)
          refine ⟨t, ?_, w1, w2, by omega⟩
          simp only [So.enc] at e3 ⊢
          generalize ((d + 1 : Nat) : Int) = D at *
          have e3' : call P n "_law_part" [.val (.lst (ns.map .int)), .val (.int k), .val (.str [105]), .val (.lst (ar.map So.enc)), .val (.int 2)] S = .ok t.enc S := e3
          simp [d__law_folded, begins, H.p.cell, H.p.drawn, H.p.part, e1, e2, c1, c2, d0, e3']
/-! ### a term that doubles itself -/
def twice : Tm := .fn (.fn .t .t) (.fn .t (.ap (.bd 1) (.ap (.bd 1) (.bd 0))))
def dB : List CS := match d__law_doubling.body.drop 2 with
  | .for_ _ _ b :: _ => b
  | _ => []
theorem twice_sort : twice.sort [] = some (.fn (.fn .t .t) (.fn .t .t)) := by decide
theorem double_loop {n : Nat} {S : Store} {a0 : Option Sl} : ∀ (xs : List PV) (t : Tm) (a3 : Option Sl), t.wf → t.sort [] = some (.fn .t .t) → ∃ (u : Tm) (b3 : Option Sl), forGo 3 (fun σ' S' => exs (cfg P n) dB σ' S') xs [a0, some (.val twice.enc), some (.val t.enc), a3] S = .next [a0, some (.val twice.enc), some (.val u.enc), b3] S ∧ u.wf ∧ u.sort [] = some (.fn .t .t) ∧ u.depth ≤ max (t.depth + xs.length) (5 + xs.length)
  | [], t, a3, w, s => ⟨t, a3, rfl, w, s, by simp; omega⟩
  | x :: r, t, a3, w, s => by
    have tw : twice.wf := by simp [twice, Tm.wf, So.dep]
    obtain ⟨u, b3, e, w', s', d'⟩ := double_loop r (.ap twice t) (some (.val x)) ⟨tw, w⟩ (sort_ap_of twice_sort s)
    refine ⟨u, b3, ?_, w', s', ?_⟩
    · rw [← e, forGo]
      have bod : exs (cfg P n) dB [a0, some (.val twice.enc), some (.val t.enc), some (.val x)] S = .next [a0, some (.val twice.enc), some (.val (Tm.ap twice t).enc), some (.val x)] S := by
        simp only [Tm.enc]
        generalize twice.enc = TE at *
        simp [dB, d__law_doubling]
      show SO.turn (exs (cfg P n) dB [a0, some (.val twice.enc), some (.val t.enc), some (.val x)] S) _ = _
      rw [bod, SO.turn_next]
    · have dt : twice.depth = 4 := by decide
      simp only [Tm.depth, List.length_cons] at d' ⊢
      omega
theorem doubling_ok (H : Has P) (m : Int) {n : Nat} {S : Store} (hn : 0 < n) : ∃ t : Tm, call P n "_law_doubling" [.val (.int m)] S = .ok t.enc S ∧ t.wf ∧ t.sort [] = some .t ∧ t.depth ≤ 20 := by
  obtain ⟨n, rfl, hn⟩ := fuel hn
  rw [call_def H.doubling _ _ _ rfl]
  have hr := range1_ok (1 + m % 6) (by omega) (by omega)
  obtain ⟨u, b3, e, w, s, d⟩ := double_loop (P := P) (n := n) (S := S) (a0 := some (.val (.int m))) (rangeList 0 (1 + m % 6).toNat) (.fr [102] (.fn .t .t)) none (by simp [Tm.wf, So.dep]; decide) rfl
  have hl : (rangeList 0 (1 + m % 6).toNat).length ≤ 6 := by simp [rangeList]; omega
  refine ⟨.ap u (.fr [120] .t), ?_, ⟨w, by simp [Tm.wf, So.dep]; decide⟩, sort_ap_of s rfl, by simp only [Tm.depth] at d ⊢; omega⟩
  rw [show d__law_doubling.body = d__law_doubling.body.take 2 ++ [.for_ 3 (.range [(.prim (.bin .add) [(.int 1), (.prim (.bin .mod) [(.var 0), (.int 6)])])]) dB, .ret (.prim .tup [(.str [111, 102]), (.var 2), (.prim .tup [(.str [102, 114, 101, 101]), (.str [120]), (.str [116])])])] from rfl]
  have h0 : exs (cfg P n) (d__law_doubling.body.take 2) (begins d__law_doubling [.val (.int m)]) S = .next [some (.val (.int m)), some (.val twice.enc), some (.val (Tm.fr [102] (.fn .t .t)).enc), none] S := by
    simp [d__law_doubling, begins, twice, Tm.enc, So.enc]
  rw [exs_append, h0, SO.seq_next]
  generalize twice.enc = TE at *
  generalize (Tm.fr [102] (.fn .t .t)).enc = FE at *
  generalize rangeList 0 (1 + m % 6).toNat = R at *
  simp [hr, e, Tm.enc, So.enc]
end
end K29
end
section
set_option maxHeartbeats 1000000
namespace K29
open Ev Pg
def gT : Tm := .fr [103] (.fn .t (.fn .t .t))
structure Wt (D : Nat) (t : Tm) : Prop where
  w : t.wf
  s : t.sort [] = some .t
  d : t.depth ≤ D
def wC : CE := .prim (.cmp .gt) [(.prim .len [(.var 2)]), (.int 1)]
def wB : List CS := match d__law_wide.body.drop 2 with
  | .whl _ b :: _ => b
  | _ => []
def wE : CE := .prim .tup [(.str [111, 102]), (.prim .tup [(.str [111, 102]), (.var 3), (.prim .sub [(.var 2), (.var 5)])]), (.prim .sub [(.var 2), (.prim (.bin .add) [(.var 5), (.int 1)])])]
section
variable {P : Prog}
theorem lcGo_ex {α : Type} {enc : α → PV} {p : α → Prop} {f : PV → Store → Out Sl} {c : PV → Store → Out Bool} {S : Store} : ∀ (xs acc : List PV), (∀ x, c x S = .ok true S) → (∀ x ∈ xs, ∃ a, f x S = .ok (.val (enc a)) S ∧ p a) → acc.length + xs.length ≤ lim →
    ∃ ys : List α, lcGo f c xs acc S = .ok (.val (.lst (acc ++ ys.map enc))) S ∧ ys.length = xs.length ∧ ∀ a ∈ ys, p a
  | [], acc, _, _, _ => ⟨[], by simp [lcGo], rfl, fun a h => by cases h⟩
  | x :: r, acc, hc, hf, hl => by
    simp only [List.length_cons] at hl
    obtain ⟨a, f1, pa⟩ := hf x List.mem_cons_self
    obtain ⟨ys, ih, h2, h3⟩ := lcGo_ex r (acc ++ [enc a]) hc (fun y hy => hf y (List.mem_cons_of_mem _ hy)) (by rw [List.length_append, List.length_singleton]; omega)
    have hlt : acc.length < 16777216 := show acc.length < lim by omega
    refine ⟨a :: ys, ?_, by simp [h2], fun b hb => ?_⟩
    · simp [lcGo, hc x, f1, hlt, ih]
    · rcases List.mem_cons.mp hb with rfl | hb
      · exact pa
      · exact h3 b hb
theorem range2_ok (j : Int) (h1 : -1000000000 ≤ j) (h2 : j ≤ 1000000000) : rangeP [.int 0, .int j, .int 2] = some ((List.range ((j - 0 + 1) / 2).toNat).map fun (k : Nat) => PV.int (0 + (k : Int) * 2)) := by
  show (if small 0 && small j then some ((List.range ((j - 0 + 1) / 2).toNat).map fun (k : Nat) => PV.int (0 + (k : Int) * 2)) else none) = _
  rw [if_pos]
  unfold small
  simp only [Bool.and_eq_true, decide_eq_true_eq]
  exact ⟨⟨by decide, by decide⟩, h1, h2⟩
theorem atT {l : List Tm} {i : Int} (h0 : 0 ≤ i) (h1 : i < (l.length : Int)) : ∃ r ∈ l, atp (l.map Tm.enc) i = some r.enc := by
  obtain ⟨r, hr, er⟩ := atp_mem (xs := l) h0 h1
  refine ⟨r, hr, ?_⟩
  obtain ⟨z, rfl⟩ := Int.eq_ofNat_of_zero_le h0
  rw [at_nat] at er ⊢
  rw [List.getElem?_map, er]
  rfl
theorem at_last {l : List Tm} (h : 0 < l.length) : ∃ r ∈ l, atp (l.map Tm.enc) (-1) = some r.enc := by
  refine ⟨l[l.length - 1], List.getElem_mem _, ?_⟩
  unfold atp ixp
  rw [if_neg (by omega), List.length_map, if_pos (by omega), Option.bind_some]
  rw [show ((-1 : Int) + (l.length : Int)).toNat = l.length - 1 from by omega, List.getElem?_map, List.getElem?_eq_getElem (by omega)]
  rfl
theorem gT_ap {D : Nat} {a b : Tm} (ha : Wt D a) (hb : Wt D b) : Wt (D + 2) (.ap (.ap gT a) b) := by
  have h1 := ha.d
  have h2 := hb.d
  refine ⟨⟨⟨⟨by decide, by decide⟩, ha.w⟩, hb.w⟩, sort_ap_of (sort_ap_of rfl ha.s) hb.s, by simp only [Tm.depth, gT]; omega⟩
theorem wbody_ok {n : Nat} {D : Nat} {T : Store} {a0 a1 a4 a5 : Option Sl} {l : List Tm} (hl : 2 ≤ l.length) (hm : l.length ≤ 100) (hw : ∀ t ∈ l, Wt D t) :
    ∃ l' : List Tm, exs (cfg P n) wB [a0, a1, some (.val (.lst (l.map Tm.enc))), some (.val gT.enc), a4, a5] T = .next [a0, a1, some (.val (.lst (l'.map Tm.enc))), some (.val gT.enc), some (.cell T.length), a5] (T ++ [none]) ∧ l'.length = l.length / 2 + l.length % 2 ∧ ∀ t ∈ l', Wt (D + 2) t := by
  have hr := range2_ok ((l.length : Int) - 1) (by omega) (by omega)
  have hlen : lenP (.lst (l.map Tm.enc)) = some (.int (l.length : Int)) := by rw [ln_lst, List.length_map]
  obtain ⟨ys, e1, e2, e3⟩ := lcGo_ex (enc := Tm.enc) (p := Wt (D + 2)) (S := T) (f := fun x S2 => ev (cfg P n) wE ([a0, a1, some (.val (.lst (l.map Tm.enc))), some (.val gT.enc), a4, a5].set 5 (some (.val x))) S2) (c := fun x S2 => evTs (cfg P n) [] ([a0, a1, some (.val (.lst (l.map Tm.enc))), some (.val gT.enc), a4, a5].set 5 (some (.val x))) S2) ((List.range (((l.length : Int) - 1 - 0 + 1) / 2).toNat).map fun (k : Nat) => PV.int (0 + (k : Int) * 2)) [] (fun x => by simp) (fun x hx => by
    obtain ⟨k, hk, rfl⟩ := List.mem_map.mp hx
    have hk := List.mem_range.mp hk
    obtain ⟨a, ha, ea⟩ := atT (l := l) (i := 0 + (k : Int) * 2) (by omega) (by omega)
    obtain ⟨b, hb, eb⟩ := atT (l := l) (i := 0 + (k : Int) * 2 + 1) (by omega) (by omega)
    refine ⟨.ap (.ap gT a) b, ?_, gT_ap (hw a ha) (hw b hb)⟩
    generalize l.map Tm.enc = L at *
    generalize hz : 0 + (k : Int) * 2 = z at *
    simp only [Tm.enc]
    generalize gT.enc = G at *
    simp [wE, ea, eb]) (by have : lim = 16777216 := rfl; simp; omega)
  rw [List.nil_append] at e1
  have el : ev (cfg P n) (.lc 5 (.range [(.int 0), (.prim (.bin .sub) [(.prim .len [(.var 2)]), (.int 1)]), (.int 2)]) wE []) [a0, a1, some (.val (.lst (l.map Tm.enc))), some (.val gT.enc), a4, a5] T = .ok (.val (.lst (ys.map Tm.enc))) T := by
    have ei : evIt (cfg P n) (.range [(.int 0), (.prim (.bin .sub) [(.prim .len [(.var 2)]), (.int 1)]), (.int 2)]) [a0, a1, some (.val (.lst (l.map Tm.enc))), some (.val gT.enc), a4, a5] T = .ok ((List.range (((l.length : Int) - 1 - 0 + 1) / 2).toNat).map fun (k : Nat) => PV.int (0 + (k : Int) * 2)) T := by
      generalize l.map Tm.enc = L at *
      generalize ((List.range (((l.length : Int) - 1 - 0 + 1) / 2).toNat).map fun (k : Nat) => PV.int (0 + (k : Int) * 2)) = R at *
      simp [-ln_lst, hlen, hr]
    rw [e_lc, cfg_cm, if_pos rfl, ei, Out.bind_ok]
    exact e1
  have yl : ys.length = l.length / 2 := by rw [e2, List.length_map, List.length_range]; omega
  have ylt : (ys.map Tm.enc).length < 16777216 := by rw [List.length_map]; omega
  rw [show wB = [.new 4 (.lc 5 (.range [(.int 0), (.prim (.bin .sub) [(.prim .len [(.var 2)]), (.int 1)]), (.int 2)]) wE []), .ifs (.prim (.cmp .eq) [(.prim (.bin .mod) [(.prim .len [(.var 2)]), (.int 2)]), (.int 1)]) [.app 4 (.prim .sub [(.var 2), (.prim .neg [(.int 1)])])] [], .asg 2 (.mv 4)] from rfl]
  by_cases c : l.length % 2 = 1
  · have c' : (l.length : Int) % 2 = 1 := by omega
    obtain ⟨z, hz, ez⟩ := at_last (l := l) (by omega)
    refine ⟨ys ++ [z], ?_, by rw [List.length_append, List.length_singleton]; omega, fun t ht => ?_⟩
    · rw [List.map_append, List.map_singleton]
      generalize ys.map Tm.enc = Y at *
      generalize l.map Tm.enc = L at *
      generalize gT.enc = G at *
      simp [-e_lc, -ln_lst, el, hlen, c', ez, liveL, appGo, move, ylt]
    · rcases List.mem_append.mp ht with h | h
      · exact e3 t h
      · rw [List.mem_singleton.mp h]
        have := hw z hz
        exact ⟨this.w, this.s, by have := this.d; omega⟩
  · have c' : ¬ (l.length : Int) % 2 = 1 := by omega
    refine ⟨ys, ?_, by omega, e3⟩
    generalize ys.map Tm.enc = Y at *
    generalize l.map Tm.enc = L at *
    generalize gT.enc = G at *
    simp [-e_lc, -ln_lst, el, hlen, c', move]
theorem wide_loop {n : Nat} {S : Store} {a0 a1 : Option Sl} : ∀ (j f : Nat) (D : Nat) (l : List Tm) (Z : Store) (a4 a5 : Option Sl), 1 ≤ l.length → l.length ≤ 2 ^ j → j ≤ 6 → j < f → (∀ t ∈ l, Wt D t) →
    ∃ (u : Tm) (Z' : Store) (b4 b5 : Option Sl), whGo (fun σ' S' => (ev (cfg P n) wC σ' S').bind fun s S1 => truthOf s S1) (fun σ' S' => exs (cfg P n) wB σ' S') f [a0, a1, some (.val (.lst (l.map Tm.enc))), some (.val gT.enc), a4, a5] (S ++ Z) = .next [a0, a1, some (.val (.lst [u.enc])), some (.val gT.enc), b4, b5] (S ++ Z') ∧ Wt (D + 2 * j) u
  | _, 0, _, _, _, _, _, _, _, _, hf, _ => by omega
  | j, f + 1, D, l, Z, a4, a5, h1, h2, h6, hf, hw => by
    have hlen : lenP (.lst (l.map Tm.enc)) = some (.int (l.length : Int)) := by rw [ln_lst, List.length_map]
    have ec : ev (cfg P n) wC [a0, a1, some (.val (.lst (l.map Tm.enc))), some (.val gT.enc), a4, a5] (S ++ Z) = .ok (.val (.bl (decide (1 < l.length)))) (S ++ Z) := by
      generalize l.map Tm.enc = L at *
      simp [-ln_lst, wC, hlen]
      omega
    by_cases c : l.length = 1
    · match l, c with
      | [u], _ =>
        have hu := hw u (by simp)
        refine ⟨u, Z, a4, a5, ?_, ⟨hu.w, hu.s, by have := hu.d; omega⟩⟩
        simp only [List.length_singleton, Nat.lt_irrefl, decide_false] at ec
        simp only [whGo, ec, Out.bind_ok, truthOf, truth, Out.thn_ok]
        rfl
    · cases j with
      | zero => simp at h2; omega
      | succ j =>
        have p6 : 2 ^ (j + 1) ≤ 2 ^ 6 := Nat.pow_le_pow_right (by decide) h6
        obtain ⟨l', bod, l2, w2⟩ := wbody_ok (P := P) (n := n) (D := D) (T := S ++ Z) (a0 := a0) (a1 := a1) (a4 := a4) (a5 := a5) (l := l) (by omega) (by omega) hw
        rw [Nat.pow_succ] at h2
        obtain ⟨u, Z', b4, b5, ih, wu⟩ := wide_loop j f (D + 2) l' (Z ++ [none]) (some (.cell (S ++ Z).length)) a5 (by omega) (by omega) (by omega) (by omega) w2
        refine ⟨u, Z', b4, b5, ?_, ⟨wu.w, wu.s, by have := wu.d; omega⟩⟩
        rw [decide_eq_true (show 1 < l.length by omega)] at ec
        rw [← List.append_assoc] at ih
        simp only [whGo, ec, Out.bind_ok, truthOf, truth, Out.thn_ok, if_true, bod, SO.turn_next]
        exact ih
def oneT : Tm := .ap (.fn .t (.bd 0)) (.fr [120] .t)
theorem oneT_wt : Wt 2 oneT := ⟨by simp [oneT, Tm.wf, So.dep]; decide, by decide, by decide⟩
theorem wide_ok (H : Has P) (k : Nat) (hk : k < 4) (m : Int) {n : Nat} {S : Store} (hn : 0 < n) : ∃ t : Tm, call P n "_law_wide" [.val (.int (59 + (k : Int))), .val (.int m)] S = .ok t.enc S ∧ t.wf ∧ t.sort [] = some .t ∧ t.depth ≤ 30 := by
  obtain ⟨n, rfl, hn⟩ := fuel hn
  rw [call_def H.wide _ _ _ rfl]
  have rp : lrepGo [oneT.enc] (.val (.int (59 + (k : Int)))) S = .ok (.val (.lst ((List.replicate (59 + k) oneT).map Tm.enc))) S := by
    unfold lrepGo
    simp only [List.length_singleton, Nat.one_mul]
    rw [if_pos ⟨by have : lim = 16777216 := rfl; omega, by omega, by omega⟩, show (59 + (k : Int)).toNat = 59 + k from by omega, List.map_replicate]
    congr 3
    generalize 59 + k = j
    induction j with
    | zero => rfl
    | succ j ih => simp [List.replicate_succ, List.flatten_cons, ih]
  obtain ⟨u, Z', b4, b5, e, wu⟩ := wide_loop (P := P) (n := n) (S := S) (a0 := some (.val (.int (59 + (k : Int))))) (a1 := some (.val (.int m))) 6 turns 2 (List.replicate (59 + k) oneT) [] none none (by rw [List.length_replicate]; omega) (by rw [List.length_replicate]; omega) (by decide) (by unfold turns; omega) (fun t ht => by rw [(List.mem_replicate.mp ht).2]; exact oneT_wt)
  rw [List.append_nil] at e
  rw [show d__law_wide.body = d__law_wide.body.take 2 ++ (.whl wC wB :: d__law_wide.body.drop 3) from rfl]
  have h0 : exs (cfg P n) (d__law_wide.body.take 2) (begins d__law_wide [.val (.int (59 + (k : Int))), .val (.int m)]) S = .next [some (.val (.int (59 + (k : Int)))), some (.val (.int m)), some (.val (.lst ((List.replicate (59 + k) oneT).map Tm.enc))), some (.val gT.enc), none, none] S := by
    simp only [oneT, Tm.enc, So.enc] at rp
    generalize hZ : (List.replicate (59 + k) oneT).map Tm.enc = Z at *
    simp only [oneT, gT, Tm.enc, So.enc] at hZ ⊢
    rw [show ((0 : Nat) : Int) = 0 from rfl, hZ] at rp
    simp [d__law_wide, begins, rp]
  rw [exs_append, h0, SO.seq_next]
  have dw := wu.d
  by_cases c : m % 2 = 0
  · refine ⟨u, ?_, wu.w, wu.s, by omega⟩
    generalize (List.replicate (59 + k) oneT).map Tm.enc = RL at *
    generalize gT.enc = G at *
    simp [d__law_wide, e, c]
  · refine ⟨.ap (.ap (.fn .t (.fn .t (.fr [120] .t))) (.fr [121] .t)) u, ?_, ⟨by simp [Tm.wf, So.dep]; decide, wu.w⟩, sort_ap_of (x := .t) (by decide) wu.s, by simp only [Tm.depth]; omega⟩
    generalize (List.replicate (59 + k) oneT).map Tm.enc = RL at *
    generalize gT.enc = G at *
    simp [d__law_wide, e, c, Tm.enc, So.enc]
end
end K29
end
section
set_option maxHeartbeats 1000000
namespace K29
open Ev Pg
def body : List CS := loopBody d_law
def sA : List CS := body.take 4
def sB : List CS := (body.drop 4).take 1
def sC : List CS := (body.drop 5).take 3
def sD : List CS := (body.drop 8).take 1
def sE : List CS := (body.drop 9).take 2
def sF : List CS := body.drop 11
theorem body_eq : body = sA ++ (sB ++ (sC ++ (sD ++ (sE ++ sF)))) := rfl
section
variable {P : Prog}
theorem sort_eqT {ar : List So} {s : So} {a b : Tm} (hs : s.dep ≤ 3) (ha : a.sort ar = some s) (hb : b.sort ar = some s) : (eqT s a b).sort ar = some .t := by
  have h1 : (Tm.sm s).sort ar = some (.fn s (.fn s .t)) := by
    simp only [Tm.sort]
    rw [if_pos (by simp only [So.dep]; omega)]
  exact sort_ap_of (sort_ap_of h1 ha) hb
theorem lequal_ok (H : Has P) {a b : Tm} {s : So} (hs : a.sort [] = some s) (hd : a.depth ≤ 1000) {n : Nat} {S : Store} (hn : a.depth + 1 < n) : call P n "_law_equal" [.val a.enc, .val b.enc] S = .ok (eqT s a b).enc S := by
  obtain ⟨n, rfl, hn⟩ := fuel hn
  rw [call_def H.lequal _ _ _ rfl]
  have e := law_sort_ok H.lsort a n [] s S (by omega) hs (by simp; omega)
  simp only [List.map_nil] at e
  simp [d__law_equal, begins, H.lsort, e, eqT, Tm.enc, wOf, wSame]
theorem sA_raw (H : Has P) {n : Nat} {S : Store} {SC F DB W : PV} {k m c : Int} {sE : PV} (m40 : mulOk 40 k = true) (e1 : call P n "_law_cell" [.val SC, .val (.int k)] S = .ok (.int c) S) (e2 : call P n "_law_drawn" [.val (.int c), .val (.int (k + 5000))] S = .ok (.int m) S)
    (at_ : atp [PV.str [116], .str [105], .tup [.str [116], .str [116]]] (m % 3) = some sE) (e3 : call P n "_law_folded" [.val SC, .val (.int (40 * k)), .val sE, .val (.lst []), .val (.int (2 + m / 3 % 3))] S = .ok F S) (e4 : call P n "_law_doubling" [.val (.int (m / 45))] S = .ok DB S) (e5 : call P n "_law_wide" [.val (.int (59 + m / 45 % 4)), .val (.int (m / 180))] S = .ok W S) {a2 a3 a4 a5 a6 a7 : Option Sl} :
    exs (cfg P n) sA [some (.val SC), some (.val (.int k)), a2, a3, a4, a5, a6, a7] S = .next [some (.val SC), some (.val (.int k)), some (.val (.int m)), some (.val (if m / 9 % 5 = 0 then DB else if m / 9 % 5 = 1 then W else F)), a4, a5, a6, a7] S := by
  by_cases c0 : m / 9 % 5 = 0
  · have c1 : ¬ m / 9 % 5 = 1 := by omega
    simp [sA, body, loopBody, d_law, H.p.cell, H.p.drawn, H.folded, H.doubling, m40, e1, e2, at_, e3, e4, c0]
  · by_cases c1 : m / 9 % 5 = 1
    · simp [sA, body, loopBody, d_law, H.p.cell, H.p.drawn, H.folded, H.wide, m40, e1, e2, at_, e3, e5, c1]
    · simp [sA, body, loopBody, d_law, H.p.cell, H.p.drawn, H.folded, m40, e1, e2, at_, e3, c0, c1]
/-- the term that the law takes -/
theorem A_ok (H : Has P) {ns : List Int} (hns : ns.length ≤ 63) {n : Nat} (hn : 100 < n) (k : Int) (S : Store) (a2 a3 a4 a5 a6 a7 : Option Sl) :
    ∃ (m : Nat) (t : Tm) (s : So), exs (cfg P n) sA [some (.val (.lst (ns.map .int))), some (.val (.int k)), a2, a3, a4, a5, a6, a7] S = .next [some (.val (.lst (ns.map .int))), some (.val (.int k)), some (.val (.int m)), some (.val t.enc), a4, a5, a6, a7] S ∧ t.wf ∧ t.sort [] = some s ∧ s.dep ≤ 1 ∧ t.depth ≤ 40 := by
  obtain ⟨c, e1⟩ := law_cell_ok H.p.cell hns (n := n) k (S := S) (by omega)
  obtain ⟨m, e2⟩ := law_drawn_ok H.p.drawn (n := n) c (k + 5000) (S := S) (by omega)
  have m40 : mulOk 40 k = true := mul_l (by decide) (by decide)
  obtain ⟨s, hs, es⟩ := atS (L := [.t, .i, .fn .t .t]) (i := (m : Int) % 3) (by omega) (by simp; omega)
  have ds : s.dep ≤ 1 := by
    have : ∀ r ∈ [So.t, .i, .fn .t .t], r.dep ≤ 1 := by decide
    exact this s hs
  obtain ⟨d, hd⟩ := Int.eq_ofNat_of_zero_le (show 0 ≤ 2 + (m : Int) / 3 % 3 by omega)
  obtain ⟨t1, e3, w1, s1, d1⟩ := fold_step H hns d n (40 * k) s [] S (by omega) ds (by simp) (by simp; omega)
  rw [← hd, List.map_nil] at e3
  obtain ⟨t2, e4, w2, s2, d2⟩ := doubling_ok H ((m : Int) / 45) (n := n) (S := S) (by omega)
  obtain ⟨j, hj⟩ := Int.eq_ofNat_of_zero_le (show 0 ≤ (m : Int) / 45 % 4 by omega)
  obtain ⟨t3, e5, w3, s3, d3⟩ := wide_ok H j (by omega) ((m : Int) / 180) (n := n) (S := S) (by omega)
  rw [← hj] at e5
  have A := sA_raw H (n := n) (S := S) m40 e1 e2 es e3 e4 e5 (a2 := a2) (a3 := a3) (a4 := a4) (a5 := a5) (a6 := a6) (a7 := a7)
  by_cases c0 : (m : Int) / 9 % 5 = 0
  · rw [if_pos c0] at A
    exact ⟨m, t2, .t, A, w2, s2, by decide, by omega⟩
  · rw [if_neg c0] at A
    by_cases c1 : (m : Int) / 9 % 5 = 1
    · rw [if_pos c1] at A
      exact ⟨m, t3, .t, A, w3, s3, by decide, by omega⟩
    · rw [if_neg c1] at A
      exact ⟨m, t1, s, A, w1, s1, ds, by omega⟩
theorem sB_raw (H : Has P) {n : Nat} {S : Store} {T : PV} {b : Bool} (e1 : call P n "is_term" [.val T] S = .ok (.bl b) S) {a0 a1 a2 a4 a5 a6 a7 : Option Sl} : exs (cfg P n) sB [a0, a1, a2, some (.val T), a4, a5, a6, a7] S = if b then .next [a0, a1, a2, some (.val T), a4, a5, a6, a7] S else .cont [a0, a1, a2, some (.val T), a4, a5, a6, a7] S := by
  cases b <;> simp [sB, body, loopBody, d_law, H.fo.isTerm, e1]
theorem sC_raw (H : Has P) {n : Nat} {S : Store} {T D R Q : PV} (e1 : call P n "_law_end" [.val T] S = .ok D S) {a0 a1 a2 a4 a5 a6 a7 : Option Sl} (l1 : ev (cfg P n) (.lam "_law_told" (.call "reduced" [(.var 3)])) [a0, a1, a2, some (.val T), some (.val D), a5, a6, a7] S = .ok (.val R) S) (l2 : ev (cfg P n) (.lam "_law_told" (.call "reduction" [(.var 3)])) [a0, a1, a2, some (.val T), some (.val D), some (.val R), a6, a7] S = .ok (.val Q) S) :
    exs (cfg P n) sC [a0, a1, a2, some (.val T), a4, a5, a6, a7] S = .next [a0, a1, a2, some (.val T), some (.val D), some (.val R), some (.val Q), a7] S := by
  simp [-e_lam, sC, body, loopBody, d_law, H.lend, e1, l1, l2]
theorem sD_non (H : Has P) {n : Nat} {S : Store} {a0 a1 a2 a3 a7 : Option Sl} : exs (cfg P n) sD [a0, a1, a2, a3, some (.val .non), some (.val (.str [103, 114, 101, 97, 116])), some (.val (.str [103, 114, 101, 97, 116])), a7] S = .cont [a0, a1, a2, a3, some (.val .non), some (.val (.str [103, 114, 101, 97, 116])), some (.val (.str [103, 114, 101, 97, 116])), a7] S := by
  simp [-c_ne, ne_str, sD, body, loopBody, d_law]
theorem sD_some (H : Has P) {n : Nat} {S : Store} {D : PV} (h : isNon D = false) {a0 a1 a2 a3 a5 a6 a7 : Option Sl} : exs (cfg P n) sD [a0, a1, a2, a3, some (.val D), a5, a6, a7] S = .next [a0, a1, a2, a3, some (.val D), a5, a6, a7] S := by
  simp [sD, body, loopBody, d_law, h]
theorem sE_raw (H : Has P) {n : Nat} {S : Store} {T D oS C : PV} (q1 : cmpP .ne D D = some false) (e1 : call P n "sort_of" [.val D] S = .ok oS S) (e2 : call P n "sort_of" [.val T] S = .ok oS S) (q2 : cmpP .ne oS oS = some false) (e3 : call P n "reduced" [.val D] S = .ok D S) (e4 : call P n "_law_equal" [.val T, .val D] S = .ok C S) {a0 a1 a2 a6 a7 : Option Sl} :
    exs (cfg P n) sE [a0, a1, a2, some (.val T), some (.val D), some (.val D), a6, a7] S = .next [a0, a1, a2, some (.val T), some (.val D), some (.val D), a6, some (.val C)] S := by
  simp [-c_ne, K29.sE, body, loopBody, d_law, H.fo.sortOf, H.re.reduced, H.lequal, q1, q2, e1, e2, e3, e4]
theorem sF_no (H : Has P) {n : Nat} {S : Store} {C : PV} (e1 : call P n "_law_is_term" [.val C] S = .ok (.bl false) S) {a0 a1 a2 a3 a4 a5 : Option Sl} :
    exs (cfg P n) sF [a0, a1, a2, a3, a4, a5, some (.val (.str [103, 114, 101, 97, 116])), some (.val C)] S = .next [a0, a1, a2, a3, a4, a5, some (.val (.str [103, 114, 101, 97, 116])), some (.val C)] S := by
  simp [-c_ne, ne_str, sF, body, loopBody, d_law, H.lisTerm, e1]
theorem sF_yes (H : Has P) {n : Nat} {S : Store} {C Q : PV} (e1 : call P n "_law_is_term" [.val C] S = .ok (.bl true) S) (f1 : isoGo "Sentence" (.val Q) S = .ok (.val (.bl true)) S) (f2 : fldGo "Sentence" "given" (.val Q) S = .ok (.val (.tup [])) S) (f3 : fldGo "Sentence" "claim" (.val Q) S = .ok (.val C) S) (q1 : cmpP .ne (.tup []) (.tup []) = some false) (q2 : cmpP .ne C C = some false) {a0 a1 a2 a3 a4 a5 : Option Sl} :
    exs (cfg P n) sF [a0, a1, a2, a3, a4, a5, some (.val Q), some (.val C)] S = .next [a0, a1, a2, a3, a4, a5, some (.val Q), some (.val C)] S := by
  simp [-c_ne, sF, body, loopBody, d_law, H.lisTerm, H.fo.cls, e1, f1, f2, f3, q1, q2]
theorem turn_ok (H : Has P) {ns : List Int} (hns : ns.length ≤ 63) {n : Nat} (hn : 150 < n) (k : Int) (S : Store) (a2 a3 a4 a5 a6 a7 : Option Sl) :
    ∃ b2 b3 b4 b5 b6 b7, exs (cfg P n) body [some (.val (.lst (ns.map .int))), some (.val (.int k)), a2, a3, a4, a5, a6, a7] S = .next [some (.val (.lst (ns.map .int))), some (.val (.int k)), b2, b3, b4, b5, b6, b7] S ∨ exs (cfg P n) body [some (.val (.lst (ns.map .int))), some (.val (.int k)), a2, a3, a4, a5, a6, a7] S = .cont [some (.val (.lst (ns.map .int))), some (.val (.int k)), b2, b3, b4, b5, b6, b7] S := by
  obtain ⟨m, t, s, A, w, hs, ds, dt⟩ := A_ok H hns (n := n) (by omega) k S a2 a3 a4 a5 a6 a7
  have et := is_term_tm H.fo.toHasB (t := t) (n := n) (S := S) w (by omega) (by omega)
  have B := sB_raw H (n := n) (S := S) et (a0 := some (.val (.lst (ns.map .int)))) (a1 := some (.val (.int k))) (a2 := some (.val (.int m))) (a4 := a4) (a5 := a5) (a6 := a6) (a7 := a7)
  cases hT : t.isT with
  | false =>
    rw [hT] at B
    have F : exs (cfg P n) body [some (.val (.lst (ns.map .int))), some (.val (.int k)), a2, a3, a4, a5, a6, a7] S = .cont [some (.val (.lst (ns.map .int))), some (.val (.int k)), some (.val (.int m)), some (.val t.enc), a4, a5, a6, a7] S := by
      rw [body_eq, exs_append, A, SO.seq_next, exs_append, B]
      rfl
    exact ⟨_, _, _, _, _, _, .inr F⟩
  | true =>
    rw [hT, if_pos rfl] at B
    have tt : t.tm := ⟨w, hT⟩
    have e1 := lend_ok H tt (n := n) (S := S) (by omega)
    have e2 := reduced_ok H.fo.toHasB H.re tt (n := n - 2) (S := S) (by omega)
    have e3 := reduction_ok H.fo H.eq H.re H.reduction tt (n := n - 2) (S := S) (by omega)
    cases q : red 60 t with
    | none =>
      rw [q] at e1 e2
      rw [show redM t = .error .great from by unfold redM; rw [q]] at e3
      have C := sC_raw H (n := n) (S := S) (T := t.enc) (D := .non) (R := .str [103, 114, 101, 97, 116]) (Q := .str [103, 114, 101, 97, 116]) e1 (a0 := some (.val (.lst (ns.map .int)))) (a1 := some (.val (.int k))) (a2 := some (.val (.int m))) (a4 := a4) (a5 := a5) (a6 := a6) (a7 := a7) (lam_great H.to_ (by omega) (by simp [H.re.reduced, e2, rdO])) (lam_great H.to_ (by omega) (by simp [H.reduction, e3, toO]; rfl))
      have D := sD_non H (n := n) (S := S) (a0 := some (.val (.lst (ns.map .int)))) (a1 := some (.val (.int k))) (a2 := some (.val (.int m))) (a3 := some (.val t.enc)) (a7 := a7)
      have F : exs (cfg P n) body [some (.val (.lst (ns.map .int))), some (.val (.int k)), a2, a3, a4, a5, a6, a7] S = .cont [some (.val (.lst (ns.map .int))), some (.val (.int k)), some (.val (.int m)), some (.val t.enc), some (.val .non), some (.val (.str [103, 114, 101, 97, 116])), some (.val (.str [103, 114, 101, 97, 116])), a7] S := by
        rw [body_eq, exs_append, A, SO.seq_next, exs_append, B, SO.seq_next, exs_append, C, SO.seq_next, exs_append, D]
        rfl
      exact ⟨_, _, _, _, _, _, .inr F⟩
    | some u =>
      rw [q] at e1 e2
      obtain ⟨r1, r2, r3, r4⟩ := red_end 60 t u q
      have wu := r2 w
      have su := r3 s hs
      have tu : u.tm := ⟨wu, r4 hT⟩
      have du := (tm_parts tu).2.2.1
      have zu := (tm_parts tu).2.2.2
      have zt := (tm_parts tt).2.2.2
      have se : (eqT s t u).sort [] = some .t := sort_eqT (by omega) hs su
      have we : (eqT s t u).wf := wf_eqT (by omega) w wu
      have de : (eqT s t u).depth ≤ 42 := by simp only [eqT, Tm.depth]; omega
      have hm : redM t = if (eqT s t u).isT then .ok ⟨[], eqT s t u⟩ else .error .great := by
        unfold redM
        rw [q]
        simp only []
        unfold equalM
        rw [hs]
        simp only []
        unfold bnd
        cases (eqT s t u).isT <;> rfl
      have e6 := lis_term_ok H we se (by omega) (n := n) (S := S) (by omega)
      have q1 : cmpP .ne u.enc u.enc = some false := ne_tm1 wu (by omega)
      have x1 := sort_of_ok H.fo.toHasB (t := u) (n := n) (S := S) wu (by omega) (by omega)
      rw [su] at x1
      have x2 := sort_of_ok H.fo.toHasB (t := t) (n := n) (S := S) w (by omega) (by omega)
      rw [hs] at x2
      have q2 : cmpP .ne s.enc s.enc = some false := ne_so1 (by omega)
      have x3 := reduced_ok H.fo.toHasB H.re tu (n := n) (S := S) (by omega)
      rw [show red 60 u = some u from by simp only [red, r1]] at x3
      have x4 := lequal_ok H (b := u) hs (by omega) (n := n) (S := S) (by omega)
      simp only [encS] at x1 x2
      cases hE : (eqT s t u).isT with
      | false =>
        rw [hE] at hm e6
        simp only [Bool.false_eq_true, if_false] at hm
        rw [hm] at e3
        have C := sC_raw H (n := n) (S := S) (T := t.enc) (D := u.enc) (R := u.enc) (Q := .str [103, 114, 101, 97, 116]) e1 (a0 := some (.val (.lst (ns.map .int)))) (a1 := some (.val (.int k))) (a2 := some (.val (.int m))) (a4 := a4) (a5 := a5) (a6 := a6) (a7 := a7) (lam_yes H.to_ (by omega) (by simp [H.re.reduced, e2, rdO])) (lam_great H.to_ (by omega) (by simp [H.reduction, e3, toO]; rfl))
        have D := sD_some H (n := n) (S := S) (tm_isNon u) (a0 := some (.val (.lst (ns.map .int)))) (a1 := some (.val (.int k))) (a2 := some (.val (.int m))) (a3 := some (.val t.enc)) (a5 := some (.val u.enc)) (a6 := some (.val (.str [103, 114, 101, 97, 116]))) (a7 := a7)
        have E := sE_raw H (n := n) (S := S) q1 x1 x2 q2 x3 x4 (a0 := some (.val (.lst (ns.map .int)))) (a1 := some (.val (.int k))) (a2 := some (.val (.int m))) (a6 := some (.val (.str [103, 114, 101, 97, 116]))) (a7 := a7)
        have F0 := sF_no H (n := n) (S := S) e6 (a0 := some (.val (.lst (ns.map .int)))) (a1 := some (.val (.int k))) (a2 := some (.val (.int m))) (a3 := some (.val t.enc)) (a4 := some (.val u.enc)) (a5 := some (.val u.enc))
        have F : exs (cfg P n) body [some (.val (.lst (ns.map .int))), some (.val (.int k)), a2, a3, a4, a5, a6, a7] S = .next [some (.val (.lst (ns.map .int))), some (.val (.int k)), some (.val (.int m)), some (.val t.enc), some (.val u.enc), some (.val u.enc), some (.val (.str [103, 114, 101, 97, 116])), some (.val (eqT s t u).enc)] S := by
          rw [body_eq, exs_append, A, SO.seq_next, exs_append, B, SO.seq_next, exs_append, C, SO.seq_next, exs_append, D, SO.seq_next, exs_append, E, SO.seq_next, F0]
        exact ⟨_, _, _, _, _, _, .inl F⟩
      | true =>
        rw [hE] at hm e6
        rw [if_pos rfl] at hm
        rw [hm] at e3
        have C := sC_raw H (n := n) (S := S) (T := t.enc) (D := u.enc) (R := u.enc) (Q := encSn ⟨[], eqT s t u⟩) e1 (a0 := some (.val (.lst (ns.map .int)))) (a1 := some (.val (.int k))) (a2 := some (.val (.int m))) (a4 := a4) (a5 := a5) (a6 := a6) (a7 := a7) (lam_yes H.to_ (by omega) (by simp [H.re.reduced, e2, rdO])) (lam_yes H.to_ (by omega) (by simp [H.reduction, e3, toO]))
        have D := sD_some H (n := n) (S := S) (tm_isNon u) (a0 := some (.val (.lst (ns.map .int)))) (a1 := some (.val (.int k))) (a2 := some (.val (.int m))) (a3 := some (.val t.enc)) (a5 := some (.val u.enc)) (a6 := some (.val (encSn ⟨[], eqT s t u⟩))) (a7 := a7)
        have E := sE_raw H (n := n) (S := S) q1 x1 x2 q2 x3 x4 (a0 := some (.val (.lst (ns.map .int)))) (a1 := some (.val (.int k))) (a2 := some (.val (.int m))) (a6 := some (.val (encSn ⟨[], eqT s t u⟩))) (a7 := a7)
        have F0 := sF_yes H (n := n) (S := S) (Q := encSn ⟨[], eqT s t u⟩) e6 rfl rfl rfl (by rw [c_ne, show okd (.tup [] : PV) (.tup []) = true from by decide]; simp [eqv, eqvs]) (ne_tm1 we (by omega)) (a0 := some (.val (.lst (ns.map .int)))) (a1 := some (.val (.int k))) (a2 := some (.val (.int m))) (a3 := some (.val t.enc)) (a4 := some (.val u.enc)) (a5 := some (.val u.enc))
        have F : exs (cfg P n) body [some (.val (.lst (ns.map .int))), some (.val (.int k)), a2, a3, a4, a5, a6, a7] S = .next [some (.val (.lst (ns.map .int))), some (.val (.int k)), some (.val (.int m)), some (.val t.enc), some (.val u.enc), some (.val u.enc), some (.val (encSn ⟨[], eqT s t u⟩)), some (.val (eqT s t u).enc)] S := by
          rw [body_eq, exs_append, A, SO.seq_next, exs_append, B, SO.seq_next, exs_append, C, SO.seq_next, exs_append, D, SO.seq_next, exs_append, E, SO.seq_next, F0]
        exact ⟨_, _, _, _, _, _, .inl F⟩
/-- a law that goes through its script; a turn may end by continue -/
theorem law_ok (H : Has P) (hl : P.D "law" = some d_law) {ns : List Int} (hns : ns.length ≤ 63) {n : Nat} (hn : 152 < n) : ∃ S, call P n "law" [.val (.lst (ns.map .int))] [] = .ok (.bl true) S := by
  obtain ⟨n, rfl, hn⟩ := fuel hn
  rw [call_def hl _ _ _ rfl]
  have hlen : lenP (.lst (ns.map .int)) = some (.int (ns.length : Int)) := by rw [ln_lst, List.length_map]
  have hr := range1_ok (if (if (ns.length : Int) < 4 then (ns.length : Int) else 4) > 1 then (if (ns.length : Int) < 4 then (ns.length : Int) else 4) else 1) (by split <;> split <;> omega) (by split <;> split <;> omega)
  generalize (if (if (ns.length : Int) < 4 then (ns.length : Int) else 4) > 1 then (if (ns.length : Int) < 4 then (ns.length : Int) else 4) else 1).toNat = c at hr
  obtain ⟨σ, S, e, _⟩ := forGo_any (i := 1) (b := fun σ' S' => exs (cfg P n) body σ' S') (fun σ => ∃ a1 a2 a3 a4 a5 a6 a7, σ = [some (.val (.lst (ns.map .int))), a1, a2, a3, a4, a5, a6, a7]) (rangeList 0 c) (fun x hx' σ S hσ => by
    obtain ⟨a1, a2, a3, a4, a5, a6, a7, rfl⟩ := hσ
    obtain ⟨k, _, rfl⟩ := range_mem hx'
    obtain ⟨b2, b3, b4, b5, b6, b7, e⟩ := turn_ok H hns (n := n) (by omega) k S a2 a3 a4 a5 a6 a7
    exact ⟨_, S, e, _, _, _, _, _, _, _, rfl⟩) [some (.val (.lst (ns.map .int))), none, none, none, none, none, none, none] [] ⟨_, _, _, _, _, _, _, rfl⟩
  refine ⟨[], ?_⟩
  rw [show d_law.body = [.for_ 1 (.range [.prim .max2 [.int 1, .prim .min2 [.int 4, .prim .len [.var 0]]]]) body, .ret (.bl true)] from rfl, show begins d_law [.val (.lst (ns.map .int))] = [some (.val (.lst (ns.map .int))), none, none, none, none, none, none, none] from rfl]
  have e' : exs (cfg P n) [.for_ 1 (.range [.prim .max2 [.int 1, .prim .min2 [.int 4, .prim .len [.var 0]]]]) body, .ret (.bl true)] [some (.val (.lst (ns.map .int))), none, none, none, none, none, none, none] [] = .ret (.bl true) S := by
    simp only [x_cons, x_for, cfg_cm, if_true, e_range, e_cons, e_nil, e_prim, calm_max2, calm_min2, calm_len, e_int, e_var, lk_cons, Out.bind_ok, Bool.not_true, Bool.false_and, Bool.false_eq_true, if_false, p_go1, p_go2, pp_len, hlen, l_some, pp_min, mn, pp_max, mx, m_cons, m_nil, v_val, Option.map_some, hr, Out.thn_ok, e, SO.seq_next, x_ret, cfg_nw, e_bl, SO.seq_ret]
  rw [e']
  simp
end
end K29
end
namespace K29
open Ev Pg
def ld__law_told : LDef := ⟨["rule", "e"], true, "TooGreat", 1, [.ret (.prim .sub [(.prim .lst [(.str [103, 114, 101, 97, 116]), (.str [111, 116, 104, 101, 114])]), (.prim .int [(.not_ (.hot "_law_alone" 1))])])], []⟩
def tab : Tab := ⟨[⟨"sort_depth", 10, d_sort_depth⟩, ⟨"is_made", 11, d_is_made⟩, ⟨"is_sort", 12, d_is_sort⟩, ⟨"sort_text", 13, d_sort_text⟩, ⟨"is_name", 20, d_is_name⟩, ⟨"is_whole", 21, d_is_whole⟩, ⟨"good_sort", 22, d_good_sort⟩, ⟨"leaf_sort", 23, d_leaf_sort⟩, ⟨"sort_in", 24, d_sort_in⟩, ⟨"size_of", 25, d_size_of⟩, ⟨"depth_of", 26, d_depth_of⟩, ⟨"is_small", 27, d_is_small⟩, ⟨"is_term", 28, d_is_term⟩, ⟨"sort_of", 29, d_sort_of⟩, ⟨"bounded", 30, d_bounded⟩, ⟨"equality", 31, d_equality⟩, ⟨"lifted", 33, d_lifted⟩, ⟨"opened", 34, d_opened⟩, ⟨"is_fold", 35, d_is_fold⟩, ⟨"written", 37, d_written⟩, ⟨"by_text", 41, d_by_text⟩, ⟨"follows", 42, d_follows⟩, ⟨"one_step", 45, d_one_step⟩, ⟨"reduced", 46, d_reduced⟩, ⟨"reduction", 47, d_reduction⟩, ⟨"_law_cell", 49, d__law_cell⟩, ⟨"_law_drawn", 50, d__law_drawn⟩, ⟨"_law_sort_depth", 52, d__law_sort_depth⟩, ⟨"_law_some_sort", 53, d__law_some_sort⟩, ⟨"_law_leaf", 54, d__law_leaf⟩, ⟨"_law_part", 55, d__law_part⟩, ⟨"_law_sort", 56, d__law_sort⟩, ⟨"_law_size", 57, d__law_size⟩, ⟨"_law_depth", 58, d__law_depth⟩, ⟨"_law_equal", 59, d__law_equal⟩, ⟨"_law_good", 60, d__law_good⟩, ⟨"_law_is_term", 61, d__law_is_term⟩, ⟨"_law_lifted", 62, d__law_lifted⟩, ⟨"_law_opened", 63, d__law_opened⟩, ⟨"_law_step", 64, d__law_step⟩, ⟨"_law_folded", 65, d__law_folded⟩, ⟨"_law_doubling", 66, d__law_doubling⟩, ⟨"_law_wide", 67, d__law_wide⟩, ⟨"_law_end", 68, d__law_end⟩, ⟨"law", 70, d_law⟩],
  [⟨"_law_alone", 51, d__law_alone⟩],
  [("MOST_STEPS", 60), ("MOST_DEPTH", 40), ("MOST_SIZE", 600), ("MOST_GIVEN", 12), ("MOST_SORT", 5), ("MOST_NAME", 8)], [("LETTERS", "abcdefghijklmnopqrstuvwxyz"), ("FIGURES", "0123456789")], ["TooGreat"], ["TooGreat"], ["NoRule", "TooGreat", "Untrue", "BadText", "BadRow", "NoSuch", "WellError", "ValueError"],
  [], [("Sentence", 40)], [⟨"_law_told", 69, "rule", ld__law_told⟩]⟩
end K29

namespace K29
open PySem PySem.Spec PyProof.Rows L2 Ev Pg
abbrev pr : Program := (PySem.W.OpenLaw.row PySem.Challenge.rw_soundwell_k29_whole_unfolded_to_the_end).prog
theorem ok_sort_depth : EntOk pr ⟨"sort_depth", 10, d_sort_depth⟩ := ⟨⟨rfl, rfl, rfl, by decide +kernel, rfl, by decide +kernel, by decide +kernel⟩, by decide, fun _ _ _ _ _ _ us hl => match us, hl with | [_], _ => rfl, by decide +kernel⟩
theorem ok_is_made : EntOk pr ⟨"is_made", 11, d_is_made⟩ := ⟨⟨rfl, rfl, rfl, by decide +kernel, rfl, by decide +kernel, by decide +kernel⟩, by decide, fun _ _ _ _ _ _ us hl => match us, hl with | [_, _], _ => rfl, by decide +kernel⟩
theorem ok_is_sort : EntOk pr ⟨"is_sort", 12, d_is_sort⟩ := ⟨⟨rfl, rfl, rfl, by decide +kernel, rfl, by decide +kernel, by decide +kernel⟩, by decide, fun _ _ _ _ _ _ us hl => match us, hl with | [_], _ => rfl, by decide +kernel⟩
theorem ok_sort_text : EntOk pr ⟨"sort_text", 13, d_sort_text⟩ := ⟨⟨rfl, rfl, rfl, by decide +kernel, rfl, by decide +kernel, by decide +kernel⟩, by decide, fun _ _ _ _ _ _ us hl => match us, hl with | [_], _ => rfl, by decide +kernel⟩
theorem ok_is_name : EntOk pr ⟨"is_name", 20, d_is_name⟩ := ⟨⟨rfl, rfl, rfl, by decide +kernel, rfl, by decide +kernel, by decide +kernel⟩, by decide, fun _ _ _ _ _ _ us hl => match us, hl with | [_], _ => rfl, by decide +kernel⟩
theorem ok_is_whole : EntOk pr ⟨"is_whole", 21, d_is_whole⟩ := ⟨⟨rfl, rfl, rfl, by decide +kernel, rfl, by decide +kernel, by decide +kernel⟩, by decide, fun _ _ _ _ _ _ us hl => match us, hl with | [_], _ => rfl, by decide +kernel⟩
theorem ok_good_sort : EntOk pr ⟨"good_sort", 22, d_good_sort⟩ := ⟨⟨rfl, rfl, rfl, by decide +kernel, rfl, by decide +kernel, by decide +kernel⟩, by decide, fun _ _ _ _ _ _ us hl => match us, hl with | [_], _ => rfl, by decide +kernel⟩
theorem ok_leaf_sort : EntOk pr ⟨"leaf_sort", 23, d_leaf_sort⟩ := ⟨⟨rfl, rfl, rfl, by decide +kernel, rfl, by decide +kernel, by decide +kernel⟩, by decide, fun _ _ _ _ _ _ us hl => match us, hl with | [_, _], _ => rfl, by decide +kernel⟩
theorem ok_sort_in : EntOk pr ⟨"sort_in", 24, d_sort_in⟩ := ⟨⟨rfl, rfl, rfl, by decide +kernel, rfl, by decide +kernel, by decide +kernel⟩, by decide, fun _ _ _ _ _ _ us hl => match us, hl with | [_, _], _ => rfl, by decide +kernel⟩
theorem ok_size_of : EntOk pr ⟨"size_of", 25, d_size_of⟩ := ⟨⟨rfl, rfl, rfl, by decide +kernel, rfl, by decide +kernel, by decide +kernel⟩, by decide, fun _ _ _ _ _ _ us hl => match us, hl with | [_], _ => rfl, by decide +kernel⟩
theorem ok_depth_of : EntOk pr ⟨"depth_of", 26, d_depth_of⟩ := ⟨⟨rfl, rfl, rfl, by decide +kernel, rfl, by decide +kernel, by decide +kernel⟩, by decide, fun _ _ _ _ _ _ us hl => match us, hl with | [_], _ => rfl, by decide +kernel⟩
theorem ok_is_small : EntOk pr ⟨"is_small", 27, d_is_small⟩ := ⟨⟨rfl, rfl, rfl, by decide +kernel, rfl, by decide +kernel, by decide +kernel⟩, by decide, fun _ _ _ _ _ _ us hl => match us, hl with | [_], _ => rfl, by decide +kernel⟩
theorem ok_is_term : EntOk pr ⟨"is_term", 28, d_is_term⟩ := ⟨⟨rfl, rfl, rfl, by decide +kernel, rfl, by decide +kernel, by decide +kernel⟩, by decide, fun _ _ _ _ _ _ us hl => match us, hl with | [_], _ => rfl, by decide +kernel⟩
theorem ok_sort_of : EntOk pr ⟨"sort_of", 29, d_sort_of⟩ := ⟨⟨rfl, rfl, rfl, by decide +kernel, rfl, by decide +kernel, by decide +kernel⟩, by decide, fun _ _ _ _ _ _ us hl => match us, hl with | [_], _ => rfl, by decide +kernel⟩
theorem ok_bounded : EntOk pr ⟨"bounded", 30, d_bounded⟩ := ⟨⟨rfl, rfl, rfl, by decide +kernel, rfl, by decide +kernel, by decide +kernel⟩, by decide, fun _ _ _ _ _ _ us hl => match us, hl with | [_], _ => rfl, by decide +kernel⟩
theorem ok_equality : EntOk pr ⟨"equality", 31, d_equality⟩ := ⟨⟨rfl, rfl, rfl, by decide +kernel, rfl, by decide +kernel, by decide +kernel⟩, by decide, fun _ _ _ _ _ _ us hl => match us, hl with | [_, _], _ => rfl, by decide +kernel⟩
theorem ok_lifted : EntOk pr ⟨"lifted", 33, d_lifted⟩ := ⟨⟨rfl, rfl, rfl, by decide +kernel, rfl, by decide +kernel, by decide +kernel⟩, by decide, fun _ _ _ _ _ _ us hl => match us, hl with | [_, _, _], _ => rfl, by decide +kernel⟩
theorem ok_opened : EntOk pr ⟨"opened", 34, d_opened⟩ := ⟨⟨rfl, rfl, rfl, by decide +kernel, rfl, by decide +kernel, by decide +kernel⟩, by decide, fun _ _ _ _ _ _ us hl => match us, hl with | [_, _, _], _ => rfl, by decide +kernel⟩
theorem ok_is_fold : EntOk pr ⟨"is_fold", 35, d_is_fold⟩ := ⟨⟨rfl, rfl, rfl, by decide +kernel, rfl, by decide +kernel, by decide +kernel⟩, by decide, fun _ _ _ _ _ _ us hl => match us, hl with | [_], _ => rfl, by decide +kernel⟩
theorem ok_written : EntOk pr ⟨"written", 37, d_written⟩ := ⟨⟨rfl, rfl, rfl, by decide +kernel, rfl, by decide +kernel, by decide +kernel⟩, by decide, fun _ _ _ _ _ _ us hl => match us, hl with | [_], _ => rfl, by decide +kernel⟩
theorem ok_by_text : EntOk pr ⟨"by_text", 41, d_by_text⟩ := ⟨⟨rfl, rfl, rfl, by decide +kernel, rfl, by decide +kernel, by decide +kernel⟩, by decide, fun _ _ _ _ _ _ us hl => match us, hl with | [_], _ => rfl, by decide +kernel⟩
theorem ok_follows : EntOk pr ⟨"follows", 42, d_follows⟩ := ⟨⟨rfl, rfl, rfl, by decide +kernel, rfl, by decide +kernel, by decide +kernel⟩, by decide, fun _ _ _ _ _ _ us hl => match us, hl with | [_, _], _ => rfl, by decide +kernel⟩
theorem ok_one_step : EntOk pr ⟨"one_step", 45, d_one_step⟩ := ⟨⟨rfl, rfl, rfl, by decide +kernel, rfl, by decide +kernel, by decide +kernel⟩, by decide, fun _ _ _ _ _ _ us hl => match us, hl with | [_], _ => rfl, by decide +kernel⟩
theorem ok_reduced : EntOk pr ⟨"reduced", 46, d_reduced⟩ := ⟨⟨rfl, rfl, rfl, by decide +kernel, rfl, by decide +kernel, by decide +kernel⟩, by decide, fun _ _ _ _ _ _ us hl => match us, hl with | [_], _ => rfl, by decide +kernel⟩
theorem ok_reduction : EntOk pr ⟨"reduction", 47, d_reduction⟩ := ⟨⟨rfl, rfl, rfl, by decide +kernel, rfl, by decide +kernel, by decide +kernel⟩, by decide, fun _ _ _ _ _ _ us hl => match us, hl with | [_], _ => rfl, by decide +kernel⟩
theorem ok__law_cell : EntOk pr ⟨"_law_cell", 49, d__law_cell⟩ := ⟨⟨rfl, rfl, rfl, by decide +kernel, rfl, by decide +kernel, by decide +kernel⟩, by decide, fun _ _ _ _ _ _ us hl => match us, hl with | [_, _], _ => rfl, by decide +kernel⟩
theorem ok__law_drawn : EntOk pr ⟨"_law_drawn", 50, d__law_drawn⟩ := ⟨⟨rfl, rfl, rfl, by decide +kernel, rfl, by decide +kernel, by decide +kernel⟩, by decide, fun _ _ _ _ _ _ us hl => match us, hl with | [_, _], _ => rfl, by decide +kernel⟩
theorem ok__law_alone : EntOk pr ⟨"_law_alone", 51, d__law_alone⟩ := ⟨⟨rfl, rfl, rfl, by decide +kernel, rfl, by decide +kernel, by decide +kernel⟩, by decide, fun _ _ _ _ _ _ us hl => match us, hl with | [_], _ => rfl, by decide +kernel⟩
theorem ok__law_sort_depth : EntOk pr ⟨"_law_sort_depth", 52, d__law_sort_depth⟩ := ⟨⟨rfl, rfl, rfl, by decide +kernel, rfl, by decide +kernel, by decide +kernel⟩, by decide, fun _ _ _ _ _ _ us hl => match us, hl with | [_], _ => rfl, by decide +kernel⟩
theorem ok__law_some_sort : EntOk pr ⟨"_law_some_sort", 53, d__law_some_sort⟩ := ⟨⟨rfl, rfl, rfl, by decide +kernel, rfl, by decide +kernel, by decide +kernel⟩, by decide, fun _ _ _ _ _ _ us hl => match us, hl with | [_], _ => rfl, by decide +kernel⟩
theorem ok__law_leaf : EntOk pr ⟨"_law_leaf", 54, d__law_leaf⟩ := ⟨⟨rfl, rfl, rfl, by decide +kernel, rfl, by decide +kernel, by decide +kernel⟩, by decide, fun _ _ _ _ _ _ us hl => match us, hl with | [_, _], _ => rfl, by decide +kernel⟩
theorem ok__law_part : EntOk pr ⟨"_law_part", 55, d__law_part⟩ := ⟨⟨rfl, rfl, rfl, by decide +kernel, rfl, by decide +kernel, by decide +kernel⟩, by decide, fun _ _ _ _ _ _ us hl => match us, hl with | [_, _, _, _, _], _ => rfl, by decide +kernel⟩
theorem ok__law_sort : EntOk pr ⟨"_law_sort", 56, d__law_sort⟩ := ⟨⟨rfl, rfl, rfl, by decide +kernel, rfl, by decide +kernel, by decide +kernel⟩, by decide, fun _ _ _ _ _ _ us hl => match us, hl with | [_, _], _ => rfl, by decide +kernel⟩
theorem ok__law_size : EntOk pr ⟨"_law_size", 57, d__law_size⟩ := ⟨⟨rfl, rfl, rfl, by decide +kernel, rfl, by decide +kernel, by decide +kernel⟩, by decide, fun _ _ _ _ _ _ us hl => match us, hl with | [_], _ => rfl, by decide +kernel⟩
theorem ok__law_depth : EntOk pr ⟨"_law_depth", 58, d__law_depth⟩ := ⟨⟨rfl, rfl, rfl, by decide +kernel, rfl, by decide +kernel, by decide +kernel⟩, by decide, fun _ _ _ _ _ _ us hl => match us, hl with | [_], _ => rfl, by decide +kernel⟩
theorem ok__law_equal : EntOk pr ⟨"_law_equal", 59, d__law_equal⟩ := ⟨⟨rfl, rfl, rfl, by decide +kernel, rfl, by decide +kernel, by decide +kernel⟩, by decide, fun _ _ _ _ _ _ us hl => match us, hl with | [_, _], _ => rfl, by decide +kernel⟩
theorem ok__law_good : EntOk pr ⟨"_law_good", 60, d__law_good⟩ := ⟨⟨rfl, rfl, rfl, by decide +kernel, rfl, by decide +kernel, by decide +kernel⟩, by decide, fun _ _ _ _ _ _ us hl => match us, hl with | [_, _], _ => rfl, by decide +kernel⟩
theorem ok__law_is_term : EntOk pr ⟨"_law_is_term", 61, d__law_is_term⟩ := ⟨⟨rfl, rfl, rfl, by decide +kernel, rfl, by decide +kernel, by decide +kernel⟩, by decide, fun _ _ _ _ _ _ us hl => match us, hl with | [_], _ => rfl, by decide +kernel⟩
theorem ok__law_lifted : EntOk pr ⟨"_law_lifted", 62, d__law_lifted⟩ := ⟨⟨rfl, rfl, rfl, by decide +kernel, rfl, by decide +kernel, by decide +kernel⟩, by decide, fun _ _ _ _ _ _ us hl => match us, hl with | [_, _, _], _ => rfl, by decide +kernel⟩
theorem ok__law_opened : EntOk pr ⟨"_law_opened", 63, d__law_opened⟩ := ⟨⟨rfl, rfl, rfl, by decide +kernel, rfl, by decide +kernel, by decide +kernel⟩, by decide, fun _ _ _ _ _ _ us hl => match us, hl with | [_, _, _], _ => rfl, by decide +kernel⟩
theorem ok__law_step : EntOk pr ⟨"_law_step", 64, d__law_step⟩ := ⟨⟨rfl, rfl, rfl, by decide +kernel, rfl, by decide +kernel, by decide +kernel⟩, by decide, fun _ _ _ _ _ _ us hl => match us, hl with | [_], _ => rfl, by decide +kernel⟩
theorem ok__law_folded : EntOk pr ⟨"_law_folded", 65, d__law_folded⟩ := ⟨⟨rfl, rfl, rfl, by decide +kernel, rfl, by decide +kernel, by decide +kernel⟩, by decide, fun _ _ _ _ _ _ us hl => match us, hl with | [_, _, _, _, _], _ => rfl, by decide +kernel⟩
theorem ok__law_doubling : EntOk pr ⟨"_law_doubling", 66, d__law_doubling⟩ := ⟨⟨rfl, rfl, rfl, by decide +kernel, rfl, by decide +kernel, by decide +kernel⟩, by decide, fun _ _ _ _ _ _ us hl => match us, hl with | [_], _ => rfl, by decide +kernel⟩
theorem ok__law_wide : EntOk pr ⟨"_law_wide", 67, d__law_wide⟩ := ⟨⟨rfl, rfl, rfl, by decide +kernel, rfl, by decide +kernel, by decide +kernel⟩, by decide, fun _ _ _ _ _ _ us hl => match us, hl with | [_, _], _ => rfl, by decide +kernel⟩
theorem ok__law_end : EntOk pr ⟨"_law_end", 68, d__law_end⟩ := ⟨⟨rfl, rfl, rfl, by decide +kernel, rfl, by decide +kernel, by decide +kernel⟩, by decide, fun _ _ _ _ _ _ us hl => match us, hl with | [_], _ => rfl, by decide +kernel⟩
theorem ok_law : EntOk pr ⟨"law", 70, d_law⟩ := ⟨⟨rfl, rfl, rfl, by decide +kernel, rfl, by decide +kernel, by decide +kernel⟩, by decide, fun _ _ _ _ _ _ us hl => match us, hl with | [_], _ => rfl, by decide +kernel⟩
theorem oks : ∀ e ∈ tab.es ++ tab.hs, EntOk pr e := by
  intro e he
  simp only [tab, List.mem_append, List.mem_cons, List.not_mem_nil, or_false] at he
  rcases he with (rfl | rfl | rfl | rfl | rfl | rfl | rfl | rfl | rfl | rfl | rfl | rfl | rfl | rfl | rfl | rfl | rfl | rfl | rfl | rfl | rfl | rfl | rfl | rfl | rfl | rfl | rfl | rfl | rfl | rfl | rfl | rfl | rfl | rfl | rfl | rfl | rfl | rfl | rfl | rfl | rfl | rfl | rfl | rfl | rfl) | (rfl)
  · exact ok_sort_depth
  · exact ok_is_made
  · exact ok_is_sort
  · exact ok_sort_text
  · exact ok_is_name
  · exact ok_is_whole
  · exact ok_good_sort
  · exact ok_leaf_sort
  · exact ok_sort_in
  · exact ok_size_of
  · exact ok_depth_of
  · exact ok_is_small
  · exact ok_is_term
  · exact ok_sort_of
  · exact ok_bounded
  · exact ok_equality
  · exact ok_lifted
  · exact ok_opened
  · exact ok_is_fold
  · exact ok_written
  · exact ok_by_text
  · exact ok_follows
  · exact ok_one_step
  · exact ok_reduced
  · exact ok_reduction
  · exact ok__law_cell
  · exact ok__law_drawn
  · exact ok__law_sort_depth
  · exact ok__law_some_sort
  · exact ok__law_leaf
  · exact ok__law_part
  · exact ok__law_sort
  · exact ok__law_size
  · exact ok__law_depth
  · exact ok__law_equal
  · exact ok__law_good
  · exact ok__law_is_term
  · exact ok__law_lifted
  · exact ok__law_opened
  · exact ok__law_step
  · exact ok__law_folded
  · exact ok__law_doubling
  · exact ok__law_wide
  · exact ok__law_end
  · exact ok_law
  · exact ok__law_alone
theorem inis : ∀ c ∈ tab.cs, IniOk pr c := by
  intro c hc
  simp only [tab, List.mem_cons, List.not_mem_nil, or_false] at hc
  subst hc
  exact ⟨⟨rfl, rfl, rfl, by decide +kernel, rfl, by decide +kernel, by decide +kernel⟩, fun _ _ _ _ _ _ us hl => match us, hl with | [_, _, _], _ => rfl, by decide +kernel⟩
theorem lok__law_told : LEntOk pr tab ⟨"_law_told", 69, "rule", ld__law_told⟩ := ⟨by decide, ⟨rfl, rfl, rfl, by decide +kernel, rfl, by decide +kernel, by decide +kernel⟩, rfl, by decide +kernel, by decide +kernel, fun _ _ _ _ _ _ us hl => match us, hl with | [_], _ => rfl, by decide +kernel⟩
theorem loks : ∀ e ∈ tab.ls, LEntOk pr tab e := by
  intro e he
  simp only [tab, List.mem_cons, List.not_mem_nil, or_false] at he
  rcases he with rfl
  · exact lok__law_told
def loose : List PySem.Str := (["WellError", "NoRule", "TooGreat", "Untrue", "BadText", "BadRow", "NoSuch", "Sentence", "MOST_SORT", "MOST_SIZE", "MOST_DEPTH", "MOST_NAME", "LETTERS", "FIGURES", "MOST_GIVEN", "MOST_STEPS", "sort_depth", "is_made", "is_sort", "sort_text", "is_name", "is_whole", "good_sort", "leaf_sort", "sort_in", "size_of", "depth_of", "is_small", "is_term", "sort_of"] : List PySem.Str) ++ (["bounded", "equality", "lifted", "opened", "is_fold", "written", "by_text", "follows", "one_step", "reduced", "reduction", "_law_cell", "_law_drawn", "_law_alone", "_law_sort_depth", "_law_some_sort", "_law_leaf", "_law_part", "_law_sort", "_law_size", "_law_depth", "_law_equal", "_law_good", "_law_is_term", "_law_lifted", "_law_opened", "_law_step", "_law_folded", "_law_doubling", "_law_wide"] : List PySem.Str) ++ (["_law_end", "_law_told"] : List PySem.Str)
abbrev R : PySem.W.OpenRow := PySem.W.OpenLaw.row PySem.Challenge.rw_soundwell_k29_whole_unfolded_to_the_end
open HandSHeadRun PySem.W in
theorem runA (w : World) (os : OsState) : (endF (stepQ (denQ tabQ) R.prog w) 6000 R.prog w os).map (fun s => looksF R.prog (boot_heap w.params) s.abs) = some true := by
  kernel_rfl
open HandSHeadRun PySem.W in
theorem runB (w : World) (os : OsState) : (endF (stepQ (denQ tabQ) R.prog w) 6000 R.prog w os).map (fun s => seenQ (PySem.W.view R.prog [70]) loose (importedModules R.prog.main.body) (fun s => xlAt (PySem.W.view R.prog [70]) [] s && recOk R.toRowW.records s) s.abs) = some (openGood (PySem.W.view R.prog [70]) loose) := by
  kernel_rfl
open HandSHeadRun PySem.W in
theorem runC (w : World) (os : OsState) : (endF (stepQ (denQ tabQ) R.prog w) 6000 R.prog w os).map (fun s => tab.ob pr 5 s) = some ((tab.hook pr 5).val w) := by
  kernel_rfl
theorem run (w : World) : HandSHeadRun.RunEq R (PySem.W.view R.prog [70]) (tab.hook pr 5) (tab.ob pr 5) 6000 loose w := fun os => Ev.map_three (runA w os) (runB w os) (runC w os)
end K29

namespace K29
open Ev Pg
theorem has : Has tab.prog := ⟨⟨⟨⟨⟨rfl, rfl, rfl, rfl, rfl, rfl, rfl, rfl, rfl, rfl, rfl, rfl⟩, rfl, rfl, rfl, rfl, rfl, rfl⟩, rfl, rfl, rfl⟩, ⟨rfl, rfl, rfl, rfl, rfl, rfl⟩⟩, ⟨⟨⟨⟨rfl, rfl, rfl, rfl, rfl, rfl, rfl, rfl, rfl, rfl, rfl, rfl⟩, rfl, rfl, rfl, rfl, rfl, rfl⟩, rfl, rfl, rfl⟩, rfl⟩, ⟨rfl, rfl, rfl, rfl, rfl, rfl⟩, ⟨rfl, rfl, rfl, rfl, rfl, rfl⟩, ⟨rfl, rfl, rfl, by kernel_rfl⟩, rfl, rfl, rfl, rfl, rfl, rfl, rfl, rfl, rfl, rfl, rfl, rfl, rfl, rfl⟩
theorem law_true (ns : List Int) (hn : ns.length ≤ 63) : ∃ S, Ev.call tab.prog 220 "law" [.val (.lst (ns.map .int))] [] = .ok (.bl true) S := law_ok has rfl hn (by decide)
end K29

open PySem PySem.W PySem.Calls PyProof.Rows
theorem PySem.Challenge.cw_soundwell_k29_whole_unfolded_to_the_end_holds : PySem.Challenge.rw_soundwell_k29_whole_unfolded_to_the_end.Holds := by
  w_on; o_law
  refine HandSHeadRun.head_any (r := OpenLaw.row PySem.Challenge.rw_soundwell_k29_whole_unfolded_to_the_end) (q := view (OpenLaw.row PySem.Challenge.rw_soundwell_k29_whole_unfolded_to_the_end).prog [70]) (H := K29.tab.hook K29.pr 5) (ob := K29.tab.ob K29.pr 5) (M := 6000) (loose := K29.loose) (d := HandSHeadRun.topDef (OpenLaw.row PySem.Challenge.rw_soundwell_k29_whole_unfolded_to_the_end).prog 70) (kwd := []) (K29.tab.ob_eq K29.pr 5)
    (by kernel_rfl) (fun s => by kernel_rfl) K29.run (by kernel_rfl) (by kernel_rfl) (by kernel_rfl) (by rfl) (by first | assumption | decide +kernel) (by decide +kernel) ⟨rfl, rfl, rfl, rfl, rfl, by decide +kernel⟩ ?hw ?hc
  case hw => w_witness2
  case hc =>
    refine LamX.walk_ofTsE (l := PySem.Challenge.rw_soundwell_k29_whole_unfolded_to_the_end) (n := 63) (k := 220 + 2) (x := "script") (CX := fun w => L2.CX (PySem.Challenge.rw_soundwell_k29_whole_unfolded_to_the_end).prog w) rfl (by decide) (by kernel_rfl) ⟨rfl, by decide, by decide⟩ ?F (fun _ _ _ _ _ z => ?z)
    case z =>
      obtain ⟨_, _, _, _, _, _, _, _, _, _, _, _, z⟩ := z
      exact z
    case F =>
      intro w mg fa h Y G hmg0
      obtain ⟨K, KX, cx, c, tb⟩ := Y
      have hmg : mg ("law" : PySem.Str) = some (.ref fa) := by
        have e : (HandSHeadRun.topDef (OpenLaw.row PySem.Challenge.rw_soundwell_k29_whole_unfolded_to_the_end).prog 70).name = ("law" : PySem.Str) := by kernel_rfl
        rw [← e]
        exact hmg0
      exact Ev.law_ofT (x := "script") rfl K29.loks tb (by simp [K29.tab]) K29.inis K29.oks KX G c cx (d := K29.d_law) rfl rfl rfl (fun ns hn => K29.law_true ns hn) hmg

